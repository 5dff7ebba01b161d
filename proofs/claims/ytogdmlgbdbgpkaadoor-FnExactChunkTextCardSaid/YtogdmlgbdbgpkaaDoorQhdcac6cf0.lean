/- What the printed functions answer, in plain words: lemmas of this session. No condition of a statement lies here. -/
import Derived.Test.YtogdmlgbdbgpkaaDoorAllx0
import Derived.Test.YtogdmlgbdbgpkaaDoorAllx2
import Derived.Test.YtogdmlgbdbgpkaaDoorQh870e5392
namespace Go.Proofs.YtogdmlgbdbgpkaaDoor.Pure
open Go.RowKit Go.Proofs.YtogdmlgbdbgpkaaDoor.All Go.Proofs.YtogdmlgbdbgpkaaDoorW.PrintWords Go.Proofs.YtogdmlgbdbgpkaaDoorW.PrintLast
set_option linter.unusedVariables false
set_option linter.unusedSimpArgs false

/-- bytes as a text -/
def Tx (l : List UInt8) : ByteArray := ⟨l.toArray⟩
theorem B_Tx (l : List UInt8) : B (Tx l) = l := B_mk l
theorem Tx_B (s : ByteArray) : Tx (B s) = s := B_ext (B_Tx _)
theorem Tx_append (a b : List UInt8) : Tx (a ++ b) = Tx a ++ Tx b := B_ext (by rw [B_append, B_Tx, B_Tx, B_Tx])
theorem Tx_inj {a b : List UInt8} (h : Tx a = Tx b) : a = b := by rw [← B_Tx a, h, B_Tx]
theorem Tx_size (l : List UInt8) : (Tx l).size = l.length := by rw [← B_len, B_Tx]
/-! ### Hex -/
def hexT (n : Int) : ByteArray := if 0 ≤ n ∧ n ≤ 1000000 then Tx (hexDs n.toNat) else ⟨#[]⟩
theorem hexD_of (u : Nat) : ∃ c, spec_l4Digit.f (Int.tmod (u : Int) 16) = some c ∧ oct c = hexD (u % 16) := by
  have h : Int.tmod (u : Int) 16 = ((u % 16 : Nat) : Int) := by rw [Int.tmod_eq_emod_of_nonneg (by omega)]; omega
  rw [h]
  unfold spec_l4Digit.f hexD
  have h16 : u % 16 < 16 := Nat.mod_lt _ (by omega)
  generalize u % 16 = d at h16
  by_cases hd : d < 10
  · rw [if_pos (by omega), if_pos hd, w64 (by omega), show (48 + (d : Int)) % 256 = ((48 + d : Nat) : Int) by omega]
    exact ⟨_, rfl, by unfold oct; rw [Int.toNat_natCast]⟩
  · rw [if_neg (by omega), if_neg hd, w64 (by omega), show (87 + (d : Int)) % 256 = ((87 + d : Nat) : Int) by omega]
    exact ⟨_, rfl, by unfold oct; rw [Int.toNat_natCast]⟩
theorem spec_Hex_l0 : ∀ (d k u : Nat) (acc : ByteArray), u < 16 ^ d → acc.size + d ≤ 1000 → u ≤ 4611686018427387904 → d < k →
    spec_Hex.l0 k (u : Int) acc = some (if u = 0 then acc else Tx (hexDs u ++ B acc)) := by
  intro d
  induction d with
  | zero =>
    intro k u acc hu ha hb hk
    obtain ⟨k, rfl⟩ := succ_of hk
    obtain rfl : u = 0 := by simp at hu; omega
    simp only [spec_Hex.l0]
    rw [if_neg (by omega), if_pos trivial]
  | succ d ih =>
    intro k u acc hu ha hb hk
    obtain ⟨k, rfl⟩ := succ_of hk
    simp only [spec_Hex.l0]
    by_cases h0 : u = 0
    · rw [if_neg (by omega), if_pos h0]
    obtain ⟨c, hc, hoc⟩ := hexD_of u
    have h16 : (16 : Nat) ^ (d + 1) = 16 ^ d * 16 := rfl
    rw [if_pos (by omega), hc, Option.bind_some, Option.bind_some, if_pos (by rw [strOfNums_size]; simp; omega), if_neg h0]
    have hdiv : wrap64 (Int.tdiv (u : Int) 16) = ((u / 16 : Nat) : Int) := by
      rw [Int.tdiv_eq_ediv_of_nonneg (by omega), w64 (by omega)]; omega
    rw [hdiv, ih k (u / 16) _ (by omega) (by rw [ByteArray.size_append, strOfNums_size]; simp; omega) (by omega) (by omega)]
    refine congrArg some ?_
    have hB : B (strOfNums [c] ++ acc) = hexD (u % 16) :: B acc := by
      rw [B_append, B_strOf, List.map_cons, List.map_nil, hoc]; rfl
    split
    · rename_i h1
      apply B_ext
      rw [hB, B_Tx, hexDs_last u _ (by omega), show u % 16 = u by omega]
    · rename_i h1
      apply B_ext
      rw [B_Tx, B_Tx, hB, hexDs_step u _ (by omega)]
theorem spec_Hex_f {k : Nat} {n : Int} (hk : 30 < k) : spec_Hex.f k n = some (hexT n) := by
  unfold spec_Hex.f hexT
  rw [spec_l1In_f, Option.bind_some]
  by_cases h : 0 ≤ n ∧ n ≤ 1000000
  · rw [if_pos (decide_eq_true h), if_pos h]
    obtain ⟨u, rfl⟩ : ∃ u : Nat, n = u := ⟨n.toNat, by omega⟩
    rw [Int.toNat_natCast]
    by_cases h0 : u = 0
    · subst h0
      rw [if_pos (show ((0 : Nat) : Int) = 0 from rfl), hexDs, dif_pos (by omega)]; rfl
    · rw [if_neg (by omega), spec_Hex_l0 20 k u _ (by omega) (by decide) (by omega) (by omega), if_neg h0, B_empty, List.append_nil]
  · rw [if_neg (by simpa using h), if_neg h]
theorem impl_Hex_f {n : Int} : impl_Hex.f n = some (hexT n) := by
  unfold impl_Hex.f hexT
  rw [impl_inRange_f, Option.bind_some]
  by_cases h : 0 ≤ n ∧ n ≤ 1000000
  · rw [if_pos (decide_eq_true h), if_pos h]
    unfold strconv_FormatInt.f
    rw [if_pos ⟨h.1, h.2, rfl⟩, Option.bind_some]
    rfl
  · rw [if_neg (by simpa using h), if_neg h]

end Go.Proofs.YtogdmlgbdbgpkaaDoor.Pure
