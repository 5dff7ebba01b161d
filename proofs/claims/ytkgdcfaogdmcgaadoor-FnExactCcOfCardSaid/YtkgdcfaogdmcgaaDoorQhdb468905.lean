/- What the printed functions answer, in plain words: lemmas of this session. No condition of a statement lies here. -/
import Derived.Test.YtkgdcfaogdmcgaaDoorAllx0
import Derived.Test.YtkgdcfaogdmcgaaDoorAllx2
import Derived.Test.YtkgdcfaogdmcgaaDoorQh7abdbcf7
namespace Go.Proofs.YtkgdcfaogdmcgaaDoor.Pure
open Go.RowKit Go.Proofs.YtkgdcfaogdmcgaaDoor.All Go.Proofs.YtkgdcfaogdmcgaaDoorW.PrintWords Go.Proofs.YtkgdcfaogdmcgaaDoorW.PrintLast
set_option linter.unusedVariables false
set_option linter.unusedSimpArgs false

/-! ### NumText -/
def numT (n : Int) : ByteArray := if 0 ≤ n ∧ n ≤ 1000000 then ⟨(Lib.itoa n).toArray⟩ else ⟨#[]⟩
theorem digit_of (u : Nat) : oct ((wrap64 (48 + Int.tmod (u : Int) 10)) % 256) = UInt8.ofNat (48 + u % 10) := by
  have h : Int.tmod (u : Int) 10 = ((u % 10 : Nat) : Int) := by rw [Int.tmod_eq_emod_of_nonneg (by omega)]; omega
  rw [h, w64 (by omega), show (48 + ((u % 10 : Nat) : Int)) % 256 = ((48 + u % 10 : Nat) : Int) by omega]
  unfold oct
  rw [Int.toNat_natCast]
theorem decDigits_len (u : Nat) : ∀ d, u < 10 ^ (d + 1) → (Lib.decDigits u).length ≤ d + 1 := by
  intro d
  induction d generalizing u with
  | zero => intro h; rw [Lib.decDigits, dif_pos (by omega)]; simp
  | succ d ih =>
    intro h
    rw [Lib.decDigits]
    split
    · simp
    · have h10 : (10 : Nat) ^ (d + 1 + 1) = 10 ^ (d + 1) * 10 := rfl
      have := ih (u / 10) (by omega)
      simp only [List.length_append, List.length_cons, List.length_nil]; omega
theorem itoa_nat (u : Nat) : Lib.itoa (u : Int) = Lib.decDigits u := by
  unfold Lib.itoa; rw [if_neg (by omega), Int.toNat_natCast]
theorem numT_size (t : Int) : (numT t).size ≤ 20 := by
  unfold numT
  split
  · rename_i h
    obtain ⟨u, rfl⟩ : ∃ u : Nat, t = u := ⟨t.toNat, by omega⟩
    have hl := decDigits_len u 6 (by omega)
    rw [itoa_nat, ← B_len, B_mk (Lib.decDigits u)]; omega
  · simp [ByteArray.size]
theorem spec_NumText_l0 : ∀ (d k u : Nat) (acc : ByteArray), u < 10 ^ d → acc.size + d ≤ 1000 → u ≤ 4611686018427387904 → d < k →
    spec_NumText.l0 k (u : Int) acc = some (if u = 0 then acc else ⟨(Lib.decDigits u ++ B acc).toArray⟩) := by
  intro d
  induction d with
  | zero =>
    intro k u acc hu ha hb hk
    obtain ⟨k, rfl⟩ := succ_of hk
    obtain rfl : u = 0 := by simp at hu; omega
    simp only [spec_NumText.l0]
    rw [if_neg (by omega), if_pos trivial]
  | succ d ih =>
    intro k u acc hu ha hb hk
    obtain ⟨k, rfl⟩ := succ_of hk
    simp only [spec_NumText.l0]
    by_cases h0 : u = 0
    · rw [if_neg (by omega), if_pos h0]
    have h10 : (10 : Nat) ^ (d + 1) = 10 ^ d * 10 := rfl
    rw [if_pos (by omega), Option.bind_some, if_pos (by rw [strOfNums_size]; simp; omega), if_neg h0]
    have hdiv : wrap64 (Int.tdiv (u : Int) 10) = ((u / 10 : Nat) : Int) := by
      rw [Int.tdiv_eq_ediv_of_nonneg (by omega), w64 (by omega)]; omega
    rw [hdiv, ih k (u / 10) _ (by omega) (by rw [ByteArray.size_append, strOfNums_size]; simp; omega) (by omega) (by omega)]
    refine congrArg some ?_
    have hB : B (strOfNums [(wrap64 (48 + Int.tmod (u : Int) 10)) % 256] ++ acc) = UInt8.ofNat (48 + u % 10) :: B acc := by
      rw [B_append, B_strOf, List.map_cons, List.map_nil, digit_of]; rfl
    split
    · rename_i h1
      apply B_ext
      rw [hB, B_mk (Lib.decDigits u ++ B acc), Lib.decDigits, dif_pos (by omega), show u % 10 = u by omega]
      rfl
    · rename_i h1
      apply B_ext
      rw [hB, B_mk (Lib.decDigits (u / 10) ++ _), B_mk (Lib.decDigits u ++ B acc)]
      conv => rhs; rw [Lib.decDigits]
      rw [dif_neg (by omega), List.append_assoc]
      rfl
theorem spec_NumText_f {k : Nat} {n : Int} (hk : 30 < k) : spec_NumText.f k n = some (numT n) := by
  unfold spec_NumText.f numT
  rw [spec_l1In_f, Option.bind_some]
  by_cases h : 0 ≤ n ∧ n ≤ 1000000
  · rw [if_pos (decide_eq_true h), if_pos h]
    obtain ⟨u, rfl⟩ : ∃ u : Nat, n = u := ⟨n.toNat, by omega⟩
    rw [itoa_nat]
    by_cases h0 : u = 0
    · subst h0
      rw [if_pos (show ((0 : Nat) : Int) = 0 from rfl), Lib.decDigits, dif_pos (by omega)]; rfl
    · rw [if_neg (by omega), spec_NumText_l0 20 k u _ (by omega) (by decide) (by omega) (by omega), if_neg h0, B_empty, List.append_nil]
  · rw [if_neg (by simpa using h), if_neg h]

end Go.Proofs.YtkgdcfaogdmcgaaDoor.Pure
