/- What the printed functions answer, in plain words: lemmas of this session. No condition of a statement lies here. -/
import Derived.Test.YtogdmlgbdbgpkaaDoorAllx0
import Derived.Test.YtogdmlgbdbgpkaaDoorAllx17
import Derived.Test.YtogdmlgbdbgpkaaDoorAllx18
import Derived.Test.YtogdmlgbdbgpkaaDoorQh5b1878b7
import Derived.Test.YtogdmlgbdbgpkaaDoorQhae073cff
import Derived.Test.YtogdmlgbdbgpkaaDoorQhf76dce6b
namespace Go.Proofs.YtogdmlgbdbgpkaaDoor.Pure
open Go.RowKit Go.Proofs.YtogdmlgbdbgpkaaDoor.All Go.Proofs.YtogdmlgbdbgpkaaDoorW.PrintWords Go.Proofs.YtogdmlgbdbgpkaaDoorW.PrintLast
set_option linter.unusedVariables false
set_option linter.unusedSimpArgs false

theorem laws_szReq_f {k : Nat} {m : Int} {p b : ByteArray} {l : List S118} {n : Int} (hp : p.size ≤ maxLen) (hl : l.length ≤ maxLen ∧ ∀ x ∈ l, x.f0.size ≤ maxLen ∧ x.f1.size ≤ maxLen) (hb : b.size ≤ maxLen) (h0 : 0 ≤ n) (h1 : n ≤ 1048576) (hk : 1048577 < k) :
    ∃ r, laws_szReq.f k m p l b n = some r ∧ (r < 0 ∨ r ≤ n ∧ r ≤ 1048576 ∧ p.size ≤ 1048576 ∧ b.size ≤ 1048576 ∧ l.length ≤ 1048576 ∧ (∀ x ∈ l, x.f0.size ≤ 1048576 ∧ x.f1.size ≤ 1048576) ∧ r + p.size + b.size + l.length + szFS l = n) := by
  unfold maxLen at hp hb
  unfold laws_szReq.f
  rw [w64 (n := n - p.size) (by omega)]
  split
  · exact ⟨_, rfl, .inl (by omega)⟩
  · rename_i h
    rw [laws_szFieldS_f hl (by omega) (by omega) hk, Option.bind_some]
    split
    · exact ⟨_, rfl, .inl (by omega)⟩
    · rename_i h2
      obtain ⟨g1, g2, g3, g4⟩ := leftFS_nonneg h2 (by omega)
      have hr := szFS_nonneg l
      have g5 : leftFS (n - p.size) l ≤ n - p.size ∧ leftFS (n - p.size) l + l.length + szFS l = n - p.size := by
        unfold leftFS at h2 g1 ⊢; split
        · rename_i c; rw [if_pos c] at h2; omega
        · omega
      rw [w64 (by omega)]
      split
      · exact ⟨_, rfl, .inl (by omega)⟩
      · exact ⟨_, rfl, .inr ⟨by omega, by omega, by omega, by omega, g3, g4, by omega⟩⟩
theorem laws_toReq_f {k : Nat} {m : Int} {p b : ByteArray} {l : List S118} (hl : l.length ≤ 1048576) (hk : l.length < k) : laws_toReq.f k m p l b = some (m, p, l.map toF, b) := by
  unfold laws_toReq.f
  rw [laws_toFieldS_f hl hk, Option.bind_some]
theorem laws_eqReq_f {k : Nat} {m : Int} {p b : ByteArray} {l : List S78} (hl : l.length ≤ 4398046511104) (hk : l.length < k) : laws_eqReq.f k m p l b m p l b = some true := by
  unfold laws_eqReq.f
  rw [if_pos rfl, if_pos rfl, laws_eqFieldS_f hl hk, Option.bind_some, if_pos rfl, if_pos rfl]
def pathB (s : ByteArray) : Bool := decide (1 ≤ s.size ∧ s.size ≤ 60) && (decide (bt s 0 = 47) && fromB 33 s)
theorem spec_l3Path_l0 (s : ByteArray) (hs : (s.size : Int) ≤ 4611686018427387904) : ∀ (d k i : Nat), s.size = i + d → d < k →
    spec_l3Path.l0 k s i = some (fromD 33 ((B s).drop i) && (decide (1 ≤ s.size ∧ s.size ≤ 60) && decide (bt s 0 = 47))) := by
  intro d
  induction d with
  | zero =>
    intro k i hd hk
    obtain ⟨k, rfl⟩ := succ_of (show 0 < k by omega)
    simp only [spec_l3Path.l0]
    rw [if_neg (by omega), spec_l1In_f, Option.bind_some, List.drop_eq_nil_of_le (by rw [B_len]; omega), show (1 : Int) = ((1 : Nat) : Int) from rfl, show (60 : Int) = ((60 : Nat) : Int) from rfl, in_range]
    by_cases h : 1 ≤ s.size ∧ s.size ≤ 60
    · rw [if_pos (decide_eq_true h), if_pos (by omega), decide_eq_true h]
      refine congrArg some ?_
      rw [Bool.eq_iff_iff]; simp [fromD]
    · rw [if_neg (by simpa using h), decide_eq_false h]; simp
  | succ d ih =>
    intro k i hd hk
    obtain ⟨k, rfl⟩ := succ_of (show 0 < k by omega)
    have hl : i < (B s).length := by rw [B_len]; omega
    simp only [spec_l3Path.l0]
    rw [if_pos (by omega), if_pos (by omega), bt_get s i hl, nat_round (n := s.size) (by omega) (by omega), drop_at hl]
    unfold fromD
    rw [List.all_cons]
    by_cases h1 : ((B s)[i].toNat : Int) < 33
    · rw [if_pos h1, decide_eq_false (by omega)]; simp
    · rw [if_neg h1]
      by_cases h2 : ((B s)[i].toNat : Int) > 126
      · rw [if_pos h2, decide_eq_false (by omega)]; simp
      · rw [if_neg h2, decide_eq_true (by omega), Bool.true_and, ih k (i + 1) (by omega) (by omega)]; rfl
theorem spec_l3Path_f {k : Nat} {s : ByteArray} (hs : (s.size : Int) ≤ 4611686018427387904) (hk : s.size < k) : spec_l3Path.f k s = some (pathB s) := by
  unfold spec_l3Path.f
  rw [show (0 : Int) = ((0 : Nat) : Int) from rfl, spec_l3Path_l0 s hs s.size k 0 (by omega) (by omega), List.drop_zero]
  unfold pathB
  refine congrArg some ?_
  show (fromB 33 s && _) = _
  cases fromB 33 s <;> simp
theorem impl_pathOk_f {k : Nat} {s : ByteArray} (hs : (s.size : Int) ≤ 4611686018427387904) (hk : s.size < k) : impl_pathOk.f k s = some (pathB s) := by
  unfold impl_pathOk.f pathB
  rw [impl_inRange_f, Option.bind_some, show (1 : Int) = ((1 : Nat) : Int) from rfl, show (60 : Int) = ((60 : Nat) : Int) from rfl, in_range]
  by_cases h : 1 ≤ s.size ∧ s.size ≤ 60
  · rw [if_pos (decide_eq_true h), if_pos (by omega), decide_eq_true h, Bool.true_and]
    by_cases h2 : bt s 0 = 47
    · rw [if_pos h2, impl_areFrom_f hs hk, Option.bind_some, decide_eq_true h2, Bool.true_and]
    · rw [if_neg h2, decide_eq_false h2, Bool.false_and]
  · rw [if_neg (by simpa using h), decide_eq_false h]; simp
def reqB (m : Int) (p : ByteArray) (l : List S78) (b : ByteArray) : Bool := decide (1 ≤ m ∧ m ≤ 4) && (pathB p && (decide (b.size ≤ 120) && fieldsB l))
theorem spec_ReqOk_f {k K : Nat} {m : Int} {p : ByteArray} {l : List S78} {b : ByteArray} (hK : K < 4398046511104) (hp : p.size ≤ K) (hl : SmallF K l) (hk : 5 * K + 4 < k) : spec_ReqOk.f k m p l b = some (reqB m p l b) := by
  unfold spec_ReqOk.f reqB
  rw [spec_l1In_f, Option.bind_some]
  by_cases h : 1 ≤ m ∧ m ≤ 4
  · rw [if_pos (decide_eq_true h), decide_eq_true h, spec_l3Path_f (by omega) (by omega), Option.bind_some]
    cases pathB p
    · rfl
    rw [if_pos rfl, spec_FieldsOk_f hK hl hk, Option.bind_some, le120]
    cases fieldsB l <;> simp
  · rw [if_neg (by simpa using h), decide_eq_false h]; rfl
theorem impl_ReqOk_f {k K : Nat} {m : Int} {p : ByteArray} {l : List S78} {b : ByteArray} (hK : K < 4398046511104) (hp : p.size ≤ K) (hl : SmallF K l) (hk : 5 * K + 4 < k) : impl_ReqOk.f k m p l b = some (reqB m p l b) := by
  unfold impl_ReqOk.f reqB
  rw [impl_inRange_f, Option.bind_some]
  by_cases h : 1 ≤ m ∧ m ≤ 4
  · rw [if_pos (decide_eq_true h), decide_eq_true h, impl_pathOk_f (by omega) (by omega), Option.bind_some]
    cases pathB p
    · rfl
    rw [if_pos rfl]
    by_cases h2 : b.size ≤ 120
    · rw [if_pos (by omega), impl_FieldsOk_f hK hl hk, Option.bind_some, decide_eq_true h2]; rfl
    · rw [if_neg (by omega), decide_eq_false h2]; rfl
  · rw [if_neg (by simpa using h), decide_eq_false h]; rfl

end Go.Proofs.YtogdmlgbdbgpkaaDoor.Pure
