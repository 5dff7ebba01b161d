/- What the printed functions answer, in plain words: lemmas of this session. No condition of a statement lies here. -/
import Derived.Test.YtjlpjbkpmmpojaaGreatDoorKHitsAllx0
import Derived.Test.YtjlpjbkpmmpojaaGreatDoorKHitsAllx19
import Derived.Test.YtjlpjbkpmmpojaaGreatDoorKHitsAllx8
import Derived.Test.YtjlpjbkpmmpojaaGreatDoorKHitsAllx9
import Derived.Test.YtjlpjbkpmmpojaaGreatDoorKHitsQhd4f6af10
namespace Go.Proofs.YtjlpjbkpmmpojaaGreatDoor.Pure
open Go.RowKit Go.Proofs.YtjlpjbkpmmpojaaGreatDoor.All Go.Proofs.YtjlpjbkpmmpojaaGreatDoorW.PrintWords Go.Proofs.YtjlpjbkpmmpojaaGreatDoorW.PrintLast
set_option linter.unusedVariables false
set_option linter.unusedSimpArgs false

def pathB (s : ByteArray) : Bool := decide (1 ≤ s.size ∧ s.size ≤ 60) && (decide (bt s 0 = 47) && fromB 33 s)
theorem spec_l3Path_l0 (s : ByteArray) (hs : (s.size : Int) ≤ 4611686018427387904) : ∀ (d k i : Nat), s.size = i + d → d < k →
    spec_l3Path.l0 k s i = some (fromD 33 ((B s).drop i) && (decide (1 ≤ s.size ∧ s.size ≤ 60) && decide (bt s 0 = 47))) := by
  intro d
  induction d with
  | zero =>
    intro k i hd hk
    obtain ⟨k, rfl⟩ := succ_of (show 0 < k by omega)
    simp only [spec_l3Path.l0]
    rw [if_neg (by omega), spec_l1In_f, Option.bind_some, List.drop_eq_nil_of_le (by rw [B_len]; omega), show (1 : Int) = ((1 : Nat) : Int) from rfl, show (60 : Int) = ((60 : Nat) : Int) from rfl, in_range]
    by_cases h : 1 ≤ s.size ∧ s.size ≤ 60
    · rw [if_pos (decide_eq_true h), if_pos (by omega), decide_eq_true h]
      refine congrArg some ?_
      rw [Bool.eq_iff_iff]; simp [fromD]
    · rw [if_neg (by simpa using h), decide_eq_false h]; simp
  | succ d ih =>
    intro k i hd hk
    obtain ⟨k, rfl⟩ := succ_of (show 0 < k by omega)
    have hl : i < (B s).length := by rw [B_len]; omega
    simp only [spec_l3Path.l0]
    rw [if_pos (by omega), if_pos (by omega), bt_get s i hl, nat_round (n := s.size) (by omega) (by omega), drop_at hl]
    unfold fromD
    rw [List.all_cons]
    by_cases h1 : ((B s)[i].toNat : Int) < 33
    · rw [if_pos h1, decide_eq_false (by omega)]; simp
    · rw [if_neg h1]
      by_cases h2 : ((B s)[i].toNat : Int) > 126
      · rw [if_pos h2, decide_eq_false (by omega)]; simp
      · rw [if_neg h2, decide_eq_true (by omega), Bool.true_and, ih k (i + 1) (by omega) (by omega)]; rfl
theorem spec_l3Path_f {k : Nat} {s : ByteArray} (hs : (s.size : Int) ≤ 4611686018427387904) (hk : s.size < k) : spec_l3Path.f k s = some (pathB s) := by
  unfold spec_l3Path.f
  rw [show (0 : Int) = ((0 : Nat) : Int) from rfl, spec_l3Path_l0 s hs s.size k 0 (by omega) (by omega), List.drop_zero]
  unfold pathB
  refine congrArg some ?_
  show (fromB 33 s && _) = _
  cases fromB 33 s <;> simp
theorem impl_pathOk_f {k : Nat} {s : ByteArray} (hs : (s.size : Int) ≤ 4611686018427387904) (hk : s.size < k) : impl_pathOk.f k s = some (pathB s) := by
  unfold impl_pathOk.f pathB
  rw [impl_inRange_f, Option.bind_some, show (1 : Int) = ((1 : Nat) : Int) from rfl, show (60 : Int) = ((60 : Nat) : Int) from rfl, in_range]
  by_cases h : 1 ≤ s.size ∧ s.size ≤ 60
  · rw [if_pos (decide_eq_true h), if_pos (by omega), decide_eq_true h, Bool.true_and]
    by_cases h2 : bt s 0 = 47
    · rw [if_pos h2, impl_areFrom_f hs hk, Option.bind_some, decide_eq_true h2, Bool.true_and]
    · rw [if_neg h2, decide_eq_false h2, Bool.false_and]
  · rw [if_neg (by simpa using h), decide_eq_false h]; simp
theorem le120 (b : ByteArray) : decide ((b.size : Int) ≤ 120) = decide (b.size ≤ 120) := decide_eq_decide.2 (by omega)
def respB (m : Int) (l : List S116) (b : ByteArray) : Bool := decide (100 ≤ m ∧ m ≤ 599) && (decide (b.size ≤ 120) && fieldsB l)
theorem spec_RespOk_f {k K : Nat} {m : Int} {l : List S116} {b : ByteArray} (hK : K < 4398046511104) (hl : SmallF K l) (hk : 5 * K + 4 < k) : spec_RespOk.f k m l b = some (respB m l b) := by
  unfold spec_RespOk.f respB
  rw [spec_l1In_f, Option.bind_some]
  by_cases h : 100 ≤ m ∧ m ≤ 599
  · rw [if_pos (decide_eq_true h), decide_eq_true h, spec_FieldsOk_f hK hl hk, Option.bind_some, le120]
    cases fieldsB l <;> simp
  · rw [if_neg (by simpa using h), decide_eq_false h]; rfl
theorem impl_RespOk_f {k K : Nat} {m : Int} {l : List S116} {b : ByteArray} (hK : K < 4398046511104) (hl : SmallF K l) (hk : 5 * K + 4 < k) : impl_RespOk.f k m l b = some (respB m l b) := by
  unfold impl_RespOk.f respB
  rw [impl_inRange_f, Option.bind_some]
  by_cases h : 100 ≤ m ∧ m ≤ 599
  · rw [if_pos (decide_eq_true h), decide_eq_true h]
    by_cases h2 : b.size ≤ 120
    · rw [if_pos (by omega), impl_FieldsOk_f hK hl hk, Option.bind_some, decide_eq_true h2]; rfl
    · rw [if_neg (by omega), decide_eq_false h2]; rfl
  · rw [if_neg (by simpa using h), decide_eq_false h]; rfl
theorem lowB_size (s : ByteArray) : (lowB s).size = s.size := by rw [← B_len, B_lowB, List.length_map, B_len]
/-! ### what right fields are like; texts of messages -/
theorem tok_size {s : ByteArray} (h : tokB s = true) : 1 ≤ s.size ∧ s.size ≤ 20 := by
  unfold tokB at h
  rw [Bool.and_eq_true] at h
  exact of_decide_eq_true h.2
/-- a list of texts of at most K of anything -/
def SmallB (K : Nat) (l : List ByteArray) : Prop := l.length ≤ K ∧ ∀ x ∈ l, x.size ≤ K
def namesB (l : List ByteArray) : Bool := l.all tokB && decide (l.length ≤ 4)
theorem names_l0 (K : Nat) (hK : K ≤ 4000000) (l : List ByteArray) (hl : SmallB K l) : ∀ (d k i : Nat), l.length = i + d → d + K < k →
    spec_l9Names.l0 k l i = some ((l.drop i).all tokB && decide (l.length ≤ 4)) ∧ impl_namesOk.l0 k l l (l.length : Int) i = some ((l.drop i).all tokB && decide (l.length ≤ 4)) := by
  obtain ⟨hn, hx⟩ := hl
  have h4 : decide ((l.length : Int) ≤ 4) = decide (l.length ≤ 4) := decide_eq_decide.2 (by omega)
  intro d
  induction d with
  | zero =>
    intro k i hd hk
    obtain ⟨k, rfl⟩ := succ_of (show 0 < k by omega)
    simp only [spec_l9Names.l0, impl_namesOk.l0]
    rw [if_neg (by omega), if_neg (by omega), List.drop_eq_nil_of_le (by omega), h4]
    exact ⟨rfl, rfl⟩
  | succ d ih =>
    intro k i hd hk
    obtain ⟨k, rfl⟩ := succ_of (show 0 < k by omega)
    have hlt : i < l.length := by omega
    have hs := hx _ (List.getElem_mem hlt)
    obtain ⟨i1, i2⟩ := ih k (i + 1) (by omega) (by omega)
    simp only [spec_l9Names.l0, impl_namesOk.l0]
    rw [rd_B l i hlt, nat_round (n := l.length) hlt (by omega), drop_at hlt, List.all_cons]
    refine ⟨?_, ?_⟩
    · rw [if_pos (by omega), if_pos (by omega), spec_TokenOk_f (by omega) (by omega), Option.bind_some]
      cases tokB l[i]
      · rfl
      · rw [if_pos rfl, i1]; rfl
    · rw [if_pos (by omega), if_pos (by omega), if_pos (by omega), impl_TokenOk_f (by omega) (by omega), Option.bind_some]
      cases tokB l[i]
      · rfl
      · rw [if_pos rfl, i2]; rfl
theorem spec_l9Names_f {k K : Nat} {l : List ByteArray} (hK : K ≤ 4000000) (hl : SmallB K l) (hk : 2 * K < k) : spec_l9Names.f k l = some (namesB l) := by
  have := (names_l0 K hK l hl l.length k 0 (by omega) (by have := hl.1; omega)).1
  simpa [spec_l9Names.f, namesB] using this
theorem impl_namesOk_f {k K : Nat} {l : List ByteArray} (hK : K ≤ 4000000) (hl : SmallB K l) (hk : 2 * K < k) : impl_namesOk.f k l = some (namesB l) := by
  have := (names_l0 K hK l hl l.length k 0 (by omega) (by have := hl.1; omega)).2
  simpa [impl_namesOk.f, namesB] using this
theorem varyF_small {K : Nat} {l : List S116} (hl : SmallF K l) : SmallB (K + 1) (varyF l) := by
  refine ⟨varyF_len hl.2, fun x hx => ?_⟩
  unfold varyF at hx
  obtain ⟨y, hy, rfl⟩ := List.mem_map.1 hx
  have h1 := splitT_small _ y hy
  have h2 : ((getF ⟨#[118, 97, 114, 121]⟩ l).getD ⟨#[]⟩).size ≤ K := getF_small hl.2
  rw [lowB_size]; omega

end Go.Proofs.YtjlpjbkpmmpojaaGreatDoor.Pure
