/- What the printed functions answer, in plain words: lemmas of this session. No condition of a statement lies here. -/
import Derived.Test.YtjlpjbkpmmpojaaGreatDoorKHitsAllx0
import Derived.Test.YtjlpjbkpmmpojaaGreatDoorKHitsAllx6
import Derived.Test.YtjlpjbkpmmpojaaGreatDoorKHitsQh738eabfc
import Derived.Test.YtjlpjbkpmmpojaaGreatDoorKHitsQh9b113787
import Derived.Test.YtjlpjbkpmmpojaaGreatDoorKHitsQhaa973049
import Derived.Test.YtjlpjbkpmmpojaaGreatDoorKHitsQhc39a8f39
import Derived.Test.YtjlpjbkpmmpojaaGreatDoorKHitsQhd4f6af10
import Derived.Test.YtjlpjbkpmmpojaaGreatDoorKHitsQhf44be94c
namespace Go.Proofs.YtjlpjbkpmmpojaaGreatDoor.Pure
open Go.RowKit Go.Proofs.YtjlpjbkpmmpojaaGreatDoor.All Go.Proofs.YtjlpjbkpmmpojaaGreatDoorW.PrintWords Go.Proofs.YtjlpjbkpmmpojaaGreatDoorW.PrintLast
set_option linter.unusedVariables false
set_option linter.unusedSimpArgs false

def skipI (j : Int) : Nat → List S116 → List S116
  | _, [] => []
  | i, x :: r => if (i : Int) = j then skipI j (i + 1) r else x :: skipI j (i + 1) r
theorem skipI_past (j : Int) : ∀ (l : List S116) (i : Nat), j < i → skipI j i l = l
  | [], _, _ => rfl
  | x :: r, i, h => by rw [skipI, if_neg (by omega), skipI_past j r (i + 1) (by omega)]
theorem skipI_at : ∀ (l : List S116) (i m : Nat), skipI ((i + m : Nat) : Int) i l = l.eraseIdx m
  | [], _, _ => rfl
  | x :: r, i, 0 => by rw [skipI, if_pos (by omega), skipI_past _ r _ (by omega)]; rfl
  | x :: r, i, m + 1 => by
    rw [skipI, if_neg (by omega), List.eraseIdx_cons_succ, ← skipI_at r (i + 1) m]
    rw [show i + (m + 1) = i + 1 + m by omega]
theorem spec_Drop_l0 (l : List S116) (j : Int) (hl : l.length < 4398046511104) : ∀ (d k i : Nat) (acc : List S116), l.length - i = d → i ≤ l.length → acc.length ≤ i → d < k →
    spec_Drop.l0 k l j acc i = some (acc ++ skipI j i (l.drop i)) := by
  intro d
  induction d with
  | zero =>
    intro k i acc hd hi ha hk
    obtain ⟨k, rfl⟩ := succ_of hk
    simp only [spec_Drop.l0]
    rw [if_neg (by omega), List.drop_eq_nil_of_le (by omega), skipI, List.append_nil]
  | succ d ih =>
    intro k i acc hd hi ha hk
    obtain ⟨k, rfl⟩ := succ_of hk
    have hlt : i < l.length := by omega
    simp only [spec_Drop.l0]
    rw [if_pos (by omega), rd_F l i hlt, nat_round (n := l.length) hlt (by omega), drop_at hlt, skipI]
    by_cases h : (i : Int) = j
    · rw [if_pos h, if_pos h, ih k (i + 1) acc (by omega) (by omega) (by omega) (by omega)]
    · rw [if_neg h, if_neg h, if_pos (by omega), if_pos (by omega), ih k (i + 1) _ (by omega) (by omega) (by simp; omega) (by omega), List.append_assoc]
      rfl
theorem spec_Drop_f {k : Nat} {l : List S116} {n : ByteArray} (hl : l.length < 4398046511104) (hk : l.length < k) : spec_Drop.f k l n = some (dropF n l) := by
  unfold spec_Drop.f
  rw [spec_l2At_f (by omega) hk, Option.bind_some, show (0 : Int) = ((0 : Nat) : Int) from rfl, spec_Drop_l0 l _ hl l.length k 0 [] (by omega) (by omega) (by simp) hk, List.nil_append, List.drop_zero]
  rcases at_cases n n l 0 with ⟨h1, _, _, h4⟩ | ⟨j, hj, h1, _, _, _, h4⟩
  · rw [h1, h4, skipI_past _ _ _ (by omega)]
  · rw [h1, h4, skipI_at]
theorem spec_l7DrawTime_f (l : List Int) (i h : Int) (h0 : 0 ≤ i) (hl : (l.length : Int) ≤ 4611686018427387904) (hi : i ≤ l.length) : ∃ v i' h', spec_l7DrawTime.f l i h = some (v, i', h') ∧ (-9223372036854775808 ≤ v ∧ v ≤ 9223372036854775807) ∧ 0 ≤ i' ∧ i' ≤ l.length := by
  unfold spec_l7DrawTime.f
  obtain ⟨v, i1, h1, e, i10, i11⟩ := spec_l1Once_f l i h 15 h0 hl hi
  rw [e, Option.bind_some]
  dsimp only
  split
  · obtain ⟨t, i2, h2, e2, ht, i20, i21⟩ := spec_l1PickInt_f l i1 h1 [(-1), 1000000, 1000001, 9223372036854775807, (-9223372036854775808)] i10 hl i11 (by decide)
    rw [e2, Option.bind_some]
    refine ⟨_, _, _, rfl, ?_, i20, i21⟩
    simp only [List.mem_cons, List.mem_nil_iff, or_false] at ht
    rcases ht with rfl | rfl | rfl | rfl | rfl <;> exact ⟨by dsimp only; omega, by dsimp only; omega⟩
  · obtain ⟨d, i2, h2, e2, d0, d1, _, i20, i21⟩ := spec_l1Below_f l i1 h1 40 i10 hl i11
    rw [e2, Option.bind_some]
    have := d1 (by omega)
    exact ⟨_, _, _, rfl, ⟨by dsimp only; omega, by dsimp only; omega⟩, i20, i21⟩
theorem dropF_sub (n : ByteArray) : ∀ l : List S116, (dropF n l).Sublist l
  | [] => List.Sublist.refl _
  | x :: r => by
    rw [dropF]
    split
    · exact List.sublist_cons_self x r
    · exact (dropF_sub n r).cons_cons x
theorem dropF_SmallF {K : Nat} {n : ByteArray} {l : List S116} (h : SmallF K l) : SmallF K (dropF n l) :=
  ⟨Nat.le_trans (dropF_length n l) h.1, fun x hx => h.2 x ((dropF_sub n l).mem hx)⟩
theorem objOfR_or (m : Int) (p : ByteArray) (q : List S116) (b : ByteArray) (st : Int) (l : List S116) (rb : ByteArray) (t : Int) : objOfR m p q b st l rb t = rejO ∨ mayB m p q b st l rb = true ∧ objB p (varyF l) (valuesF q (varyF l)) st l rb t = true ∧ objOfR m p q b st l rb t = (p, varyF l, valuesF q (varyF l), st, l, rb, t, true) := by
  unfold objOfR
  by_cases h : mayB m p q b st l rb = true
  · rw [if_pos h]
    by_cases h2 : objB p (varyF l) (valuesF q (varyF l)) st l rb t = true
    · rw [if_pos h2]; exact .inr ⟨h, h2, rfl⟩
    · rw [if_neg h2]; exact .inl rfl
  · rw [if_neg h]; exact .inl rfl

end Go.Proofs.YtjlpjbkpmmpojaaGreatDoor.Pure
