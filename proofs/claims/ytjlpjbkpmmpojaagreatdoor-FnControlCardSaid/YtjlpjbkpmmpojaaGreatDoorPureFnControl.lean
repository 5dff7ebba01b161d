/- The law FnControl over plain values: with enough rounds it answers true, at every input within the bounds that any machine has. -/
import Derived.Test.YtjlpjbkpmmpojaaGreatDoorAllx0
import Derived.Test.YtjlpjbkpmmpojaaGreatDoorAllx2
import Derived.Test.YtjlpjbkpmmpojaaGreatDoorAllx23
import Derived.Test.YtjlpjbkpmmpojaaGreatDoorQh0111fcb7
import Derived.Test.YtjlpjbkpmmpojaaGreatDoorQh157cdd32
import Derived.Test.YtjlpjbkpmmpojaaGreatDoorQh2f4b85a3
namespace Go.Proofs.YtjlpjbkpmmpojaaGreatDoor.Pure
open Go.RowKit Go.Proofs.YtjlpjbkpmmpojaaGreatDoor.All Go.Proofs.YtjlpjbkpmmpojaaGreatDoorW.PrintWords Go.Proofs.YtjlpjbkpmmpojaaGreatDoorW.PrintLast
set_option linter.unusedVariables false
set_option linter.unusedSimpArgs false

theorem FnControl_j0 (x : List Int) (hx : (x.length : Int) ≤ 1048576) {k : Nat} (hk : 6000001 < k) : laws_FnControl.j0 k x false = some true := by
  obtain ⟨k, rfl⟩ := succ_of (show 0 < k by omega)
  obtain ⟨v, e, hv⟩ := spec_DrawCcRead_f (k := k) (l := x) (by omega) (by omega)
  obtain ⟨r, e2, hr⟩ := spec_DrawCcOf_f (k := k) (l := x) (by omega) (by omega)
  have s11 : (⟨#[44, 32, 109, 97, 120, 45, 97, 103, 101, 61, 51]⟩ : ByteArray).size = 11 := rfl
  have hv2 : (v ++ (⟨#[44, 32, 109, 97, 120, 45, 97, 103, 101, 61, 51]⟩ : ByteArray)).size ≤ 1048576 := by rw [ByteArray.size_append, s11]; omega
  have hv3 : (v ++ (⟨#[44, 32, 109, 97, 120, 45, 97, 103, 101, 61, 51]⟩ : ByteArray)).size + 1 < k := by rw [ByteArray.size_append, s11]; omega
  simp only [laws_FnControl.j0]
  rw [if_neg (by simp), e, Option.bind_some, impl_CcRead_f (by omega) (by omega), Option.bind_some, e2, Option.bind_some, spec_CcRead_f (by omega) (by omega), Option.bind_some, if_neg (by simp), impl_CcOf_f (K := 26) (by omega) hr (by omega), Option.bind_some, spec_CcOf_f (K := 26) (by omega) hr (by omega), Option.bind_some, if_neg (by simp), if_pos (by omega), impl_CcRead_f hv2 hv3, Option.bind_some, cc_more]
  dsimp only
  cases h : (ccReadT v).2.2.2.2.1 with
  | true =>
    rw [if_pos rfl, if_pos rfl, if_pos (by omega), if_pos rfl, if_pos (by omega)]
    simp
  | false =>
    simp
theorem FnControl : ∀ (a0 : List (Int)), (a0.length ≤ maxLen ∧ ∀ x_ ∈ a0, (Lit.int .u8 x_).wf = true) → ∃ k, laws_FnControl.f k a0 = some true := by
  intro x _
  obtain ⟨k, hk⟩ : ∃ k, 7000000 < k := ⟨_, Nat.lt_succ_self _⟩
  refine ⟨k, ?_⟩
  unfold laws_FnControl.f laws_big.f
  rw [Option.bind_some]
  by_cases hb : (x.length : Int) > 1048576
  · rw [if_pos (decide_eq_true hb)]
  rw [if_neg (by simpa using hb)]
  obtain ⟨f0, f1, f2, f3, f4, n, e⟩ := spec_DrawCcText_f (k := k) (l := x) (by omega) (by omega)
  have hs := ccText_size f0 f1 f2 f3 f4 n
  have hj := FnControl_j0 x (by omega) (show 6000001 < k by omega)
  rw [e, Option.bind_some]
  dsimp only
  rw [impl_CcText_f, Option.bind_some, spec_CcText_f _ _ _ _ _ _ (by omega), Option.bind_some, if_pos rfl, impl_CcRead_f (by omega) (by omega), Option.bind_some]
  by_cases h : (ccT f0 f1 f2 f3 f4 n).toList = ([] : List UInt8)
  · rw [if_pos h]; exact hj
  · rw [if_neg h, cc_back f0 f1 f2 f3 f4 n h]
    dsimp only
    cases f4 with
    | true =>
      rw [if_pos rfl, if_neg (by simp)]; exact hj
    | false =>
      rw [if_neg (show ¬ (false = true) by simp)]
      by_cases hn : n = 0
      · subst hn
        rw [if_neg (by simp)]; exact hj
      · rw [if_pos (by simp; exact fun h => hn h.symm), if_neg (by simp), show (n == 0) = false from beq_eq_false_iff_ne.2 hn]; exact hj

end Go.Proofs.YtjlpjbkpmmpojaaGreatDoor.Pure
