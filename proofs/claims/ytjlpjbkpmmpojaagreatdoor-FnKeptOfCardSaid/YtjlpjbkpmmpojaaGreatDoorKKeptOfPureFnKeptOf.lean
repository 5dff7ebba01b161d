/- The law FnKeptOf over plain values: with enough rounds it answers true, at every input within the bounds that any machine has. -/
import Derived.Test.YtjlpjbkpmmpojaaGreatDoorKKeptOfAllx0
import Derived.Test.YtjlpjbkpmmpojaaGreatDoorKKeptOfAllx2
import Derived.Test.YtjlpjbkpmmpojaaGreatDoorKKeptOfAllx40
import Derived.Test.YtjlpjbkpmmpojaaGreatDoorKKeptOfQh21b45a3a
import Derived.Test.YtjlpjbkpmmpojaaGreatDoorKKeptOfQh4ed3949c
import Derived.Test.YtjlpjbkpmmpojaaGreatDoorKKeptOfQh7c28969f
import Derived.Test.YtjlpjbkpmmpojaaGreatDoorKKeptOfQhaa973049
import Derived.Test.YtjlpjbkpmmpojaaGreatDoorKKeptOfQhc39a8f39
import Derived.Test.YtjlpjbkpmmpojaaGreatDoorKKeptOfQhd4f6af10
import Derived.Test.YtjlpjbkpmmpojaaGreatDoorKKeptOfQhf44be94c
namespace Go.Proofs.YtjlpjbkpmmpojaaGreatDoor.Pure
open Go.RowKit Go.Proofs.YtjlpjbkpmmpojaaGreatDoor.All Go.Proofs.YtjlpjbkpmmpojaaGreatDoorW.PrintWords Go.Proofs.YtjlpjbkpmmpojaaGreatDoorW.PrintLast
set_option linter.unusedVariables false
set_option linter.unusedSimpArgs false

theorem FnKeptOf : ∀ (a0 : List (Int)), (a0.length ≤ maxLen ∧ ∀ x_ ∈ a0, (Lit.int .u8 x_).wf = true) → ∃ k, laws_FnKeptOf.f k a0 = some true := by
  intro x _
  obtain ⟨k, hk⟩ : ∃ k, 9400000 < k := ⟨_, Nat.lt_succ_self _⟩
  refine ⟨k, ?_⟩
  unfold laws_FnKeptOf.f laws_big.f
  rw [Option.bind_some]
  by_cases hb : (x.length : Int) > 1048576
  · rw [if_pos (decide_eq_true hb)]
  rw [if_neg (by simpa using hb)]
  obtain ⟨m, p, q, b, st, r, rb, t, e, hp, hq, hr⟩ := spec_DrawObjOf_f (k := k) (l := x) (by omega) (by omega)
  have hql := hq.1
  rw [e, Option.bind_some]
  dsimp only
  rw [impl_ObjOf_f (K := 61) (by omega) (by omega) hp hq hr (by omega), Option.bind_some, spec_ObjOf_f (K := 61) (by omega) (by omega) hp hq hr (by omega), Option.bind_some, if_neg (by simp)]
  rcases objOfR_or m p q b st r rb t with ho | ⟨ho1, ho2, ho⟩
  · rw [ho, if_neg (show ¬ (rejO.2.2.2.2.2.2.2 = true) by show ¬ (false = true); simp)]
    show some ((⟨#[]⟩ : ByteArray).toList == ([] : List UInt8)) = some true
    rw [toList_B]; rfl
  · have hn := namesB_small (K := 61) (by omega) (mayB_facts ho1).2.2.2.2
    have hnl := hn.1
    have hv := valuesF_small (K := 61) (by omega) hn.1 hq
    have htok : ∀ y ∈ varyF r, tokB y = true := (objB_facts ho2).2.2.2.2.2.2.1
    rw [ho]
    dsimp only
    rw [if_pos rfl, impl_MayKeep_f (K := 61) (by omega) hp hq hr (by omega), Option.bind_some, if_pos ho1, impl_ObjOk_f (K := 61) (by omega) hp hn hv hr (by omega), Option.bind_some, if_pos ho2, impl_Suits_f (by omega) (by omega) (by omega), Option.bind_some]
    rw [show suitsF (varyF r) (valuesF q (varyF r)) q = true by unfold suitsF; rw [if_neg (by rw [hasB_star htok]; simp)]; simp, if_pos rfl, if_pos rfl, if_pos rfl, impl_RespText_f (K := 61) (by omega) hr (by omega), Option.bind_some, Option.bind_some]
    simp

end Go.Proofs.YtjlpjbkpmmpojaaGreatDoor.Pure
