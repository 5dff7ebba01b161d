/- The law FnRequests over plain values: with enough rounds it answers true, at every input within the bounds that any machine has. -/
import Derived.Test.YtnmanegjgidgcaaGreatDoorAllx0
import Derived.Test.YtnmanegjgidgcaaGreatDoorAllx13
import Derived.Test.YtnmanegjgidgcaaGreatDoorAllx6
import Derived.Test.YtnmanegjgidgcaaGreatDoorQh7c3308a0
import Derived.Test.YtnmanegjgidgcaaGreatDoorQhe0a6f4eb
import Derived.Test.YtnmanegjgidgcaaGreatDoorQhf78647d4
namespace Go.Proofs.YtnmanegjgidgcaaGreatDoor.Pure
open Go.RowKit Go.Proofs.YtnmanegjgidgcaaGreatDoor.All Go.Proofs.YtnmanegjgidgcaaGreatDoorW.PrintWords Go.Proofs.YtnmanegjgidgcaaGreatDoorW.PrintLast
set_option linter.unusedVariables false
set_option linter.unusedSimpArgs false

theorem FnRequests_j1 {k : Nat} {x : List Int} (hx : x.length ≤ 1048576) (hk : 2199042130100 < k) : laws_FnRequests.j1 k x = some true := by
  obtain ⟨k, rfl⟩ := succ_of (show 0 < k by omega)
  obtain ⟨t, e, ht⟩ := spec_DrawReqRead_f (k := k) (l := x) (by omega) (by omega)
  obtain ⟨r, e1, e2, h1, _⟩ := ReqRead_same (k1 := k) (k2 := k) (s := t) (by omega) (by omega) (by omega)
  simp only [laws_FnRequests.j1]
  rw [e, Option.bind_some, e2, Option.bind_some, e1, Option.bind_some, if_pos (by simp)]
  rcases h1 with rfl | ⟨m, p, l, b, rfl, hr, hz, _⟩
  · rw [if_neg (show ¬ rejQ.2.2.2.2 = true by show ¬ (false = true); simp), if_pos (show rejQ.1 = 0 from rfl)]
  · have hq := reqB_of hr hz
    have hS := fieldsB_SmallF (reqB_facts hq).2.2.2
    have hp := (path_size (reqB_facts hq).2.1).2
    dsimp only
    rw [if_pos rfl, impl_ReqText_f (K := 100) (by omega) (by omega) hS (by omega), Option.bind_some, hr, if_pos rfl, impl_ReqOk_f (K := 100) (by omega) (by omega) hS (by omega), Option.bind_some, hq]
theorem FnRequests : ∀ (a0 : List (Int)), (a0.length ≤ maxLen ∧ ∀ x_ ∈ a0, (Lit.int .u8 x_).wf = true) → ∃ k, laws_FnRequests.f k a0 = some true := by
  intro x _
  obtain ⟨k, hk⟩ : ∃ k, 2199042130100 < k := ⟨_, Nat.lt_succ_self _⟩
  refine ⟨k + 1, ?_⟩
  unfold laws_FnRequests.f laws_big.f
  rw [Option.bind_some]
  by_cases hb : (x.length : Int) > 1048576
  · rw [if_pos (decide_eq_true hb)]
  rw [if_neg (by simpa using hb)]
  obtain ⟨m, p, q, b, e, hp, hq, _⟩ := spec_DrawReqText_f (k := k + 1) (l := x) (by omega) (by omega)
  have hp' : p.size ≤ 61 := hp
  have hq' : SmallF 61 q := ⟨by have := hq.1; omega, fun y hy => by have := hq.2 y hy; omega⟩
  have hq1 := hq.1
  rw [e, Option.bind_some]
  dsimp only
  rw [impl_ReqText_f (K := 61) (by omega) hp' hq' (by omega), Option.bind_some, spec_ReqText_f (K := 61) (by omega) hp' hq' (by omega), Option.bind_some, if_pos rfl, impl_ReqOk_f (K := 61) (by omega) hp' hq' (by omega), Option.bind_some, reqText_ne, show (reqB m p q b != reqB m p q b) = false by simp]
  simp only [laws_FnRequests.j0]
  rw [if_neg (by simp)]
  by_cases c : (reqText m p q b).toList = []
  · rw [if_pos c]
    exact FnRequests_j1 (by omega) hk
  · rw [if_neg c]
    have hB : reqB m p q b = true := by rw [← reqText_ne]; simpa using c
    have hz := reqText_size m p q b
    obtain ⟨r, e1, e2, _, h2⟩ := ReqRead_same (k1 := k) (k2 := k) (s := reqText m p q b) (by omega) (by omega) (by omega)
    have h3 := h2 m p q b hB rfl
    subst h3
    rw [e2, Option.bind_some]
    dsimp only
    rw [if_pos rfl, if_pos rfl, if_pos rfl, if_pos rfl, laws_sameFields_f (by omega) (by omega), Option.bind_some, if_pos rfl]
    exact FnRequests_j1 (by omega) hk

end Go.Proofs.YtnmanegjgidgcaaGreatDoor.Pure
