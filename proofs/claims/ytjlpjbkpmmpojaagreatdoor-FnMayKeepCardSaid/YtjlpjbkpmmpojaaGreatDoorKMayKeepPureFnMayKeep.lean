/- The law FnMayKeep over plain values: with enough rounds it answers true, at every input within the bounds that any machine has. -/
import Derived.Test.YtjlpjbkpmmpojaaGreatDoorKMayKeepAllx0
import Derived.Test.YtjlpjbkpmmpojaaGreatDoorKMayKeepAllx2
import Derived.Test.YtjlpjbkpmmpojaaGreatDoorKMayKeepAllx28
import Derived.Test.YtjlpjbkpmmpojaaGreatDoorKMayKeepQh21b45a3a
import Derived.Test.YtjlpjbkpmmpojaaGreatDoorKMayKeepQh4f0ba2bd
import Derived.Test.YtjlpjbkpmmpojaaGreatDoorKMayKeepQh6e319487
import Derived.Test.YtjlpjbkpmmpojaaGreatDoorKMayKeepQh91f6506e
import Derived.Test.YtjlpjbkpmmpojaaGreatDoorKMayKeepQhc39a8f39
import Derived.Test.YtjlpjbkpmmpojaaGreatDoorKMayKeepQhd4f6af10
namespace Go.Proofs.YtjlpjbkpmmpojaaGreatDoor.Pure
open Go.RowKit Go.Proofs.YtjlpjbkpmmpojaaGreatDoor.All Go.Proofs.YtjlpjbkpmmpojaaGreatDoorW.PrintWords Go.Proofs.YtjlpjbkpmmpojaaGreatDoorW.PrintLast
set_option linter.unusedVariables false
set_option linter.unusedSimpArgs false

theorem mergeR_ok (m : Int) (l : List S116) (b : ByteArray) (r : List S116) (h : respB m l b = true) : respB m (mergeR m l b r) b = true := by
  unfold mergeR
  split
  · rename_i h2; exact h2
  · exact h
theorem mergeR_small {K : Nat} {m : Int} {l : List S116} {b : ByteArray} {r : List S116} (hl : SmallF K l) (hr : SmallF K r) : SmallF (2 * K) (mergeR m l b r) := by
  have h1 := hl.1
  have h2 := hr.1
  obtain ⟨g1, g2⟩ := mergeF_small r hr.2 l hl.2
  unfold mergeR
  split
  · exact ⟨by omega, fun x hx => by have := g2 x hx; omega⟩
  · exact ⟨by omega, fun x hx => by have := hl.2 x hx; omega⟩
theorem FnMayKeep_j0 (x : List Int) (hx : (x.length : Int) ≤ 1048576) {k : Nat} (hk : 2000000 < k) : laws_FnMayKeep.j0 k x false = some true := by
  obtain ⟨k, rfl⟩ := succ_of (show 0 < k by omega)
  obtain ⟨m, r, b, m2, r2, b2, e, hr, hr2⟩ := spec_DrawMerge_f (k := k) (l := x) (by omega) (by omega)
  have hs := mergeR_small (m := m) (b := b) hr hr2
  simp only [laws_FnMayKeep.j0]
  rw [if_neg (by simp), e, Option.bind_some]
  dsimp only
  rw [impl_Merge_f (K := 27) (by omega) hr hr2 (by omega), Option.bind_some]
  dsimp only
  rw [impl_RespText_f (K := 54) (by omega) hs (by omega), Option.bind_some, spec_Merge_f (K := 27) (by omega) hr hr2 (by omega), Option.bind_some]
  dsimp only
  rw [impl_RespText_f (K := 54) (by omega) hs (by omega), Option.bind_some, if_pos rfl, if_pos rfl, if_pos rfl, impl_RespOk_f (K := 27) (by omega) hr (by omega), Option.bind_some]
  by_cases h : respB m r b = true
  · rw [if_pos h, impl_RespOk_f (K := 54) (by omega) hs (by omega), Option.bind_some, mergeR_ok m r b r2 h]
  · rw [if_neg h]
theorem FnMayKeep : ∀ (a0 : List (Int)), (a0.length ≤ maxLen ∧ ∀ x_ ∈ a0, (Lit.int .u8 x_).wf = true) → ∃ k, laws_FnMayKeep.f k a0 = some true := by
  intro x _
  obtain ⟨k, hk⟩ : ∃ k, 9100000 < k := ⟨_, Nat.lt_succ_self _⟩
  refine ⟨k, ?_⟩
  unfold laws_FnMayKeep.f laws_big.f
  rw [Option.bind_some]
  by_cases hb : (x.length : Int) > 1048576
  · rw [if_pos (decide_eq_true hb)]
  rw [if_neg (by simpa using hb)]
  obtain ⟨m, p, q, b, st, r, rb, e, hp, hq, hbs, hr, hrb⟩ := spec_DrawMayKeep_f (k := k) (l := x) (by omega) (by omega)
  have hq' : SmallF 61 q := ⟨by have := hq.1; omega, fun y hy => by have := hq.2 y hy; omega⟩
  have hr' : SmallF 61 r := ⟨by have := hr.1; omega, fun y hy => by have := hr.2 y hy; omega⟩
  have hj := FnMayKeep_j0 x (by omega) (show 2000000 < k by omega)
  rw [e, Option.bind_some]
  dsimp only
  rw [impl_MayKeep_f (K := 61) (by omega) hp hq' hr' (by omega), Option.bind_some, spec_MayKeep_f (K := 61) (by omega) hp hq' hr' (by omega), Option.bind_some, if_neg (by simp), impl_CcOf_f (K := 61) (by omega) hq' (by omega), Option.bind_some, impl_CcOf_f (K := 61) (by omega) hr' (by omega), Option.bind_some]
  by_cases h : mayB m p q b st r rb = true
  · have h0 := h
    unfold mayB keepB at h
    simp only [Bool.and_eq_true, Bool.not_eq_true', decide_eq_true_eq] at h
    obtain ⟨h1, h2, h3, h4, h5, h6, h7, h8, h9⟩ := h
    rw [if_pos h0, if_pos h4, if_pos h3, if_neg (by rw [h5]; simp), if_neg (by rw [h6]; simp), if_neg (by rw [h7]; simp), if_pos h8, impl_ReqOk_f (K := 61) (by omega) hp hq' (by omega), Option.bind_some, if_pos h1, impl_RespOk_f (K := 61) (by omega) hr' (by omega), Option.bind_some, h2]
    exact hj
  · rw [if_neg h]; exact hj

end Go.Proofs.YtjlpjbkpmmpojaaGreatDoor.Pure
