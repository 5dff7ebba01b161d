/- The law FnObjects over plain values: with enough rounds it answers true, at every input within the bounds that any machine has. -/
import Derived.Test.YtjlpjbkpmmpojaaGreatDoorKO36
namespace Go.Proofs.YtjlpjbkpmmpojaaGreatDoor.Pure
open Go.RowKit Go.Proofs.YtjlpjbkpmmpojaaGreatDoor.All Go.Proofs.YtjlpjbkpmmpojaaGreatDoorW.PrintWords Go.Proofs.YtjlpjbkpmmpojaaGreatDoorW.PrintLast
set_option linter.unusedVariables false
set_option linter.unusedSimpArgs false
theorem FnObjects_j1 {k : Nat} {x : List Int} (hx : x.length ≤ 1048576) (hk : 2199042130400 < k) : laws_FnObjects.j1 k x = some true := by
 obtain ⟨k, rfl⟩ := succ_of (show 0 < k by omega)
 obtain ⟨t, e, ht⟩ := spec_DrawObjRead_f (k := k) (l := x) (by omega) (by omega)
 obtain ⟨r, e1, e2, h1, _⟩ := ObjRead_same (k1 := k) (k2 := k) (s := t) (by omega) (by omega) (by omega)
 simp only [laws_FnObjects.j1]
 rw [e, Option.bind_some, e2, Option.bind_some, e1, Option.bind_some, if_pos (by simp)]
 rcases h1 with rfl | ⟨p, vs, m, l, b, t', rfl, hr, hz⟩
 ·rw [if_neg (show ¬ rejO.2.2.2.2.2.2.2 = true by show ¬ (false = true); simp), if_pos (show rejO.1.toList = ([] : List UInt8) by show (⟨#[]⟩ : ByteArray).toList = []; rw [toList_B]; rfl)]
 ·have hB := objB_of hr hz
  obtain ⟨g1, g2, g3, g4, g5, g6, g7, g8⟩ := objB_facts hB
  have hS := fieldsB_SmallF (respB_facts g1).2.2
  have hS' : SmallF 101 l := ⟨by have := hS.1; omega, fun y hy => by have := hS.2 y hy; omega⟩
  have hn : SmallB 101 (varyF l) := varyF_small hS
  have hp := path_size g2
  have hv : SmallB 101 vs := ⟨by omega, fun v hv => by have := (val_size (g8 v hv)).2; omega⟩
  dsimp only
  rw [if_pos rfl, impl_ObjText_f (K := 101) (by omega) (by omega) hn hv hS' (by omega), Option.bind_some, hr]
  simp
theorem FnObjects : ∀ (a0 : List (Int)), (a0.length ≤ maxLen ∧ ∀ x_ ∈ a0, (Lit.int .u8 x_).wf = true) → ∃ k, laws_FnObjects.f k a0 = some true := by
 intro x _
 obtain ⟨k, hk⟩ : ∃ k, 2199042130410 < k := ⟨_, Nat.lt_succ_self _⟩
 refine ⟨k + 1, ?_⟩
 unfold laws_FnObjects.f laws_big.f
 rw [Option.bind_some]
 by_cases hb : (x.length : Int) > 1048576
 ·rw [if_pos (decide_eq_true hb)]
 rw [if_neg (by simpa using hb)]
 obtain ⟨p, ns, vs, m, fs, b, t, e, s1, s2, s3, s4⟩ := spec_DrawObjText_f (k := k + 1) (l := x) (by omega) (by omega)
 have hn1 := s2.1
 have hv1 := s3.1
 rw [e, Option.bind_some]
 dsimp only
 rw [impl_ObjText_f (K := 61) (by omega) s1 s2 s3 s4 (by omega), Option.bind_some, spec_ObjText_f (K := 61) (by omega) s1 s2 s3 s4 (by omega), Option.bind_some, if_pos rfl, impl_ObjOk_f (K := 61) (by omega) s1 s2 s3 s4 (by omega), Option.bind_some, objText_ne, show (objB p ns vs m fs b t != objB p ns vs m fs b t) = false by simp]
 simp only [laws_FnObjects.j0]
 rw [if_neg (by simp)]
 by_cases c : (objText p ns vs m fs b t).toList = []
 ·rw [if_pos c]
  exact FnObjects_j1 (by omega) (by omega)
 ·rw [if_neg c]
  have hB : objB p ns vs m fs b t = true := by rw [← objText_ne]; simpa using c
  have hz := objText_size p ns vs m fs b t
  obtain ⟨g1, g2, g3, g4, g5, g6, g7, g8⟩ := objB_facts hB
  subst g5
  obtain ⟨r, e1, e2, _, h2⟩ := ObjRead_same (k1 := k) (k2 := k) (s := objText p (varyF fs) vs m fs b t) (by omega) (by omega) (by omega)
  have h3 := h2 p vs m fs b t hB rfl
  subst h3
  rw [e2, Option.bind_some]
  dsimp only
  rw [if_pos rfl, if_pos rfl, if_pos rfl, laws_sameTexts_f (by omega) (by omega), Option.bind_some, if_pos rfl, laws_sameTexts_f (by omega) (by omega), Option.bind_some, if_pos rfl, impl_RespText_f (K := 61) (by omega) s4 (by omega), Option.bind_some, Option.bind_some, if_pos rfl]
  exact FnObjects_j1 (by omega) (by omega)
end Go.Proofs.YtjlpjbkpmmpojaaGreatDoor.Pure
