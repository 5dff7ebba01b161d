/- The law FnExactObjRead over plain values: with enough rounds it answers true, at every input within the bounds that any machine has. -/
import Derived.Test.YtjlpjbkpmmpojaaGreatDoorAllx0
import Derived.Test.YtjlpjbkpmmpojaaGreatDoorAllx31
import Derived.Test.YtjlpjbkpmmpojaaGreatDoorAllx32
import Derived.Test.YtjlpjbkpmmpojaaGreatDoorAllx35
import Derived.Test.YtjlpjbkpmmpojaaGreatDoorQh8b9afb84
import Derived.Test.YtjlpjbkpmmpojaaGreatDoorQh9e1d5814
import Derived.Test.YtjlpjbkpmmpojaaGreatDoorQha32f7def
import Derived.Test.YtjlpjbkpmmpojaaGreatDoorQhf91f36e4
namespace Go.Proofs.YtjlpjbkpmmpojaaGreatDoor.Pure
open Go.RowKit Go.Proofs.YtjlpjbkpmmpojaaGreatDoor.All Go.Proofs.YtjlpjbkpmmpojaaGreatDoorW.PrintWords Go.Proofs.YtjlpjbkpmmpojaaGreatDoorW.PrintLast
set_option linter.unusedVariables false
set_option linter.unusedSimpArgs false

theorem FnExactObjRead : ∀ (a0 : ByteArray), (a0.size ≤ maxLen) → ∃ k, laws_FnExactObjRead.f k a0 = some true := by
  intro s _
  obtain ⟨k, hk⟩ : ∃ k, 2199042130400 < k := ⟨_, Nat.lt_succ_self _⟩
  refine ⟨k + 1 + 1, ?_⟩
  unfold laws_FnExactObjRead.f
  split
  · rfl
  rename_i h0
  have hs : s.size ≤ 1048576 := by omega
  obtain ⟨r, e, e', h1, _⟩ := ObjRead_same (k1 := k + 1) (k2 := k + 1) hs (by omega) (by omega)
  have e2 := spec_ObjRead.mono _ _ _ e
  have e2' := impl_ObjRead.mono _ _ _ e'
  have hlen : r.2.1.length ≤ 4 ∧ r.2.2.1.length ≤ 4 ∧ r.2.2.2.2.1.length ≤ 1048576 := by
    rcases h1 with rfl | ⟨p, vs, m, l, b, t, rfl, hr, hz⟩
    · exact ⟨Nat.zero_le _, Nat.zero_le _, Nat.zero_le _⟩
    · obtain ⟨g1, g2, g3, g4, g5, g6, _⟩ := objB_facts (objB_of hr hz)
      have g7 := (fieldsB_SmallF (respB_facts g1).2.2).1
      exact ⟨g4, by dsimp only; omega, by dsimp only; omega⟩
  obtain ⟨R0, R1, R2, R3, R4, R5, R6, R7⟩ := r
  dsimp only at hlen
  rw [e2, Option.bind_some]
  dsimp only
  rw [e2', Option.bind_some]
  dsimp only
  rw [laws_eqObj_f (by omega) (by omega) (by omega) (by omega), Option.bind_some, if_pos rfl, show (R7 != R7) = false by simp]
  simp only [laws_FnExactObjRead.j0]
  rw [if_neg (by simp), laws_markObj_f (by omega) (by omega) (by omega) (by omega) (by omega) (by omega), Option.bind_some]
  dsimp only
  rw [laws_heldObj_f (by omega) (by omega) (by omega) (by omega) (by omega) (by omega), Option.bind_some, if_neg (by omega), if_pos rfl, e', Option.bind_some]
  dsimp only
  rw [laws_eqObj_f (by omega) (by omega) (by omega) (by omega), Option.bind_some, if_pos rfl, show (R7 != R7) = false by simp]
  simp only [laws_FnExactObjRead.j1]
  rw [if_neg (by simp), laws_heldObj_f (by omega) (by omega) (by omega) (by omega) (by omega) (by omega), Option.bind_some, if_neg (by omega), if_pos rfl]

end Go.Proofs.YtjlpjbkpmmpojaaGreatDoor.Pure
