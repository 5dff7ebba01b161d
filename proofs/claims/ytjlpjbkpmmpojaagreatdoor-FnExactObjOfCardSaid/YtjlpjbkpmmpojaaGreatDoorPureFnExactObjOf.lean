/- The law FnExactObjOf over plain values: with enough rounds it answers true, at every input within the bounds that any machine has. -/
import Derived.Test.YtjlpjbkpmmpojaaGreatDoorAllx0
import Derived.Test.YtjlpjbkpmmpojaaGreatDoorAllx38
import Derived.Test.YtjlpjbkpmmpojaaGreatDoorQh934c9de2
import Derived.Test.YtjlpjbkpmmpojaaGreatDoorQhaa973049
import Derived.Test.YtjlpjbkpmmpojaaGreatDoorQhd4f6af10
import Derived.Test.YtjlpjbkpmmpojaaGreatDoorQhf44be94c
import Derived.Test.YtjlpjbkpmmpojaaGreatDoorQhf91f36e4
import Derived.Test.YtjlpjbkpmmpojaaGreatDoorXKinds
namespace Go.Proofs.YtjlpjbkpmmpojaaGreatDoor.Pure
open Go.RowKit Go.Proofs.YtjlpjbkpmmpojaaGreatDoor.All Go.Proofs.YtjlpjbkpmmpojaaGreatDoorW.PrintWords Go.Proofs.YtjlpjbkpmmpojaaGreatDoorW.PrintLast
set_option linter.unusedVariables false
set_option linter.unusedSimpArgs false

theorem FnExactObjOf : ∀ (a0 : S67) (a1 : S69) (a2 : Int), (((Lit.int .i64 a0.f0).wf = true) ∧ (a0.f1.size ≤ maxLen) ∧ (a0.f2.length ≤ maxLen ∧ ∀ x_ ∈ a0.f2, (x_.f0.size ≤ maxLen) ∧ (x_.f1.size ≤ maxLen)) ∧ (a0.f3.size ≤ maxLen)) → (((Lit.int .i64 a1.f0).wf = true) ∧ (a1.f1.length ≤ maxLen ∧ ∀ x_ ∈ a1.f1, (x_.f0.size ≤ maxLen) ∧ (x_.f1.size ≤ maxLen)) ∧ (a1.f2.size ≤ maxLen)) → ((Lit.int .i64 a2).wf = true) → ∃ k, laws_FnExactObjOf.f k a0.f0 a0.f1 a0.f2 a0.f3 a1.f0 a1.f1 a1.f2 a2 = some true := by
  rintro ⟨m, p, q, b⟩ ⟨st, l, rb⟩ t ⟨_, hp, hq, hb⟩ ⟨_, hl, hrb⟩ _
  dsimp only at hp hq hb hl hrb
  obtain ⟨k, hk⟩ : ∃ k, 9400000 < k := ⟨_, Nat.lt_succ_self _⟩
  refine ⟨k + 1 + 1 + 1, ?_⟩
  unfold laws_FnExactObjOf.f
  obtain ⟨r, e, hr⟩ := laws_szReq_f (k := k + 1 + 1 + 1) (m := m) hp hq hb (n := 1048576) (by omega) (by omega) (by omega)
  dsimp only at e ⊢
  rw [e, Option.bind_some]
  split
  · rfl
  rename_i h0
  rcases hr with hr | ⟨r1, r2, hp, hb, hql, hqx, _⟩
  · omega
  obtain ⟨r', e', hr'⟩ := laws_szResp_f (k := k + 1 + 1 + 1) (m := st) hl hrb (n := r) (by omega) (by omega) (by omega)
  rw [e', Option.bind_some]
  split
  · rfl
  rename_i h0'
  rcases hr' with hr' | ⟨_, _, hrb, hll, hlx, _⟩
  · omega
  have sq := SmallF.toF hql hqx
  have sl := SmallF.toF hll hlx
  obtain ⟨R, hR⟩ : ∃ R, R = objOfR m p (q.map toF) b st (l.map toF) rb t := ⟨_, rfl⟩
  have hlen : R.2.1.length ≤ 4 ∧ R.2.2.1.length ≤ 4 ∧ R.2.2.2.2.1.length ≤ 1048576 := by
    rw [hR]
    unfold objOfR
    split
    · rename_i h
      split
      · rename_i h2
        obtain ⟨g1, g2, g3, g4, g5, g6, _⟩ := objB_facts h2
        exact ⟨g4, by dsimp only; omega, by simpa using hll⟩
      · exact ⟨Nat.zero_le _, Nat.zero_le _, Nat.zero_le _⟩
    · exact ⟨Nat.zero_le _, Nat.zero_le _, Nat.zero_le _⟩
  rw [laws_toReq_f hql (by omega), Option.bind_some, laws_toResp_f hll (by omega), Option.bind_some]
  dsimp only
  rw [spec_ObjOf_f (K := 1048576) (by omega) (by omega) hp sq sl (by omega), Option.bind_some, Option.bind_some, Option.bind_some]
  dsimp only
  rw [impl_ObjOf_f (K := 1048576) (by omega) (by omega) hp sq sl (by omega), Option.bind_some, ← hR]
  obtain ⟨R0, R1, R2, R3, R4, R5, R6, R7⟩ := R
  dsimp only at hlen ⊢
  rw [laws_eqObj_f (by omega) (by omega) (by omega) (by omega), Option.bind_some, if_pos rfl, show (R7 != R7) = false by simp]
  simp only [laws_FnExactObjOf.j0]
  rw [if_neg (by simp), laws_toReq_f hql (by omega), Option.bind_some]
  dsimp only
  rw [laws_eqReq_f (by simp; omega) (by simp; omega), Option.bind_some, if_pos rfl, laws_toResp_f hll (by omega), Option.bind_some]
  dsimp only
  rw [laws_eqResp_f (by simp; omega) (by simp; omega), Option.bind_some, if_pos rfl, laws_markReq_f (by simp; omega) (by omega) (by omega) (by simp; omega), Option.bind_some]
  dsimp only
  rw [laws_markResp_f (by simp; omega) (by simp; omega) (by simp; omega) (by simp; omega), Option.bind_some]
  dsimp only
  rw [if_neg (by simp; omega), laws_eqObj_f (by omega) (by omega) (by omega) (by omega), Option.bind_some, if_pos rfl, show (R7 != R7) = false by simp]
  simp only [laws_FnExactObjOf.j1]
  rw [if_neg (by simp), laws_markObj_f (by omega) (by omega) (by omega) (by omega) (by omega) (by omega), Option.bind_some]
  dsimp only
  rw [laws_heldObj_f (by omega) (by omega) (by omega) (by omega) (by omega) (by omega), Option.bind_some, if_neg (by omega), if_pos rfl, laws_toReq_f hql (by omega), Option.bind_some, laws_toResp_f hll (by omega), Option.bind_some]
  dsimp only
  rw [impl_ObjOf_f (K := 1048576) (by omega) (by omega) hp sq sl (by omega), Option.bind_some, ← hR]
  dsimp only
  rw [laws_eqObj_f (by omega) (by omega) (by omega) (by omega), Option.bind_some, if_pos rfl, show (R7 != R7) = false by simp]
  simp only [laws_FnExactObjOf.j2]
  rw [if_neg (by simp), laws_heldObj_f (by omega) (by omega) (by omega) (by omega) (by omega) (by omega), Option.bind_some, if_neg (by omega), if_pos rfl]

end Go.Proofs.YtjlpjbkpmmpojaaGreatDoor.Pure
