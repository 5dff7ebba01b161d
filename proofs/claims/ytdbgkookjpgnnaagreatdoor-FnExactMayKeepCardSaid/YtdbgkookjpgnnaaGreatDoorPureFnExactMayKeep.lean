/- The law FnExactMayKeep over plain values: with enough rounds it answers true, at every input within the bounds that any machine has. -/
import Derived.Test.YtdbgkookjpgnnaaGreatDoorAllx0
import Derived.Test.YtdbgkookjpgnnaaGreatDoorAllx34
import Derived.Test.YtdbgkookjpgnnaaGreatDoorQh19dd21ab
import Derived.Test.YtdbgkookjpgnnaaGreatDoorQh6ed553bc
import Derived.Test.YtdbgkookjpgnnaaGreatDoorQhc08794a4
import Derived.Test.YtdbgkookjpgnnaaGreatDoorXKinds
namespace Go.Proofs.YtdbgkookjpgnnaaGreatDoor.Pure
open Go.RowKit Go.Proofs.YtdbgkookjpgnnaaGreatDoor.All Go.Proofs.YtdbgkookjpgnnaaGreatDoorW.PrintWords Go.Proofs.YtdbgkookjpgnnaaGreatDoorW.PrintLast
set_option linter.unusedVariables false
set_option linter.unusedSimpArgs false

theorem FnExactMayKeep : ∀ (a0 : S63) (a1 : S65), (((Lit.int .i64 a0.f0).wf = true) ∧ (a0.f1.size ≤ maxLen) ∧ (a0.f2.length ≤ maxLen ∧ ∀ x_ ∈ a0.f2, (x_.f0.size ≤ maxLen) ∧ (x_.f1.size ≤ maxLen)) ∧ (a0.f3.size ≤ maxLen)) → (((Lit.int .i64 a1.f0).wf = true) ∧ (a1.f1.length ≤ maxLen ∧ ∀ x_ ∈ a1.f1, (x_.f0.size ≤ maxLen) ∧ (x_.f1.size ≤ maxLen)) ∧ (a1.f2.size ≤ maxLen)) → ∃ k, laws_FnExactMayKeep.f k a0.f0 a0.f1 a0.f2 a0.f3 a1.f0 a1.f1 a1.f2 = some true := by
  rintro ⟨m, p, q, b⟩ ⟨st, l, rb⟩ ⟨_, hp, hq, hb⟩ ⟨_, hl, hrb⟩
  dsimp only at hp hq hb hl hrb
  obtain ⟨k, hk⟩ : ∃ k, 9100000 < k := ⟨_, Nat.lt_succ_self _⟩
  refine ⟨k, ?_⟩
  unfold laws_FnExactMayKeep.f
  obtain ⟨r, e, hr⟩ := laws_szReq_f (k := k) (m := m) hp hq hb (n := 1048576) (by omega) (by omega) (by omega)
  dsimp only at e ⊢
  rw [e, Option.bind_some]
  split
  · rfl
  rename_i h0
  rcases hr with hr | ⟨r1, r2, hp, hb, hql, hqx, _⟩
  · omega
  obtain ⟨r', e', hr'⟩ := laws_szResp_f (k := k) (m := st) hl hrb (n := r) (by omega) (by omega) (by omega)
  rw [e', Option.bind_some]
  split
  · rfl
  rename_i h0'
  rcases hr' with hr' | ⟨_, _, hrb, hll, hlx, _⟩
  · omega
  have sq := SmallF.toF hql hqx
  have sl := SmallF.toF hll hlx
  rw [laws_toReq_f hql (by omega), Option.bind_some, laws_toResp_f hll (by omega), Option.bind_some]
  dsimp only
  rw [spec_MayKeep_f (K := 1048576) (by omega) hp sq sl (by omega), Option.bind_some, Option.bind_some, Option.bind_some]
  dsimp only
  rw [impl_MayKeep_f (K := 1048576) (by omega) hp sq sl (by omega), Option.bind_some, if_neg (by simp), Option.bind_some]
  dsimp only
  rw [laws_eqReq_f (by simp; omega) (by simp; omega), Option.bind_some, if_pos rfl, Option.bind_some]
  dsimp only
  rw [laws_eqResp_f (by simp; omega) (by simp; omega), Option.bind_some, if_pos rfl]

end Go.Proofs.YtdbgkookjpgnnaaGreatDoor.Pure
