/- The law FnExactReqOk over plain values: with enough rounds it answers true, at every input within the bounds that any machine has. -/
import Derived.Test.YtogdmlgbdbgpkaaDoorAllx0
import Derived.Test.YtogdmlgbdbgpkaaDoorAllx18
import Derived.Test.YtogdmlgbdbgpkaaDoorQh8c720f11
import Derived.Test.YtogdmlgbdbgpkaaDoorQh95a5977b
import Derived.Test.YtogdmlgbdbgpkaaDoorXKinds
namespace Go.Proofs.YtogdmlgbdbgpkaaDoor.Pure
open Go.RowKit Go.Proofs.YtogdmlgbdbgpkaaDoor.All Go.Proofs.YtogdmlgbdbgpkaaDoorW.PrintWords Go.Proofs.YtogdmlgbdbgpkaaDoorW.PrintLast
set_option linter.unusedVariables false
set_option linter.unusedSimpArgs false

theorem FnExactReqOk : ∀ (a0 : S57), (((Lit.int .i64 a0.f0).wf = true) ∧ (a0.f1.size ≤ maxLen) ∧ (a0.f2.length ≤ maxLen ∧ ∀ x_ ∈ a0.f2, (x_.f0.size ≤ maxLen) ∧ (x_.f1.size ≤ maxLen)) ∧ (a0.f3.size ≤ maxLen)) → ∃ k, laws_FnExactReqOk.f k a0.f0 a0.f1 a0.f2 a0.f3 = some true := by
  rintro ⟨m, p, q, b⟩ ⟨_, hp, hq, hb⟩
  dsimp only at hp hq hb
  obtain ⟨k, hk⟩ : ∃ k, 5242888 < k := ⟨_, Nat.lt_succ_self _⟩
  refine ⟨k, ?_⟩
  unfold laws_FnExactReqOk.f
  obtain ⟨r, e, hr⟩ := laws_szReq_f (k := k) (m := m) hp hq hb (n := 1048576) (by omega) (by omega) (by omega)
  simp only at e ⊢
  rw [e, Option.bind_some]
  split
  · rfl
  rename_i h0
  rcases hr with hr | ⟨r1, r2, hp, hb, hql, hqx, _⟩
  · omega
  have hs := SmallF.toF hql hqx
  rw [laws_toReq_f hql (by omega), Option.bind_some]
  simp only
  rw [spec_ReqOk_f (by omega) hp hs (by omega), Option.bind_some, Option.bind_some]
  simp only
  rw [impl_ReqOk_f (by omega) hp hs (by omega), Option.bind_some, if_neg (by simp), Option.bind_some]
  simp only
  rw [laws_eqReq_f (by simp; omega) (by simp; omega), Option.bind_some, if_pos rfl]

end Go.Proofs.YtogdmlgbdbgpkaaDoor.Pure
