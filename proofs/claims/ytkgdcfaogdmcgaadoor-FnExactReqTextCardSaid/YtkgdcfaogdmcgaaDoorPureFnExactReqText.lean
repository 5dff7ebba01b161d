/- The law FnExactReqText over plain values: with enough rounds it answers true, at every input within the bounds that any machine has. -/
import Derived.Test.YtkgdcfaogdmcgaaDoorAllx0
import Derived.Test.YtkgdcfaogdmcgaaDoorAllx23
import Derived.Test.YtkgdcfaogdmcgaaDoorQh07c553c9
import Derived.Test.YtkgdcfaogdmcgaaDoorQh7abdbcf7
import Derived.Test.YtkgdcfaogdmcgaaDoorXKinds
namespace Go.Proofs.YtkgdcfaogdmcgaaDoor.Pure
open Go.RowKit Go.Proofs.YtkgdcfaogdmcgaaDoor.All Go.Proofs.YtkgdcfaogdmcgaaDoorW.PrintWords Go.Proofs.YtkgdcfaogdmcgaaDoorW.PrintLast
set_option linter.unusedVariables false
set_option linter.unusedSimpArgs false

theorem FnExactReqText : ∀ (a0 : S41), (((Lit.int .i64 a0.f0).wf = true) ∧ (a0.f1.size ≤ maxLen) ∧ (a0.f2.length ≤ maxLen ∧ ∀ x_ ∈ a0.f2, (x_.f0.size ≤ maxLen) ∧ (x_.f1.size ≤ maxLen)) ∧ (a0.f3.size ≤ maxLen)) → ∃ k, laws_FnExactReqText.f k a0.f0 a0.f1 a0.f2 a0.f3 = some true := by
  rintro ⟨m, p, q, b⟩ ⟨_, hp, hq, hb⟩
  dsimp only at hp hq hb
  obtain ⟨k, hk⟩ : ∃ k, 5242988 < k := ⟨_, Nat.lt_succ_self _⟩
  refine ⟨k, ?_⟩
  unfold laws_FnExactReqText.f
  obtain ⟨r, e, hr⟩ := laws_szReq_f (k := k) (m := m) hp hq hb (n := 1048576) (by omega) (by omega) (by omega)
  simp only at e ⊢
  rw [e, Option.bind_some]
  split
  · rfl
  rename_i h0
  rcases hr with hr | ⟨r1, r2, hp, hb, hql, hqx, _⟩
  · omega
  have hs := SmallF.toF hql hqx
  rw [laws_toReq_f hql (by omega), Option.bind_some]
  simp only
  rw [spec_ReqText_f (by omega) hp hs (by omega), Option.bind_some, Option.bind_some]
  simp only
  rw [impl_ReqText_f (by omega) hp hs (by omega), Option.bind_some, if_pos rfl, Option.bind_some]
  simp only
  rw [laws_eqReq_f (by simp; omega) (by simp; omega), Option.bind_some, if_pos rfl]

end Go.Proofs.YtkgdcfaogdmcgaaDoor.Pure
