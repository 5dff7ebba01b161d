/- The law FnExactRespText over plain values: with enough rounds it answers true, at every input within the bounds that any machine has. -/
import Derived.Test.YtiinmfjbildclaaDoorAllx0
import Derived.Test.YtiinmfjbildclaaDoorAllx37
import Derived.Test.YtiinmfjbildclaaDoorQhd78cf5bd
import Derived.Test.YtiinmfjbildclaaDoorQhf9e67311
import Derived.Test.YtiinmfjbildclaaDoorXKinds
namespace Go.Proofs.YtiinmfjbildclaaDoor.Pure
open Go.RowKit Go.Proofs.YtiinmfjbildclaaDoor.All Go.Proofs.YtiinmfjbildclaaDoorW.PrintWords Go.Proofs.YtiinmfjbildclaaDoorW.PrintLast
set_option linter.unusedVariables false
set_option linter.unusedSimpArgs false

theorem FnExactRespText : ∀ (a0 : S51), (((Lit.int .i64 a0.f0).wf = true) ∧ (a0.f1.length ≤ maxLen ∧ ∀ x_ ∈ a0.f1, (x_.f0.size ≤ maxLen) ∧ (x_.f1.size ≤ maxLen)) ∧ (a0.f2.size ≤ maxLen)) → ∃ k, laws_FnExactRespText.f k a0.f0 a0.f1 a0.f2 = some true := by
  rintro ⟨m, l, b⟩ ⟨_, hl, hb⟩
  dsimp only at hl hb
  obtain ⟨k, hk⟩ : ∃ k, 5242988 < k := ⟨_, Nat.lt_succ_self _⟩
  refine ⟨k, ?_⟩
  unfold laws_FnExactRespText.f
  obtain ⟨r, e, hr⟩ := laws_szResp_f (k := k) (m := m) hl hb (n := 1048576) (by omega) (by omega) (by omega)
  simp only at e ⊢
  rw [e, Option.bind_some]
  split
  · rfl
  rename_i h0
  rcases hr with hr | ⟨r1, r2, hb, h1, h2, _⟩
  · omega
  have hs := SmallF.toF h1 h2
  rw [laws_toResp_f h1 (by omega), Option.bind_some]
  simp only
  rw [spec_RespText_f (by omega) hs (by omega), Option.bind_some, Option.bind_some]
  simp only
  rw [impl_RespText_f (by omega) hs (by omega), Option.bind_some, if_pos rfl, Option.bind_some]
  simp only
  rw [laws_eqResp_f (by simp; omega) (by simp; omega), Option.bind_some, if_pos rfl]

end Go.Proofs.YtiinmfjbildclaaDoor.Pure
