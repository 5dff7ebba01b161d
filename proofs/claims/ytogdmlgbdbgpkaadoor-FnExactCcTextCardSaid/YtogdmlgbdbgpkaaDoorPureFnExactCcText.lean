/- The law FnExactCcText over plain values: with enough rounds it answers true, at every input within the bounds that any machine has. -/
import Derived.Test.YtogdmlgbdbgpkaaDoorAllx0
import Derived.Test.YtogdmlgbdbgpkaaDoorAllx8
import Derived.Test.YtogdmlgbdbgpkaaDoorQhf52fc6fb
import Derived.Test.YtogdmlgbdbgpkaaDoorXKinds
namespace Go.Proofs.YtogdmlgbdbgpkaaDoor.Pure
open Go.RowKit Go.Proofs.YtogdmlgbdbgpkaaDoor.All Go.Proofs.YtogdmlgbdbgpkaaDoorW.PrintWords Go.Proofs.YtogdmlgbdbgpkaaDoorW.PrintLast
set_option linter.unusedVariables false
set_option linter.unusedSimpArgs false

theorem FnExactCcText : ∀ (a0 : S30), ((True) ∧ (True) ∧ (True) ∧ (True) ∧ (True) ∧ ((Lit.int .i64 a0.f5).wf = true)) → ∃ k, laws_FnExactCcText.f k a0.f0 a0.f1 a0.f2 a0.f3 a0.f4 a0.f5 = some true := by
  rintro ⟨f0, f1, f2, f3, f4, n⟩ _
  refine ⟨300, ?_⟩
  unfold laws_FnExactCcText.f laws_toCc.f
  rw [Option.bind_some]
  dsimp only
  rw [spec_CcText_f _ _ _ _ _ _ (by omega), Option.bind_some, Option.bind_some]
  dsimp only
  rw [impl_CcText_f, Option.bind_some, if_pos rfl]

end Go.Proofs.YtogdmlgbdbgpkaaDoor.Pure
