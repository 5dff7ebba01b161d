/- The law FnExactHex over plain values: with enough rounds it answers true, at every input within the bounds that any machine has. -/
import Derived.Test.YtogdmlgbdbgpkaaDoorAllx0
import Derived.Test.YtogdmlgbdbgpkaaDoorAllx2
import Derived.Test.YtogdmlgbdbgpkaaDoorQh5e795d01
namespace Go.Proofs.YtogdmlgbdbgpkaaDoor.Pure
open Go.RowKit Go.Proofs.YtogdmlgbdbgpkaaDoor.All Go.Proofs.YtogdmlgbdbgpkaaDoorW.PrintWords Go.Proofs.YtogdmlgbdbgpkaaDoorW.PrintLast
set_option linter.unusedVariables false
set_option linter.unusedSimpArgs false

theorem FnExactHex : ∀ (a0 : Int), ((Lit.int .i64 a0).wf = true) → ∃ k, laws_FnExactHex.f k a0 = some true := by
  intro n _
  refine ⟨40, ?_⟩
  unfold laws_FnExactHex.f
  rw [spec_Hex_f (by omega), Option.bind_some, impl_Hex_f, Option.bind_some, if_pos rfl]

end Go.Proofs.YtogdmlgbdbgpkaaDoor.Pure
