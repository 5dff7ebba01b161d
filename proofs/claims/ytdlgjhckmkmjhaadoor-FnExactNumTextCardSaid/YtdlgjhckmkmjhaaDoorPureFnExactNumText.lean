/- The law FnExactNumText over plain values: with enough rounds it answers true, at every input within the bounds that any machine has. -/
import Derived.Test.YtdlgjhckmkmjhaaDoorAllx1
import Derived.Test.YtdlgjhckmkmjhaaDoorQinum
namespace Go.Proofs.YtdlgjhckmkmjhaaDoor.Pure
open Go.RowKit Go.Proofs.YtdlgjhckmkmjhaaDoor.All Go.Proofs.YtdlgjhckmkmjhaaDoorW.PrintWords Go.Proofs.YtdlgjhckmkmjhaaDoorW.PrintLast
set_option linter.unusedVariables false
set_option linter.unusedSimpArgs false

theorem FnExactNumText : ∀ (a0 : Int), ((Lit.int .i64 a0).wf = true) → ∃ k, laws_FnExactNumText.f k a0 = some true := by
  intro n _
  refine ⟨40, ?_⟩
  unfold laws_FnExactNumText.f
  rw [spec_NumText_f (by omega), Option.bind_some, impl_NumText_f, Option.bind_some, if_pos rfl]

end Go.Proofs.YtdlgjhckmkmjhaaDoor.Pure
