/- The law FnExactPlus over plain values: with enough rounds it answers true, at every input within the bounds that any machine has. -/
import Derived.Test.YtadkkjaajnegjaaAllx2
import Derived.Test.YtadkkjaajnegjaaQbword
namespace Go.Proofs.Ytadkkjaajnegjaa.Pure
open Go.RowKit Go.Proofs.Ytadkkjaajnegjaa.All Go.Proofs.YtadkkjaajnegjaaW.PrintWords Go.Proofs.YtadkkjaajnegjaaW.PrintLast
set_option linter.unusedVariables false
set_option linter.unusedSimpArgs false

theorem FnExactPlus : ∀ (a0 : Int) (a1 : Int), ((Lit.int .i64 a0).wf = true) → ((Lit.int .i64 a1).wf = true) → laws_FnExactPlus.f a0 a1 = some true := by
  intro a b _ _
  unfold laws_FnExactPlus.f
  rw [spec_Plus_f, Option.bind_some, impl_Plus_f, Option.bind_some, if_pos rfl]

end Go.Proofs.Ytadkkjaajnegjaa.Pure
