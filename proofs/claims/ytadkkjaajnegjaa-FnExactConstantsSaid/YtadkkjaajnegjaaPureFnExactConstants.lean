/- The law FnExactConstants over plain values: with enough rounds it answers true, at every input within the bounds that any machine has. -/
import Derived.Test.YtadkkjaajnegjaaAllx1
namespace Go.Proofs.Ytadkkjaajnegjaa.Pure
open Go.RowKit Go.Proofs.Ytadkkjaajnegjaa.All Go.Proofs.YtadkkjaajnegjaaW.PrintWords Go.Proofs.YtadkkjaajnegjaaW.PrintLast
set_option linter.unusedVariables false
set_option linter.unusedSimpArgs false

theorem FnExactConstants : laws_FnExactConstants.f = some true := rfl

end Go.Proofs.Ytadkkjaajnegjaa.Pure
