/- The law FnExactNumRead over plain values: with enough rounds it answers true, at every input within the bounds that any machine has. -/
import Derived.Test.YtdlgjhckmkmjhaaDoorAllx11
import Derived.Test.YtdlgjhckmkmjhaaDoorQjnumread
namespace Go.Proofs.YtdlgjhckmkmjhaaDoor.Pure
open Go.RowKit Go.Proofs.YtdlgjhckmkmjhaaDoor.All Go.Proofs.YtdlgjhckmkmjhaaDoorW.PrintWords Go.Proofs.YtdlgjhckmkmjhaaDoorW.PrintLast
set_option linter.unusedVariables false
set_option linter.unusedSimpArgs false

theorem FnExactNumRead : ∀ (a0 : ByteArray), (a0.size ≤ maxLen) → ∃ k, laws_FnExactNumRead.f k a0 = some true := by
  intro s _
  refine ⟨70, ?_⟩
  unfold laws_FnExactNumRead.f
  split
  · rfl
  rw [spec_NumRead_f (by omega), Option.bind_some, impl_NumRead_f, Option.bind_some, if_pos rfl, if_neg (by simp)]

end Go.Proofs.YtdlgjhckmkmjhaaDoor.Pure
