/- The law FnExactTrim over plain values: with enough rounds it answers true, at every input within the bounds that any machine has. -/
import Derived.Test.YtdlgjhckmkmjhaaDoorAllx1
import Derived.Test.YtdlgjhckmkmjhaaDoorQitrim
namespace Go.Proofs.YtdlgjhckmkmjhaaDoor.Pure
open Go.RowKit Go.Proofs.YtdlgjhckmkmjhaaDoor.All Go.Proofs.YtdlgjhckmkmjhaaDoorW.PrintWords Go.Proofs.YtdlgjhckmkmjhaaDoorW.PrintLast
set_option linter.unusedVariables false
set_option linter.unusedSimpArgs false

theorem FnExactTrim : ∀ (a0 : ByteArray), (a0.size ≤ maxLen) → ∃ k, laws_FnExactTrim.f k a0 = some true := by
  intro s _
  obtain ⟨k, hk⟩ : ∃ k, 2097178 < k := ⟨_, Nat.lt_succ_self _⟩
  refine ⟨k, ?_⟩
  unfold laws_FnExactTrim.f
  split
  · rfl
  rw [spec_Trim_f (by omega) (by omega), Option.bind_some, impl_Trim_f (by omega), Option.bind_some, if_pos rfl]

end Go.Proofs.YtdlgjhckmkmjhaaDoor.Pure
