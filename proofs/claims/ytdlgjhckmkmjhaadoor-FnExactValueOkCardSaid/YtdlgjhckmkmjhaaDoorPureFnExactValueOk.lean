/- The law FnExactValueOk over plain values: with enough rounds it answers true, at every input within the bounds that any machine has. -/
import Derived.Test.YtdlgjhckmkmjhaaDoorAllx2
import Derived.Test.YtdlgjhckmkmjhaaDoorQjvalid
namespace Go.Proofs.YtdlgjhckmkmjhaaDoor.Pure
open Go.RowKit Go.Proofs.YtdlgjhckmkmjhaaDoor.All Go.Proofs.YtdlgjhckmkmjhaaDoorW.PrintWords Go.Proofs.YtdlgjhckmkmjhaaDoorW.PrintLast
set_option linter.unusedVariables false
set_option linter.unusedSimpArgs false

theorem FnExactValueOk : ∀ (a0 : ByteArray), (a0.size ≤ maxLen) → ∃ k, laws_FnExactValueOk.f k a0 = some true := by
  intro s _
  obtain ⟨k, hk⟩ : ∃ k, 4197178 < k := ⟨_, Nat.lt_succ_self _⟩
  refine ⟨k, ?_⟩
  unfold laws_FnExactValueOk.f
  split
  · rfl
  rw [spec_ValueOk_f (by omega) (by omega), Option.bind_some, impl_ValueOk_f (by omega) (by omega), Option.bind_some, if_neg (by simp)]

end Go.Proofs.YtdlgjhckmkmjhaaDoor.Pure
