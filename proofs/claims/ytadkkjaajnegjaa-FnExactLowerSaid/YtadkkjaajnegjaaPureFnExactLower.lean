/- The law FnExactLower over plain values: with enough rounds it answers true, at every input within the bounds that any machine has. -/
import Derived.Test.YtadkkjaajnegjaaAllx1
import Derived.Test.YtadkkjaajnegjaaQbword
namespace Go.Proofs.Ytadkkjaajnegjaa.Pure
open Go.RowKit Go.Proofs.Ytadkkjaajnegjaa.All Go.Proofs.YtadkkjaajnegjaaW.PrintWords Go.Proofs.YtadkkjaajnegjaaW.PrintLast
set_option linter.unusedVariables false
set_option linter.unusedSimpArgs false

theorem FnExactLower : ∀ (a0 : ByteArray), (a0.size ≤ maxLen) → ∃ k, laws_FnExactLower.f k a0 = some true := by
  intro s hs
  obtain ⟨k, hk⟩ : ∃ k, 1048577 < k := ⟨_, Nat.lt_succ_self _⟩
  refine ⟨k, ?_⟩
  unfold laws_FnExactLower.f
  split
  · rfl
  · rw [spec_Lower_f (by omega) (by omega), Option.bind_some, impl_Lower_f (by omega), Option.bind_some, if_pos rfl]

end Go.Proofs.Ytadkkjaajnegjaa.Pure
