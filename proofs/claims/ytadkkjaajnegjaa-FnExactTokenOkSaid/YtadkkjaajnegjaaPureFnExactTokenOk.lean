/- The law FnExactTokenOk over plain values: with enough rounds it answers true, at every input within the bounds that any machine has. -/
import Derived.Test.YtadkkjaajnegjaaAllx2
import Derived.Test.YtadkkjaajnegjaaQbword
namespace Go.Proofs.Ytadkkjaajnegjaa.Pure
open Go.RowKit Go.Proofs.Ytadkkjaajnegjaa.All Go.Proofs.YtadkkjaajnegjaaW.PrintWords Go.Proofs.YtadkkjaajnegjaaW.PrintLast
set_option linter.unusedVariables false
set_option linter.unusedSimpArgs false

theorem FnExactTokenOk : ∀ (a0 : ByteArray), (a0.size ≤ maxLen) → ∃ k, laws_FnExactTokenOk.f k a0 = some true := by
  intro s hs
  obtain ⟨k, hk⟩ : ∃ k, 1048577 < k := ⟨_, Nat.lt_succ_self _⟩
  refine ⟨k, ?_⟩
  unfold laws_FnExactTokenOk.f
  split
  · rfl
  · rw [spec_TokenOk_f (by omega) (by omega), Option.bind_some, impl_TokenOk_f (by omega) (by omega), Option.bind_some]
    simp

end Go.Proofs.Ytadkkjaajnegjaa.Pure
