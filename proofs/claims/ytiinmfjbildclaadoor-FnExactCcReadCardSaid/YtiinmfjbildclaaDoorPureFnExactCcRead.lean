/- The law FnExactCcRead over plain values: with enough rounds it answers true, at every input within the bounds that any machine has. -/
import Derived.Test.YtiinmfjbildclaaDoorAllx0
import Derived.Test.YtiinmfjbildclaaDoorAllx69
import Derived.Test.YtiinmfjbildclaaDoorQChc3fa2b5f
namespace Go.Proofs.YtiinmfjbildclaaDoor.Pure
open Go.RowKit Go.Proofs.YtiinmfjbildclaaDoor.All Go.Proofs.YtiinmfjbildclaaDoorW.PrintWords Go.Proofs.YtiinmfjbildclaaDoorW.PrintLast
set_option linter.unusedVariables false
set_option linter.unusedSimpArgs false

theorem FnExactCcRead : ∀ (a0 : ByteArray), (a0.size ≤ maxLen) → ∃ k, laws_FnExactCcRead.f k a0 = some true := by
  intro s _
  obtain ⟨k, hk⟩ : ∃ k, 4300000 < k := ⟨_, Nat.lt_succ_self _⟩
  refine ⟨k, ?_⟩
  unfold laws_FnExactCcRead.f
  split
  · rfl
  rw [spec_CcRead_f (by omega) hk, Option.bind_some, impl_CcRead_f (by omega) (by omega), Option.bind_some, laws_eqCc_f, Option.bind_some, if_pos rfl]

end Go.Proofs.YtiinmfjbildclaaDoor.Pure
