/- The law FnExactSplit over plain values: with enough rounds it answers true, at every input within the bounds that any machine has. -/
import Derived.Test.YtogdmlgbdbgpkaaDoorAllx0
import Derived.Test.YtogdmlgbdbgpkaaDoorAllx19
import Derived.Test.YtogdmlgbdbgpkaaDoorQh432769c0
namespace Go.Proofs.YtogdmlgbdbgpkaaDoor.Pure
open Go.RowKit Go.Proofs.YtogdmlgbdbgpkaaDoor.All Go.Proofs.YtogdmlgbdbgpkaaDoorW.PrintWords Go.Proofs.YtogdmlgbdbgpkaaDoorW.PrintLast
set_option linter.unusedVariables false
set_option linter.unusedSimpArgs false

theorem FnExactSplit : ∀ (a0 : ByteArray), (a0.size ≤ maxLen) → ∃ k, laws_FnExactSplit.f k a0 = some true := by
  intro s _
  obtain ⟨k, hk⟩ : ∃ k, 4197378 < k := ⟨_, Nat.lt_succ_self _⟩
  refine ⟨k, ?_⟩
  unfold laws_FnExactSplit.f
  split
  · rfl
  have hl := splitT_len s
  rw [spec_Split_f (by omega) (by omega), Option.bind_some, impl_Split_f (by omega) (by omega), Option.bind_some, laws_eqStringS_f (by omega) (by omega), Option.bind_some, if_pos rfl, laws_markStringS_f (by omega) (by omega) (by omega) (by omega), Option.bind_some]
  simp only
  rw [laws_heldStringS_f (by omega) (by omega) (by omega) (by omega), Option.bind_some, if_neg (by omega), if_pos rfl, Option.bind_some, laws_eqStringS_f (by omega) (by omega), Option.bind_some, if_pos rfl, Option.bind_some, if_neg (by omega), if_pos rfl]

end Go.Proofs.YtogdmlgbdbgpkaaDoor.Pure
