/- The law FnExactChunkText over plain values: with enough rounds it answers true, at every input within the bounds that any machine has. -/
import Derived.Test.YtogdmlgbdbgpkaaDoorAllx0
import Derived.Test.YtogdmlgbdbgpkaaDoorAllx5
import Derived.Test.YtogdmlgbdbgpkaaDoorQh65bf9c1b
namespace Go.Proofs.YtogdmlgbdbgpkaaDoor.Pure
open Go.RowKit Go.Proofs.YtogdmlgbdbgpkaaDoor.All Go.Proofs.YtogdmlgbdbgpkaaDoorW.PrintWords Go.Proofs.YtogdmlgbdbgpkaaDoorW.PrintLast
set_option linter.unusedVariables false
set_option linter.unusedSimpArgs false

theorem FnExactChunkText : ∀ (a0 : ByteArray) (a1 : List (Int)), (a0.size ≤ maxLen) → (a1.length ≤ maxLen ∧ ∀ x_ ∈ a1, (Lit.int .i64 x_).wf = true) → ∃ k, laws_FnExactChunkText.f k a0 a1 = some true := by
  intro s l _ _
  obtain ⟨k, hk⟩ : ∃ k, 1048888 < k := ⟨_, Nat.lt_succ_self _⟩
  refine ⟨k, ?_⟩
  unfold laws_FnExactChunkText.f
  split
  · rfl
  split
  · rfl
  rw [laws_toIntS_f (by omega) (by omega), Option.bind_some, spec_ChunkText_f (by omega) (by omega) (by omega), Option.bind_some, Option.bind_some, impl_ChunkText_f (by omega) (by omega), Option.bind_some, if_pos rfl, Option.bind_some, laws_eqIntS_f (by omega) (by omega), Option.bind_some, if_pos rfl]

end Go.Proofs.YtogdmlgbdbgpkaaDoor.Pure
