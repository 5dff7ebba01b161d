/- The law FnExactFieldsOk over plain values: with enough rounds it answers true, at every input within the bounds that any machine has. -/
import Derived.Test.YtogdmlgbdbgpkaaDoorAllx0
import Derived.Test.YtogdmlgbdbgpkaaDoorAllx14
import Derived.Test.YtogdmlgbdbgpkaaDoorQh8c720f11
namespace Go.Proofs.YtogdmlgbdbgpkaaDoor.Pure
open Go.RowKit Go.Proofs.YtogdmlgbdbgpkaaDoor.All Go.Proofs.YtogdmlgbdbgpkaaDoorW.PrintWords Go.Proofs.YtogdmlgbdbgpkaaDoorW.PrintLast
set_option linter.unusedVariables false
set_option linter.unusedSimpArgs false

theorem FnExactFieldsOk : ∀ (a0 : List (S118)), (a0.length ≤ maxLen ∧ ∀ x_ ∈ a0, (x_.f0.size ≤ maxLen) ∧ (x_.f1.size ≤ maxLen)) → ∃ k, laws_FnExactFieldsOk.f k a0 = some true := by
  intro l hl
  obtain ⟨k, hk⟩ : ∃ k, 5242888 < k := ⟨_, Nat.lt_succ_self _⟩
  refine ⟨k, ?_⟩
  unfold laws_FnExactFieldsOk.f
  rw [laws_szFieldS_f hl (by omega) (by omega) (by omega), Option.bind_some]
  split
  · rfl
  rename_i h
  obtain ⟨_, _, h1, h2⟩ := leftFS_nonneg h (by omega)
  have hs := SmallF.toF h1 h2
  rw [laws_toFieldS_f h1 (by omega), Option.bind_some, spec_FieldsOk_f (by omega) hs (by omega), Option.bind_some, Option.bind_some, impl_FieldsOk_f (by omega) hs (by omega), Option.bind_some, if_neg (by simp), Option.bind_some, laws_eqFieldS_f (by simp; omega) (by simp; omega), Option.bind_some, if_pos rfl]

end Go.Proofs.YtogdmlgbdbgpkaaDoor.Pure
