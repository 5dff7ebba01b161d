/- The law FnExactFieldsText over plain values: with enough rounds it answers true, at every input within the bounds that any machine has. -/
import Derived.Test.YtdlgjhckmkmjhaaAllx0
import Derived.Test.YtdlgjhckmkmjhaaAllx4
import Derived.Test.YtdlgjhckmkmjhaaQcfield
import Derived.Test.YtdlgjhckmkmjhaaQgfieldsText
namespace Go.Proofs.Ytdlgjhckmkmjhaa.Pure
open Go.RowKit Go.Proofs.Ytdlgjhckmkmjhaa.All Go.Proofs.YtdlgjhckmkmjhaaW.PrintWords Go.Proofs.YtdlgjhckmkmjhaaW.PrintLast
set_option linter.unusedVariables false
set_option linter.unusedSimpArgs false

theorem FnExactFieldsText : ∀ (a0 : List (S79)), (a0.length ≤ maxLen ∧ ∀ x_ ∈ a0, (x_.f0.size ≤ maxLen) ∧ (x_.f1.size ≤ maxLen)) → ∃ k, laws_FnExactFieldsText.f k a0 = some true := by
  intro l hl
  obtain ⟨k, hk⟩ : ∃ k, 1048578 < k := ⟨_, Nat.lt_succ_self _⟩
  refine ⟨k, ?_⟩
  unfold laws_FnExactFieldsText.f
  rw [laws_szFieldS_f hl (by omega) (by omega) (by omega), Option.bind_some]
  split
  · rfl
  rename_i h
  obtain ⟨_, _, h1, _⟩ := leftFS_nonneg h (by omega)
  have h2 := leftFS_size h
  have h3 := fieldLines_toF l
  have h4 := szFS_nonneg l
  rw [laws_toFieldS_f h1 (by omega), Option.bind_some, spec_FieldsText_f (by omega) (by simp; omega) (by simp; omega), Option.bind_some, Option.bind_some, impl_FieldsText_f (by omega) (by simp; omega), Option.bind_some, if_pos rfl, Option.bind_some, laws_eqFieldS_f (by simp; omega) (by simp; omega), Option.bind_some, if_pos rfl]

end Go.Proofs.Ytdlgjhckmkmjhaa.Pure
