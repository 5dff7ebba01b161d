/- The law FnExactLife over plain values: with enough rounds it answers true, at every input within the bounds that any machine has. -/
import Derived.Test.YtiinmfjbildclaaDoorAllx0
import Derived.Test.YtiinmfjbildclaaDoorAllx71
import Derived.Test.YtiinmfjbildclaaDoorQLh79751c73
namespace Go.Proofs.YtiinmfjbildclaaDoor.Pure
open Go.RowKit Go.Proofs.YtiinmfjbildclaaDoor.All Go.Proofs.YtiinmfjbildclaaDoorW.PrintWords Go.Proofs.YtiinmfjbildclaaDoorW.PrintLast
set_option linter.unusedVariables false
set_option linter.unusedSimpArgs false

theorem FnExactLife : ∀ (a0 : List (S113)), (a0.length ≤ maxLen ∧ ∀ x_ ∈ a0, (x_.f0.size ≤ maxLen) ∧ (x_.f1.size ≤ maxLen)) → ∃ k, laws_FnExactLife.f k a0 = some true := by
  intro l hl
  obtain ⟨k, hk⟩ : ∃ k, 4300000 < k := ⟨_, Nat.lt_succ_self _⟩
  refine ⟨k, ?_⟩
  unfold laws_FnExactLife.f
  rw [laws_szFieldS_f hl (by omega) (by omega) (by omega), Option.bind_some]
  split
  · rfl
  rename_i h
  obtain ⟨_, _, h1, h2⟩ := leftFS_nonneg h (by omega)
  have hs := SmallF.toF h1 h2
  unfold spec_Life.f impl_Life.f
  rw [laws_toFieldS_f h1 (by omega), Option.bind_some, spec_CcOf_f (by omega) hs hk, Option.bind_some, Option.bind_some, Option.bind_some, impl_CcOf_f (by omega) hs hk, Option.bind_some, Option.bind_some, if_pos rfl, Option.bind_some, laws_eqFieldS_f (by simp; omega) (by simp; omega), Option.bind_some, if_pos rfl]

end Go.Proofs.YtiinmfjbildclaaDoor.Pure
