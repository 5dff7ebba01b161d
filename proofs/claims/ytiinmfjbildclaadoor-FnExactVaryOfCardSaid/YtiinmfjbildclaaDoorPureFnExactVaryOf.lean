/- The law FnExactVaryOf over plain values: with enough rounds it answers true, at every input within the bounds that any machine has. -/
import Derived.Test.YtiinmfjbildclaaDoorAllx0
import Derived.Test.YtiinmfjbildclaaDoorAllx10
import Derived.Test.YtiinmfjbildclaaDoorQh0b793c2d
import Derived.Test.YtiinmfjbildclaaDoorQhf9e67311
import Derived.Test.YtiinmfjbildclaaDoorQhfcc31c9d
namespace Go.Proofs.YtiinmfjbildclaaDoor.Pure
open Go.RowKit Go.Proofs.YtiinmfjbildclaaDoor.All Go.Proofs.YtiinmfjbildclaaDoorW.PrintWords Go.Proofs.YtiinmfjbildclaaDoorW.PrintLast
set_option linter.unusedVariables false
set_option linter.unusedSimpArgs false

theorem FnExactVaryOf : ∀ (a0 : List (S113)), (a0.length ≤ maxLen ∧ ∀ x_ ∈ a0, (x_.f0.size ≤ maxLen) ∧ (x_.f1.size ≤ maxLen)) → ∃ k, laws_FnExactVaryOf.f k a0 = some true := by
  intro l hl
  obtain ⟨k, hk⟩ : ∃ k, 8389608 < k := ⟨_, Nat.lt_succ_self _⟩
  refine ⟨k, ?_⟩
  unfold laws_FnExactVaryOf.f
  rw [laws_szFieldS_f hl (by omega) (by omega) (by omega), Option.bind_some]
  split
  · rfl
  rename_i h
  obtain ⟨_, _, h1, h2⟩ := leftFS_nonneg h (by omega)
  have hs := SmallF.toF h1 h2
  have hv := varyF_len hs.2
  rw [laws_toFieldS_f h1 (by omega), Option.bind_some, spec_VaryOf_f (by omega) hs (by omega), Option.bind_some, Option.bind_some, impl_VaryOf_f (by omega) hs (by omega), Option.bind_some,
    laws_eqStringS_f (by omega) (by omega), Option.bind_some, if_pos rfl, Option.bind_some, laws_eqFieldS_f (by simp; omega) (by simp; omega), Option.bind_some, if_pos rfl,
    laws_markFieldS_f (by simp; omega) (by omega) (by omega) (by simp; omega), Option.bind_some, if_neg (by simp; omega), Option.bind_some]
  obtain ⟨k, rfl⟩ := succ_of (show 0 < k by omega)
  simp only [laws_FnExactVaryOf.j0]
  rw [if_neg (by simp), laws_markStringS_f (by omega) (by omega) (by omega) (by omega), Option.bind_some]
  simp only
  rw [laws_heldStringS_f (by omega) (by omega) (by omega) (by omega), Option.bind_some, if_neg (by omega), if_pos rfl, laws_toFieldS_f h1 (by omega), Option.bind_some, impl_VaryOf_f (by omega) hs (by omega), Option.bind_some, laws_eqStringS_f (by omega) (by omega), Option.bind_some, if_pos rfl, Option.bind_some, if_neg (by omega), if_pos rfl]

end Go.Proofs.YtiinmfjbildclaaDoor.Pure
