/- The law FnExactAgeAt over plain values: with enough rounds it answers true, at every input within the bounds that any machine has. -/
import Derived.Test.YtiinmfjbildclaaDoorAllx0
import Derived.Test.YtiinmfjbildclaaDoorAllx14
import Derived.Test.YtiinmfjbildclaaDoorQh0b793c2d
import Derived.Test.YtiinmfjbildclaaDoorQha865ac6e
namespace Go.Proofs.YtiinmfjbildclaaDoor.Pure
open Go.RowKit Go.Proofs.YtiinmfjbildclaaDoor.All Go.Proofs.YtiinmfjbildclaaDoorW.PrintWords Go.Proofs.YtiinmfjbildclaaDoorW.PrintLast
set_option linter.unusedVariables false
set_option linter.unusedSimpArgs false

theorem FnExactAgeAt : ∀ (a0 : List (S113)) (a1 : Int) (a2 : Int), (a0.length ≤ maxLen ∧ ∀ x_ ∈ a0, (x_.f0.size ≤ maxLen) ∧ (x_.f1.size ≤ maxLen)) → ((Lit.int .i64 a1).wf = true) → ((Lit.int .i64 a2).wf = true) → ∃ k, laws_FnExactAgeAt.f k a0 a1 a2 = some true := by
  intro l t now hl h1_ h2_
  have ht : -9223372036854775808 ≤ t ∧ t ≤ 9223372036854775807 := i64_wf h1_
  have hn : -9223372036854775808 ≤ now ∧ now ≤ 9223372036854775807 := i64_wf h2_
  obtain ⟨k, hk⟩ : ∃ k, 1048978 < k := ⟨_, Nat.lt_succ_self _⟩
  refine ⟨k, ?_⟩
  unfold laws_FnExactAgeAt.f
  rw [laws_szFieldS_f hl (by omega) (by omega) (by omega), Option.bind_some]
  split
  · rfl
  rename_i h
  obtain ⟨_, _, h1, h2⟩ := leftFS_nonneg h (by omega)
  rw [laws_toFieldS_f h1 (by omega), Option.bind_some, spec_AgeAt_f (by simp; omega) ht hn (by simp; omega), Option.bind_some, Option.bind_some, impl_AgeAt_f (by simp; omega) ht hn, Option.bind_some, if_pos rfl, Option.bind_some, laws_eqFieldS_f (by simp; omega) (by simp; omega), Option.bind_some, if_pos rfl]

end Go.Proofs.YtiinmfjbildclaaDoor.Pure
