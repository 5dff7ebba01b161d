/- The law FnExactGet over plain values: with enough rounds it answers true, at every input within the bounds that any machine has. -/
import Derived.Test.YtadkkjaajnegjaaAllx0
import Derived.Test.YtadkkjaajnegjaaAllx4
import Derived.Test.YtadkkjaajnegjaaQabase
import Derived.Test.YtadkkjaajnegjaaQcfield
import Derived.Test.YtadkkjaajnegjaaQdfieldfn
namespace Go.Proofs.Ytadkkjaajnegjaa.Pure
open Go.RowKit Go.Proofs.Ytadkkjaajnegjaa.All Go.Proofs.YtadkkjaajnegjaaW.PrintWords Go.Proofs.YtadkkjaajnegjaaW.PrintLast
set_option linter.unusedVariables false
set_option linter.unusedSimpArgs false

theorem FnExactGet : ∀ (a0 : List (S43)) (a1 : ByteArray), (a0.length ≤ maxLen ∧ ∀ x_ ∈ a0, (x_.f0.size ≤ maxLen) ∧ (x_.f1.size ≤ maxLen)) → (a1.size ≤ maxLen) → ∃ k, laws_FnExactGet.f k a0 a1 = some true := by
  intro l n hl hn
  obtain ⟨k, hk⟩ : ∃ k, 1048578 < k := ⟨_, Nat.lt_succ_self _⟩
  refine ⟨k, ?_⟩
  unfold laws_FnExactGet.f
  split
  · rfl
  rw [laws_szFieldS_f hl (by omega) (by omega) (by omega), Option.bind_some]
  split
  · rfl
  rename_i h
  obtain ⟨_, _, h1, _⟩ := leftFS_nonneg h (by omega)
  rw [laws_toFieldS_f h1 (by omega), Option.bind_some, spec_Get_f (by simp; omega) (by simp; omega), Option.bind_some, Option.bind_some, impl_Get_f (by simp; omega), Option.bind_some]
  simp only [if_true, bne_self_eq_false]
  obtain ⟨k, rfl⟩ := succ_of (show 0 < k by omega)
  simp only [laws_FnExactGet.j0]
  rw [if_neg (by simp), laws_toFieldS_f h1 (by omega), Option.bind_some, laws_eqFieldS_f (by simp; omega) (by simp; omega), Option.bind_some, if_pos rfl]

end Go.Proofs.Ytadkkjaajnegjaa.Pure
