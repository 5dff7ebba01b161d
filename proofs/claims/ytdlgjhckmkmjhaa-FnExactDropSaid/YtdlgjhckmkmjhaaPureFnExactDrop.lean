/- The law FnExactDrop over plain values: with enough rounds it answers true, at every input within the bounds that any machine has. -/
import Derived.Test.YtdlgjhckmkmjhaaAllx0
import Derived.Test.YtdlgjhckmkmjhaaAllx10
import Derived.Test.YtdlgjhckmkmjhaaQabase
import Derived.Test.YtdlgjhckmkmjhaaQcfield
import Derived.Test.YtdlgjhckmkmjhaaQdfieldfn
import Derived.Test.YtdlgjhckmkmjhaaQgdrop
namespace Go.Proofs.Ytdlgjhckmkmjhaa.Pure
open Go.RowKit Go.Proofs.Ytdlgjhckmkmjhaa.All Go.Proofs.YtdlgjhckmkmjhaaW.PrintWords Go.Proofs.YtdlgjhckmkmjhaaW.PrintLast
set_option linter.unusedVariables false
set_option linter.unusedSimpArgs false

theorem FnExactDrop : ∀ (a0 : List (S79)) (a1 : ByteArray), (a0.length ≤ maxLen ∧ ∀ x_ ∈ a0, (x_.f0.size ≤ maxLen) ∧ (x_.f1.size ≤ maxLen)) → (a1.size ≤ maxLen) → ∃ k, laws_FnExactDrop.f k a0 a1 = some true := by
  intro l n hl hn
  obtain ⟨k, hk⟩ : ∃ k, 1048978 < k := ⟨_, Nat.lt_succ_self _⟩
  refine ⟨k, ?_⟩
  unfold laws_FnExactDrop.f
  split
  · rfl
  rw [laws_szFieldS_f hl (by omega) (by omega) (by omega), Option.bind_some]
  split
  · rfl
  rename_i h
  obtain ⟨_, _, h1, _⟩ := leftFS_nonneg h (by omega)
  have hp := dropF_length n (l.map toF)
  rw [List.length_map] at hp
  rw [laws_toFieldS_f h1 (by omega), Option.bind_some, spec_Drop_f (by simp; omega) (by simp; omega), Option.bind_some, Option.bind_some, impl_Drop_f (by simp; omega), Option.bind_some,
    laws_eqFieldS_f (by omega) (by omega), Option.bind_some, if_pos rfl, Option.bind_some, laws_eqFieldS_f (by simp; omega) (by simp; omega), Option.bind_some, if_pos rfl,
    laws_markFieldS_f (by simp; omega) (by omega) (by omega) (by simp; omega), Option.bind_some, if_neg (by simp; omega), Option.bind_some]
  obtain ⟨k, rfl⟩ := succ_of (show 0 < k by omega)
  simp only [laws_FnExactDrop.j0]
  rw [if_neg (by simp), laws_markFieldS_f (by omega) (by omega) (by omega) (by omega), Option.bind_some]
  simp only
  rw [laws_heldFieldS_f (by omega) (by omega) (by omega) (by omega), Option.bind_some, if_neg (by omega), if_pos rfl, laws_toFieldS_f h1 (by omega), Option.bind_some, impl_Drop_f (by simp; omega), Option.bind_some, laws_eqFieldS_f (by omega) (by omega), Option.bind_some, if_pos rfl, Option.bind_some, if_neg (by omega), if_pos rfl]

end Go.Proofs.Ytdlgjhckmkmjhaa.Pure
