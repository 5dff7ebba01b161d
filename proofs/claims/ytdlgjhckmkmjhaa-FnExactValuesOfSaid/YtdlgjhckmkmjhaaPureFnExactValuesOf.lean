/- The law FnExactValuesOf over plain values: with enough rounds it answers true, at every input within the bounds that any machine has. -/
import Derived.Test.YtdlgjhckmkmjhaaAllx0
import Derived.Test.YtdlgjhckmkmjhaaAllx15
import Derived.Test.YtdlgjhckmkmjhaaQabase
import Derived.Test.YtdlgjhckmkmjhaaQcfield
import Derived.Test.YtdlgjhckmkmjhaaQesizes
import Derived.Test.YtdlgjhckmkmjhaaQetexts
import Derived.Test.YtdlgjhckmkmjhaaQgvaluesOf
namespace Go.Proofs.Ytdlgjhckmkmjhaa.Pure
open Go.RowKit Go.Proofs.Ytdlgjhckmkmjhaa.All Go.Proofs.YtdlgjhckmkmjhaaW.PrintWords Go.Proofs.YtdlgjhckmkmjhaaW.PrintLast
set_option linter.unusedVariables false
set_option linter.unusedSimpArgs false

theorem FnExactValuesOf : ∀ (a0 : List (ByteArray)) (a1 : List (S79)), (a0.length ≤ maxLen ∧ ∀ x_ ∈ a0, x_.size ≤ maxLen) → (a1.length ≤ maxLen ∧ ∀ x_ ∈ a1, (x_.f0.size ≤ maxLen) ∧ (x_.f1.size ≤ maxLen)) → ∃ k, laws_FnExactValuesOf.f k a0 a1 = some true := by
  intro ns l hn hl
  obtain ⟨k, hk⟩ : ∃ k, 2197378 < k := ⟨_, Nat.lt_succ_self _⟩
  refine ⟨k, ?_⟩
  unfold laws_FnExactValuesOf.f
  rw [laws_szStringS_f hn (by omega) (by omega) (by omega), Option.bind_some]
  split
  · rfl
  rename_i h0
  obtain ⟨n0, n1, h2, _⟩ := leftBS_nonneg h0 (by omega)
  rw [laws_szFieldS_f hl n0 n1 (by omega), Option.bind_some]
  split
  · rfl
  rename_i h
  obtain ⟨_, _, h1, _⟩ := leftFS_nonneg h n1
  have hv : (valuesF (l.map toF) ns).length = ns.length := by simp [valuesF]
  rw [laws_toStringS_f h2 (by omega), Option.bind_some, laws_toFieldS_f h1 (by omega), Option.bind_some, spec_ValuesOf_f h2 (by simp; omega) (by simp; omega), Option.bind_some, Option.bind_some, Option.bind_some, impl_ValuesOf_f h2 (by simp; omega) (by simp; omega), Option.bind_some,
    laws_eqStringS_f (by omega) (by omega), Option.bind_some, if_pos rfl, Option.bind_some, laws_eqStringS_f (by omega) (by omega), Option.bind_some, if_pos rfl, Option.bind_some, laws_eqFieldS_f (by simp; omega) (by simp; omega), Option.bind_some, if_pos rfl,
    laws_markStringS_f (by omega) (by omega) (by omega) (by omega), Option.bind_some]
  simp only
  rw [laws_markFieldS_f (by simp; omega) (by omega) (by omega) (by simp; omega), Option.bind_some, if_neg (by simp; omega), Option.bind_some]
  obtain ⟨k, rfl⟩ := succ_of (show 0 < k by omega)
  simp only [laws_FnExactValuesOf.j0]
  rw [if_neg (by simp), laws_markStringS_f (by omega) (by omega) (by omega) (by omega), Option.bind_some]
  simp only
  rw [laws_heldStringS_f (by omega) (by omega) (by omega) (by omega), Option.bind_some, if_neg (by omega), if_pos rfl, laws_toStringS_f h2 (by omega), Option.bind_some, laws_toFieldS_f h1 (by omega), Option.bind_some, impl_ValuesOf_f h2 (by simp; omega) (by simp; omega), Option.bind_some, laws_eqStringS_f (by omega) (by omega), Option.bind_some, if_pos rfl, Option.bind_some, if_neg (by omega), if_pos rfl]

end Go.Proofs.Ytdlgjhckmkmjhaa.Pure
