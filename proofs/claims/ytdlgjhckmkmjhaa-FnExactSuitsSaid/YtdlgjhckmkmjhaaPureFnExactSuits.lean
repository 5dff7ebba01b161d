/- The law FnExactSuits over plain values: with enough rounds it answers true, at every input within the bounds that any machine has. -/
import Derived.Test.YtdlgjhckmkmjhaaAllx0
import Derived.Test.YtdlgjhckmkmjhaaAllx16
import Derived.Test.YtdlgjhckmkmjhaaQcfield
import Derived.Test.YtdlgjhckmkmjhaaQesizes
import Derived.Test.YtdlgjhckmkmjhaaQetexts
import Derived.Test.YtdlgjhckmkmjhaaQhsuits
namespace Go.Proofs.Ytdlgjhckmkmjhaa.Pure
open Go.RowKit Go.Proofs.Ytdlgjhckmkmjhaa.All Go.Proofs.YtdlgjhckmkmjhaaW.PrintWords Go.Proofs.YtdlgjhckmkmjhaaW.PrintLast
set_option linter.unusedVariables false
set_option linter.unusedSimpArgs false

theorem FnExactSuits : ∀ (a0 : List (ByteArray)) (a1 : List (ByteArray)) (a2 : List (S79)), (a0.length ≤ maxLen ∧ ∀ x_ ∈ a0, x_.size ≤ maxLen) → (a1.length ≤ maxLen ∧ ∀ x_ ∈ a1, x_.size ≤ maxLen) → (a2.length ≤ maxLen ∧ ∀ x_ ∈ a2, (x_.f0.size ≤ maxLen) ∧ (x_.f1.size ≤ maxLen)) → ∃ k, laws_FnExactSuits.f k a0 a1 a2 = some true := by
  intro ns vs l hn hv hl
  obtain ⟨k, hk⟩ : ∃ k, 4197378 < k := ⟨_, Nat.lt_succ_self _⟩
  refine ⟨k, ?_⟩
  unfold laws_FnExactSuits.f
  rw [laws_szStringS_f hn (by omega) (by omega) (by omega), Option.bind_some]
  split
  · rfl
  rename_i h0
  obtain ⟨n0, n1, h2, _⟩ := leftBS_nonneg h0 (by omega)
  rw [laws_szStringS_f hv n0 n1 (by omega), Option.bind_some]
  split
  · rfl
  rename_i h3
  obtain ⟨n2, n3, h4, _⟩ := leftBS_nonneg h3 n1
  rw [laws_szFieldS_f hl n2 n3 (by omega), Option.bind_some]
  split
  · rfl
  rename_i h
  obtain ⟨_, _, h1, _⟩ := leftFS_nonneg h n3
  rw [laws_toStringS_f h2 (by omega), Option.bind_some, laws_toStringS_f h4 (by omega), Option.bind_some, laws_toFieldS_f h1 (by omega), Option.bind_some, spec_Suits_f h2 (by simp; omega) (by simp; omega), Option.bind_some, Option.bind_some, Option.bind_some, Option.bind_some, impl_Suits_f h2 (by simp; omega) (by simp; omega), Option.bind_some, if_neg (by simp), Option.bind_some,
    laws_eqStringS_f (by omega) (by omega), Option.bind_some, if_pos rfl, Option.bind_some, laws_eqStringS_f (by omega) (by omega), Option.bind_some, if_pos rfl, Option.bind_some, laws_eqFieldS_f (by simp; omega) (by simp; omega), Option.bind_some, if_pos rfl]

end Go.Proofs.Ytdlgjhckmkmjhaa.Pure
