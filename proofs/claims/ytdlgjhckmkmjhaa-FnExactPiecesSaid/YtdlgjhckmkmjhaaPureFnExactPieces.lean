/- The law FnExactPieces over plain values: with enough rounds it answers true, at every input within the bounds that any machine has. -/
import Derived.Test.YtdlgjhckmkmjhaaAllx6
import Derived.Test.YtdlgjhckmkmjhaaQabase
import Derived.Test.YtdlgjhckmkmjhaaQeints
import Derived.Test.YtdlgjhckmkmjhaaQetexts
import Derived.Test.YtdlgjhckmkmjhaaQgpieces
namespace Go.Proofs.Ytdlgjhckmkmjhaa.Pure
open Go.RowKit Go.Proofs.Ytdlgjhckmkmjhaa.All Go.Proofs.YtdlgjhckmkmjhaaW.PrintWords Go.Proofs.YtdlgjhckmkmjhaaW.PrintLast
set_option linter.unusedVariables false
set_option linter.unusedSimpArgs false

theorem FnExactPieces : ∀ (a0 : ByteArray) (a1 : List (Int)), (a0.size ≤ maxLen) → (a1.length ≤ maxLen ∧ ∀ x_ ∈ a1, (Lit.int .i64 x_).wf = true) → ∃ k, laws_FnExactPieces.f k a0 a1 = some true := by
  intro s l hs hl
  obtain ⟨k, hk⟩ : ∃ k, 1048978 < k := ⟨_, Nat.lt_succ_self _⟩
  refine ⟨k, ?_⟩
  unfold laws_FnExactPieces.f
  split
  · rfl
  split
  · rfl
  have h0 : s.size ≤ 1048576 := by omega
  have h1 : l.length ≤ 1048576 := by omega
  have hp := pieces_length l s
  rw [laws_toIntS_f h1 (by omega), Option.bind_some, spec_Pieces_f h1 h0 (by omega), Option.bind_some, Option.bind_some, impl_Pieces_f h1 h0 (by omega), Option.bind_some,
    laws_eqStringS_f (by omega) (by omega), Option.bind_some, if_pos rfl, Option.bind_some, laws_eqIntS_f (by omega) (by omega), Option.bind_some, if_pos rfl,
    laws_markIntS_f (by omega) (by omega) (by omega) (by omega), Option.bind_some, if_neg (by simp; omega), Option.bind_some]
  obtain ⟨k, rfl⟩ := succ_of (show 0 < k by omega)
  simp only [laws_FnExactPieces.j0]
  rw [if_neg (by simp), laws_markStringS_f (by omega) (by omega) (by omega) (by omega), Option.bind_some]
  simp only
  rw [laws_heldStringS_f (by omega) (by omega) (by omega) (by omega), Option.bind_some, if_neg (by omega), if_pos rfl, laws_toIntS_f h1 (by omega), Option.bind_some, impl_Pieces_f h1 h0 (by omega), Option.bind_some, laws_eqStringS_f (by omega) (by omega), Option.bind_some, if_pos rfl, Option.bind_some, if_neg (by omega), if_pos rfl]

end Go.Proofs.Ytdlgjhckmkmjhaa.Pure
