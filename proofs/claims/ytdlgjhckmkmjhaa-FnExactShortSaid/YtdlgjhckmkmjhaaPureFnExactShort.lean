/- The law FnExactShort over plain values: with enough rounds it answers true, at every input within the bounds that any machine has. -/
import Derived.Test.YtdlgjhckmkmjhaaAllx12
import Derived.Test.YtdlgjhckmkmjhaaQabase
import Derived.Test.YtdlgjhckmkmjhaaQcfield
import Derived.Test.YtdlgjhckmkmjhaaQfresp
import Derived.Test.YtdlgjhckmkmjhaaQgshort
import Derived.Test.YtdlgjhckmkmjhaaXKinds
namespace Go.Proofs.Ytdlgjhckmkmjhaa.Pure
open Go.RowKit Go.Proofs.Ytdlgjhckmkmjhaa.All Go.Proofs.YtdlgjhckmkmjhaaW.PrintWords Go.Proofs.YtdlgjhckmkmjhaaW.PrintLast
set_option linter.unusedVariables false
set_option linter.unusedSimpArgs false

theorem FnExactShort : ∀ (a0 : S60), (((Lit.int .i64 a0.f0).wf = true) ∧ (a0.f1.length ≤ maxLen ∧ ∀ x_ ∈ a0.f1, (x_.f0.size ≤ maxLen) ∧ (x_.f1.size ≤ maxLen)) ∧ (a0.f2.size ≤ maxLen)) → ∃ k, laws_FnExactShort.f k a0.f0 a0.f1 a0.f2 = some true := by
  rintro ⟨m, l, b⟩ ⟨_, hl, hb⟩
  dsimp only at hl hb
  obtain ⟨k, hk⟩ : ∃ k, 1048978 < k := ⟨_, Nat.lt_succ_self _⟩
  refine ⟨k, ?_⟩
  unfold laws_FnExactShort.f
  obtain ⟨r, e, hr⟩ := laws_szResp_f (k := k) (m := m) hl hb (n := 1048576) (by omega) (by omega) (by omega)
  simp only at e ⊢
  rw [e, Option.bind_some]
  split
  · rfl
  rename_i h0
  rcases hr with hr | ⟨r1, r2, hb, h1, hlx, _⟩
  · omega
  have hf : ((l.map toF).filter keptF).length ≤ l.length := by
    have := List.length_filter_le keptF (l.map toF)
    simpa using this
  rw [laws_toResp_f h1 (by omega), Option.bind_some]
  simp only
  rw [spec_Short_f (by simp; omega) (by simp; omega), Option.bind_some, Option.bind_some]
  simp only
  rw [impl_Short_f (by simp; omega) (by simp; omega), Option.bind_some]
  simp only
  rw [laws_eqResp_f (by omega) (by omega), Option.bind_some, if_pos rfl, Option.bind_some]
  simp only
  rw [laws_eqResp_f (by simp; omega) (by simp; omega), Option.bind_some, if_pos rfl, laws_markResp_f (by simp; omega) (by omega) (by omega) (by simp; omega), Option.bind_some, if_neg (by simp; omega), Option.bind_some]
  obtain ⟨k, rfl⟩ := succ_of (show 0 < k by omega)
  simp only [laws_FnExactShort.j0]
  rw [if_neg (by simp), laws_markResp_f (by omega) (by omega) (by omega) (by omega), Option.bind_some]
  simp only
  rw [laws_heldResp_f (by omega) (by omega) (by omega) (by omega), Option.bind_some, if_neg (by omega), if_pos rfl, laws_toResp_f h1 (by omega), Option.bind_some]
  simp only
  rw [impl_Short_f (by simp; omega) (by simp; omega), Option.bind_some]
  simp only
  rw [laws_eqResp_f (by omega) (by omega), Option.bind_some, if_pos rfl, Option.bind_some, if_neg (by omega), if_pos rfl]

end Go.Proofs.Ytdlgjhckmkmjhaa.Pure
