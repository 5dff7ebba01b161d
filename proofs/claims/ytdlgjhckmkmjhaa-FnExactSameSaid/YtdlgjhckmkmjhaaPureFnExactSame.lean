/- The law FnExactSame over plain values: with enough rounds it answers true, at every input within the bounds that any machine has. -/
import Derived.Test.YtdlgjhckmkmjhaaAllx0
import Derived.Test.YtdlgjhckmkmjhaaAllx9
import Derived.Test.YtdlgjhckmkmjhaaQcfield
import Derived.Test.YtdlgjhckmkmjhaaQfreq
import Derived.Test.YtdlgjhckmkmjhaaQgsame
import Derived.Test.YtdlgjhckmkmjhaaXKinds
namespace Go.Proofs.Ytdlgjhckmkmjhaa.Pure
open Go.RowKit Go.Proofs.Ytdlgjhckmkmjhaa.All Go.Proofs.YtdlgjhckmkmjhaaW.PrintWords Go.Proofs.YtdlgjhckmkmjhaaW.PrintLast
set_option linter.unusedVariables false
set_option linter.unusedSimpArgs false

theorem FnExactSame : ∀ (a0 : S50) (a1 : List (S79)), (((Lit.int .i64 a0.f0).wf = true) ∧ (a0.f1.size ≤ maxLen) ∧ (a0.f2.length ≤ maxLen ∧ ∀ x_ ∈ a0.f2, (x_.f0.size ≤ maxLen) ∧ (x_.f1.size ≤ maxLen)) ∧ (a0.f3.size ≤ maxLen)) → (a1.length ≤ maxLen ∧ ∀ x_ ∈ a1, (x_.f0.size ≤ maxLen) ∧ (x_.f1.size ≤ maxLen)) → ∃ k, laws_FnExactSame.f k a0.f0 a0.f1 a0.f2 a0.f3 a1 = some true := by
  rintro ⟨m, p, q, b⟩ l ⟨_, hp, hq, hb⟩ hl
  dsimp only at hp hq hb
  obtain ⟨k, hk⟩ : ∃ k, 2097178 < k := ⟨_, Nat.lt_succ_self _⟩
  refine ⟨k, ?_⟩
  unfold laws_FnExactSame.f
  obtain ⟨r, e, hr⟩ := laws_szReq_f (k := k) (m := m) hp hq hb (n := 1048576) (by omega) (by omega) (by omega)
  simp only at e ⊢
  rw [e, Option.bind_some]
  split
  · rfl
  rename_i h0
  rcases hr with hr | ⟨r1, r2, hp, hb, hql, hqx, _⟩
  · omega
  rw [laws_szFieldS_f hl (by omega) (by omega) (by omega), Option.bind_some]
  split
  · rfl
  rename_i h
  obtain ⟨_, _, h1, _⟩ := leftFS_nonneg h (by omega)
  rw [laws_toReq_f hql (by omega), Option.bind_some, laws_toFieldS_f h1 (by omega), Option.bind_some]
  simp only
  rw [spec_Same_f (by simp; omega) (by simp; omega) (by simp; omega), Option.bind_some, Option.bind_some, Option.bind_some]
  simp only
  rw [impl_Same_f (by simp; omega) (by simp; omega), Option.bind_some, if_neg (by simp), Option.bind_some]
  simp only
  rw [laws_eqReq_f (by simp; omega) (by simp; omega), Option.bind_some, if_pos rfl, Option.bind_some, laws_eqFieldS_f (by simp; omega) (by simp; omega), Option.bind_some, if_pos rfl]

end Go.Proofs.Ytdlgjhckmkmjhaa.Pure
