/- The law FnExactAsk over plain values: with enough rounds it answers true, at every input within the bounds that any machine has. -/
import Derived.Test.YtogdmlgbdbgpkaaDoorAllx0
import Derived.Test.YtogdmlgbdbgpkaaDoorAllx36
import Derived.Test.YtogdmlgbdbgpkaaDoorQh0a77d438
import Derived.Test.YtogdmlgbdbgpkaaDoorQh4d3f2116
import Derived.Test.YtogdmlgbdbgpkaaDoorQh5b1878b7
import Derived.Test.YtogdmlgbdbgpkaaDoorQhae073cff
import Derived.Test.YtogdmlgbdbgpkaaDoorQhbe713fc9
import Derived.Test.YtogdmlgbdbgpkaaDoorXKinds
namespace Go.Proofs.YtogdmlgbdbgpkaaDoor.Pure
open Go.RowKit Go.Proofs.YtogdmlgbdbgpkaaDoor.All Go.Proofs.YtogdmlgbdbgpkaaDoorW.PrintWords Go.Proofs.YtogdmlgbdbgpkaaDoorW.PrintLast
set_option linter.unusedVariables false
set_option linter.unusedSimpArgs false

theorem FnExactAsk : ∀ (a0 : S57) (a1 : List (S118)), (((Lit.int .i64 a0.f0).wf = true) ∧ (a0.f1.size ≤ maxLen) ∧ (a0.f2.length ≤ maxLen ∧ ∀ x_ ∈ a0.f2, (x_.f0.size ≤ maxLen) ∧ (x_.f1.size ≤ maxLen)) ∧ (a0.f3.size ≤ maxLen)) → (a1.length ≤ maxLen ∧ ∀ x_ ∈ a1, (x_.f0.size ≤ maxLen) ∧ (x_.f1.size ≤ maxLen)) → ∃ k, laws_FnExactAsk.f k a0.f0 a0.f1 a0.f2 a0.f3 a1 = some true := by
  rintro ⟨m, p, q, b⟩ l ⟨_, hp, hq, hb⟩ hl
  dsimp only at hp hq hb
  obtain ⟨k, hk⟩ : ∃ k, 6542978 < k := ⟨_, Nat.lt_succ_self _⟩
  refine ⟨k, ?_⟩
  unfold laws_FnExactAsk.f
  obtain ⟨r, e, hr⟩ := laws_szReq_f (k := k) (m := m) hp hq hb (n := 1048576) (by omega) (by omega) (by omega)
  dsimp only at e ⊢
  rw [e, Option.bind_some]
  split
  · rfl
  rename_i h0
  rcases hr with hr | ⟨r1, r2, hp, hb, hql, hqx, _⟩
  · omega
  rw [laws_szFieldS_f hl (by omega) (by omega) (by omega), Option.bind_some]
  split
  · rfl
  rename_i h
  obtain ⟨_, _, h1, h2⟩ := leftFS_nonneg h (by omega)
  have sq := SmallF.toF hql hqx
  have sl := SmallF.toF h1 h2
  have ha := askF_length (m := m) (p := p) (b := b) (l := l.map toF) sq.1
  rw [laws_toReq_f hql (by omega), Option.bind_some, laws_toFieldS_f h1 (by omega), Option.bind_some]
  dsimp only
  rw [spec_Ask_f (K := 1048576) (by omega) hp sq sl (by omega), Option.bind_some, Option.bind_some, Option.bind_some]
  dsimp only
  rw [impl_Ask_f (K := 1048576) (by omega) hp sq sl (by omega), Option.bind_some]
  dsimp only
  rw [laws_eqReq_f (by omega) (by omega), Option.bind_some, if_pos rfl, Option.bind_some]
  dsimp only
  rw [laws_eqReq_f (by simp; omega) (by simp; omega), Option.bind_some, if_pos rfl, Option.bind_some, laws_eqFieldS_f (by simp; omega) (by simp; omega), Option.bind_some, if_pos rfl, laws_markReq_f (by simp; omega) (by omega) (by omega) (by simp; omega), Option.bind_some]
  dsimp only
  rw [laws_markFieldS_f (by simp; omega) (by simp; omega) (by simp; omega) (by simp; omega), Option.bind_some, if_neg (by simp; omega), Option.bind_some]
  obtain ⟨k, rfl⟩ := succ_of (show 0 < k by omega)
  simp only [laws_FnExactAsk.j0]
  rw [if_neg (by simp), laws_markReq_f (by omega) (by omega) (by omega) (by omega), Option.bind_some]
  dsimp only
  rw [laws_heldReq_f (by omega) (by omega) (by omega) (by omega), Option.bind_some, if_neg (by omega), if_pos rfl, laws_toReq_f hql (by omega), Option.bind_some, laws_toFieldS_f h1 (by omega), Option.bind_some]
  dsimp only
  rw [impl_Ask_f (K := 1048576) (by omega) hp sq sl (by omega), Option.bind_some]
  dsimp only
  rw [laws_eqReq_f (by omega) (by omega), Option.bind_some, if_pos rfl, Option.bind_some, if_neg (by omega), if_pos rfl]

end Go.Proofs.YtogdmlgbdbgpkaaDoor.Pure
