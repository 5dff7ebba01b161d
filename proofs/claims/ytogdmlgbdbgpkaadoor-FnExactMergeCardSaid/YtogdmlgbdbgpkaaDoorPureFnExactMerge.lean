/- The law FnExactMerge over plain values: with enough rounds it answers true, at every input within the bounds that any machine has. -/
import Derived.Test.YtogdmlgbdbgpkaaDoorAllx0
import Derived.Test.YtogdmlgbdbgpkaaDoorAllx26
import Derived.Test.YtogdmlgbdbgpkaaDoorQh5b1878b7
import Derived.Test.YtogdmlgbdbgpkaaDoorQh7c8a1457
import Derived.Test.YtogdmlgbdbgpkaaDoorQh92c13c9a
import Derived.Test.YtogdmlgbdbgpkaaDoorQhae073cff
import Derived.Test.YtogdmlgbdbgpkaaDoorXKinds
namespace Go.Proofs.YtogdmlgbdbgpkaaDoor.Pure
open Go.RowKit Go.Proofs.YtogdmlgbdbgpkaaDoor.All Go.Proofs.YtogdmlgbdbgpkaaDoorW.PrintWords Go.Proofs.YtogdmlgbdbgpkaaDoorW.PrintLast
set_option linter.unusedVariables false
set_option linter.unusedSimpArgs false

theorem FnExactMerge : ∀ (a0 : S48) (a1 : S48), (((Lit.int .i64 a0.f0).wf = true) ∧ (a0.f1.length ≤ maxLen ∧ ∀ x_ ∈ a0.f1, (x_.f0.size ≤ maxLen) ∧ (x_.f1.size ≤ maxLen)) ∧ (a0.f2.size ≤ maxLen)) → (((Lit.int .i64 a1.f0).wf = true) ∧ (a1.f1.length ≤ maxLen ∧ ∀ x_ ∈ a1.f1, (x_.f0.size ≤ maxLen) ∧ (x_.f1.size ≤ maxLen)) ∧ (a1.f2.size ≤ maxLen)) → ∃ k, laws_FnExactMerge.f k a0.f0 a0.f1 a0.f2 a1.f0 a1.f1 a1.f2 = some true := by
  rintro ⟨m, l, b⟩ ⟨m2, r, b2⟩ ⟨_, hl, hb⟩ ⟨_, hr, hb2⟩
  dsimp only at hl hb hr hb2
  obtain ⟨k, hk⟩ : ∃ k, 11542888 < k := ⟨_, Nat.lt_succ_self _⟩
  refine ⟨k, ?_⟩
  unfold laws_FnExactMerge.f
  obtain ⟨n1, e1, q1⟩ := laws_szResp_f (k := k) (m := m) hl hb (n := 1048576) (by omega) (by omega) (by omega)
  dsimp only at e1 ⊢
  rw [e1, Option.bind_some]
  split
  · rfl
  rename_i h0
  rcases q1 with q1 | ⟨_, r1, hb, hll, hlx, _⟩
  · omega
  obtain ⟨n2, e2, q2⟩ := laws_szResp_f (k := k) (m := m2) hr hb2 (n := n1) (by omega) (by omega) (by omega)
  rw [e2, Option.bind_some]
  split
  · rfl
  rename_i h2
  rcases q2 with q2 | ⟨_, r2, hb2, hrl, hrx, _⟩
  · omega
  have sl := SmallF.toF hll hlx
  have sr := SmallF.toF hrl hrx
  have hlen : (mergeR m (l.map toF) b (r.map toF)).length ≤ 2097152 := by
    have h1 := sl.1; have h2 := sr.1
    unfold mergeR
    split
    · have := (mergeF_small _ sr.2 _ sl.2).1; omega
    · omega
  rw [laws_toResp_f hll (by omega), Option.bind_some]
  dsimp only
  rw [laws_toResp_f hrl (by omega), Option.bind_some]
  dsimp only
  rw [spec_Merge_f (K := 1048576) (by omega) sl sr (by omega), Option.bind_some, Option.bind_some, Option.bind_some]
  dsimp only
  rw [impl_Merge_f (K := 1048576) (by omega) sl sr (by omega), Option.bind_some]
  dsimp only
  rw [laws_eqResp_f (by omega) (by omega), Option.bind_some, if_pos rfl, Option.bind_some]
  dsimp only
  rw [laws_eqResp_f (by simp; omega) (by simp; omega), Option.bind_some, if_pos rfl, Option.bind_some]
  dsimp only
  rw [laws_eqResp_f (by simp; omega) (by simp; omega), Option.bind_some, if_pos rfl, laws_markResp_f (by simp; omega) (by omega) (by omega) (by simp; omega), Option.bind_some]
  dsimp only
  rw [laws_markResp_f (by simp; omega) (by omega) (by simp; omega) (by simp; omega), Option.bind_some, if_neg (by simp; omega), Option.bind_some]
  obtain ⟨k, rfl⟩ := succ_of (show 0 < k by omega)
  simp only [laws_FnExactMerge.j0]
  rw [if_neg (by simp), laws_markResp_f (by omega) (by omega) (by omega) (by omega), Option.bind_some]
  dsimp only
  rw [laws_heldResp_f (by omega) (by omega) (by omega) (by omega), Option.bind_some, if_neg (by omega), if_pos rfl, laws_toResp_f hll (by omega), Option.bind_some, laws_toResp_f hrl (by omega), Option.bind_some]
  dsimp only
  rw [impl_Merge_f (K := 1048576) (by omega) sl sr (by omega), Option.bind_some]
  dsimp only
  rw [laws_eqResp_f (by omega) (by omega), Option.bind_some, if_pos rfl, Option.bind_some, if_neg (by omega), if_pos rfl]

end Go.Proofs.YtogdmlgbdbgpkaaDoor.Pure
