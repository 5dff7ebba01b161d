/- The law FnFields over plain values: with enough rounds it answers true, at every input within the bounds that any machine has. -/
import Derived.Test.YtogdmlgbdbgpkaaDoorAllx0
import Derived.Test.YtogdmlgbdbgpkaaDoorAllx33
import Derived.Test.YtogdmlgbdbgpkaaDoorAllx34
import Derived.Test.YtogdmlgbdbgpkaaDoorAllx9
import Derived.Test.YtogdmlgbdbgpkaaDoorQFnFieldsh0d2d4497
namespace Go.Proofs.YtogdmlgbdbgpkaaDoor.Pure
open Go.RowKit Go.Proofs.YtogdmlgbdbgpkaaDoor.All Go.Proofs.YtogdmlgbdbgpkaaDoorW.PrintWords Go.Proofs.YtogdmlgbdbgpkaaDoorW.PrintLast
set_option linter.unusedVariables false
set_option linter.unusedSimpArgs false

theorem FnFields_l0 (x : List Int) (hx : (x.length : Int) ≤ 1048576) (l : List S78) (n v : ByteArray) (hl : SmallF 26 l) : ∀ (d k i : Nat), l.length = i + d → d + 2000000 < k →
    laws_FnFields.l0 k x l n (putF n v l) i = some true := by
  have hll := hl.1
  have hp := putF_length n v l
  intro d
  induction d with
  | zero =>
    intro k i hd hk
    obtain ⟨k, rfl⟩ := succ_of (show 0 < k by omega)
    obtain ⟨r, m, e, hr, _⟩ := spec_DrawGet_f (k := k) (l := x) (by omega) (by omega)
    have hrl := hr.1
    have hfl := fieldLines_le2 hl
    simp only [laws_FnFields.l0]
    rw [if_neg (by omega), impl_Drop_f (by omega), Option.bind_some, impl_Get_f (by have := dropF_length n l; omega), Option.bind_some, e, Option.bind_some]
    dsimp only
    rw [impl_Get_f (by omega), Option.bind_some, spec_Get_f (by omega) (by omega), Option.bind_some, spec_Drop_f (by omega) (by omega), Option.bind_some, laws_sameFields_f (by have := dropF_length n l; omega) (by have := dropF_length n l; omega), Option.bind_some, if_pos rfl]
    dsimp only
    have fin : ((impl_FieldsText.f l).bind fun t834 => ((spec_FieldsText.f k l).bind fun t835 => some (t834.toList == t835.toList))) = some true := by
      rw [impl_FieldsText_f (by omega) (by omega), Option.bind_some, spec_FieldsText_f (by omega) (by omega) (by omega), Option.bind_some]; simp
    rw [impl_FieldsOk_f (K := 26) (by omega) hl (by omega), Option.bind_some]
    by_cases hf : fieldsB l = true
    · rw [getF_dropF n (fieldsB_nodup hf), if_neg (by simp), if_pos rfl, if_pos (by simp)]
      exact fin
    · split <;> (try rw [if_neg hf]) <;> (rw [if_pos rfl, if_pos (by simp)]; exact fin)
  | succ d ih =>
    intro k i hd hk
    obtain ⟨k, rfl⟩ := succ_of (show 0 < k by omega)
    have hlt : i < l.length := by omega
    simp only [laws_FnFields.l0]
    rw [if_pos (by omega), if_pos (by omega), rd_F l i hlt, impl_Get_f (by omega), Option.bind_some, impl_Get_f (by omega), Option.bind_some, nat_round (n := l.length) hlt (by omega), ih k (i + 1) (by omega) (by omega)]
    by_cases e : l[i].f0 = n
    · rw [if_pos (by rw [e])]
    · rw [if_neg (fun h => e (toList_inj h)), getF_putF_ne v e l, if_pos rfl, if_neg (by simp)]
theorem FnFields : ∀ (a0 : List (Int)), (a0.length ≤ maxLen ∧ ∀ x_ ∈ a0, (Lit.int .u8 x_).wf = true) → ∃ k, laws_FnFields.f k a0 = some true := by
  intro x _
  obtain ⟨k, hk⟩ : ∃ k, 3000000 < k := ⟨_, Nat.lt_succ_self _⟩
  refine ⟨k, ?_⟩
  unfold laws_FnFields.f laws_big.f
  rw [Option.bind_some]
  by_cases hb : (x.length : Int) > 1048576
  · rw [if_pos (decide_eq_true hb)]
  rw [if_neg (by simpa using hb)]
  obtain ⟨l, n, v, e, hl, _, _⟩ := spec_DrawPut_f (k := k) (l := x) (by omega) (by omega)
  have hll := hl.1
  have hp := putF_length n v l
  rw [e, Option.bind_some]
  dsimp only
  rw [impl_Put_f (by omega), Option.bind_some, spec_Put_f (by omega) (by omega), Option.bind_some, laws_sameFields_f (by omega) (by omega), Option.bind_some, if_pos rfl, impl_FieldsOk_f (K := 26) (by omega) hl (by omega), Option.bind_some, spec_FieldsOk_f (K := 26) (by omega) hl (by omega), Option.bind_some]
  obtain ⟨k, rfl⟩ := succ_of (show 0 < k by omega)
  obtain ⟨k, rfl⟩ := succ_of (show 0 < k by omega)
  simp only [laws_FnFields.j0, laws_FnFields.j1]
  rw [if_neg (by simp), impl_Get_f (by omega), Option.bind_some, getF_putF]
  dsimp only
  rw [if_pos (by simp), if_neg (by simp)]
  exact FnFields_l0 x (by omega) l n v hl l.length k 0 (by omega) (by omega)

end Go.Proofs.YtogdmlgbdbgpkaaDoor.Pure
