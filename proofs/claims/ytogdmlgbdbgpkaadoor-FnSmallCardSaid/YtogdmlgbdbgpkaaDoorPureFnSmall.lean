/- The law FnSmall over plain values: with enough rounds it answers true, at every input within the bounds that any machine has. -/
import Derived.Test.YtogdmlgbdbgpkaaDoorAllx0
import Derived.Test.YtogdmlgbdbgpkaaDoorAllx10
import Derived.Test.YtogdmlgbdbgpkaaDoorAllx12
import Derived.Test.YtogdmlgbdbgpkaaDoorAllx9
import Derived.Test.YtogdmlgbdbgpkaaDoorQh52fc84b9
import Derived.Test.YtogdmlgbdbgpkaaDoorQhaad79cdb
import Derived.Test.YtogdmlgbdbgpkaaDoorQhbe6c4e1c
import Derived.Test.YtogdmlgbdbgpkaaDoorQhec4d4af6
namespace Go.Proofs.YtogdmlgbdbgpkaaDoor.Pure
open Go.RowKit Go.Proofs.YtogdmlgbdbgpkaaDoor.All Go.Proofs.YtogdmlgbdbgpkaaDoorW.PrintWords Go.Proofs.YtogdmlgbdbgpkaaDoorW.PrintLast
set_option linter.unusedVariables false
set_option linter.unusedSimpArgs false

theorem FnSmall : ∀ (a0 : List (Int)), (a0.length ≤ maxLen ∧ ∀ x_ ∈ a0, (Lit.int .u8 x_).wf = true) → ∃ k, laws_FnSmall.f k a0 = some true := by
  intro l _
  obtain ⟨k, hk⟩ : ∃ k, 1048978 < k := ⟨_, Nat.lt_succ_self _⟩
  refine ⟨k, ?_⟩
  unfold laws_FnSmall.f laws_big.f
  rw [Option.bind_some]
  by_cases hb : (l.length : Int) > 1048576
  · rw [if_pos (decide_eq_true hb)]
  rw [if_neg (by simpa using hb)]
  obtain ⟨a, ea, ha⟩ := spec_DrawLower_f (k := k) (l := l) (by omega) (by omega)
  obtain ⟨b, eb, hb2⟩ := spec_DrawTokenOk_f (k := k) (l := l) (by omega) (by omega)
  obtain ⟨c, ec, hc⟩ := spec_DrawValueOk_f (k := k) (l := l) (by omega) (by omega)
  have hls := lowB_size a
  rw [ea, Option.bind_some, impl_Lower_f (by omega), Option.bind_some, eb, Option.bind_some, ec, Option.bind_some, spec_Lower_f (by omega) (by omega), Option.bind_some, if_pos rfl, if_pos (by omega), impl_Lower_f (by omega), Option.bind_some, if_pos (by rw [lowB_low]), impl_TokenOk_f (by omega) (by omega), Option.bind_some, spec_TokenOk_f (by omega) (by omega), Option.bind_some, if_neg (by simp), impl_ValueOk_f (by omega) (by omega), Option.bind_some, spec_ValueOk_f (by omega) (by omega), Option.bind_some]
  obtain ⟨k, rfl⟩ := succ_of (show 0 < k by omega)
  simp only [laws_FnSmall.j0]
  have fin : (if valB c = true then (impl_Trim.f c).bind fun t => some (t.toList == c.toList) else some true) = some true := by
    by_cases h : valB c = true
    · rw [if_pos h, impl_Trim_f (by omega), Option.bind_some, val_trim h]; simp
    · rw [if_neg h]
  rw [if_neg (by simp), impl_TokenOk_f (by omega) (by omega), Option.bind_some]
  by_cases ht : tokB b = true
  · rw [if_pos ht, impl_Lower_f (by omega), Option.bind_some, if_pos (by rw [tok_low ht]), impl_ValueOk_f (by omega) (by omega), Option.bind_some, if_pos (tok_val ht), impl_ValueOk_f (by omega) (by omega), Option.bind_some]
    exact fin
  · rw [if_neg ht, impl_ValueOk_f (by omega) (by omega), Option.bind_some]
    exact fin

end Go.Proofs.YtogdmlgbdbgpkaaDoor.Pure
