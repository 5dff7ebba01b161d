/- The law FnExactBanText over plain values: with enough rounds it answers true, at every input within the bounds that any machine has. -/
import Derived.Test.YtogdmlgbdbgpkaaDoorAllx0
import Derived.Test.YtogdmlgbdbgpkaaDoorAllx31
import Derived.Test.YtogdmlgbdbgpkaaDoorAllx33
import Derived.Test.YtogdmlgbdbgpkaaDoorQh4637d0b9
import Derived.Test.YtogdmlgbdbgpkaaDoorQh96c9cf4e
import Derived.Test.YtogdmlgbdbgpkaaDoorXKinds
namespace Go.Proofs.YtogdmlgbdbgpkaaDoor.Pure
open Go.RowKit Go.Proofs.YtogdmlgbdbgpkaaDoor.All Go.Proofs.YtogdmlgbdbgpkaaDoorW.PrintWords Go.Proofs.YtogdmlgbdbgpkaaDoorW.PrintLast
set_option linter.unusedVariables false
set_option linter.unusedSimpArgs false

theorem FnExactBanText : ∀ (a0 : S88), (((Lit.int .i64 a0.f0).wf = true) ∧ (a0.f1.size ≤ maxLen) ∧ (a0.f2.size ≤ maxLen) ∧ ((Lit.int .i64 a0.f3).wf = true)) → ∃ k, laws_FnExactBanText.f k a0.f0 a0.f1 a0.f2 a0.f3 = some true := by
  rintro ⟨kd, a, b, t⟩ ⟨_, ha, hb, _⟩
  dsimp only at ha hb
  unfold maxLen at ha hb
  obtain ⟨k, hk⟩ : ∃ k, 8388708 < k := ⟨_, Nat.lt_succ_self _⟩
  refine ⟨k, ?_⟩
  unfold laws_FnExactBanText.f laws_szBan.f laws_toBan.f
  dsimp only
  rw [w64 (n := 1048576 - (a.size : Int)) (by omega)]
  split
  · rw [Option.bind_some, if_pos (by omega)]
  rename_i h1_
  rw [w64 (n := 1048576 - (a.size : Int) - (b.size : Int)) (by omega)]
  split
  · rw [Option.bind_some, if_pos (by omega)]
  rw [Option.bind_some]
  split
  · rfl
  rw [Option.bind_some]
  dsimp only
  rw [spec_BanText_f (by omega) (by omega) (by omega), Option.bind_some, Option.bind_some]
  dsimp only
  rw [impl_BanText_f (by omega) (by omega) (by omega), Option.bind_some, if_pos rfl]

end Go.Proofs.YtogdmlgbdbgpkaaDoor.Pure
