/- The law FnExactFeed over plain values: with enough rounds it answers true, at every input within the bounds that any machine has. -/
import Derived.Test.YtjckfmipegemcaaGreatDoorAllx0
import Derived.Test.YtjckfmipegemcaaGreatDoorAllx12
import Derived.Test.YtjckfmipegemcaaGreatDoorAllx14
import Derived.Test.YtjckfmipegemcaaGreatDoorQh333c0ef0
import Derived.Test.YtjckfmipegemcaaGreatDoorQh6fc61ffa
import Derived.Test.YtjckfmipegemcaaGreatDoorQh9403bd91
namespace Go.Proofs.YtjckfmipegemcaaGreatDoor.Pure
open Go.RowKit Go.Proofs.YtjckfmipegemcaaGreatDoor.All Go.Proofs.YtjckfmipegemcaaGreatDoorW.PrintWords Go.Proofs.YtjckfmipegemcaaGreatDoorW.PrintLast
set_option linter.unusedVariables false
set_option linter.unusedSimpArgs false

theorem FnExactFeed : ∀ (a0 : S41) (a1 : ByteArray), ((a0.f0.size ≤ maxLen) ∧ (True)) → (a1.size ≤ maxLen) → ∃ k, laws_FnExactFeed.f k a0.f0 a0.f1 a1 = some true := by
  rintro ⟨w, b⟩ p ⟨hw, _⟩ hp
  unfold maxLen at hw hp
  dsimp only at hw hp ⊢
  obtain ⟨k, hk⟩ : ∃ k, 8796142000000 < k := ⟨_, Nat.lt_succ_self _⟩
  refine ⟨k, ?_⟩
  unfold laws_FnExactFeed.f
  by_cases hp1 : (p.size : Int) > 1048576
  · rw [if_pos hp1]
  rw [if_neg hp1]
  unfold laws_szStream.f laws_toStream.f laws_eqStream.f
  have hz : wrap64 (1048576 - (w.size : Int)) = 1048576 - (w.size : Int) := w64 (by omega)
  rw [hz]
  clear hz
  by_cases hw1 : 1048576 - (w.size : Int) < 0
  · rw [if_pos hw1, Option.bind_some, if_pos (by omega)]
  rw [if_neg hw1, Option.bind_some, if_neg hw1, Option.bind_some]
  dsimp only
  have hs : w.size + p.size ≤ 2097152 := by omega
  have hq := small_len (feed1_small (b := b) hs)
  have hl := feed1_sum w p b
  rw [spec_Feed_f hs (by omega), Option.bind_some, impl_Feed_f hs (by omega), Option.bind_some]
  dsimp only
  rw [if_pos rfl, if_neg (by simp), Option.bind_some, laws_eqReqS_f (by omega) hq (by omega), Option.bind_some, laws_markReqS_f (by omega) hq (by omega), Option.bind_some, laws_heldReqS_f hq (by omega) (by omega), Option.bind_some]
  have h1 := markQ_ge (feed1 w b p).1 1
  rw [if_pos ⟨rfl, rfl, by omega, rfl⟩]

end Go.Proofs.YtjckfmipegemcaaGreatDoor.Pure
