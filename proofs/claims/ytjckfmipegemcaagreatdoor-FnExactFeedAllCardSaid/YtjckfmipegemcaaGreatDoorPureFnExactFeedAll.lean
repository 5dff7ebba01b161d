/- The law FnExactFeedAll over plain values: with enough rounds it answers true, at every input within the bounds that any machine has. -/
import Derived.Test.YtjckfmipegemcaaGreatDoorAllx0
import Derived.Test.YtjckfmipegemcaaGreatDoorAllx12
import Derived.Test.YtjckfmipegemcaaGreatDoorAllx17
import Derived.Test.YtjckfmipegemcaaGreatDoorQh333c0ef0
import Derived.Test.YtjckfmipegemcaaGreatDoorQh6961b617
import Derived.Test.YtjckfmipegemcaaGreatDoorQh6fc61ffa
import Derived.Test.YtjckfmipegemcaaGreatDoorQh9403bd91
import Derived.Test.YtjckfmipegemcaaGreatDoorQhd8bf4730
namespace Go.Proofs.YtjckfmipegemcaaGreatDoor.Pure
open Go.RowKit Go.Proofs.YtjckfmipegemcaaGreatDoor.All Go.Proofs.YtjckfmipegemcaaGreatDoorW.PrintWords Go.Proofs.YtjckfmipegemcaaGreatDoorW.PrintLast
set_option linter.unusedVariables false
set_option linter.unusedSimpArgs false

theorem szBS_szN : ∀ l, szBS l = (szN l : Int)
  | [] => rfl
  | x :: r => by rw [szBS, szN, szBS_szN r]; omega
theorem FnExactFeedAll : ∀ (a0 : S41) (a1 : List (ByteArray)), ((a0.f0.size ≤ maxLen) ∧ (True)) → (a1.length ≤ maxLen ∧ ∀ x_ ∈ a1, x_.size ≤ maxLen) → ∃ k, laws_FnExactFeedAll.f k a0.f0 a0.f1 a1 = some true := by
  rintro ⟨w, b⟩ l ⟨hw, _⟩ hx
  obtain ⟨k, hk⟩ : ∃ k, 8796142000000 < k := ⟨_, Nat.lt_succ_self _⟩
  refine ⟨k, ?_⟩
  dsimp only at hw ⊢
  unfold laws_FnExactFeedAll.f laws_szStream.f laws_toStream.f laws_eqStream.f
  have hz : wrap64 (1048576 - (w.size : Int)) = 1048576 - (w.size : Int) := w64 (by unfold maxLen at hw; omega)
  rw [hz]
  clear hz
  by_cases hw1 : 1048576 - (w.size : Int) < 0
  · rw [if_pos hw1, Option.bind_some, if_pos (by omega)]
  rw [if_neg hw1, Option.bind_some, if_neg hw1, laws_szStringS_f hx (by omega) (by omega) (by omega), Option.bind_some]
  by_cases h2 : leftBS (1048576 - (w.size : Int)) l < 0
  · rw [if_pos h2]
  rw [if_neg h2]
  have hn := szBS_szN l
  have hs : w.size + szN l ≤ 1048576 ∧ l.length ≤ 1048576 := by
    unfold leftBS at h2
    split at h2
    · omega
    · omega
  obtain ⟨hs, hl⟩ := hs
  have hq := small_len (feedAllP_small l w b (by omega))
  have hc := feedAllP_sum l w b
  rw [Option.bind_some, laws_toStringS_f hl (by omega), Option.bind_some]
  dsimp only
  rw [spec_FeedAll_f (by omega) (by omega) (by omega), Option.bind_some, impl_FeedAll_f (by omega) (by omega) (by omega), Option.bind_some]
  dsimp only
  rw [if_pos rfl, if_neg (by simp), Option.bind_some, laws_eqReqS_f (by omega) hq (by omega), Option.bind_some, laws_eqStringS_f (by omega) (by omega), Option.bind_some, laws_markStringS_f (by omega) (by omega) (by omega) (by omega), Option.bind_some, laws_markReqS_f (by omega) hq (by omega), Option.bind_some, laws_heldReqS_f hq (by omega) (by omega), Option.bind_some]
  have h1 := markQ_ge (feedAllP l w b).1 1
  rw [if_pos ⟨rfl, rfl, rfl, by dsimp only; omega, by omega, rfl⟩]

end Go.Proofs.YtjckfmipegemcaaGreatDoor.Pure
