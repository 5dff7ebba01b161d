/- What the printed functions answer, in plain words: lemmas of this session. No condition of a statement lies here. -/
import Derived.Test.YtjckfmipegemcaaGreatDoorKPiecesAllx0
import Derived.Test.YtjckfmipegemcaaGreatDoorKPiecesAllx10
import Derived.Test.YtjckfmipegemcaaGreatDoorKPiecesAllx6
import Derived.Test.YtjckfmipegemcaaGreatDoorKPiecesQh9403bd91
namespace Go.Proofs.YtjckfmipegemcaaGreatDoor.Pure
open Go.RowKit Go.Proofs.YtjckfmipegemcaaGreatDoor.All Go.Proofs.YtjckfmipegemcaaGreatDoorW.PrintWords Go.Proofs.YtjckfmipegemcaaGreatDoorW.PrintLast
set_option linter.unusedVariables false
set_option linter.unusedSimpArgs false

theorem feedGo_f {k : Nat} (hk : 104000000 < k) : ∀ (l : List ByteArray) (w : ByteArray) (b : Bool) (acc : List S40), w.size + szN l ≤ 2097152 → acc.length + (w.size + szN l) ≤ 1000000000 →
    feedGo k l w b acc = some ((feedAllP l w b).2.1, (feedAllP l w b).2.2, acc ++ (feedAllP l w b).1)
  | [], w, b, acc, _, _ => by rw [feedGo, feedAllP, List.append_nil]
  | p :: r, w, b, acc, h, ha => by
    rw [szN] at h ha
    have h1 := feed1_sum w p b
    rw [feedGo, impl_Feed_f (by omega) hk, Option.bind_some]
    dsimp only
    rw [if_pos (by omega), feedGo_f hk r _ _ _ (by omega) (by rw [List.length_append]; omega), feedAllP, List.append_assoc]
theorem impl_FeedAll_f {k : Nat} {l : List ByteArray} {w : ByteArray} {b : Bool} (hk : 104000000 < k) (hs : w.size + szN l ≤ 2097152) (hl : l.length ≤ 1048600) : impl_FeedAll.f k w b l = some ((feedAllP l w b).2.1, (feedAllP l w b).2.2, (feedAllP l w b).1) := by
  unfold impl_FeedAll.f
  rw [if_pos (by omega), feedGo_f hk l w b [] hs (by simp; omega)]
  rfl
end Go.Proofs.YtjckfmipegemcaaGreatDoor.Pure
