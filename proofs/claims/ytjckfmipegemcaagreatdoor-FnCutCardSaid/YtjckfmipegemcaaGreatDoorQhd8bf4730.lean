/- What the printed functions answer, in plain words: lemmas of this session. No condition of a statement lies here. -/
import Derived.Test.YtjckfmipegemcaaGreatDoorAllx0
import Derived.Test.YtjckfmipegemcaaGreatDoorAllx10
import Derived.Test.YtjckfmipegemcaaGreatDoorAllx15
import Derived.Test.YtjckfmipegemcaaGreatDoorQh9403bd91
namespace Go.Proofs.YtjckfmipegemcaaGreatDoor.Pure
open Go.RowKit Go.Proofs.YtjckfmipegemcaaGreatDoor.All Go.Proofs.YtjckfmipegemcaaGreatDoorW.PrintWords Go.Proofs.YtjckfmipegemcaaGreatDoorW.PrintLast
set_option linter.unusedVariables false
set_option linter.unusedSimpArgs false

theorem feedGo_f {k : Nat} (hk : 104000000 < k) : ∀ (l : List ByteArray) (w : ByteArray) (b : Bool) (acc : List S40), w.size + szN l ≤ 2097152 → acc.length + (w.size + szN l) ≤ 1000000000 →
    feedGo k l w b acc = some ((feedAllP l w b).2.1, (feedAllP l w b).2.2, acc ++ (feedAllP l w b).1)
  | [], w, b, acc, _, _ => by rw [feedGo, feedAllP, List.append_nil]
  | p :: r, w, b, acc, h, ha => by
    rw [szN] at h ha
    have h1 := feed1_sum w p b
    rw [feedGo, impl_Feed_f (by omega) hk, Option.bind_some]
    dsimp only
    rw [if_pos (by omega), feedGo_f hk r _ _ _ (by omega) (by rw [List.length_append]; omega), feedAllP, List.append_assoc]
theorem impl_FeedAll_f {k : Nat} {l : List ByteArray} {w : ByteArray} {b : Bool} (hk : 104000000 < k) (hs : w.size + szN l ≤ 2097152) (hl : l.length ≤ 1048600) : impl_FeedAll.f k w b l = some ((feedAllP l w b).2.1, (feedAllP l w b).2.2, (feedAllP l w b).1) := by
  unfold impl_FeedAll.f
  rw [if_pos (by omega), feedGo_f hk l w b [] hs (by simp; omega)]
  rfl
theorem szN_drop {l : List ByteArray} {i : Nat} (h : i < l.length) : szN (l.drop i) = l[i].size + szN (l.drop (i + 1)) := by rw [drop_at h, szN]
theorem spec_FeedAll_l0 (l : List ByteArray) (hl : l.length ≤ 1048600) : ∀ (d k i : Nat) (w : ByteArray) (b : Bool) (acc : List S40), l.length - i = d → i ≤ l.length → w.size + szN (l.drop i) ≤ 2097152 → acc.length + (w.size + szN (l.drop i)) ≤ 1000000000 → d + 8796140000010 < k →
    spec_FeedAll.l0 k l acc i w b = some ((feedAllP (l.drop i) w b).2.1, (feedAllP (l.drop i) w b).2.2, acc ++ (feedAllP (l.drop i) w b).1) := by
  intro d
  induction d with
  | zero =>
    intro k i w b acc hd hi _ _ hk
    obtain ⟨k, rfl⟩ := succ_of (show 8796140000009 < k by omega)
    simp only [spec_FeedAll.l0]
    rw [if_neg (by omega), List.drop_eq_nil_of_le (by omega), feedAllP, List.append_nil]
  | succ d ih =>
    intro k i w b acc hd hi hs ha hk
    obtain ⟨k, rfl⟩ := succ_of (show 8796140000009 < k by omega)
    have hlt : i < l.length := by omega
    have hz := szN_drop hlt
    have h1 := feed1_sum w l[i] b
    simp only [spec_FeedAll.l0]
    rw [if_pos (by omega), if_pos (by omega), rd_B l i hlt, spec_Feed_f (by omega) (by omega), Option.bind_some]
    dsimp only
    rw [if_pos (by omega), nat_round (n := l.length) hlt (by omega), ih k (i + 1) _ _ _ (by omega) (by omega) (by omega) (by rw [List.length_append]; omega) (by omega), drop_at hlt, feedAllP, List.append_assoc]
theorem spec_FeedAll_f {k : Nat} {l : List ByteArray} {w : ByteArray} {b : Bool} (hk : 8796142000000 < k) (hs : w.size + szN l ≤ 2097152) (hl : l.length ≤ 1048600) : spec_FeedAll.f k w b l = some ((feedAllP l w b).2.1, (feedAllP l w b).2.2, (feedAllP l w b).1) := by
  have h := spec_FeedAll_l0 l hl l.length k 0 w b [] (by omega) (by omega) (by rw [List.drop_zero]; exact hs) (by rw [List.drop_zero]; simp; omega) (by omega)
  rw [List.drop_zero] at h
  exact h

end Go.Proofs.YtjckfmipegemcaaGreatDoor.Pure
