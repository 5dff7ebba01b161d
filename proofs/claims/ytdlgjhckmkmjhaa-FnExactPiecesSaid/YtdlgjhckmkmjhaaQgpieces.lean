/- What the printed functions answer, in plain words: part g_pieces of this session's lemmas. No condition of a statement lies here. -/
import Derived.Test.YtdlgjhckmkmjhaaAllx4
import Derived.Test.YtdlgjhckmkmjhaaAllx5
import Derived.Test.YtdlgjhckmkmjhaaQabase
import Derived.Test.YtdlgjhckmkmjhaaQbword
namespace Go.Proofs.Ytdlgjhckmkmjhaa.Pure
open Go.RowKit Go.Proofs.Ytdlgjhckmkmjhaa.All Go.Proofs.YtdlgjhckmkmjhaaW.PrintWords Go.Proofs.YtdlgjhckmkmjhaaW.PrintLast
set_option linter.unusedVariables false
set_option linter.unusedSimpArgs false

def cutN (n : Int) (s : ByteArray) : Nat := (max 0 (min n s.size)).toNat
def pieces : List Int → ByteArray → List ByteArray
  | [], s => if s.size = 0 then [] else [s]
  | n :: r, s => s.extract 0 (cutN n s) :: pieces r (s.extract (cutN n s) s.size)
theorem cutN_le (n : Int) (s : ByteArray) : cutN n s ≤ s.size := by unfold cutN; omega
theorem pieces_length : ∀ (l : List Int) (s : ByteArray), (pieces l s).length ≤ l.length + 1
  | [], s => by rw [pieces]; split <;> simp
  | n :: r, s => by rw [pieces, List.length_cons, List.length_cons]; have := pieces_length r (s.extract (cutN n s) s.size); omega
theorem extract_all (s : ByteArray) : s.extract 0 s.size = s := ByteArray.extract_zero_size
theorem impl_Pieces_l0 (l : List Int) (hl : l.length ≤ 1048576) : ∀ (d k i : Nat) (s : ByteArray) (acc : List ByteArray), l.length - i = d → i ≤ l.length → acc.length ≤ i → s.size ≤ 1048576 → d < k →
    impl_Pieces.l0 k s acc l (l.length : Int) i = some (acc ++ pieces (l.drop i) s) := by
  intro d
  induction d with
  | zero =>
    intro k i s acc hd hi ha hs hk
    obtain ⟨k, rfl⟩ := succ_of (show 0 < k by omega)
    simp only [impl_Pieces.l0]
    rw [if_neg (by omega), List.drop_eq_nil_of_le (by omega), pieces, toList_B]
    by_cases h : s.size = 0
    · rw [if_pos (List.eq_nil_of_length_eq_zero (by rw [B_len, h])), if_pos h, List.append_nil]
    · rw [if_neg (fun e => h (by rw [← B_len, e]; rfl)), if_neg h, if_pos (by omega)]
  | succ d ih =>
    intro k i s acc hd hi ha hs hk
    obtain ⟨k, rfl⟩ := succ_of (show 0 < k by omega)
    have hlt : i < l.length := by omega
    have hc := cutN_le l[i] s
    have hm : mx 0 (mn l[i] (s.size : Int)) = (cutN l[i] s : Int) := by unfold mx mn cutN; split <;> split <;> omega
    simp only [impl_Pieces.l0]
    rw [if_pos (by omega), if_pos (by omega), if_pos (by omega), rd_I l i hlt, nat_round (n := l.length) hlt (by omega), hm, if_pos (by omega), if_pos (by omega), if_pos (by omega), Int.toNat_natCast,
      ih k (i + 1) _ _ (by omega) (by omega) (by simp; omega) (by rw [ByteArray.size_extract]; omega) (by omega), drop_at hlt, pieces, List.append_assoc]
    rfl
theorem impl_Pieces_f {k : Nat} {l : List Int} {s : ByteArray} (hl : l.length ≤ 1048576) (hs : s.size ≤ 1048576) (hk : l.length < k) : impl_Pieces.f k s l = some (pieces l s) := by
  have := impl_Pieces_l0 l hl l.length k 0 s [] (by omega) (by omega) (by simp) hs hk
  simpa [impl_Pieces.f] using this
theorem spec_Pieces_l0 (l : List Int) (s : ByteArray) (hl : l.length ≤ 1048576) (hs : s.size ≤ 1048576) : ∀ (d k i o : Nat) (acc : List ByteArray), l.length - i = d → i ≤ l.length → acc.length ≤ i → o ≤ s.size → d < k →
    spec_Pieces.l0 k s l acc o i = some (acc ++ pieces (l.drop i) (s.extract o s.size)) := by
  intro d
  induction d with
  | zero =>
    intro k i o acc hd hi ha ho hk
    obtain ⟨k, rfl⟩ := succ_of (show 0 < k by omega)
    simp only [spec_Pieces.l0]
    rw [if_neg (by omega), List.drop_eq_nil_of_le (by omega), pieces]
    have hz : (s.extract o s.size).size = s.size - o := by rw [ByteArray.size_extract]; omega
    by_cases h : o < s.size
    · rw [if_pos (by omega), if_pos (by omega), if_pos (by omega), if_pos (by omega), if_neg (by omega), Int.toNat_natCast]
    · rw [if_neg (by omega), if_pos (by omega), List.append_nil]
  | succ d ih =>
    intro k i o acc hd hi ha ho hk
    obtain ⟨k, rfl⟩ := succ_of (show 0 < k by omega)
    have hlt : i < l.length := by omega
    have hz : (s.extract o s.size).size = s.size - o := by rw [ByteArray.size_extract]; omega
    have hc := cutN_le l[i] (s.extract o s.size)
    rw [hz] at hc
    have hm : min (max l[i] 0) ((s.size : Int) - o) = (cutN l[i] (s.extract o s.size) : Int) := by unfold cutN; rw [hz]; omega
    have ih := ih k (i + 1) (o + cutN l[i] (s.extract o s.size)) (acc ++ [s.extract o (o + cutN l[i] (s.extract o s.size))]) (by omega) (by omega) (by simp; omega) (by omega) (by omega)
    simp only [spec_Pieces.l0]
    rw [if_pos (by omega), if_pos (by omega), rd_I l i hlt, spec_l1Max_f, Option.bind_some, spec_l1Min_f, Option.bind_some, nat_round (n := l.length) hlt (by omega), w64 (n := (s.size : Int) - o) (by omega), hm, w64 (by omega), if_pos (by omega), if_pos (by omega), if_pos (by omega), if_pos (by omega), Int.toNat_natCast,
      show (o : Int) + (cutN l[i] (s.extract o s.size) : Int) = ((o + cutN l[i] (s.extract o s.size) : Nat) : Int) by omega, Int.toNat_natCast, ih, drop_at hlt, pieces, List.append_assoc, hz, ByteArray.extract_extract, ByteArray.extract_extract]
    rw [show min (o + cutN l[i] (s.extract o s.size)) s.size = o + cutN l[i] (s.extract o s.size) by omega, show min (o + (s.size - o)) s.size = s.size by omega, Nat.add_zero]
    rfl
theorem spec_Pieces_f {k : Nat} {l : List Int} {s : ByteArray} (hl : l.length ≤ 1048576) (hs : s.size ≤ 1048576) (hk : l.length < k) : spec_Pieces.f k s l = some (pieces l s) := by
  have := spec_Pieces_l0 l s hl hs l.length k 0 0 [] (by omega) (by omega) (by simp) (by omega) hk
  simpa [spec_Pieces.f, extract_all] using this

end Go.Proofs.Ytdlgjhckmkmjhaa.Pure
