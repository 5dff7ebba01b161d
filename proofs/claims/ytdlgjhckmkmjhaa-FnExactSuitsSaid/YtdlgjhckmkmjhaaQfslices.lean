/- What the printed functions answer, in plain words: part f_slices of this session's lemmas. No condition of a statement lies here. -/
import Derived.Test.YtdlgjhckmkmjhaaAllx16
import Derived.Test.YtdlgjhckmkmjhaaQabase
namespace Go.Proofs.Ytdlgjhckmkmjhaa.Pure
open Go.RowKit Go.Proofs.Ytdlgjhckmkmjhaa.All Go.Proofs.YtdlgjhckmkmjhaaW.PrintWords Go.Proofs.YtdlgjhckmkmjhaaW.PrintLast
set_option linter.unusedVariables false
set_option linter.unusedSimpArgs false

theorem slices_Index_l0 (l : List ByteArray) (s : ByteArray) (hl : (l.length : Int) ≤ 9223372036854775807) : ∀ (d k i : Nat), l.length - i = d → i ≤ l.length → d < k →
    ∃ r, slices_Index_string_string.l0 k l s (l.length : Int) i = some r ∧ (0 ≤ r ↔ hasB s (l.drop i) = true) := by
  intro d
  induction d with
  | zero =>
    intro k i hd hi hk
    obtain ⟨k, rfl⟩ := succ_of hk
    simp only [slices_Index_string_string.l0]
    rw [if_neg (by omega), List.drop_eq_nil_of_le (by omega)]
    exact ⟨-1, rfl, by simp [hasB]⟩
  | succ d ih =>
    intro k i hd hi hk
    obtain ⟨k, rfl⟩ := succ_of hk
    have hlt : i < l.length := by omega
    simp only [slices_Index_string_string.l0]
    rw [if_pos (by omega), if_pos (by omega), if_pos (by omega), rd_B l i hlt, hasB_drop hlt, nat_round (n := l.length) hlt hl]
    by_cases h : l[i] = s
    · rw [if_pos (by rw [h]), decide_eq_true h]
      exact ⟨_, rfl, by simp⟩
    · rw [if_neg (fun e => h (toList_inj e).symm), decide_eq_false h, Bool.false_or]
      exact ih k (i + 1) (by omega) (by omega) (by omega)
theorem slices_Contains_f {k : Nat} {l : List ByteArray} {s : ByteArray} (hl : (l.length : Int) ≤ 9223372036854775807) (hk : l.length < k) : slices_Contains_string_string.f k l s = some (hasB s l) := by
  obtain ⟨r, h1, h2⟩ := slices_Index_l0 l s hl l.length k 0 (by omega) (by omega) hk
  unfold slices_Contains_string_string.f slices_Index_string_string.f
  rw [show (0 : Int) = ((0 : Nat) : Int) from rfl, h1, Option.bind_some]
  rw [List.drop_zero] at h2
  refine congrArg some ?_
  rw [Bool.eq_iff_iff, decide_eq_true_eq]; exact h2
theorem slices_Equal_l0 (a b : List ByteArray) (hab : a.length = b.length) (hl : (a.length : Int) ≤ 9223372036854775807) : ∀ (d k i : Nat), a.length - i = d → i ≤ a.length → d < k →
    slices_Equal_string_string.l0 k a b (a.length : Int) i = some (decide (a.drop i = b.drop i)) := by
  intro d
  induction d with
  | zero =>
    intro k i hd hi hk
    obtain ⟨k, rfl⟩ := succ_of hk
    simp only [slices_Equal_string_string.l0]
    rw [if_neg (by omega), List.drop_eq_nil_of_le (by omega), List.drop_eq_nil_of_le (by omega)]; simp
  | succ d ih =>
    intro k i hd hi hk
    obtain ⟨k, rfl⟩ := succ_of hk
    have hlt : i < a.length := by omega
    have hlt2 : i < b.length := by omega
    simp only [slices_Equal_string_string.l0]
    rw [if_pos (by omega), if_pos (by omega), if_pos (by omega), if_pos (by omega), rd_B a i hlt, rd_B b i hlt2, nat_round (n := a.length) hlt hl, ih k (i + 1) (by omega) (by omega) (by omega)]
    by_cases h : a[i] = b[i]
    · rw [if_pos (by rw [h])]
      exact congrArg some (decide_eq_decide.2 (by rw [drop_eq hlt hlt2]; exact ⟨fun e => ⟨h, e⟩, fun e => e.2⟩))
    · rw [if_neg (fun e => h (toList_inj e))]
      exact congrArg some (decide_eq_false fun e => h ((drop_eq hlt hlt2).1 e).1).symm
theorem slices_Equal_f {k : Nat} {a b : List ByteArray} (hl : (a.length : Int) ≤ 9223372036854775807) (hk : a.length < k) : slices_Equal_string_string.f k a b = some (decide (a = b)) := by
  unfold slices_Equal_string_string.f
  by_cases h : a.length = b.length
  · rw [if_pos (by omega), show (0 : Int) = ((0 : Nat) : Int) from rfl, slices_Equal_l0 a b h hl a.length k 0 (by omega) (by omega) hk, List.drop_zero, List.drop_zero]
  · rw [if_neg (by omega)]
    exact congrArg some (by simp; intro e; exact h (by rw [e]))

end Go.Proofs.Ytdlgjhckmkmjhaa.Pure
