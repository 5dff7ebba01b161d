/- What the printed functions answer, in plain words: part h_suits of this session's lemmas. No condition of a statement lies here. -/
import Derived.Test.YtdlgjhckmkmjhaaAllx0
import Derived.Test.YtdlgjhckmkmjhaaAllx15
import Derived.Test.YtdlgjhckmkmjhaaAllx16
import Derived.Test.YtdlgjhckmkmjhaaQabase
import Derived.Test.YtdlgjhckmkmjhaaQfslices
import Derived.Test.YtdlgjhckmkmjhaaQgvaluesOf
namespace Go.Proofs.Ytdlgjhckmkmjhaa.Pure
open Go.RowKit Go.Proofs.Ytdlgjhckmkmjhaa.All Go.Proofs.YtdlgjhckmkmjhaaW.PrintWords Go.Proofs.YtdlgjhckmkmjhaaW.PrintLast
set_option linter.unusedVariables false
set_option linter.unusedSimpArgs false

theorem spec_l8Star_l0 (l : List ByteArray) (hl : (l.length : Int) ≤ 9223372036854775807) : ∀ (d k i : Nat), l.length - i = d → i ≤ l.length → d < k →
    spec_l8Star.l0 k l i = some (hasB ⟨#[42]⟩ (l.drop i)) := by
  intro d
  induction d with
  | zero =>
    intro k i hd hi hk
    obtain ⟨k, rfl⟩ := succ_of hk
    simp only [spec_l8Star.l0]
    rw [if_neg (by omega), List.drop_eq_nil_of_le (by omega)]; rfl
  | succ d ih =>
    intro k i hd hi hk
    obtain ⟨k, rfl⟩ := succ_of hk
    have hlt : i < l.length := by omega
    simp only [spec_l8Star.l0]
    rw [if_pos (by omega), if_pos (by omega), rd_B l i hlt, hasB_drop hlt, nat_round (n := l.length) hlt hl]
    have e42 : (⟨#[42]⟩ : ByteArray).toList = [42] := by rw [toList_B]; rfl
    by_cases h : l[i] = (⟨#[42]⟩ : ByteArray)
    · rw [if_pos (by rw [h, e42]), decide_eq_true h, Bool.true_or]
    · rw [if_neg (fun e => h (toList_inj (e.trans e42.symm))), ih k (i + 1) (by omega) (by omega) (by omega), decide_eq_false h, Bool.false_or]
theorem spec_l8Star_f {k : Nat} {l : List ByteArray} (hl : (l.length : Int) ≤ 9223372036854775807) (hk : l.length < k) : spec_l8Star.f k l = some (hasB ⟨#[42]⟩ l) := by
  have := spec_l8Star_l0 l hl l.length k 0 (by omega) (by omega) hk
  simpa [spec_l8Star.f] using this
theorem spec_l8Texts_l0 (a b : List ByteArray) (hl : (a.length : Int) ≤ 4611686018427387904) : ∀ (d k i : Nat), a.length - i = d → i ≤ a.length → i ≤ b.length → d * 2 + 1 < k →
    spec_l8Texts.l0 k a b i = some (decide (a.drop i = b.drop i)) := by
  intro d
  induction d with
  | zero =>
    intro k i hd hi hi2 hk
    obtain ⟨k, rfl⟩ := succ_of (show 1 < k by omega)
    obtain ⟨k, rfl⟩ := succ_of (show 0 < k by omega)
    simp only [spec_l8Texts.l0, spec_l8Texts.j1]
    rw [if_neg (by omega), List.drop_eq_nil_of_le (show a.length ≤ i by omega)]
    simp only [Bool.false_eq_true, if_false]
    refine congrArg some ?_
    rw [Bool.eq_iff_iff]
    simp only [beq_iff_eq, decide_eq_true_eq, List.nil_eq, List.drop_eq_nil_iff]
    omega
  | succ d ih =>
    intro k i hd hi hi2 hk
    obtain ⟨k, rfl⟩ := succ_of (show 1 < k by omega)
    obtain ⟨k, rfl⟩ := succ_of (show 0 < k by omega)
    have hlt : i < a.length := by omega
    simp only [spec_l8Texts.l0, spec_l8Texts.j1]
    rw [if_pos (by omega)]
    by_cases h2 : i < b.length
    · rw [if_pos (by simp; omega), if_pos (by omega), if_pos (by omega), if_pos (by omega), rd_B a i hlt, rd_B b i h2, nat_round (n := a.length) hlt (by omega), ih k (i + 1) (by omega) (by omega) (by omega) (by omega)]
      by_cases h : a[i] = b[i]
      · rw [if_pos (by rw [h])]
        exact congrArg some (decide_eq_decide.2 (by rw [drop_eq hlt h2]; exact ⟨fun e => ⟨h, e⟩, fun e => e.2⟩))
      · rw [if_neg (fun e => h (toList_inj e))]
        exact congrArg some (decide_eq_false fun e => h ((drop_eq hlt h2).1 e).1).symm
    · rw [if_neg (by simp; omega), List.drop_eq_nil_of_le (show b.length ≤ i by omega)]
      refine congrArg some ?_
      rw [Bool.eq_iff_iff]
      simp only [beq_iff_eq, decide_eq_true_eq, List.drop_eq_nil_iff]
      omega
theorem spec_l8Texts_f {k : Nat} {a b : List ByteArray} (hl : (a.length : Int) ≤ 4611686018427387904) (hk : a.length * 2 + 1 < k) : spec_l8Texts.f k a b = some (decide (a = b)) := by
  have := spec_l8Texts_l0 a b hl a.length k 0 (by omega) (by omega) (by omega) hk
  simpa [spec_l8Texts.f] using this
def suitsF (ns vs : List ByteArray) (l : List S81) : Bool := if hasB ⟨#[42]⟩ ns = true then false else decide (valuesF l ns = vs)
theorem impl_Suits_f {k : Nat} {ns vs : List ByteArray} {l : List S81} (hn : ns.length ≤ 1048576) (hl : l.length < 4398046511104) (hk : ns.length + l.length < k) : impl_Suits.f k ns vs l = some (suitsF ns vs l) := by
  unfold impl_Suits.f suitsF
  rw [slices_Contains_f (by omega) (by omega), Option.bind_some]
  by_cases h : hasB ⟨#[42]⟩ ns = true
  · rw [if_pos h, if_pos h]
  · rw [if_neg h, if_neg h, impl_ValuesOf_f hn hl hk, Option.bind_some, slices_Equal_f (by simp [valuesF]; omega) (by simp [valuesF]; omega), Option.bind_some]
theorem spec_Suits_f {k : Nat} {ns vs : List ByteArray} {l : List S81} (hn : ns.length ≤ 1048576) (hl : l.length < 4398046511104) (hk : ns.length * 2 + 1 + l.length < k) : spec_Suits.f k ns vs l = some (suitsF ns vs l) := by
  unfold spec_Suits.f suitsF
  rw [spec_l8Star_f (by omega) (by omega), Option.bind_some]
  by_cases h : hasB ⟨#[42]⟩ ns = true
  · rw [if_pos h, if_pos h]
  · rw [if_neg h, if_neg h, spec_ValuesOf_f hn hl (by omega), Option.bind_some, spec_l8Texts_f (by simp [valuesF]; omega) (by simp [valuesF]; omega), Option.bind_some]

end Go.Proofs.Ytdlgjhckmkmjhaa.Pure
