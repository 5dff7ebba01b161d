/- What the printed functions answer, in plain words: lemmas of this session. No condition of a statement lies here. -/
import Derived.Test.YtjlpjbkpmmpojaaGreatDoorKKeptOfAllx0
import Derived.Test.YtjlpjbkpmmpojaaGreatDoorKKeptOfAllx13
import Derived.Test.YtjlpjbkpmmpojaaGreatDoorKKeptOfAllx39
import Derived.Test.YtjlpjbkpmmpojaaGreatDoorKKeptOfQh64abedb4
import Derived.Test.YtjlpjbkpmmpojaaGreatDoorKKeptOfQh738eabfc
import Derived.Test.YtjlpjbkpmmpojaaGreatDoorKKeptOfQh7c28969f
import Derived.Test.YtjlpjbkpmmpojaaGreatDoorKKeptOfQh9b113787
import Derived.Test.YtjlpjbkpmmpojaaGreatDoorKKeptOfQhaa973049
import Derived.Test.YtjlpjbkpmmpojaaGreatDoorKKeptOfQhd4f6af10
namespace Go.Proofs.YtjlpjbkpmmpojaaGreatDoor.Pure
open Go.RowKit Go.Proofs.YtjlpjbkpmmpojaaGreatDoor.All Go.Proofs.YtjlpjbkpmmpojaaGreatDoorW.PrintWords Go.Proofs.YtjlpjbkpmmpojaaGreatDoorW.PrintLast
set_option linter.unusedVariables false
set_option linter.unusedSimpArgs false

theorem slices_Index_l0 (l : List ByteArray) (s : ByteArray) (hl : (l.length : Int) ≤ 9223372036854775807) : ∀ (d k i : Nat), l.length - i = d → i ≤ l.length → d < k →
    ∃ r, slices_Index_string_string.l0 k l s (l.length : Int) i = some r ∧ (0 ≤ r ↔ hasB s (l.drop i) = true) := by
  intro d
  induction d with
  | zero =>
    intro k i hd hi hk
    obtain ⟨k, rfl⟩ := succ_of hk
    simp only [slices_Index_string_string.l0]
    rw [if_neg (by omega), List.drop_eq_nil_of_le (by omega)]
    exact ⟨-1, rfl, by simp [hasB]⟩
  | succ d ih =>
    intro k i hd hi hk
    obtain ⟨k, rfl⟩ := succ_of hk
    have hlt : i < l.length := by omega
    simp only [slices_Index_string_string.l0]
    rw [if_pos (by omega), if_pos (by omega), if_pos (by omega), rd_B l i hlt, hasB_drop hlt, nat_round (n := l.length) hlt hl]
    by_cases h : l[i] = s
    · rw [if_pos (by rw [h]), decide_eq_true h]
      exact ⟨_, rfl, by simp⟩
    · rw [if_neg (fun e => h (toList_inj e).symm), decide_eq_false h, Bool.false_or]
      exact ih k (i + 1) (by omega) (by omega) (by omega)
theorem slices_Contains_f {k : Nat} {l : List ByteArray} {s : ByteArray} (hl : (l.length : Int) ≤ 9223372036854775807) (hk : l.length < k) : slices_Contains_string_string.f k l s = some (hasB s l) := by
  obtain ⟨r, h1, h2⟩ := slices_Index_l0 l s hl l.length k 0 (by omega) (by omega) hk
  unfold slices_Contains_string_string.f slices_Index_string_string.f
  rw [show (0 : Int) = ((0 : Nat) : Int) from rfl, h1, Option.bind_some]
  rw [List.drop_zero] at h2
  refine congrArg some ?_
  rw [Bool.eq_iff_iff, decide_eq_true_eq]; exact h2
theorem slices_Equal_l0 (a b : List ByteArray) (hab : a.length = b.length) (hl : (a.length : Int) ≤ 9223372036854775807) : ∀ (d k i : Nat), a.length - i = d → i ≤ a.length → d < k →
    slices_Equal_string_string.l0 k a b (a.length : Int) i = some (decide (a.drop i = b.drop i)) := by
  intro d
  induction d with
  | zero =>
    intro k i hd hi hk
    obtain ⟨k, rfl⟩ := succ_of hk
    simp only [slices_Equal_string_string.l0]
    rw [if_neg (by omega), List.drop_eq_nil_of_le (by omega), List.drop_eq_nil_of_le (by omega)]; simp
  | succ d ih =>
    intro k i hd hi hk
    obtain ⟨k, rfl⟩ := succ_of hk
    have hlt : i < a.length := by omega
    have hlt2 : i < b.length := by omega
    simp only [slices_Equal_string_string.l0]
    rw [if_pos (by omega), if_pos (by omega), if_pos (by omega), if_pos (by omega), rd_B a i hlt, rd_B b i hlt2, nat_round (n := a.length) hlt hl, ih k (i + 1) (by omega) (by omega) (by omega)]
    by_cases h : a[i] = b[i]
    · rw [if_pos (by rw [h])]
      exact congrArg some (decide_eq_decide.2 (by rw [drop_eq hlt hlt2]; exact ⟨fun e => ⟨h, e⟩, fun e => e.2⟩))
    · rw [if_neg (fun e => h (toList_inj e))]
      exact congrArg some (decide_eq_false fun e => h ((drop_eq hlt hlt2).1 e).1).symm
theorem slices_Equal_f {k : Nat} {a b : List ByteArray} (hl : (a.length : Int) ≤ 9223372036854775807) (hk : a.length < k) : slices_Equal_string_string.f k a b = some (decide (a = b)) := by
  unfold slices_Equal_string_string.f
  by_cases h : a.length = b.length
  · rw [if_pos (by omega), show (0 : Int) = ((0 : Nat) : Int) from rfl, slices_Equal_l0 a b h hl a.length k 0 (by omega) (by omega) hk, List.drop_zero, List.drop_zero]
  · rw [if_neg (by omega)]
    exact congrArg some (by simp; intro e; exact h (by rw [e]))
def suitsF (ns vs : List ByteArray) (l : List S116) : Bool := if hasB ⟨#[42]⟩ ns = true then false else decide (valuesF l ns = vs)
theorem impl_Suits_f {k : Nat} {ns vs : List ByteArray} {l : List S116} (hn : ns.length ≤ 1048576) (hl : l.length < 4398046511104) (hk : ns.length + l.length < k) : impl_Suits.f k ns vs l = some (suitsF ns vs l) := by
  unfold impl_Suits.f suitsF
  rw [slices_Contains_f (by omega) (by omega), Option.bind_some]
  by_cases h : hasB ⟨#[42]⟩ ns = true
  · rw [if_pos h, if_pos h]
  · rw [if_neg h, if_neg h, impl_ValuesOf_f hn hl hk, Option.bind_some, slices_Equal_f (by simp [valuesF]; omega) (by simp [valuesF]; omega), Option.bind_some]
theorem spec_DrawObjOf_f {k : Nat} {l : List Int} (hl : (l.length : Int) ≤ 4611686018427387904) (hk : l.length + 300 < k) : ∃ m p q b st r rb t, spec_DrawObjOf.f k l = some (m, p, q, b, st, r, rb, t) ∧ p.size ≤ 61 ∧ SmallF 61 q ∧ SmallF 61 r := by
  unfold spec_DrawObjOf.f
  obtain ⟨h, e⟩ := spec_l1New_f (k := k) hl (by omega)
  rw [e, Option.bind_some]
  dsimp only
  obtain ⟨v, c1, h1, e1, _, _, _, c10, c11⟩ := spec_l1Below_f l 0 h 3 (by omega) hl (by omega)
  rw [e1, Option.bind_some]
  dsimp only
  by_cases hv : v > 0
  · obtain ⟨m, p, q, b, c2, h2, e2, hm, hp, hq, hq3, hb, c20, c21⟩ := spec_l3DrawReq_f (k := k) (i := c1) (h := h1) hl c10 c11 (by omega)
    rw [if_pos hv, e2, Option.bind_some]
    dsimp only
    rw [spec_Drop_f (by omega) (by omega), Option.bind_some]
    have hd1 : SmallF 26 (dropF (⟨#[99, 97, 99, 104, 101, 45, 99, 111, 110, 116, 114, 111, 108]⟩ : ByteArray) q) := dropF_SmallF hq
    generalize dropF (⟨#[99, 97, 99, 104, 101, 45, 99, 111, 110, 116, 114, 111, 108]⟩ : ByteArray) q = q1 at hd1 ⊢
    obtain ⟨st, r, rb, c3, h3, e3, hr, hr6, hrb, c30, c31⟩ := spec_l3DrawResp_f (k := k) (i := c2) (h := h2) hl c20 c21 (by omega)
    rw [e3, Option.bind_some]
    dsimp only
    rw [spec_Put_f (by omega) (by omega), Option.bind_some]
    have hp1 := putF_length (⟨#[99, 97, 99, 104, 101, 45, 99, 111, 110, 116, 114, 111, 108]⟩ : ByteArray) (⟨#[109, 97, 120, 45, 97, 103, 101, 61, 53]⟩ : ByteArray) r
    have hp2 := putF_small (K := 27) (n := (⟨#[99, 97, 99, 104, 101, 45, 99, 111, 110, 116, 114, 111, 108]⟩ : ByteArray)) (v := (⟨#[109, 97, 120, 45, 97, 103, 101, 61, 53]⟩ : ByteArray)) (by decide) (by decide) hr.2
    obtain ⟨t, c4, h4, e4, _⟩ := spec_l7DrawTime_f l c3 h3 c30 hl c31
    rw [e4, Option.bind_some]
    exact ⟨_, _, _, _, _, _, _, _, rfl, by omega, ⟨by have := hd1.1; omega, fun x hx => by have := hd1.2 x hx; omega⟩, ⟨by first | omega | (dsimp only; omega), fun x hx => by have := hp2 x hx; omega⟩⟩
  · obtain ⟨m, p, q, b, st, r, rb, e2, hp, hq, _, hr, _⟩ := spec_l9Draw_f (k := k) hl (by omega)
    rw [if_neg hv, e2, Option.bind_some]
    dsimp only
    rw [Option.bind_some]
    dsimp only
    obtain ⟨t, c4, h4, e4, _⟩ := spec_l7DrawTime_f l 0 h (by omega) hl (by omega)
    rw [e4, Option.bind_some]
    exact ⟨_, _, _, _, _, _, _, _, rfl, hp, ⟨by have := hq.1; first | omega | (dsimp only; omega), fun x hx => by have := hq.2 x hx; omega⟩, ⟨by have := hr.1; first | omega | (dsimp only; omega), fun x hx => by have := hr.2 x hx; omega⟩⟩
theorem hasB_star {l : List ByteArray} (h : ∀ x ∈ l, tokB x = true) : hasB ⟨#[42]⟩ l = false := by
  unfold hasB
  rw [List.any_eq_false]
  intro x hx hc
  have e : x = ⟨#[42]⟩ := by simpa using hc
  have := h x hx
  rw [e] at this
  exact absurd this (by decide)

end Go.Proofs.YtjlpjbkpmmpojaaGreatDoor.Pure
