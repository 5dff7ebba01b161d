/- What the printed functions answer, in plain words: part b_word of this session's lemmas. No condition of a statement lies here. -/
import Derived.Test.YtdlgjhckmkmjhaaAllx0
import Derived.Test.YtdlgjhckmkmjhaaAllx1
import Derived.Test.YtdlgjhckmkmjhaaAllx2
import Derived.Test.YtdlgjhckmkmjhaaQabase
namespace Go.Proofs.Ytdlgjhckmkmjhaa.Pure
open Go.RowKit Go.Proofs.Ytdlgjhckmkmjhaa.All Go.Proofs.YtdlgjhckmkmjhaaW.PrintWords Go.Proofs.YtdlgjhckmkmjhaaW.PrintLast
set_option linter.unusedVariables false
set_option linter.unusedSimpArgs false

/-! ### Lower -/
theorem spec_Lower_l0 (s : ByteArray) (hs : (s.size : Int) ≤ 140737488355327) : ∀ (d k i : Nat) (acc : List Int), s.size - i = d → i ≤ s.size → acc.length ≤ i → d < k →
    spec_Lower.l0 k s acc i = some ⟨(acc.map oct ++ ((B s).drop i).map low1).toArray⟩ := by
  intro d
  induction d with
  | zero =>
    intro k i acc hd hi ha hk
    obtain ⟨k, rfl⟩ := succ_of hk
    simp only [spec_Lower.l0]
    rw [if_neg (by omega), List.drop_eq_nil_of_le (by rw [B_len]; omega), strOf]; simp
  | succ d ih =>
    intro k i acc hd hi ha hk
    obtain ⟨k, rfl⟩ := succ_of hk
    have hl : i < (B s).length := by rw [B_len]; omega
    have hlen : acc.length < 140737488355328 := by omega
    have step : ∀ x : Int, oct x = low1 (B s)[i] → spec_Lower.l0 k s (acc ++ [x]) ((i + 1 : Nat) : Int) = some ⟨(acc.map oct ++ ((B s).drop i).map low1).toArray⟩ := fun x hx => by
      rw [ih k (i + 1) (acc ++ [x]) (by omega) (by omega) (by simp; omega) (by omega), drop_at hl, List.map_append, List.append_assoc, List.map_cons, List.map_cons, hx]
      rfl
    have hw := nat_round (i := i) (n := s.size) (by omega) (by omega)
    have hc := ((B s)[i]).toNat_lt
    simp only [spec_Lower.l0]
    rw [if_pos (by omega), if_pos (by omega), bt_get s i hl, hw]
    split
    · split
      · try rw [if_pos hlen]
        refine step _ ?_
        unfold low1 oct
        rw [if_pos (by omega), show ((((B s)[i]).toNat : Int) + 32) % 256 = ((((B s)[i]).toNat + 32 : Nat) : Int) by omega, Int.toNat_natCast]
      · try rw [if_pos hlen]
        exact step _ (by rw [oct_nat]; unfold low1; rw [if_neg (by omega)])
    · try rw [if_pos hlen]
      exact step _ (by rw [oct_nat]; unfold low1; rw [if_neg (by omega)])
def lowB (s : ByteArray) : ByteArray := ⟨((B s).map low1).toArray⟩
theorem B_lowB (s : ByteArray) : B (lowB s) = (B s).map low1 := B_mk _
theorem spec_Lower_f {k : Nat} {s : ByteArray} (hs : (s.size : Int) ≤ 140737488355327) (hk : s.size < k) : spec_Lower.f k s = some (lowB s) := by
  unfold spec_Lower.f
  have := spec_Lower_l0 s hs s.size k 0 [] (by omega) (by omega) (by simp) hk
  simpa [lowB] using this
theorem impl_Lower_f {s : ByteArray} (hs : (s.size : Int) ≤ 140737488355327) : impl_Lower.f s = some (lowB s) := by
  unfold impl_Lower.f
  rw [if_pos (by omega)]; rfl
/-! ### TokenOk -/
def tok1 (c : UInt8) : Bool := decide (97 ≤ c.toNat ∧ c.toNat ≤ 122 ∨ 48 ≤ c.toNat ∧ c.toNat ≤ 57 ∨ c.toNat = 45)
def tokB (s : ByteArray) : Bool := (B s).all tok1 && decide (1 ≤ s.size ∧ s.size ≤ 20)
theorem spec_l1In_f (x a b : Int) : spec_l1In.f x a b = some (decide (a ≤ x ∧ x ≤ b)) := by
  unfold spec_l1In.f
  by_cases h : x ≥ a <;> simp [h]
theorem impl_inRange_f (x a b : Int) : impl_inRange.f x a b = some (decide (a ≤ x ∧ x ≤ b)) := by
  unfold impl_inRange.f
  by_cases h : x ≥ a <;> simp [h]
theorem tok_round (k : Nat) (s : ByteArray) (i : Nat) (hs : (s.size : Int) ≤ 9223372036854775807) (hi : i < s.size) (hl : i < (B s).length) :
    spec_TokenOk.l0 (k + 1) s i = (if tok1 (B s)[i] then spec_TokenOk.l0 k s ((i + 1 : Nat) : Int) else some false) ∧ impl_TokenOk.l0 (k + 1) s i = (if tok1 (B s)[i] then impl_TokenOk.l0 k s ((i + 1 : Nat) : Int) else some false) := by
  have hw := nat_round (i := i) (n := s.size) hi hs
  simp only [spec_TokenOk.l0, impl_TokenOk.l0]
  rw [if_pos (by omega), if_pos (by omega), bt_get s i hl, hw]
  unfold tok1
  generalize ((B s)[i]).toNat = c
  constructor
  all_goals
    by_cases h : 97 ≤ c ∧ c ≤ 122 ∨ 48 ≤ c ∧ c ≤ 57 ∨ c = 45
    · simp only [decide_eq_true h, if_true]
      repeat' (split <;> try rfl)
      all_goals omega
    · simp only [decide_eq_false h, Bool.false_eq_true, if_false]
      repeat' (split <;> try rfl)
      all_goals omega
theorem tok_l0 (s : ByteArray) (hs : (s.size : Int) ≤ 9223372036854775807) : ∀ (d k i : Nat), s.size - i = d → i ≤ s.size → d < k →
    spec_TokenOk.l0 k s i = some (((B s).drop i).all tok1 && decide (1 ≤ s.size ∧ s.size ≤ 20)) ∧ impl_TokenOk.l0 k s i = some (((B s).drop i).all tok1 && decide (1 ≤ s.size ∧ s.size ≤ 20)) := by
  intro d
  induction d with
  | zero =>
    intro k i hd hi hk
    obtain ⟨k, rfl⟩ := succ_of hk
    simp only [spec_TokenOk.l0, impl_TokenOk.l0, spec_l1In_f, impl_inRange_f, Option.bind_some]
    have hni : ¬ ((i : Int) < (s.size : Int)) := by omega
    simp only [if_neg hni]
    rw [List.drop_eq_nil_of_le (by rw [B_len]; omega)]
    have : decide ((1 : Int) ≤ (s.size : Int) ∧ (s.size : Int) ≤ 20) = decide (1 ≤ s.size ∧ s.size ≤ 20) := decide_eq_decide.2 (by omega)
    rw [this]; simp
  | succ d ih =>
    intro k i hd hi hk
    obtain ⟨k, rfl⟩ := succ_of hk
    have hl : i < (B s).length := by rw [B_len]; omega
    obtain ⟨h1, h2⟩ := tok_round k s i hs (by omega) hl
    obtain ⟨i1, i2⟩ := ih k (i + 1) (by omega) (by omega) (by omega)
    rw [h1, h2, i1, i2, drop_at hl, List.all_cons]
    cases tok1 (B s)[i] <;> simp
theorem spec_TokenOk_f {k : Nat} {s : ByteArray} (hs : (s.size : Int) ≤ 9223372036854775807) (hk : s.size < k) : spec_TokenOk.f k s = some (tokB s) := (tok_l0 s hs s.size k 0 (by omega) (by omega) hk).1
theorem impl_TokenOk_f {k : Nat} {s : ByteArray} (hs : (s.size : Int) ≤ 9223372036854775807) (hk : s.size < k) : impl_TokenOk.f k s = some (tokB s) := (tok_l0 s hs s.size k 0 (by omega) (by omega) hk).2
/-! ### Plus -/
def plusI (a b : Int) : Int := min (min (max a 0) 1000000 + min (max b 0) 1000000) 1000000
theorem spec_l1Min_f (a b : Int) : spec_l1Min.f a b = some (min a b) := by
  unfold spec_l1Min.f
  split <;> (congr 1; omega)
theorem spec_l1Max_f (a b : Int) : spec_l1Max.f a b = some (max a b) := by
  unfold spec_l1Max.f
  split <;> (congr 1; omega)
theorem impl_within_f (a : Int) : impl_within.f a = some (min (max a 0) 1000000) := by
  unfold impl_within.f mx mn
  congr 1
  split <;> split <;> omega
theorem spec_Plus_f (a b : Int) : spec_Plus.f a b = some (plusI a b) := by
  unfold spec_Plus.f plusI
  simp only [spec_l1Min_f, spec_l1Max_f, Option.bind_some]
  rw [w64 (by omega)]
theorem impl_Plus_f (a b : Int) : impl_Plus.f a b = some (plusI a b) := by
  unfold impl_Plus.f plusI
  simp only [impl_within_f, Option.bind_some]
  rw [w64 (by omega)]
  congr 1; omega

end Go.Proofs.Ytdlgjhckmkmjhaa.Pure
