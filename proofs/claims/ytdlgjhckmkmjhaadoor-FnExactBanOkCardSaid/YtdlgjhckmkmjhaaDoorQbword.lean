/- What the printed functions answer, in plain words: part b_word of this session's lemmas. No condition of a statement lies here. -/
import Derived.Test.YtdlgjhckmkmjhaaDoorAllx1
import Derived.Test.YtdlgjhckmkmjhaaDoorAllx5
import Derived.Test.YtdlgjhckmkmjhaaDoorAllx6
import Derived.Test.YtdlgjhckmkmjhaaDoorQabase
namespace Go.Proofs.YtdlgjhckmkmjhaaDoor.Pure
open Go.RowKit Go.Proofs.YtdlgjhckmkmjhaaDoor.All Go.Proofs.YtdlgjhckmkmjhaaDoorW.PrintWords Go.Proofs.YtdlgjhckmkmjhaaDoorW.PrintLast
set_option linter.unusedVariables false
set_option linter.unusedSimpArgs false

/-! ### TokenOk -/
def tok1 (c : UInt8) : Bool := decide (97 ≤ c.toNat ∧ c.toNat ≤ 122 ∨ 48 ≤ c.toNat ∧ c.toNat ≤ 57 ∨ c.toNat = 45)
def tokB (s : ByteArray) : Bool := (B s).all tok1 && decide (1 ≤ s.size ∧ s.size ≤ 20)
theorem spec_l1In_f (x a b : Int) : spec_l1In.f x a b = some (decide (a ≤ x ∧ x ≤ b)) := by
  unfold spec_l1In.f
  by_cases h : x ≥ a <;> simp [h]
theorem impl_inRange_f (x a b : Int) : impl_inRange.f x a b = some (decide (a ≤ x ∧ x ≤ b)) := by
  unfold impl_inRange.f
  by_cases h : x ≥ a <;> simp [h]
theorem tok_round (k : Nat) (s : ByteArray) (i : Nat) (hs : (s.size : Int) ≤ 9223372036854775807) (hi : i < s.size) (hl : i < (B s).length) :
    spec_TokenOk.l0 (k + 1) s i = (if tok1 (B s)[i] then spec_TokenOk.l0 k s ((i + 1 : Nat) : Int) else some false) ∧ impl_TokenOk.l0 (k + 1) s i = (if tok1 (B s)[i] then impl_TokenOk.l0 k s ((i + 1 : Nat) : Int) else some false) := by
  have hw := nat_round (i := i) (n := s.size) hi hs
  simp only [spec_TokenOk.l0, impl_TokenOk.l0]
  rw [if_pos (by omega), if_pos (by omega), bt_get s i hl, hw]
  unfold tok1
  generalize ((B s)[i]).toNat = c
  constructor
  all_goals
    by_cases h : 97 ≤ c ∧ c ≤ 122 ∨ 48 ≤ c ∧ c ≤ 57 ∨ c = 45
    · simp only [decide_eq_true h, if_true]
      repeat' (split <;> try rfl)
      all_goals omega
    · simp only [decide_eq_false h, Bool.false_eq_true, if_false]
      repeat' (split <;> try rfl)
      all_goals omega
theorem tok_l0 (s : ByteArray) (hs : (s.size : Int) ≤ 9223372036854775807) : ∀ (d k i : Nat), s.size - i = d → i ≤ s.size → d < k →
    spec_TokenOk.l0 k s i = some (((B s).drop i).all tok1 && decide (1 ≤ s.size ∧ s.size ≤ 20)) ∧ impl_TokenOk.l0 k s i = some (((B s).drop i).all tok1 && decide (1 ≤ s.size ∧ s.size ≤ 20)) := by
  intro d
  induction d with
  | zero =>
    intro k i hd hi hk
    obtain ⟨k, rfl⟩ := succ_of hk
    simp only [spec_TokenOk.l0, impl_TokenOk.l0, spec_l1In_f, impl_inRange_f, Option.bind_some]
    have hni : ¬ ((i : Int) < (s.size : Int)) := by omega
    simp only [if_neg hni]
    rw [List.drop_eq_nil_of_le (by rw [B_len]; omega)]
    have : decide ((1 : Int) ≤ (s.size : Int) ∧ (s.size : Int) ≤ 20) = decide (1 ≤ s.size ∧ s.size ≤ 20) := decide_eq_decide.2 (by omega)
    rw [this]; simp
  | succ d ih =>
    intro k i hd hi hk
    obtain ⟨k, rfl⟩ := succ_of hk
    have hl : i < (B s).length := by rw [B_len]; omega
    obtain ⟨h1, h2⟩ := tok_round k s i hs (by omega) hl
    obtain ⟨i1, i2⟩ := ih k (i + 1) (by omega) (by omega) (by omega)
    rw [h1, h2, i1, i2, drop_at hl, List.all_cons]
    cases tok1 (B s)[i] <;> simp
theorem spec_TokenOk_f {k : Nat} {s : ByteArray} (hs : (s.size : Int) ≤ 9223372036854775807) (hk : s.size < k) : spec_TokenOk.f k s = some (tokB s) := (tok_l0 s hs s.size k 0 (by omega) (by omega) hk).1
theorem impl_TokenOk_f {k : Nat} {s : ByteArray} (hs : (s.size : Int) ≤ 9223372036854775807) (hk : s.size < k) : impl_TokenOk.f k s = some (tokB s) := (tok_l0 s hs s.size k 0 (by omega) (by omega) hk).2

end Go.Proofs.YtdlgjhckmkmjhaaDoor.Pure
