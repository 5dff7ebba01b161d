/- What the printed functions answer, in plain words: part g_drop of this session's lemmas. No condition of a statement lies here. -/
import Derived.Test.YtdlgjhckmkmjhaaAllx0
import Derived.Test.YtdlgjhckmkmjhaaAllx9
import Derived.Test.YtdlgjhckmkmjhaaQabase
import Derived.Test.YtdlgjhckmkmjhaaQdfieldfn
namespace Go.Proofs.Ytdlgjhckmkmjhaa.Pure
open Go.RowKit Go.Proofs.Ytdlgjhckmkmjhaa.All Go.Proofs.YtdlgjhckmkmjhaaW.PrintWords Go.Proofs.YtdlgjhckmkmjhaaW.PrintLast
set_option linter.unusedVariables false
set_option linter.unusedSimpArgs false

def skipI (j : Int) : Nat → List S81 → List S81
  | _, [] => []
  | i, x :: r => if (i : Int) = j then skipI j (i + 1) r else x :: skipI j (i + 1) r
theorem skipI_past (j : Int) : ∀ (l : List S81) (i : Nat), j < i → skipI j i l = l
  | [], _, _ => rfl
  | x :: r, i, h => by rw [skipI, if_neg (by omega), skipI_past j r (i + 1) (by omega)]
theorem skipI_at : ∀ (l : List S81) (i m : Nat), skipI ((i + m : Nat) : Int) i l = l.eraseIdx m
  | [], _, _ => rfl
  | x :: r, i, 0 => by rw [skipI, if_pos (by omega), skipI_past _ r _ (by omega)]; rfl
  | x :: r, i, m + 1 => by
    rw [skipI, if_neg (by omega), List.eraseIdx_cons_succ, ← skipI_at r (i + 1) m]
    rw [show i + (m + 1) = i + 1 + m by omega]
theorem skipI_len (j : Int) : ∀ (l : List S81) (i : Nat), (skipI j i l).length ≤ l.length
  | [], _ => Nat.le_refl _
  | x :: r, i => by
    have := skipI_len j r (i + 1)
    rw [skipI]; split <;> simp only [List.length_cons] <;> omega
theorem spec_Drop_l0 (l : List S81) (j : Int) (hl : l.length < 4398046511104) : ∀ (d k i : Nat) (acc : List S81), l.length - i = d → i ≤ l.length → acc.length ≤ i → d < k →
    spec_Drop.l0 k l j acc i = some (acc ++ skipI j i (l.drop i)) := by
  intro d
  induction d with
  | zero =>
    intro k i acc hd hi ha hk
    obtain ⟨k, rfl⟩ := succ_of hk
    simp only [spec_Drop.l0]
    rw [if_neg (by omega), List.drop_eq_nil_of_le (by omega), skipI, List.append_nil]
  | succ d ih =>
    intro k i acc hd hi ha hk
    obtain ⟨k, rfl⟩ := succ_of hk
    have hlt : i < l.length := by omega
    simp only [spec_Drop.l0]
    rw [if_pos (by omega), rd_F l i hlt, nat_round (n := l.length) hlt (by omega), drop_at hlt, skipI]
    by_cases h : (i : Int) = j
    · rw [if_pos h, if_pos h, ih k (i + 1) acc (by omega) (by omega) (by omega) (by omega)]
    · rw [if_neg h, if_neg h, if_pos (by omega), if_pos (by omega), ih k (i + 1) _ (by omega) (by omega) (by simp; omega) (by omega), List.append_assoc]
      rfl
theorem spec_Drop_f {k : Nat} {l : List S81} {n : ByteArray} (hl : l.length < 4398046511104) (hk : l.length < k) : spec_Drop.f k l n = some (dropF n l) := by
  unfold spec_Drop.f
  rw [spec_l2At_f (by omega) hk, Option.bind_some, show (0 : Int) = ((0 : Nat) : Int) from rfl, spec_Drop_l0 l _ hl l.length k 0 [] (by omega) (by omega) (by simp) hk, List.nil_append, List.drop_zero]
  rcases at_cases n n l 0 with ⟨h1, _, _, h4⟩ | ⟨j, hj, h1, _, _, _, h4⟩
  · rw [h1, h4, skipI_past _ _ _ (by omega)]
  · rw [h1, h4, skipI_at]
theorem impl_Drop_f {l : List S81} {n : ByteArray} (hl : l.length < 4398046511104) : impl_Drop.f l n = some (dropF n l) := by
  unfold impl_Drop.f
  rw [if_pos hl]
  rcases at_cases n n l 0 with ⟨h1, _, _, h4⟩ | ⟨j, hj, h1, _, _, _, h4⟩
  · rw [h1, h4, if_pos (by omega)]
  · rw [h1, h4, if_neg (by omega), Nat.zero_add, Int.toNat_natCast]

end Go.Proofs.Ytdlgjhckmkmjhaa.Pure
