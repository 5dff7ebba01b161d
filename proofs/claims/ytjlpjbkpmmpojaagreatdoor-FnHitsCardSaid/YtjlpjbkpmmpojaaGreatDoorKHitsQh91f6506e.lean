/- What the printed functions answer, in plain words: lemmas of this session. No condition of a statement lies here. -/
import Derived.Test.YtjlpjbkpmmpojaaGreatDoorKHitsAllx0
import Derived.Test.YtjlpjbkpmmpojaaGreatDoorKHitsAllx19
import Derived.Test.YtjlpjbkpmmpojaaGreatDoorKHitsAllx20
import Derived.Test.YtjlpjbkpmmpojaaGreatDoorKHitsAllx7
import Derived.Test.YtjlpjbkpmmpojaaGreatDoorKHitsQhd4f6af10
namespace Go.Proofs.YtjlpjbkpmmpojaaGreatDoor.Pure
open Go.RowKit Go.Proofs.YtjlpjbkpmmpojaaGreatDoor.All Go.Proofs.YtjlpjbkpmmpojaaGreatDoorW.PrintWords Go.Proofs.YtjlpjbkpmmpojaaGreatDoorW.PrintLast
set_option linter.unusedVariables false
set_option linter.unusedSimpArgs false

theorem spec_l1Min_f (a b : Int) : spec_l1Min.f a b = some (min a b) := by
  unfold spec_l1Min.f
  split <;> (congr 1; omega)
/-! ### CcRead -/
def isAge (w : ByteArray) : Bool := decide (8 ≤ w.size) && ((w.extract 0 8).toList == [109, 97, 120, 45, 97, 103, 101, 61])
def ageN (w : ByteArray) : Int := (numRead (w.extract 8 w.size)).1
def ccW (f0 f1 f2 f3 f4 : Bool) (f5 : Int) (w : ByteArray) : Bool × Bool × Bool × Bool × Bool × Int :=
  if w.toList = [110, 111, 45, 115, 116, 111, 114, 101] then (true, f1, f2, f3, f4, f5)
  else if w.toList = [110, 111, 45, 99, 97, 99, 104, 101] then (f0, true, f2, f3, f4, f5)
  else if w.toList = [112, 114, 105, 118, 97, 116, 101] then (f0, f1, true, f3, f4, f5)
  else if w.toList = [109, 117, 115, 116, 45, 114, 101, 118, 97, 108, 105, 100, 97, 116, 101] then (f0, f1, f2, true, f4, f5)
  else if isAge w = true then (f0, f1, f2, f3, true, if f4 = true then min f5 (ageN w) else ageN w) else (f0, f1, f2, f3, f4, f5)
def ccGo : List ByteArray → Bool × Bool × Bool × Bool × Bool × Int → Bool × Bool × Bool × Bool × Bool × Int
  | [], s => s
  | x :: r, s => ccGo r (ccW s.1 s.2.1 s.2.2.1 s.2.2.2.1 s.2.2.2.2.1 s.2.2.2.2.2 (lowB x))
def ccReadT (s : ByteArray) : Bool × Bool × Bool × Bool × Bool × Int := ccGo (splitT s) (false, false, false, false, false, 0)
theorem spec_l6Age_f {k : Nat} (w : ByteArray) (hk : 70 < k) : spec_l6Age.f k w = some (if isAge w = true then (ageN w, true) else (0, false)) := by
  unfold spec_l6Age.f isAge ageN
  by_cases h : 8 ≤ w.size
  · rw [if_neg (by omega), if_pos (by omega), if_pos (by omega), decide_eq_true h, Bool.true_and]
    by_cases h2 : (w.extract 0 8).toList = [109, 97, 120, 45, 97, 103, 101, 61]
    · rw [if_pos h2, spec_NumRead_f (by omega), Option.bind_some, if_pos (by rw [h2]; rfl)]
    · rw [if_neg h2, if_neg (by simpa using h2)]
  · rw [if_pos (by omega), decide_eq_false h]; rfl
theorem spec_CcRead_l0 (xs : List ByteArray) (hx : ∀ x ∈ xs, x.size ≤ 1048576) (hn : xs.length ≤ 1048577) : ∀ (d k i : Nat) (f0 f1 f2 f3 f4 : Bool) (f5 : Int), xs.length = i + d → 2 * d + 1048680 < k →
    spec_CcRead.l0 k xs i f0 f1 f2 f3 f4 f5 = some (ccGo (xs.drop i) (f0, f1, f2, f3, f4, f5)) := by
  intro d
  induction d with
  | zero =>
    intro k i f0 f1 f2 f3 f4 f5 hd hk
    obtain ⟨k, rfl⟩ := succ_of (show 0 < k by omega)
    simp only [spec_CcRead.l0]
    rw [if_neg (by omega), List.drop_eq_nil_of_le (by omega), ccGo]
  | succ d ih =>
    intro k i f0 f1 f2 f3 f4 f5 hd hk
    obtain ⟨k, rfl⟩ := succ_of (show 1 < k by omega)
    obtain ⟨k, rfl⟩ := succ_of (show 0 < k by omega)
    have hlt : i < xs.length := by omega
    have hs := hx _ (List.getElem_mem hlt)
    have ih1 := fun g0 g1 g2 g3 g4 g5 => ih (k + 1) (i + 1) g0 g1 g2 g3 g4 g5 (by omega) (by omega)
    have ih0 := fun g0 g1 g2 g3 g4 g5 => ih k (i + 1) g0 g1 g2 g3 g4 g5 (by omega) (by omega)
    simp only [spec_CcRead.l0]
    rw [if_pos (by omega), if_pos (by omega), rd_B xs i hlt, spec_Lower_f (by omega) (by omega), Option.bind_some, spec_l6Age_f _ (by omega), Option.bind_some, nat_round (n := xs.length) hlt (by omega), drop_at hlt, ccGo]
    unfold ccW
    dsimp only
    by_cases w1 : (lowB xs[i]).toList = [110, 111, 45, 115, 116, 111, 114, 101]
    · rw [if_pos w1, if_pos w1]; exact ih1 _ _ _ _ _ _
    rw [if_neg w1, if_neg w1]
    by_cases w2 : (lowB xs[i]).toList = [110, 111, 45, 99, 97, 99, 104, 101]
    · rw [if_pos w2, if_pos w2]; exact ih1 _ _ _ _ _ _
    rw [if_neg w2, if_neg w2]
    by_cases w3 : (lowB xs[i]).toList = [112, 114, 105, 118, 97, 116, 101]
    · rw [if_pos w3, if_pos w3]; exact ih1 _ _ _ _ _ _
    rw [if_neg w3, if_neg w3]
    by_cases w4 : (lowB xs[i]).toList = [109, 117, 115, 116, 45, 114, 101, 118, 97, 108, 105, 100, 97, 116, 101]
    · rw [if_pos w4, if_pos w4]; exact ih1 _ _ _ _ _ _
    rw [if_neg w4, if_neg w4]
    by_cases h : isAge (lowB xs[i]) = true
    · rw [if_pos h, if_pos h]
      dsimp only
      rw [if_pos rfl]
      simp only [spec_CcRead.j1]
      rw [nat_round (n := xs.length) hlt (by omega)]
      cases f4
      · rw [if_neg (by simp), if_pos (by trivial), if_neg (by simp)]; exact ih0 _ _ _ _ _ _
      · rw [if_pos (by trivial), spec_l1Min_f, Option.bind_some, if_pos (by trivial)]; exact ih0 _ _ _ _ _ _
    · rw [if_neg h, if_neg h]
      dsimp only
      rw [if_neg (by simp)]
      simp only [spec_CcRead.j1]
      rw [if_neg (by simp), if_neg (by simp), nat_round (n := xs.length) hlt (by omega)]
      exact ih0 _ _ _ _ _ _
theorem spec_CcRead_f {k : Nat} {s : ByteArray} (hs : s.size ≤ 1048576) (hk : 4300000 < k) : spec_CcRead.f k s = some (ccReadT s) := by
  have hn := splitT_len s
  unfold spec_CcRead.f
  rw [spec_Split_f hs (by omega), Option.bind_some]
  have := spec_CcRead_l0 (splitT s) (fun x hx => Nat.le_trans (splitT_small s x hx) hs) (by omega) (splitT s).length k 0 false false false false false 0 (by omega) (by omega)
  rw [List.drop_zero] at this
  exact this
/-! ### CcOf -/
def ccName : ByteArray := ⟨#[99, 97, 99, 104, 101, 45, 99, 111, 110, 116, 114, 111, 108]⟩
def ccOfF (l : List S116) : Bool × Bool × Bool × Bool × Bool × Int := ccReadT ((getF ccName l).getD ⟨#[]⟩)
theorem spec_CcOf_f {k K : Nat} {l : List S116} (hK : K ≤ 1048576) (hl : SmallF K l) (hk : 4300000 < k) : spec_CcOf.f k l = some (ccOfF l) := by
  have h2 : ((getF ccName l).getD ⟨#[]⟩).size ≤ K := getF_small hl.2
  have hn := hl.1
  unfold spec_CcOf.f ccOfF
  rw [spec_Get_f (by omega) (by omega), Option.bind_some]
  show (spec_CcRead.f k ((getF ccName l).getD ⟨#[]⟩)).bind _ = _
  rw [spec_CcRead_f (by omega) hk, Option.bind_some]
end Go.Proofs.YtjlpjbkpmmpojaaGreatDoor.Pure
