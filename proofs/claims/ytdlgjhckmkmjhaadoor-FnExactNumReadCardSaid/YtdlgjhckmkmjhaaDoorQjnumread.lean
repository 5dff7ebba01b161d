/- What the printed functions answer, in plain words: part j_numread of this session's lemmas. No condition of a statement lies here. -/
import Derived.Test.YtdlgjhckmkmjhaaDoorAllx11
import Derived.Test.YtdlgjhckmkmjhaaDoorQabase
import Derived.Test.YtdlgjhckmkmjhaaDoorQinum
namespace Go.Proofs.YtdlgjhckmkmjhaaDoor.Pure
open Go.RowKit Go.Proofs.YtdlgjhckmkmjhaaDoor.All Go.Proofs.YtdlgjhckmkmjhaaDoorW.PrintWords Go.Proofs.YtdlgjhckmkmjhaaDoorW.PrintLast
set_option linter.unusedVariables false
set_option linter.unusedSimpArgs false

/-! ### NumRead -/
def decV (acc : Nat) (l : List UInt8) : Nat := l.foldl (fun a c => a * 10 + (c.toNat - 48)) acc
def digs (l : List UInt8) : Bool := l.all fun c => decide (48 ≤ c.toNat ∧ c.toNat ≤ 57)
theorem decV_cons (acc : Nat) (c : UInt8) (r : List UInt8) : decV acc (c :: r) = decV (acc * 10 + (c.toNat - 48)) r := by unfold decV; rw [List.foldl_cons]
theorem decV_nil (acc : Nat) : decV acc [] = acc := by unfold decV; rw [List.foldl_nil]
theorem decV_append (a b : List UInt8) (acc : Nat) : decV acc (a ++ b) = decV (decV acc a) b := by
  induction a generalizing acc with
  | nil => rw [List.nil_append, decV_nil]
  | cons c r ih => rw [List.cons_append, decV_cons, decV_cons, ih]
theorem digit_nat (u : Nat) (h : u < 10) : (UInt8.ofNat (48 + u)).toNat = 48 + u := by
  exact UInt8.toNat_ofNat_of_lt' (by show 48 + u < 256; omega)
theorem dec_facts (u : Nat) : decV 0 (Lib.decDigits u) = u ∧ digs (Lib.decDigits u) = true ∧ Lib.decDigits u ≠ [] := by
  induction u using Nat.strongRecOn with
  | _ u ih =>
    rw [Lib.decDigits]
    split
    · rename_i h
      refine ⟨?_, ?_, by simp⟩
      · rw [decV_cons, decV_nil, digit_nat u h]; omega
      · simp only [digs, List.all_cons, List.all_nil]; rw [digit_nat u h, decide_eq_true (by omega)]; rfl
    · rename_i h
      obtain ⟨h1, h2, h3⟩ := ih (u / 10) (by omega)
      refine ⟨?_, ?_, by simp⟩
      · rw [decV_append, h1, decV_cons, decV_nil, digit_nat (u % 10) (by omega)]; omega
      · unfold digs at h2 ⊢
        rw [List.all_append, h2, List.all_cons, List.all_nil, digit_nat (u % 10) (by omega), decide_eq_true (by omega)]; rfl
theorem parse_digs : ∀ (l : List UInt8) (acc j : Nat), digs l = true → acc < 10 ^ j → j + l.length ≤ 18 → Lib.parseUint10 acc l = .ok (decV acc l)
  | [], acc, j, _, _, _ => by rw [decV_nil]; rfl
  | c :: r, acc, j, hd, ha, hj => by
    unfold digs at hd
    rw [List.all_cons, Bool.and_eq_true] at hd
    have hc := of_decide_eq_true hd.1
    simp only [List.length_cons] at hj
    have hp : (10 : Nat) ^ (j + 1) = 10 ^ j * 10 := rfl
    have hb : (10 : Nat) ^ j ≤ 10 ^ 17 := Nat.pow_le_pow_right (by omega) (by omega)
    simp only [Lib.parseUint10]
    rw [decV_cons, if_pos hc, if_neg (by omega), if_neg (by omega)]
    exact parse_digs r _ (j + 1) hd.2 (by omega) (by omega)
theorem atoi_dec (n : Nat) (h : n ≤ 1000000) : Lib.atoiAll (Lib.decDigits n) = .ok (n : Int) := by
  obtain ⟨h1, h2, h3⟩ := dec_facts n
  have hl := decDigits_len n 6 (by omega)
  have hp := parse_digs (Lib.decDigits n) 0 0 h2 (by omega) (by omega)
  rw [h1] at hp
  cases e : Lib.decDigits n with
  | nil => exact absurd e h3
  | cons c r =>
    rw [e] at hp h2
    unfold digs at h2
    rw [List.all_cons, Bool.and_eq_true] at h2
    have hc := of_decide_eq_true h2.1
    simp only [Lib.atoiAll]
    rw [if_neg (by omega)]
    unfold Lib.parseMag
    rw [if_neg (by simp), hp]
    simp only
    rw [if_neg (by omega), if_neg (by omega), if_neg (by omega)]
theorem numRead_yes {s : ByteArray} {n : Nat} (h : n ≤ 1000000) (hs : B s = Lib.decDigits n) : numRead s = ((n : Int), true) := by
  have hl := decDigits_len n 6 (by omega)
  rw [← hs, B_len] at hl
  unfold numRead
  rw [if_neg (by omega)]
  show (match Lib.atoiAll (B s) with | .ok n => if 0 ≤ n ∧ n ≤ 1000000 ∧ Lib.itoa n = B s then (n, true) else (0, false) | _ => (0, false)) = _
  rw [hs, atoi_dec n h]
  simp only
  rw [if_pos ⟨by omega, by omega, itoa_nat n⟩]
theorem numRead_no {s : ByteArray} (h : ∀ n : Nat, n ≤ 1000000 → B s ≠ Lib.decDigits n) : numRead s = (0, false) := by
  unfold numRead
  split
  · rfl
  split
  · rename_i n _
    rw [if_neg]
    rintro ⟨h1, h2, h3⟩
    obtain ⟨u, rfl⟩ : ∃ u : Nat, n = u := ⟨n.toNat, by omega⟩
    rw [itoa_nat] at h3
    exact h u (by omega) h3.symm
  · rfl
theorem spec_NumRead_l0 (s : ByteArray) (hs : s.size ≤ 7) : ∀ (d k i v : Nat), s.size = i + d → v < 10 ^ i → d + 40 < k →
    spec_NumRead.l0 k s v i = some (if digs ((B s).drop i) = true ∧ numT ((decV v ((B s).drop i) : Nat) : Int) = s then (((decV v ((B s).drop i) : Nat) : Int), true) else (0, false)) := by
  intro d
  induction d with
  | zero =>
    intro k i v hd hv hk
    obtain ⟨k, rfl⟩ := succ_of (show 0 < k by omega)
    simp only [spec_NumRead.l0]
    rw [if_neg (by omega), List.drop_eq_nil_of_le (by rw [B_len]; omega), spec_NumText_f (by omega), Option.bind_some, decV_nil]
    by_cases h : numT (v : Int) = s
    · rw [if_pos (by rw [h]), if_pos ⟨rfl, h⟩]
    · rw [if_neg (fun e => h (toList_inj e)), if_neg (fun e => h e.2)]
  | succ d ih =>
    intro k i v hd hv hk
    obtain ⟨k, rfl⟩ := succ_of (show 0 < k by omega)
    have hl : i < (B s).length := by rw [B_len]; omega
    have hp : (10 : Nat) ^ (i + 1) = 10 ^ i * 10 := rfl
    have hb : (10 : Nat) ^ i ≤ 10 ^ 7 := Nat.pow_le_pow_right (by omega) (by omega)
    simp only [spec_NumRead.l0]
    rw [if_pos (by omega), if_pos (by omega), bt_get s i hl, nat_round (n := s.size) (by omega) (by omega), drop_at hl, decV_cons]
    by_cases h1 : ((B s)[i].toNat : Int) < 48
    · rw [if_pos h1, if_neg]
      rintro ⟨e, _⟩
      unfold digs at e
      rw [List.all_cons, decide_eq_false (by omega)] at e
      exact Bool.noConfusion e
    rw [if_neg h1]
    by_cases h2 : ((B s)[i].toNat : Int) > 57
    · rw [if_pos h2, if_neg]
      rintro ⟨e, _⟩
      unfold digs at e
      rw [List.all_cons, decide_eq_false (by omega)] at e
      exact Bool.noConfusion e
    rw [if_neg h2, w64 (n := 10 * (v : Int)) (by omega), w64 (n := ((B s)[i].toNat : Int)) (by omega), w64 (n := 10 * (v : Int) + _) (by omega), w64 (by omega),
      show 10 * (v : Int) + ((B s)[i].toNat : Int) - 48 = ((v * 10 + ((B s)[i].toNat - 48) : Nat) : Int) by omega, ih k (i + 1) _ (by omega) (by omega) (by omega)]
    have hg : digs ((B s)[i] :: (B s).drop (i + 1)) = digs ((B s).drop (i + 1)) := by
      unfold digs
      rw [List.all_cons, decide_eq_true (by omega), Bool.true_and]
    rw [hg]
theorem spec_NumRead_f {k : Nat} {s : ByteArray} (hk : 60 < k) : spec_NumRead.f k s = some (numRead s) := by
  obtain ⟨k, rfl⟩ := succ_of (show 0 < k by omega)
  have hlenf : ∀ n : Nat, n ≤ 1000000 → B s = Lib.decDigits n → 1 ≤ s.size ∧ s.size ≤ 7 := fun n h e => by
    obtain ⟨_, _, h3⟩ := dec_facts n
    have hl := decDigits_len n 6 (by omega)
    have : 1 ≤ (Lib.decDigits n).length := by
      cases e : Lib.decDigits n with
      | nil => exact absurd e h3
      | cons c r => simp
    rw [← e, B_len] at hl this
    omega
  unfold spec_NumRead.f
  have e0 : (s.toList = []) ↔ s.size = 0 := by
    rw [toList_B]
    constructor
    · intro e; rw [← B_len, e]; rfl
    · intro e; exact List.eq_nil_of_length_eq_zero (by rw [B_len, e])
  by_cases h0 : s.size = 0
  · rw [if_pos (e0.2 h0)]
    simp only [spec_NumRead.j0]
    rw [if_pos trivial, numRead_no (fun n h e => by have := hlenf n h e; omega)]
  rw [if_neg (fun e => h0 (e0.1 e))]
  simp only [spec_NumRead.j0]
  by_cases h7 : s.size > 7
  · rw [if_pos (decide_eq_true (by omega)), numRead_no (fun n h e => by have := hlenf n h e; omega)]
  rw [if_neg (by simp; omega)]
  have hl0 := spec_NumRead_l0 s (by omega) s.size k 0 0 (by omega) (by omega) (by omega)
  rw [List.drop_zero] at hl0
  refine hl0.trans (congrArg some ?_)
  by_cases h : ∃ n : Nat, n ≤ 1000000 ∧ B s = Lib.decDigits n
  · obtain ⟨n, hn, e⟩ := h
    obtain ⟨h1, h2, h3⟩ := dec_facts n
    have hT : numT (n : Int) = s := by
      unfold numT
      rw [if_pos (by omega), itoa_nat, ← e]
      exact B_ext (B_mk _)
    rw [numRead_yes hn e, e, h1, if_pos ⟨h2, hT⟩]
  · rw [numRead_no (fun n hn e => h ⟨n, hn, e⟩), if_neg]
    rintro ⟨_, e⟩
    unfold numT at e
    split at e
    · rename_i hr
      rw [itoa_nat] at e
      exact h ⟨decV 0 (B s), by omega, (congrArg B e).symm.trans (B_mk (Lib.decDigits _))⟩
    · exact h0 (by rw [← e]; rfl)
theorem impl_NumRead_f {s : ByteArray} : impl_NumRead.f s = some (numRead s) := rfl

end Go.Proofs.YtdlgjhckmkmjhaaDoor.Pure
