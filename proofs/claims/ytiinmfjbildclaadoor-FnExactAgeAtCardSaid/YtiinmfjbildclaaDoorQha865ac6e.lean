/- What the printed functions answer, in plain words: lemmas of this session. No condition of a statement lies here. -/
import Derived.Test.YtiinmfjbildclaaDoorAllx0
import Derived.Test.YtiinmfjbildclaaDoorAllx13
import Derived.Test.YtiinmfjbildclaaDoorAllx14
import Derived.Test.YtiinmfjbildclaaDoorQh0b793c2d
import Derived.Test.YtiinmfjbildclaaDoorQhc1e60fcd
namespace Go.Proofs.YtiinmfjbildclaaDoor.Pure
open Go.RowKit Go.Proofs.YtiinmfjbildclaaDoor.All Go.Proofs.YtiinmfjbildclaaDoorW.PrintWords Go.Proofs.YtiinmfjbildclaaDoorW.PrintLast
set_option linter.unusedVariables false
set_option linter.unusedSimpArgs false

theorem spec_l1Min_f (a b : Int) : spec_l1Min.f a b = some (min a b) := by
  unfold spec_l1Min.f
  split <;> (congr 1; omega)
theorem spec_l1Max_f (a b : Int) : spec_l1Max.f a b = some (max a b) := by
  unfold spec_l1Max.f
  split <;> (congr 1; omega)
/-! ### Plus -/
def plusI (a b : Int) : Int := min (min (max a 0) 1000000 + min (max b 0) 1000000) 1000000
theorem impl_within_f (a : Int) : impl_within.f a = some (min (max a 0) 1000000) := by
  unfold impl_within.f mx mn
  congr 1
  split <;> split <;> omega
theorem spec_Plus_f (a b : Int) : spec_Plus.f a b = some (plusI a b) := by
  unfold spec_Plus.f plusI
  simp only [spec_l1Min_f, spec_l1Max_f, Option.bind_some]
  rw [w64 (by omega)]
theorem impl_Plus_f (a b : Int) : impl_Plus.f a b = some (plusI a b) := by
  unfold impl_Plus.f plusI
  simp only [impl_within_f, Option.bind_some]
  rw [w64 (by omega)]
  congr 1; omega
/-! ### NumRead -/
def decV (acc : Nat) (l : List UInt8) : Nat := l.foldl (fun a c => a * 10 + (c.toNat - 48)) acc
def digs (l : List UInt8) : Bool := l.all fun c => decide (48 ≤ c.toNat ∧ c.toNat ≤ 57)
theorem decV_cons (acc : Nat) (c : UInt8) (r : List UInt8) : decV acc (c :: r) = decV (acc * 10 + (c.toNat - 48)) r := by unfold decV; rw [List.foldl_cons]
theorem decV_nil (acc : Nat) : decV acc [] = acc := by unfold decV; rw [List.foldl_nil]
theorem decV_append (a b : List UInt8) (acc : Nat) : decV acc (a ++ b) = decV (decV acc a) b := by
  induction a generalizing acc with
  | nil => rw [List.nil_append, decV_nil]
  | cons c r ih => rw [List.cons_append, decV_cons, decV_cons, ih]
theorem digit_nat (u : Nat) (h : u < 10) : (UInt8.ofNat (48 + u)).toNat = 48 + u := by
  exact UInt8.toNat_ofNat_of_lt' (by show 48 + u < 256; omega)
theorem dec_facts (u : Nat) : decV 0 (Lib.decDigits u) = u ∧ digs (Lib.decDigits u) = true ∧ Lib.decDigits u ≠ [] := by
  induction u using Nat.strongRecOn with
  | _ u ih =>
    rw [Lib.decDigits]
    split
    · rename_i h
      refine ⟨?_, ?_, by simp⟩
      · rw [decV_cons, decV_nil, digit_nat u h]; omega
      · simp only [digs, List.all_cons, List.all_nil]; rw [digit_nat u h, decide_eq_true (by omega)]; rfl
    · rename_i h
      obtain ⟨h1, h2, h3⟩ := ih (u / 10) (by omega)
      refine ⟨?_, ?_, by simp⟩
      · rw [decV_append, h1, decV_cons, decV_nil, digit_nat (u % 10) (by omega)]; omega
      · unfold digs at h2 ⊢
        rw [List.all_append, h2, List.all_cons, List.all_nil, digit_nat (u % 10) (by omega), decide_eq_true (by omega)]; rfl
theorem parse_digs : ∀ (l : List UInt8) (acc j : Nat), digs l = true → acc < 10 ^ j → j + l.length ≤ 18 → Lib.parseUint10 acc l = .ok (decV acc l)
  | [], acc, j, _, _, _ => by rw [decV_nil]; rfl
  | c :: r, acc, j, hd, ha, hj => by
    unfold digs at hd
    rw [List.all_cons, Bool.and_eq_true] at hd
    have hc := of_decide_eq_true hd.1
    simp only [List.length_cons] at hj
    have hp : (10 : Nat) ^ (j + 1) = 10 ^ j * 10 := rfl
    have hb : (10 : Nat) ^ j ≤ 10 ^ 17 := Nat.pow_le_pow_right (by omega) (by omega)
    simp only [Lib.parseUint10]
    rw [decV_cons, if_pos hc, if_neg (by omega), if_neg (by omega)]
    exact parse_digs r _ (j + 1) hd.2 (by omega) (by omega)
theorem atoi_dec (n : Nat) (h : n ≤ 1000000) : Lib.atoiAll (Lib.decDigits n) = .ok (n : Int) := by
  obtain ⟨h1, h2, h3⟩ := dec_facts n
  have hl := decDigits_len n 6 (by omega)
  have hp := parse_digs (Lib.decDigits n) 0 0 h2 (by omega) (by omega)
  rw [h1] at hp
  cases e : Lib.decDigits n with
  | nil => exact absurd e h3
  | cons c r =>
    rw [e] at hp h2
    unfold digs at h2
    rw [List.all_cons, Bool.and_eq_true] at h2
    have hc := of_decide_eq_true h2.1
    simp only [Lib.atoiAll]
    rw [if_neg (by omega)]
    unfold Lib.parseMag
    rw [if_neg (by simp), hp]
    simp only
    rw [if_neg (by omega), if_neg (by omega), if_neg (by omega)]
theorem numRead_yes {s : ByteArray} {n : Nat} (h : n ≤ 1000000) (hs : B s = Lib.decDigits n) : numRead s = ((n : Int), true) := by
  have hl := decDigits_len n 6 (by omega)
  rw [← hs, B_len] at hl
  unfold numRead
  rw [if_neg (by omega)]
  show (match Lib.atoiAll (B s) with | .ok n => if 0 ≤ n ∧ n ≤ 1000000 ∧ Lib.itoa n = B s then (n, true) else (0, false) | _ => (0, false)) = _
  rw [hs, atoi_dec n h]
  simp only
  rw [if_pos ⟨by omega, by omega, itoa_nat n⟩]
theorem numRead_no {s : ByteArray} (h : ∀ n : Nat, n ≤ 1000000 → B s ≠ Lib.decDigits n) : numRead s = (0, false) := by
  unfold numRead
  split
  · rfl
  split
  · rename_i n _
    rw [if_neg]
    rintro ⟨h1, h2, h3⟩
    obtain ⟨u, rfl⟩ : ∃ u : Nat, n = u := ⟨n.toNat, by omega⟩
    rw [itoa_nat] at h3
    exact h u (by omega) h3.symm
  · rfl
theorem spec_NumRead_l0 (s : ByteArray) (hs : s.size ≤ 7) : ∀ (d k i v : Nat), s.size = i + d → v < 10 ^ i → d + 40 < k →
    spec_NumRead.l0 k s v i = some (if digs ((B s).drop i) = true ∧ numT ((decV v ((B s).drop i) : Nat) : Int) = s then (((decV v ((B s).drop i) : Nat) : Int), true) else (0, false)) := by
  intro d
  induction d with
  | zero =>
    intro k i v hd hv hk
    obtain ⟨k, rfl⟩ := succ_of (show 0 < k by omega)
    simp only [spec_NumRead.l0]
    rw [if_neg (by omega), List.drop_eq_nil_of_le (by rw [B_len]; omega), spec_NumText_f (by omega), Option.bind_some, decV_nil]
    by_cases h : numT (v : Int) = s
    · rw [if_pos (by rw [h]), if_pos ⟨rfl, h⟩]
    · rw [if_neg (fun e => h (toList_inj e)), if_neg (fun e => h e.2)]
  | succ d ih =>
    intro k i v hd hv hk
    obtain ⟨k, rfl⟩ := succ_of (show 0 < k by omega)
    have hl : i < (B s).length := by rw [B_len]; omega
    have hp : (10 : Nat) ^ (i + 1) = 10 ^ i * 10 := rfl
    have hb : (10 : Nat) ^ i ≤ 10 ^ 7 := Nat.pow_le_pow_right (by omega) (by omega)
    simp only [spec_NumRead.l0]
    rw [if_pos (by omega), if_pos (by omega), bt_get s i hl, nat_round (n := s.size) (by omega) (by omega), drop_at hl, decV_cons]
    by_cases h1 : ((B s)[i].toNat : Int) < 48
    · rw [if_pos h1, if_neg]
      rintro ⟨e, _⟩
      unfold digs at e
      rw [List.all_cons, decide_eq_false (by omega)] at e
      exact Bool.noConfusion e
    rw [if_neg h1]
    by_cases h2 : ((B s)[i].toNat : Int) > 57
    · rw [if_pos h2, if_neg]
      rintro ⟨e, _⟩
      unfold digs at e
      rw [List.all_cons, decide_eq_false (by omega)] at e
      exact Bool.noConfusion e
    rw [if_neg h2, w64 (n := 10 * (v : Int)) (by omega), w64 (n := ((B s)[i].toNat : Int)) (by omega), w64 (n := 10 * (v : Int) + _) (by omega), w64 (by omega),
      show 10 * (v : Int) + ((B s)[i].toNat : Int) - 48 = ((v * 10 + ((B s)[i].toNat - 48) : Nat) : Int) by omega, ih k (i + 1) _ (by omega) (by omega) (by omega)]
    have hg : digs ((B s)[i] :: (B s).drop (i + 1)) = digs ((B s).drop (i + 1)) := by
      unfold digs
      rw [List.all_cons, decide_eq_true (by omega), Bool.true_and]
    rw [hg]
theorem spec_NumRead_f {k : Nat} {s : ByteArray} (hk : 60 < k) : spec_NumRead.f k s = some (numRead s) := by
  obtain ⟨k, rfl⟩ := succ_of (show 0 < k by omega)
  have hlenf : ∀ n : Nat, n ≤ 1000000 → B s = Lib.decDigits n → 1 ≤ s.size ∧ s.size ≤ 7 := fun n h e => by
    obtain ⟨_, _, h3⟩ := dec_facts n
    have hl := decDigits_len n 6 (by omega)
    have : 1 ≤ (Lib.decDigits n).length := by
      cases e : Lib.decDigits n with
      | nil => exact absurd e h3
      | cons c r => simp
    rw [← e, B_len] at hl this
    omega
  unfold spec_NumRead.f
  have e0 : (s.toList = []) ↔ s.size = 0 := by
    rw [toList_B]
    constructor
    · intro e; rw [← B_len, e]; rfl
    · intro e; exact List.eq_nil_of_length_eq_zero (by rw [B_len, e])
  by_cases h0 : s.size = 0
  · rw [if_pos (e0.2 h0)]
    simp only [spec_NumRead.j0]
    rw [if_pos trivial, numRead_no (fun n h e => by have := hlenf n h e; omega)]
  rw [if_neg (fun e => h0 (e0.1 e))]
  simp only [spec_NumRead.j0]
  by_cases h7 : s.size > 7
  · rw [if_pos (decide_eq_true (by omega)), numRead_no (fun n h e => by have := hlenf n h e; omega)]
  rw [if_neg (by simp; omega)]
  have hl0 := spec_NumRead_l0 s (by omega) s.size k 0 0 (by omega) (by omega) (by omega)
  rw [List.drop_zero] at hl0
  refine hl0.trans (congrArg some ?_)
  by_cases h : ∃ n : Nat, n ≤ 1000000 ∧ B s = Lib.decDigits n
  · obtain ⟨n, hn, e⟩ := h
    obtain ⟨h1, h2, h3⟩ := dec_facts n
    have hT : numT (n : Int) = s := by
      unfold numT
      rw [if_pos (by omega), itoa_nat, ← e]
      exact B_ext (B_mk _)
    rw [numRead_yes hn e, e, h1, if_pos ⟨h2, hT⟩]
  · rw [numRead_no (fun n hn e => h ⟨n, hn, e⟩), if_neg]
    rintro ⟨_, e⟩
    unfold numT at e
    split at e
    · rename_i hr
      rw [itoa_nat] at e
      exact h ⟨decV 0 (B s), by omega, (congrArg B e).symm.trans (B_mk (Lib.decDigits _))⟩
    · exact h0 (by rw [← e]; rfl)
theorem impl_NumRead_f {s : ByteArray} : impl_NumRead.f s = some (numRead s) := rfl
theorem i64_wf {n : Int} (h : (Lit.int .i64 n).wf = true) : -9223372036854775808 ≤ n ∧ n ≤ 9223372036854775807 := by
  simp only [Lit.wf, Bool.and_eq_true, decide_eq_true_eq] at h
  exact ⟨h.1, h.2⟩
/-! ### AgeAt -/
def sinceI (t now : Int) : Int := if now ≤ t then 0 else min (now - t) 1000000
theorem spec_l7Since_f {t now : Int} (ht : -9223372036854775808 ≤ t ∧ t ≤ 9223372036854775807) (hn : -9223372036854775808 ≤ now ∧ now ≤ 9223372036854775807) : spec_l7Since.f t now = some (sinceI t now) := by
  unfold spec_l7Since.f sinceI
  split
  · rfl
  split
  · rw [w64 (n := t + 1000000) (by omega)]
    split
    · congr 1; omega
    · rw [w64 (by omega), spec_l1Min_f, Option.bind_some]
  · rw [w64 (by omega), spec_l1Min_f, Option.bind_some]
theorem impl_since_f {t now : Int} (ht : -9223372036854775808 ≤ t ∧ t ≤ 9223372036854775807) (hn : -9223372036854775808 ≤ now ∧ now ≤ 9223372036854775807) : impl_since.f t now = some (sinceI t now) := by
  unfold impl_since.f sinceI
  split
  · rfl
  by_cases h : now - t ≤ 9223372036854775807
  · rw [w64 (by omega), if_neg (by omega), impl_within_f, Option.bind_some]
    congr 1; omega
  · rw [if_pos (by unfold wrap64; omega)]
    congr 1; omega
def ageF (l : List S114) (t now : Int) : Int :=
  plusI (match getF ⟨#[97, 103, 101]⟩ l with | some v => if (numRead v).2 = true then (numRead v).1 else 1000000 | none => 0) (sinceI t now)
theorem impl_AgeAt_f {l : List S114} {t now : Int} (hl : l.length < 4398046511104) (ht : -9223372036854775808 ≤ t ∧ t ≤ 9223372036854775807) (hn : -9223372036854775808 ≤ now ∧ now ≤ 9223372036854775807) : impl_AgeAt.f l t now = some (ageF l t now) := by
  unfold impl_AgeAt.f ageF
  rw [impl_Get_f hl, Option.bind_some]
  cases h : getF ⟨#[97, 103, 101]⟩ l with
  | none => simp only [Option.isSome_none, Bool.false_eq_true, if_false]; rw [impl_since_f ht hn, Option.bind_some, impl_Plus_f, Option.bind_some]
  | some v =>
    simp only [Option.isSome_some, if_true, Option.getD_some]
    rw [impl_NumRead_f, Option.bind_some]
    by_cases h2 : (numRead v).2 = true
    · rw [if_pos h2, if_pos h2, impl_since_f ht hn, Option.bind_some, impl_Plus_f, Option.bind_some]
    · rw [if_neg h2, if_neg h2, impl_since_f ht hn, Option.bind_some, impl_Plus_f, Option.bind_some]
theorem spec_AgeAt_f {k : Nat} {l : List S114} {t now : Int} (hl : l.length < 4398046511104) (ht : -9223372036854775808 ≤ t ∧ t ≤ 9223372036854775807) (hn : -9223372036854775808 ≤ now ∧ now ≤ 9223372036854775807) (hk : l.length + 70 < k) : spec_AgeAt.f k l t now = some (ageF l t now) := by
  unfold spec_AgeAt.f ageF
  rw [spec_Get_f (by omega) (by omega), Option.bind_some]
  simp only
  rw [spec_NumRead_f (by omega), Option.bind_some]
  obtain ⟨k, rfl⟩ := succ_of (show 0 < k by omega)
  have j : ∀ (n : Int) (b : Bool), spec_AgeAt.j0 (k + 1) t now n b = some (plusI (if b = true then 1000000 else n) (sinceI t now)) := fun n b => by
    simp only [spec_AgeAt.j0]
    cases b
    · rw [if_neg (by simp), if_neg (by simp), spec_l7Since_f ht hn, Option.bind_some, spec_Plus_f, Option.bind_some]
    · rw [if_pos rfl, if_pos rfl, spec_l7Since_f ht hn, Option.bind_some, spec_Plus_f, Option.bind_some]
  cases h : getF ⟨#[97, 103, 101]⟩ l with
  | none =>
    have h0 : numRead ⟨#[]⟩ = (0, false) := numRead_no (fun n _ e => (dec_facts n).2.2 (e.symm.trans B_empty))
    simp only [Option.isSome_none, Bool.false_eq_true, if_false, Option.getD_none]
    rw [j, if_neg (by simp), h0]
  | some v =>
    simp only [Option.isSome_some, if_true, Option.getD_some]
    rw [j]
    cases h2 : (numRead v).2 <;> simp

end Go.Proofs.YtiinmfjbildclaaDoor.Pure
