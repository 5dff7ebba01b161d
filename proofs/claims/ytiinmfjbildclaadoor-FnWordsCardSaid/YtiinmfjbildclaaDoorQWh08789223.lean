/- What the printed functions answer, in plain words: lemmas of this session. No condition of a statement lies here. -/
import Derived.Test.YtiinmfjbildclaaDoorAllx0
import Derived.Test.YtiinmfjbildclaaDoorAllx12
import Derived.Test.YtiinmfjbildclaaDoorAllx13
import Derived.Test.YtiinmfjbildclaaDoorAllx14
import Derived.Test.YtiinmfjbildclaaDoorAllx16
import Derived.Test.YtiinmfjbildclaaDoorAllx2
import Derived.Test.YtiinmfjbildclaaDoorAllx20
import Derived.Test.YtiinmfjbildclaaDoorAllx21
import Derived.Test.YtiinmfjbildclaaDoorAllx3
import Derived.Test.YtiinmfjbildclaaDoorAllx40
import Derived.Test.YtiinmfjbildclaaDoorAllx64
namespace Go.Proofs.YtiinmfjbildclaaDoor.Pure
open Go.RowKit Go.Proofs.YtiinmfjbildclaaDoor.All Go.Proofs.YtiinmfjbildclaaDoorW.PrintWords Go.Proofs.YtiinmfjbildclaaDoorW.PrintLast
set_option linter.unusedVariables false
set_option linter.unusedSimpArgs false

/-! ### plain words on numbers, bytes, lists -/
theorem w64 {n : Int} (h : -9223372036854775808 ≤ n ∧ n ≤ 9223372036854775807) : wrap64 n = n := by unfold wrap64; omega
/-- a text's bytes -/
def B (s : ByteArray) : List UInt8 := s.data.toList
theorem B_len (s : ByteArray) : (B s).length = s.size := data_length s
theorem toList_B (s : ByteArray) : s.toList = B s := ByteArray.toList_eq s
theorem B_ext {a b : ByteArray} (h : B a = B b) : a = b := by
  cases a with | mk a => cases b with | mk b => unfold B at h; simp at h; rw [h]
theorem B_mk (l : List UInt8) : B ⟨l.toArray⟩ = l := by unfold B; simp
theorem toList_inj {a b : ByteArray} (h : a.toList = b.toList) : a = b := B_ext (by rw [← toList_B, ← toList_B, h])
theorem toList_iff (a b : ByteArray) : a.toList = b.toList ↔ a = b := ⟨toList_inj, fun h => by rw [h]⟩
theorem bt_get (s : ByteArray) (i : Nat) (h : i < (B s).length) : bt s (i : Int) = (((B s)[i]).toNat : Int) := by
  have h' : i < s.size := by rw [← B_len]; exact h
  unfold bt B
  simp [h']
  rfl
theorem B_append (a b : ByteArray) : B (a ++ b) = B a ++ B b := by
  unfold B; rw [ByteArray.data_append]; simp
theorem B_extract (s : ByteArray) (i j : Nat) : B (s.extract i j) = ((B s).take j).drop i := by
  unfold B; rw [ByteArray.data_extract]; simp [List.drop_take]
theorem B_empty : B (⟨#[]⟩ : ByteArray) = [] := rfl
/-- numbers as bytes -/
def oct (n : Int) : UInt8 := UInt8.ofNat n.toNat
theorem oct_nat (c : UInt8) : oct (c.toNat : Int) = c := by unfold oct; simp
theorem strOf (xs : List Int) : strOfNums xs = ⟨(xs.map oct).toArray⟩ := rfl
theorem B_strOf (xs : List Int) : B (strOfNums xs) = xs.map oct := by rw [strOf, B_mk]
theorem succ_of {k d : Nat} (h : d < k) : ∃ m, k = m + 1 := ⟨k - 1, by omega⟩
theorem drop_at {α : Type} {l : List α} {i : Nat} (h : i < l.length) : l.drop i = l[i] :: l.drop (i + 1) := List.drop_eq_getElem_cons h
theorem nat_round {i n : Nat} (h : i < n) (hn : (n : Int) ≤ 9223372036854775807) : wrap64 ((i : Int) + 1) = ((i + 1 : Nat) : Int) := by
  rw [w64 (by omega)]; omega
theorem ite_bool {b : Bool} {α : Type} {x y : α} : (if b = true then x else y) = bif b then x else y := by cases b <;> rfl
/-! ### lists of texts and of numbers -/
theorem rd_B (l : List ByteArray) (j : Nat) (h : j < l.length) : rdOf ByteArray.empty l (j : Int) = l[j] := by simp [rdOf, List.getD, h]
theorem rd_I (l : List Int) (j : Nat) (h : j < l.length) : rd l (j : Int) = l[j] := by simp [rd, List.getD, h]
theorem set_at {α : Type} (pre : List α) (y z : α) (rest : List α) : (pre ++ y :: rest).set ((pre.length : Int)).toNat z = pre ++ z :: rest := by
  rw [Int.toNat_natCast, List.set_append_right _ _ (by omega), Nat.sub_self, List.set_cons_zero]
theorem set_at' {α : Type} {i : Nat} (pre : List α) (y z : α) (rest : List α) (h : pre.length = i) : (pre ++ y :: rest).set ((i : Int)).toNat z = pre ++ z :: rest := by
  subst h; exact set_at pre y z rest
def hasB (s : ByteArray) (l : List ByteArray) : Bool := l.any fun x => decide (x = s)
theorem hasB_drop {l : List ByteArray} {i : Nat} (h : i < l.length) (s : ByteArray) : hasB s (l.drop i) = (decide (l[i] = s) || hasB s (l.drop (i + 1))) := by
  unfold hasB; rw [drop_at h, List.any_cons]
theorem drop_eq {α : Type} {a b : List α} {i : Nat} (ha : i < a.length) (hb : i < b.length) : a.drop i = b.drop i ↔ a[i] = b[i] ∧ a.drop (i + 1) = b.drop (i + 1) := by
  rw [drop_at ha, drop_at hb, List.cons.injEq]
theorem extract_all0 (s : ByteArray) : s.extract 0 s.size = s := ByteArray.extract_zero_size
/-! ### TokenOk -/
def tok1 (c : UInt8) : Bool := decide (97 ≤ c.toNat ∧ c.toNat ≤ 122 ∨ 48 ≤ c.toNat ∧ c.toNat ≤ 57 ∨ c.toNat = 45)
def tokB (s : ByteArray) : Bool := (B s).all tok1 && decide (1 ≤ s.size ∧ s.size ≤ 20)
theorem spec_l1In_f (x a b : Int) : spec_l1In.f x a b = some (decide (a ≤ x ∧ x ≤ b)) := by
  unfold spec_l1In.f
  by_cases h : x ≥ a <;> simp [h]
theorem impl_inRange_f (x a b : Int) : impl_inRange.f x a b = some (decide (a ≤ x ∧ x ≤ b)) := by
  unfold impl_inRange.f
  by_cases h : x ≥ a <;> simp [h]
theorem tok_round (k : Nat) (s : ByteArray) (i : Nat) (hs : (s.size : Int) ≤ 9223372036854775807) (hi : i < s.size) (hl : i < (B s).length) :
    spec_TokenOk.l0 (k + 1) s i = (if tok1 (B s)[i] then spec_TokenOk.l0 k s ((i + 1 : Nat) : Int) else some false) ∧ impl_TokenOk.l0 (k + 1) s i = (if tok1 (B s)[i] then impl_TokenOk.l0 k s ((i + 1 : Nat) : Int) else some false) := by
  have hw := nat_round (i := i) (n := s.size) hi hs
  simp only [spec_TokenOk.l0, impl_TokenOk.l0]
  rw [if_pos (by omega), if_pos (by omega), bt_get s i hl, hw]
  unfold tok1
  generalize ((B s)[i]).toNat = c
  constructor
  all_goals
    by_cases h : 97 ≤ c ∧ c ≤ 122 ∨ 48 ≤ c ∧ c ≤ 57 ∨ c = 45
    · simp only [decide_eq_true h, if_true]
      repeat' (split <;> try rfl)
      all_goals omega
    · simp only [decide_eq_false h, Bool.false_eq_true, if_false]
      repeat' (split <;> try rfl)
      all_goals omega
theorem tok_l0 (s : ByteArray) (hs : (s.size : Int) ≤ 9223372036854775807) : ∀ (d k i : Nat), s.size - i = d → i ≤ s.size → d < k →
    spec_TokenOk.l0 k s i = some (((B s).drop i).all tok1 && decide (1 ≤ s.size ∧ s.size ≤ 20)) ∧ impl_TokenOk.l0 k s i = some (((B s).drop i).all tok1 && decide (1 ≤ s.size ∧ s.size ≤ 20)) := by
  intro d
  induction d with
  | zero =>
    intro k i hd hi hk
    obtain ⟨k, rfl⟩ := succ_of hk
    simp only [spec_TokenOk.l0, impl_TokenOk.l0, spec_l1In_f, impl_inRange_f, Option.bind_some]
    have hni : ¬ ((i : Int) < (s.size : Int)) := by omega
    simp only [if_neg hni]
    rw [List.drop_eq_nil_of_le (by rw [B_len]; omega)]
    have : decide ((1 : Int) ≤ (s.size : Int) ∧ (s.size : Int) ≤ 20) = decide (1 ≤ s.size ∧ s.size ≤ 20) := decide_eq_decide.2 (by omega)
    rw [this]; simp
  | succ d ih =>
    intro k i hd hi hk
    obtain ⟨k, rfl⟩ := succ_of hk
    have hl : i < (B s).length := by rw [B_len]; omega
    obtain ⟨h1, h2⟩ := tok_round k s i hs (by omega) hl
    obtain ⟨i1, i2⟩ := ih k (i + 1) (by omega) (by omega) (by omega)
    rw [h1, h2, i1, i2, drop_at hl, List.all_cons]
    cases tok1 (B s)[i] <;> simp
theorem spec_TokenOk_f {k : Nat} {s : ByteArray} (hs : (s.size : Int) ≤ 9223372036854775807) (hk : s.size < k) : spec_TokenOk.f k s = some (tokB s) := (tok_l0 s hs s.size k 0 (by omega) (by omega) hk).1
theorem impl_TokenOk_f {k : Nat} {s : ByteArray} (hs : (s.size : Int) ≤ 9223372036854775807) (hk : s.size < k) : impl_TokenOk.f k s = some (tokB s) := (tok_l0 s hs s.size k 0 (by omega) (by omega) hk).2
/-! ### NumText -/
def numT (n : Int) : ByteArray := if 0 ≤ n ∧ n ≤ 1000000 then ⟨(Lib.itoa n).toArray⟩ else ⟨#[]⟩
theorem digit_of (u : Nat) : oct ((wrap64 (48 + Int.tmod (u : Int) 10)) % 256) = UInt8.ofNat (48 + u % 10) := by
  have h : Int.tmod (u : Int) 10 = ((u % 10 : Nat) : Int) := by rw [Int.tmod_eq_emod_of_nonneg (by omega)]; omega
  rw [h, w64 (by omega), show (48 + ((u % 10 : Nat) : Int)) % 256 = ((48 + u % 10 : Nat) : Int) by omega]
  unfold oct
  rw [Int.toNat_natCast]
theorem decDigits_len (u : Nat) : ∀ d, u < 10 ^ (d + 1) → (Lib.decDigits u).length ≤ d + 1 := by
  intro d
  induction d generalizing u with
  | zero => intro h; rw [Lib.decDigits, dif_pos (by omega)]; simp
  | succ d ih =>
    intro h
    rw [Lib.decDigits]
    split
    · simp
    · have h10 : (10 : Nat) ^ (d + 1 + 1) = 10 ^ (d + 1) * 10 := rfl
      have := ih (u / 10) (by omega)
      simp only [List.length_append, List.length_cons, List.length_nil]; omega
theorem spec_NumText_l0 : ∀ (d k u : Nat) (acc : ByteArray), u < 10 ^ d → acc.size + d ≤ 1000 → u ≤ 4611686018427387904 → d < k →
    spec_NumText.l0 k (u : Int) acc = some (if u = 0 then acc else ⟨(Lib.decDigits u ++ B acc).toArray⟩) := by
  intro d
  induction d with
  | zero =>
    intro k u acc hu ha hb hk
    obtain ⟨k, rfl⟩ := succ_of hk
    obtain rfl : u = 0 := by simp at hu; omega
    simp only [spec_NumText.l0]
    rw [if_neg (by omega), if_pos trivial]
  | succ d ih =>
    intro k u acc hu ha hb hk
    obtain ⟨k, rfl⟩ := succ_of hk
    simp only [spec_NumText.l0]
    by_cases h0 : u = 0
    · rw [if_neg (by omega), if_pos h0]
    have h10 : (10 : Nat) ^ (d + 1) = 10 ^ d * 10 := rfl
    rw [if_pos (by omega), Option.bind_some, if_pos (by rw [strOfNums_size]; simp; omega), if_neg h0]
    have hdiv : wrap64 (Int.tdiv (u : Int) 10) = ((u / 10 : Nat) : Int) := by
      rw [Int.tdiv_eq_ediv_of_nonneg (by omega), w64 (by omega)]; omega
    rw [hdiv, ih k (u / 10) _ (by omega) (by rw [ByteArray.size_append, strOfNums_size]; simp; omega) (by omega) (by omega)]
    refine congrArg some ?_
    have hB : B (strOfNums [(wrap64 (48 + Int.tmod (u : Int) 10)) % 256] ++ acc) = UInt8.ofNat (48 + u % 10) :: B acc := by
      rw [B_append, B_strOf, List.map_cons, List.map_nil, digit_of]; rfl
    split
    · rename_i h1
      apply B_ext
      rw [hB, B_mk (Lib.decDigits u ++ B acc), Lib.decDigits, dif_pos (by omega), show u % 10 = u by omega]
      rfl
    · rename_i h1
      apply B_ext
      rw [hB, B_mk (Lib.decDigits (u / 10) ++ _), B_mk (Lib.decDigits u ++ B acc)]
      conv => rhs; rw [Lib.decDigits]
      rw [dif_neg (by omega), List.append_assoc]
      rfl
theorem itoa_nat (u : Nat) : Lib.itoa (u : Int) = Lib.decDigits u := by
  unfold Lib.itoa; rw [if_neg (by omega), Int.toNat_natCast]
theorem spec_NumText_f {k : Nat} {n : Int} (hk : 30 < k) : spec_NumText.f k n = some (numT n) := by
  unfold spec_NumText.f numT
  rw [spec_l1In_f, Option.bind_some]
  by_cases h : 0 ≤ n ∧ n ≤ 1000000
  · rw [if_pos (decide_eq_true h), if_pos h]
    obtain ⟨u, rfl⟩ : ∃ u : Nat, n = u := ⟨n.toNat, by omega⟩
    rw [itoa_nat]
    by_cases h0 : u = 0
    · subst h0
      rw [if_pos (show ((0 : Nat) : Int) = 0 from rfl), Lib.decDigits, dif_pos (by omega)]; rfl
    · rw [if_neg (by omega), spec_NumText_l0 20 k u _ (by omega) (by decide) (by omega) (by omega), if_neg h0, B_empty, List.append_nil]
  · rw [if_neg (by simpa using h), if_neg h]
theorem impl_NumText_f {n : Int} : impl_NumText.f n = some (numT n) := by
  unfold impl_NumText.f numT
  rw [impl_inRange_f, Option.bind_some]
  by_cases h : 0 ≤ n ∧ n ≤ 1000000
  · rw [if_pos (decide_eq_true h), if_pos h]
    unfold strconv_Itoa.f
    rw [if_pos (by omega), Option.bind_some]
  · rw [if_neg (by simpa using h), if_neg h]
theorem numT_size (t : Int) : (numT t).size ≤ 20 := by
  unfold numT
  split
  · rename_i h
    obtain ⟨u, rfl⟩ : ∃ u : Nat, t = u := ⟨t.toNat, by omega⟩
    have hl := decDigits_len u 6 (by omega)
    rw [itoa_nat, ← B_len, B_mk (Lib.decDigits u)]; omega
  · simp [ByteArray.size]
/-! ### Trim -/
def trimT (s : ByteArray) : ByteArray := ⟨(Lib.trimB (B s) 32).toArray⟩
theorem oct32 (c : UInt8) : ((c.toNat : Int) = 32) ↔ c = 32 := by
  constructor
  · intro h
    have : c.toNat = (32 : UInt8).toNat := by show c.toNat = 32; omega
    exact UInt8.toNat_inj.1 this
  · rintro rfl; rfl
theorem spec_Trim_l1 (s : ByteArray) (hs : (s.size : Int) ≤ 4611686018427387904) (i : Nat) (hi : i ≤ s.size) : ∀ (d k m : Nat), m = i + d → m ≤ s.size → d < k → (∀ j (h : j < (B s).length), m ≤ j → (B s)[j] = 32) →
    ∃ n, i ≤ n ∧ n ≤ s.size ∧ spec_Trim.l1 k s i m = some (s.extract i n) ∧ (∀ j (h : j < (B s).length), n ≤ j → (B s)[j] = 32) ∧ (n = i ∨ ∀ (h : n - 1 < (B s).length), (B s)[n - 1] ≠ 32) := by
  intro d
  induction d with
  | zero =>
    intro k m hm hms hk hall
    obtain ⟨k, rfl⟩ := succ_of hk
    refine ⟨m, by omega, hms, ?_, hall, .inl (by omega)⟩
    simp only [spec_Trim.l1]
    rw [if_neg (by omega), if_pos (by omega), if_pos (by omega), if_pos (by omega), Int.toNat_natCast, Int.toNat_natCast]
  | succ d ih =>
    intro k m hm hms hk hall
    obtain ⟨k, rfl⟩ := succ_of hk
    have hl : m - 1 < (B s).length := by rw [B_len]; omega
    have hw : wrap64 ((m : Int) - 1) = ((m - 1 : Nat) : Int) := by rw [w64 (by omega)]; omega
    simp only [spec_Trim.l1]
    rw [hw, if_pos (by omega), if_pos (by omega), if_pos (by omega), bt_get s (m - 1) hl]
    by_cases c : (B s)[m - 1] = 32
    · rw [if_pos ((oct32 _).2 c)]
      refine ih k (m - 1) (by omega) (by omega) (by omega) (fun j h hj => ?_)
      by_cases e : j = m - 1
      · subst e; exact c
      · exact hall j h (by omega)
    · rw [if_neg (fun e => c ((oct32 _).1 e)), if_pos (by omega), if_pos (by omega), if_pos (by omega), Int.toNat_natCast, Int.toNat_natCast]
      exact ⟨m, by omega, hms, rfl, hall, .inr fun _ => c⟩
theorem trim_is (s : ByteArray) (i n : Nat) (hi : i ≤ n) (hn : n ≤ s.size) (h1 : ∀ j (h : j < (B s).length), j < i → (B s)[j] = 32) (h2 : ∀ h : i < (B s).length, (B s)[i] ≠ 32) (h3 : ∀ j (h : j < (B s).length), n ≤ j → (B s)[j] = 32) (h4 : n = i ∨ ∀ (h : n - 1 < (B s).length), (B s)[n - 1] ≠ 32) :
    s.extract i n = trimT s := by
  apply B_ext
  rw [B_extract]
  unfold trimT
  rw [B_mk (Lib.trimB (B s) 32)]
  have hlen := B_len s
  unfold Lib.trimB
  by_cases hi' : i < s.size
  · have hni : n ≠ i := fun e => h2 (by omega) (h3 i (by omega) (by omega))
    rw [Lib.trimRightB_take (B s) 32 n (by omega) (fun j b hj hb => by
      obtain ⟨hj', rfl⟩ := List.getElem?_eq_some_iff.1 hb
      exact h3 j hj' hj) (fun b _ hb => by
      obtain ⟨hj', rfl⟩ := List.getElem?_eq_some_iff.1 hb
      rcases h4 with h4 | h4
      · exact absurd h4 hni
      · exact h4 hj'),
      Lib.trimLeftB_drop ((B s).take n) 32 i (by rw [List.length_take]; omega) (fun j b hj hb => by
        rw [List.getElem?_take_of_lt (by omega)] at hb
        obtain ⟨hj', rfl⟩ := List.getElem?_eq_some_iff.1 hb
        exact h1 j hj' hj) (fun b hb => by
        rw [List.getElem?_take_of_lt (by omega)] at hb
        obtain ⟨hj', rfl⟩ := List.getElem?_eq_some_iff.1 hb
        exact h2 hj')]
  · rw [Lib.trimRightB_take (B s) 32 0 (by omega) (fun j b _ hb => by
      obtain ⟨hj', rfl⟩ := List.getElem?_eq_some_iff.1 hb
      exact h1 j hj' (by omega)) (fun b h _ => by omega)]
    rw [List.drop_eq_nil_of_le (by rw [List.length_take]; omega)]
    rfl
theorem spec_Trim_l0 (s : ByteArray) (hs : (s.size : Int) ≤ 4611686018427387904) : ∀ (d k i : Nat), s.size = i + d → d + s.size + 2 < k → (∀ j (h : j < (B s).length), j < i → (B s)[j] = 32) → spec_Trim.l0 k s i (s.size : Int) = some (trimT s) := by
  intro d
  have fin : ∀ (k i : Nat), i ≤ s.size → s.size + 1 < k → (∀ j (h : j < (B s).length), j < i → (B s)[j] = 32) → (∀ h : i < (B s).length, (B s)[i] ≠ 32) → spec_Trim.j1 k s i (s.size : Int) = some (trimT s) := by
    intro k i hi hk h1 h2
    obtain ⟨k, rfl⟩ := succ_of (show 0 < k by omega)
    simp only [spec_Trim.j1]
    obtain ⟨n, n1, n2, n3, n4, n5⟩ := spec_Trim_l1 s hs i hi (s.size - i) k s.size (by omega) (Nat.le_refl _) (by omega) (fun j h hj => by rw [B_len] at h; omega)
    rw [n3, trim_is s i n n1 n2 h1 h2 n4 n5]
  induction d with
  | zero =>
    intro k i hd hk hall
    obtain ⟨k, rfl⟩ := succ_of (show 0 < k by omega)
    simp only [spec_Trim.l0]
    rw [if_neg (by omega)]
    exact fin k i (by omega) (by omega) hall (fun h => by rw [B_len] at h; omega)
  | succ d ih =>
    intro k i hd hk hall
    obtain ⟨k, rfl⟩ := succ_of (show 0 < k by omega)
    have hl : i < (B s).length := by rw [B_len]; omega
    simp only [spec_Trim.l0]
    rw [if_pos (by omega), if_pos (by omega), if_pos (by omega), bt_get s i hl, nat_round (n := s.size) (by omega) (by omega)]
    by_cases c : (B s)[i] = 32
    · rw [if_pos ((oct32 _).2 c)]
      refine ih k (i + 1) (by omega) (by omega) (fun j h hj => ?_)
      by_cases e : j = i
      · subst e; exact c
      · exact hall j h (by omega)
    · rw [if_neg (fun e => c ((oct32 _).1 e))]
      exact fin k i (by omega) (by omega) hall (fun _ => c)
theorem spec_Trim_f {k : Nat} {s : ByteArray} (hs : (s.size : Int) ≤ 4611686018427387904) (hk : 2 * s.size + 2 < k) : spec_Trim.f k s = some (trimT s) :=
  spec_Trim_l0 s hs s.size k 0 (by omega) (by omega) (fun j _ hj => by omega)
theorem impl_Trim_f {s : ByteArray} (hs : (s.size : Int) ≤ 4611686018427387904) : impl_Trim.f s = some (trimT s) := by
  unfold impl_Trim.f strings_Trim.f
  rw [if_pos ⟨rfl, by omega⟩, Option.bind_some]
  rfl
/-! ### NumRead -/
def decV (acc : Nat) (l : List UInt8) : Nat := l.foldl (fun a c => a * 10 + (c.toNat - 48)) acc
def digs (l : List UInt8) : Bool := l.all fun c => decide (48 ≤ c.toNat ∧ c.toNat ≤ 57)
theorem decV_cons (acc : Nat) (c : UInt8) (r : List UInt8) : decV acc (c :: r) = decV (acc * 10 + (c.toNat - 48)) r := by unfold decV; rw [List.foldl_cons]
theorem decV_nil (acc : Nat) : decV acc [] = acc := by unfold decV; rw [List.foldl_nil]
theorem decV_append (a b : List UInt8) (acc : Nat) : decV acc (a ++ b) = decV (decV acc a) b := by
  induction a generalizing acc with
  | nil => rw [List.nil_append, decV_nil]
  | cons c r ih => rw [List.cons_append, decV_cons, decV_cons, ih]
theorem digit_nat (u : Nat) (h : u < 10) : (UInt8.ofNat (48 + u)).toNat = 48 + u := by
  exact UInt8.toNat_ofNat_of_lt' (by show 48 + u < 256; omega)
theorem dec_facts (u : Nat) : decV 0 (Lib.decDigits u) = u ∧ digs (Lib.decDigits u) = true ∧ Lib.decDigits u ≠ [] := by
  induction u using Nat.strongRecOn with
  | _ u ih =>
    rw [Lib.decDigits]
    split
    · rename_i h
      refine ⟨?_, ?_, by simp⟩
      · rw [decV_cons, decV_nil, digit_nat u h]; omega
      · simp only [digs, List.all_cons, List.all_nil]; rw [digit_nat u h, decide_eq_true (by omega)]; rfl
    · rename_i h
      obtain ⟨h1, h2, h3⟩ := ih (u / 10) (by omega)
      refine ⟨?_, ?_, by simp⟩
      · rw [decV_append, h1, decV_cons, decV_nil, digit_nat (u % 10) (by omega)]; omega
      · unfold digs at h2 ⊢
        rw [List.all_append, h2, List.all_cons, List.all_nil, digit_nat (u % 10) (by omega), decide_eq_true (by omega)]; rfl
theorem parse_digs : ∀ (l : List UInt8) (acc j : Nat), digs l = true → acc < 10 ^ j → j + l.length ≤ 18 → Lib.parseUint10 acc l = .ok (decV acc l)
  | [], acc, j, _, _, _ => by rw [decV_nil]; rfl
  | c :: r, acc, j, hd, ha, hj => by
    unfold digs at hd
    rw [List.all_cons, Bool.and_eq_true] at hd
    have hc := of_decide_eq_true hd.1
    simp only [List.length_cons] at hj
    have hp : (10 : Nat) ^ (j + 1) = 10 ^ j * 10 := rfl
    have hb : (10 : Nat) ^ j ≤ 10 ^ 17 := Nat.pow_le_pow_right (by omega) (by omega)
    simp only [Lib.parseUint10]
    rw [decV_cons, if_pos hc, if_neg (by omega), if_neg (by omega)]
    exact parse_digs r _ (j + 1) hd.2 (by omega) (by omega)
theorem atoi_dec (n : Nat) (h : n ≤ 1000000) : Lib.atoiAll (Lib.decDigits n) = .ok (n : Int) := by
  obtain ⟨h1, h2, h3⟩ := dec_facts n
  have hl := decDigits_len n 6 (by omega)
  have hp := parse_digs (Lib.decDigits n) 0 0 h2 (by omega) (by omega)
  rw [h1] at hp
  cases e : Lib.decDigits n with
  | nil => exact absurd e h3
  | cons c r =>
    rw [e] at hp h2
    unfold digs at h2
    rw [List.all_cons, Bool.and_eq_true] at h2
    have hc := of_decide_eq_true h2.1
    simp only [Lib.atoiAll]
    rw [if_neg (by omega)]
    unfold Lib.parseMag
    rw [if_neg (by simp), hp]
    simp only
    rw [if_neg (by omega), if_neg (by omega), if_neg (by omega)]
theorem numRead_yes {s : ByteArray} {n : Nat} (h : n ≤ 1000000) (hs : B s = Lib.decDigits n) : numRead s = ((n : Int), true) := by
  have hl := decDigits_len n 6 (by omega)
  rw [← hs, B_len] at hl
  unfold numRead
  rw [if_neg (by omega)]
  show (match Lib.atoiAll (B s) with | .ok n => if 0 ≤ n ∧ n ≤ 1000000 ∧ Lib.itoa n = B s then (n, true) else (0, false) | _ => (0, false)) = _
  rw [hs, atoi_dec n h]
  simp only
  rw [if_pos ⟨by omega, by omega, itoa_nat n⟩]
theorem numRead_no {s : ByteArray} (h : ∀ n : Nat, n ≤ 1000000 → B s ≠ Lib.decDigits n) : numRead s = (0, false) := by
  unfold numRead
  split
  · rfl
  split
  · rename_i n _
    rw [if_neg]
    rintro ⟨h1, h2, h3⟩
    obtain ⟨u, rfl⟩ : ∃ u : Nat, n = u := ⟨n.toNat, by omega⟩
    rw [itoa_nat] at h3
    exact h u (by omega) h3.symm
  · rfl
theorem spec_NumRead_l0 (s : ByteArray) (hs : s.size ≤ 7) : ∀ (d k i v : Nat), s.size = i + d → v < 10 ^ i → d + 40 < k →
    spec_NumRead.l0 k s v i = some (if digs ((B s).drop i) = true ∧ numT ((decV v ((B s).drop i) : Nat) : Int) = s then (((decV v ((B s).drop i) : Nat) : Int), true) else (0, false)) := by
  intro d
  induction d with
  | zero =>
    intro k i v hd hv hk
    obtain ⟨k, rfl⟩ := succ_of (show 0 < k by omega)
    simp only [spec_NumRead.l0]
    rw [if_neg (by omega), List.drop_eq_nil_of_le (by rw [B_len]; omega), spec_NumText_f (by omega), Option.bind_some, decV_nil]
    by_cases h : numT (v : Int) = s
    · rw [if_pos (by rw [h]), if_pos ⟨rfl, h⟩]
    · rw [if_neg (fun e => h (toList_inj e)), if_neg (fun e => h e.2)]
  | succ d ih =>
    intro k i v hd hv hk
    obtain ⟨k, rfl⟩ := succ_of (show 0 < k by omega)
    have hl : i < (B s).length := by rw [B_len]; omega
    have hp : (10 : Nat) ^ (i + 1) = 10 ^ i * 10 := rfl
    have hb : (10 : Nat) ^ i ≤ 10 ^ 7 := Nat.pow_le_pow_right (by omega) (by omega)
    simp only [spec_NumRead.l0]
    rw [if_pos (by omega), if_pos (by omega), bt_get s i hl, nat_round (n := s.size) (by omega) (by omega), drop_at hl, decV_cons]
    by_cases h1 : ((B s)[i].toNat : Int) < 48
    · rw [if_pos h1, if_neg]
      rintro ⟨e, _⟩
      unfold digs at e
      rw [List.all_cons, decide_eq_false (by omega)] at e
      exact Bool.noConfusion e
    rw [if_neg h1]
    by_cases h2 : ((B s)[i].toNat : Int) > 57
    · rw [if_pos h2, if_neg]
      rintro ⟨e, _⟩
      unfold digs at e
      rw [List.all_cons, decide_eq_false (by omega)] at e
      exact Bool.noConfusion e
    rw [if_neg h2, w64 (n := 10 * (v : Int)) (by omega), w64 (n := ((B s)[i].toNat : Int)) (by omega), w64 (n := 10 * (v : Int) + _) (by omega), w64 (by omega),
      show 10 * (v : Int) + ((B s)[i].toNat : Int) - 48 = ((v * 10 + ((B s)[i].toNat - 48) : Nat) : Int) by omega, ih k (i + 1) _ (by omega) (by omega) (by omega)]
    have hg : digs ((B s)[i] :: (B s).drop (i + 1)) = digs ((B s).drop (i + 1)) := by
      unfold digs
      rw [List.all_cons, decide_eq_true (by omega), Bool.true_and]
    rw [hg]
theorem spec_NumRead_f {k : Nat} {s : ByteArray} (hk : 60 < k) : spec_NumRead.f k s = some (numRead s) := by
  obtain ⟨k, rfl⟩ := succ_of (show 0 < k by omega)
  have hlenf : ∀ n : Nat, n ≤ 1000000 → B s = Lib.decDigits n → 1 ≤ s.size ∧ s.size ≤ 7 := fun n h e => by
    obtain ⟨_, _, h3⟩ := dec_facts n
    have hl := decDigits_len n 6 (by omega)
    have : 1 ≤ (Lib.decDigits n).length := by
      cases e : Lib.decDigits n with
      | nil => exact absurd e h3
      | cons c r => simp
    rw [← e, B_len] at hl this
    omega
  unfold spec_NumRead.f
  have e0 : (s.toList = []) ↔ s.size = 0 := by
    rw [toList_B]
    constructor
    · intro e; rw [← B_len, e]; rfl
    · intro e; exact List.eq_nil_of_length_eq_zero (by rw [B_len, e])
  by_cases h0 : s.size = 0
  · rw [if_pos (e0.2 h0)]
    simp only [spec_NumRead.j0]
    rw [if_pos trivial, numRead_no (fun n h e => by have := hlenf n h e; omega)]
  rw [if_neg (fun e => h0 (e0.1 e))]
  simp only [spec_NumRead.j0]
  by_cases h7 : s.size > 7
  · rw [if_pos (decide_eq_true (by omega)), numRead_no (fun n h e => by have := hlenf n h e; omega)]
  rw [if_neg (by simp; omega)]
  have hl0 := spec_NumRead_l0 s (by omega) s.size k 0 0 (by omega) (by omega) (by omega)
  rw [List.drop_zero] at hl0
  refine hl0.trans (congrArg some ?_)
  by_cases h : ∃ n : Nat, n ≤ 1000000 ∧ B s = Lib.decDigits n
  · obtain ⟨n, hn, e⟩ := h
    obtain ⟨h1, h2, h3⟩ := dec_facts n
    have hT : numT (n : Int) = s := by
      unfold numT
      rw [if_pos (by omega), itoa_nat, ← e]
      exact B_ext (B_mk _)
    rw [numRead_yes hn e, e, h1, if_pos ⟨h2, hT⟩]
  · rw [numRead_no (fun n hn e => h ⟨n, hn, e⟩), if_neg]
    rintro ⟨_, e⟩
    unfold numT at e
    split at e
    · rename_i hr
      rw [itoa_nat] at e
      exact h ⟨decV 0 (B s), by omega, (congrArg B e).symm.trans (B_mk (Lib.decDigits _))⟩
    · exact h0 (by rw [← e]; rfl)
theorem impl_NumRead_f {s : ByteArray} : impl_NumRead.f s = some (numRead s) := rfl
/-! ### strings.Split in plain words -/
theorem splitBs_none (s sep : ByteArray) (h : ∀ j, j ≤ (B s).length → Lib.occAt (B s) (B sep) j = false) : splitBs s sep = [s] := by
  have hi : Lib.indexB s sep = -1 := Lib.index_none h
  unfold splitBs
  exact Lib.splitB_miss sep 0 _ s hi
theorem splitBs_at (s sep : ByteArray) (i : Nat) (h1 : 1 ≤ sep.size) (hi : i ≤ (B s).length) (ho : Lib.occAt (B s) (B sep) i = true) (hn : ∀ j, j < i → Lib.occAt (B s) (B sep) j = false) :
    splitBs s sep = s.extract 0 i :: splitBs (s.extract (i + sep.size) s.size) sep := by
  have hx : Lib.indexB s sep = (i : Int) := Lib.index_first hi ho hn
  unfold splitBs
  rw [Lib.countB_hit s sep i h1 hx, Nat.add_comm 1, Lib.splitB_hit sep 0 _ s i hx, Nat.add_zero]
theorem occ_one (l : List UInt8) (c : UInt8) (j : Nat) : Lib.occAt l [c] j = (match l[j]? with | some x => c == x | none => false) := by
  unfold Lib.occAt
  by_cases h : j < l.length
  · rw [drop_at h, List.getElem?_eq_getElem h]; simp [List.isPrefixOf]
  · rw [List.drop_eq_nil_of_le (by omega), List.getElem?_eq_none (by omega)]; rfl
theorem split1_none (s : ByteArray) (c : UInt8) (h : ∀ j (h : j < (B s).length), (B s)[j] ≠ c) : splitBs s ⟨#[c]⟩ = [s] := by
  refine splitBs_none s _ (fun j hj => ?_)
  show Lib.occAt (B s) [c] j = false
  rw [occ_one]
  by_cases hl : j < (B s).length
  · rw [List.getElem?_eq_getElem hl]; simp only; rw [beq_eq_false_iff_ne]; exact fun e => h j hl e.symm
  · rw [List.getElem?_eq_none (by omega)]
theorem split1_at (s : ByteArray) (c : UInt8) (i : Nat) (hi : i < (B s).length) (h1 : (B s)[i] = c) (h2 : ∀ j (h : j < (B s).length), j < i → (B s)[j] ≠ c) : splitBs s ⟨#[c]⟩ = s.extract 0 i :: splitBs (s.extract (i + 1) s.size) ⟨#[c]⟩ := by
  refine splitBs_at s ⟨#[c]⟩ i (by show 1 ≤ 1; omega) (by omega) ?_ (fun j hj => ?_)
  · show Lib.occAt (B s) [c] i = true
    rw [occ_one, List.getElem?_eq_getElem hi, h1]; simp
  · show Lib.occAt (B s) [c] j = false
    rw [occ_one, List.getElem?_eq_getElem (by omega)]; simp only; rw [beq_eq_false_iff_ne]; exact fun e => h2 j (by omega) hj e.symm
theorem B_get_extract (s : ByteArray) (a b j : Nat) (hj : j < (B (s.extract a b)).length) : ∃ h : a + j < (B s).length, (B (s.extract a b))[j] = (B s)[a + j] ∧ a + j < b := by
  have e := B_extract s a b
  have hl : j < (((B s).take b).drop a).length := by rw [← e]; exact hj
  simp only [List.length_drop, List.length_take] at hl
  refine ⟨by omega, ?_, by omega⟩
  simp only [e, List.getElem_drop, List.getElem_take]
theorem splitBs_len (s sep : ByteArray) (h1 : 1 ≤ sep.size) : (splitBs s sep).length ≤ s.size + 1 := by
  have h := Lib.splitB_length_le sep 0 (Lib.countB s sep) s
  have h2 := Lib.countB_le sep h1 _ s (Nat.le_refl _)
  unfold splitBs; omega
/-! ### Split -/
def wordsOf (l : List ByteArray) : List ByteArray := (l.map trimT).filter fun t => !decide (t.toList = [])
theorem wordsOf_cons (x : ByteArray) (r : List ByteArray) : wordsOf (x :: r) = if (trimT x).toList = [] then wordsOf r else trimT x :: wordsOf r := by
  unfold wordsOf
  rw [List.map_cons, List.filter_cons]
  by_cases h : (trimT x).toList = [] <;> simp [h]
def splitT (s : ByteArray) : List ByteArray := wordsOf (splitBs s ⟨#[44]⟩)
theorem impl_Split_l0 (l : List ByteArray) (hl : l.length ≤ 4294967296) (hx : ∀ x ∈ l, x.size ≤ 4294967296) : ∀ (d k i : Nat) (acc : List ByteArray), l.length - i = d → i ≤ l.length → acc.length ≤ i → d < k →
    impl_Split.l0 k acc l (l.length : Int) i = some (acc ++ wordsOf (l.drop i)) := by
  intro d
  induction d with
  | zero =>
    intro k i acc hd hi ha hk
    obtain ⟨k, rfl⟩ := succ_of hk
    simp only [impl_Split.l0]
    rw [if_neg (by omega), List.drop_eq_nil_of_le (by omega)]; simp [wordsOf]
  | succ d ih =>
    intro k i acc hd hi ha hk
    obtain ⟨k, rfl⟩ := succ_of hk
    have hlt : i < l.length := by omega
    have hs := hx _ (List.getElem_mem hlt)
    simp only [impl_Split.l0]
    rw [if_pos (by omega), if_pos (by omega), if_pos (by omega), rd_B l i hlt, impl_Trim_f (by omega), Option.bind_some, nat_round (n := l.length) hlt (by omega), drop_at hlt, wordsOf_cons]
    by_cases h : (trimT l[i]).toList = []
    · rw [if_pos h, if_pos h, ih k (i + 1) acc (by omega) (by omega) (by omega) (by omega)]
    · rw [if_neg h, if_neg h, if_pos (by omega), ih k (i + 1) _ (by omega) (by omega) (by simp; omega) (by omega), List.append_assoc]; rfl
theorem splitBs_small : ∀ (n : Nat) (s sep : ByteArray), s.size ≤ n → 1 ≤ sep.size → ∀ x ∈ splitBs s sep, x.size ≤ s.size := by
  intro n s sep _ h1
  unfold splitBs
  generalize Lib.countB s sep = c
  induction c generalizing s n with
  | zero => intro x hx; simp only [Lib.splitB, List.mem_singleton] at hx; rw [hx]; exact Nat.le_refl _
  | succ c ih =>
    intro x hx
    unfold Lib.splitB at hx
    split at hx
    · simp only [List.mem_singleton] at hx; rw [hx]; exact Nat.le_refl _
    · rcases List.mem_cons.1 hx with rfl | hx
      · rw [ByteArray.size_extract]; omega
      · have := ih s.size _ (by rw [ByteArray.size_extract]; omega) x hx
        rw [ByteArray.size_extract] at this; omega
theorem impl_Split_f {k : Nat} {s : ByteArray} (hs : s.size ≤ 1048576) (hk : s.size + 1 < k) : impl_Split.f k s = some (splitT s) := by
  unfold impl_Split.f strings_Split.f
  have hn := splitBs_len s ⟨#[44]⟩ (by show 1 ≤ 1; omega)
  rw [if_pos ⟨by omega, by show 1 ≤ 1; omega⟩, Option.bind_some]
  have := impl_Split_l0 (splitBs s ⟨#[44]⟩) (by omega) (fun x hx => by have := splitBs_small s.size s ⟨#[44]⟩ (Nat.le_refl _) (by show 1 ≤ 1; omega) x hx; omega) (splitBs s ⟨#[44]⟩).length k 0 [] (by omega) (by omega) (by simp) (by omega)
  rw [List.drop_zero, List.nil_append] at this
  exact this
theorem spec_Split_l0 (s : ByteArray) (hs : s.size ≤ 1048576) : ∀ (d k f i : Nat) (acc : List ByteArray), s.size - i = d → i ≤ s.size → f ≤ i → acc.length ≤ i → (∀ j (h : j < (B s).length), f ≤ j → j < i → (B s)[j] ≠ 44) → 2 * d + 2 * s.size + 9 < k →
    spec_Split.l0 k s acc f i = some (acc ++ wordsOf (splitBs (s.extract f s.size) ⟨#[44]⟩)) := by
  intro d
  induction d with
  | zero =>
    intro k f i acc hd hi hf ha hno hk
    obtain ⟨k, rfl⟩ := succ_of (show 5 < k by omega)
    obtain ⟨k, rfl⟩ := succ_of (show 4 < k by omega)
    have hiz : i = s.size := by omega
    have hz : (s.extract f s.size).size = s.size - f := by rw [ByteArray.size_extract]; omega
    have hsp : splitBs (s.extract f s.size) ⟨#[44]⟩ = [s.extract f s.size] := split1_none _ _ (fun j hj => by
      obtain ⟨h1, h2, h3⟩ := B_get_extract s f s.size j hj
      rw [h2]; exact hno (f + j) h1 (by omega) (by omega))
    simp only [spec_Split.l0]
    rw [if_pos (by omega), if_neg (by omega)]
    simp only [spec_Split.j1]
    rw [if_neg (by simp), if_pos (by omega), if_pos (by omega), if_pos (by omega), Int.toNat_natCast, Int.toNat_natCast, hiz, spec_Trim_f (by omega) (by omega), Option.bind_some, hsp, wordsOf_cons, w64 (by omega)]
    obtain ⟨k, rfl⟩ := succ_of (show 0 < k by omega)
    have fin : ∀ acc', spec_Split.l0 (k + 1) s acc' ((s.size : Int) + 1) ((s.size : Int) + 1) = some acc' := fun acc' => by
      simp only [spec_Split.l0]; rw [if_neg (by omega)]
    by_cases h : (trimT (s.extract f s.size)).toList = []
    · rw [if_pos h, if_pos h, fin]; simp [wordsOf]
    · rw [if_neg h, if_neg h, if_pos (by omega), fin]; simp [wordsOf]
  | succ d ih =>
    intro k f i acc hd hi hf ha hno hk
    obtain ⟨k, rfl⟩ := succ_of (show 5 < k by omega)
    obtain ⟨k, rfl⟩ := succ_of (show 4 < k by omega)
    have hl : i < (B s).length := by rw [B_len]; omega
    simp only [spec_Split.l0]
    rw [if_pos (by omega), if_pos (by omega), if_pos (by omega), bt_get s i hl]
    simp only [spec_Split.j1]
    have h44 : ((B s)[i].toNat : Int) = 44 ↔ (B s)[i] = 44 := by
      constructor
      · intro h
        have : (B s)[i].toNat = (44 : UInt8).toNat := by show (B s)[i].toNat = 44; omega
        exact UInt8.toNat_inj.1 this
      · intro h; rw [h]; rfl
    have hr : wrap64 ((i : Int) + 1) = ((i + 1 : Nat) : Int) := nat_round (n := s.size) (by omega) (by omega)
    by_cases c : (B s)[i] = 44
    · have hsp : splitBs (s.extract f s.size) ⟨#[44]⟩ = s.extract f i :: splitBs (s.extract (i + 1) s.size) ⟨#[44]⟩ := by
        have hz : (s.extract f s.size).size = s.size - f := by rw [ByteArray.size_extract]; omega
        have hlt : i - f < (B (s.extract f s.size)).length := by rw [B_len, hz]; omega
        obtain ⟨g1, g2, _⟩ := B_get_extract s f s.size (i - f) hlt
        rw [split1_at (s.extract f s.size) 44 (i - f) hlt (by rw [g2]; simp only [show f + (i - f) = i by omega]; exact c) (fun j hj hji => by
          obtain ⟨h1, h2, h3⟩ := B_get_extract s f s.size j hj
          rw [h2]; exact hno (f + j) h1 (by omega) (by omega)), ByteArray.extract_extract, hz, ByteArray.extract_extract]
        rw [show min (f + (i - f)) s.size = i by omega, show min (f + (s.size - f)) s.size = s.size by omega, show f + (i - f + 1) = i + 1 by omega, Nat.add_zero]
      rw [if_neg (by simpa using h44.2 c), if_pos (by omega), if_pos (by omega), if_pos (by omega), Int.toNat_natCast, Int.toNat_natCast, spec_Trim_f (by rw [ByteArray.size_extract]; omega) (by rw [ByteArray.size_extract]; omega), Option.bind_some, hsp, wordsOf_cons, hr]
      by_cases h : (trimT (s.extract f i)).toList = []
      · rw [if_pos h, if_pos h, ih k (i + 1) (i + 1) acc (by omega) (by omega) (by omega) (by omega) (fun j _ h1 h2 => by omega) (by omega)]
      · rw [if_neg h, if_neg h, if_pos (by omega), ih k (i + 1) (i + 1) _ (by omega) (by omega) (by omega) (by simp; omega) (fun j _ h1 h2 => by omega) (by omega), List.append_assoc]; rfl
    · rw [if_pos (by simpa using fun e => c (h44.1 e)), hr]
      refine ih k f (i + 1) acc (by omega) (by omega) (by omega) (by omega) (fun j h h1 h2 => ?_) (by omega)
      by_cases e : j = i
      · subst e; exact c
      · exact hno j h h1 (by omega)
theorem spec_Split_f {k : Nat} {s : ByteArray} (hs : s.size ≤ 1048576) (hk : 4 * s.size + 9 < k) : spec_Split.f k s = some (splitT s) := by
  have := spec_Split_l0 s hs s.size k 0 0 [] (by omega) (by omega) (by omega) (by simp) (fun j _ _ h => by omega) (by omega)
  rw [List.nil_append, extract_all0] at this
  exact this
theorem wordsOf_len (l : List ByteArray) : (wordsOf l).length ≤ l.length := by
  unfold wordsOf
  have := List.length_filter_le (fun t : ByteArray => !decide (t.toList = [])) (l.map trimT)
  simpa using this
theorem splitT_len (s : ByteArray) : (splitT s).length ≤ s.size + 1 := by
  have h1 := wordsOf_len (splitBs s ⟨#[44]⟩)
  have h2 := splitBs_len s ⟨#[44]⟩ (by show 1 ≤ 1; omega)
  unfold splitT; omega
/-! ### draws: they end, and what they draw is small -/
theorem and255 (x : Int) : 0 ≤ Go.bits .and .i64 x 255 ∧ Go.bits .and .i64 x 255 ≤ 255 := by
  unfold Go.bits
  simp only
  have h : (BitVec.ofInt IntKind.i64.bits x &&& BitVec.ofInt IntKind.i64.bits 255).toNat ≤ 255 := by
    rw [BitVec.toNat_and]
    exact Nat.and_le_right
  rw [IntKind.wrap_i64]
  omega
theorem spec_l1Byte_f (l : List Int) (i h : Int) (h0 : 0 ≤ i) (hl : (l.length : Int) ≤ 4611686018427387904) (hi : i ≤ l.length) : ∃ v i' h', spec_l1Byte.f l i h = some (v, i', h') ∧ 0 ≤ v ∧ v ≤ 255 ∧ 0 ≤ i' ∧ i' ≤ l.length := by
  unfold spec_l1Byte.f
  split
  · try rw [if_pos h0]
    refine ⟨_, _, _, rfl, (and255 _).1, (and255 _).2, ?_, ?_⟩ <;> rw [w64 (by omega)] <;> omega
  · exact ⟨_, _, _, rfl, (and255 _).1, (and255 _).2, h0, hi⟩
theorem spec_l1Below_f (l : List Int) (i h n : Int) (h0 : 0 ≤ i) (hl : (l.length : Int) ≤ 4611686018427387904) (hi : i ≤ l.length) : ∃ v i' h', spec_l1Below.f l i h n = some (v, i', h') ∧ 0 ≤ v ∧ (0 < n → v < n) ∧ (n ≤ 0 → v = 0) ∧ 0 ≤ i' ∧ i' ≤ l.length := by
  unfold spec_l1Below.f
  split
  · exact ⟨_, _, _, rfl, by omega, by omega, by omega, h0, hi⟩
  split
  · obtain ⟨v, i', h', e, v0, v1, i0, i1⟩ := spec_l1Byte_f l i h h0 hl hi
    rw [e, Option.bind_some, if_neg (by omega)]
    refine ⟨_, _, _, rfl, ?_, fun _ => ?_, by omega, i0, i1⟩
    · exact Int.tmod_nonneg _ v0
    · exact Int.tmod_lt_of_pos _ (by omega)
  · obtain ⟨v, i', h', e, v0, v1, i0, i1⟩ := spec_l1Byte_f l i h h0 hl hi
    rw [e, Option.bind_some]
    obtain ⟨v2, i2, h2, e2, v20, v21, i20, i21⟩ := spec_l1Byte_f l i' h' i0 hl i1
    simp only
    rw [e2, Option.bind_some]
    obtain ⟨v3, i3, h3, e3, v30, v31, i30, i31⟩ := spec_l1Byte_f l i2 h2 i20 hl i21
    simp only
    rw [e3, Option.bind_some]
    obtain ⟨v4, i4, h4, e4, v40, v41, i40, i41⟩ := spec_l1Byte_f l i3 h3 i30 hl i31
    simp only
    rw [e4, Option.bind_some, if_neg (by omega)]
    simp only
    rw [w64 (n := v * 16777216) (by omega), w64 (n := v2 * 65536) (by omega), w64 (n := v3 * 256) (by omega), w64 (n := v * 16777216 + v2 * 65536) (by omega), w64 (n := v * 16777216 + v2 * 65536 + v3 * 256) (by omega), w64 (n := v * 16777216 + v2 * 65536 + v3 * 256 + v4) (by omega)]
    refine ⟨_, _, _, rfl, ?_, fun _ => ?_, by omega, i40, i41⟩
    · exact Int.tmod_nonneg _ (by omega)
    · exact Int.tmod_lt_of_pos _ (by omega)
theorem spec_l1Pick_f (l : List Int) (i h : Int) (ts : List ByteArray) (h0 : 0 ≤ i) (hl : (l.length : Int) ≤ 4611686018427387904) (hi : i ≤ l.length) (hts : 0 < ts.length) : ∃ t i' h', spec_l1Pick.f l i h ts = some (t, i', h') ∧ t ∈ ts ∧ 0 ≤ i' ∧ i' ≤ l.length := by
  unfold spec_l1Pick.f
  obtain ⟨v, i', h', e, v0, v1, _, i0, i1⟩ := spec_l1Below_f l i h ts.length h0 hl hi
  have v2 := v1 (by omega)
  rw [e, Option.bind_some, if_pos v0, if_pos v2]
  obtain ⟨j, rfl⟩ : ∃ j : Nat, v = j := ⟨v.toNat, by omega⟩
  exact ⟨_, _, _, rfl, by simp only; rw [rd_B ts j (by omega)]; exact List.getElem_mem _, i0, i1⟩
theorem spec_l1New_l0 (l : List Int) (hl : (l.length : Int) ≤ 4611686018427387904) : ∀ (d k i : Nat) (h : Int), l.length = i + d → d < k → ∃ h', spec_l1New.l0 k l h i = some (l, 0, h') := by
  intro d
  induction d with
  | zero =>
    intro k i h hd hk
    obtain ⟨k, rfl⟩ := succ_of hk
    simp only [spec_l1New.l0]
    rw [if_neg (by omega)]
    exact ⟨_, rfl⟩
  | succ d ih =>
    intro k i h hd hk
    obtain ⟨k, rfl⟩ := succ_of hk
    simp only [spec_l1New.l0]
    rw [if_pos (by omega)]
    split
    · rw [if_pos (by omega), nat_round (n := l.length) (by omega) (by omega)]
      exact ih k (i + 1) _ (by omega) (by omega)
    · exact ⟨_, rfl⟩
theorem spec_l1New_f {k : Nat} {l : List Int} (hl : (l.length : Int) ≤ 4611686018427387904) (hk : l.length < k) : ∃ h', spec_l1New.f k l = some (l, 0, h') :=
  spec_l1New_l0 l hl l.length k 0 _ (by omega) hk
theorem strOfNums_size' (l : List Int) : (strOfNums l).size = l.length := by rw [← B_len, B_strOf, List.length_map]
theorem spec_l1DrawText_l0 (l : List Int) (hl : (l.length : Int) ≤ 4611686018427387904) : ∀ (d k n : Nat) (acc : List Int) (i h : Int), n + d = 14 → acc.length = n → 0 ≤ i → i ≤ l.length → d < k → ∃ t i' h', spec_l1DrawText.l0 k acc (n : Int) l i h = some (t, i', h') ∧ t.size ≤ 14 ∧ 0 ≤ i' ∧ i' ≤ l.length := by
  intro d
  induction d with
  | zero =>
    intro k n acc i h hd ha h0 hi hk
    obtain ⟨k, rfl⟩ := succ_of hk
    obtain ⟨v, i', h', e, v0, v1, _, i0, i1⟩ := spec_l1Below_f l i h 14 h0 hl hi
    have v2 := v1 (by omega)
    simp only [spec_l1DrawText.l0]
    rw [e, Option.bind_some]
    simp only
    rw [if_neg (by omega)]
    exact ⟨_, _, _, rfl, by rw [strOfNums_size']; omega, i0, i1⟩
  | succ d ih =>
    intro k n acc i h hd ha h0 hi hk
    obtain ⟨k, rfl⟩ := succ_of hk
    obtain ⟨v, i', h', e, v0, v1, _, i0, i1⟩ := spec_l1Below_f l i h 14 h0 hl hi
    simp only [spec_l1DrawText.l0]
    rw [e, Option.bind_some]
    simp only
    split
    · obtain ⟨t, i2, h2, e2, ht, i20, i21⟩ := spec_l1Pick_f l i' h' [⟨#[32]⟩, ⟨#[44]⟩, ⟨#[97]⟩, ⟨#[90]⟩, ⟨#[55]⟩, ⟨#[45]⟩, ⟨#[61]⟩, ⟨#[120]⟩, ⟨#[58]⟩, ⟨#[1]⟩, ⟨#[64]⟩, ⟨#[91]⟩] i0 hl i1 (by simp)
      have hs : t.size = 1 := by
        simp only [List.mem_cons, List.mem_nil_iff, or_false] at ht
        rcases ht with rfl | rfl | rfl | rfl | rfl | rfl | rfl | rfl | rfl | rfl | rfl | rfl <;> rfl
      rw [e2, Option.bind_some]
      simp only
      rw [if_pos (by omega), if_pos (by omega), w64 (by omega), show (n : Int) + 1 = ((n + 1 : Nat) : Int) by omega]
      exact ih k (n + 1) _ i2 h2 (by omega) (by simp [ha]) i20 i21 (by omega)
    · exact ⟨_, _, _, rfl, by rw [strOfNums_size']; omega, i0, i1⟩
theorem spec_l1DrawText_f {k : Nat} {l : List Int} {i h : Int} (hl : (l.length : Int) ≤ 4611686018427387904) (h0 : 0 ≤ i) (hi : i ≤ l.length) (hk : 20 < k) : ∃ t i' h', spec_l1DrawText.f k l i h = some (t, i', h') ∧ t.size ≤ 14 ∧ 0 ≤ i' ∧ i' ≤ l.length :=
  spec_l1DrawText_l0 l hl 14 k 0 [] i h (by omega) rfl h0 hi (by omega)
/-- the texts of a list are of at most K bytes -/
def allLe (K : Nat) (ts : List ByteArray) : Bool := ts.all fun t => Nat.ble t.size K
theorem allLe_mem {K : Nat} {ts : List ByteArray} (h : allLe K ts = true) {t : ByteArray} (ht : t ∈ ts) : t.size ≤ K := by
  unfold allLe at h
  rw [List.all_eq_true] at h
  exact Nat.le_of_ble_eq_true (h t ht)
theorem spec_l1Pick_le (l : List Int) (i h : Int) (K : Nat) (ts : List ByteArray) (h0 : 0 ≤ i) (hl : (l.length : Int) ≤ 4611686018427387904) (hi : i ≤ l.length) (hts : 0 < ts.length) (hk : allLe K ts = true) : ∃ t i' h', spec_l1Pick.f l i h ts = some (t, i', h') ∧ t.size ≤ K ∧ 0 ≤ i' ∧ i' ≤ l.length := by
  obtain ⟨t, i', h', e, ht, r⟩ := spec_l1Pick_f l i h ts h0 hl hi hts
  exact ⟨t, i', h', e, allLe_mem hk ht, r⟩
theorem pick_bind {α : Type} {l : List Int} {i h : Int} {K : Nat} {ts : List ByteArray} {F : ByteArray × Int × Int → Option α} {P : α → Prop} (h0 : 0 ≤ i) (hl : (l.length : Int) ≤ 4611686018427387904) (hi : i ≤ l.length) (hts : 0 < ts.length) (hk : allLe K ts = true)
    (hF : ∀ t i' h', t.size ≤ K → 0 ≤ i' → i' ≤ (l.length : Int) → ∃ r, F (t, i', h') = some r ∧ P r) : ∃ r, (spec_l1Pick.f l i h ts).bind F = some r ∧ P r := by
  obtain ⟨t, i', h', e, ht, j0, j1⟩ := spec_l1Pick_le l i h K ts h0 hl hi hts hk
  rw [e, Option.bind_some]
  exact hF t i' h' ht j0 j1
theorem ex3 {α β γ : Type} {o : Option (α × β × γ)} {P : α × β × γ → Prop} (h : ∃ r, o = some r ∧ P r) : ∃ a b c, o = some (a, b, c) ∧ P (a, b, c) := by
  obtain ⟨⟨a, b, c⟩, e, p⟩ := h; exact ⟨a, b, c, e, p⟩
theorem ex4 {α β γ δ : Type} {o : Option (α × β × γ × δ)} {P : α × β × γ × δ → Prop} (h : ∃ r, o = some r ∧ P r) : ∃ a b c d, o = some (a, b, c, d) ∧ P (a, b, c, d) := by
  obtain ⟨⟨a, b, c, d⟩, e, p⟩ := h; exact ⟨a, b, c, d, e, p⟩
theorem laws_sameTexts_l0 (l : List ByteArray) (hl : l.length ≤ 4398046511104) : ∀ (d k i : Nat), l.length = i + d → d < k → laws_sameTexts.l0 k l l i = some true := by
  intro d
  induction d with
  | zero =>
    intro k i hd hk
    obtain ⟨k, rfl⟩ := succ_of hk
    simp only [laws_sameTexts.l0]
    rw [if_neg (by omega)]
  | succ d ih =>
    intro k i hd hk
    obtain ⟨k, rfl⟩ := succ_of hk
    simp only [laws_sameTexts.l0]
    rw [if_pos (by omega), if_pos (by omega), if_pos (by omega), if_pos trivial, nat_round (n := l.length) (by omega) (by omega)]
    exact ih k (i + 1) (by omega) (by omega)
theorem laws_sameTexts_f {k : Nat} {l : List ByteArray} (hl : l.length ≤ 4398046511104) (hk : l.length < k) : laws_sameTexts.f k l l = some true := by
  unfold laws_sameTexts.f
  rw [if_pos rfl]
  exact laws_sameTexts_l0 l hl l.length k 0 (by omega) hk
theorem dw_head (p : UInt8 → Bool) : ∀ l : List UInt8, l.dropWhile p = [] ∨ ∃ a r, l.dropWhile p = a :: r ∧ p a = false
  | [] => .inl rfl
  | x :: r => by
    rw [List.dropWhile_cons]
    cases h : p x
    · rw [if_neg (by simp)]; exact .inr ⟨x, r, rfl, h⟩
    · rw [if_pos rfl]; exact dw_head p r
theorem dw_self {p : UInt8 → Bool} {a : UInt8} {r : List UInt8} (h : p a = false) : (a :: r).dropWhile p = a :: r := by
  rw [List.dropWhile_cons, h]; rfl
theorem trimB_idem (l : List UInt8) (c : UInt8) : Lib.trimB (Lib.trimB l c) c = Lib.trimB l c := by
  unfold Lib.trimB Lib.trimLeftB Lib.trimRightB
  generalize (fun x : UInt8 => x == c) = p
  obtain ⟨x, hx⟩ : ∃ x, x = (l.reverse.dropWhile p).reverse.dropWhile p := ⟨_, rfl⟩
  rw [← hx]
  rcases dw_head p (l.reverse.dropWhile p).reverse with h | ⟨a, r, h, ha⟩
  · rw [hx, h]; rfl
  · rw [← hx] at h
    rcases dw_head p l.reverse with hq | ⟨b, s, hq, hb⟩
    · rw [hq] at hx; rw [hx] at h; simp at h
    · have ht := List.takeWhile_append_dropWhile (p := p) (l := (l.reverse.dropWhile p).reverse)
      rw [← hx, hq] at ht
      have hr := congrArg List.reverse ht
      rw [List.reverse_append, List.reverse_reverse] at hr
      have hne : x.reverse ≠ [] := by rw [h]; simp
      cases e : x.reverse with
      | nil => exact absurd e hne
      | cons y z =>
        rw [e, List.cons_append] at hr
        obtain ⟨e1, _⟩ := List.cons.inj hr
        rw [← e1] at hb
        rw [dw_self hb, ← e, List.reverse_reverse, h, dw_self ha]
theorem trimT_idem (s : ByteArray) : trimT (trimT s) = trimT s := by
  unfold trimT; rw [B_mk, trimB_idem]
theorem trim_mem {l : List UInt8} {c y : UInt8} (h : y ∈ Lib.trimB l c) : y ∈ l := by
  unfold Lib.trimB Lib.trimLeftB Lib.trimRightB at h
  have h1 := (List.dropWhile_sublist _).subset h
  rw [List.mem_reverse] at h1
  have h2 := (List.dropWhile_sublist _).subset h1
  rwa [List.mem_reverse] at h2
theorem trimT_le (s : ByteArray) : (trimT s).size ≤ s.size := by
  rw [← B_len, ← B_len s]
  unfold trimT
  rw [B_mk]
  unfold Lib.trimB Lib.trimLeftB Lib.trimRightB
  have h1 := (List.dropWhile_sublist (fun x : UInt8 => x == 32) (l := ((B s).reverse.dropWhile (fun x => x == 32)).reverse)).length_le
  have h2 := (List.dropWhile_sublist (fun x : UInt8 => x == 32) (l := (B s).reverse)).length_le
  rw [List.length_reverse] at h1 h2
  exact Nat.le_trans h1 h2
theorem first_at (c : UInt8) : ∀ (l : List UInt8), c ∈ l → ∃ i, ∃ hi : i < l.length, l[i] = c ∧ ∀ j (h : j < l.length), j < i → l[j] ≠ c
  | [], h => by cases h
  | x :: r, h => by
    by_cases e : x = c
    · exact ⟨0, by simp, e, fun j _ hj => by omega⟩
    · have hr : c ∈ r := by
        rcases List.mem_cons.1 h with h | h
        · exact absurd h.symm e
        · exact h
      obtain ⟨i, hi, h1, h2⟩ := first_at c r hr
      refine ⟨i + 1, by simpa using hi, by simpa using h1, fun j hj hji => ?_⟩
      cases j with
      | zero => simpa using e
      | succ j => simpa using h2 j (by simpa using hj) (by omega)
theorem split1_free (c : UInt8) (n : Nat) : ∀ (s : ByteArray), s.size = n → ∀ x ∈ splitBs s ⟨#[c]⟩, c ∉ B x := by
  induction n using Nat.strongRecOn with
  | _ n ih =>
    intro s hs x hx
    by_cases hc : c ∈ B s
    · obtain ⟨i, hi, h1, h2⟩ := first_at c (B s) hc
      rw [split1_at s c i hi h1 h2] at hx
      rcases List.mem_cons.1 hx with rfl | hx
      · intro hm
        obtain ⟨j, hj, e⟩ := List.getElem_of_mem hm
        obtain ⟨g1, g2, g3⟩ := B_get_extract s 0 i j hj
        rw [g2] at e
        exact h2 (0 + j) g1 (by omega) e
      · have hz : (s.extract (i + 1) s.size).size = s.size - (i + 1) := by rw [ByteArray.size_extract]; omega
        rw [B_len] at hi
        exact ih _ (by omega) (s.extract (i + 1) s.size) hz x hx
    · rw [split1_none s c (fun j hj e => hc (e ▸ List.getElem_mem hj))] at hx
      rw [List.mem_singleton.1 hx]; exact hc
theorem splitT_word {s x : ByteArray} (h : x ∈ splitT s) : x.toList ≠ [] ∧ trimT x = x ∧ splitT x = [x] ∧ x.size ≤ s.size := by
  unfold splitT wordsOf at h
  rw [List.mem_filter, List.mem_map] at h
  obtain ⟨⟨y, hy, rfl⟩, hn⟩ := h
  have hn' : (trimT y).toList ≠ [] := by simpa using hn
  have ht := trimT_idem y
  have hc : 44 ∉ B (trimT y) := fun hm => split1_free 44 _ s rfl y hy (by unfold trimT at hm; rw [B_mk] at hm; exact trim_mem hm)
  have h1 := trimT_le y
  have h2 := splitBs_small s.size s ⟨#[44]⟩ (Nat.le_refl _) (by show 1 ≤ 1; omega) y hy
  refine ⟨hn', ht, ?_, Nat.le_trans h1 h2⟩
  unfold splitT
  rw [split1_none (trimT y) 44 (fun j hj e => hc (e ▸ List.getElem_mem hj)), wordsOf_cons, ht, if_neg hn']; rfl
theorem numRead_back {n : Int} (h : (numT n).toList ≠ []) : numRead (numT n) = (n, true) := by
  by_cases hn : 0 ≤ n ∧ n ≤ 1000000
  · obtain ⟨u, rfl⟩ : ∃ u : Nat, n = u := ⟨n.toNat, by omega⟩
    refine numRead_yes (by omega) ?_
    unfold numT
    rw [if_pos hn, B_mk, itoa_nat]
  · refine absurd ?_ h
    unfold numT
    rw [if_neg hn, toList_B]; rfl
theorem numT_numRead {t : ByteArray} (h : (numRead t).2 = true) : numT (numRead t).1 = t := by
  by_cases e : ∃ n : Nat, n ≤ 1000000 ∧ B t = Lib.decDigits n
  · obtain ⟨n, hn, e⟩ := e
    rw [numRead_yes hn e]
    unfold numT
    rw [if_pos ⟨by dsimp only; omega, by dsimp only; omega⟩]
    exact B_ext (by rw [B_mk, itoa_nat, e])
  · rw [numRead_no (fun n hn h' => e ⟨n, hn, h'⟩)] at h; cases h
theorem spec_l1PickInt_f (l : List Int) (i h : Int) (ts : List Int) (h0 : 0 ≤ i) (hl : (l.length : Int) ≤ 4611686018427387904) (hi : i ≤ l.length) (hts : 0 < ts.length) : ∃ t i' h', spec_l1PickInt.f l i h ts = some (t, i', h') ∧ t ∈ ts ∧ 0 ≤ i' ∧ i' ≤ l.length := by
  obtain ⟨v, i', h', e, v0, v1, _, i0, i1⟩ := spec_l1Below_f l i h ts.length h0 hl hi
  have v2 := v1 (by omega)
  unfold spec_l1PickInt.f
  rw [e, Option.bind_some]
  dsimp only
  rw [if_pos v0, if_pos v2]
  obtain ⟨u, rfl⟩ : ∃ u : Nat, v = u := ⟨v.toNat, by omega⟩
  rw [rd_I ts u (by omega)]
  exact ⟨_, _, _, rfl, List.getElem_mem (by omega), i0, i1⟩
theorem spec_DrawNumText_f {k : Nat} {l : List Int} (hl : (l.length : Int) ≤ 4611686018427387904) (hk : l.length + 20 < k) : ∃ t, spec_DrawNumText.f k l = some t := by
  unfold spec_DrawNumText.f
  obtain ⟨h, e⟩ := spec_l1New_f (k := k) hl (by omega)
  rw [e, Option.bind_some]
  obtain ⟨t, i', h', e2, _⟩ := spec_l1PickInt_f l 0 h [0, 1, 9, 10, 777, 1000000, 1000001, (-1), (-9223372036854775808)] (by omega) hl (by omega) (by decide)
  dsimp only
  rw [e2, Option.bind_some]
  exact ⟨_, rfl⟩
theorem spec_DrawNumRead_f {k : Nat} {l : List Int} (hl : (l.length : Int) ≤ 4611686018427387904) (hk : l.length + 20 < k) : ∃ t, spec_DrawNumRead.f k l = some t ∧ t.size ≤ 8 := by
  unfold spec_DrawNumRead.f
  obtain ⟨h, e⟩ := spec_l1New_f (k := k) hl (by omega)
  rw [e, Option.bind_some]
  exact pick_bind (K := 8) (by dsimp only; omega) hl (by dsimp only; omega) (by decide) (by decide) (fun t i' h' ht _ _ => ⟨t, rfl, ht⟩)
theorem spec_DrawTrim_f {k : Nat} {l : List Int} (hl : (l.length : Int) ≤ 4611686018427387904) (hk : l.length + 20 < k) : ∃ t, spec_DrawTrim.f k l = some t ∧ t.size ≤ 20 := by
  unfold spec_DrawTrim.f
  obtain ⟨h, e⟩ := spec_l1New_f (k := k) hl (by omega)
  rw [e, Option.bind_some]
  refine pick_bind (K := 3) (by dsimp only; omega) hl (by dsimp only; omega) (by decide) (by decide) (fun a i1 h1 ha i10 i11 => ?_)
  obtain ⟨t, i2, h2, e2, ht, i20, i21⟩ := spec_l1DrawText_f (k := k) (h := h1) hl i10 i11 (by omega)
  dsimp only
  rw [e2, Option.bind_some]
  dsimp only
  rw [if_pos (by omega)]
  refine pick_bind (K := 3) i20 hl i21 (by decide) (by decide) (fun b i3 h3 hb _ _ => ?_)
  dsimp only
  rw [if_pos (by rw [ByteArray.size_append]; omega)]
  exact ⟨_, rfl, by rw [ByteArray.size_append, ByteArray.size_append]; omega⟩
theorem spec_DrawSplit_f {k : Nat} {l : List Int} (hl : (l.length : Int) ≤ 4611686018427387904) (hk : l.length + 20 < k) : ∃ t, spec_DrawSplit.f k l = some t ∧ t.size ≤ 14 := by
  unfold spec_DrawSplit.f
  obtain ⟨h, e⟩ := spec_l1New_f (k := k) hl (by omega)
  rw [e, Option.bind_some]
  obtain ⟨t, i', h', e2, ht, _⟩ := spec_l1DrawText_f (k := k) (i := 0) (h := h) hl (by omega) (by omega) (by omega)
  simp only
  rw [e2, Option.bind_some]
  exact ⟨_, rfl, ht⟩

end Go.Proofs.YtiinmfjbildclaaDoor.Pure
