/- What the printed functions answer, in plain words: lemmas of this session. No condition of a statement lies here. -/
import Derived.Test.YtjckfmipegemcaaGreatDoorKPiecesAllx0
import Derived.Test.YtjckfmipegemcaaGreatDoorKPiecesAllx1
import Derived.Test.YtjckfmipegemcaaGreatDoorKPiecesAllx2
import Derived.Test.YtjckfmipegemcaaGreatDoorKPiecesAllx3
import Derived.Test.YtjckfmipegemcaaGreatDoorKPiecesAllx4
import Derived.Test.YtjckfmipegemcaaGreatDoorKPiecesAllx5
import Derived.Test.YtjckfmipegemcaaGreatDoorKPiecesAllx6
namespace Go.Proofs.YtjckfmipegemcaaGreatDoor.Pure
open Go.RowKit Go.Proofs.YtjckfmipegemcaaGreatDoor.All Go.Proofs.YtjckfmipegemcaaGreatDoorW.PrintWords Go.Proofs.YtjckfmipegemcaaGreatDoorW.PrintLast
set_option linter.unusedVariables false
set_option linter.unusedSimpArgs false

/-! ### plain words on numbers, bytes, lists -/
theorem w64 {n : Int} (h : -9223372036854775808 ≤ n ∧ n ≤ 9223372036854775807) : wrap64 n = n := by unfold wrap64; omega
/-- a text's bytes -/
def B (s : ByteArray) : List UInt8 := s.data.toList
theorem B_len (s : ByteArray) : (B s).length = s.size := data_length s
theorem toList_B (s : ByteArray) : s.toList = B s := ByteArray.toList_eq s
theorem B_ext {a b : ByteArray} (h : B a = B b) : a = b := by
  cases a with | mk a => cases b with | mk b => unfold B at h; simp at h; rw [h]
theorem B_mk (l : List UInt8) : B ⟨l.toArray⟩ = l := by unfold B; simp
theorem toList_inj {a b : ByteArray} (h : a.toList = b.toList) : a = b := B_ext (by rw [← toList_B, ← toList_B, h])
theorem toList_iff (a b : ByteArray) : a.toList = b.toList ↔ a = b := ⟨toList_inj, fun h => by rw [h]⟩
theorem bt_get (s : ByteArray) (i : Nat) (h : i < (B s).length) : bt s (i : Int) = (((B s)[i]).toNat : Int) := by
  have h' : i < s.size := by rw [← B_len]; exact h
  unfold bt B
  simp [h']
  rfl
theorem B_append (a b : ByteArray) : B (a ++ b) = B a ++ B b := by
  unfold B; rw [ByteArray.data_append]; simp
theorem B_extract (s : ByteArray) (i j : Nat) : B (s.extract i j) = ((B s).take j).drop i := by
  unfold B; rw [ByteArray.data_extract]; simp [List.drop_take]
theorem B_empty : B (⟨#[]⟩ : ByteArray) = [] := rfl
/-- numbers as bytes -/
def oct (n : Int) : UInt8 := UInt8.ofNat n.toNat
theorem strOf (xs : List Int) : strOfNums xs = ⟨(xs.map oct).toArray⟩ := rfl
theorem B_strOf (xs : List Int) : B (strOfNums xs) = xs.map oct := by rw [strOf, B_mk]
theorem succ_of {k d : Nat} (h : d < k) : ∃ m, k = m + 1 := ⟨k - 1, by omega⟩
theorem drop_at {α : Type} {l : List α} {i : Nat} (h : i < l.length) : l.drop i = l[i] :: l.drop (i + 1) := List.drop_eq_getElem_cons h
theorem nat_round {i n : Nat} (h : i < n) (hn : (n : Int) ≤ 9223372036854775807) : wrap64 ((i : Int) + 1) = ((i + 1 : Nat) : Int) := by
  rw [w64 (by omega)]; omega
/-! ### lists of texts and of numbers -/
theorem rd_B (l : List ByteArray) (j : Nat) (h : j < l.length) : rdOf ByteArray.empty l (j : Int) = l[j] := by simp [rdOf, List.getD, h]
theorem rd_I (l : List Int) (j : Nat) (h : j < l.length) : rd l (j : Int) = l[j] := by simp [rd, List.getD, h]
theorem extract_all0 (s : ByteArray) : s.extract 0 s.size = s := ByteArray.extract_zero_size
/-! ### TokenOk -/
def tok1 (c : UInt8) : Bool := decide (97 ≤ c.toNat ∧ c.toNat ≤ 122 ∨ 48 ≤ c.toNat ∧ c.toNat ≤ 57 ∨ c.toNat = 45)
def tokB (s : ByteArray) : Bool := (B s).all tok1 && decide (1 ≤ s.size ∧ s.size ≤ 20)
theorem spec_l1In_f (x a b : Int) : spec_l1In.f x a b = some (decide (a ≤ x ∧ x ≤ b)) := by
  unfold spec_l1In.f
  by_cases h : x ≥ a <;> simp [h]
theorem impl_inRange_f (x a b : Int) : impl_inRange.f x a b = some (decide (a ≤ x ∧ x ≤ b)) := by
  unfold impl_inRange.f
  by_cases h : x ≥ a <;> simp [h]
theorem tok_round (k : Nat) (s : ByteArray) (i : Nat) (hs : (s.size : Int) ≤ 9223372036854775807) (hi : i < s.size) (hl : i < (B s).length) :
    spec_TokenOk.l0 (k + 1) s i = (if tok1 (B s)[i] then spec_TokenOk.l0 k s ((i + 1 : Nat) : Int) else some false) ∧ impl_TokenOk.l0 (k + 1) s i = (if tok1 (B s)[i] then impl_TokenOk.l0 k s ((i + 1 : Nat) : Int) else some false) := by
  have hw := nat_round (i := i) (n := s.size) hi hs
  simp only [spec_TokenOk.l0, impl_TokenOk.l0]
  rw [if_pos (by omega), if_pos (by omega), bt_get s i hl, hw]
  unfold tok1
  generalize ((B s)[i]).toNat = c
  constructor
  all_goals
    by_cases h : 97 ≤ c ∧ c ≤ 122 ∨ 48 ≤ c ∧ c ≤ 57 ∨ c = 45
    · simp only [decide_eq_true h, if_true]
      repeat' (split <;> try rfl)
      all_goals omega
    · simp only [decide_eq_false h, Bool.false_eq_true, if_false]
      repeat' (split <;> try rfl)
      all_goals omega
theorem tok_l0 (s : ByteArray) (hs : (s.size : Int) ≤ 9223372036854775807) : ∀ (d k i : Nat), s.size - i = d → i ≤ s.size → d < k →
    spec_TokenOk.l0 k s i = some (((B s).drop i).all tok1 && decide (1 ≤ s.size ∧ s.size ≤ 20)) ∧ impl_TokenOk.l0 k s i = some (((B s).drop i).all tok1 && decide (1 ≤ s.size ∧ s.size ≤ 20)) := by
  intro d
  induction d with
  | zero =>
    intro k i hd hi hk
    obtain ⟨k, rfl⟩ := succ_of hk
    simp only [spec_TokenOk.l0, impl_TokenOk.l0, spec_l1In_f, impl_inRange_f, Option.bind_some]
    have hni : ¬ ((i : Int) < (s.size : Int)) := by omega
    simp only [if_neg hni]
    rw [List.drop_eq_nil_of_le (by rw [B_len]; omega)]
    have : decide ((1 : Int) ≤ (s.size : Int) ∧ (s.size : Int) ≤ 20) = decide (1 ≤ s.size ∧ s.size ≤ 20) := decide_eq_decide.2 (by omega)
    rw [this]; simp
  | succ d ih =>
    intro k i hd hi hk
    obtain ⟨k, rfl⟩ := succ_of hk
    have hl : i < (B s).length := by rw [B_len]; omega
    obtain ⟨h1, h2⟩ := tok_round k s i hs (by omega) hl
    obtain ⟨i1, i2⟩ := ih k (i + 1) (by omega) (by omega) (by omega)
    rw [h1, h2, i1, i2, drop_at hl, List.all_cons]
    cases tok1 (B s)[i] <;> simp
theorem spec_TokenOk_f {k : Nat} {s : ByteArray} (hs : (s.size : Int) ≤ 9223372036854775807) (hk : s.size < k) : spec_TokenOk.f k s = some (tokB s) := (tok_l0 s hs s.size k 0 (by omega) (by omega) hk).1
theorem impl_TokenOk_f {k : Nat} {s : ByteArray} (hs : (s.size : Int) ≤ 9223372036854775807) (hk : s.size < k) : impl_TokenOk.f k s = some (tokB s) := (tok_l0 s hs s.size k 0 (by omega) (by omega) hk).2
theorem rd_F (l : List S81) (j : Nat) (h : j < l.length) : rd_T81 l (j : Int) = l[j] := by simp [rd_T81, List.getD, h]
/-! ### the first field of a name -/
theorem at_cons (n : ByteArray) (x : S81) (r : List S81) (i : Nat) : at_ n (x :: r) i = if x.f0 = n then (i : Int) else at_ n r (i + 1) := by
  simp only [at_]
  by_cases h : x.f0 = n
  · rw [if_pos h, if_pos (by rw [h]; simp)]
  · rw [if_neg h, if_neg (by simpa using fun e => h (toList_inj e))]
theorem impl_fieldAt_f {l : List S81} {n : ByteArray} (hl : l.length < 4398046511104) : impl_fieldAt.f l n = some (at_ n l 0) := by
  unfold impl_fieldAt.f; rw [if_pos hl]
theorem spec_l2At_l0 (l : List S81) (n : ByteArray) (hl : (l.length : Int) ≤ 9223372036854775807) : ∀ (d k i : Nat), l.length - i = d → i ≤ l.length → d < k → spec_l2At.l0 k l n i = some (at_ n (l.drop i) i) := by
  intro d
  induction d with
  | zero =>
    intro k i hd hi hk
    obtain ⟨k, rfl⟩ := succ_of hk
    simp only [spec_l2At.l0]
    rw [if_neg (by omega), List.drop_eq_nil_of_le (by omega)]; rfl
  | succ d ih =>
    intro k i hd hi hk
    obtain ⟨k, rfl⟩ := succ_of hk
    have hlt : i < l.length := by omega
    have hx : rd_T81 l (i : Int) = l[i] := by simp [rd_T81, List.getD, hlt]
    simp only [spec_l2At.l0]
    rw [if_pos (by omega), if_pos (by omega), hx, nat_round hlt hl, ih k (i + 1) (by omega) (by omega) (by omega), drop_at hlt, at_cons]
    by_cases h : l[i].f0 = n
    · rw [if_pos h, if_pos (by rw [h])]
    · rw [if_neg h, if_neg (fun e => h (toList_inj e))]
theorem spec_l2At_f {k : Nat} {l : List S81} {n : ByteArray} (hl : (l.length : Int) ≤ 9223372036854775807) (hk : l.length < k) : spec_l2At.f k l n = some (at_ n l 0) := spec_l2At_l0 l n hl l.length k 0 (by omega) (by omega) hk
/-! ### FieldsText, Drop, Short, ValuesOf, Same, Pieces, Suits -/
theorem spec_FieldsText_l0 (l : List S81) (hl : (fieldLines l).length ≤ 1099511627776) (hn : (l.length : Int) ≤ 9223372036854775807) : ∀ (d k i : Nat) (acc : ByteArray), l.length - i = d → i ≤ l.length → B acc ++ fieldLines (l.drop i) = fieldLines l → d < k →
    spec_FieldsText.l0 k l acc i = some ⟨(fieldLines l).toArray⟩ := by
  intro d
  induction d with
  | zero =>
    intro k i acc hd hi ha hk
    obtain ⟨k, rfl⟩ := succ_of hk
    simp only [spec_FieldsText.l0]
    rw [List.drop_eq_nil_of_le (by omega), fieldLines, List.append_nil] at ha
    rw [if_neg (by omega), ← ha]
    exact congrArg some (B_ext (B_mk _).symm)
  | succ d ih =>
    intro k i acc hd hi ha hk
    obtain ⟨k, rfl⟩ := succ_of hk
    have hlt : i < l.length := by omega
    rw [drop_at hlt, fieldLines] at ha
    have hlen := congrArg List.length ha
    simp only [fieldLine, List.length_append, List.length_cons, List.length_nil, data_length, B_len] at hlen
    have ih := ih k (i + 1) (acc ++ l[i].f0 ++ ⟨#[58, 32]⟩ ++ l[i].f1 ++ ⟨#[13, 10]⟩) (by omega) (by omega) (by
      rw [← ha]
      simp only [B_append, fieldLine, List.append_assoc]
      rfl) (by omega)
    have s1 : (⟨#[58, 32]⟩ : ByteArray).size = 2 := rfl
    simp only [spec_FieldsText.l0]
    rw [if_pos (by omega), if_pos (by omega), rd_F l i hlt, nat_round (n := l.length) hlt hn, if_pos (by omega), if_pos (by simp only [ByteArray.size_append]; omega), if_pos (by simp only [ByteArray.size_append, s1]; omega), if_pos (by simp only [ByteArray.size_append, s1]; omega), ih]
theorem spec_FieldsText_f {k : Nat} {l : List S81} (hl : (fieldLines l).length ≤ 1099511627776) (hn : (l.length : Int) ≤ 9223372036854775807) (hk : l.length < k) : spec_FieldsText.f k l = some ⟨(fieldLines l).toArray⟩ := by
  have := spec_FieldsText_l0 l hl hn l.length k 0 ⟨#[]⟩ (by omega) (by omega) (by rw [List.drop_zero]; rfl) hk
  simpa [spec_FieldsText.f] using this
theorem impl_FieldsText_f {l : List S81} (hl : (fieldLines l).length ≤ 1099511627776) (hn : l.length < 4398046511104) : impl_FieldsText.f l = some ⟨(fieldLines l).toArray⟩ := by
  unfold impl_FieldsText.f
  rw [if_pos ⟨hn, hl⟩]
/-! ### NumText -/
def numT (n : Int) : ByteArray := if 0 ≤ n ∧ n ≤ 1000000 then ⟨(Lib.itoa n).toArray⟩ else ⟨#[]⟩
theorem digit_of (u : Nat) : oct ((wrap64 (48 + Int.tmod (u : Int) 10)) % 256) = UInt8.ofNat (48 + u % 10) := by
  have h : Int.tmod (u : Int) 10 = ((u % 10 : Nat) : Int) := by rw [Int.tmod_eq_emod_of_nonneg (by omega)]; omega
  rw [h, w64 (by omega), show (48 + ((u % 10 : Nat) : Int)) % 256 = ((48 + u % 10 : Nat) : Int) by omega]
  unfold oct
  rw [Int.toNat_natCast]
theorem decDigits_len (u : Nat) : ∀ d, u < 10 ^ (d + 1) → (Lib.decDigits u).length ≤ d + 1 := by
  intro d
  induction d generalizing u with
  | zero => intro h; rw [Lib.decDigits, dif_pos (by omega)]; simp
  | succ d ih =>
    intro h
    rw [Lib.decDigits]
    split
    · simp
    · have h10 : (10 : Nat) ^ (d + 1 + 1) = 10 ^ (d + 1) * 10 := rfl
      have := ih (u / 10) (by omega)
      simp only [List.length_append, List.length_cons, List.length_nil]; omega
theorem itoa_nat (u : Nat) : Lib.itoa (u : Int) = Lib.decDigits u := by
  unfold Lib.itoa; rw [if_neg (by omega), Int.toNat_natCast]
theorem numT_size (t : Int) : (numT t).size ≤ 20 := by
  unfold numT
  split
  · rename_i h
    obtain ⟨u, rfl⟩ : ∃ u : Nat, t = u := ⟨t.toNat, by omega⟩
    have hl := decDigits_len u 6 (by omega)
    rw [itoa_nat, ← B_len, B_mk (Lib.decDigits u)]; omega
  · simp [ByteArray.size]
theorem spec_NumText_l0 : ∀ (d k u : Nat) (acc : ByteArray), u < 10 ^ d → acc.size + d ≤ 1000 → u ≤ 4611686018427387904 → d < k →
    spec_NumText.l0 k (u : Int) acc = some (if u = 0 then acc else ⟨(Lib.decDigits u ++ B acc).toArray⟩) := by
  intro d
  induction d with
  | zero =>
    intro k u acc hu ha hb hk
    obtain ⟨k, rfl⟩ := succ_of hk
    obtain rfl : u = 0 := by simp at hu; omega
    simp only [spec_NumText.l0]
    rw [if_neg (by omega), if_pos trivial]
  | succ d ih =>
    intro k u acc hu ha hb hk
    obtain ⟨k, rfl⟩ := succ_of hk
    simp only [spec_NumText.l0]
    by_cases h0 : u = 0
    · rw [if_neg (by omega), if_pos h0]
    have h10 : (10 : Nat) ^ (d + 1) = 10 ^ d * 10 := rfl
    rw [if_pos (by omega), Option.bind_some, if_pos (by rw [strOfNums_size]; simp; omega), if_neg h0]
    have hdiv : wrap64 (Int.tdiv (u : Int) 10) = ((u / 10 : Nat) : Int) := by
      rw [Int.tdiv_eq_ediv_of_nonneg (by omega), w64 (by omega)]; omega
    rw [hdiv, ih k (u / 10) _ (by omega) (by rw [ByteArray.size_append, strOfNums_size]; simp; omega) (by omega) (by omega)]
    refine congrArg some ?_
    have hB : B (strOfNums [(wrap64 (48 + Int.tmod (u : Int) 10)) % 256] ++ acc) = UInt8.ofNat (48 + u % 10) :: B acc := by
      rw [B_append, B_strOf, List.map_cons, List.map_nil, digit_of]; rfl
    split
    · rename_i h1
      apply B_ext
      rw [hB, B_mk (Lib.decDigits u ++ B acc), Lib.decDigits, dif_pos (by omega), show u % 10 = u by omega]
      rfl
    · rename_i h1
      apply B_ext
      rw [hB, B_mk (Lib.decDigits (u / 10) ++ _), B_mk (Lib.decDigits u ++ B acc)]
      conv => rhs; rw [Lib.decDigits]
      rw [dif_neg (by omega), List.append_assoc]
      rfl
theorem spec_NumText_f {k : Nat} {n : Int} (hk : 30 < k) : spec_NumText.f k n = some (numT n) := by
  unfold spec_NumText.f numT
  rw [spec_l1In_f, Option.bind_some]
  by_cases h : 0 ≤ n ∧ n ≤ 1000000
  · rw [if_pos (decide_eq_true h), if_pos h]
    obtain ⟨u, rfl⟩ : ∃ u : Nat, n = u := ⟨n.toNat, by omega⟩
    rw [itoa_nat]
    by_cases h0 : u = 0
    · subst h0
      rw [if_pos (show ((0 : Nat) : Int) = 0 from rfl), Lib.decDigits, dif_pos (by omega)]; rfl
    · rw [if_neg (by omega), spec_NumText_l0 20 k u _ (by omega) (by decide) (by omega) (by omega), if_neg h0, B_empty, List.append_nil]
  · rw [if_neg (by simpa using h), if_neg h]
/-! ### Trim -/
def trimT (s : ByteArray) : ByteArray := ⟨(Lib.trimB (B s) 32).toArray⟩
theorem oct32 (c : UInt8) : ((c.toNat : Int) = 32) ↔ c = 32 := by
  constructor
  · intro h
    have : c.toNat = (32 : UInt8).toNat := by show c.toNat = 32; omega
    exact UInt8.toNat_inj.1 this
  · rintro rfl; rfl
theorem spec_Trim_l1 (s : ByteArray) (hs : (s.size : Int) ≤ 4611686018427387904) (i : Nat) (hi : i ≤ s.size) : ∀ (d k m : Nat), m = i + d → m ≤ s.size → d < k → (∀ j (h : j < (B s).length), m ≤ j → (B s)[j] = 32) →
    ∃ n, i ≤ n ∧ n ≤ s.size ∧ spec_Trim.l1 k s i m = some (s.extract i n) ∧ (∀ j (h : j < (B s).length), n ≤ j → (B s)[j] = 32) ∧ (n = i ∨ ∀ (h : n - 1 < (B s).length), (B s)[n - 1] ≠ 32) := by
  intro d
  induction d with
  | zero =>
    intro k m hm hms hk hall
    obtain ⟨k, rfl⟩ := succ_of hk
    refine ⟨m, by omega, hms, ?_, hall, .inl (by omega)⟩
    simp only [spec_Trim.l1]
    rw [if_neg (by omega), if_pos (by omega), if_pos (by omega), if_pos (by omega), Int.toNat_natCast, Int.toNat_natCast]
  | succ d ih =>
    intro k m hm hms hk hall
    obtain ⟨k, rfl⟩ := succ_of hk
    have hl : m - 1 < (B s).length := by rw [B_len]; omega
    have hw : wrap64 ((m : Int) - 1) = ((m - 1 : Nat) : Int) := by rw [w64 (by omega)]; omega
    simp only [spec_Trim.l1]
    rw [hw, if_pos (by omega), if_pos (by omega), if_pos (by omega), bt_get s (m - 1) hl]
    by_cases c : (B s)[m - 1] = 32
    · rw [if_pos ((oct32 _).2 c)]
      refine ih k (m - 1) (by omega) (by omega) (by omega) (fun j h hj => ?_)
      by_cases e : j = m - 1
      · subst e; exact c
      · exact hall j h (by omega)
    · rw [if_neg (fun e => c ((oct32 _).1 e)), if_pos (by omega), if_pos (by omega), if_pos (by omega), Int.toNat_natCast, Int.toNat_natCast]
      exact ⟨m, by omega, hms, rfl, hall, .inr fun _ => c⟩
theorem trim_is (s : ByteArray) (i n : Nat) (hi : i ≤ n) (hn : n ≤ s.size) (h1 : ∀ j (h : j < (B s).length), j < i → (B s)[j] = 32) (h2 : ∀ h : i < (B s).length, (B s)[i] ≠ 32) (h3 : ∀ j (h : j < (B s).length), n ≤ j → (B s)[j] = 32) (h4 : n = i ∨ ∀ (h : n - 1 < (B s).length), (B s)[n - 1] ≠ 32) :
    s.extract i n = trimT s := by
  apply B_ext
  rw [B_extract]
  unfold trimT
  rw [B_mk (Lib.trimB (B s) 32)]
  have hlen := B_len s
  unfold Lib.trimB
  by_cases hi' : i < s.size
  · have hni : n ≠ i := fun e => h2 (by omega) (h3 i (by omega) (by omega))
    rw [Lib.trimRightB_take (B s) 32 n (by omega) (fun j b hj hb => by
      obtain ⟨hj', rfl⟩ := List.getElem?_eq_some_iff.1 hb
      exact h3 j hj' hj) (fun b _ hb => by
      obtain ⟨hj', rfl⟩ := List.getElem?_eq_some_iff.1 hb
      rcases h4 with h4 | h4
      · exact absurd h4 hni
      · exact h4 hj'),
      Lib.trimLeftB_drop ((B s).take n) 32 i (by rw [List.length_take]; omega) (fun j b hj hb => by
        rw [List.getElem?_take_of_lt (by omega)] at hb
        obtain ⟨hj', rfl⟩ := List.getElem?_eq_some_iff.1 hb
        exact h1 j hj' hj) (fun b hb => by
        rw [List.getElem?_take_of_lt (by omega)] at hb
        obtain ⟨hj', rfl⟩ := List.getElem?_eq_some_iff.1 hb
        exact h2 hj')]
  · rw [Lib.trimRightB_take (B s) 32 0 (by omega) (fun j b _ hb => by
      obtain ⟨hj', rfl⟩ := List.getElem?_eq_some_iff.1 hb
      exact h1 j hj' (by omega)) (fun b h _ => by omega)]
    rw [List.drop_eq_nil_of_le (by rw [List.length_take]; omega)]
    rfl
theorem spec_Trim_l0 (s : ByteArray) (hs : (s.size : Int) ≤ 4611686018427387904) : ∀ (d k i : Nat), s.size = i + d → d + s.size + 2 < k → (∀ j (h : j < (B s).length), j < i → (B s)[j] = 32) → spec_Trim.l0 k s i (s.size : Int) = some (trimT s) := by
  intro d
  have fin : ∀ (k i : Nat), i ≤ s.size → s.size + 1 < k → (∀ j (h : j < (B s).length), j < i → (B s)[j] = 32) → (∀ h : i < (B s).length, (B s)[i] ≠ 32) → spec_Trim.j1 k s i (s.size : Int) = some (trimT s) := by
    intro k i hi hk h1 h2
    obtain ⟨k, rfl⟩ := succ_of (show 0 < k by omega)
    simp only [spec_Trim.j1]
    obtain ⟨n, n1, n2, n3, n4, n5⟩ := spec_Trim_l1 s hs i hi (s.size - i) k s.size (by omega) (Nat.le_refl _) (by omega) (fun j h hj => by rw [B_len] at h; omega)
    rw [n3, trim_is s i n n1 n2 h1 h2 n4 n5]
  induction d with
  | zero =>
    intro k i hd hk hall
    obtain ⟨k, rfl⟩ := succ_of (show 0 < k by omega)
    simp only [spec_Trim.l0]
    rw [if_neg (by omega)]
    exact fin k i (by omega) (by omega) hall (fun h => by rw [B_len] at h; omega)
  | succ d ih =>
    intro k i hd hk hall
    obtain ⟨k, rfl⟩ := succ_of (show 0 < k by omega)
    have hl : i < (B s).length := by rw [B_len]; omega
    simp only [spec_Trim.l0]
    rw [if_pos (by omega), if_pos (by omega), if_pos (by omega), bt_get s i hl, nat_round (n := s.size) (by omega) (by omega)]
    by_cases c : (B s)[i] = 32
    · rw [if_pos ((oct32 _).2 c)]
      refine ih k (i + 1) (by omega) (by omega) (fun j h hj => ?_)
      by_cases e : j = i
      · subst e; exact c
      · exact hall j h (by omega)
    · rw [if_neg (fun e => c ((oct32 _).1 e))]
      exact fin k i (by omega) (by omega) hall (fun _ => c)
theorem spec_Trim_f {k : Nat} {s : ByteArray} (hs : (s.size : Int) ≤ 4611686018427387904) (hk : 2 * s.size + 2 < k) : spec_Trim.f k s = some (trimT s) :=
  spec_Trim_l0 s hs s.size k 0 (by omega) (by omega) (fun j _ hj => by omega)
theorem impl_Trim_f {s : ByteArray} (hs : (s.size : Int) ≤ 4611686018427387904) : impl_Trim.f s = some (trimT s) := by
  unfold impl_Trim.f strings_Trim.f
  rw [if_pos ⟨rfl, by omega⟩, Option.bind_some]
  rfl
/-! ### NumRead -/
def decV (acc : Nat) (l : List UInt8) : Nat := l.foldl (fun a c => a * 10 + (c.toNat - 48)) acc
def digs (l : List UInt8) : Bool := l.all fun c => decide (48 ≤ c.toNat ∧ c.toNat ≤ 57)
theorem decV_cons (acc : Nat) (c : UInt8) (r : List UInt8) : decV acc (c :: r) = decV (acc * 10 + (c.toNat - 48)) r := by unfold decV; rw [List.foldl_cons]
theorem decV_nil (acc : Nat) : decV acc [] = acc := by unfold decV; rw [List.foldl_nil]
theorem decV_append (a b : List UInt8) (acc : Nat) : decV acc (a ++ b) = decV (decV acc a) b := by
  induction a generalizing acc with
  | nil => rw [List.nil_append, decV_nil]
  | cons c r ih => rw [List.cons_append, decV_cons, decV_cons, ih]
theorem digit_nat (u : Nat) (h : u < 10) : (UInt8.ofNat (48 + u)).toNat = 48 + u := by
  exact UInt8.toNat_ofNat_of_lt' (by show 48 + u < 256; omega)
theorem dec_facts (u : Nat) : decV 0 (Lib.decDigits u) = u ∧ digs (Lib.decDigits u) = true ∧ Lib.decDigits u ≠ [] := by
  induction u using Nat.strongRecOn with
  | _ u ih =>
    rw [Lib.decDigits]
    split
    · rename_i h
      refine ⟨?_, ?_, by simp⟩
      · rw [decV_cons, decV_nil, digit_nat u h]; omega
      · simp only [digs, List.all_cons, List.all_nil]; rw [digit_nat u h, decide_eq_true (by omega)]; rfl
    · rename_i h
      obtain ⟨h1, h2, h3⟩ := ih (u / 10) (by omega)
      refine ⟨?_, ?_, by simp⟩
      · rw [decV_append, h1, decV_cons, decV_nil, digit_nat (u % 10) (by omega)]; omega
      · unfold digs at h2 ⊢
        rw [List.all_append, h2, List.all_cons, List.all_nil, digit_nat (u % 10) (by omega), decide_eq_true (by omega)]; rfl
theorem parse_digs : ∀ (l : List UInt8) (acc j : Nat), digs l = true → acc < 10 ^ j → j + l.length ≤ 18 → Lib.parseUint10 acc l = .ok (decV acc l)
  | [], acc, j, _, _, _ => by rw [decV_nil]; rfl
  | c :: r, acc, j, hd, ha, hj => by
    unfold digs at hd
    rw [List.all_cons, Bool.and_eq_true] at hd
    have hc := of_decide_eq_true hd.1
    simp only [List.length_cons] at hj
    have hp : (10 : Nat) ^ (j + 1) = 10 ^ j * 10 := rfl
    have hb : (10 : Nat) ^ j ≤ 10 ^ 17 := Nat.pow_le_pow_right (by omega) (by omega)
    simp only [Lib.parseUint10]
    rw [decV_cons, if_pos hc, if_neg (by omega), if_neg (by omega)]
    exact parse_digs r _ (j + 1) hd.2 (by omega) (by omega)
theorem atoi_dec (n : Nat) (h : n ≤ 1000000) : Lib.atoiAll (Lib.decDigits n) = .ok (n : Int) := by
  obtain ⟨h1, h2, h3⟩ := dec_facts n
  have hl := decDigits_len n 6 (by omega)
  have hp := parse_digs (Lib.decDigits n) 0 0 h2 (by omega) (by omega)
  rw [h1] at hp
  cases e : Lib.decDigits n with
  | nil => exact absurd e h3
  | cons c r =>
    rw [e] at hp h2
    unfold digs at h2
    rw [List.all_cons, Bool.and_eq_true] at h2
    have hc := of_decide_eq_true h2.1
    simp only [Lib.atoiAll]
    rw [if_neg (by omega)]
    unfold Lib.parseMag
    rw [if_neg (by simp), hp]
    simp only
    rw [if_neg (by omega), if_neg (by omega), if_neg (by omega)]
theorem numRead_yes {s : ByteArray} {n : Nat} (h : n ≤ 1000000) (hs : B s = Lib.decDigits n) : numRead s = ((n : Int), true) := by
  have hl := decDigits_len n 6 (by omega)
  rw [← hs, B_len] at hl
  unfold numRead
  rw [if_neg (by omega)]
  show (match Lib.atoiAll (B s) with | .ok n => if 0 ≤ n ∧ n ≤ 1000000 ∧ Lib.itoa n = B s then (n, true) else (0, false) | _ => (0, false)) = _
  rw [hs, atoi_dec n h]
  simp only
  rw [if_pos ⟨by omega, by omega, itoa_nat n⟩]
theorem numRead_no {s : ByteArray} (h : ∀ n : Nat, n ≤ 1000000 → B s ≠ Lib.decDigits n) : numRead s = (0, false) := by
  unfold numRead
  split
  · rfl
  split
  · rename_i n _
    rw [if_neg]
    rintro ⟨h1, h2, h3⟩
    obtain ⟨u, rfl⟩ : ∃ u : Nat, n = u := ⟨n.toNat, by omega⟩
    rw [itoa_nat] at h3
    exact h u (by omega) h3.symm
  · rfl
theorem spec_NumRead_l0 (s : ByteArray) (hs : s.size ≤ 7) : ∀ (d k i v : Nat), s.size = i + d → v < 10 ^ i → d + 40 < k →
    spec_NumRead.l0 k s v i = some (if digs ((B s).drop i) = true ∧ numT ((decV v ((B s).drop i) : Nat) : Int) = s then (((decV v ((B s).drop i) : Nat) : Int), true) else (0, false)) := by
  intro d
  induction d with
  | zero =>
    intro k i v hd hv hk
    obtain ⟨k, rfl⟩ := succ_of (show 0 < k by omega)
    simp only [spec_NumRead.l0]
    rw [if_neg (by omega), List.drop_eq_nil_of_le (by rw [B_len]; omega), spec_NumText_f (by omega), Option.bind_some, decV_nil]
    by_cases h : numT (v : Int) = s
    · rw [if_pos (by rw [h]), if_pos ⟨rfl, h⟩]
    · rw [if_neg (fun e => h (toList_inj e)), if_neg (fun e => h e.2)]
  | succ d ih =>
    intro k i v hd hv hk
    obtain ⟨k, rfl⟩ := succ_of (show 0 < k by omega)
    have hl : i < (B s).length := by rw [B_len]; omega
    have hp : (10 : Nat) ^ (i + 1) = 10 ^ i * 10 := rfl
    have hb : (10 : Nat) ^ i ≤ 10 ^ 7 := Nat.pow_le_pow_right (by omega) (by omega)
    simp only [spec_NumRead.l0]
    rw [if_pos (by omega), if_pos (by omega), bt_get s i hl, nat_round (n := s.size) (by omega) (by omega), drop_at hl, decV_cons]
    by_cases h1 : ((B s)[i].toNat : Int) < 48
    · rw [if_pos h1, if_neg]
      rintro ⟨e, _⟩
      unfold digs at e
      rw [List.all_cons, decide_eq_false (by omega)] at e
      exact Bool.noConfusion e
    rw [if_neg h1]
    by_cases h2 : ((B s)[i].toNat : Int) > 57
    · rw [if_pos h2, if_neg]
      rintro ⟨e, _⟩
      unfold digs at e
      rw [List.all_cons, decide_eq_false (by omega)] at e
      exact Bool.noConfusion e
    rw [if_neg h2, w64 (n := 10 * (v : Int)) (by omega), w64 (n := ((B s)[i].toNat : Int)) (by omega), w64 (n := 10 * (v : Int) + _) (by omega), w64 (by omega),
      show 10 * (v : Int) + ((B s)[i].toNat : Int) - 48 = ((v * 10 + ((B s)[i].toNat - 48) : Nat) : Int) by omega, ih k (i + 1) _ (by omega) (by omega) (by omega)]
    have hg : digs ((B s)[i] :: (B s).drop (i + 1)) = digs ((B s).drop (i + 1)) := by
      unfold digs
      rw [List.all_cons, decide_eq_true (by omega), Bool.true_and]
    rw [hg]
theorem spec_NumRead_f {k : Nat} {s : ByteArray} (hk : 60 < k) : spec_NumRead.f k s = some (numRead s) := by
  obtain ⟨k, rfl⟩ := succ_of (show 0 < k by omega)
  have hlenf : ∀ n : Nat, n ≤ 1000000 → B s = Lib.decDigits n → 1 ≤ s.size ∧ s.size ≤ 7 := fun n h e => by
    obtain ⟨_, _, h3⟩ := dec_facts n
    have hl := decDigits_len n 6 (by omega)
    have : 1 ≤ (Lib.decDigits n).length := by
      cases e : Lib.decDigits n with
      | nil => exact absurd e h3
      | cons c r => simp
    rw [← e, B_len] at hl this
    omega
  unfold spec_NumRead.f
  have e0 : (s.toList = []) ↔ s.size = 0 := by
    rw [toList_B]
    constructor
    · intro e; rw [← B_len, e]; rfl
    · intro e; exact List.eq_nil_of_length_eq_zero (by rw [B_len, e])
  by_cases h0 : s.size = 0
  · rw [if_pos (e0.2 h0)]
    simp only [spec_NumRead.j0]
    rw [if_pos trivial, numRead_no (fun n h e => by have := hlenf n h e; omega)]
  rw [if_neg (fun e => h0 (e0.1 e))]
  simp only [spec_NumRead.j0]
  by_cases h7 : s.size > 7
  · rw [if_pos (decide_eq_true (by omega)), numRead_no (fun n h e => by have := hlenf n h e; omega)]
  rw [if_neg (by simp; omega)]
  have hl0 := spec_NumRead_l0 s (by omega) s.size k 0 0 (by omega) (by omega) (by omega)
  rw [List.drop_zero] at hl0
  refine hl0.trans (congrArg some ?_)
  by_cases h : ∃ n : Nat, n ≤ 1000000 ∧ B s = Lib.decDigits n
  · obtain ⟨n, hn, e⟩ := h
    obtain ⟨h1, h2, h3⟩ := dec_facts n
    have hT : numT (n : Int) = s := by
      unfold numT
      rw [if_pos (by omega), itoa_nat, ← e]
      exact B_ext (B_mk _)
    rw [numRead_yes hn e, e, h1, if_pos ⟨h2, hT⟩]
  · rw [numRead_no (fun n hn e => h ⟨n, hn, e⟩), if_neg]
    rintro ⟨_, e⟩
    unfold numT at e
    split at e
    · rename_i hr
      rw [itoa_nat] at e
      exact h ⟨decV 0 (B s), by omega, (congrArg B e).symm.trans (B_mk (Lib.decDigits _))⟩
    · exact h0 (by rw [← e]; rfl)
theorem impl_NumRead_f {s : ByteArray} : impl_NumRead.f s = some (numRead s) := rfl
/-! ### ValueOk, paths, times -/
def fromB (m : Int) (s : ByteArray) : Bool := (B s).all fun c => decide (m ≤ (c.toNat : Int) ∧ (c.toNat : Int) ≤ 126)
def fromD (m : Int) (l : List UInt8) : Bool := l.all fun c => decide (m ≤ (c.toNat : Int) ∧ (c.toNat : Int) ≤ 126)
def valB (s : ByteArray) : Bool := decide (1 ≤ s.size ∧ s.size ≤ 60) && fromB 32 s && decide (trimT s = s)
theorem beq_texts (a b : ByteArray) : (a.toList == b.toList) = decide (a = b) := by
  rw [Bool.eq_iff_iff, beq_iff_eq, decide_eq_true_eq, toList_iff]
theorem in_range (s : ByteArray) (a b : Nat) : decide ((a : Int) ≤ (s.size : Int) ∧ (s.size : Int) ≤ (b : Int)) = decide (a ≤ s.size ∧ s.size ≤ b) := decide_eq_decide.2 (by omega)
theorem spec_ValueOk_l0 (s : ByteArray) (hs : (s.size : Int) ≤ 4611686018427387904) : ∀ (d k i : Nat), s.size = i + d → d + 2 * s.size + 3 < k →
    spec_ValueOk.l0 k s i = some (fromD 32 ((B s).drop i) && decide (1 ≤ s.size ∧ s.size ≤ 60) && decide (trimT s = s)) := by
  intro d
  induction d with
  | zero =>
    intro k i hd hk
    obtain ⟨k, rfl⟩ := succ_of (show 0 < k by omega)
    simp only [spec_ValueOk.l0]
    rw [if_neg (by omega), spec_l1In_f, Option.bind_some, List.drop_eq_nil_of_le (by rw [B_len]; omega), show (1 : Int) = ((1 : Nat) : Int) from rfl, show (60 : Int) = ((60 : Nat) : Int) from rfl, in_range]
    by_cases h : 1 ≤ s.size ∧ s.size ≤ 60
    · rw [if_pos (decide_eq_true h), spec_Trim_f hs (by omega), Option.bind_some, beq_texts, decide_eq_true h]; simp [fromD]
    · rw [if_neg (by simpa using h), decide_eq_false h]; simp
  | succ d ih =>
    intro k i hd hk
    obtain ⟨k, rfl⟩ := succ_of (show 0 < k by omega)
    have hl : i < (B s).length := by rw [B_len]; omega
    simp only [spec_ValueOk.l0]
    rw [if_pos (by omega), if_pos (by omega), bt_get s i hl, nat_round (n := s.size) (by omega) (by omega), drop_at hl]
    unfold fromD
    rw [List.all_cons]
    by_cases h1 : ((B s)[i].toNat : Int) < 32
    · rw [if_pos h1, decide_eq_false (by omega)]; simp
    · rw [if_neg h1]
      by_cases h2 : ((B s)[i].toNat : Int) > 126
      · rw [if_pos h2, decide_eq_false (by omega)]; simp
      · rw [if_neg h2, decide_eq_true (by omega), Bool.true_and, ih k (i + 1) (by omega) (by omega)]; rfl
theorem spec_ValueOk_f {k : Nat} {s : ByteArray} (hs : (s.size : Int) ≤ 4611686018427387904) (hk : 3 * s.size + 3 < k) : spec_ValueOk.f k s = some (valB s) := by
  unfold spec_ValueOk.f
  rw [show (0 : Int) = ((0 : Nat) : Int) from rfl, spec_ValueOk_l0 s hs s.size k 0 (by omega) (by omega), List.drop_zero]
  unfold valB
  rw [Bool.and_comm (fromD 32 (B s))]; rfl
theorem impl_areFrom_l0 (s : ByteArray) (m : Int) (hs : (s.size : Int) ≤ 4611686018427387904) : ∀ (d k i : Nat), s.size = i + d → d < k → impl_areFrom.l0 k s m i = some (fromD m ((B s).drop i)) := by
  intro d
  induction d with
  | zero =>
    intro k i hd hk
    obtain ⟨k, rfl⟩ := succ_of (show 0 < k by omega)
    simp only [impl_areFrom.l0]
    rw [if_neg (by omega), List.drop_eq_nil_of_le (by rw [B_len]; omega)]; rfl
  | succ d ih =>
    intro k i hd hk
    obtain ⟨k, rfl⟩ := succ_of (show 0 < k by omega)
    have hl : i < (B s).length := by rw [B_len]; omega
    simp only [impl_areFrom.l0]
    rw [if_pos (by omega), if_pos (by omega), bt_get s i hl, nat_round (n := s.size) (by omega) (by omega), drop_at hl]
    unfold fromD
    rw [List.all_cons]
    by_cases h1 : ((B s)[i].toNat : Int) < m
    · rw [if_pos h1, decide_eq_false (by omega)]; simp
    · rw [if_neg h1]
      by_cases h2 : ((B s)[i].toNat : Int) > 126
      · rw [if_pos h2, decide_eq_false (by omega)]; simp
      · rw [if_neg h2, decide_eq_true (by omega), Bool.true_and, ih k (i + 1) (by omega) (by omega)]; rfl
theorem impl_areFrom_f {k : Nat} {s : ByteArray} {m : Int} (hs : (s.size : Int) ≤ 4611686018427387904) (hk : s.size < k) : impl_areFrom.f k s m = some (fromB m s) := by
  have := impl_areFrom_l0 s m hs s.size k 0 (by omega) hk
  rw [List.drop_zero] at this
  exact this
theorem impl_ValueOk_f {k : Nat} {s : ByteArray} (hs : (s.size : Int) ≤ 4611686018427387904) (hk : s.size < k) : impl_ValueOk.f k s = some (valB s) := by
  unfold impl_ValueOk.f valB
  rw [impl_inRange_f, Option.bind_some, show (1 : Int) = ((1 : Nat) : Int) from rfl, show (60 : Int) = ((60 : Nat) : Int) from rfl, in_range]
  by_cases h : 1 ≤ s.size ∧ s.size ≤ 60
  · rw [if_pos (decide_eq_true h), impl_areFrom_f hs hk, Option.bind_some, decide_eq_true h, Bool.true_and]
    cases hf : fromB 32 s
    · rw [if_neg (by simp)]; simp
    · rw [if_pos rfl, impl_Trim_f hs, Option.bind_some, beq_texts, Bool.true_and]
  · rw [if_neg (by simpa using h), decide_eq_false h]; simp
def pathB (s : ByteArray) : Bool := decide (1 ≤ s.size ∧ s.size ≤ 60) && (decide (bt s 0 = 47) && fromB 33 s)
theorem spec_l3Path_l0 (s : ByteArray) (hs : (s.size : Int) ≤ 4611686018427387904) : ∀ (d k i : Nat), s.size = i + d → d < k →
    spec_l3Path.l0 k s i = some (fromD 33 ((B s).drop i) && (decide (1 ≤ s.size ∧ s.size ≤ 60) && decide (bt s 0 = 47))) := by
  intro d
  induction d with
  | zero =>
    intro k i hd hk
    obtain ⟨k, rfl⟩ := succ_of (show 0 < k by omega)
    simp only [spec_l3Path.l0]
    rw [if_neg (by omega), spec_l1In_f, Option.bind_some, List.drop_eq_nil_of_le (by rw [B_len]; omega), show (1 : Int) = ((1 : Nat) : Int) from rfl, show (60 : Int) = ((60 : Nat) : Int) from rfl, in_range]
    by_cases h : 1 ≤ s.size ∧ s.size ≤ 60
    · rw [if_pos (decide_eq_true h), if_pos (by omega), decide_eq_true h]
      refine congrArg some ?_
      rw [Bool.eq_iff_iff]; simp [fromD]
    · rw [if_neg (by simpa using h), decide_eq_false h]; simp
  | succ d ih =>
    intro k i hd hk
    obtain ⟨k, rfl⟩ := succ_of (show 0 < k by omega)
    have hl : i < (B s).length := by rw [B_len]; omega
    simp only [spec_l3Path.l0]
    rw [if_pos (by omega), if_pos (by omega), bt_get s i hl, nat_round (n := s.size) (by omega) (by omega), drop_at hl]
    unfold fromD
    rw [List.all_cons]
    by_cases h1 : ((B s)[i].toNat : Int) < 33
    · rw [if_pos h1, decide_eq_false (by omega)]; simp
    · rw [if_neg h1]
      by_cases h2 : ((B s)[i].toNat : Int) > 126
      · rw [if_pos h2, decide_eq_false (by omega)]; simp
      · rw [if_neg h2, decide_eq_true (by omega), Bool.true_and, ih k (i + 1) (by omega) (by omega)]; rfl
theorem spec_l3Path_f {k : Nat} {s : ByteArray} (hs : (s.size : Int) ≤ 4611686018427387904) (hk : s.size < k) : spec_l3Path.f k s = some (pathB s) := by
  unfold spec_l3Path.f
  rw [show (0 : Int) = ((0 : Nat) : Int) from rfl, spec_l3Path_l0 s hs s.size k 0 (by omega) (by omega), List.drop_zero]
  unfold pathB
  refine congrArg some ?_
  show (fromB 33 s && _) = _
  cases fromB 33 s <;> simp
theorem impl_pathOk_f {k : Nat} {s : ByteArray} (hs : (s.size : Int) ≤ 4611686018427387904) (hk : s.size < k) : impl_pathOk.f k s = some (pathB s) := by
  unfold impl_pathOk.f pathB
  rw [impl_inRange_f, Option.bind_some, show (1 : Int) = ((1 : Nat) : Int) from rfl, show (60 : Int) = ((60 : Nat) : Int) from rfl, in_range]
  by_cases h : 1 ≤ s.size ∧ s.size ≤ 60
  · rw [if_pos (decide_eq_true h), if_pos (by omega), decide_eq_true h, Bool.true_and]
    by_cases h2 : bt s 0 = 47
    · rw [if_pos h2, impl_areFrom_f hs hk, Option.bind_some, decide_eq_true h2, Bool.true_and]
    · rw [if_neg h2, decide_eq_false h2, Bool.false_and]
  · rw [if_neg (by simpa using h), decide_eq_false h]; simp
/-! ### FieldsOk -/
def lenName (s : ByteArray) : Bool := decide (s.toList = [99, 111, 110, 116, 101, 110, 116, 45, 108, 101, 110, 103, 116, 104])
def okFs (l : List S81) : Nat → List S81 → Bool
  | _, [] => decide (l.length ≤ 8)
  | i, x :: r => tokB x.f0 && (valB x.f1 && (!lenName x.f0 && (decide (at_ x.f0 l 0 = (i : Int)) && okFs l (i + 1) r)))
def fieldsB (l : List S81) : Bool := okFs l 0 l
/-- a list of fields of at most K of anything -/
def SmallF (K : Nat) (l : List S81) : Prop := l.length ≤ K ∧ ∀ x ∈ l, x.f0.size ≤ K ∧ x.f1.size ≤ K
theorem FieldsOk_l0 (K : Nat) (hK : K < 4398046511104) (l : List S81) (hl : SmallF K l) : ∀ (d k i : Nat), l.length = i + d → d + 4 * K + 4 < k →
    spec_FieldsOk.l0 k l i = some (okFs l i (l.drop i)) ∧ impl_FieldsOk.l0 k l l (l.length : Int) i = some (okFs l i (l.drop i)) := by
  obtain ⟨hn, hx⟩ := hl
  intro d
  induction d with
  | zero =>
    intro k i hd hk
    obtain ⟨k, rfl⟩ := succ_of (show 0 < k by omega)
    simp only [spec_FieldsOk.l0, impl_FieldsOk.l0]
    have h8 : decide ((l.length : Int) ≤ 8) = decide (l.length ≤ 8) := decide_eq_decide.2 (by omega)
    rw [if_neg (by omega), if_neg (by omega), List.drop_eq_nil_of_le (by omega), okFs, h8]
    exact ⟨rfl, rfl⟩
  | succ d ih =>
    intro k i hd hk
    obtain ⟨k, rfl⟩ := succ_of (show 0 < k by omega)
    have hlt : i < l.length := by omega
    obtain ⟨s0, s1⟩ := hx _ (List.getElem_mem hlt)
    obtain ⟨i1, i2⟩ := ih k (i + 1) (by omega) (by omega)
    simp only [spec_FieldsOk.l0, impl_FieldsOk.l0]
    rw [rd_F l i hlt, nat_round (n := l.length) hlt (by omega), drop_at hlt, okFs]
    refine ⟨?_, ?_⟩
    · rw [if_pos (by omega), if_pos (by omega), spec_TokenOk_f (by omega) (by omega), Option.bind_some]
      cases tokB l[i].f0
      · rfl
      rw [if_pos rfl, spec_ValueOk_f (by omega) (by omega), Option.bind_some]
      cases valB l[i].f1
      · rfl
      rw [if_pos rfl, spec_l2At_f (by omega) (by omega), Option.bind_some]
      unfold lenName
      by_cases ha : at_ l[i].f0 l 0 = (i : Int)
      · rw [if_pos ha, decide_eq_true ha]
        by_cases hL : l[i].f0.toList = [99, 111, 110, 116, 101, 110, 116, 45, 108, 101, 110, 103, 116, 104]
        · rw [if_pos hL, decide_eq_true hL]; rfl
        · rw [if_neg hL, decide_eq_false hL, i1]; rfl
      · rw [if_neg ha, decide_eq_false ha]; simp
    · rw [if_pos (by omega), if_pos (by omega), if_pos (by omega), impl_TokenOk_f (by omega) (by omega), Option.bind_some]
      cases tokB l[i].f0
      · rfl
      rw [if_pos rfl, impl_ValueOk_f (by omega) (by omega), Option.bind_some]
      cases valB l[i].f1
      · rfl
      rw [if_pos rfl]
      unfold lenName
      by_cases hL : l[i].f0.toList = [99, 111, 110, 116, 101, 110, 116, 45, 108, 101, 110, 103, 116, 104]
      · rw [if_pos hL, decide_eq_true hL]; rfl
      rw [if_neg hL, decide_eq_false hL, impl_fieldAt_f (by omega), Option.bind_some]
      by_cases ha : at_ l[i].f0 l 0 = (i : Int)
      · rw [if_pos ha, decide_eq_true ha, i2]; rfl
      · rw [if_neg ha, decide_eq_false ha]; rfl
theorem spec_FieldsOk_f {k K : Nat} {l : List S81} (hK : K < 4398046511104) (hl : SmallF K l) (hk : 5 * K + 4 < k) : spec_FieldsOk.f k l = some (fieldsB l) := by
  have := (FieldsOk_l0 K hK l hl l.length k 0 (by omega) (by have := hl.1; omega)).1
  simpa [spec_FieldsOk.f, fieldsB] using this
theorem impl_FieldsOk_f {k K : Nat} {l : List S81} (hK : K < 4398046511104) (hl : SmallF K l) (hk : 5 * K + 4 < k) : impl_FieldsOk.f k l = some (fieldsB l) := by
  have := (FieldsOk_l0 K hK l hl l.length k 0 (by omega) (by have := hl.1; omega)).2
  simpa [impl_FieldsOk.f, fieldsB] using this
theorem le120 (b : ByteArray) : decide ((b.size : Int) ≤ 120) = decide (b.size ≤ 120) := decide_eq_decide.2 (by omega)
def reqB (m : Int) (p : ByteArray) (l : List S81) (b : ByteArray) : Bool := decide (1 ≤ m ∧ m ≤ 4) && (pathB p && (decide (b.size ≤ 120) && fieldsB l))
theorem spec_ReqOk_f {k K : Nat} {m : Int} {p : ByteArray} {l : List S81} {b : ByteArray} (hK : K < 4398046511104) (hp : p.size ≤ K) (hl : SmallF K l) (hk : 5 * K + 4 < k) : spec_ReqOk.f k m p l b = some (reqB m p l b) := by
  unfold spec_ReqOk.f reqB
  rw [spec_l1In_f, Option.bind_some]
  by_cases h : 1 ≤ m ∧ m ≤ 4
  · rw [if_pos (decide_eq_true h), decide_eq_true h, spec_l3Path_f (by omega) (by omega), Option.bind_some]
    cases pathB p
    · rfl
    rw [if_pos rfl, spec_FieldsOk_f hK hl hk, Option.bind_some, le120]
    cases fieldsB l <;> simp
  · rw [if_neg (by simpa using h), decide_eq_false h]; rfl
theorem impl_ReqOk_f {k K : Nat} {m : Int} {p : ByteArray} {l : List S81} {b : ByteArray} (hK : K < 4398046511104) (hp : p.size ≤ K) (hl : SmallF K l) (hk : 5 * K + 4 < k) : impl_ReqOk.f k m p l b = some (reqB m p l b) := by
  unfold impl_ReqOk.f reqB
  rw [impl_inRange_f, Option.bind_some]
  by_cases h : 1 ≤ m ∧ m ≤ 4
  · rw [if_pos (decide_eq_true h), decide_eq_true h, impl_pathOk_f (by omega) (by omega), Option.bind_some]
    cases pathB p
    · rfl
    rw [if_pos rfl]
    by_cases h2 : b.size ≤ 120
    · rw [if_pos (by omega), impl_FieldsOk_f hK hl hk, Option.bind_some, decide_eq_true h2]; rfl
    · rw [if_neg (by omega), decide_eq_false h2]; rfl
  · rw [if_neg (by simpa using h), decide_eq_false h]; rfl
/-! ### strings.Split in plain words -/
theorem splitBs_none (s sep : ByteArray) (h : ∀ j, j ≤ (B s).length → Lib.occAt (B s) (B sep) j = false) : splitBs s sep = [s] := by
  have hi : Lib.indexB s sep = -1 := Lib.index_none h
  unfold splitBs
  exact Lib.splitB_miss sep 0 _ s hi
theorem splitBs_at (s sep : ByteArray) (i : Nat) (h1 : 1 ≤ sep.size) (hi : i ≤ (B s).length) (ho : Lib.occAt (B s) (B sep) i = true) (hn : ∀ j, j < i → Lib.occAt (B s) (B sep) j = false) :
    splitBs s sep = s.extract 0 i :: splitBs (s.extract (i + sep.size) s.size) sep := by
  have hx : Lib.indexB s sep = (i : Int) := Lib.index_first hi ho hn
  unfold splitBs
  rw [Lib.countB_hit s sep i h1 hx, Nat.add_comm 1, Lib.splitB_hit sep 0 _ s i hx, Nat.add_zero]
theorem occ_one (l : List UInt8) (c : UInt8) (j : Nat) : Lib.occAt l [c] j = (match l[j]? with | some x => c == x | none => false) := by
  unfold Lib.occAt
  by_cases h : j < l.length
  · rw [drop_at h, List.getElem?_eq_getElem h]; simp [List.isPrefixOf]
  · rw [List.drop_eq_nil_of_le (by omega), List.getElem?_eq_none (by omega)]; rfl
theorem split1_none (s : ByteArray) (c : UInt8) (h : ∀ j (h : j < (B s).length), (B s)[j] ≠ c) : splitBs s ⟨#[c]⟩ = [s] := by
  refine splitBs_none s _ (fun j hj => ?_)
  show Lib.occAt (B s) [c] j = false
  rw [occ_one]
  by_cases hl : j < (B s).length
  · rw [List.getElem?_eq_getElem hl]; simp only; rw [beq_eq_false_iff_ne]; exact fun e => h j hl e.symm
  · rw [List.getElem?_eq_none (by omega)]
theorem split1_at (s : ByteArray) (c : UInt8) (i : Nat) (hi : i < (B s).length) (h1 : (B s)[i] = c) (h2 : ∀ j (h : j < (B s).length), j < i → (B s)[j] ≠ c) : splitBs s ⟨#[c]⟩ = s.extract 0 i :: splitBs (s.extract (i + 1) s.size) ⟨#[c]⟩ := by
  refine splitBs_at s ⟨#[c]⟩ i (by show 1 ≤ 1; omega) (by omega) ?_ (fun j hj => ?_)
  · show Lib.occAt (B s) [c] i = true
    rw [occ_one, List.getElem?_eq_getElem hi, h1]; simp
  · show Lib.occAt (B s) [c] j = false
    rw [occ_one, List.getElem?_eq_getElem (by omega)]; simp only; rw [beq_eq_false_iff_ne]; exact fun e => h2 j (by omega) hj e.symm
theorem B_get_extract (s : ByteArray) (a b j : Nat) (hj : j < (B (s.extract a b)).length) : ∃ h : a + j < (B s).length, (B (s.extract a b))[j] = (B s)[a + j] ∧ a + j < b := by
  have e := B_extract s a b
  have hl : j < (((B s).take b).drop a).length := by rw [← e]; exact hj
  simp only [List.length_drop, List.length_take] at hl
  refine ⟨by omega, ?_, by omega⟩
  simp only [e, List.getElem_drop, List.getElem_take]
theorem splitBs_len (s sep : ByteArray) (h1 : 1 ≤ sep.size) : (splitBs s sep).length ≤ s.size + 1 := by
  have h := Lib.splitB_length_le sep 0 (Lib.countB s sep) s
  have h2 := Lib.countB_le sep h1 _ s (Nat.le_refl _)
  unfold splitBs; omega
theorem splitBs_small : ∀ (n : Nat) (s sep : ByteArray), s.size ≤ n → 1 ≤ sep.size → ∀ x ∈ splitBs s sep, x.size ≤ s.size := by
  intro n s sep _ h1
  unfold splitBs
  generalize Lib.countB s sep = c
  induction c generalizing s n with
  | zero => intro x hx; simp only [Lib.splitB, List.mem_singleton] at hx; rw [hx]; exact Nat.le_refl _
  | succ c ih =>
    intro x hx
    unfold Lib.splitB at hx
    split at hx
    · simp only [List.mem_singleton] at hx; rw [hx]; exact Nat.le_refl _
    · rcases List.mem_cons.1 hx with rfl | hx
      · rw [ByteArray.size_extract]; omega
      · have := ih s.size _ (by rw [ByteArray.size_extract]; omega) x hx
        rw [ByteArray.size_extract] at this; omega
/-- bytes as a text -/
def Tx (l : List UInt8) : ByteArray := ⟨l.toArray⟩
theorem B_Tx (l : List UInt8) : B (Tx l) = l := B_mk l
theorem Tx_B (s : ByteArray) : Tx (B s) = s := B_ext (B_Tx _)
theorem Tx_append (a b : List UInt8) : Tx (a ++ b) = Tx a ++ Tx b := B_ext (by rw [B_append, B_Tx, B_Tx, B_Tx])
theorem Tx_size (l : List UInt8) : (Tx l).size = l.length := by rw [← B_len, B_Tx]
theorem okFs_facts (l : List S81) : ∀ (r : List S81) (i : Nat), okFs l i r = true → l.length ≤ 8 ∧ ∀ x ∈ r, tokB x.f0 = true ∧ valB x.f1 = true ∧ lenName x.f0 = false
  | [], i, h => ⟨of_decide_eq_true h, fun x hx => by cases hx⟩
  | y :: r, i, h => by
    simp only [okFs, Bool.and_eq_true] at h
    obtain ⟨h1, h2, h3, _, h5⟩ := h
    obtain ⟨g1, g2⟩ := okFs_facts l r (i + 1) h5
    refine ⟨g1, fun x hx => ?_⟩
    rcases List.mem_cons.1 hx with rfl | hx
    · exact ⟨h1, h2, by simpa using h3⟩
    · exact g2 x hx
/-! ### what right fields are like; texts of messages -/
theorem val_size {s : ByteArray} (h : valB s = true) : 1 ≤ s.size ∧ s.size ≤ 60 := by
  unfold valB at h
  rw [Bool.and_eq_true, Bool.and_eq_true] at h
  exact of_decide_eq_true h.1.1
theorem tok_size {s : ByteArray} (h : tokB s = true) : 1 ≤ s.size ∧ s.size ≤ 20 := by
  unfold tokB at h
  rw [Bool.and_eq_true] at h
  exact of_decide_eq_true h.2
theorem fieldLines_le : ∀ l : List S81, (∀ x ∈ l, x.f0.size ≤ 20 ∧ x.f1.size ≤ 60) → (fieldLines l).length ≤ 84 * l.length
  | [], _ => Nat.zero_le _
  | x :: r, h => by
    have h1 := h x (by simp)
    have h2 := fieldLines_le r (fun y hy => h y (by simp [hy]))
    simp only [fieldLines, fieldLine, List.length_append, List.length_cons, List.length_nil, data_length]
    omega
theorem fieldsB_lines {l : List S81} (h : fieldsB l = true) : l.length ≤ 8 ∧ (fieldLines l).length ≤ 672 := by
  obtain ⟨h1, h2⟩ := okFs_facts l l 0 h
  have := fieldLines_le l (fun x hx => ⟨(tok_size (h2 x hx).1).2, (val_size (h2 x hx).2.1).2⟩)
  exact ⟨h1, by omega⟩
def linesT (l : List S81) : ByteArray := ⟨(fieldLines l).toArray⟩
theorem linesT_size (l : List S81) : (linesT l).size = (fieldLines l).length := by rw [← B_len]; unfold linesT; rw [B_mk (fieldLines l)]
theorem itoa_numT {n : Int} (h : 0 ≤ n ∧ n ≤ 1000000) : strconv_Itoa.f n = some (numT n) := by
  unfold strconv_Itoa.f numT
  rw [if_pos (by omega), if_pos h]
theorem path_size {p : ByteArray} (h : pathB p = true) : 1 ≤ p.size ∧ p.size ≤ 60 := by
  unfold pathB at h
  simp only [Bool.and_eq_true, decide_eq_true_eq] at h
  omega
theorem reqB_facts {m : Int} {p : ByteArray} {l : List S81} {b : ByteArray} (h : reqB m p l b = true) : (1 ≤ m ∧ m ≤ 4) ∧ pathB p = true ∧ b.size ≤ 120 ∧ fieldsB l = true := by
  unfold reqB at h
  simp only [Bool.and_eq_true] at h
  exact ⟨of_decide_eq_true h.1, h.2.1, of_decide_eq_true h.2.2.1, h.2.2.2⟩
def methodT (m : Int) : ByteArray := if m = 1 then ⟨#[71, 69, 84]⟩ else if m = 2 then ⟨#[72, 69, 65, 68]⟩ else if m = 3 then ⟨#[80, 79, 83, 84]⟩ else ⟨#[80, 85, 82, 71, 69]⟩
def lenWord : List UInt8 := [99, 111, 110, 116, 101, 110, 116, 45, 108, 101, 110, 103, 116, 104, 58, 32]
def lenBytes (b : ByteArray) : List UInt8 := if b.toList = [] then [] else lenWord ++ (B (numT b.size) ++ [13, 10])
def reqBytes (m : Int) (p : ByteArray) (l : List S81) (b : ByteArray) : List UInt8 :=
  B (methodT m) ++ (32 :: (B p ++ ([32, 72, 84, 84, 80, 47, 49, 46, 49, 13, 10] ++ (fieldLines l ++ (lenBytes b ++ (13 :: 10 :: B b))))))
def reqText (m : Int) (p : ByteArray) (l : List S81) (b : ByteArray) : ByteArray := if reqB m p l b = true then Tx (reqBytes m p l b) else ⟨#[]⟩
theorem methodT_size (m : Int) : (methodT m).size ≤ 5 := by
  unfold methodT
  repeat' (split <;> try exact Nat.le_of_ble_eq_true rfl)
theorem B_linesT (l : List S81) : B (linesT l) = fieldLines l := B_mk (fieldLines l)
theorem spec_ReqText_f {k K : Nat} {m : Int} {p : ByteArray} {l : List S81} {b : ByteArray} (hK : K < 4398046511104) (hp : p.size ≤ K) (hl : SmallF K l) (hk : 5 * K + 50 < k) : spec_ReqText.f k m p l b = some (reqText m p l b) := by
  unfold spec_ReqText.f reqText
  rw [spec_ReqOk_f hK hp hl (by omega), Option.bind_some]
  by_cases h : reqB m p l b = true
  · obtain ⟨h1, h2, h3, h6⟩ := reqB_facts h
    obtain ⟨h4, h5⟩ := fieldsB_lines h6
    have n2 := numT_size b.size
    have n3 := linesT_size l
    have n4 := path_size h2
    have hft : spec_FieldsText.f k l = some (linesT l) := spec_FieldsText_f (by omega) (by omega) (by omega)
    have hmt : methodW m = methodT m := rfl
    rw [if_pos h, if_pos h, if_pos ⟨h1, by omega, by omega⟩, hft, Option.bind_some, if_pos (by omega), hmt]
    by_cases hb : b.toList = []
    · rw [if_pos hb]
      refine congrArg some (B_ext ?_)
      simp only [reqBytes, lenBytes, if_pos hb, B_Tx, B_append, B_linesT, List.append_assoc]
      rfl
    · rw [if_neg hb, spec_NumText_f (by omega), Option.bind_some, if_pos (by omega)]
      refine congrArg some (B_ext ?_)
      simp only [reqBytes, lenBytes, if_neg hb, B_Tx, B_append, B_linesT, List.append_assoc]
      rfl
  · rw [if_neg h, if_neg h]
theorem impl_lengthLine_f {b : ByteArray} (h2 : b.size ≤ 1000000) : impl_lengthLine.f b = some (((⟨#[99, 111, 110, 116, 101, 110, 116, 45, 108, 101, 110, 103, 116, 104, 58, 32]⟩ : ByteArray) ++ numT b.size) ++ (⟨#[13, 10]⟩ : ByteArray)) := by
  have n2 := numT_size b.size
  have s3 : (⟨#[99, 111, 110, 116, 101, 110, 116, 45, 108, 101, 110, 103, 116, 104, 58, 32]⟩ : ByteArray).size = 16 := rfl
  unfold impl_lengthLine.f
  rw [itoa_numT (by omega), Option.bind_some, if_pos (by omega), if_pos (by simp only [ByteArray.size_append, s3]; omega)]
theorem impl_ReqText_f {k K : Nat} {m : Int} {p : ByteArray} {l : List S81} {b : ByteArray} (hK : K < 4398046511104) (hp : p.size ≤ K) (hl : SmallF K l) (hk : 5 * K + 50 < k) : impl_ReqText.f k m p l b = some (reqText m p l b) := by
  unfold impl_ReqText.f reqText
  rw [impl_ReqOk_f hK hp hl (by omega), Option.bind_some]
  by_cases h : reqB m p l b = true
  · obtain ⟨h1, h2, h3, h6⟩ := reqB_facts h
    obtain ⟨h4, h5⟩ := fieldsB_lines h6
    have n1 := methodT_size m
    have n2 := numT_size b.size
    have n3 := linesT_size l
    have n4 := path_size h2
    have s1 : (⟨#[32]⟩ : ByteArray).size = 1 := rfl
    have s2 : (⟨#[72, 84, 84, 80, 47, 49, 46, 49]⟩ : ByteArray).size = 8 := rfl
    have s3 : (⟨#[99, 111, 110, 116, 101, 110, 116, 45, 108, 101, 110, 103, 116, 104, 58, 32]⟩ : ByteArray).size = 16 := rfl
    have s4 : (⟨#[13, 10]⟩ : ByteArray).size = 2 := rfl
    have hft : impl_FieldsText.f l = some (linesT l) := impl_FieldsText_f (by omega) (by omega)
    have hmt : impl_methodText.f m = some (methodT m) := by
      have hm : m = 1 ∨ m = 2 ∨ m = 3 ∨ m = 4 := by omega
      rcases hm with e | e | e | e <;> subst e <;> rfl
    rw [if_pos h, if_pos h, hmt, Option.bind_some, if_pos (by omega), if_pos (by simp only [ByteArray.size_append, s1]; omega), if_pos (by simp only [ByteArray.size_append, s1]; omega), if_pos (by simp only [ByteArray.size_append, s1]; omega), if_pos (by simp only [ByteArray.size_append, s1, s2]; omega), hft, Option.bind_some,
      if_pos (by simp only [ByteArray.size_append, s1, s2, s4]; omega)]
    by_cases hb : b.toList = []
    · rw [if_pos hb, if_pos (by simp only [ByteArray.size_append, s1, s2, s4]; omega), if_pos (by simp only [ByteArray.size_append, s1, s2, s4]; omega)]
      refine congrArg some (B_ext ?_)
      simp only [reqBytes, lenBytes, if_pos hb, B_Tx, B_append, B_linesT, List.append_assoc]
      rfl
    · rw [if_neg hb, impl_lengthLine_f (by omega), Option.bind_some, if_pos (by simp only [ByteArray.size_append, s1, s2, s3, s4]; omega), if_pos (by simp only [ByteArray.size_append, s1, s2, s3, s4]; omega), if_pos (by simp only [ByteArray.size_append, s1, s2, s3, s4]; omega)]
      refine congrArg some (B_ext ?_)
      simp only [reqBytes, lenBytes, if_neg hb, B_Tx, B_append, B_linesT, List.append_assoc]
      rfl
  · rw [if_neg h, if_neg h]
/-! ### texts of lines, in plain words -/
theorem occ_ne {s r : List UInt8} {c : UInt8} {j : Nat} (h : s[j]? ≠ some c) : Lib.occAt s (c :: r) j = false := by
  unfold Lib.occAt
  cases e : s.drop j with
  | nil => rfl
  | cons x t =>
    have hx : s[j]? = some x := by rw [← List.head?_drop, e]; rfl
    have hc : c ≠ x := fun he => h (by rw [hx, he])
    simp only [List.isPrefixOf]
    rw [beq_eq_false_iff_ne.2 hc]; rfl
theorem occ_free {a b r : List UInt8} {c : UInt8} {j : Nat} (h : c ∉ a) (hj : j < a.length) : Lib.occAt (a ++ b) (c :: r) j = false := by
  refine occ_ne fun e => h ?_
  rw [List.getElem?_append_left hj] at e
  exact List.mem_of_getElem? e
theorem occ_here (a b sub : List UInt8) : Lib.occAt (a ++ (sub ++ b)) sub a.length = true := by
  unfold Lib.occAt
  rw [List.drop_left]
  induction sub with
  | nil => rfl
  | cons c r ih => simp only [List.cons_append, List.isPrefixOf]; rw [ih]; simp
theorem index_app {a b r : List UInt8} {c : UInt8} (h : c ∉ a) : Lib.index (a ++ ((c :: r) ++ b)) (c :: r) = (a.length : Int) :=
  Lib.index_first (by simp) (occ_here a b (c :: r)) (fun _ hj => occ_free h hj)
theorem cut_app {a b r : List UInt8} {c : UInt8} (h : c ∉ a) : Lib.cut (a ++ ((c :: r) ++ b)) (c :: r) = (a, b, true) := by
  unfold Lib.cut
  rw [index_app h, if_pos (by omega), Int.toNat_natCast, List.take_left, List.drop_append, List.drop_eq_nil_of_le (by omega), List.nil_append, Nat.add_sub_cancel_left, List.drop_left]
theorem splitBs_app {a b sep : ByteArray} {c : UInt8} {r : List UInt8} (hs : B sep = c :: r) (ha : c ∉ B a) : splitBs (a ++ (sep ++ b)) sep = a :: splitBs b sep := by
  have hz : 1 ≤ sep.size := by rw [← B_len, hs]; simp
  have hB : B (a ++ (sep ++ b)) = B a ++ ((c :: r) ++ B b) := by rw [B_append, B_append, hs]
  have hl : a.size ≤ (B (a ++ (sep ++ b))).length := by rw [hB, List.length_append, B_len]; omega
  rw [splitBs_at (a ++ (sep ++ b)) sep a.size hz hl (by rw [hB, hs, ← B_len]; exact occ_here _ _ _) (fun j hj => by rw [hB, hs]; exact occ_free ha (by rw [B_len]; exact hj))]
  congr 1
  · apply B_ext
    rw [B_extract, hB, List.drop_zero, ← B_len, List.take_left]
  · congr 1
    apply B_ext
    have hsz : (a ++ (sep ++ b)).size = a.size + sep.size + b.size := by rw [ByteArray.size_append, ByteArray.size_append]; omega
    rw [B_extract, hsz, List.take_of_length_le (by rw [B_len]; omega), B_append, B_append, ← List.append_assoc, List.drop_left' (by rw [List.length_append, B_len, B_len])]
theorem splitBs_free {a sep : ByteArray} {c : UInt8} {r : List UInt8} (hs : B sep = c :: r) (ha : c ∉ B a) : splitBs a sep = [a] :=
  splitBs_none a sep fun j _ => by rw [hs]; exact occ_ne fun e => ha (List.mem_of_getElem? e)
/-- lines, each with its end -/
def lineT : List (List UInt8) → List UInt8
  | [] => []
  | x :: r => x ++ (13 :: 10 :: lineT r)
/-- lines, ends between them -/
def joinT : List (List UInt8) → List UInt8
  | [] => []
  | [x] => x
  | x :: y :: r => x ++ (13 :: 10 :: joinT (y :: r))
theorem lineT_join : ∀ {l : List (List UInt8)}, l ≠ [] → lineT l = joinT l ++ [13, 10]
  | [], h => absurd rfl h
  | [x], _ => by simp [lineT, joinT]
  | x :: y :: r, _ => by rw [lineT, joinT, lineT_join (l := y :: r) (by simp)]; simp
theorem lineT_append : ∀ a b, lineT (a ++ b) = lineT a ++ lineT b
  | [], b => rfl
  | x :: r, b => by simp [lineT, lineT_append r b]
def GoodL (l : List (List UInt8)) : Prop := ∀ x ∈ l, x ≠ [] ∧ (13 : UInt8) ∉ x ∧ (10 : UInt8) ∉ x
theorem index_head (body : List UInt8) : ∀ {l : List (List UInt8)}, l ≠ [] → GoodL l → Lib.index (lineT l ++ (13 :: 10 :: body)) [13, 10, 13, 10] = ((joinT l).length : Int)
  | [], h, _ => absurd rfl h
  | [x], _, hg => by
    have := index_app (a := x) (b := body) (c := 13) (r := [10, 13, 10]) (hg x (by simp)).2.1
    rw [show lineT [x] ++ (13 :: 10 :: body) = x ++ ([13, 10, 13, 10] ++ body) by simp [lineT]]
    exact this
  | x :: y :: r, _, hg => by
    have ih := index_head body (l := y :: r) (by simp) (fun z hz => hg z (by simp [hz]))
    have hx := hg x (by simp)
    have hy := hg y (by simp)
    obtain ⟨y0, yt, rfl⟩ : ∃ y0 yt, y = y0 :: yt := by cases y with | nil => exact absurd rfl hy.1 | cons a t => exact ⟨a, t, rfl⟩
    have hy0 : y0 ≠ 13 := fun e => hy.2.1 (by simp [e])
    have e1 : lineT (x :: (y0 :: yt) :: r) ++ (13 :: 10 :: body) = x ++ (13 :: 10 :: (lineT ((y0 :: yt) :: r) ++ (13 :: 10 :: body))) := by simp [lineT]
    have hd : (lineT (x :: (y0 :: yt) :: r) ++ (13 :: 10 :: body)).drop (x.length + 2) = lineT ((y0 :: yt) :: r) ++ (13 :: 10 :: body) := by
      rw [e1, List.drop_append, List.drop_eq_nil_of_le (by omega), Nat.add_sub_cancel_left]; rfl
    have hno : Lib.NoOcc (lineT (x :: (y0 :: yt) :: r) ++ (13 :: 10 :: body)) [13, 10, 13, 10] (x.length + 2) := by
      intro j hj
      rw [e1]
      by_cases h1 : j < x.length
      · exact occ_free hx.2.1 h1
      by_cases h2 : j = x.length
      · subst h2
        unfold Lib.occAt
        rw [List.drop_left, lineT]
        have : ((13 : UInt8) == y0) = false := beq_eq_false_iff_ne.2 fun e => hy0 e.symm
        simp [List.isPrefixOf, this]
      · have h3 : j = x.length + 1 := by omega
        subst h3
        refine occ_ne ?_
        rw [List.getElem?_append_right (by omega), Nat.add_sub_cancel_left]
        simp
    rw [Lib.index_drop hno (by rw [e1]; simp <;> omega), hd, ih, if_neg (by rw [beq_iff_eq]; omega), joinT]
    simp only [List.length_append, List.length_cons]
    omega
theorem cut_head (body : List UInt8) {l : List (List UInt8)} (h : l ≠ []) (hg : GoodL l) : Lib.cut (lineT l ++ (13 :: 10 :: body)) [13, 10, 13, 10] = (joinT l, body, true) := by
  have hi := index_head body h hg
  have e : lineT l ++ (13 :: 10 :: body) = joinT l ++ ([13, 10, 13, 10] ++ body) := by rw [lineT_join h]; simp
  unfold Lib.cut
  rw [hi, if_pos (by omega), Int.toNat_natCast, e, List.take_left, List.drop_append, List.drop_eq_nil_of_le (by omega), List.nil_append, Nat.add_sub_cancel_left, List.drop_left]
theorem split_join : ∀ {l : List (List UInt8)}, l ≠ [] → GoodL l → splitBs (Tx (joinT l)) (Tx [13, 10]) = l.map Tx
  | [], h, _ => absurd rfl h
  | [x], _, hg => splitBs_free (B_Tx _) (by rw [B_Tx]; exact (hg x (by simp)).2.1)
  | x :: y :: r, _, hg => by
    have ih := split_join (l := y :: r) (by simp) (fun z hz => hg z (by simp [hz]))
    have e : Tx (joinT (x :: y :: r)) = Tx x ++ (Tx [13, 10] ++ Tx (joinT (y :: r))) := by rw [← Tx_append, ← Tx_append]; rfl
    rw [e, splitBs_app (B_Tx _) (by rw [B_Tx]; exact (hg x (by simp)).2.1), ih]; rfl
/-! ### the lines of a head -/
theorem octv {c d : UInt8} {n : Int} (h : (d.toNat : Int) = n) : ((c.toNat : Int) = n) ↔ c = d := by
  subst h
  constructor
  · intro h; exact UInt8.toNat_inj.1 (by omega)
  · rintro rfl; rfl
theorem w64_n1 {j : Nat} (h : j ≤ 2097152) : wrap64 ((j : Int) + 1) = ((j + 1 : Nat) : Int) := by rw [w64 (by omega)]; omega
theorem w64_n2 {j : Nat} (h : j ≤ 2097152) : wrap64 ((j : Int) + 2) = ((j + 2 : Nat) : Int) := by rw [w64 (by omega)]; omega
theorem w64_m1 {j : Nat} (h1 : 1 ≤ j) (h : j ≤ 2097152) : wrap64 ((j : Int) - 1) = ((j - 1 : Nat) : Int) := by rw [w64 (by omega)]; omega
def firstOf : List (List UInt8) → List UInt8
  | [] => []
  | x :: _ => x
theorem lineT_first (body : List UInt8) : ∀ L : List (List UInt8), ∃ rest, lineT L ++ (13 :: 10 :: body) = firstOf L ++ (13 :: 10 :: rest)
  | [] => ⟨body, rfl⟩
  | x :: r => ⟨lineT r ++ (13 :: 10 :: body), by simp [lineT, firstOf]⟩
theorem drop_get {l x t : List UInt8} {f j : Nat} (h : l.drop f = x ++ t) (h1 : f ≤ j) (h2 : j < f + x.length) : l[j]? = x[j - f]? := by
  rw [← List.getElem?_append_left (l₂ := t) (by omega : j - f < x.length), ← h, List.getElem?_drop, show f + (j - f) = j by omega]
theorem in_first {l x t : List UInt8} {f j : Nat} (h : l.drop f = x ++ t) (h1 : f ≤ j) (h2 : j < f + x.length) (hj : j < l.length) : l[j] ∈ x := by
  have e := drop_get h h1 h2
  rw [List.getElem?_eq_getElem hj] at e
  exact List.mem_of_getElem? e.symm
theorem nl_at {l x rest : List UInt8} {f : Nat} (h : l.drop f = x ++ (13 :: 10 :: rest)) : l[f + x.length]? = some 13 ∧ l[f + x.length + 1]? = some 10 ∧ f + x.length + 2 ≤ l.length := by
  have h13 : (l.drop f)[x.length]? = some 13 := by rw [h, List.getElem?_append_right (Nat.le_refl _), Nat.sub_self]; rfl
  have h10 : (l.drop f)[x.length + 1]? = some 10 := by rw [h, List.getElem?_append_right (by omega), Nat.add_sub_cancel_left]; rfl
  rw [List.getElem?_drop] at h13 h10
  have hl := congrArg List.length h
  simp only [List.length_drop, List.length_append, List.length_cons] at hl
  exact ⟨h13, h10, by omega⟩
theorem get_of {l : List UInt8} {j : Nat} {c : UInt8} (h : l[j]? = some c) (hj : j < l.length) : l[j] = c := by
  rw [List.getElem?_eq_getElem hj] at h; exact Option.some.inj h
theorem cut_line {s : ByteArray} {f : Nat} {x t : List UInt8} (h : (B s).drop f = x ++ t) : s.extract f (f + x.length) = Tx x := by
  apply B_ext
  rw [B_extract, B_Tx, List.drop_take, h, Nat.add_sub_cancel_left, List.take_left]
theorem spec_l3Head_l0 (s : ByteArray) (hs : s.size ≤ 2097152) : ∀ (d k i f : Nat) (acc : List ByteArray), s.size - i = d → 1 ≤ i → f ≤ i → f ≤ s.size → acc.length ≤ f → (∀ x ∈ acc, x.size ≤ s.size) → 2 * d + 4 < k →
    ∃ ls e, spec_l3Head.l0 k s acc f i = some (ls, e) ∧ ls.length ≤ s.size ∧ (∀ x ∈ ls, x.size ≤ s.size) ∧ e ≤ s.size ∧ (e = -1 ∨ 1 ≤ e) ∧ ∀ L body, GoodL L → (B s).drop f = lineT L ++ (13 :: 10 :: body) → i ≤ f + (firstOf L).length + 1 → ls = acc ++ L.map Tx ∧ e = ((f + (lineT L).length + 2 : Nat) : Int) := by
  intro d
  induction d with
  | zero =>
    intro k i f acc hd h1 hf hfs ha hx hk
    obtain ⟨k, rfl⟩ := succ_of (show 0 < k by omega)
    refine ⟨acc, -1, ?_, by omega, hx, by omega, .inl rfl, fun L body hg hL hi => ?_⟩
    · simp only [spec_l3Head.l0]; rw [if_neg (by omega)]
    · exfalso
      obtain ⟨rest, e⟩ := lineT_first body L
      have := (nl_at (hL.trans e)).2.2
      rw [B_len] at this; omega
  | succ d ih =>
    intro k i f acc hd h1 hf hfs ha hx hk
    obtain ⟨k, rfl⟩ := succ_of (show 1 < k by omega)
    obtain ⟨k, rfl⟩ := succ_of (show 0 < k by omega)
    have hlt : i < s.size := by omega
    have hl : i < (B s).length := by rw [B_len]; omega
    have hl1 : i - 1 < (B s).length := by omega
    have hiz : i ≤ 2097152 := by omega
    have go : (¬ ((B s)[i] = 10 ∧ (B s)[i - 1] = 13 ∧ f ≤ i - 1)) → ∃ ls e, spec_l3Head.l0 k s acc f ((i + 1 : Nat) : Int) = some (ls, e) ∧ ls.length ≤ s.size ∧ (∀ x ∈ ls, x.size ≤ s.size) ∧ e ≤ s.size ∧ (e = -1 ∨ 1 ≤ e) ∧ ∀ L body, GoodL L → (B s).drop f = lineT L ++ (13 :: 10 :: body) → i ≤ f + (firstOf L).length + 1 → ls = acc ++ L.map Tx ∧ e = ((f + (lineT L).length + 2 : Nat) : Int) := by
      intro hn
      obtain ⟨ls, e, g1, g2, g3, g4, g5, g6⟩ := ih k (i + 1) f acc (by omega) (by omega) (by omega) hfs ha hx (by omega)
      refine ⟨ls, e, g1, g2, g3, g4, g5, fun L body hg hL hi => g6 L body hg hL ?_⟩
      by_cases he : i = f + (firstOf L).length + 1
      · exfalso
        obtain ⟨rest, e2⟩ := lineT_first body L
        obtain ⟨n1, n2, _⟩ := nl_at (hL.trans e2)
        refine hn ⟨get_of (by rw [he]; exact n2) hl, get_of (by rw [show i - 1 = f + (firstOf L).length by omega]; exact n1) hl1, by omega⟩
      · omega
    simp only [spec_l3Head.l0]
    rw [if_pos (by omega), if_pos (by omega), bt_get s i hl]
    by_cases c : (B s)[i] = 10
    · rw [if_pos ((octv (d := 10) (n := 10) rfl).2 c), w64_m1 h1 hiz, if_pos (by omega), if_pos (by omega), bt_get s (i - 1) hl1]
      by_cases c2 : (B s)[i - 1] = 13
      · rw [if_pos ((octv (d := 13) (n := 13) rfl).2 c2)]
        simp only [spec_l3Head.j1]
        by_cases c3 : i - 1 < f
        · rw [if_pos (decide_eq_true (by omega)), w64_n1 hiz]
          exact go (fun h => by omega)
        · clear go
          rw [if_neg (by rw [decide_eq_false (by omega)]; simp), if_pos (by omega), w64_m1 h1 hiz, if_pos (by omega), if_pos (by omega), Int.toNat_natCast, Int.toNat_natCast, w64_n1 hiz]
          by_cases c4 : (s.extract f (i - 1)).toList = []
          · rw [if_pos c4]
            refine ⟨acc, _, rfl, by omega, hx, by omega, .inr (by omega), fun L body hg hL hi => ?_⟩
            have hz : (s.extract f (i - 1)).size = 0 := by rw [← B_len, ← toList_B, c4]; rfl
            rw [ByteArray.size_extract] at hz
            cases L with
            | nil => exact ⟨by simp, by simp only [lineT, List.length_nil]; omega⟩
            | cons x r =>
              exfalso
              have hgx := hg x (by simp)
              have hx0 : 0 < x.length := List.length_pos_iff.2 hgx.1
              have e2 : (B s).drop f = x ++ (13 :: 10 :: (lineT r ++ (13 :: 10 :: body))) := by rw [hL]; simp [lineT]
              have := in_first e2 (j := i - 1) (by omega) (by omega) hl1
              rw [c2] at this
              exact hgx.2.1 this
          · rw [if_neg c4, if_pos (by omega)]
            have hsz : (s.extract f (i - 1)).size ≤ s.size := by rw [ByteArray.size_extract]; omega
            obtain ⟨ls, e, g1, g2, g3, g4, g5, g6⟩ := ih k (i + 1) (i + 1) (acc ++ [s.extract f (i - 1)]) (by omega) (by omega) (by omega) (by omega) (by simp; omega) (fun x hx' => by
              rcases List.mem_append.1 hx' with hx' | hx'
              · exact hx x hx'
              · rw [List.mem_singleton.1 hx']; exact hsz) (by omega)
            refine ⟨ls, e, g1, g2, g3, g4, g5, fun L body hg hL hi => ?_⟩
            cases L with
            | nil =>
              exfalso
              apply c4
              simp only [firstOf, List.length_nil] at hi
              rw [toList_B, B_extract, List.drop_eq_nil_of_le (by rw [List.length_take]; omega)]
            | cons x r =>
              have hgx := hg x (by simp)
              have e2 : (B s).drop f = x ++ (13 :: 10 :: (lineT r ++ (13 :: 10 :: body))) := by rw [hL]; simp [lineT]
              simp only [firstOf] at hi
              have hi2 : i - 1 = f + x.length := by
                by_cases hq : i - 1 < f + x.length
                · exfalso
                  have := in_first e2 (j := i - 1) (by omega) hq hl1
                  rw [c2] at this
                  exact hgx.2.1 this
                · omega
              have e3 : (B s).drop (i + 1) = lineT r ++ (13 :: 10 :: body) := by
                rw [show i + 1 = f + (x.length + 2) by omega, ← List.drop_drop, e2, List.drop_append, List.drop_eq_nil_of_le (by omega), List.nil_append, Nat.add_sub_cancel_left]; rfl
              have hxt : s.extract f (i - 1) = Tx x := by rw [hi2]; exact cut_line e2
              obtain ⟨q1, q2⟩ := g6 r body (fun y hy => hg y (by simp [hy])) e3 (by omega)
              refine ⟨by rw [q1, hxt]; simp, ?_⟩
              rw [q2]
              simp only [lineT, List.length_append, List.length_cons]
              omega
      · rw [if_neg (fun h => c2 ((octv (d := 13) (n := 13) rfl).1 h))]
        simp only [spec_l3Head.j1]
        rw [if_pos trivial, w64_n1 hiz]
        exact go (fun h => c2 h.2.1)
    · rw [if_neg (fun h => c ((octv (d := 10) (n := 10) rfl).1 h))]
      simp only [spec_l3Head.j1]
      rw [if_pos trivial, w64_n1 hiz]
      exact go (fun h => c h.1)
theorem spec_l3Head_f {k : Nat} {s : ByteArray} (hs : s.size ≤ 2097152) (hk : 2 * s.size + 10 < k) : ∃ ls e, spec_l3Head.f k s = some (ls, e) ∧ ls.length ≤ s.size ∧ (∀ x ∈ ls, x.size ≤ s.size) ∧ e ≤ s.size ∧ (e = -1 ∨ 1 ≤ e) ∧ ∀ L body, GoodL L → B s = lineT L ++ (13 :: 10 :: body) → ls = L.map Tx ∧ e = (((lineT L).length + 2 : Nat) : Int) := by
  obtain ⟨ls, e, g1, g2, g3, g4, g5, g6⟩ := spec_l3Head_l0 s hs (s.size - 1) k 1 0 [] (by omega) (by omega) (by omega) (by omega) (by simp) (fun x hx => by cases hx) (by omega)
  refine ⟨ls, e, g1, g2, g3, g4, g5, fun L body hg hL => ?_⟩
  have := g6 L body hg hL (by omega)
  rw [List.nil_append, Nat.zero_add] at this
  exact this
/-! ### words between blanks -/
theorem spec_l3Words_l0 (s : ByteArray) (hs : s.size ≤ 2097152) : ∀ (d k f i : Nat) (acc : List ByteArray), s.size - i = d → i ≤ s.size → f ≤ i → acc.length ≤ i → (∀ j (h : j < (B s).length), f ≤ j → j < i → (B s)[j] ≠ 32) → d + 2 < k →
    spec_l3Words.l0 k s acc f i = some (acc ++ splitBs (s.extract f s.size) ⟨#[32]⟩) := by
  intro d
  induction d with
  | zero =>
    intro k f i acc hd hi hf ha hno hk
    obtain ⟨k, rfl⟩ := succ_of (show 1 < k by omega)
    have hiz : i = s.size := by omega
    have hsp : splitBs (s.extract f s.size) ⟨#[32]⟩ = [s.extract f s.size] := split1_none _ _ (fun j hj => by
      obtain ⟨h1, h2, h3⟩ := B_get_extract s f s.size j hj
      rw [h2]; exact hno (f + j) h1 (by omega) (by omega))
    rw [hsp]
    have fin : ∀ acc', spec_l3Words.l0 k s acc' ((s.size : Int) + 1) ((s.size : Int) + 1) = some acc' := fun acc' => by
      obtain ⟨k, rfl⟩ := succ_of (show 0 < k by omega)
      simp only [spec_l3Words.l0]; rw [if_neg (by omega)]
    simp only [spec_l3Words.l0]
    rw [if_pos (by omega), if_pos (by omega), if_pos (by omega), if_pos (by omega), if_pos (by omega), Int.toNat_natCast, Int.toNat_natCast, hiz, w64 (by omega), fin]
  | succ d ih =>
    intro k f i acc hd hi hf ha hno hk
    obtain ⟨k, rfl⟩ := succ_of (show 0 < k by omega)
    have hl : i < (B s).length := by rw [B_len]; omega
    have hr : wrap64 ((i : Int) + 1) = ((i + 1 : Nat) : Int) := nat_round (n := s.size) (by omega) (by omega)
    simp only [spec_l3Words.l0]
    rw [if_pos (by omega), if_neg (by omega), if_pos (by omega), if_pos (by omega), bt_get s i hl]
    by_cases c : (B s)[i] = 32
    · have hsp : splitBs (s.extract f s.size) ⟨#[32]⟩ = s.extract f i :: splitBs (s.extract (i + 1) s.size) ⟨#[32]⟩ := by
        have hz : (s.extract f s.size).size = s.size - f := by rw [ByteArray.size_extract]; omega
        have hlt : i - f < (B (s.extract f s.size)).length := by rw [B_len, hz]; omega
        obtain ⟨g1, g2, _⟩ := B_get_extract s f s.size (i - f) hlt
        rw [split1_at (s.extract f s.size) 32 (i - f) hlt (by rw [g2]; simp only [show f + (i - f) = i by omega]; exact c) (fun j hj hji => by
          obtain ⟨h1, h2, h3⟩ := B_get_extract s f s.size j hj
          rw [h2]; exact hno (f + j) h1 (by omega) (by omega)), ByteArray.extract_extract, hz, ByteArray.extract_extract]
        rw [show min (f + (i - f)) s.size = i by omega, show min (f + (s.size - f)) s.size = s.size by omega, show f + (i - f + 1) = i + 1 by omega, Nat.add_zero]
      rw [if_pos ((octv (d := 32) (n := 32) rfl).2 c), if_pos (by omega), if_pos (by omega), if_pos (by omega), Int.toNat_natCast, Int.toNat_natCast, hr, ih k (i + 1) (i + 1) _ (by omega) (by omega) (by omega) (by simp; omega) (fun j _ h1 h2 => by omega) (by omega), hsp, List.append_assoc]; rfl
    · rw [if_neg (fun h => c ((octv (d := 32) (n := 32) rfl).1 h)), hr]
      refine ih k f (i + 1) acc (by omega) (by omega) (by omega) (by omega) (fun j h h1 h2 => ?_) (by omega)
      by_cases e : j = i
      · subst e; exact c
      · exact hno j h h1 (by omega)
theorem spec_l3Words_f {k : Nat} {s : ByteArray} (hs : s.size ≤ 2097152) (hk : s.size + 2 < k) : spec_l3Words.f k s = some (splitBs s ⟨#[32]⟩) := by
  have := spec_l3Words_l0 s hs s.size k 0 0 [] (by omega) (by omega) (by omega) (by simp) (fun j _ _ h => by omega) hk
  rw [List.nil_append, extract_all0] at this
  exact this
/-! ### what stands in right texts: bytes -/
theorem tok_free {s : ByteArray} (h : tokB s = true) {c : UInt8} (hc : tok1 c = false) : c ∉ B s := by
  unfold tokB at h
  rw [Bool.and_eq_true, List.all_eq_true] at h
  intro hm
  rw [h.1 c hm] at hc
  cases hc
theorem tok_bytes {s : ByteArray} (h : tokB s = true) : ∀ c ∈ B s, 33 ≤ c.toNat ∧ c.toNat ≤ 126 := by
  unfold tokB at h
  rw [Bool.and_eq_true, List.all_eq_true] at h
  intro c hm
  have := of_decide_eq_true (h.1 c hm)
  omega
theorem val_bytes {s : ByteArray} (h : valB s = true) : ∀ c ∈ B s, 32 ≤ c.toNat ∧ c.toNat ≤ 126 := by
  unfold valB fromB at h
  rw [Bool.and_eq_true, Bool.and_eq_true, List.all_eq_true] at h
  intro c hm
  have := of_decide_eq_true (h.1.2 c hm)
  omega
theorem ge32_free {l : List UInt8} (h : ∀ c ∈ l, 32 ≤ c.toNat) {c : UInt8} (hc : c.toNat < 32) : c ∉ l := fun hm => by
  have := h c hm; omega
theorem goodL_of {L : List (List UInt8)} (h : ∀ x ∈ L, x ≠ [] ∧ ∀ c ∈ x, 32 ≤ c.toNat) : GoodL L := fun x hx =>
  ⟨(h x hx).1, ge32_free (h x hx).2 (by decide), ge32_free (h x hx).2 (by decide)⟩
theorem digs_ge {l : List UInt8} (h : digs l = true) : ∀ c ∈ l, 33 ≤ c.toNat := fun c hm => by
  unfold digs at h
  rw [List.all_eq_true] at h
  have := of_decide_eq_true (h c hm)
  omega
theorem num_bytes {n : Int} (h : 0 ≤ n ∧ n ≤ 1000000) : (∀ c ∈ B (numT n), 33 ≤ c.toNat) ∧ B (numT n) ≠ [] := by
  obtain ⟨u, rfl⟩ : ∃ u : Nat, n = u := ⟨n.toNat, by omega⟩
  have e : B (numT (u : Int)) = Lib.decDigits u := by
    unfold numT
    rw [if_pos h, B_mk (Lib.itoa (u : Int)), itoa_nat]
  rw [e]
  exact ⟨digs_ge (dec_facts u).2.1, (dec_facts u).2.2⟩
/-! ### lines of fields -/
def fl (x : S81) : List UInt8 := B x.f0 ++ (58 :: 32 :: B x.f1)
theorem fieldLines_lineT : ∀ l : List S81, fieldLines l = lineT (l.map fl)
  | [] => rfl
  | x :: r => by
    rw [fieldLines, List.map_cons, lineT, ← fieldLines_lineT r]
    simp [fieldLine, fl, B]
def lenN : List UInt8 := [99, 111, 110, 116, 101, 110, 116, 45, 108, 101, 110, 103, 116, 104]
theorem lenName_B (s : ByteArray) : lenName s = decide (B s = lenN) := by unfold lenName lenN; rw [toList_B]
def fieldOf (line : List UInt8) : Option S81 :=
  if (Lib.cut line [58, 32]).2.2 = true then (if (Lib.cut line [58, 32]).1 = lenN then none else some ⟨Tx (Lib.cut line [58, 32]).1, Tx (Lib.cut line [58, 32]).2.1⟩) else none
def fieldsOf (lines : List (List UInt8)) : List S81 := lines.filterMap fieldOf
theorem cut_fl {a b : List UInt8} (h : (58 : UInt8) ∉ a) : Lib.cut (a ++ (58 :: 32 :: b)) [58, 32] = (a, b, true) := cut_app (c := 58) (r := [32]) h
theorem fl_good {x : S81} (h1 : tokB x.f0 = true) (h2 : valB x.f1 = true) : fl x ≠ [] ∧ ∀ c ∈ fl x, 32 ≤ c.toNat := by
  refine ⟨by unfold fl; simp, fun c hc => ?_⟩
  unfold fl at hc
  rcases List.mem_append.1 hc with hc | hc
  · have := tok_bytes h1 c hc; omega
  · rcases List.mem_cons.1 hc with rfl | hc
    · decide
    · rcases List.mem_cons.1 hc with rfl | hc
      · decide
      · exact (val_bytes h2 c hc).1
def lenLine (b : ByteArray) : List UInt8 := lenN ++ (58 :: 32 :: B (numT b.size))
def lenLines (b : ByteArray) : List (List UInt8) := if b.toList = [] then [] else [lenLine b]
theorem lenLine_good {b : ByteArray} (hb : b.size ≤ 1000000) : lenLine b ≠ [] ∧ ∀ c ∈ lenLine b, 32 ≤ c.toNat := by
  refine ⟨by unfold lenLine; simp, fun c hc => ?_⟩
  unfold lenLine at hc
  rcases List.mem_append.1 hc with hc | hc
  · have h : (lenN.all fun c => decide (32 ≤ c.toNat)) = true := by decide
    rw [List.all_eq_true] at h
    exact of_decide_eq_true (h c hc)
  · rcases List.mem_cons.1 hc with rfl | hc
    · decide
    · rcases List.mem_cons.1 hc with rfl | hc
      · decide
      · have := (num_bytes (n := (b.size : Int)) (by omega)).1 c hc; omega
theorem fields_good {l : List S81} (h : fieldsB l = true) : ∀ x ∈ l.map fl, x ≠ [] ∧ ∀ c ∈ x, 32 ≤ c.toNat := by
  obtain ⟨_, h2⟩ := okFs_facts l l 0 h
  intro x hx
  obtain ⟨y, hy, rfl⟩ := List.mem_map.1 hx
  exact fl_good (h2 y hy).1 (h2 y hy).2.1
theorem path_bytes {s : ByteArray} (h : pathB s = true) : (∀ c ∈ B s, 33 ≤ c.toNat ∧ c.toNat ≤ 126) ∧ 1 ≤ s.size := by
  unfold pathB fromB at h
  simp only [Bool.and_eq_true, List.all_eq_true, decide_eq_true_eq] at h
  refine ⟨fun c hm => ?_, by omega⟩
  have := h.2.2 c hm
  omega
/-! ### a request's text, line by line -/
def httpB : List UInt8 := [72, 84, 84, 80, 47, 49, 46, 49]
def reqFirst (m : Int) (p : ByteArray) : List UInt8 := B (methodT m) ++ (32 :: (B p ++ (32 :: httpB)))
def reqLines (m : Int) (p : ByteArray) (l : List S81) (b : ByteArray) : List (List UInt8) := reqFirst m p :: (l.map fl ++ lenLines b)
theorem lenBytes_lines (b : ByteArray) : lenBytes b = lineT (lenLines b) := by
  unfold lenBytes lenLines
  split
  · rfl
  · simp [lineT, lenLine, lenWord, lenN]
theorem reqBytes_lines (m : Int) (p : ByteArray) (l : List S81) (b : ByteArray) : reqBytes m p l b = lineT (reqLines m p l b) ++ (13 :: 10 :: B b) := by
  unfold reqBytes reqLines reqFirst httpB
  rw [lineT, lineT_append, ← fieldLines_lineT, lenBytes_lines]
  simp
theorem method_bytes (m : Int) : ∀ c ∈ B (methodT m), 65 ≤ c.toNat := by
  have h : ∀ l : List UInt8, (l.all fun c => decide (65 ≤ c.toNat)) = true → ∀ c ∈ l, 65 ≤ c.toNat := fun l hl c hc => by
    rw [List.all_eq_true] at hl; exact of_decide_eq_true (hl c hc)
  unfold methodT
  repeat' split
  all_goals exact h _ (by decide)
theorem reqFirst_good {m : Int} {p : ByteArray} (hp : pathB p = true) : reqFirst m p ≠ [] ∧ ∀ c ∈ reqFirst m p, 32 ≤ c.toNat := by
  refine ⟨by unfold reqFirst; simp, fun c hc => ?_⟩
  unfold reqFirst at hc
  rcases List.mem_append.1 hc with hc | hc
  · have := method_bytes m c hc; omega
  · rcases List.mem_cons.1 hc with rfl | hc
    · decide
    · rcases List.mem_append.1 hc with hc | hc
      · have := (path_bytes hp).1 c hc; omega
      · rcases List.mem_cons.1 hc with rfl | hc
        · decide
        · have h : (httpB.all fun c => decide (32 ≤ c.toNat)) = true := by decide
          rw [List.all_eq_true] at h
          exact of_decide_eq_true (h c hc)
theorem reqLines_good {m : Int} {p : ByteArray} {l : List S81} {b : ByteArray} (h : reqB m p l b = true) : GoodL (reqLines m p l b) := by
  obtain ⟨_, h2, h3, h6⟩ := reqB_facts h
  refine goodL_of fun x hx => ?_
  rcases List.mem_cons.1 hx with rfl | hx
  · exact reqFirst_good h2
  · rcases List.mem_append.1 hx with hx | hx
    · exact fields_good h6 x hx
    · unfold lenLines at hx
      split at hx
      · cases hx
      · rw [List.mem_singleton.1 hx]; exact lenLine_good (by omega)
theorem words_first {m : Int} {p : ByteArray} (hp : pathB p = true) : splitBs (Tx (reqFirst m p)) ⟨#[32]⟩ = [methodT m, p, Tx httpB] := by
  have e : Tx (reqFirst m p) = methodT m ++ ((⟨#[32]⟩ : ByteArray) ++ (p ++ ((⟨#[32]⟩ : ByteArray) ++ Tx httpB))) := by
    apply B_ext
    simp only [B_append, B_Tx]
    rfl
  have h1 : (32 : UInt8) ∉ B (methodT m) := fun hc => absurd (method_bytes m _ hc) (by decide)
  have h2 : (32 : UInt8) ∉ B p := fun hc => absurd ((path_bytes hp).1 _ hc).1 (by decide)
  rw [e, splitBs_app (c := 32) (r := []) rfl h1, splitBs_app (c := 32) (r := []) rfl h2, splitBs_free (c := 32) (r := []) rfl (by rw [B_Tx]; decide)]
/-! ### a line of a field -/
def fline (a b : List UInt8) : ByteArray := Tx (a ++ (58 :: 32 :: b))
theorem fline_B {t : ByteArray} {a b : List UInt8} (h : t = fline a b) : B t = a ++ (58 :: 32 :: b) := by rw [h]; exact B_Tx _
theorem fline_size {t : ByteArray} {a b : List UInt8} (h : t = fline a b) : t.size = a.length + 2 + b.length := by
  rw [← B_len, fline_B h, List.length_append, List.length_cons, List.length_cons]; omega
theorem fline_in {t : ByteArray} {a b : List UInt8} (h : t = fline a b) {j : Nat} (hj : j < a.length) (hl : j < (B t).length) : (B t)[j] ∈ a := by
  have e := fline_B h
  simp only [e]
  rw [List.getElem_append_left hj]; exact List.getElem_mem _
theorem fline_58 {t : ByteArray} {a b : List UInt8} (h : t = fline a b) (h1 : a.length < (B t).length) (h2 : a.length + 1 < (B t).length) : (B t)[a.length] = 58 ∧ (B t)[a.length + 1] = 32 := by
  have e := fline_B h
  simp only [e]
  refine ⟨?_, ?_⟩
  · rw [List.getElem_append_right (Nat.le_refl _)]; simp
  · rw [List.getElem_append_right (by omega)]; simp
theorem fline_name {t : ByteArray} {a b : List UInt8} (h : t = fline a b) : t.extract 0 a.length = Tx a := by
  apply B_ext
  rw [B_extract, fline_B h, B_Tx, List.drop_zero, List.take_left]
theorem fline_value {t : ByteArray} {a b : List UInt8} (h : t = fline a b) : t.extract (a.length + 2) t.size = Tx b := by
  apply B_ext
  rw [B_extract, List.take_of_length_le (by rw [B_len]; omega), fline_B h, B_Tx, List.drop_append, List.drop_eq_nil_of_le (by omega), List.nil_append, Nat.add_sub_cancel_left]; rfl
theorem lenN58 : (58 : UInt8) ∉ lenN := by decide
theorem size_zero {s : ByteArray} (h : s.toList = []) : s.size = 0 := by rw [← B_len, ← toList_B, h]; rfl
/-! ### the fields of lines -/
theorem spec_l3Fields_l1 (ls : List ByteArray) (hn : ls.length ≤ 2097152) (hb : ∀ x ∈ ls, x.size ≤ 2097152) (i : Nat) (hi : i < ls.length) (acc : List S81) (ha : acc.length ≤ i) : ∀ (d k j : Nat), ls[i].size - j = d → j ≤ ls[i].size → 2 * d + 3 < k →
    ∃ k' acc', spec_l3Fields.l1 k ls acc i j = spec_l3Fields.l0 k' ls acc' ((i + 1 : Nat) : Int) ∧ k ≤ k' + 2 * d + 3 ∧ (acc' = acc ∨ ∃ x, acc' = acc ++ [x] ∧ x.f0.size ≤ 2097152 ∧ x.f1.size ≤ 2097152) ∧ ∀ a b, ls[i] = fline a b → (58 : UInt8) ∉ a → j ≤ a.length → acc' = if a = lenN then acc else acc ++ [⟨Tx a, Tx b⟩] := by
  have hts := hb _ (List.getElem_mem hi)
  have hiz : i ≤ 2097152 := by omega
  obtain ⟨t, ht⟩ : ∃ t, t = ls[i] := ⟨_, rfl⟩
  rw [← ht] at hts ⊢
  have hrd : rdOf ByteArray.empty ls (i : Int) = t := by rw [ht]; exact rd_B ls i hi
  intro d
  induction d with
  | zero =>
    intro k j hd hj hk
    obtain ⟨k, rfl⟩ := succ_of (show 0 < k by omega)
    simp only [spec_l3Fields.l1]
    rw [if_pos (by omega), if_pos (by omega), hrd, w64 (by omega), if_neg (by omega), w64_n1 hiz]
    refine ⟨k, acc, rfl, by omega, .inl rfl, fun a b h1 h2 h3 => ?_⟩
    have := fline_size h1
    omega
  | succ d ih =>
    intro k j hd hj hk
    obtain ⟨k, rfl⟩ := succ_of (show 1 < k by omega)
    obtain ⟨k, rfl⟩ := succ_of (show 0 < k by omega)
    have hl : j < (B t).length := by rw [B_len]; omega
    have hjz : j ≤ 2097152 := Nat.le_trans hj hts
    simp only [spec_l3Fields.l1]
    rw [if_pos (by omega), if_pos (by omega), hrd, w64_n1 hjz]
    by_cases h2 : j + 1 < t.size
    · have hl2 : j + 1 < (B t).length := by rw [B_len]; omega
      have go : (¬ ((B t)[j] = 58 ∧ (B t)[j + 1] = 32)) → ∃ k' acc', spec_l3Fields.l1 k ls acc i ((j + 1 : Nat) : Int) = spec_l3Fields.l0 k' ls acc' ((i + 1 : Nat) : Int) ∧ k + 1 + 1 ≤ k' + 2 * (d + 1) + 3 ∧ (acc' = acc ∨ ∃ x, acc' = acc ++ [x] ∧ x.f0.size ≤ 2097152 ∧ x.f1.size ≤ 2097152) ∧ ∀ a b, t = fline a b → (58 : UInt8) ∉ a → j ≤ a.length → acc' = if a = lenN then acc else acc ++ [⟨Tx a, Tx b⟩] := by
        intro hno
        obtain ⟨k', acc', e, g1, g2, g3⟩ := ih k (j + 1) (by omega) (by omega) (by omega)
        refine ⟨k', acc', e, by omega, g2, fun a b q1 q2 q3 => g3 a b q1 q2 ?_⟩
        by_cases hq : j = a.length
        · exfalso; subst hq; exact hno (fline_58 q1 hl hl2)
        · omega
      rw [if_pos (by omega), if_pos (by omega), if_pos (by omega), bt_get t j hl]
      by_cases c : (B t)[j] = 58
      · rw [if_pos ((octv (d := 58) (n := 58) rfl).2 c), if_pos (by omega), bt_get t (j + 1) hl2]
        simp only [spec_l3Fields.j2]
        by_cases c2 : (B t)[j + 1] = 32
        · clear go ih
          rw [if_pos (beq_iff_eq.2 ((octv (d := 32) (n := 32) rfl).2 c2)), if_pos (by omega), if_pos (by omega), hrd, if_pos (by omega), if_pos (by omega), w64_n2 hjz, if_pos (by omega), if_pos (by omega), Int.toNat_natCast, Int.toNat_natCast, w64_n1 hiz]
          have hlen : ∀ a b, t = fline a b → (58 : UInt8) ∉ a → j ≤ a.length → j = a.length := fun a b q1 q2 q3 => by
            by_cases hq : j < a.length
            · exfalso; apply q2; rw [← c]; exact fline_in q1 hq hl
            · omega
          by_cases c3 : (t.extract 0 j).toList = ([99, 111, 110, 116, 101, 110, 116, 45, 108, 101, 110, 103, 116, 104] : List UInt8)
          · rw [if_pos c3]
            refine ⟨k, acc, rfl, by omega, .inl rfl, fun a b q1 q2 q3 => ?_⟩
            have := hlen a b q1 q2 q3
            subst this
            rw [fline_name q1, toList_B, B_Tx] at c3
            rw [if_pos (show a = lenN from c3)]
          · rw [if_neg c3, if_pos (by omega)]
            refine ⟨k, _, rfl, by omega, .inr ⟨_, rfl, by dsimp only; rw [ByteArray.size_extract]; omega, by dsimp only; rw [ByteArray.size_extract]; omega⟩, fun a b q1 q2 q3 => ?_⟩
            have := hlen a b q1 q2 q3
            subst this
            rw [fline_name q1, toList_B, B_Tx] at c3
            rw [if_neg (show ¬ a = lenN from c3), fline_name q1, fline_value q1]
        · rw [if_neg (fun h => c2 ((octv (d := 32) (n := 32) rfl).1 (beq_iff_eq.1 h))), w64_n1 hjz]
          exact go (fun h => c2 h.2)
      · rw [if_neg (fun h => c ((octv (d := 58) (n := 58) rfl).1 h))]
        simp only [spec_l3Fields.j2]
        rw [if_neg (by simp), w64_n1 hjz]
        exact go (fun h => c h.1)
    · rw [if_neg (by omega), w64_n1 hiz]
      refine ⟨k + 1, acc, rfl, by omega, .inl rfl, fun a b q1 q2 q3 => ?_⟩
      have := fline_size q1
      omega
theorem spec_l3Fields_l0 (ls : List ByteArray) (hn : ls.length ≤ 2097152) (hb : ∀ x ∈ ls, x.size ≤ 2097152) : ∀ (d k i : Nat) (acc : List S81), ls.length = i + d → acc.length ≤ i → (∀ x ∈ acc, x.f0.size ≤ 2097152 ∧ x.f1.size ≤ 2097152) → d * 4194322 + 4 < k →
    ∃ r, spec_l3Fields.l0 k ls acc i = some r ∧ r.length ≤ ls.length ∧ (∀ x ∈ r, x.f0.size ≤ 2097152 ∧ x.f1.size ≤ 2097152) ∧ ∀ (fs : List S81) (t : List ByteArray), ls.drop i = fs.map (fun x => Tx (fl x)) ++ t → (∀ x ∈ fs, (58 : UInt8) ∉ B x.f0 ∧ lenName x.f0 = false) → (t = [] ∨ ∃ v, t = [fline lenN v]) → r = acc ++ fs := by
  intro d
  induction d with
  | zero =>
    intro k i acc hd ha hx hk
    obtain ⟨k, rfl⟩ := succ_of (show 0 < k by omega)
    simp only [spec_l3Fields.l0]
    rw [if_neg (by omega)]
    refine ⟨acc, rfl, by omega, hx, fun fs t h1 _ _ => ?_⟩
    rw [List.drop_eq_nil_of_le (by omega)] at h1
    have := congrArg List.length h1
    rw [List.length_append, List.length_map] at this
    have h0 : fs = [] := List.eq_nil_of_length_eq_zero (by simp at this; omega)
    rw [h0, List.append_nil]
  | succ d ih =>
    intro k i acc hd ha hx hk
    obtain ⟨k, rfl⟩ := succ_of (show 0 < k by omega)
    have hi : i < ls.length := by omega
    have hts := hb _ (List.getElem_mem hi)
    obtain ⟨k', acc', e, g1, g2, g3⟩ := spec_l3Fields_l1 ls hn hb i hi acc ha ls[i].size k 0 (by omega) (by omega) (by omega)
    have e' : spec_l3Fields.l1 k ls acc i 0 = spec_l3Fields.l0 k' ls acc' ((i + 1 : Nat) : Int) := e
    have hal : acc'.length ≤ i + 1 := by
      rcases g2 with g2 | ⟨x, g2, _⟩
      · rw [g2]; omega
      · rw [g2, List.length_append, List.length_singleton]; omega
    have hk2 : d * 4194322 + 4 < k' := by
      rw [Nat.succ_mul] at hk
      generalize d * 4194322 = D at hk ⊢
      omega
    have hax : ∀ x ∈ acc', x.f0.size ≤ 2097152 ∧ x.f1.size ≤ 2097152 := by
      rcases g2 with g2 | ⟨y, g2, gy⟩ <;> rw [g2]
      · exact hx
      · intro x hx'
        rcases List.mem_append.1 hx' with hx' | hx'
        · exact hx x hx'
        · rw [List.mem_singleton.1 hx']; exact gy
    obtain ⟨r, er, r1, r2, r3⟩ := ih k' (i + 1) acc' (by omega) hal hax hk2
    simp only [spec_l3Fields.l0]
    rw [if_pos (by omega), e', er]
    refine ⟨r, rfl, r1, r2, fun fs t h1 h2 h3 => ?_⟩
    rw [drop_at hi] at h1
    cases fs with
    | nil =>
      rw [List.map_nil, List.nil_append] at h1
      rcases h3 with h3 | ⟨v, h3⟩
      · rw [h3] at h1; cases h1
      · rw [h3] at h1
        injection h1 with h4 h5
        have q := g3 lenN v h4 lenN58 (Nat.zero_le _)
        rw [if_pos rfl] at q
        rw [r3 [] [] (by rw [h5]; rfl) (fun x hx' => by cases hx') (.inl rfl), q]
    | cons x fs =>
      rw [List.map_cons, List.cons_append] at h1
      injection h1 with h4 h5
      have hxx := h2 x (by simp)
      have q := g3 (B x.f0) (B x.f1) h4 hxx.1 (Nat.zero_le _)
      rw [if_neg (by have := hxx.2; rw [lenName_B] at this; exact of_decide_eq_false this), Tx_B, Tx_B] at q
      rw [r3 fs t h5 (fun y hy => h2 y (by simp [hy])) h3, q, List.append_assoc]; rfl
theorem spec_l3Fields_f {k : Nat} {ls : List ByteArray} (hn : ls.length ≤ 2097152) (hb : ∀ x ∈ ls, x.size ≤ 2097152) (hk : 8796130770954 < k) : ∃ r, spec_l3Fields.f k ls = some r ∧ r.length ≤ ls.length ∧ (∀ x ∈ r, x.f0.size ≤ 2097152 ∧ x.f1.size ≤ 2097152) ∧ ∀ (fs : List S81) (t : List ByteArray), ls = fs.map (fun x => Tx (fl x)) ++ t → (∀ x ∈ fs, (58 : UInt8) ∉ B x.f0 ∧ lenName x.f0 = false) → (t = [] ∨ ∃ v, t = [fline lenN v]) → r = fs := by
  obtain ⟨r, e, r1, r2, r3⟩ := spec_l3Fields_l0 ls hn hb ls.length k 0 [] (by omega) (by simp) (fun x hx => by cases hx) (by omega)
  refine ⟨r, e, r1, r2, fun fs t h1 h2 h3 => ?_⟩
  have := r3 fs t h1 h2 h3
  rwa [List.nil_append] at this
/-! ### the parts of a message -/
theorem cut_len (s sep : List UInt8) : (Lib.cut s sep).1.length ≤ s.length ∧ (Lib.cut s sep).2.1.length ≤ s.length := by
  unfold Lib.cut
  split
  · simp only [List.length_take, List.length_drop]; omega
  · simp
theorem strings_Cut_f {s sep : ByteArray} (hs : s.size ≤ 2097152) : strings_Cut.f s sep = some (Tx (Lib.cut (B s) (B sep)).1, Tx (Lib.cut (B s) (B sep)).2.1, (Lib.cut (B s) (B sep)).2.2) := by
  unfold strings_Cut.f
  rw [if_pos (by omega)]; rfl
theorem splitBs_pos (s sep : ByteArray) : 0 < (splitBs s sep).length := by
  unfold splitBs
  cases Lib.countB s sep with
  | zero => simp [Lib.splitB]
  | succ c =>
    unfold Lib.splitB
    split <;> simp
theorem impl_parts_l0 (body : ByteArray) (lines rest : List ByteArray) (h0 : 0 < lines.length) (hnl : lines.length ≤ 10) (hrl : rest.length + 1 = lines.length) (hb : ∀ x ∈ rest, x.size ≤ 2097152) : ∀ (d k i : Nat) (acc : List S81), rest.length = i + d → acc.length ≤ i → (∀ x ∈ acc, x.f0.size ≤ 2097152 ∧ x.f1.size ≤ 2097152) → d < k →
    ∃ f0 r bd ok, impl_parts.l0 k body lines acc rest (rest.length : Int) i = some (f0, r, bd, ok) ∧ ((f0, r, bd, ok) = (⟨#[]⟩, [], ⟨#[]⟩, false) ∨ f0 = lines[0] ∧ bd = body ∧ r.length ≤ 10 ∧ ∀ x ∈ r, x.f0.size ≤ 2097152 ∧ x.f1.size ≤ 2097152) ∧ ∀ (fs : List S81) (t : List ByteArray), rest.drop i = fs.map (fun x => Tx (fl x)) ++ t → (∀ x ∈ fs, (58 : UInt8) ∉ B x.f0 ∧ lenName x.f0 = false) → (t = [] ∨ ∃ v, t = [fline lenN v]) → (f0, r, bd, ok) = (lines[0], acc ++ fs, body, true) := by
  have hr0 : rdOf ByteArray.empty lines 0 = lines[0] := rd_B lines 0 h0
  intro d
  induction d with
  | zero =>
    intro k i acc hd ha hx hk
    obtain ⟨k, rfl⟩ := succ_of (show 0 < k by omega)
    simp only [impl_parts.l0]
    rw [if_neg (by omega), if_pos (by omega), hr0]
    refine ⟨_, _, _, _, rfl, .inr ⟨rfl, rfl, by omega, hx⟩, fun fs t h1 _ _ => ?_⟩
    rw [List.drop_eq_nil_of_le (by omega)] at h1
    have := congrArg List.length h1
    rw [List.length_append, List.length_map] at this
    have h0 : fs = [] := List.eq_nil_of_length_eq_zero (by simp at this; omega)
    rw [h0, List.append_nil]
  | succ d ih =>
    intro k i acc hd ha hx hk
    obtain ⟨k, rfl⟩ := succ_of (show 0 < k by omega)
    have hi : i < rest.length := by omega
    have hts := hb _ (List.getElem_mem hi)
    have hc := cut_len (B rest[i]) [58, 32]
    rw [B_len] at hc
    simp only [impl_parts.l0]
    rw [if_pos (by omega), if_pos (by omega), if_pos (by omega), rd_B rest i hi, strings_Cut_f hts, Option.bind_some, nat_round (n := rest.length) hi (by omega), w64 (n := (lines.length : Int) - 2) (by omega)]
    dsimp only
    rw [show B (⟨#[58, 32]⟩ : ByteArray) = [58, 32] from rfl]
    have push : ∀ x : S81, x.f0.size ≤ 2097152 → x.f1.size ≤ 2097152 → ∃ f0 r bd ok, impl_parts.l0 k body lines (acc ++ [x]) rest (rest.length : Int) ((i + 1 : Nat) : Int) = some (f0, r, bd, ok) ∧ ((f0, r, bd, ok) = (⟨#[]⟩, [], ⟨#[]⟩, false) ∨ f0 = lines[0] ∧ bd = body ∧ r.length ≤ 10 ∧ ∀ x ∈ r, x.f0.size ≤ 2097152 ∧ x.f1.size ≤ 2097152) ∧ ∀ (fs : List S81) (t : List ByteArray), rest.drop (i + 1) = fs.map (fun x => Tx (fl x)) ++ t → (∀ x ∈ fs, (58 : UInt8) ∉ B x.f0 ∧ lenName x.f0 = false) → (t = [] ∨ ∃ v, t = [fline lenN v]) → (f0, r, bd, ok) = (lines[0], (acc ++ [x]) ++ fs, body, true) := fun x hx0 hx1 =>
      ih k (i + 1) (acc ++ [x]) (by omega) (by simp; omega) (fun y hy => by
        rcases List.mem_append.1 hy with hy | hy
        · exact hx y hy
        · rw [List.mem_singleton.1 hy]; exact ⟨hx0, hx1⟩) (by omega)
    have hcut : ∀ a b, rest[i] = fline a b → (58 : UInt8) ∉ a → Lib.cut (B rest[i]) [58, 32] = (a, b, true) := fun a b q1 q2 => by rw [fline_B q1]; exact cut_fl q2
    by_cases c : (Lib.cut (B rest[i]) [58, 32]).2.2 = true
    · rw [if_pos c]
      have pp := push ⟨Tx (Lib.cut (B rest[i]) [58, 32]).1, Tx (Lib.cut (B rest[i]) [58, 32]).2.1⟩ (by rw [Tx_size]; omega) (by rw [Tx_size]; omega)
      have fin : (¬ ((i : Int) = (lines.length : Int) - 2 ∧ (Tx (Lib.cut (B rest[i]) [58, 32]).1).toList = ([99, 111, 110, 116, 101, 110, 116, 45, 108, 101, 110, 103, 116, 104] : List UInt8))) → ∃ f0 r bd ok, impl_parts.l0 k body lines (acc ++ [⟨Tx (Lib.cut (B rest[i]) [58, 32]).1, Tx (Lib.cut (B rest[i]) [58, 32]).2.1⟩]) rest (rest.length : Int) ((i + 1 : Nat) : Int) = some (f0, r, bd, ok) ∧ ((f0, r, bd, ok) = (⟨#[]⟩, [], ⟨#[]⟩, false) ∨ f0 = lines[0] ∧ bd = body ∧ r.length ≤ 10 ∧ ∀ x ∈ r, x.f0.size ≤ 2097152 ∧ x.f1.size ≤ 2097152) ∧ ∀ (fs : List S81) (t : List ByteArray), rest.drop i = fs.map (fun x => Tx (fl x)) ++ t → (∀ x ∈ fs, (58 : UInt8) ∉ B x.f0 ∧ lenName x.f0 = false) → (t = [] ∨ ∃ v, t = [fline lenN v]) → (f0, r, bd, ok) = (lines[0], acc ++ fs, body, true) := by
        intro hno
        obtain ⟨f0, r, bd, ok, e, g1, g2⟩ := pp
        refine ⟨f0, r, bd, ok, e, g1, fun fs t h1 h2 h3 => ?_⟩
        rw [drop_at hi] at h1
        cases fs with
        | nil =>
          exfalso
          rw [List.map_nil, List.nil_append] at h1
          rcases h3 with h3 | ⟨v, h3⟩
          · rw [h3] at h1; cases h1
          · rw [h3] at h1
            injection h1 with h4 h5
            have hl5 := congrArg List.length h5
            rw [List.length_drop, List.length_nil] at hl5
            refine hno ⟨by omega, ?_⟩
            rw [hcut lenN v h4 lenN58, toList_B, B_Tx]; rfl
        | cons x fs =>
          rw [List.map_cons, List.cons_append] at h1
          injection h1 with h4 h5
          have hxx := h2 x (by simp)
          have q := hcut (B x.f0) (B x.f1) h4 hxx.1
          rw [g2 fs t h5 (fun y hy => h2 y (by simp [hy])) h3, q, Tx_B, Tx_B, List.append_assoc]; rfl
      by_cases c2 : (i : Int) = (lines.length : Int) - 2
      · rw [if_pos c2]
        by_cases c3 : (Tx (Lib.cut (B rest[i]) [58, 32]).1).toList = ([99, 111, 110, 116, 101, 110, 116, 45, 108, 101, 110, 103, 116, 104] : List UInt8)
        · rw [if_pos c3, if_pos (by omega), hr0]
          refine ⟨_, _, _, _, rfl, .inr ⟨rfl, rfl, by omega, hx⟩, fun fs t h1 h2 h3 => ?_⟩
          rw [drop_at hi] at h1
          cases fs with
          | nil => rw [List.append_nil]
          | cons x fs =>
            exfalso
            rw [List.map_cons, List.cons_append] at h1
            injection h1 with h4 h5
            have hxx := h2 x (by simp)
            have q := hcut (B x.f0) (B x.f1) h4 hxx.1
            rw [q, Tx_B, toList_B] at c3
            have := hxx.2
            rw [lenName_B] at this
            exact of_decide_eq_false this c3
        · rw [if_neg c3, if_pos (by omega)]
          exact fin (fun h => c3 h.2)
      · rw [if_neg c2, if_pos (by omega)]
        exact fin (fun h => c2 h.1)
    · rw [if_neg c]
      refine ⟨_, _, _, _, rfl, .inl rfl, fun fs t h1 h2 h3 => ?_⟩
      exfalso
      rw [drop_at hi] at h1
      cases fs with
      | nil =>
        rw [List.map_nil, List.nil_append] at h1
        rcases h3 with h3 | ⟨v, h3⟩
        · rw [h3] at h1; cases h1
        · rw [h3] at h1
          injection h1 with h4 h5
          rw [hcut lenN v h4 lenN58] at c; exact c rfl
      | cons x fs =>
        rw [List.map_cons, List.cons_append] at h1
        injection h1 with h4 h5
        rw [hcut (B x.f0) (B x.f1) h4 (h2 x (by simp)).1] at c; exact c rfl
theorem impl_parts_f {k : Nat} {s : ByteArray} (hs : s.size ≤ 2097152) (hk : 20 < k) : ∃ f0 r bd ok, impl_parts.f k s = some (f0, r, bd, ok) ∧ f0.size ≤ 2097152 ∧ bd.size ≤ 2097152 ∧ r.length ≤ 10 ∧ (∀ x ∈ r, x.f0.size ≤ 2097152 ∧ x.f1.size ≤ 2097152) ∧
    ∀ (x0 : List UInt8) (fs : List S81) (lt : List (List UInt8)) (body : List UInt8), GoodL (x0 :: (fs.map fl ++ lt)) → B s = lineT (x0 :: (fs.map fl ++ lt)) ++ (13 :: 10 :: body) → fs.length ≤ 8 → (∀ x ∈ fs, (58 : UInt8) ∉ B x.f0 ∧ lenName x.f0 = false) → (lt = [] ∨ ∃ v, lt = [lenN ++ (58 :: 32 :: v)]) → (f0, r, bd, ok) = (Tx x0, fs, Tx body, true) := by
  have hc := cut_len (B s) [13, 10, 13, 10]
  rw [B_len] at hc
  have hhs : (Tx (Lib.cut (B s) [13, 10, 13, 10]).1).size ≤ 2097152 := by rw [Tx_size]; omega
  obtain ⟨hd, hhd⟩ : ∃ hd, hd = Tx (Lib.cut (B s) [13, 10, 13, 10]).1 := ⟨_, rfl⟩
  have hpos := splitBs_pos hd ⟨#[13, 10]⟩
  have hsm := splitBs_small hd.size hd ⟨#[13, 10]⟩ (Nat.le_refl _) (by show 1 ≤ 2; omega)
  have hln := splitBs_len hd ⟨#[13, 10]⟩ (by show 1 ≤ 2; omega)
  have comp : ∀ (x0 : List UInt8) (fs : List S81) (lt : List (List UInt8)) (body : List UInt8), GoodL (x0 :: (fs.map fl ++ lt)) → B s = lineT (x0 :: (fs.map fl ++ lt)) ++ (13 :: 10 :: body) → Lib.cut (B s) [13, 10, 13, 10] = (joinT (x0 :: (fs.map fl ++ lt)), body, true) ∧ splitBs hd ⟨#[13, 10]⟩ = (x0 :: (fs.map fl ++ lt)).map Tx := fun x0 fs lt body hg hB => by
    have e := cut_head body (l := x0 :: (fs.map fl ++ lt)) (by simp) hg
    rw [← hB] at e
    refine ⟨e, ?_⟩
    rw [hhd, e]
    exact split_join (by simp) hg
  unfold impl_parts.f
  rw [strings_Cut_f hs, Option.bind_some]
  dsimp only
  rw [show B (⟨#[13, 10, 13, 10]⟩ : ByteArray) = [13, 10, 13, 10] from rfl, ← hhd]
  unfold strings_Split.f
  rw [if_pos ⟨by rw [hhd]; omega, by show 1 ≤ 2; omega⟩, Option.bind_some]
  obtain ⟨k, rfl⟩ := succ_of (show 0 < k by omega)
  have rej : ∀ (p : Prop), ∃ f0 r bd ok, (some ((⟨#[]⟩ : ByteArray), ([] : List S81), (⟨#[]⟩ : ByteArray), false)) = some (f0, r, bd, ok) ∧ f0.size ≤ 2097152 ∧ bd.size ≤ 2097152 ∧ r.length ≤ 10 ∧ (∀ x ∈ r, x.f0.size ≤ 2097152 ∧ x.f1.size ≤ 2097152) := fun _ => ⟨_, _, _, _, rfl, Nat.zero_le _, Nat.zero_le _, Nat.zero_le _, fun x hx => by cases hx⟩
  by_cases c : (Lib.cut (B s) [13, 10, 13, 10]).2.2 = true
  · rw [if_pos c]
    simp only [impl_parts.j0]
    by_cases c2 : (splitBs hd ⟨#[13, 10]⟩).length > 10
    · rw [if_pos (decide_eq_true (by omega))]
      refine ⟨_, _, _, _, rfl, Nat.zero_le _, Nat.zero_le _, Nat.zero_le _, fun x hx => (by cases hx), fun x0 fs lt body hg hB hf _ hlt => ?_⟩
      exfalso
      rw [(comp x0 fs lt body hg hB).2, List.length_map, List.length_cons, List.length_append, List.length_map] at c2
      rcases hlt with h | ⟨v, h⟩ <;> rw [h] at c2 <;> simp at c2 <;> omega
    · rw [if_neg (by rw [decide_eq_false (by omega)]; simp), if_pos (by omega), Option.bind_some]
      obtain ⟨f0, r, bd, ok, e, g1, g2⟩ := impl_parts_l0 (Tx (Lib.cut (B s) [13, 10, 13, 10]).2.1) (splitBs hd ⟨#[13, 10]⟩) ((splitBs hd ⟨#[13, 10]⟩).drop 1) hpos (by omega) (by rw [List.length_drop]; omega) (fun x hx => by have := hsm x (List.mem_of_mem_drop hx); rw [hhd] at this; omega) ((splitBs hd ⟨#[13, 10]⟩).drop 1).length k 0 [] (by omega) (by simp) (fun x hx => by cases hx) (by rw [List.length_drop]; omega)
      have e' : impl_parts.l0 k (Tx (Lib.cut (B s) [13, 10, 13, 10]).2.1) (splitBs hd ⟨#[13, 10]⟩) [] ((splitBs hd ⟨#[13, 10]⟩).drop 1) (((splitBs hd ⟨#[13, 10]⟩).drop 1).length : Int) 0 = some (f0, r, bd, ok) := e
      refine ⟨f0, r, bd, ok, e', ?_⟩
      have hb : f0.size ≤ 2097152 ∧ bd.size ≤ 2097152 ∧ r.length ≤ 10 ∧ ∀ x ∈ r, x.f0.size ≤ 2097152 ∧ x.f1.size ≤ 2097152 := by
        rcases g1 with g1 | ⟨g1, g2, g3, g4⟩
        · injection g1 with a1 a2
          injection a2 with a2 a3
          injection a3 with a3 a4
          rw [a1, a2, a3]
          exact ⟨Nat.zero_le _, Nat.zero_le _, Nat.zero_le _, fun x hx => by cases hx⟩
        · refine ⟨?_, ?_, g3, g4⟩
          · rw [g1]; exact Nat.le_trans (hsm _ (List.getElem_mem hpos)) (by rw [hhd]; exact hhs)
          · rw [g2, Tx_size]; omega
      refine ⟨hb.1, hb.2.1, hb.2.2.1, hb.2.2.2, fun x0 fs lt body hg hB hf hfs hlt => ?_⟩
      obtain ⟨q1, q2⟩ := comp x0 fs lt body hg hB
      have h0 : (splitBs hd ⟨#[13, 10]⟩)[0] = Tx x0 := by simp only [q2]; rfl
      have h1 : ((splitBs hd ⟨#[13, 10]⟩).drop 1).drop 0 = fs.map (fun x => Tx (fl x)) ++ lt.map Tx := by
        rw [q2, List.drop_zero, List.map_cons, List.drop_succ_cons, List.drop_zero, List.map_append, List.map_map]; rfl
      have := g2 fs (lt.map Tx) h1 hfs (by
        rcases hlt with h | ⟨v, h⟩
        · left; rw [h]; rfl
        · right; exact ⟨v, by rw [h]; rfl⟩)
      rw [this, h0, q1, List.nil_append]
  · rw [if_neg c]
    simp only [impl_parts.j0]
    rw [if_pos trivial]
    refine ⟨_, _, _, _, rfl, Nat.zero_le _, Nat.zero_le _, Nat.zero_le _, fun x hx => (by cases hx), fun x0 fs lt body hg hB hf _ hlt => ?_⟩
    exfalso
    rw [(comp x0 fs lt body hg hB).1] at c
    exact c rfl
theorem okF_names {l : List S81} (h : fieldsB l = true) : ∀ x ∈ l, (58 : UInt8) ∉ B x.f0 ∧ lenName x.f0 = false := fun x hx => by
  obtain ⟨_, g⟩ := okFs_facts l l 0 h
  exact ⟨tok_free (g x hx).1 (by decide), (g x hx).2.2⟩
theorem lenLines_or (b : ByteArray) : lenLines b = [] ∨ ∃ v, lenLines b = [lenN ++ (58 :: 32 :: v)] := by
  unfold lenLines
  split
  · exact .inl rfl
  · exact .inr ⟨_, rfl⟩
/-! ### ReqRead -/
theorem reqB_of {m : Int} {p : ByteArray} {l : List S81} {b s : ByteArray} (h : reqText m p l b = s) (hz : 0 < s.size) : reqB m p l b = true := by
  unfold reqText at h
  by_cases c : reqB m p l b = true
  · exact c
  · rw [if_neg c] at h
    rw [← h] at hz
    exact absurd hz (by decide)
def rejQ : Int × ByteArray × List S81 × ByteArray × Bool := (0, ⟨#[]⟩, [], ⟨#[]⟩, false)
def finQ (s : ByteArray) (m : Int) (p : ByteArray) (l : List S81) (b : ByteArray) : Int × ByteArray × List S81 × ByteArray × Bool := if reqText m p l b = s then (m, p, l, b, true) else rejQ
def mN (w : ByteArray) : Int := if (⟨#[80, 85, 82, 71, 69]⟩ : ByteArray) = w then ((4 : Nat) : Int) else if (⟨#[80, 79, 83, 84]⟩ : ByteArray) = w then ((3 : Nat) : Int) else if (⟨#[72, 69, 65, 68]⟩ : ByteArray) = w then ((2 : Nat) : Int) else if (⟨#[71, 69, 84]⟩ : ByteArray) = w then ((1 : Nat) : Int) else 0
theorem mN_T {m : Int} (h : 1 ≤ m ∧ m ≤ 4) : mN (methodT m) = m := by
  have hm : m = 1 ∨ m = 2 ∨ m = 3 ∨ m = 4 := by omega
  rcases hm with e | e | e | e <;> subst e <;> decide
/-- what a request's text is made of, when it is read -/
theorem req_lines {s : ByteArray} {m : Int} {p : ByteArray} {l : List S81} {b : ByteArray} (hq : reqB m p l b = true) (hr : reqText m p l b = s) : B s = lineT (reqLines m p l b) ++ (13 :: 10 :: B b) := by
  rw [← hr]; unfold reqText; rw [if_pos hq, B_Tx, reqBytes_lines]
def methodsL : List ByteArray := [⟨#[]⟩, ⟨#[71, 69, 84]⟩, ⟨#[72, 69, 65, 68]⟩, ⟨#[80, 79, 83, 84]⟩, ⟨#[80, 85, 82, 71, 69]⟩]
theorem spec_l3Methods_f : spec_l3Methods.f = some methodsL := rfl
theorem spec_RR_step {k : Nat} {s : ByteArray} {ws : List ByteArray} (hw : 0 < ws.length) (j : Nat) (hj : j < methodsL.length) (m : Int) (p : ByteArray) (l : List S81) (b : ByteArray) :
    spec_ReqRead.l0 (k + 1) s ws methodsL (j : Int) m p l b = spec_ReqRead.l0 k s ws methodsL ((j + 1 : Nat) : Int) (if methodsL[j] = ws[0] then (j : Int) else m) p l b := by
  have h0 : rdOf ByteArray.empty ws 0 = ws[0] := rd_B ws 0 hw
  have hl : methodsL.length = 5 := rfl
  simp only [spec_ReqRead.l0]
  rw [if_pos (by omega), if_pos (by omega), if_pos (by omega), rd_B methodsL j hj, h0, nat_round hj (by omega)]
  by_cases c : methodsL[j] = ws[0]
  · rw [if_pos ((toList_iff _ _).2 c), if_pos c]
  · rw [if_neg (fun h => c (toList_inj h)), if_neg c]
theorem spec_RR_l0 {k K : Nat} {s : ByteArray} {ws : List ByteArray} (hw : 0 < ws.length) {p : ByteArray} {l : List S81} {b : ByteArray} (hK : K < 4398046511104) (hp : p.size ≤ K) (hl : SmallF K l) (hk : 5 * K + 60 < k) :
    spec_ReqRead.l0 k s ws methodsL 1 0 p l b = some (finQ s (mN ws[0]) p l b) := by
  obtain ⟨k, rfl⟩ : ∃ j, k = j + 1 + 1 + 1 + 1 + 1 := ⟨k - 5, by omega⟩
  have e : spec_ReqRead.l0 (k + 1 + 1 + 1 + 1 + 1) s ws methodsL 1 0 p l b = spec_ReqRead.l0 (k + 1) s ws methodsL ((5 : Nat) : Int) (mN ws[0]) p l b :=
    (spec_RR_step hw 1 (by decide) 0 p l b).trans ((spec_RR_step hw 2 (by decide) _ p l b).trans ((spec_RR_step hw 3 (by decide) _ p l b).trans (spec_RR_step hw 4 (by decide) _ p l b)))
  rw [e]
  simp only [spec_ReqRead.l0]
  rw [if_neg (by decide), spec_ReqText_f hK hp hl (by omega), Option.bind_some]
  unfold finQ
  by_cases c : reqText (mN ws[0]) p l b = s
  · rw [if_pos ((toList_iff _ _).2 c), if_pos c]
  · rw [if_neg (fun h => c (toList_inj h)), if_neg c]; rfl
theorem spec_ReqRead_f {k : Nat} {s : ByteArray} (hs : s.size ≤ 2097152) (hk : 8796130771014 < k) : ∃ r, spec_ReqRead.f k s = some r ∧ (r = rejQ ∨ ∃ m p l b, r = (m, p, l, b, true) ∧ reqText m p l b = s ∧ 0 < s.size ∧ l.length ≤ 2097152) ∧ ∀ m p l b, reqB m p l b = true → reqText m p l b = s → r = (m, p, l, b, true) := by
  obtain ⟨ls, e, h1, h2, h3, h4, h5, h6⟩ := spec_l3Head_f (k := k) hs (by omega)
  have comp : ∀ m p l b, reqB m p l b = true → reqText m p l b = s → ls = (reqLines m p l b).map Tx ∧ e = (((lineT (reqLines m p l b)).length + 2 : Nat) : Int) := fun m p l b hq hr => h6 _ _ (reqLines_good hq) (req_lines hq hr)
  unfold spec_ReqRead.f
  rw [h1, Option.bind_some]
  dsimp only
  obtain ⟨k, rfl⟩ := succ_of (show 0 < k by omega)
  by_cases c : e < 0
  · rw [if_pos c]
    simp only [spec_ReqRead.j0]
    rw [if_pos trivial]
    exact ⟨_, rfl, .inl rfl, fun m p l b hq hr => by have := (comp m p l b hq hr).2; omega⟩
  · rw [if_neg c]
    simp only [spec_ReqRead.j0]
    obtain ⟨n, rfl⟩ : ∃ n : Nat, e = n := ⟨e.toNat, by omega⟩
    by_cases c2 : ls.length = 0
    · rw [if_pos (beq_iff_eq.2 (by omega))]
      refine ⟨_, rfl, .inl rfl, fun m p l b hq hr => ?_⟩
      rw [(comp m p l b hq hr).1] at c2
      simp [reqLines] at c2
    · have hpos : 0 < ls.length := by omega
      have h0 : rdOf ByteArray.empty ls 0 = ls[0] := rd_B ls 0 hpos
      have hz0 := h3 _ (List.getElem_mem hpos)
      rw [if_neg (fun h => c2 (by have := beq_iff_eq.1 h; omega)), if_pos (by omega), h0, spec_l3Words_f (by omega) (by omega), Option.bind_some]
      have hsm := splitBs_small (ls[0]).size ls[0] ⟨#[32]⟩ (Nat.le_refl _) (by show 1 ≤ 1; omega)
      have cw : ∀ m p l b, reqB m p l b = true → reqText m p l b = s → splitBs ls[0] ⟨#[32]⟩ = [methodT m, p, Tx httpB] := fun m p l b hq hr => by
        have q := (comp m p l b hq hr).1
        have q0 : ls[0] = Tx (reqFirst m p) := by simp only [q]; rfl
        rw [q0]; exact words_first (reqB_facts hq).2.1
      by_cases c3 : (splitBs ls[0] ⟨#[32]⟩).length = 3
      · have h1w : rdOf ByteArray.empty (splitBs ls[0] ⟨#[32]⟩) 1 = (splitBs ls[0] ⟨#[32]⟩)[1] := rd_B _ 1 (by omega)
        have hzp := hsm _ (List.getElem_mem (show 1 < (splitBs ls[0] ⟨#[32]⟩).length by omega))
        obtain ⟨fs, ef, f1, f2, f3⟩ := spec_l3Fields_f (k := k) (ls := ls.drop 1) (by rw [List.length_drop]; omega) (fun x hx => by have := h3 x (List.mem_of_mem_drop hx); omega) (by omega)
        rw [List.length_drop] at f1
        rw [if_pos (by omega), if_pos (by omega), if_pos (by omega), ef, Option.bind_some, if_pos (by omega), if_pos h4, spec_l3Methods_f, Option.bind_some, h1w, Int.toNat_natCast,
          spec_RR_l0 (K := 2097152) (by omega) (by omega) (by omega) ⟨by omega, f2⟩ (by omega)]
        refine ⟨_, rfl, ?_, fun m p l b hq hr => ?_⟩
        · unfold finQ
          by_cases c4 : reqText (mN (splitBs ls[0] ⟨#[32]⟩)[0]) (splitBs ls[0] ⟨#[32]⟩)[1] fs (s.extract n s.size) = s
          · rw [if_pos c4]; exact .inr ⟨_, _, _, _, rfl, c4, by omega, by omega⟩
          · rw [if_neg c4]; exact .inl rfl
        · obtain ⟨q1, q2⟩ := comp m p l b hq hr
          obtain ⟨g1, g2, g3, g4⟩ := reqB_facts hq
          have qw := cw m p l b hq hr
          have w0 : (splitBs ls[0] ⟨#[32]⟩)[0] = methodT m := by simp only [qw]; rfl
          have w1 : (splitBs ls[0] ⟨#[32]⟩)[1] = p := by simp only [qw]; rfl
          have qf : fs = l := f3 l ((lenLines b).map Tx) (by rw [q1]; unfold reqLines; rw [List.map_cons, List.drop_succ_cons, List.drop_zero, List.map_append, List.map_map]; rfl) (okF_names g4) (by
            rcases lenLines_or b with h | ⟨v, h⟩
            · left; rw [h]; rfl
            · right; exact ⟨v, by rw [h]; rfl⟩)
          have qb : s.extract n s.size = b := by
            apply B_ext
            have hn : n = (lineT (reqLines m p l b)).length + 2 := by omega
            rw [B_extract, List.take_of_length_le (by rw [B_len]; omega), req_lines hq hr, hn, List.drop_append, List.drop_eq_nil_of_le (by omega), List.nil_append, Nat.add_sub_cancel_left]; rfl
          rw [w0, w1, qf, qb, mN_T g1]
          unfold finQ
          rw [if_pos hr]
      · rw [if_neg (by omega)]
        refine ⟨_, rfl, .inl rfl, fun m p l b hq hr => ?_⟩
        rw [cw m p l b hq hr] at c3
        exact absurd rfl c3
theorem impl_RR_step {k : Nat} {s : ByteArray} {ws : List ByteArray} (hw : 0 < ws.length) (j : Nat) (hj : 1 ≤ j ∧ j ≤ 4) (m : Int) (p : ByteArray) (l : List S81) (b : ByteArray) :
    impl_ReqRead.l0 (k + 1) s ws (j : Int) m p l b = impl_ReqRead.l0 k s ws ((j + 1 : Nat) : Int) (if methodT (j : Int) = ws[0] then (j : Int) else m) p l b := by
  have h0 : rdOf ByteArray.empty ws 0 = ws[0] := rd_B ws 0 hw
  have hmt : impl_methodText.f (j : Int) = some (methodT (j : Int)) := by
    have hm : j = 1 ∨ j = 2 ∨ j = 3 ∨ j = 4 := by omega
    rcases hm with e | e | e | e <;> subst e <;> rfl
  simp only [impl_ReqRead.l0]
  rw [if_pos (by omega), hmt, Option.bind_some, if_pos (by omega), h0, nat_round (n := 5) (by omega) (by omega)]
  by_cases c : methodT (j : Int) = ws[0]
  · rw [if_pos ((toList_iff _ _).2 c), if_pos c]
  · rw [if_neg (fun h => c (toList_inj h)), if_neg c]
theorem impl_RR_l0 {k K : Nat} {s : ByteArray} {ws : List ByteArray} (hw : 0 < ws.length) {p : ByteArray} {l : List S81} {b : ByteArray} (hK : K < 4398046511104) (hp : p.size ≤ K) (hl : SmallF K l) (hk : 5 * K + 60 < k) :
    impl_ReqRead.l0 k s ws 1 0 p l b = some (if s.size = 0 then rejQ else finQ s (mN ws[0]) p l b) := by
  obtain ⟨k, rfl⟩ : ∃ j, k = j + 1 + 1 + 1 + 1 + 1 := ⟨k - 5, by omega⟩
  have e : impl_ReqRead.l0 (k + 1 + 1 + 1 + 1 + 1) s ws 1 0 p l b = impl_ReqRead.l0 (k + 1) s ws ((5 : Nat) : Int) (mN ws[0]) p l b :=
    (impl_RR_step hw 1 (by decide) 0 p l b).trans ((impl_RR_step hw 2 (by decide) _ p l b).trans ((impl_RR_step hw 3 (by decide) _ p l b).trans (impl_RR_step hw 4 (by decide) _ p l b)))
  rw [e]
  simp only [impl_ReqRead.l0]
  rw [if_neg (by decide)]
  by_cases c0 : s.toList = []
  · rw [if_pos c0, if_pos (size_zero c0)]; rfl
  · have hz : s.size ≠ 0 := fun h => c0 (by rw [toList_B]; exact List.eq_nil_of_length_eq_zero (by rw [B_len]; exact h))
    rw [if_neg c0, if_neg hz, impl_ReqText_f hK hp hl (by omega), Option.bind_some]
    unfold finQ
    by_cases c : reqText (mN ws[0]) p l b = s
    · rw [if_pos ((toList_iff _ _).2 c), if_pos c]
    · rw [if_neg (fun h => c (toList_inj h)), if_neg c]; rfl
theorem impl_ReqRead_f {k : Nat} {s : ByteArray} (hs : s.size ≤ 2097152) (hk : 10485880 < k) : ∃ r, impl_ReqRead.f k s = some r ∧ (r = rejQ ∨ ∃ m p l b, r = (m, p, l, b, true) ∧ reqText m p l b = s ∧ 0 < s.size ∧ l.length ≤ 2097152) ∧ ∀ m p l b, reqB m p l b = true → reqText m p l b = s → r = (m, p, l, b, true) := by
  obtain ⟨f0, r, bd, ok, e, h1, h2, h3, h4, h5⟩ := impl_parts_f (k := k) hs (by omega)
  have comp : ∀ m p l b, reqB m p l b = true → reqText m p l b = s → (f0, r, bd, ok) = (Tx (reqFirst m p), l, b, true) := fun m p l b hq hr => by
    obtain ⟨g1, g2, g3, g4⟩ := reqB_facts hq
    have := h5 (reqFirst m p) l (lenLines b) (B b) (reqLines_good hq) (req_lines hq hr) (fieldsB_lines g4).1 (okF_names g4) (lenLines_or b)
    rw [this, Tx_B]
  have hsm := splitBs_small f0.size f0 ⟨#[32]⟩ (Nat.le_refl _) (by show 1 ≤ 1; omega)
  unfold impl_ReqRead.f
  rw [e, Option.bind_some]
  dsimp only
  unfold strings_Split.f
  rw [if_pos ⟨by omega, by show 1 ≤ 1; omega⟩, Option.bind_some]
  obtain ⟨k, rfl⟩ := succ_of (show 0 < k by omega)
  cases ok with
  | false =>
    rw [if_neg (by simp)]
    simp only [impl_ReqRead.j0]
    rw [if_pos trivial]
    exact ⟨_, rfl, .inl rfl, fun m p l b hq hr => by have := comp m p l b hq hr; cases this⟩
  | true =>
    rw [if_pos rfl]
    simp only [impl_ReqRead.j0]
    have cw : ∀ m p l b, reqB m p l b = true → reqText m p l b = s → splitBs f0 ⟨#[32]⟩ = [methodT m, p, Tx httpB] ∧ r = l ∧ bd = b := fun m p l b hq hr => by
      have q := comp m p l b hq hr
      injection q with q1 q2
      injection q2 with q2 q3
      injection q3 with q3 q4
      exact ⟨by rw [q1]; exact words_first (reqB_facts hq).2.1, q2, q3⟩
    by_cases c3 : (splitBs f0 ⟨#[32]⟩).length = 3
    · have h1w : rdOf ByteArray.empty (splitBs f0 ⟨#[32]⟩) 1 = (splitBs f0 ⟨#[32]⟩)[1] := rd_B _ 1 (by omega)
      have hzp := hsm _ (List.getElem_mem (show 1 < (splitBs f0 ⟨#[32]⟩).length by omega))
      rw [if_neg (by simp [c3]), if_pos (by omega), h1w, impl_RR_l0 (K := 2097152) (by omega) (by omega) (by omega) ⟨by omega, h4⟩ (by omega)]
      refine ⟨_, rfl, ?_, fun m p l b hq hr => ?_⟩
      · by_cases cz : s.size = 0
        · rw [if_pos cz]; exact .inl rfl
        · rw [if_neg cz]
          unfold finQ
          by_cases c4 : reqText (mN (splitBs f0 ⟨#[32]⟩)[0]) (splitBs f0 ⟨#[32]⟩)[1] r bd = s
          · rw [if_pos c4]; exact .inr ⟨_, _, _, _, rfl, c4, by omega, by omega⟩
          · rw [if_neg c4]; exact .inl rfl
      · obtain ⟨g1, g2, g3, g4⟩ := reqB_facts hq
        obtain ⟨qw, q2, q3⟩ := cw m p l b hq hr
        have w0 : (splitBs f0 ⟨#[32]⟩)[0] = methodT m := by simp only [qw]; rfl
        have w1 : (splitBs f0 ⟨#[32]⟩)[1] = p := by simp only [qw]; rfl
        have hz : s.size ≠ 0 := by
          rw [← B_len, req_lines hq hr, List.length_append, List.length_cons]; omega
        rw [w0, w1, q2, q3, mN_T g1, if_neg hz]
        unfold finQ
        rw [if_pos hr]
    · rw [if_pos (by simpa using fun h => c3 (by omega))]
      refine ⟨_, rfl, .inl rfl, fun m p l b hq hr => ?_⟩
      rw [(cw m p l b hq hr).1] at c3
      exact absurd rfl c3
/-- Both read the same. -/
theorem ReqRead_same {k1 k2 : Nat} {s : ByteArray} (hs : s.size ≤ 2097152) (h1 : 8796130771014 < k1) (h2 : 10485880 < k2) : ∃ r, spec_ReqRead.f k1 s = some r ∧ impl_ReqRead.f k2 s = some r ∧ (r = rejQ ∨ ∃ m p l b, r = (m, p, l, b, true) ∧ reqText m p l b = s ∧ 0 < s.size ∧ l.length ≤ 2097152) ∧ ∀ m p l b, reqB m p l b = true → reqText m p l b = s → r = (m, p, l, b, true) := by
  obtain ⟨r, e, a1, a2⟩ := spec_ReqRead_f hs h1
  obtain ⟨r', e', b1, b2⟩ := impl_ReqRead_f hs h2
  have heq : r' = r := by
    rcases b1 with b1 | ⟨m, p, l, b, b1, hr, hz, _⟩
    · rcases a1 with a1 | ⟨m, p, l, b, a1, hr, hz, _⟩
      · rw [a1, b1]
      · rw [a1]; exact b2 m p l b (reqB_of hr hz) hr
    · rw [b1]; exact (a2 m p l b (reqB_of hr hz) hr).symm
  exact ⟨r, e, by rw [← heq]; exact e', a1, a2⟩
theorem fieldsB_SmallF {l : List S81} (h : fieldsB l = true) : SmallF 100 l := by
  obtain ⟨_, h2⟩ := okFs_facts l l 0 h
  have h1 := (fieldsB_lines h).1
  exact ⟨by omega, fun x hx => ⟨by have := (tok_size (h2 x hx).1).2; omega, by have := (val_size (h2 x hx).2.1).2; omega⟩⟩
/-! ### lines between ends, in plain words -/
def linesL : List UInt8 → List (List UInt8)
  | [] => [[]]
  | [c] => [[c]]
  | c :: d :: r => if c = 13 ∧ d = 10 then [] :: linesL r else match linesL (d :: r) with | [] => [[c]] | x :: t => (c :: x) :: t
theorem linesL_ne : ∀ l, linesL l ≠ []
  | [] => by simp [linesL]
  | [c] => by simp [linesL]
  | c :: d :: r => by
    rw [linesL]
    split
    · simp
    · split <;> simp
theorem occ2_zero (c d : UInt8) (r : List UInt8) : Lib.occAt (c :: d :: r) [13, 10] 0 = decide (c = 13 ∧ d = 10) := by
  unfold Lib.occAt
  simp only [List.drop_zero, List.isPrefixOf, Bool.and_true]
  by_cases h : c = 13
  · subst h
    by_cases h2 : d = 10
    · subst h2; rfl
    · have : ((10 : UInt8) == d) = false := beq_eq_false_iff_ne.2 fun e => h2 e.symm
      simp [this, h2]
  · have : ((13 : UInt8) == c) = false := beq_eq_false_iff_ne.2 fun e => h e.symm
    simp [this, h]
theorem occ_succ (c : UInt8) (l sub : List UInt8) (j : Nat) : Lib.occAt (c :: l) sub (j + 1) = Lib.occAt l sub j := rfl
theorem linesL_none : ∀ {l : List UInt8}, (∀ j, j ≤ l.length → Lib.occAt l [13, 10] j = false) → linesL l = [l]
  | [], _ => rfl
  | [c], _ => rfl
  | c :: d :: r, h => by
    have h0 := h 0 (Nat.zero_le _)
    rw [occ2_zero] at h0
    have h1 := linesL_none (l := d :: r) fun j hj => by
      have := h (j + 1) (by simp at hj ⊢; omega)
      rwa [occ_succ] at this
    rw [linesL, if_neg (by simpa using h0), h1]
theorem linesL_at : ∀ (i : Nat) {l : List UInt8}, Lib.occAt l [13, 10] i = true → (∀ j, j < i → Lib.occAt l [13, 10] j = false) → linesL l = l.take i :: linesL (l.drop (i + 2))
  | 0, [], h, _ => by simp [Lib.occAt] at h
  | 0, [c], h, _ => by simp [Lib.occAt, List.isPrefixOf] at h
  | 0, c :: d :: r, h, _ => by
    rw [occ2_zero] at h
    rw [linesL, if_pos (by simpa using h)]
    rfl
  | i + 1, [], h, _ => by simp [Lib.occAt] at h
  | i + 1, [c], h, _ => by simp [Lib.occAt] at h
  | i + 1, c :: d :: r, h, hn => by
    have h0 := hn 0 (by omega)
    rw [occ2_zero] at h0
    rw [occ_succ] at h
    have ih := linesL_at i (l := d :: r) h fun j hj => by
      have := hn (j + 1) (by omega)
      rwa [occ_succ] at this
    rw [linesL, if_neg (by simpa using h0), ih]
    rfl
theorem linesL_append : ∀ (x y : List UInt8), linesL (x ++ (13 :: 10 :: y)) = linesL x ++ linesL y
  | [], y => by simp [linesL]
  | [c], y => by
    show linesL (c :: 13 :: 10 :: y) = [c] :: linesL y
    rw [linesL, if_neg (show ¬ (c = 13 ∧ (13 : UInt8) = 10) by rintro ⟨_, h⟩; exact absurd h (by decide)), linesL, if_pos ⟨rfl, rfl⟩]
  | c :: d :: r, y => by
    show linesL (c :: d :: (r ++ (13 :: 10 :: y))) = _
    by_cases h : c = 13 ∧ d = 10
    · rw [linesL, if_pos h, linesL, if_pos h, linesL_append r y]; rfl
    · have ih : linesL (d :: (r ++ (13 :: 10 :: y))) = linesL (d :: r) ++ linesL y := linesL_append (d :: r) y
      rw [linesL, if_neg h, linesL, if_neg h, ih]
      cases e : linesL (d :: r) with
      | nil => exact absurd e (linesL_ne _)
      | cons z t => rfl
theorem splitBs_lines : ∀ (n : Nat) (s : ByteArray), s.size ≤ n → splitBs s (Tx [13, 10]) = (linesL (B s)).map Tx := by
  intro n
  induction n with
  | zero =>
    intro s hs
    have h0 : B s = [] := List.eq_nil_of_length_eq_zero (by rw [B_len]; omega)
    have e : s = Tx [] := B_ext (by rw [h0, B_Tx])
    rw [splitBs_none s _ fun j hj => by rw [h0, B_Tx]; simp [Lib.occAt], h0]
    rw [e]; rfl
  | succ n ih =>
    intro s hs
    have hsep : B (Tx [13, 10]) = [13, 10] := B_Tx _
    have hz : (Tx [13, 10]).size = 2 := by rw [← B_len, hsep]; rfl
    rcases Lib.index_spec (B s) [13, 10] with ⟨_, h⟩ | ⟨i, _, hi, ho, hno⟩
    · rw [splitBs_none s _ (by rw [hsep]; exact h), linesL_none h]
      show [s] = [Tx (B s)]
      rw [Tx_B]
    · rw [splitBs_at s _ i (by omega) hi (by rw [hsep]; exact ho) (by rw [hsep]; exact hno), linesL_at i ho hno, hz]
      have hB : B (s.extract (i + 2) s.size) = (B s).drop (i + 2) := by rw [B_extract, List.take_of_length_le (by rw [B_len]; exact Nat.le_refl _)]
      rw [ih _ (by rw [ByteArray.size_extract]; omega), hB, List.map_cons]
      congr 1
      apply B_ext
      rw [B_extract, B_Tx, List.drop_zero]
theorem splitBs_L (s : ByteArray) : splitBs s (Tx [13, 10]) = (linesL (B s)).map Tx := splitBs_lines s.size s (Nat.le_refl _)
theorem numRead_le (s : ByteArray) : 0 ≤ (numRead s).1 ∧ (numRead s).1 ≤ 1000000 := by
  unfold numRead
  split
  · exact ⟨Int.le_refl _, by decide⟩
  split
  · split
    · rename_i h; exact ⟨h.1, h.2.1⟩
    · exact ⟨Int.le_refl _, by decide⟩
  · exact ⟨Int.le_refl _, by decide⟩
/-- what begins a line that tells a length -/
def markL : List UInt8 := [99, 111, 110, 116, 101, 110, 116, 45, 108, 101, 110, 103, 116, 104, 58, 32]
def tellL (x : List UInt8) : Option Int := if x.take 16 = markL ∧ (numRead (Tx (x.drop 16))).2 = true then some (numRead (Tx (x.drop 16))).1 else none
def lenOfL (l : List (List UInt8)) : Int := (l.findSome? tellL).getD 0
theorem lenOfL_cons (x : List UInt8) (r : List (List UInt8)) : lenOfL (x :: r) = match tellL x with | some n => n | none => lenOfL r := by
  unfold lenOfL
  rw [List.findSome?_cons]
  cases tellL x <;> rfl
theorem tellL_short {x : List UInt8} (h : x.length ≤ 16) : tellL x = none := by
  unfold tellL
  rw [if_neg]
  rintro ⟨_, h2⟩
  rw [List.drop_eq_nil_of_le h, show numRead (Tx []) = (0, false) by decide +kernel] at h2
  cases h2
theorem lenOfL_le (l : List (List UInt8)) : 0 ≤ lenOfL l ∧ lenOfL l ≤ 1000000 := by
  induction l with
  | nil => exact ⟨Int.le_refl _, by decide⟩
  | cons x r ih =>
    rw [lenOfL_cons]
    unfold tellL
    by_cases h : x.take 16 = markL ∧ (numRead (Tx (x.drop 16))).2 = true
    · rw [if_pos h]; exact numRead_le _
    · rw [if_neg h]; exact ih
theorem lenOfL_app (a : List (List UInt8)) : lenOfL (a ++ [[], []]) = lenOfL a := by
  induction a with
  | nil => rw [List.nil_append, lenOfL_cons, tellL_short (by simp), lenOfL_cons, tellL_short (by simp)]
  | cons x r ih => rw [List.cons_append, lenOfL_cons, lenOfL_cons, ih]
/-- the place of the head's end -/
def hdI (s : ByteArray) : Int := Lib.index (B s) [13, 10, 13, 10]
theorem hdI_cases (s : ByteArray) : hdI s = -1 ∨ ∃ i : Nat, hdI s = i ∧ i + 4 ≤ s.size := by
  have h1 := Lib.index_ge (B s) [13, 10, 13, 10]
  unfold hdI
  rcases Int.lt_or_le (Lib.index (B s) [13, 10, 13, 10]) 0 with h | h
  · exact .inl (by omega)
  · have h2 := Lib.index_room (B s) [13, 10, 13, 10] h
    have h3 : (([13, 10, 13, 10] : List UInt8).length : Int) = 4 := rfl
    rw [h3, B_len] at h2
    exact .inr ⟨(Lib.index (B s) [13, 10, 13, 10]).toNat, by omega, by omega⟩
theorem occ_left {a b sub : List UInt8} {j : Nat} (h : j + sub.length ≤ a.length) : Lib.occAt (a ++ b) sub j = Lib.occAt a sub j := by
  unfold Lib.occAt
  rw [List.drop_append_of_le_length (by omega)]
  have hl : sub.length ≤ (a.drop j).length := by rw [List.length_drop]; omega
  rw [Bool.eq_iff_iff, List.isPrefixOf_iff_prefix, List.isPrefixOf_iff_prefix]
  exact ⟨fun h => List.prefix_of_prefix_length_le h (List.prefix_append _ _) hl, fun h => h.trans (List.prefix_append _ _)⟩
theorem hdI_app {s x : ByteArray} {i : Nat} (h : hdI s = i) : hdI (s ++ x) = i := by
  unfold hdI at h ⊢
  rcases Lib.index_spec (B s) [13, 10, 13, 10] with ⟨e, _⟩ | ⟨j, e, hj, ho, hno⟩
  · omega
  · have hij : i = j := by omega
    subst hij
    have hr := Lib.index_room (B s) [13, 10, 13, 10] (by omega)
    have h3 : (([13, 10, 13, 10] : List UInt8).length : Int) = 4 := rfl
    rw [h3] at hr
    have h4 : ([13, 10, 13, 10] : List UInt8).length = 4 := rfl
    rw [B_append]
    exact Lib.index_first (by rw [List.length_append]; omega) (by rw [occ_left (by omega)]; exact ho) (fun m hm => by rw [occ_left (by omega)]; exact hno m hm)
/-- the length that the head before place i tells -/
def lenB (s : ByteArray) (i : Nat) : Int := lenOfL ((linesL ((B s).take i)).drop 1)
theorem lenB_app {s x : ByteArray} {i : Nat} (h : i ≤ s.size) : lenB (s ++ x) i = lenB s i := by
  unfold lenB
  rw [B_append, List.take_append_of_le_length (by rw [B_len]; exact h)]
/-! ### Feed in plain words -/
def reqOf (s : ByteArray) : Int × ByteArray × List S81 × ByteArray × Bool := (impl_ReqRead.f 100000000 s).getD rejQ
/-- what stands at the beginning: none: not yet whole; some none: bad; some (r, n): a request of n bytes -/
def stepB (s : ByteArray) : Option (Option (S40 × Nat)) :=
  if hdI s < 0 then none
  else if 120 < lenB s (hdI s).toNat then some none
  else if (s.size : Int) < hdI s + 4 + lenB s (hdI s).toNat then none
  else if (reqOf (s.extract 0 (hdI s + 4 + lenB s (hdI s).toNat).toNat)).2.2.2.2 = true then
    some (some (⟨(reqOf (s.extract 0 (hdI s + 4 + lenB s (hdI s).toNat).toNat)).1, (reqOf (s.extract 0 (hdI s + 4 + lenB s (hdI s).toNat).toNat)).2.1, (reqOf (s.extract 0 (hdI s + 4 + lenB s (hdI s).toNat).toNat)).2.2.1, (reqOf (s.extract 0 (hdI s + 4 + lenB s (hdI s).toNat).toNat)).2.2.2.1⟩, (hdI s + 4 + lenB s (hdI s).toNat).toNat))
  else some none
theorem stepB_len {s : ByteArray} {r : S40} {n : Nat} (h : stepB s = some (some (r, n))) : 4 ≤ n ∧ n ≤ s.size := by
  unfold stepB at h
  have hl := (lenOfL_le ((linesL ((B s).take (hdI s).toNat)).drop 1)).1
  have hl' : 0 ≤ lenB s (hdI s).toNat := hl
  split at h
  · cases h
  split at h
  · cases h
  split at h
  · cases h
  split at h
  · injection h with h; injection h with h; injection h with _ h
    omega
  · cases h
theorem extract_left {s x : ByteArray} {i n : Nat} (h : n ≤ s.size) : (s ++ x).extract i n = s.extract i n := B_ext (by
  rw [B_extract, B_extract, B_append, List.take_append_of_le_length (by rw [B_len]; exact h)])
theorem extract_right {s x : ByteArray} {n : Nat} (h : n ≤ s.size) : (s ++ x).extract n (s ++ x).size = s.extract n s.size ++ x := B_ext (by
  rw [B_extract, B_append, B_append, B_extract, List.take_of_length_le (by rw [← B_append, B_len]; exact Nat.le_refl _), List.take_of_length_le (by rw [B_len]; exact Nat.le_refl _), List.drop_append_of_le_length (by rw [B_len]; exact h)])
theorem stepB_app {s x : ByteArray} {y : Option (S40 × Nat)} (h : stepB s = some y) : stepB (s ++ x) = some y := by
  rcases hdI_cases s with e | ⟨i, e, hi⟩
  · unfold stepB at h
    rw [e, if_pos (by omega)] at h
    cases h
  · have e2 := hdI_app (x := x) e
    have hz : (s ++ x).size = s.size + x.size := ByteArray.size_append
    have hl : 0 ≤ lenB s i := (lenOfL_le _).1
    have e3 : lenB (s ++ x) i = lenB s i := lenB_app (by omega)
    unfold stepB at h ⊢
    rw [e, Int.toNat_natCast] at h
    rw [e2, Int.toNat_natCast, e3]
    rw [if_neg (by omega)] at h ⊢
    by_cases c1 : 120 < lenB s i
    · rw [if_pos c1] at h ⊢; exact h
    rw [if_neg c1] at h ⊢
    by_cases c2 : (s.size : Int) < i + 4 + lenB s i
    · rw [if_pos c2] at h; cases h
    rw [if_neg c2] at h
    rw [if_neg (by omega), extract_left (by omega)]
    exact h
def feedN : Nat → ByteArray → List S40 × Option ByteArray
  | 0, s => ([], some s)
  | k + 1, s => match stepB s with
    | none => ([], if 1200 < s.size then none else some s)
    | some none => ([], none)
    | some (some (r, n)) => (r :: (feedN k (s.extract n s.size)).1, (feedN k (s.extract n s.size)).2)
theorem feedN_more : ∀ (k j : Nat) (s : ByteArray), s.size < k → s.size < j → feedN k s = feedN j s
  | 0, _, _, h, _ => absurd h (Nat.not_lt_zero _)
  | _, 0, _, _, h => absurd h (Nat.not_lt_zero _)
  | k + 1, j + 1, s, h1, h2 => by
    unfold feedN
    cases e : stepB s with
    | none => rfl
    | some y =>
      cases y with
      | none => rfl
      | some p =>
        obtain ⟨r, n⟩ := p
        have hn := stepB_len e
        have hz : (s.extract n s.size).size = s.size - n := by rw [ByteArray.size_extract]; omega
        dsimp only
        rw [feedN_more k j (s.extract n s.size) (by omega) (by omega)]
def feedP (s : ByteArray) : List S40 × Option ByteArray := feedN (s.size + 1) s
theorem feedP_more {s : ByteArray} (h : stepB s = none) : feedP s = ([], if 1200 < s.size then none else some s) := by unfold feedP feedN; rw [h]
theorem feedP_bad {s : ByteArray} (h : stepB s = some none) : feedP s = ([], none) := by unfold feedP feedN; rw [h]
theorem feedP_req {s : ByteArray} {r : S40} {n : Nat} (h : stepB s = some (some (r, n))) : feedP s = (r :: (feedP (s.extract n s.size)).1, (feedP (s.extract n s.size)).2) := by
  have hn := stepB_len h
  have hz : (s.extract n s.size).size = s.size - n := by rw [ByteArray.size_extract]; omega
  unfold feedP
  rw [feedN, h]
  dsimp only
  rw [feedN_more s.size ((s.extract n s.size).size + 1) (s.extract n s.size) (by omega) (by omega)]
theorem feedP_len : ∀ (d : Nat) (s : ByteArray), s.size ≤ d → (feedP s).1.length ≤ s.size ∧ (∀ t, (feedP s).2 = some t → t.size ≤ s.size) := by
  intro d
  induction d with
  | zero =>
    intro s hs
    cases e : stepB s with
    | none => rw [feedP_more e, if_neg (by omega)]; exact ⟨Nat.zero_le _, fun t ht => by injection ht with ht; rw [ht]; exact Nat.le_refl _⟩
    | some y =>
      cases y with
      | none => rw [feedP_bad e]; exact ⟨Nat.zero_le _, fun t ht => by cases ht⟩
      | some p => have := stepB_len (r := p.1) (n := p.2) e; omega
  | succ d ih =>
    intro s hs
    cases e : stepB s with
    | none =>
      rw [feedP_more e]
      refine ⟨Nat.zero_le _, fun t ht => ?_⟩
      dsimp only at ht
      split at ht
      · cases ht
      · injection ht with ht; rw [ht]; exact Nat.le_refl _
    | some y =>
      cases y with
      | none => rw [feedP_bad e]; exact ⟨Nat.zero_le _, fun t ht => by cases ht⟩
      | some p =>
        obtain ⟨r, n⟩ := p
        have hn := stepB_len e
        have hz : (s.extract n s.size).size = s.size - n := by rw [ByteArray.size_extract]; omega
        obtain ⟨h1, h2⟩ := ih (s.extract n s.size) (by omega)
        rw [feedP_req e]
        dsimp only
        refine ⟨by rw [List.length_cons]; omega, fun t ht => by have := h2 t ht; omega⟩
theorem feedP_app : ∀ (d : Nat) (s x : ByteArray), s.size ≤ d → (s ++ x).size ≤ 1200 → feedP (s ++ x) = match (feedP s).2 with
    | none => ((feedP s).1, none)
    | some t => ((feedP s).1 ++ (feedP (t ++ x)).1, (feedP (t ++ x)).2) := by
  intro d
  induction d with
  | zero =>
    intro s x hs hx
    cases e : stepB s with
    | none => rw [feedP_more e, if_neg (by omega)]; rfl
    | some y =>
      cases y with
      | none => rw [feedP_bad e, feedP_bad (stepB_app e)]
      | some p => have := stepB_len (r := p.1) (n := p.2) e; omega
  | succ d ih =>
    intro s x hs hx
    have hsx : (s ++ x).size = s.size + x.size := ByteArray.size_append
    cases e : stepB s with
    | none => rw [feedP_more e, if_neg (by omega)]; rfl
    | some y =>
      cases y with
      | none => rw [feedP_bad e, feedP_bad (stepB_app e)]
      | some p =>
        obtain ⟨r, n⟩ := p
        have hn := stepB_len e
        have hz : (s.extract n s.size).size = s.size - n := by rw [ByteArray.size_extract]; omega
        have hz2 : (s.extract n s.size ++ x).size = s.size - n + x.size := by rw [ByteArray.size_append, hz]
        have ih := ih (s.extract n s.size) x (by omega) (by omega)
        rw [feedP_req e, feedP_req (stepB_app e), extract_right hn.2, ih]
        cases (feedP (s.extract n s.size)).2 with
        | none => rfl
        | some t => rfl
/-- Feed: what is told, what waits, and whether it is bad -/
def feed1 (w : ByteArray) (b : Bool) (p : ByteArray) : List S40 × ByteArray × Bool :=
  if b = true then ([], ⟨#[]⟩, true) else match (feedP (w ++ p)).2 with
    | none => ((feedP (w ++ p)).1, ⟨#[]⟩, true)
    | some t => ((feedP (w ++ p)).1, t, false)
def feedAllP : List ByteArray → ByteArray → Bool → List S40 × ByteArray × Bool
  | [], w, b => ([], w, b)
  | p :: r, w, b => ((feed1 w b p).1 ++ (feedAllP r (feed1 w b p).2.1 (feed1 w b p).2.2).1, (feedAllP r (feed1 w b p).2.1 (feed1 w b p).2.2).2)
def catB : List ByteArray → ByteArray
  | [] => ⟨#[]⟩
  | x :: r => x ++ catB r
theorem app_nil (s : ByteArray) : s ++ (⟨#[]⟩ : ByteArray) = s := B_ext (by rw [B_append, B_empty, List.append_nil])
theorem app_assoc (a b c : ByteArray) : a ++ b ++ c = a ++ (b ++ c) := B_ext (by rw [B_append, B_append, B_append, B_append, List.append_assoc])
theorem feedAllP_bad : ∀ (r : List ByteArray) (w : ByteArray), r ≠ [] → feedAllP r w true = ([], ⟨#[]⟩, true)
  | [], _, h => absurd rfl h
  | [p], w, _ => rfl
  | p :: q :: r, w, _ => by
    rw [feedAllP]
    show (([] : List S40) ++ (feedAllP (q :: r) ⟨#[]⟩ true).1, (feedAllP (q :: r) ⟨#[]⟩ true).2) = _
    rw [feedAllP_bad (q :: r) ⟨#[]⟩ (by simp)]; rfl
theorem feedAllP_cat : ∀ (r : List ByteArray) (w : ByteArray), r ≠ [] → (w ++ catB r).size ≤ 1200 → feedAllP r w false = feed1 w false (catB r)
  | [], _, h, _ => absurd rfl h
  | [p], w, _, _ => by
    rw [feedAllP, feedAllP, catB, catB, app_nil, List.append_nil]
  | p :: q :: r, w, _, hz => by
    rw [catB, ← app_assoc] at hz
    have hz1 : (w ++ p ++ catB (q :: r)).size = (w ++ p).size + (catB (q :: r)).size := ByteArray.size_append
    have h1 := feedP_app (w ++ p).size (w ++ p) (catB (q :: r)) (Nat.le_refl _) hz
    have h2 := (feedP_len (w ++ p).size (w ++ p) (Nat.le_refl _)).2
    rw [feedAllP, show feed1 w false (catB (p :: q :: r)) = match (feedP (w ++ p ++ catB (q :: r))).2 with
      | none => ((feedP (w ++ p ++ catB (q :: r))).1, ⟨#[]⟩, true)
      | some t => ((feedP (w ++ p ++ catB (q :: r))).1, t, false) by rw [catB, app_assoc w p]; rfl, h1]
    have e1 : feed1 w false p = match (feedP (w ++ p)).2 with
      | none => ((feedP (w ++ p)).1, ⟨#[]⟩, true)
      | some t => ((feedP (w ++ p)).1, t, false) := rfl
    rw [e1]
    cases e : (feedP (w ++ p)).2 with
    | none =>
      dsimp only
      rw [feedAllP_bad _ _ (by simp), List.append_nil]
    | some t =>
      have ht := h2 t e
      dsimp only
      rw [feedAllP_cat (q :: r) t (by simp) (by rw [ByteArray.size_append]; omega)]
      rw [show feed1 t false (catB (q :: r)) = match (feedP (t ++ catB (q :: r))).2 with
        | none => ((feedP (t ++ catB (q :: r))).1, ⟨#[]⟩, true)
        | some t' => ((feedP (t ++ catB (q :: r))).1, t', false) from rfl]
      cases (feedP (t ++ catB (q :: r))).2 <;> rfl
/-! ### lengthOf, l5Head, l5Length -/
def isLen (w : ByteArray) : Bool := decide ((B w).take 16 = markL)
theorem isLen_is (w : ByteArray) : (decide (16 ≤ w.size) && ((w.extract 0 16).toList == markL)) = isLen w := by
  unfold isLen
  rw [toList_B, B_extract, List.drop_zero]
  by_cases h : (B w).take 16 = markL
  · have hl := congrArg List.length h
    rw [List.length_take, B_len, show markL.length = 16 from rfl] at hl
    rw [decide_eq_true h, h, decide_eq_true (show 16 ≤ w.size by omega)]
    simp
  · rw [decide_eq_false h, beq_eq_false_iff_ne.2 h, Bool.and_false]
theorem cutLen_f (w : ByteArray) : strings_CutPrefix.f w (⟨#[99, 111, 110, 116, 101, 110, 116, 45, 108, 101, 110, 103, 116, 104, 58, 32]⟩ : ByteArray) = some (if isLen w = true then (w.extract 16 w.size, true) else (w, false)) := by
  have s8 : (⟨#[99, 111, 110, 116, 101, 110, 116, 45, 108, 101, 110, 103, 116, 104, 58, 32]⟩ : ByteArray).size = 16 := rfl
  have t8 : (⟨#[99, 111, 110, 116, 101, 110, 116, 45, 108, 101, 110, 103, 116, 104, 58, 32]⟩ : ByteArray).toList = markL := by rw [toList_B]; rfl
  have hp : stringslite_HasPrefix.f w (⟨#[99, 111, 110, 116, 101, 110, 116, 45, 108, 101, 110, 103, 116, 104, 58, 32]⟩ : ByteArray) = some (isLen w) := by
    unfold stringslite_HasPrefix.f
    rw [s8, t8, ← isLen_is]
    by_cases h : 16 ≤ w.size
    · rw [if_pos (by omega), if_pos (by omega), if_pos (by omega), decide_eq_true h]; rfl
    · rw [if_neg (by omega), decide_eq_false h]; rfl
  unfold strings_CutPrefix.f stringslite_CutPrefix.f
  rw [hp, Option.bind_some, s8]
  by_cases h : isLen w = true
  · have h8 : 16 ≤ w.size := by
      rw [← isLen_is, Bool.and_eq_true] at h
      exact of_decide_eq_true h.1
    rw [if_pos h, if_pos h, if_pos (by omega), if_pos (by omega), Option.bind_some]; rfl
  · rw [if_neg h, if_neg h, Option.bind_some]
theorem tellL_B (w : ByteArray) : tellL (B w) = if isLen w = true ∧ (numRead (w.extract 16 w.size)).2 = true then some (numRead (w.extract 16 w.size)).1 else none := by
  have e : Tx ((B w).drop 16) = w.extract 16 w.size := B_ext (by rw [B_Tx, B_extract, List.take_of_length_le (by rw [B_len]; exact Nat.le_refl _)])
  unfold tellL isLen
  rw [e]
  simp only [decide_eq_true_eq]
theorem impl_lengthOf_l0 (l : List ByteArray) (hl : l.length ≤ 4294967296) : ∀ (d k i : Nat), l.length - i = d → i ≤ l.length → d < k → impl_lengthOf.l0 k l (l.length : Int) i = some (lenOfL ((l.drop i).map B)) := by
  intro d
  induction d with
  | zero =>
    intro k i hd hi hk
    obtain ⟨k, rfl⟩ := succ_of hk
    simp only [impl_lengthOf.l0]
    rw [if_neg (by omega), List.drop_eq_nil_of_le (by omega)]; rfl
  | succ d ih =>
    intro k i hd hi hk
    obtain ⟨k, rfl⟩ := succ_of hk
    have hlt : i < l.length := by omega
    have ih := ih k (i + 1) (by omega) (by omega) (by omega)
    simp only [impl_lengthOf.l0]
    rw [if_pos (by omega), if_pos (by omega), if_pos (by omega), rd_B l i hlt, cutLen_f, Option.bind_some, nat_round (n := l.length) hlt (by omega), ih, drop_at hlt, List.map_cons, lenOfL_cons, tellL_B]
    by_cases h : isLen l[i] = true
    · rw [if_pos h]
      dsimp only
      rw [if_pos rfl, impl_NumRead_f, Option.bind_some]
      by_cases h2 : (numRead (l[i].extract 16 l[i].size)).2 = true
      · rw [if_pos h2, if_pos ⟨h, h2⟩]
      · rw [if_neg h2, if_neg (fun h3 => h2 h3.2)]
    · rw [if_neg h]
      dsimp only
      rw [if_neg (by simp), if_neg (fun h3 => h h3.1)]
theorem linesL_B (s : ByteArray) : (splitBs s (Tx [13, 10])).map B = linesL (B s) := by
  rw [splitBs_L, List.map_map]
  exact (List.map_congr_left (fun x _ => B_Tx x)).trans (List.map_id _)
theorem impl_lengthOf_f {k : Nat} {s : ByteArray} (hs : s.size ≤ 2097152) (hk : s.size + 2 < k) : impl_lengthOf.f k s = some (lenOfL ((linesL (B s)).drop 1)) := by
  have hn := splitBs_len s (Tx [13, 10]) (by show 1 ≤ 2; omega)
  have hp := splitBs_pos s (Tx [13, 10])
  unfold impl_lengthOf.f strings_Split.f
  rw [if_pos ⟨by omega, by show 1 ≤ 2; omega⟩, Option.bind_some]
  show (if 1 ≤ ((splitBs s (Tx [13, 10])).length : Int) then ((some ((splitBs s (Tx [13, 10])).drop 1)).bind fun y285 => impl_lengthOf.l0 k y285 (y285.length : Int) 0) else none) = _
  rw [if_pos (by omega), Option.bind_some]
  have h := impl_lengthOf_l0 ((splitBs s (Tx [13, 10])).drop 1) (by rw [List.length_drop]; omega) ((splitBs s (Tx [13, 10])).drop 1).length k 0 (by omega) (by omega) (by rw [List.length_drop]; omega)
  rw [List.drop_zero, List.map_drop, linesL_B] at h
  exact h
theorem wpe {a b : Nat} (h : a + 1 = b) (hb : b ≤ 9223372036854775807) : wrap64 ((a : Int) + 1) = (b : Int) := by rw [w64 (by omega)]; omega
theorem wme {a b : Nat} (h : b + 1 = a) (hb : a ≤ 9223372036854775807) : wrap64 ((a : Int) - 1) = (b : Int) := by rw [w64 (by omega)]; omega
theorem wme2 {a b : Nat} (h : b + 2 = a) (hb : a ≤ 9223372036854775807) : wrap64 ((a : Int) - 2) = (b : Int) := by rw [w64 (by omega)]; omega
theorem wme3 {a b : Nat} (h : b + 3 = a) (hb : a ≤ 9223372036854775807) : wrap64 ((a : Int) - 3) = (b : Int) := by rw [w64 (by omega)]; omega
theorem wdif {a b c : Nat} (h : b + c = a) (hb : a ≤ 9223372036854775807) : wrap64 ((a : Int) - (b : Int)) = (c : Int) := by rw [w64 (by omega)]; omega
theorem wadd {a b c : Nat} (h : a + b = c) (hb : c ≤ 9223372036854775807) : wrap64 ((a : Int) + (b : Int)) = (c : Int) := by rw [w64 (by omega)]; omega
theorem occ4 {l : List UInt8} {j : Nat} (h : j + 3 < l.length) : Lib.occAt l [13, 10, 13, 10] j = decide (l[j] = 13 ∧ l[j + 1] = 10 ∧ l[j + 2] = 13 ∧ l[j + 3] = 10) := by
  unfold Lib.occAt
  rw [drop_at (show j < l.length by omega), drop_at (show j + 1 < l.length by omega), drop_at (show j + 1 + 1 < l.length by omega), drop_at (show j + 1 + 1 + 1 < l.length by omega)]
  simp only [List.isPrefixOf, Bool.and_true]
  rw [Bool.eq_iff_iff]
  simp only [Bool.and_eq_true, beq_iff_eq, decide_eq_true_eq]
  constructor
  · rintro ⟨a, b, c, d⟩; exact ⟨a.symm, b.symm, c.symm, d.symm⟩
  · rintro ⟨a, b, c, d⟩; exact ⟨a.symm, b.symm, c.symm, d.symm⟩
theorem oct_eq {c d : UInt8} {n : Int} (h : (d.toNat : Int) = n) : ((c.toNat : Int) = n) ↔ c = d := by
  rw [← h]
  constructor
  · intro e; exact UInt8.toNat_inj.1 (by omega)
  · intro e; rw [e]
theorem spec_l5Head_l0 (s : ByteArray) (hs : s.size ≤ 4294967296) : ∀ (d k j : Nat), s.size - (j + 3) = d → Lib.NoOcc (B s) [13, 10, 13, 10] j → d < k →
    spec_l5Head.l0 k s ((j + 3 : Nat) : Int) = some (if hdI s < 0 then -1 else hdI s + 4) := by
  intro d
  induction d with
  | zero =>
    intro k j hd hno hk
    obtain ⟨k, rfl⟩ := succ_of hk
    have hi : hdI s = -1 := Lib.index_past (by simp) hno (by rw [B_len]; show s.size < j + 4; omega)
    simp only [spec_l5Head.l0]
    rw [if_neg (by omega), hi]; rfl
  | succ d ih =>
    intro k j hd hno hk
    obtain ⟨k, rfl⟩ := succ_of hk
    have hl : (B s).length = s.size := B_len s
    have l0 : j < (B s).length := by omega
    have l1 : j + 1 < (B s).length := by omega
    have l2 : j + 2 < (B s).length := by omega
    have l3 : j + 3 < (B s).length := by omega
    have v13 : ((13 : UInt8).toNat : Int) = 13 := rfl
    have v10 : ((10 : UInt8).toNat : Int) = 10 := rfl
    have next : ¬ ((B s)[j] = 13 ∧ (B s)[j + 1] = 10 ∧ (B s)[j + 2] = 13 ∧ (B s)[j + 3] = 10) → spec_l5Head.l0 k s ((j + 1 + 3 : Nat) : Int) = some (if hdI s < 0 then -1 else hdI s + 4) := fun hn =>
      ih k (j + 1) (by omega) (hno.succ (by rw [occ4 l3]; exact decide_eq_false hn)) (by omega)
    simp only [spec_l5Head.l0]
    rw [wme3 (a := j + 3) (b := j) rfl (by omega), wme2 (a := j + 3) (b := j + 1) rfl (by omega), wme (a := j + 3) (b := j + 2) rfl (by omega), wpe (a := j + 3) (b := j + 1 + 3) (by omega) (by omega), bt_get s j l0, bt_get s (j + 1) l1, bt_get s (j + 2) l2, bt_get s (j + 3) l3, if_pos (by omega), if_pos (by omega), if_pos (by omega)]
    by_cases c0 : (B s)[j] = 13
    case neg => rw [if_neg (fun h => c0 ((oct_eq v13).1 h)), next (fun h => c0 h.1)]
    rw [if_pos ((oct_eq v13).2 c0), if_pos (by omega), if_pos (by omega)]
    by_cases c1 : (B s)[j + 1] = 10
    case neg => rw [if_neg (fun h => c1 ((oct_eq v10).1 h)), next (fun h => c1 h.2.1)]
    rw [if_pos ((oct_eq v10).2 c1), if_pos (by omega), if_pos (by omega)]
    by_cases c2 : (B s)[j + 2] = 13
    case neg => rw [if_neg (fun h => c2 ((oct_eq v13).1 h)), next (fun h => c2 h.2.2.1)]
    rw [if_pos ((oct_eq v13).2 c2), if_pos (by omega)]
    by_cases c3 : (B s)[j + 3] = 10
    case neg => rw [if_neg (fun h => c3 ((oct_eq v10).1 h)), next (fun h => c3 h.2.2.2)]
    have hi : hdI s = (j : Int) := Lib.index_hit hno (by omega) (by rw [occ4 l3]; exact decide_eq_true ⟨c0, c1, c2, c3⟩)
    rw [if_pos ((oct_eq v10).2 c3), hi, if_neg (by omega)]
    exact congrArg some (by omega)
theorem spec_l5Head_f {k : Nat} {s : ByteArray} (hs : s.size ≤ 4294967296) (hk : s.size < k) : spec_l5Head.f k s = some (if hdI s < 0 then -1 else hdI s + 4) :=
  spec_l5Head_l0 s hs (s.size - 3) k 0 (by omega) (Lib.NoOcc.zero _ _) (by omega)
theorem occ2 {l : List UInt8} {j : Nat} (h : j + 1 < l.length) : Lib.occAt l [13, 10] j = decide (l[j] = 13 ∧ l[j + 1] = 10) := by
  unfold Lib.occAt
  rw [drop_at (show j < l.length by omega), drop_at (show j + 1 < l.length by omega)]
  simp only [List.isPrefixOf, Bool.and_true]
  rw [Bool.eq_iff_iff]
  simp only [Bool.and_eq_true, beq_iff_eq, decide_eq_true_eq]
  constructor
  · rintro ⟨a, b⟩; exact ⟨a.symm, b.symm⟩
  · rintro ⟨a, b⟩; exact ⟨a.symm, b.symm⟩
theorem occ2_drop {l : List UInt8} {f n : Nat} (h : f + n + 1 < l.length) : Lib.occAt (l.drop f) [13, 10] n = decide (l[f + n] = 13 ∧ l[f + n + 1] = 10) := by
  rw [occ2 (by rw [List.length_drop]; omega)]
  simp only [List.getElem_drop]
  rfl
/-- where a text ends with an end of line, no part of it that begins before that is free of ends -/
theorem occ_last {l x : List UInt8} (h : l = x ++ [13, 10]) {f : Nat} (hf : f + 2 ≤ l.length) : Lib.occAt (l.drop f) [13, 10] (l.length - 2 - f) = true := by
  have hl : l.length = x.length + 2 := by rw [h, List.length_append]; rfl
  have hi : l.length - 2 - f = (x.drop f).length := by rw [List.length_drop]; omega
  rw [hi, h, List.drop_append_of_le_length (by omega)]
  have := occ_here (x.drop f) [] [13, 10]
  rwa [List.append_nil] at this
theorem spec_l5Length_pre (m_ : ByteArray) (s : ByteArray) (hs : s.size ≤ 4294967296) {k f : Nat} {v : Int} (h1 : 1 ≤ f) (h2 : f ≤ s.size) (h3 : (B s)[f - 1]? = some 10) (hk : 10 < k)
    (hv : f < s.size → ∀ k', k < k' + 3 → spec_l5Length.l0 k' s m_ f ((f + 1 : Nat) : Int) = some v) (hv0 : f = s.size → v = 0) : spec_l5Length.l0 k s m_ f f = some v := by
  obtain ⟨k, rfl⟩ := succ_of (show 9 < k by omega)
  have hl : (B s).length = s.size := B_len s
  simp only [spec_l5Length.l0]
  by_cases h : f < s.size
  · have hf : f < (B s).length := by omega
    have hf1 : f - 1 < (B s).length := by omega
    have g3 : (B s)[f - 1] = 10 := by rw [List.getElem?_eq_getElem hf1] at h3; exact Option.some.inj h3
    have hj : spec_l5Length.j1 k s m_ f f true = some v := by
      obtain ⟨k, rfl⟩ := succ_of (show 8 < k by omega)
      simp only [spec_l5Length.j1]
      rw [if_pos (by simp), wpe (a := f) (b := f + 1) rfl (by omega)]
      exact hv h k (by omega)
    rw [if_pos (by omega), if_pos (by omega), wme (a := f) (b := f - 1) (by omega) (by omega), bt_get s (f - 1) hf1, g3]
    split
    · rw [if_pos (by omega), if_pos (by omega)]
      exact hj
    · exact hj
  · rw [if_neg (by omega), hv0 (by omega)]
theorem spec_l5Length_l0 (m_ : ByteArray) (hm : m_.size = 16) (hml : m_.toList = markL) (s : ByteArray) (hs : s.size ≤ 4294967296) {x : List UInt8} (hx : B s = x ++ [13, 10]) : ∀ (d k f n : Nat), s.size - (f + n + 1) = d → f + n ≤ s.size → Lib.NoOcc ((B s).drop f) [13, 10] n → 5 * d + 100 < k →
    spec_l5Length.l0 k s m_ f ((f + n + 1 : Nat) : Int) = some (lenOfL (linesL ((B s).drop f))) := by
  intro d
  induction d using Nat.strongRecOn with
  | ind d ih =>
    intro k f n hd hfn hno hk
    obtain ⟨k, rfl⟩ := succ_of (show 99 < k by omega)
    have hl : (B s).length = s.size := B_len s
    simp only [spec_l5Length.l0]
    by_cases hend : f + n + 1 < s.size
    · have hi : f + n + 1 < (B s).length := by omega
      have hi1 : f + n < (B s).length := by omega
      have v13 : ((13 : UInt8).toNat : Int) = 13 := rfl
      have v10 : ((10 : UInt8).toNat : Int) = 10 := rfl
      have skip : ¬ ((B s)[f + n] = 13 ∧ (B s)[f + n + 1] = 10) → spec_l5Length.j1 k s m_ f ((f + n + 1 : Nat) : Int) true = some (lenOfL (linesL ((B s).drop f))) := fun hn => by
        obtain ⟨k, rfl⟩ := succ_of (show 98 < k by omega)
        simp only [spec_l5Length.j1]
        rw [if_pos (by simp), wpe (a := f + n + 1) (b := f + (n + 1) + 1) (by omega) (by omega)]
        exact ih (d - 1) (by omega) k f (n + 1) (by omega) (by omega) (hno.succ (by rw [occ2_drop hi]; exact decide_eq_false hn)) (by omega)
      rw [if_pos (by omega), if_pos (by omega), bt_get s (f + n + 1) hi, wme (a := f + n + 1) (b := f + n) rfl (by omega)]
      by_cases c10 : (B s)[f + n + 1] = 10
      case neg => rw [if_neg (fun h => c10 ((oct_eq v10).1 h)), skip (fun h => c10 h.2)]
      rw [if_pos ((oct_eq v10).2 c10), if_pos (by omega), if_pos (by omega), bt_get s (f + n) hi1]
      by_cases c13 : (B s)[f + n] = 13
      case neg =>
        rw [show (((B s)[f + n].toNat : Int) != 13) = true from bne_iff_ne.2 (fun h => c13 ((oct_eq v13).1 h)), skip (fun h => c13 h.1)]
      rw [show (((B s)[f + n].toNat : Int) != 13) = false by rw [(oct_eq v13).2 c13]; rfl]
      -- a line ends here
      have hocc : Lib.occAt ((B s).drop f) [13, 10] n = true := by rw [occ2_drop hi]; exact decide_eq_true ⟨c13, c10⟩
      have hL := linesL_at n hocc hno
      rw [List.drop_drop] at hL
      have hline : ((B s).drop f).take n = B (s.extract f (f + n)) := by
        rw [B_extract, List.take_drop]
      have go : ∀ k', 5 * d + 95 < k' → spec_l5Length.l0 k' s m_ ((f + n + 2 : Nat) : Int) ((f + n + 2 : Nat) : Int) = some (lenOfL (linesL ((B s).drop (f + (n + 2))))) := fun k' hk' => by
        refine spec_l5Length_pre m_ s hs (by omega) (by omega) (by rw [show f + n + 2 - 1 = f + n + 1 by omega, List.getElem?_eq_getElem hi, c10]) (by omega) (fun hlt k'' hk'' => ?_) (fun heq => ?_)
        · have := ih (s.size - (f + n + 2 + 0 + 1)) (by omega) k'' (f + n + 2) 0 (by omega) (by omega) (Lib.NoOcc.zero _ _) (by omega)
          exact this
        · rw [List.drop_eq_nil_of_le (by omega)]
          show lenOfL [[]] = 0
          rw [lenOfL_cons, tellL_short (by simp)]; rfl
      have stop : ∀ k', 5 * d + 96 < k' → tellL (((B s).drop f).take n) = none → spec_l5Length.j2 k' s m_ f ((f + n + 1 : Nat) : Int) false = some (lenOfL (linesL ((B s).drop f))) := fun k' hk' ht => by
        obtain ⟨k', rfl⟩ := succ_of (show 59 < k' by omega)
        simp only [spec_l5Length.j2]
        rw [if_neg (by simp), wpe (a := f + n + 1) (b := f + n + 2) rfl (by omega), go k' (by omega), hL, lenOfL_cons, ht]
      obtain ⟨k, rfl⟩ := succ_of (show 98 < k by omega)
      simp only [spec_l5Length.j1]
      rw [if_neg (by simp), if_pos (by omega), wme (a := f + n + 1) (b := f + n) rfl (by omega), wdif (a := f + n) (b := f) (c := n) rfl (by omega)]
      by_cases cn : 16 < n
      case neg => rw [if_neg (by omega), stop k (by omega) (tellL_short (by rw [List.length_take]; omega))]
      have hw : (s.extract f (f + n)).size = n := by rw [ByteArray.size_extract]; omega
      have hT := tellL_B (s.extract f (f + n))
      rw [← hline] at hT
      have x1 : (s.extract f (f + n)).extract 16 (s.extract f (f + n)).size = s.extract (f + 16) (f + n) := by
        rw [hw]
        apply B_ext
        rw [B_extract, B_extract, B_extract, List.take_drop, List.take_take, List.drop_drop, Nat.min_self]
      have x2 : ((s.extract f (f + 16)).toList == markL) = isLen (s.extract f (f + n)) := by
        unfold isLen
        rw [toList_B, B_extract, B_extract, List.take_drop, List.take_take, Nat.min_eq_left (by omega)]
        by_cases h : ((B s).take (f + 16)).drop f = markL
        · rw [decide_eq_true h, h]; simp
        · rw [decide_eq_false h, beq_eq_false_iff_ne.2 h]
      rw [x1] at hT
      rw [if_pos (by omega), if_pos (by omega), wadd (a := f) (b := m_.size) (c := f + 16) (by omega) (by omega), if_pos (by omega), if_pos (by omega), hml, Int.toNat_natCast, Int.toNat_natCast, x2]
      by_cases cl : isLen (s.extract f (f + n)) = true
      case neg =>
        rw [Bool.eq_false_iff.2 cl, stop k (by omega) (by rw [hT, if_neg (fun h => cl h.1)])]
      rw [cl]
      obtain ⟨k, rfl⟩ := succ_of (show 97 < k by omega)
      simp only [spec_l5Length.j2]
      rw [if_pos (by simp), wme (a := f + n + 1) (b := f + n) rfl (by omega), wadd (a := f) (b := m_.size) (c := f + 16) (by omega) (by omega), if_pos (by omega), if_pos (by omega), if_pos (by omega), Int.toNat_natCast, Int.toNat_natCast, spec_NumRead_f (by omega), Option.bind_some]
      by_cases cr : (numRead (s.extract (f + 16) (f + n))).2 = true
      · rw [if_pos cr, hL, lenOfL_cons, hT, if_pos ⟨cl, cr⟩]
      · rw [if_neg cr, wpe (a := f + n + 1) (b := f + n + 2) rfl (by omega), go k (by omega), hL, lenOfL_cons, hT, if_neg (fun h => cr h.2)]
    · rw [if_neg (by omega)]
      have hf : s.size ≤ f + 1 := by
        rcases Nat.lt_or_ge (f + 1) s.size with h | h
        · have h1 := occ_last hx (f := f) (by omega)
          have h2 := hno ((B s).length - 2 - f) (by omega)
          rw [h1] at h2
          cases h2
        · exact h
      have hnone : linesL ((B s).drop f) = [(B s).drop f] := linesL_none fun j hj => by
        have hlen : ((B s).drop f).length ≤ 1 := by rw [List.length_drop]; omega
        unfold Lib.occAt
        cases e : ((B s).drop f).drop j with
        | nil => rfl
        | cons a t =>
          have : t = [] := by
            have h9 := congrArg List.length e
            rw [List.length_drop, List.length_cons] at h9
            exact List.eq_nil_of_length_eq_zero (by omega)
          subst this
          simp [List.isPrefixOf]
      rw [hnone, lenOfL_cons, tellL_short (by rw [List.length_drop]; omega)]
      rfl
theorem spec_l5Length_first (m_ : ByteArray) (hm : m_.size = 16) (hml : m_.toList = markL) (s : ByteArray) (hs : s.size ≤ 4294967296) {x : List UInt8} (hx : B s = x ++ [13, 10]) : ∀ (d k n : Nat), s.size - (n + 1) = d → Lib.NoOcc (B s) [13, 10] n → 5 * s.size + 2 * d + 200 < k →
    spec_l5Length.l0 k s m_ (-1) ((n + 1 : Nat) : Int) = some (lenOfL ((linesL (B s)).drop 1)) := by
  intro d
  have hl : (B s).length = s.size := B_len s
  have hxl : (B s).length = x.length + 2 := by rw [hx, List.length_append]; rfl
  induction d with
  | zero =>
    intro k n hd hno hk
    have h1 := occ_last hx (f := 0) (by omega)
    have h2 := hno ((B s).length - 2 - 0) (by omega)
    rw [List.drop_zero] at h1
    rw [h1] at h2
    cases h2
  | succ d ih =>
    intro k n hd hno hk
    obtain ⟨k, rfl⟩ := succ_of (show 99 < k by omega)
    have hi : n + 1 < (B s).length := by omega
    have hi1 : n < (B s).length := by omega
    have v13 : ((13 : UInt8).toNat : Int) = 13 := rfl
    have v10 : ((10 : UInt8).toNat : Int) = 10 := rfl
    have skip : ¬ ((B s)[n] = 13 ∧ (B s)[n + 1] = 10) → spec_l5Length.j1 k s m_ (-1) ((n + 1 : Nat) : Int) true = some (lenOfL ((linesL (B s)).drop 1)) := fun hn => by
      obtain ⟨k, rfl⟩ := succ_of (show 98 < k by omega)
      simp only [spec_l5Length.j1]
      rw [if_pos (by simp), wpe (a := n + 1) (b := n + 1 + 1) rfl (by omega)]
      exact ih k (n + 1) (by omega) (hno.succ (by rw [occ2 hi]; exact decide_eq_false hn)) (by omega)
    simp only [spec_l5Length.l0]
    rw [if_pos (by omega), if_pos (by omega), bt_get s (n + 1) hi, wme (a := n + 1) (b := n) rfl (by omega)]
    by_cases c10 : (B s)[n + 1] = 10
    case neg => rw [if_neg (fun h => c10 ((oct_eq v10).1 h)), skip (fun h => c10 h.2)]
    rw [if_pos ((oct_eq v10).2 c10), if_pos (by omega), if_pos (by omega), bt_get s n hi1]
    by_cases c13 : (B s)[n] = 13
    case neg =>
      rw [show (((B s)[n].toNat : Int) != 13) = true from bne_iff_ne.2 (fun h => c13 ((oct_eq v13).1 h)), skip (fun h => c13 h.1)]
    rw [show (((B s)[n].toNat : Int) != 13) = false by rw [(oct_eq v13).2 c13]; rfl]
    have hocc : Lib.occAt (B s) [13, 10] n = true := by rw [occ2 hi]; exact decide_eq_true ⟨c13, c10⟩
    have hL := linesL_at n hocc hno
    obtain ⟨k, rfl⟩ := succ_of (show 98 < k by omega)
    simp only [spec_l5Length.j1]
    rw [if_neg (by simp), if_neg (by omega)]
    obtain ⟨k, rfl⟩ := succ_of (show 97 < k by omega)
    simp only [spec_l5Length.j2]
    rw [if_neg (by simp), wpe (a := n + 1) (b := n + 2) rfl (by omega), hL, List.drop_succ_cons, List.drop_zero]
    refine spec_l5Length_pre m_ s hs (by omega) (by omega) (by rw [show n + 2 - 1 = n + 1 by omega, List.getElem?_eq_getElem hi, c10]) (by omega) (fun hlt k'' hk'' => ?_) (fun heq => ?_)
    · exact spec_l5Length_l0 m_ hm hml s hs hx (s.size - (n + 2 + 0 + 1)) k'' (n + 2) 0 (by omega) (by omega) (Lib.NoOcc.zero _ _) (by omega)
    · rw [List.drop_eq_nil_of_le (by omega)]
      show lenOfL [[]] = 0
      rw [lenOfL_cons, tellL_short (by simp)]; rfl
theorem linesL_two : linesL [13, 10] = [[], []] := by rw [linesL, if_pos ⟨rfl, rfl⟩, linesL]
theorem spec_l5Length_f {k : Nat} {s : ByteArray} {i : Nat} (hs : s.size ≤ 4294967296) (hi : hdI s = i) (hz : i + 4 ≤ s.size) (hk : 7 * s.size + 300 < k) : spec_l5Length.f k (s.extract 0 (i + 4)) = some (lenB s i) := by
  have hocc : Lib.occAt (B s) [13, 10, 13, 10] i = true := by
    rcases Lib.index_spec (B s) [13, 10, 13, 10] with ⟨e, _⟩ | ⟨j, e, _, ho, _⟩
    · unfold hdI at hi; omega
    · have : i = j := by unfold hdI at hi; omega
      rw [this]; exact ho
  have hl : (B s).length = s.size := B_len s
  have h3 : i + 3 < (B s).length := by omega
  rw [occ4 h3] at hocc
  obtain ⟨c0, c1, c2, c3⟩ := of_decide_eq_true hocc
  have hB : B (s.extract 0 (i + 4)) = (B s).take i ++ (13 :: 10 :: [13, 10]) := by
    rw [B_extract, List.drop_zero, ← List.take_append_drop i ((B s).take (i + 4)), List.take_take, Nat.min_eq_left (by omega), List.drop_take, show i + 4 - i = 4 by omega,
      drop_at (show i < (B s).length by omega), drop_at (show i + 1 < (B s).length by omega), drop_at (show i + 1 + 1 < (B s).length by omega), drop_at (show i + 1 + 1 + 1 < (B s).length by omega)]
    simp only [List.take_succ_cons, List.take_zero]
    rw [c0, c1, c2, c3]
  have hsz : (s.extract 0 (i + 4)).size = i + 4 := by rw [ByteArray.size_extract]; omega
  have h := spec_l5Length_first ⟨#[99, 111, 110, 116, 101, 110, 116, 45, 108, 101, 110, 103, 116, 104, 58, 32]⟩ rfl (by rw [toList_B]; rfl) (s.extract 0 (i + 4)) (by omega) (x := (B s).take i ++ [13, 10]) (by rw [hB]; simp) ((s.extract 0 (i + 4)).size - 1) k 0 (by omega) (Lib.NoOcc.zero _ _) (by omega)
  have e : linesL (B (s.extract 0 (i + 4))) = linesL ((B s).take i) ++ [[], []] := by
    rw [hB, linesL_append, linesL_two]
  rw [e] at h
  have hne := linesL_ne ((B s).take i)
  rw [List.drop_append_of_le_length (by cases hq : linesL ((B s).take i) with | nil => exact absurd hq hne | cons a t => simp), lenOfL_app] at h
  exact h
theorem reqOf_facts {s : ByteArray} (hs : s.size ≤ 2097152) : (∀ k, 100000000 ≤ k → impl_ReqRead.f k s = some (reqOf s)) ∧ (∀ k, 8796130771014 < k → spec_ReqRead.f k s = some (reqOf s)) ∧ (reqOf s = rejQ ∨ (reqOf s).2.2.2.2 = true ∧ (reqOf s).2.1.size ≤ 100 ∧ SmallF 100 (reqOf s).2.2.1) := by
  obtain ⟨r, e1, e2, h, _⟩ := ReqRead_same (k1 := 8796130771015) (k2 := 100000000) hs (by omega) (by omega)
  have hr : reqOf s = r := by unfold reqOf; rw [e2]; rfl
  refine ⟨fun k hk => ?_, fun k hk => ?_, ?_⟩
  · obtain ⟨r', f1, f2, _⟩ := ReqRead_same (k1 := 8796130771015) (k2 := k) hs (by omega) (by omega)
    rw [e1] at f1
    rw [f2, hr, Option.some.inj f1]
  · obtain ⟨r', f1, f2, _⟩ := ReqRead_same (k1 := k) (k2 := 100000000) hs (by omega) (by omega)
    rw [e2] at f2
    rw [f1, hr, Option.some.inj f2]
  · rw [hr]
    rcases h with h | ⟨m, p, l, b, rfl, h2, h3, _⟩
    · exact .inl h
    · have hq := reqB_of h2 h3
      have hp := (path_size (reqB_facts hq).2.1).2
      exact .inr ⟨rfl, by show p.size ≤ 100; omega, fieldsB_SmallF (reqB_facts hq).2.2.2⟩
/-- what is told is small -/
def SmallQ (l : List S40) : Prop := ∀ x ∈ l, x.f1.size ≤ 100 ∧ SmallF 100 x.f2
theorem stepB_small {s : ByteArray} (hs : s.size ≤ 2097152) {r : S40} {n : Nat} (h : stepB s = some (some (r, n))) : r.f1.size ≤ 100 ∧ SmallF 100 r.f2 := by
  unfold stepB at h
  split at h
  · cases h
  split at h
  · cases h
  split at h
  · cases h
  split at h
  · rename_i h4
    injection h with h; injection h with h; injection h with h _
    subst h
    rcases (reqOf_facts (s := s.extract 0 (hdI s + 4 + lenB s (hdI s).toNat).toNat) (by rw [ByteArray.size_extract]; omega)).2.2 with e | ⟨_, e1, e2⟩
    · rw [e] at h4; cases h4
    · exact ⟨e1, e2⟩
  · cases h
theorem feedP_small : ∀ (d : Nat) (s : ByteArray), s.size ≤ d → s.size ≤ 2097152 → SmallQ (feedP s).1 := by
  intro d
  induction d with
  | zero =>
    intro s hs hm
    cases e : stepB s with
    | none => rw [feedP_more e]; intro x hx; cases hx
    | some y =>
      cases y with
      | none => rw [feedP_bad e]; intro x hx; cases hx
      | some p => have := stepB_len (r := p.1) (n := p.2) e; omega
  | succ d ih =>
    intro s hs hm
    cases e : stepB s with
    | none => rw [feedP_more e]; intro x hx; cases hx
    | some y =>
      cases y with
      | none => rw [feedP_bad e]; intro x hx; cases hx
      | some p =>
        obtain ⟨r, n⟩ := p
        have hn := stepB_len e
        have hz : (s.extract n s.size).size = s.size - n := by rw [ByteArray.size_extract]; omega
        rw [feedP_req e]
        intro x hx
        rcases List.mem_cons.1 hx with rfl | hx
        · exact stepB_small hm e
        · exact ih (s.extract n s.size) (by omega) (by omega) x hx
theorem feedP_sum : ∀ (d : Nat) (s : ByteArray), s.size ≤ d → ∀ t, (feedP s).2 = some t → (feedP s).1.length + t.size ≤ s.size := by
  intro d
  induction d with
  | zero =>
    intro s hs t ht
    cases e : stepB s with
    | none => rw [feedP_more e, if_neg (by omega)] at ht ⊢; injection ht with ht; rw [← ht]; simp
    | some y =>
      cases y with
      | none => rw [feedP_bad e] at ht; cases ht
      | some p => have := stepB_len (r := p.1) (n := p.2) e; omega
  | succ d ih =>
    intro s hs t ht
    cases e : stepB s with
    | none =>
      rw [feedP_more e] at ht ⊢
      dsimp only at ht ⊢
      split at ht
      · cases ht
      · injection ht with ht; rw [← ht]; simp
    | some y =>
      cases y with
      | none => rw [feedP_bad e] at ht; cases ht
      | some p =>
        obtain ⟨r, n⟩ := p
        have hn := stepB_len e
        have hz : (s.extract n s.size).size = s.size - n := by rw [ByteArray.size_extract]; omega
        rw [feedP_req e] at ht ⊢
        have := ih (s.extract n s.size) (by omega) t ht
        dsimp only
        rw [List.length_cons]
        omega
theorem next_j0 {k : Nat} {s : ByteArray} {b : Bool} (hs : s.size ≤ 2097152) (hk : 100000010 < k) {i : Nat} (hi : hdI s = i) (hz : i + 4 ≤ s.size) :
    (stepB s = none → impl_Stream_next.j0 k (i : Int) (lenB s i) s b = some (0, ⟨#[]⟩, [], ⟨#[]⟩, false, s, decide ((s.size : Int) > 1200))) ∧
    (stepB s = some none → ∃ w', impl_Stream_next.j0 k (i : Int) (lenB s i) s b = some (0, ⟨#[]⟩, [], ⟨#[]⟩, false, w', true)) ∧
    (∀ r n, stepB s = some (some (r, n)) → impl_Stream_next.j0 k (i : Int) (lenB s i) s b = some (r.f0, r.f1, r.f2, r.f3, true, s.extract n s.size, false)) := by
  obtain ⟨k, rfl⟩ := succ_of (show 100000009 < k by omega)
  have hl : 0 ≤ lenB s i ∧ lenB s i ≤ 1000000 := lenOfL_le _
  obtain ⟨v, hv⟩ : ∃ v : Nat, lenB s i = v := ⟨(lenB s i).toNat, by omega⟩
  have hend : wrap64 (wrap64 ((i : Int) + 4) + (v : Int)) = ((i + 4 + v : Nat) : Int) := by
    rw [show ((i : Int) + 4) = ((i : Int) + ((4 : Nat) : Int)) from rfl, wadd (a := i) (b := 4) (c := i + 4) rfl (by omega), wadd (a := i + 4) (b := v) (c := i + 4 + v) rfl (by omega)]
  have hst : stepB s = (if (120 : Int) < v then some none else if (s.size : Int) < (i : Int) + 4 + v then none else if (reqOf (s.extract 0 (i + 4 + v))).2.2.2.2 = true then
      some (some (⟨(reqOf (s.extract 0 (i + 4 + v))).1, (reqOf (s.extract 0 (i + 4 + v))).2.1, (reqOf (s.extract 0 (i + 4 + v))).2.2.1, (reqOf (s.extract 0 (i + 4 + v))).2.2.2.1⟩, i + 4 + v)) else some none) := by
    unfold stepB
    rw [hi, Int.toNat_natCast, hv, if_neg (by omega), show ((i : Int) + 4 + (v : Int)).toNat = i + 4 + v by omega]
  have hq := reqOf_facts (s := s.extract 0 (i + 4 + v)) (by rw [ByteArray.size_extract]; omega)
  rw [hv]
  by_cases c1 : (120 : Int) < v
  · have hS : stepB s = some none := by rw [hst, if_pos c1]
    have hJ : impl_Stream_next.j0 (k + 1) (i : Int) (v : Int) s b = some (0, ⟨#[]⟩, [], ⟨#[]⟩, false, s, true) := by
      simp only [impl_Stream_next.j0]
      rw [if_pos (show (v : Int) > 120 from c1)]
    rw [hS]
    exact ⟨fun h => (by cases h), fun _ => ⟨_, hJ⟩, fun r n h => (by cases h)⟩
  by_cases c2 : (s.size : Int) < (i : Int) + 4 + v
  · have hS : stepB s = none := by rw [hst, if_neg c1, if_pos c2]
    have hJ : impl_Stream_next.j0 (k + 1) (i : Int) (v : Int) s b = some (0, ⟨#[]⟩, [], ⟨#[]⟩, false, s, decide ((s.size : Int) > 1200)) := by
      simp only [impl_Stream_next.j0]
      rw [hend, if_neg (show ¬ (v : Int) > 120 from c1), if_neg (by omega), if_pos (by omega)]
    rw [hS]
    exact ⟨fun _ => hJ, fun h => (by cases h), fun r n h => (by cases h)⟩
  have hJ : impl_Stream_next.j0 (k + 1) (i : Int) (v : Int) s b = some ((reqOf (s.extract 0 (i + 4 + v))).1, (reqOf (s.extract 0 (i + 4 + v))).2.1, (reqOf (s.extract 0 (i + 4 + v))).2.2.1, (reqOf (s.extract 0 (i + 4 + v))).2.2.2.1, (reqOf (s.extract 0 (i + 4 + v))).2.2.2.2, s.extract (i + 4 + v) s.size, !(reqOf (s.extract 0 (i + 4 + v))).2.2.2.2) := by
    simp only [impl_Stream_next.j0]
    rw [hend, if_neg (show ¬ (v : Int) > 120 from c1), if_neg (by omega), if_neg (by omega), if_pos (by omega), if_pos (by omega), Int.toNat_natCast, hq.1 k (by omega), Option.bind_some]
  rcases hq.2.2 with e | ⟨e, _, _⟩
  · have hS : stepB s = some none := by rw [hst, if_neg c1, if_neg c2, e, if_neg (show ¬ rejQ.2.2.2.2 = true by show ¬ (false = true); simp)]
    rw [e] at hJ
    rw [hS]
    exact ⟨fun h => (by cases h), fun _ => ⟨_, hJ⟩, fun r n h => (by cases h)⟩
  · have hS := hst
    rw [if_neg c1, if_neg c2, if_pos e] at hS
    rw [hS]
    refine ⟨fun h => (by cases h), fun h => (by cases h), fun r n h => ?_⟩
    injection h with h; injection h with h; injection h with h1 h2
    subst h1 h2
    rw [hJ, e]; rfl
theorem index_hdI {s : ByteArray} (hs : s.size ≤ 2097152) : strings_Index.f s ⟨#[13, 10, 13, 10]⟩ = some (hdI s) := by
  unfold strings_Index.f
  rw [if_pos (by omega)]; rfl
theorem B_take (s : ByteArray) (i : Nat) : B (s.extract 0 i) = (B s).take i := by rw [B_extract, List.drop_zero]
theorem impl_next_f {k : Nat} {s : ByteArray} {b : Bool} (hs : s.size ≤ 2097152) (hk : 100000010 < k) :
    (stepB s = none → impl_Stream_next.f k s b = some (0, ⟨#[]⟩, [], ⟨#[]⟩, false, s, decide ((s.size : Int) > 1200))) ∧
    (stepB s = some none → ∃ w', impl_Stream_next.f k s b = some (0, ⟨#[]⟩, [], ⟨#[]⟩, false, w', true)) ∧
    (∀ r n, stepB s = some (some (r, n)) → impl_Stream_next.f k s b = some (r.f0, r.f1, r.f2, r.f3, true, s.extract n s.size, false)) := by
  unfold impl_Stream_next.f
  rw [index_hdI hs, Option.bind_some]
  rcases hdI_cases s with e | ⟨i, e, hi⟩
  · have hst : stepB s = none := by unfold stepB; rw [e, if_pos (by omega)]
    rw [e, if_neg (by omega), hst]
    refine ⟨fun _ => ?_, fun h => (by cases h), fun r n h => (by cases h)⟩
    obtain ⟨k, rfl⟩ := succ_of (show 100000009 < k by omega)
    simp only [impl_Stream_next.j0]
    rw [if_neg (by omega), if_pos (by omega)]
  · rw [e, if_pos (by omega), if_pos (by omega), if_pos (by omega), Int.toNat_natCast, impl_lengthOf_f (by rw [ByteArray.size_extract]; omega) (by rw [ByteArray.size_extract]; omega), Option.bind_some, B_take]
    exact next_j0 hs hk e hi
theorem impl_Feed_l0 : ∀ (d : Nat) (s : ByteArray) (k : Nat) (b : Bool) (acc : List S40), s.size ≤ d → s.size ≤ 2097152 → acc.length + s.size ≤ 1099511627776 → d + 100000020 < k →
    impl_Feed.l0 k s b acc = some (match (feedP s).2 with | none => (⟨#[]⟩, true, acc ++ (feedP s).1) | some t => (t, false, acc ++ (feedP s).1)) := by
  intro d
  induction d with
  | zero =>
    intro s k b acc hd hs ha hk
    obtain ⟨k, rfl⟩ := succ_of (show 100000015 < k by omega)
    have hn := impl_next_f (k := k) (b := b) hs (by omega)
    rw [impl_Feed.l0]
    cases e : stepB s with
    | none =>
      rw [hn.1 e, Option.bind_some, feedP_more e]
      dsimp only
      rw [if_neg (by simp), if_neg (show ¬ 1200 < s.size by omega), if_neg (by simp; omega), List.append_nil]
    | some y =>
      cases y with
      | none => obtain ⟨w', h⟩ := hn.2.1 e; rw [h, Option.bind_some, feedP_bad e]; dsimp only; rw [if_neg (by simp), if_pos rfl, List.append_nil]
      | some p => have := stepB_len (r := p.1) (n := p.2) e; omega
  | succ d ih =>
    intro s k b acc hd hs ha hk
    obtain ⟨k, rfl⟩ := succ_of (show 100000015 < k by omega)
    have hn := impl_next_f (k := k) (b := b) hs (by omega)
    rw [impl_Feed.l0]
    cases e : stepB s with
    | none =>
      rw [hn.1 e, Option.bind_some, feedP_more e]
      dsimp only
      rw [if_neg (by simp)]
      by_cases c : 1200 < s.size
      · rw [if_pos c, if_pos (decide_eq_true (by omega)), List.append_nil]
      · rw [if_neg c, if_neg (by simp; omega), List.append_nil]
    | some y =>
      cases y with
      | none => obtain ⟨w', h⟩ := hn.2.1 e; rw [h, Option.bind_some, feedP_bad e]; dsimp only; rw [if_neg (by simp), if_pos rfl, List.append_nil]
      | some p =>
        obtain ⟨r, n⟩ := p
        have hl := stepB_len e
        have hz : (s.extract n s.size).size = s.size - n := by rw [ByteArray.size_extract]; omega
        rw [hn.2.2 r n e, Option.bind_some, feedP_req e]
        dsimp only
        rw [if_pos rfl, if_pos (by omega), ih (s.extract n s.size) k false _ (by omega) (by omega) (by rw [List.length_append]; simp; omega) (by omega)]
        cases (feedP (s.extract n s.size)).2 <;> (dsimp only; rw [List.append_assoc]; rfl)
theorem feed1_false (w p : ByteArray) : feed1 w false p = match (feedP (w ++ p)).2 with | none => ((feedP (w ++ p)).1, ⟨#[]⟩, true) | some t => ((feedP (w ++ p)).1, t, false) := rfl
theorem feed1_true (w p : ByteArray) : feed1 w true p = ([], ⟨#[]⟩, true) := rfl
theorem impl_Feed_f {k : Nat} {w p : ByteArray} {b : Bool} (hs : w.size + p.size ≤ 2097152) (hk : 104000000 < k) : impl_Feed.f k w b p = some ((feed1 w b p).2.1, (feed1 w b p).2.2, (feed1 w b p).1) := by
  have hz : (w ++ p).size = w.size + p.size := ByteArray.size_append
  unfold impl_Feed.f
  cases b with
  | true => rw [if_pos rfl, feed1_true]
  | false =>
    rw [if_neg (by simp), if_pos (by omega), impl_Feed_l0 (w ++ p).size (w ++ p) k false [] (Nat.le_refl _) (by omega) (by simp; omega) (by omega), feed1_false]
    cases (feedP (w ++ p)).2 <;> rfl
theorem spec_Feed_l0 : ∀ (d : Nat) (s : ByteArray) (k : Nat) (acc : List S40), s.size ≤ d → s.size ≤ 2097152 → acc.length + s.size ≤ 1099511627776 → d + 8796130780000 < k →
    spec_Feed.l0 k acc s ⟨#[]⟩ true = some (match (feedP s).2 with | none => (⟨#[]⟩, true, acc ++ (feedP s).1) | some t => (t, false, acc ++ (feedP s).1)) := by
  intro d
  induction d using Nat.strongRecOn with
  | ind d ih =>
    intro s k acc hd hs ha hk
    obtain ⟨k, rfl⟩ := succ_of (show 8796130779999 < k by omega)
    simp only [spec_Feed.l0]
    rw [spec_l5Head_f (by omega) (by omega), Option.bind_some]
    have more : stepB s = none → (if (s.size : Int) > 1200 then some ((⟨#[]⟩ : ByteArray), true, acc) else some (s, false, acc)) = some (match (feedP s).2 with | none => (⟨#[]⟩, true, acc ++ (feedP s).1) | some t => (t, false, acc ++ (feedP s).1)) := fun e => by
      rw [feedP_more e]
      by_cases c : 1200 < s.size
      · rw [if_pos c, if_pos (by omega), List.append_nil]
      · rw [if_neg c, if_neg (by omega), List.append_nil]
    have bad : stepB s = some none → some ((⟨#[]⟩ : ByteArray), true, acc) = some (match (feedP s).2 with | none => (⟨#[]⟩, true, acc ++ (feedP s).1) | some t => (t, false, acc ++ (feedP s).1)) := fun e => by
      rw [feedP_bad e, List.append_nil]
    rcases hdI_cases s with e | ⟨i, e, hi⟩
    · have hst : stepB s = none := by unfold stepB; rw [e, if_pos (by omega)]
      rw [e, if_pos (show (-1 : Int) < 0 by omega), if_pos (by omega), more hst]
    · have hl : 0 ≤ lenB s i ∧ lenB s i ≤ 1000000 := lenOfL_le _
      obtain ⟨v, hv⟩ : ∃ v : Nat, lenB s i = v := ⟨(lenB s i).toNat, by omega⟩
      have hst : stepB s = (if (120 : Int) < v then some none else if (s.size : Int) < (i : Int) + 4 + v then none else if (reqOf (s.extract 0 (i + 4 + v))).2.2.2.2 = true then
          some (some (⟨(reqOf (s.extract 0 (i + 4 + v))).1, (reqOf (s.extract 0 (i + 4 + v))).2.1, (reqOf (s.extract 0 (i + 4 + v))).2.2.1, (reqOf (s.extract 0 (i + 4 + v))).2.2.2.1⟩, i + 4 + v)) else some none) := by
        unfold stepB
        rw [e, Int.toNat_natCast, hv, if_neg (by omega), show ((i : Int) + 4 + (v : Int)).toNat = i + 4 + v by omega]
      have hq := reqOf_facts (s := s.extract 0 (i + 4 + v)) (by rw [ByteArray.size_extract]; omega)
      rw [e, if_neg (show ¬ (i : Int) < 0 by omega), show ((i : Int) + 4) = ((i + 4 : Nat) : Int) by omega, if_neg (by omega), if_pos (by omega), if_pos (by omega), Int.toNat_natCast, spec_l5Length_f (by omega) e hi (by omega), Option.bind_some, hv, wadd (a := i + 4) (b := v) (c := i + 4 + v) rfl (by omega)]
      by_cases c1 : (120 : Int) < v
      · rw [if_pos (by omega), bad (by rw [hst, if_pos c1])]
      rw [if_neg (by omega)]
      by_cases c2 : (s.size : Int) < (i : Int) + 4 + v
      · rw [if_pos (by omega), more (by rw [hst, if_neg c1, if_pos c2])]
      rw [if_neg (by omega), if_pos (by omega), if_pos (by omega), Int.toNat_natCast, hq.2.1 k (by omega), Option.bind_some]
      rcases hq.2.2 with e2 | ⟨e2, _, _⟩
      · have hb : ¬ (reqOf (s.extract 0 (i + 4 + v))).2.2.2.2 = true := by rw [e2]; show ¬ (false = true); simp
        rw [if_neg hb, bad (by rw [hst, if_neg c1, if_neg c2, if_neg hb])]
      · have hreq := hst
        rw [if_neg c1, if_neg c2, if_pos e2] at hreq
        have hz : (s.extract (i + 4 + v) s.size).size = s.size - (i + 4 + v) := by rw [ByteArray.size_extract]; omega
        rw [if_pos e2, if_pos (by omega), ih (s.size - (i + 4 + v)) (by omega) (s.extract (i + 4 + v) s.size) k _ (by omega) (by omega) (by rw [List.length_append]; simp; omega) (by omega), feedP_req hreq]
        cases (feedP (s.extract (i + 4 + v) s.size)).2 <;> (dsimp only; rw [List.append_assoc]; rfl)
theorem spec_Feed_f {k : Nat} {w p : ByteArray} {b : Bool} (hs : w.size + p.size ≤ 2097152) (hk : 8796140000000 < k) : spec_Feed.f k w b p = some ((feed1 w b p).2.1, (feed1 w b p).2.2, (feed1 w b p).1) := by
  have hz : (w ++ p).size = w.size + p.size := ByteArray.size_append
  unfold spec_Feed.f
  rw [Option.bind_some]
  cases b with
  | true => rw [if_pos rfl]; rfl
  | false =>
    rw [if_neg (by simp), if_pos (by omega), spec_Feed_l0 (w ++ p).size (w ++ p) k [] (Nat.le_refl _) (by omega) (by simp; omega) (by omega)]
    show _ = some ((match (feedP (w ++ p)).2 with | none => ((feedP (w ++ p)).1, (⟨#[]⟩ : ByteArray), true) | some t => ((feedP (w ++ p)).1, t, false)).2.1, _, _)
    unfold feed1
    cases (feedP (w ++ p)).2 <;> rfl
/-! ### FeedAll in plain words -/
theorem feed1_sum (w p : ByteArray) (b : Bool) : (feed1 w b p).1.length + (feed1 w b p).2.1.size ≤ w.size + p.size := by
  have hz : (w ++ p).size = w.size + p.size := ByteArray.size_append
  have h0 : (⟨#[]⟩ : ByteArray).size = 0 := rfl
  cases b with
  | true => rw [feed1_true]; simp [h0]
  | false =>
    rw [feed1_false]
    have h1 := feedP_sum (w ++ p).size (w ++ p) (Nat.le_refl _)
    have h2 := (feedP_len (w ++ p).size (w ++ p) (Nat.le_refl _)).1
    cases e : (feedP (w ++ p)).2 with
    | none => dsimp only; omega
    | some t => have := h1 t e; dsimp only; omega
theorem feed1_small {w p : ByteArray} {b : Bool} (hs : w.size + p.size ≤ 2097152) : SmallQ (feed1 w b p).1 := by
  have hz : (w ++ p).size = w.size + p.size := ByteArray.size_append
  cases b with
  | true => rw [feed1_true]; intro x hx; cases hx
  | false =>
    rw [feed1_false]
    have h := feedP_small (w ++ p).size (w ++ p) (Nat.le_refl _) (by omega)
    cases (feedP (w ++ p)).2 with
    | none => exact h
    | some t => exact h
def szN : List ByteArray → Nat
  | [] => 0
  | x :: r => x.size + szN r
theorem szN_catB : ∀ l, (catB l).size = szN l
  | [] => rfl
  | x :: r => by rw [catB, szN, ByteArray.size_append, szN_catB r]
end Go.Proofs.YtjckfmipegemcaaGreatDoor.Pure
