/- What the printed functions answer, in plain words: lemmas of this session. No condition of a statement lies here. -/
import Derived.Test.YtnmanegjgidgcaaGreatDoorAllx0
import Derived.Test.YtnmanegjgidgcaaGreatDoorAllx14
import Derived.Test.YtnmanegjgidgcaaGreatDoorAllx2
import Derived.Test.YtnmanegjgidgcaaGreatDoorAllx20
import Derived.Test.YtnmanegjgidgcaaGreatDoorAllx21
import Derived.Test.YtnmanegjgidgcaaGreatDoorAllx3
import Derived.Test.YtnmanegjgidgcaaGreatDoorAllx4
namespace Go.Proofs.YtnmanegjgidgcaaGreatDoor.Pure
open Go.RowKit Go.Proofs.YtnmanegjgidgcaaGreatDoor.All Go.Proofs.YtnmanegjgidgcaaGreatDoorW.PrintWords Go.Proofs.YtnmanegjgidgcaaGreatDoorW.PrintLast
set_option linter.unusedVariables false
set_option linter.unusedSimpArgs false

/-! ### plain words on numbers, bytes, lists -/
theorem w64 {n : Int} (h : -9223372036854775808 ≤ n ∧ n ≤ 9223372036854775807) : wrap64 n = n := by unfold wrap64; omega
/-- a text's bytes -/
def B (s : ByteArray) : List UInt8 := s.data.toList
theorem B_len (s : ByteArray) : (B s).length = s.size := data_length s
theorem toList_B (s : ByteArray) : s.toList = B s := ByteArray.toList_eq s
theorem B_ext {a b : ByteArray} (h : B a = B b) : a = b := by
  cases a with | mk a => cases b with | mk b => unfold B at h; simp at h; rw [h]
theorem B_mk (l : List UInt8) : B ⟨l.toArray⟩ = l := by unfold B; simp
theorem toList_inj {a b : ByteArray} (h : a.toList = b.toList) : a = b := B_ext (by rw [← toList_B, ← toList_B, h])
theorem toList_iff (a b : ByteArray) : a.toList = b.toList ↔ a = b := ⟨toList_inj, fun h => by rw [h]⟩
theorem bt_get (s : ByteArray) (i : Nat) (h : i < (B s).length) : bt s (i : Int) = (((B s)[i]).toNat : Int) := by
  have h' : i < s.size := by rw [← B_len]; exact h
  unfold bt B
  simp [h']
  rfl
theorem B_append (a b : ByteArray) : B (a ++ b) = B a ++ B b := by
  unfold B; rw [ByteArray.data_append]; simp
theorem B_extract (s : ByteArray) (i j : Nat) : B (s.extract i j) = ((B s).take j).drop i := by
  unfold B; rw [ByteArray.data_extract]; simp [List.drop_take]
theorem B_empty : B (⟨#[]⟩ : ByteArray) = [] := rfl
/-- numbers as bytes -/
def oct (n : Int) : UInt8 := UInt8.ofNat n.toNat
theorem oct_nat (c : UInt8) : oct (c.toNat : Int) = c := by unfold oct; simp
theorem strOf (xs : List Int) : strOfNums xs = ⟨(xs.map oct).toArray⟩ := rfl
theorem B_strOf (xs : List Int) : B (strOfNums xs) = xs.map oct := by rw [strOf, B_mk]
theorem succ_of {k d : Nat} (h : d < k) : ∃ m, k = m + 1 := ⟨k - 1, by omega⟩
theorem drop_at {α : Type} {l : List α} {i : Nat} (h : i < l.length) : l.drop i = l[i] :: l.drop (i + 1) := List.drop_eq_getElem_cons h
theorem nat_round {i n : Nat} (h : i < n) (hn : (n : Int) ≤ 9223372036854775807) : wrap64 ((i : Int) + 1) = ((i + 1 : Nat) : Int) := by
  rw [w64 (by omega)]; omega
theorem ite_bool {b : Bool} {α : Type} {x y : α} : (if b = true then x else y) = bif b then x else y := by cases b <;> rfl
/-! ### lists of texts and of numbers -/
theorem rd_B (l : List ByteArray) (j : Nat) (h : j < l.length) : rdOf ByteArray.empty l (j : Int) = l[j] := by simp [rdOf, List.getD, h]
theorem rd_I (l : List Int) (j : Nat) (h : j < l.length) : rd l (j : Int) = l[j] := by simp [rd, List.getD, h]
theorem set_at {α : Type} (pre : List α) (y z : α) (rest : List α) : (pre ++ y :: rest).set ((pre.length : Int)).toNat z = pre ++ z :: rest := by
  rw [Int.toNat_natCast, List.set_append_right _ _ (by omega), Nat.sub_self, List.set_cons_zero]
theorem set_at' {α : Type} {i : Nat} (pre : List α) (y z : α) (rest : List α) (h : pre.length = i) : (pre ++ y :: rest).set ((i : Int)).toNat z = pre ++ z :: rest := by
  subst h; exact set_at pre y z rest
def hasB (s : ByteArray) (l : List ByteArray) : Bool := l.any fun x => decide (x = s)
theorem hasB_drop {l : List ByteArray} {i : Nat} (h : i < l.length) (s : ByteArray) : hasB s (l.drop i) = (decide (l[i] = s) || hasB s (l.drop (i + 1))) := by
  unfold hasB; rw [drop_at h, List.any_cons]
theorem drop_eq {α : Type} {a b : List α} {i : Nat} (ha : i < a.length) (hb : i < b.length) : a.drop i = b.drop i ↔ a[i] = b[i] ∧ a.drop (i + 1) = b.drop (i + 1) := by
  rw [drop_at ha, drop_at hb, List.cons.injEq]
theorem extract_all0 (s : ByteArray) : s.extract 0 s.size = s := ByteArray.extract_zero_size
/-! ### TokenOk -/
def tok1 (c : UInt8) : Bool := decide (97 ≤ c.toNat ∧ c.toNat ≤ 122 ∨ 48 ≤ c.toNat ∧ c.toNat ≤ 57 ∨ c.toNat = 45)
def tokB (s : ByteArray) : Bool := (B s).all tok1 && decide (1 ≤ s.size ∧ s.size ≤ 20)
theorem spec_l1In_f (x a b : Int) : spec_l1In.f x a b = some (decide (a ≤ x ∧ x ≤ b)) := by
  unfold spec_l1In.f
  by_cases h : x ≥ a <;> simp [h]
theorem impl_inRange_f (x a b : Int) : impl_inRange.f x a b = some (decide (a ≤ x ∧ x ≤ b)) := by
  unfold impl_inRange.f
  by_cases h : x ≥ a <;> simp [h]
theorem tok_round (k : Nat) (s : ByteArray) (i : Nat) (hs : (s.size : Int) ≤ 9223372036854775807) (hi : i < s.size) (hl : i < (B s).length) :
    spec_TokenOk.l0 (k + 1) s i = (if tok1 (B s)[i] then spec_TokenOk.l0 k s ((i + 1 : Nat) : Int) else some false) ∧ impl_TokenOk.l0 (k + 1) s i = (if tok1 (B s)[i] then impl_TokenOk.l0 k s ((i + 1 : Nat) : Int) else some false) := by
  have hw := nat_round (i := i) (n := s.size) hi hs
  simp only [spec_TokenOk.l0, impl_TokenOk.l0]
  rw [if_pos (by omega), if_pos (by omega), bt_get s i hl, hw]
  unfold tok1
  generalize ((B s)[i]).toNat = c
  constructor
  all_goals
    by_cases h : 97 ≤ c ∧ c ≤ 122 ∨ 48 ≤ c ∧ c ≤ 57 ∨ c = 45
    · simp only [decide_eq_true h, if_true]
      repeat' (split <;> try rfl)
      all_goals omega
    · simp only [decide_eq_false h, Bool.false_eq_true, if_false]
      repeat' (split <;> try rfl)
      all_goals omega
theorem tok_l0 (s : ByteArray) (hs : (s.size : Int) ≤ 9223372036854775807) : ∀ (d k i : Nat), s.size - i = d → i ≤ s.size → d < k →
    spec_TokenOk.l0 k s i = some (((B s).drop i).all tok1 && decide (1 ≤ s.size ∧ s.size ≤ 20)) ∧ impl_TokenOk.l0 k s i = some (((B s).drop i).all tok1 && decide (1 ≤ s.size ∧ s.size ≤ 20)) := by
  intro d
  induction d with
  | zero =>
    intro k i hd hi hk
    obtain ⟨k, rfl⟩ := succ_of hk
    simp only [spec_TokenOk.l0, impl_TokenOk.l0, spec_l1In_f, impl_inRange_f, Option.bind_some]
    have hni : ¬ ((i : Int) < (s.size : Int)) := by omega
    simp only [if_neg hni]
    rw [List.drop_eq_nil_of_le (by rw [B_len]; omega)]
    have : decide ((1 : Int) ≤ (s.size : Int) ∧ (s.size : Int) ≤ 20) = decide (1 ≤ s.size ∧ s.size ≤ 20) := decide_eq_decide.2 (by omega)
    rw [this]; simp
  | succ d ih =>
    intro k i hd hi hk
    obtain ⟨k, rfl⟩ := succ_of hk
    have hl : i < (B s).length := by rw [B_len]; omega
    obtain ⟨h1, h2⟩ := tok_round k s i hs (by omega) hl
    obtain ⟨i1, i2⟩ := ih k (i + 1) (by omega) (by omega) (by omega)
    rw [h1, h2, i1, i2, drop_at hl, List.all_cons]
    cases tok1 (B s)[i] <;> simp
theorem spec_TokenOk_f {k : Nat} {s : ByteArray} (hs : (s.size : Int) ≤ 9223372036854775807) (hk : s.size < k) : spec_TokenOk.f k s = some (tokB s) := (tok_l0 s hs s.size k 0 (by omega) (by omega) hk).1
theorem impl_TokenOk_f {k : Nat} {s : ByteArray} (hs : (s.size : Int) ≤ 9223372036854775807) (hk : s.size < k) : impl_TokenOk.f k s = some (tokB s) := (tok_l0 s hs s.size k 0 (by omega) (by omega) hk).2
/-! ### the first field of a name -/
def getF (n : ByteArray) : List S100 → Option ByteArray
  | [] => none
  | x :: r => if x.f0 = n then some x.f1 else getF n r
def putF (n v : ByteArray) : List S100 → List S100
  | [] => [⟨n, v⟩]
  | x :: r => if x.f0 = n then ⟨x.f0, v⟩ :: r else x :: putF n v r
def dropF (n : ByteArray) : List S100 → List S100
  | [] => []
  | x :: r => if x.f0 = n then r else x :: dropF n r
theorem at_cons (n : ByteArray) (x : S100) (r : List S100) (i : Nat) : at_ n (x :: r) i = if x.f0 = n then (i : Int) else at_ n r (i + 1) := by
  simp only [at_]
  by_cases h : x.f0 = n
  · rw [if_pos h, if_pos (by rw [h]; simp)]
  · rw [if_neg h, if_neg (by simpa using fun e => h (toList_inj e))]
/-- where it stands: nowhere, or at a place j -/
theorem at_cases (n v : ByteArray) : ∀ (l : List S100) (i : Nat), (at_ n l i = -1 ∧ getF n l = none ∧ putF n v l = l ++ [⟨n, v⟩] ∧ dropF n l = l) ∨
    ∃ j, ∃ h : j < l.length, at_ n l i = ((i + j : Nat) : Int) ∧ l[j].f0 = n ∧ getF n l = some l[j].f1 ∧ putF n v l = l.set j ⟨l[j].f0, v⟩ ∧ dropF n l = l.eraseIdx j
  | [], i => .inl ⟨rfl, rfl, rfl, rfl⟩
  | x :: r, i => by
    rw [at_cons]
    by_cases h : x.f0 = n
    · exact .inr ⟨0, by simp, by rw [if_pos h]; rfl, h, by simp [getF, h], by simp [putF, h], by simp [dropF, h]⟩
    · rw [if_neg h]
      rcases at_cases n v r (i + 1) with ⟨h1, h2, h3, h4⟩ | ⟨j, hj, h1, h0, h2, h3, h4⟩
      · exact .inl ⟨h1, by simp [getF, h, h2], by simp [putF, h, h3], by simp [dropF, h, h4]⟩
      · exact .inr ⟨j + 1, by simp; omega, by rw [h1]; congr 1; omega, by simpa using h0, by simp [getF, h, h2], by simp [putF, h, h3], by simp [dropF, h, h4]⟩
theorem at_range (n : ByteArray) (l : List S100) : -1 ≤ at_ n l 0 ∧ at_ n l 0 < l.length := by
  rcases at_cases n n l 0 with ⟨h, _⟩ | ⟨j, hj, h, _⟩ <;> rw [h] <;> omega
theorem impl_fieldAt_f {l : List S100} {n : ByteArray} (hl : l.length < 4398046511104) : impl_fieldAt.f l n = some (at_ n l 0) := by
  unfold impl_fieldAt.f; rw [if_pos hl]
theorem putF_length (n v : ByteArray) (l : List S100) : (putF n v l).length ≤ l.length + 1 := by
  rcases at_cases n v l 0 with ⟨_, _, h, _⟩ | ⟨j, hj, _, _, _, h, _⟩ <;> rw [h] <;> simp
theorem dropF_length (n : ByteArray) (l : List S100) : (dropF n l).length ≤ l.length := by
  rcases at_cases n n l 0 with ⟨_, _, _, h⟩ | ⟨j, hj, _, _, _, _, h⟩ <;> rw [h] <;> simp [List.length_eraseIdx] <;> split <;> omega
theorem spec_l2At_l0 (l : List S100) (n : ByteArray) (hl : (l.length : Int) ≤ 9223372036854775807) : ∀ (d k i : Nat), l.length - i = d → i ≤ l.length → d < k → spec_l2At.l0 k l n i = some (at_ n (l.drop i) i) := by
  intro d
  induction d with
  | zero =>
    intro k i hd hi hk
    obtain ⟨k, rfl⟩ := succ_of hk
    simp only [spec_l2At.l0]
    rw [if_neg (by omega), List.drop_eq_nil_of_le (by omega)]; rfl
  | succ d ih =>
    intro k i hd hi hk
    obtain ⟨k, rfl⟩ := succ_of hk
    have hlt : i < l.length := by omega
    have hx : rd_T100 l (i : Int) = l[i] := by simp [rd_T100, List.getD, hlt]
    simp only [spec_l2At.l0]
    rw [if_pos (by omega), if_pos (by omega), hx, nat_round hlt hl, ih k (i + 1) (by omega) (by omega) (by omega), drop_at hlt, at_cons]
    by_cases h : l[i].f0 = n
    · rw [if_pos h, if_pos (by rw [h])]
    · rw [if_neg h, if_neg (fun e => h (toList_inj e))]
theorem spec_l2At_f {k : Nat} {l : List S100} {n : ByteArray} (hl : (l.length : Int) ≤ 9223372036854775807) (hk : l.length < k) : spec_l2At.f k l n = some (at_ n l 0) := spec_l2At_l0 l n hl l.length k 0 (by omega) (by omega) hk
/-! ### Get, Put, Drop -/
theorem rd_F (l : List S100) (j : Nat) (h : j < l.length) : rd_T100 l (j : Int) = l[j] := by simp [rd_T100, List.getD, h]
theorem impl_Get_f {l : List S100} {n : ByteArray} (hl : l.length < 4398046511104) : impl_Get.f l n = some ((getF n l).getD ⟨#[]⟩, (getF n l).isSome) := by
  unfold impl_Get.f
  rw [impl_fieldAt_f hl, Option.bind_some]
  rcases at_cases n n l 0 with ⟨h1, h2, _, _⟩ | ⟨j, hj, h1, _, h2, _, _⟩
  · rw [h1, h2, if_pos (by omega)]; rfl
  · rw [h1, h2, if_neg (by omega), if_pos (by omega), if_pos (by omega), Nat.zero_add, rd_F l j hj]; rfl
theorem spec_Get_f {k : Nat} {l : List S100} {n : ByteArray} (hl : (l.length : Int) ≤ 9223372036854775807) (hk : l.length < k) : spec_Get.f k l n = some ((getF n l).getD ⟨#[]⟩, (getF n l).isSome) := by
  unfold spec_Get.f
  rw [spec_l2At_f hl hk, Option.bind_some]
  rcases at_cases n n l 0 with ⟨h1, h2, _, _⟩ | ⟨j, hj, h1, _, h2, _, _⟩
  · rw [h1, h2, if_pos (by omega)]; rfl
  · rw [h1, h2, if_neg (by omega), if_pos (by omega), if_pos (by omega), Nat.zero_add, rd_F l j hj]; rfl
/-! ### FieldsText, Drop, Short, ValuesOf, Same, Pieces, Suits -/
theorem fieldLines_length : ∀ l : List S100, ((fieldLines l).length : Int) = 4 * l.length + (l.map fun x => (x.f0.size : Int) + x.f1.size).foldr (· + ·) 0
  | [] => rfl
  | x :: r => by
    simp only [fieldLines, fieldLine, List.length_append, List.length_cons, List.map_cons, List.foldr_cons, data_length]
    have := fieldLines_length r
    simp only [List.length_nil]
    omega
theorem spec_FieldsText_l0 (l : List S100) (hl : (fieldLines l).length ≤ 1099511627776) (hn : (l.length : Int) ≤ 9223372036854775807) : ∀ (d k i : Nat) (acc : ByteArray), l.length - i = d → i ≤ l.length → B acc ++ fieldLines (l.drop i) = fieldLines l → d < k →
    spec_FieldsText.l0 k l acc i = some ⟨(fieldLines l).toArray⟩ := by
  intro d
  induction d with
  | zero =>
    intro k i acc hd hi ha hk
    obtain ⟨k, rfl⟩ := succ_of hk
    simp only [spec_FieldsText.l0]
    rw [List.drop_eq_nil_of_le (by omega), fieldLines, List.append_nil] at ha
    rw [if_neg (by omega), ← ha]
    exact congrArg some (B_ext (B_mk _).symm)
  | succ d ih =>
    intro k i acc hd hi ha hk
    obtain ⟨k, rfl⟩ := succ_of hk
    have hlt : i < l.length := by omega
    rw [drop_at hlt, fieldLines] at ha
    have hlen := congrArg List.length ha
    simp only [fieldLine, List.length_append, List.length_cons, List.length_nil, data_length, B_len] at hlen
    have ih := ih k (i + 1) (acc ++ l[i].f0 ++ ⟨#[58, 32]⟩ ++ l[i].f1 ++ ⟨#[13, 10]⟩) (by omega) (by omega) (by
      rw [← ha]
      simp only [B_append, fieldLine, List.append_assoc]
      rfl) (by omega)
    have s1 : (⟨#[58, 32]⟩ : ByteArray).size = 2 := rfl
    simp only [spec_FieldsText.l0]
    rw [if_pos (by omega), if_pos (by omega), rd_F l i hlt, nat_round (n := l.length) hlt hn, if_pos (by omega), if_pos (by simp only [ByteArray.size_append]; omega), if_pos (by simp only [ByteArray.size_append, s1]; omega), if_pos (by simp only [ByteArray.size_append, s1]; omega), ih]
theorem spec_FieldsText_f {k : Nat} {l : List S100} (hl : (fieldLines l).length ≤ 1099511627776) (hn : (l.length : Int) ≤ 9223372036854775807) (hk : l.length < k) : spec_FieldsText.f k l = some ⟨(fieldLines l).toArray⟩ := by
  have := spec_FieldsText_l0 l hl hn l.length k 0 ⟨#[]⟩ (by omega) (by omega) (by rw [List.drop_zero]; rfl) hk
  simpa [spec_FieldsText.f] using this
theorem impl_FieldsText_f {l : List S100} (hl : (fieldLines l).length ≤ 1099511627776) (hn : l.length < 4398046511104) : impl_FieldsText.f l = some ⟨(fieldLines l).toArray⟩ := by
  unfold impl_FieldsText.f
  rw [if_pos ⟨hn, hl⟩]
/-! ### NumText -/
def numT (n : Int) : ByteArray := if 0 ≤ n ∧ n ≤ 1000000 then ⟨(Lib.itoa n).toArray⟩ else ⟨#[]⟩
theorem digit_of (u : Nat) : oct ((wrap64 (48 + Int.tmod (u : Int) 10)) % 256) = UInt8.ofNat (48 + u % 10) := by
  have h : Int.tmod (u : Int) 10 = ((u % 10 : Nat) : Int) := by rw [Int.tmod_eq_emod_of_nonneg (by omega)]; omega
  rw [h, w64 (by omega), show (48 + ((u % 10 : Nat) : Int)) % 256 = ((48 + u % 10 : Nat) : Int) by omega]
  unfold oct
  rw [Int.toNat_natCast]
theorem decDigits_len (u : Nat) : ∀ d, u < 10 ^ (d + 1) → (Lib.decDigits u).length ≤ d + 1 := by
  intro d
  induction d generalizing u with
  | zero => intro h; rw [Lib.decDigits, dif_pos (by omega)]; simp
  | succ d ih =>
    intro h
    rw [Lib.decDigits]
    split
    · simp
    · have h10 : (10 : Nat) ^ (d + 1 + 1) = 10 ^ (d + 1) * 10 := rfl
      have := ih (u / 10) (by omega)
      simp only [List.length_append, List.length_cons, List.length_nil]; omega
theorem itoa_nat (u : Nat) : Lib.itoa (u : Int) = Lib.decDigits u := by
  unfold Lib.itoa; rw [if_neg (by omega), Int.toNat_natCast]
theorem numT_size (t : Int) : (numT t).size ≤ 20 := by
  unfold numT
  split
  · rename_i h
    obtain ⟨u, rfl⟩ : ∃ u : Nat, t = u := ⟨t.toNat, by omega⟩
    have hl := decDigits_len u 6 (by omega)
    rw [itoa_nat, ← B_len, B_mk (Lib.decDigits u)]; omega
  · simp [ByteArray.size]
theorem spec_NumText_l0 : ∀ (d k u : Nat) (acc : ByteArray), u < 10 ^ d → acc.size + d ≤ 1000 → u ≤ 4611686018427387904 → d < k →
    spec_NumText.l0 k (u : Int) acc = some (if u = 0 then acc else ⟨(Lib.decDigits u ++ B acc).toArray⟩) := by
  intro d
  induction d with
  | zero =>
    intro k u acc hu ha hb hk
    obtain ⟨k, rfl⟩ := succ_of hk
    obtain rfl : u = 0 := by simp at hu; omega
    simp only [spec_NumText.l0]
    rw [if_neg (by omega), if_pos trivial]
  | succ d ih =>
    intro k u acc hu ha hb hk
    obtain ⟨k, rfl⟩ := succ_of hk
    simp only [spec_NumText.l0]
    by_cases h0 : u = 0
    · rw [if_neg (by omega), if_pos h0]
    have h10 : (10 : Nat) ^ (d + 1) = 10 ^ d * 10 := rfl
    rw [if_pos (by omega), Option.bind_some, if_pos (by rw [strOfNums_size]; simp; omega), if_neg h0]
    have hdiv : wrap64 (Int.tdiv (u : Int) 10) = ((u / 10 : Nat) : Int) := by
      rw [Int.tdiv_eq_ediv_of_nonneg (by omega), w64 (by omega)]; omega
    rw [hdiv, ih k (u / 10) _ (by omega) (by rw [ByteArray.size_append, strOfNums_size]; simp; omega) (by omega) (by omega)]
    refine congrArg some ?_
    have hB : B (strOfNums [(wrap64 (48 + Int.tmod (u : Int) 10)) % 256] ++ acc) = UInt8.ofNat (48 + u % 10) :: B acc := by
      rw [B_append, B_strOf, List.map_cons, List.map_nil, digit_of]; rfl
    split
    · rename_i h1
      apply B_ext
      rw [hB, B_mk (Lib.decDigits u ++ B acc), Lib.decDigits, dif_pos (by omega), show u % 10 = u by omega]
      rfl
    · rename_i h1
      apply B_ext
      rw [hB, B_mk (Lib.decDigits (u / 10) ++ _), B_mk (Lib.decDigits u ++ B acc)]
      conv => rhs; rw [Lib.decDigits]
      rw [dif_neg (by omega), List.append_assoc]
      rfl
theorem spec_NumText_f {k : Nat} {n : Int} (hk : 30 < k) : spec_NumText.f k n = some (numT n) := by
  unfold spec_NumText.f numT
  rw [spec_l1In_f, Option.bind_some]
  by_cases h : 0 ≤ n ∧ n ≤ 1000000
  · rw [if_pos (decide_eq_true h), if_pos h]
    obtain ⟨u, rfl⟩ : ∃ u : Nat, n = u := ⟨n.toNat, by omega⟩
    rw [itoa_nat]
    by_cases h0 : u = 0
    · subst h0
      rw [if_pos (show ((0 : Nat) : Int) = 0 from rfl), Lib.decDigits, dif_pos (by omega)]; rfl
    · rw [if_neg (by omega), spec_NumText_l0 20 k u _ (by omega) (by decide) (by omega) (by omega), if_neg h0, B_empty, List.append_nil]
  · rw [if_neg (by simpa using h), if_neg h]
/-! ### Trim -/
def trimT (s : ByteArray) : ByteArray := ⟨(Lib.trimB (B s) 32).toArray⟩
theorem oct32 (c : UInt8) : ((c.toNat : Int) = 32) ↔ c = 32 := by
  constructor
  · intro h
    have : c.toNat = (32 : UInt8).toNat := by show c.toNat = 32; omega
    exact UInt8.toNat_inj.1 this
  · rintro rfl; rfl
theorem spec_Trim_l1 (s : ByteArray) (hs : (s.size : Int) ≤ 4611686018427387904) (i : Nat) (hi : i ≤ s.size) : ∀ (d k m : Nat), m = i + d → m ≤ s.size → d < k → (∀ j (h : j < (B s).length), m ≤ j → (B s)[j] = 32) →
    ∃ n, i ≤ n ∧ n ≤ s.size ∧ spec_Trim.l1 k s i m = some (s.extract i n) ∧ (∀ j (h : j < (B s).length), n ≤ j → (B s)[j] = 32) ∧ (n = i ∨ ∀ (h : n - 1 < (B s).length), (B s)[n - 1] ≠ 32) := by
  intro d
  induction d with
  | zero =>
    intro k m hm hms hk hall
    obtain ⟨k, rfl⟩ := succ_of hk
    refine ⟨m, by omega, hms, ?_, hall, .inl (by omega)⟩
    simp only [spec_Trim.l1]
    rw [if_neg (by omega), if_pos (by omega), if_pos (by omega), if_pos (by omega), Int.toNat_natCast, Int.toNat_natCast]
  | succ d ih =>
    intro k m hm hms hk hall
    obtain ⟨k, rfl⟩ := succ_of hk
    have hl : m - 1 < (B s).length := by rw [B_len]; omega
    have hw : wrap64 ((m : Int) - 1) = ((m - 1 : Nat) : Int) := by rw [w64 (by omega)]; omega
    simp only [spec_Trim.l1]
    rw [hw, if_pos (by omega), if_pos (by omega), if_pos (by omega), bt_get s (m - 1) hl]
    by_cases c : (B s)[m - 1] = 32
    · rw [if_pos ((oct32 _).2 c)]
      refine ih k (m - 1) (by omega) (by omega) (by omega) (fun j h hj => ?_)
      by_cases e : j = m - 1
      · subst e; exact c
      · exact hall j h (by omega)
    · rw [if_neg (fun e => c ((oct32 _).1 e)), if_pos (by omega), if_pos (by omega), if_pos (by omega), Int.toNat_natCast, Int.toNat_natCast]
      exact ⟨m, by omega, hms, rfl, hall, .inr fun _ => c⟩
theorem trim_is (s : ByteArray) (i n : Nat) (hi : i ≤ n) (hn : n ≤ s.size) (h1 : ∀ j (h : j < (B s).length), j < i → (B s)[j] = 32) (h2 : ∀ h : i < (B s).length, (B s)[i] ≠ 32) (h3 : ∀ j (h : j < (B s).length), n ≤ j → (B s)[j] = 32) (h4 : n = i ∨ ∀ (h : n - 1 < (B s).length), (B s)[n - 1] ≠ 32) :
    s.extract i n = trimT s := by
  apply B_ext
  rw [B_extract]
  unfold trimT
  rw [B_mk (Lib.trimB (B s) 32)]
  have hlen := B_len s
  unfold Lib.trimB
  by_cases hi' : i < s.size
  · have hni : n ≠ i := fun e => h2 (by omega) (h3 i (by omega) (by omega))
    rw [Lib.trimRightB_take (B s) 32 n (by omega) (fun j b hj hb => by
      obtain ⟨hj', rfl⟩ := List.getElem?_eq_some_iff.1 hb
      exact h3 j hj' hj) (fun b _ hb => by
      obtain ⟨hj', rfl⟩ := List.getElem?_eq_some_iff.1 hb
      rcases h4 with h4 | h4
      · exact absurd h4 hni
      · exact h4 hj'),
      Lib.trimLeftB_drop ((B s).take n) 32 i (by rw [List.length_take]; omega) (fun j b hj hb => by
        rw [List.getElem?_take_of_lt (by omega)] at hb
        obtain ⟨hj', rfl⟩ := List.getElem?_eq_some_iff.1 hb
        exact h1 j hj' hj) (fun b hb => by
        rw [List.getElem?_take_of_lt (by omega)] at hb
        obtain ⟨hj', rfl⟩ := List.getElem?_eq_some_iff.1 hb
        exact h2 hj')]
  · rw [Lib.trimRightB_take (B s) 32 0 (by omega) (fun j b _ hb => by
      obtain ⟨hj', rfl⟩ := List.getElem?_eq_some_iff.1 hb
      exact h1 j hj' (by omega)) (fun b h _ => by omega)]
    rw [List.drop_eq_nil_of_le (by rw [List.length_take]; omega)]
    rfl
theorem spec_Trim_l0 (s : ByteArray) (hs : (s.size : Int) ≤ 4611686018427387904) : ∀ (d k i : Nat), s.size = i + d → d + s.size + 2 < k → (∀ j (h : j < (B s).length), j < i → (B s)[j] = 32) → spec_Trim.l0 k s i (s.size : Int) = some (trimT s) := by
  intro d
  have fin : ∀ (k i : Nat), i ≤ s.size → s.size + 1 < k → (∀ j (h : j < (B s).length), j < i → (B s)[j] = 32) → (∀ h : i < (B s).length, (B s)[i] ≠ 32) → spec_Trim.j1 k s i (s.size : Int) = some (trimT s) := by
    intro k i hi hk h1 h2
    obtain ⟨k, rfl⟩ := succ_of (show 0 < k by omega)
    simp only [spec_Trim.j1]
    obtain ⟨n, n1, n2, n3, n4, n5⟩ := spec_Trim_l1 s hs i hi (s.size - i) k s.size (by omega) (Nat.le_refl _) (by omega) (fun j h hj => by rw [B_len] at h; omega)
    rw [n3, trim_is s i n n1 n2 h1 h2 n4 n5]
  induction d with
  | zero =>
    intro k i hd hk hall
    obtain ⟨k, rfl⟩ := succ_of (show 0 < k by omega)
    simp only [spec_Trim.l0]
    rw [if_neg (by omega)]
    exact fin k i (by omega) (by omega) hall (fun h => by rw [B_len] at h; omega)
  | succ d ih =>
    intro k i hd hk hall
    obtain ⟨k, rfl⟩ := succ_of (show 0 < k by omega)
    have hl : i < (B s).length := by rw [B_len]; omega
    simp only [spec_Trim.l0]
    rw [if_pos (by omega), if_pos (by omega), if_pos (by omega), bt_get s i hl, nat_round (n := s.size) (by omega) (by omega)]
    by_cases c : (B s)[i] = 32
    · rw [if_pos ((oct32 _).2 c)]
      refine ih k (i + 1) (by omega) (by omega) (fun j h hj => ?_)
      by_cases e : j = i
      · subst e; exact c
      · exact hall j h (by omega)
    · rw [if_neg (fun e => c ((oct32 _).1 e))]
      exact fin k i (by omega) (by omega) hall (fun _ => c)
theorem spec_Trim_f {k : Nat} {s : ByteArray} (hs : (s.size : Int) ≤ 4611686018427387904) (hk : 2 * s.size + 2 < k) : spec_Trim.f k s = some (trimT s) :=
  spec_Trim_l0 s hs s.size k 0 (by omega) (by omega) (fun j _ hj => by omega)
theorem impl_Trim_f {s : ByteArray} (hs : (s.size : Int) ≤ 4611686018427387904) : impl_Trim.f s = some (trimT s) := by
  unfold impl_Trim.f strings_Trim.f
  rw [if_pos ⟨rfl, by omega⟩, Option.bind_some]
  rfl
/-! ### NumRead -/
def decV (acc : Nat) (l : List UInt8) : Nat := l.foldl (fun a c => a * 10 + (c.toNat - 48)) acc
def digs (l : List UInt8) : Bool := l.all fun c => decide (48 ≤ c.toNat ∧ c.toNat ≤ 57)
theorem decV_cons (acc : Nat) (c : UInt8) (r : List UInt8) : decV acc (c :: r) = decV (acc * 10 + (c.toNat - 48)) r := by unfold decV; rw [List.foldl_cons]
theorem decV_nil (acc : Nat) : decV acc [] = acc := by unfold decV; rw [List.foldl_nil]
theorem decV_append (a b : List UInt8) (acc : Nat) : decV acc (a ++ b) = decV (decV acc a) b := by
  induction a generalizing acc with
  | nil => rw [List.nil_append, decV_nil]
  | cons c r ih => rw [List.cons_append, decV_cons, decV_cons, ih]
theorem digit_nat (u : Nat) (h : u < 10) : (UInt8.ofNat (48 + u)).toNat = 48 + u := by
  exact UInt8.toNat_ofNat_of_lt' (by show 48 + u < 256; omega)
theorem dec_facts (u : Nat) : decV 0 (Lib.decDigits u) = u ∧ digs (Lib.decDigits u) = true ∧ Lib.decDigits u ≠ [] := by
  induction u using Nat.strongRecOn with
  | _ u ih =>
    rw [Lib.decDigits]
    split
    · rename_i h
      refine ⟨?_, ?_, by simp⟩
      · rw [decV_cons, decV_nil, digit_nat u h]; omega
      · simp only [digs, List.all_cons, List.all_nil]; rw [digit_nat u h, decide_eq_true (by omega)]; rfl
    · rename_i h
      obtain ⟨h1, h2, h3⟩ := ih (u / 10) (by omega)
      refine ⟨?_, ?_, by simp⟩
      · rw [decV_append, h1, decV_cons, decV_nil, digit_nat (u % 10) (by omega)]; omega
      · unfold digs at h2 ⊢
        rw [List.all_append, h2, List.all_cons, List.all_nil, digit_nat (u % 10) (by omega), decide_eq_true (by omega)]; rfl
theorem parse_digs : ∀ (l : List UInt8) (acc j : Nat), digs l = true → acc < 10 ^ j → j + l.length ≤ 18 → Lib.parseUint10 acc l = .ok (decV acc l)
  | [], acc, j, _, _, _ => by rw [decV_nil]; rfl
  | c :: r, acc, j, hd, ha, hj => by
    unfold digs at hd
    rw [List.all_cons, Bool.and_eq_true] at hd
    have hc := of_decide_eq_true hd.1
    simp only [List.length_cons] at hj
    have hp : (10 : Nat) ^ (j + 1) = 10 ^ j * 10 := rfl
    have hb : (10 : Nat) ^ j ≤ 10 ^ 17 := Nat.pow_le_pow_right (by omega) (by omega)
    simp only [Lib.parseUint10]
    rw [decV_cons, if_pos hc, if_neg (by omega), if_neg (by omega)]
    exact parse_digs r _ (j + 1) hd.2 (by omega) (by omega)
theorem atoi_dec (n : Nat) (h : n ≤ 1000000) : Lib.atoiAll (Lib.decDigits n) = .ok (n : Int) := by
  obtain ⟨h1, h2, h3⟩ := dec_facts n
  have hl := decDigits_len n 6 (by omega)
  have hp := parse_digs (Lib.decDigits n) 0 0 h2 (by omega) (by omega)
  rw [h1] at hp
  cases e : Lib.decDigits n with
  | nil => exact absurd e h3
  | cons c r =>
    rw [e] at hp h2
    unfold digs at h2
    rw [List.all_cons, Bool.and_eq_true] at h2
    have hc := of_decide_eq_true h2.1
    simp only [Lib.atoiAll]
    rw [if_neg (by omega)]
    unfold Lib.parseMag
    rw [if_neg (by simp), hp]
    simp only
    rw [if_neg (by omega), if_neg (by omega), if_neg (by omega)]
theorem numRead_yes {s : ByteArray} {n : Nat} (h : n ≤ 1000000) (hs : B s = Lib.decDigits n) : numRead s = ((n : Int), true) := by
  have hl := decDigits_len n 6 (by omega)
  rw [← hs, B_len] at hl
  unfold numRead
  rw [if_neg (by omega)]
  show (match Lib.atoiAll (B s) with | .ok n => if 0 ≤ n ∧ n ≤ 1000000 ∧ Lib.itoa n = B s then (n, true) else (0, false) | _ => (0, false)) = _
  rw [hs, atoi_dec n h]
  simp only
  rw [if_pos ⟨by omega, by omega, itoa_nat n⟩]
theorem numRead_no {s : ByteArray} (h : ∀ n : Nat, n ≤ 1000000 → B s ≠ Lib.decDigits n) : numRead s = (0, false) := by
  unfold numRead
  split
  · rfl
  split
  · rename_i n _
    rw [if_neg]
    rintro ⟨h1, h2, h3⟩
    obtain ⟨u, rfl⟩ : ∃ u : Nat, n = u := ⟨n.toNat, by omega⟩
    rw [itoa_nat] at h3
    exact h u (by omega) h3.symm
  · rfl
theorem spec_NumRead_l0 (s : ByteArray) (hs : s.size ≤ 7) : ∀ (d k i v : Nat), s.size = i + d → v < 10 ^ i → d + 40 < k →
    spec_NumRead.l0 k s v i = some (if digs ((B s).drop i) = true ∧ numT ((decV v ((B s).drop i) : Nat) : Int) = s then (((decV v ((B s).drop i) : Nat) : Int), true) else (0, false)) := by
  intro d
  induction d with
  | zero =>
    intro k i v hd hv hk
    obtain ⟨k, rfl⟩ := succ_of (show 0 < k by omega)
    simp only [spec_NumRead.l0]
    rw [if_neg (by omega), List.drop_eq_nil_of_le (by rw [B_len]; omega), spec_NumText_f (by omega), Option.bind_some, decV_nil]
    by_cases h : numT (v : Int) = s
    · rw [if_pos (by rw [h]), if_pos ⟨rfl, h⟩]
    · rw [if_neg (fun e => h (toList_inj e)), if_neg (fun e => h e.2)]
  | succ d ih =>
    intro k i v hd hv hk
    obtain ⟨k, rfl⟩ := succ_of (show 0 < k by omega)
    have hl : i < (B s).length := by rw [B_len]; omega
    have hp : (10 : Nat) ^ (i + 1) = 10 ^ i * 10 := rfl
    have hb : (10 : Nat) ^ i ≤ 10 ^ 7 := Nat.pow_le_pow_right (by omega) (by omega)
    simp only [spec_NumRead.l0]
    rw [if_pos (by omega), if_pos (by omega), bt_get s i hl, nat_round (n := s.size) (by omega) (by omega), drop_at hl, decV_cons]
    by_cases h1 : ((B s)[i].toNat : Int) < 48
    · rw [if_pos h1, if_neg]
      rintro ⟨e, _⟩
      unfold digs at e
      rw [List.all_cons, decide_eq_false (by omega)] at e
      exact Bool.noConfusion e
    rw [if_neg h1]
    by_cases h2 : ((B s)[i].toNat : Int) > 57
    · rw [if_pos h2, if_neg]
      rintro ⟨e, _⟩
      unfold digs at e
      rw [List.all_cons, decide_eq_false (by omega)] at e
      exact Bool.noConfusion e
    rw [if_neg h2, w64 (n := 10 * (v : Int)) (by omega), w64 (n := ((B s)[i].toNat : Int)) (by omega), w64 (n := 10 * (v : Int) + _) (by omega), w64 (by omega),
      show 10 * (v : Int) + ((B s)[i].toNat : Int) - 48 = ((v * 10 + ((B s)[i].toNat - 48) : Nat) : Int) by omega, ih k (i + 1) _ (by omega) (by omega) (by omega)]
    have hg : digs ((B s)[i] :: (B s).drop (i + 1)) = digs ((B s).drop (i + 1)) := by
      unfold digs
      rw [List.all_cons, decide_eq_true (by omega), Bool.true_and]
    rw [hg]
theorem spec_NumRead_f {k : Nat} {s : ByteArray} (hk : 60 < k) : spec_NumRead.f k s = some (numRead s) := by
  obtain ⟨k, rfl⟩ := succ_of (show 0 < k by omega)
  have hlenf : ∀ n : Nat, n ≤ 1000000 → B s = Lib.decDigits n → 1 ≤ s.size ∧ s.size ≤ 7 := fun n h e => by
    obtain ⟨_, _, h3⟩ := dec_facts n
    have hl := decDigits_len n 6 (by omega)
    have : 1 ≤ (Lib.decDigits n).length := by
      cases e : Lib.decDigits n with
      | nil => exact absurd e h3
      | cons c r => simp
    rw [← e, B_len] at hl this
    omega
  unfold spec_NumRead.f
  have e0 : (s.toList = []) ↔ s.size = 0 := by
    rw [toList_B]
    constructor
    · intro e; rw [← B_len, e]; rfl
    · intro e; exact List.eq_nil_of_length_eq_zero (by rw [B_len, e])
  by_cases h0 : s.size = 0
  · rw [if_pos (e0.2 h0)]
    simp only [spec_NumRead.j0]
    rw [if_pos trivial, numRead_no (fun n h e => by have := hlenf n h e; omega)]
  rw [if_neg (fun e => h0 (e0.1 e))]
  simp only [spec_NumRead.j0]
  by_cases h7 : s.size > 7
  · rw [if_pos (decide_eq_true (by omega)), numRead_no (fun n h e => by have := hlenf n h e; omega)]
  rw [if_neg (by simp; omega)]
  have hl0 := spec_NumRead_l0 s (by omega) s.size k 0 0 (by omega) (by omega) (by omega)
  rw [List.drop_zero] at hl0
  refine hl0.trans (congrArg some ?_)
  by_cases h : ∃ n : Nat, n ≤ 1000000 ∧ B s = Lib.decDigits n
  · obtain ⟨n, hn, e⟩ := h
    obtain ⟨h1, h2, h3⟩ := dec_facts n
    have hT : numT (n : Int) = s := by
      unfold numT
      rw [if_pos (by omega), itoa_nat, ← e]
      exact B_ext (B_mk _)
    rw [numRead_yes hn e, e, h1, if_pos ⟨h2, hT⟩]
  · rw [numRead_no (fun n hn e => h ⟨n, hn, e⟩), if_neg]
    rintro ⟨_, e⟩
    unfold numT at e
    split at e
    · rename_i hr
      rw [itoa_nat] at e
      exact h ⟨decV 0 (B s), by omega, (congrArg B e).symm.trans (B_mk (Lib.decDigits _))⟩
    · exact h0 (by rw [← e]; rfl)
theorem impl_NumRead_f {s : ByteArray} : impl_NumRead.f s = some (numRead s) := rfl
/-! ### ValueOk, paths, times -/
def fromB (m : Int) (s : ByteArray) : Bool := (B s).all fun c => decide (m ≤ (c.toNat : Int) ∧ (c.toNat : Int) ≤ 126)
def fromD (m : Int) (l : List UInt8) : Bool := l.all fun c => decide (m ≤ (c.toNat : Int) ∧ (c.toNat : Int) ≤ 126)
def valB (s : ByteArray) : Bool := decide (1 ≤ s.size ∧ s.size ≤ 60) && fromB 32 s && decide (trimT s = s)
theorem beq_texts (a b : ByteArray) : (a.toList == b.toList) = decide (a = b) := by
  rw [Bool.eq_iff_iff, beq_iff_eq, decide_eq_true_eq, toList_iff]
theorem in_range (s : ByteArray) (a b : Nat) : decide ((a : Int) ≤ (s.size : Int) ∧ (s.size : Int) ≤ (b : Int)) = decide (a ≤ s.size ∧ s.size ≤ b) := decide_eq_decide.2 (by omega)
theorem spec_ValueOk_l0 (s : ByteArray) (hs : (s.size : Int) ≤ 4611686018427387904) : ∀ (d k i : Nat), s.size = i + d → d + 2 * s.size + 3 < k →
    spec_ValueOk.l0 k s i = some (fromD 32 ((B s).drop i) && decide (1 ≤ s.size ∧ s.size ≤ 60) && decide (trimT s = s)) := by
  intro d
  induction d with
  | zero =>
    intro k i hd hk
    obtain ⟨k, rfl⟩ := succ_of (show 0 < k by omega)
    simp only [spec_ValueOk.l0]
    rw [if_neg (by omega), spec_l1In_f, Option.bind_some, List.drop_eq_nil_of_le (by rw [B_len]; omega), show (1 : Int) = ((1 : Nat) : Int) from rfl, show (60 : Int) = ((60 : Nat) : Int) from rfl, in_range]
    by_cases h : 1 ≤ s.size ∧ s.size ≤ 60
    · rw [if_pos (decide_eq_true h), spec_Trim_f hs (by omega), Option.bind_some, beq_texts, decide_eq_true h]; simp [fromD]
    · rw [if_neg (by simpa using h), decide_eq_false h]; simp
  | succ d ih =>
    intro k i hd hk
    obtain ⟨k, rfl⟩ := succ_of (show 0 < k by omega)
    have hl : i < (B s).length := by rw [B_len]; omega
    simp only [spec_ValueOk.l0]
    rw [if_pos (by omega), if_pos (by omega), bt_get s i hl, nat_round (n := s.size) (by omega) (by omega), drop_at hl]
    unfold fromD
    rw [List.all_cons]
    by_cases h1 : ((B s)[i].toNat : Int) < 32
    · rw [if_pos h1, decide_eq_false (by omega)]; simp
    · rw [if_neg h1]
      by_cases h2 : ((B s)[i].toNat : Int) > 126
      · rw [if_pos h2, decide_eq_false (by omega)]; simp
      · rw [if_neg h2, decide_eq_true (by omega), Bool.true_and, ih k (i + 1) (by omega) (by omega)]; rfl
theorem spec_ValueOk_f {k : Nat} {s : ByteArray} (hs : (s.size : Int) ≤ 4611686018427387904) (hk : 3 * s.size + 3 < k) : spec_ValueOk.f k s = some (valB s) := by
  unfold spec_ValueOk.f
  rw [show (0 : Int) = ((0 : Nat) : Int) from rfl, spec_ValueOk_l0 s hs s.size k 0 (by omega) (by omega), List.drop_zero]
  unfold valB
  rw [Bool.and_comm (fromD 32 (B s))]; rfl
theorem impl_areFrom_l0 (s : ByteArray) (m : Int) (hs : (s.size : Int) ≤ 4611686018427387904) : ∀ (d k i : Nat), s.size = i + d → d < k → impl_areFrom.l0 k s m i = some (fromD m ((B s).drop i)) := by
  intro d
  induction d with
  | zero =>
    intro k i hd hk
    obtain ⟨k, rfl⟩ := succ_of (show 0 < k by omega)
    simp only [impl_areFrom.l0]
    rw [if_neg (by omega), List.drop_eq_nil_of_le (by rw [B_len]; omega)]; rfl
  | succ d ih =>
    intro k i hd hk
    obtain ⟨k, rfl⟩ := succ_of (show 0 < k by omega)
    have hl : i < (B s).length := by rw [B_len]; omega
    simp only [impl_areFrom.l0]
    rw [if_pos (by omega), if_pos (by omega), bt_get s i hl, nat_round (n := s.size) (by omega) (by omega), drop_at hl]
    unfold fromD
    rw [List.all_cons]
    by_cases h1 : ((B s)[i].toNat : Int) < m
    · rw [if_pos h1, decide_eq_false (by omega)]; simp
    · rw [if_neg h1]
      by_cases h2 : ((B s)[i].toNat : Int) > 126
      · rw [if_pos h2, decide_eq_false (by omega)]; simp
      · rw [if_neg h2, decide_eq_true (by omega), Bool.true_and, ih k (i + 1) (by omega) (by omega)]; rfl
theorem impl_areFrom_f {k : Nat} {s : ByteArray} {m : Int} (hs : (s.size : Int) ≤ 4611686018427387904) (hk : s.size < k) : impl_areFrom.f k s m = some (fromB m s) := by
  have := impl_areFrom_l0 s m hs s.size k 0 (by omega) hk
  rw [List.drop_zero] at this
  exact this
theorem impl_ValueOk_f {k : Nat} {s : ByteArray} (hs : (s.size : Int) ≤ 4611686018427387904) (hk : s.size < k) : impl_ValueOk.f k s = some (valB s) := by
  unfold impl_ValueOk.f valB
  rw [impl_inRange_f, Option.bind_some, show (1 : Int) = ((1 : Nat) : Int) from rfl, show (60 : Int) = ((60 : Nat) : Int) from rfl, in_range]
  by_cases h : 1 ≤ s.size ∧ s.size ≤ 60
  · rw [if_pos (decide_eq_true h), impl_areFrom_f hs hk, Option.bind_some, decide_eq_true h, Bool.true_and]
    cases hf : fromB 32 s
    · rw [if_neg (by simp)]; simp
    · rw [if_pos rfl, impl_Trim_f hs, Option.bind_some, beq_texts, Bool.true_and]
  · rw [if_neg (by simpa using h), decide_eq_false h]; simp
/-! ### FieldsOk -/
def lenName (s : ByteArray) : Bool := decide (s.toList = [99, 111, 110, 116, 101, 110, 116, 45, 108, 101, 110, 103, 116, 104])
def okFs (l : List S100) : Nat → List S100 → Bool
  | _, [] => decide (l.length ≤ 8)
  | i, x :: r => tokB x.f0 && (valB x.f1 && (!lenName x.f0 && (decide (at_ x.f0 l 0 = (i : Int)) && okFs l (i + 1) r)))
def fieldsB (l : List S100) : Bool := okFs l 0 l
/-- a list of fields of at most K of anything -/
def SmallF (K : Nat) (l : List S100) : Prop := l.length ≤ K ∧ ∀ x ∈ l, x.f0.size ≤ K ∧ x.f1.size ≤ K
theorem FieldsOk_l0 (K : Nat) (hK : K < 4398046511104) (l : List S100) (hl : SmallF K l) : ∀ (d k i : Nat), l.length = i + d → d + 4 * K + 4 < k →
    spec_FieldsOk.l0 k l i = some (okFs l i (l.drop i)) ∧ impl_FieldsOk.l0 k l l (l.length : Int) i = some (okFs l i (l.drop i)) := by
  obtain ⟨hn, hx⟩ := hl
  intro d
  induction d with
  | zero =>
    intro k i hd hk
    obtain ⟨k, rfl⟩ := succ_of (show 0 < k by omega)
    simp only [spec_FieldsOk.l0, impl_FieldsOk.l0]
    have h8 : decide ((l.length : Int) ≤ 8) = decide (l.length ≤ 8) := decide_eq_decide.2 (by omega)
    rw [if_neg (by omega), if_neg (by omega), List.drop_eq_nil_of_le (by omega), okFs, h8]
    exact ⟨rfl, rfl⟩
  | succ d ih =>
    intro k i hd hk
    obtain ⟨k, rfl⟩ := succ_of (show 0 < k by omega)
    have hlt : i < l.length := by omega
    obtain ⟨s0, s1⟩ := hx _ (List.getElem_mem hlt)
    obtain ⟨i1, i2⟩ := ih k (i + 1) (by omega) (by omega)
    simp only [spec_FieldsOk.l0, impl_FieldsOk.l0]
    rw [rd_F l i hlt, nat_round (n := l.length) hlt (by omega), drop_at hlt, okFs]
    refine ⟨?_, ?_⟩
    · rw [if_pos (by omega), if_pos (by omega), spec_TokenOk_f (by omega) (by omega), Option.bind_some]
      cases tokB l[i].f0
      · rfl
      rw [if_pos rfl, spec_ValueOk_f (by omega) (by omega), Option.bind_some]
      cases valB l[i].f1
      · rfl
      rw [if_pos rfl, spec_l2At_f (by omega) (by omega), Option.bind_some]
      unfold lenName
      by_cases ha : at_ l[i].f0 l 0 = (i : Int)
      · rw [if_pos ha, decide_eq_true ha]
        by_cases hL : l[i].f0.toList = [99, 111, 110, 116, 101, 110, 116, 45, 108, 101, 110, 103, 116, 104]
        · rw [if_pos hL, decide_eq_true hL]; rfl
        · rw [if_neg hL, decide_eq_false hL, i1]; rfl
      · rw [if_neg ha, decide_eq_false ha]; simp
    · rw [if_pos (by omega), if_pos (by omega), if_pos (by omega), impl_TokenOk_f (by omega) (by omega), Option.bind_some]
      cases tokB l[i].f0
      · rfl
      rw [if_pos rfl, impl_ValueOk_f (by omega) (by omega), Option.bind_some]
      cases valB l[i].f1
      · rfl
      rw [if_pos rfl]
      unfold lenName
      by_cases hL : l[i].f0.toList = [99, 111, 110, 116, 101, 110, 116, 45, 108, 101, 110, 103, 116, 104]
      · rw [if_pos hL, decide_eq_true hL]; rfl
      rw [if_neg hL, decide_eq_false hL, impl_fieldAt_f (by omega), Option.bind_some]
      by_cases ha : at_ l[i].f0 l 0 = (i : Int)
      · rw [if_pos ha, decide_eq_true ha, i2]; rfl
      · rw [if_neg ha, decide_eq_false ha]; rfl
theorem spec_FieldsOk_f {k K : Nat} {l : List S100} (hK : K < 4398046511104) (hl : SmallF K l) (hk : 5 * K + 4 < k) : spec_FieldsOk.f k l = some (fieldsB l) := by
  have := (FieldsOk_l0 K hK l hl l.length k 0 (by omega) (by have := hl.1; omega)).1
  simpa [spec_FieldsOk.f, fieldsB] using this
theorem impl_FieldsOk_f {k K : Nat} {l : List S100} (hK : K < 4398046511104) (hl : SmallF K l) (hk : 5 * K + 4 < k) : impl_FieldsOk.f k l = some (fieldsB l) := by
  have := (FieldsOk_l0 K hK l hl l.length k 0 (by omega) (by have := hl.1; omega)).2
  simpa [impl_FieldsOk.f, fieldsB] using this
def respB (m : Int) (l : List S100) (b : ByteArray) : Bool := decide (100 ≤ m ∧ m ≤ 599) && (decide (b.size ≤ 120) && fieldsB l)
theorem le120 (b : ByteArray) : decide ((b.size : Int) ≤ 120) = decide (b.size ≤ 120) := decide_eq_decide.2 (by omega)
theorem spec_RespOk_f {k K : Nat} {m : Int} {l : List S100} {b : ByteArray} (hK : K < 4398046511104) (hl : SmallF K l) (hk : 5 * K + 4 < k) : spec_RespOk.f k m l b = some (respB m l b) := by
  unfold spec_RespOk.f respB
  rw [spec_l1In_f, Option.bind_some]
  by_cases h : 100 ≤ m ∧ m ≤ 599
  · rw [if_pos (decide_eq_true h), decide_eq_true h, spec_FieldsOk_f hK hl hk, Option.bind_some, le120]
    cases fieldsB l <;> simp
  · rw [if_neg (by simpa using h), decide_eq_false h]; rfl
theorem impl_RespOk_f {k K : Nat} {m : Int} {l : List S100} {b : ByteArray} (hK : K < 4398046511104) (hl : SmallF K l) (hk : 5 * K + 4 < k) : impl_RespOk.f k m l b = some (respB m l b) := by
  unfold impl_RespOk.f respB
  rw [impl_inRange_f, Option.bind_some]
  by_cases h : 100 ≤ m ∧ m ≤ 599
  · rw [if_pos (decide_eq_true h), decide_eq_true h]
    by_cases h2 : b.size ≤ 120
    · rw [if_pos (by omega), impl_FieldsOk_f hK hl hk, Option.bind_some, decide_eq_true h2]; rfl
    · rw [if_neg (by omega), decide_eq_false h2]; rfl
  · rw [if_neg (by simpa using h), decide_eq_false h]; rfl
/-! ### strings.Split in plain words -/
theorem splitBs_none (s sep : ByteArray) (h : ∀ j, j ≤ (B s).length → Lib.occAt (B s) (B sep) j = false) : splitBs s sep = [s] := by
  have hi : Lib.indexB s sep = -1 := Lib.index_none h
  unfold splitBs
  exact Lib.splitB_miss sep 0 _ s hi
theorem splitBs_at (s sep : ByteArray) (i : Nat) (h1 : 1 ≤ sep.size) (hi : i ≤ (B s).length) (ho : Lib.occAt (B s) (B sep) i = true) (hn : ∀ j, j < i → Lib.occAt (B s) (B sep) j = false) :
    splitBs s sep = s.extract 0 i :: splitBs (s.extract (i + sep.size) s.size) sep := by
  have hx : Lib.indexB s sep = (i : Int) := Lib.index_first hi ho hn
  unfold splitBs
  rw [Lib.countB_hit s sep i h1 hx, Nat.add_comm 1, Lib.splitB_hit sep 0 _ s i hx, Nat.add_zero]
theorem occ_one (l : List UInt8) (c : UInt8) (j : Nat) : Lib.occAt l [c] j = (match l[j]? with | some x => c == x | none => false) := by
  unfold Lib.occAt
  by_cases h : j < l.length
  · rw [drop_at h, List.getElem?_eq_getElem h]; simp [List.isPrefixOf]
  · rw [List.drop_eq_nil_of_le (by omega), List.getElem?_eq_none (by omega)]; rfl
theorem split1_none (s : ByteArray) (c : UInt8) (h : ∀ j (h : j < (B s).length), (B s)[j] ≠ c) : splitBs s ⟨#[c]⟩ = [s] := by
  refine splitBs_none s _ (fun j hj => ?_)
  show Lib.occAt (B s) [c] j = false
  rw [occ_one]
  by_cases hl : j < (B s).length
  · rw [List.getElem?_eq_getElem hl]; simp only; rw [beq_eq_false_iff_ne]; exact fun e => h j hl e.symm
  · rw [List.getElem?_eq_none (by omega)]
theorem split1_at (s : ByteArray) (c : UInt8) (i : Nat) (hi : i < (B s).length) (h1 : (B s)[i] = c) (h2 : ∀ j (h : j < (B s).length), j < i → (B s)[j] ≠ c) : splitBs s ⟨#[c]⟩ = s.extract 0 i :: splitBs (s.extract (i + 1) s.size) ⟨#[c]⟩ := by
  refine splitBs_at s ⟨#[c]⟩ i (by show 1 ≤ 1; omega) (by omega) ?_ (fun j hj => ?_)
  · show Lib.occAt (B s) [c] i = true
    rw [occ_one, List.getElem?_eq_getElem hi, h1]; simp
  · show Lib.occAt (B s) [c] j = false
    rw [occ_one, List.getElem?_eq_getElem (by omega)]; simp only; rw [beq_eq_false_iff_ne]; exact fun e => h2 j (by omega) hj e.symm
theorem B_get_extract (s : ByteArray) (a b j : Nat) (hj : j < (B (s.extract a b)).length) : ∃ h : a + j < (B s).length, (B (s.extract a b))[j] = (B s)[a + j] ∧ a + j < b := by
  have e := B_extract s a b
  have hl : j < (((B s).take b).drop a).length := by rw [← e]; exact hj
  simp only [List.length_drop, List.length_take] at hl
  refine ⟨by omega, ?_, by omega⟩
  simp only [e, List.getElem_drop, List.getElem_take]
theorem splitBs_len (s sep : ByteArray) (h1 : 1 ≤ sep.size) : (splitBs s sep).length ≤ s.size + 1 := by
  have h := Lib.splitB_length_le sep 0 (Lib.countB s sep) s
  have h2 := Lib.countB_le sep h1 _ s (Nat.le_refl _)
  unfold splitBs; omega
/-! ### Split -/
def wordsOf (l : List ByteArray) : List ByteArray := (l.map trimT).filter fun t => !decide (t.toList = [])
theorem wordsOf_cons (x : ByteArray) (r : List ByteArray) : wordsOf (x :: r) = if (trimT x).toList = [] then wordsOf r else trimT x :: wordsOf r := by
  unfold wordsOf
  rw [List.map_cons, List.filter_cons]
  by_cases h : (trimT x).toList = [] <;> simp [h]
def splitT (s : ByteArray) : List ByteArray := wordsOf (splitBs s ⟨#[44]⟩)
theorem impl_Split_l0 (l : List ByteArray) (hl : l.length ≤ 4294967296) (hx : ∀ x ∈ l, x.size ≤ 4294967296) : ∀ (d k i : Nat) (acc : List ByteArray), l.length - i = d → i ≤ l.length → acc.length ≤ i → d < k →
    impl_Split.l0 k acc l (l.length : Int) i = some (acc ++ wordsOf (l.drop i)) := by
  intro d
  induction d with
  | zero =>
    intro k i acc hd hi ha hk
    obtain ⟨k, rfl⟩ := succ_of hk
    simp only [impl_Split.l0]
    rw [if_neg (by omega), List.drop_eq_nil_of_le (by omega)]; simp [wordsOf]
  | succ d ih =>
    intro k i acc hd hi ha hk
    obtain ⟨k, rfl⟩ := succ_of hk
    have hlt : i < l.length := by omega
    have hs := hx _ (List.getElem_mem hlt)
    simp only [impl_Split.l0]
    rw [if_pos (by omega), if_pos (by omega), if_pos (by omega), rd_B l i hlt, impl_Trim_f (by omega), Option.bind_some, nat_round (n := l.length) hlt (by omega), drop_at hlt, wordsOf_cons]
    by_cases h : (trimT l[i]).toList = []
    · rw [if_pos h, if_pos h, ih k (i + 1) acc (by omega) (by omega) (by omega) (by omega)]
    · rw [if_neg h, if_neg h, if_pos (by omega), ih k (i + 1) _ (by omega) (by omega) (by simp; omega) (by omega), List.append_assoc]; rfl
theorem splitBs_small : ∀ (n : Nat) (s sep : ByteArray), s.size ≤ n → 1 ≤ sep.size → ∀ x ∈ splitBs s sep, x.size ≤ s.size := by
  intro n s sep _ h1
  unfold splitBs
  generalize Lib.countB s sep = c
  induction c generalizing s n with
  | zero => intro x hx; simp only [Lib.splitB, List.mem_singleton] at hx; rw [hx]; exact Nat.le_refl _
  | succ c ih =>
    intro x hx
    unfold Lib.splitB at hx
    split at hx
    · simp only [List.mem_singleton] at hx; rw [hx]; exact Nat.le_refl _
    · rcases List.mem_cons.1 hx with rfl | hx
      · rw [ByteArray.size_extract]; omega
      · have := ih s.size _ (by rw [ByteArray.size_extract]; omega) x hx
        rw [ByteArray.size_extract] at this; omega
theorem impl_Split_f {k : Nat} {s : ByteArray} (hs : s.size ≤ 1048576) (hk : s.size + 1 < k) : impl_Split.f k s = some (splitT s) := by
  unfold impl_Split.f strings_Split.f
  have hn := splitBs_len s ⟨#[44]⟩ (by show 1 ≤ 1; omega)
  rw [if_pos ⟨by omega, by show 1 ≤ 1; omega⟩, Option.bind_some]
  have := impl_Split_l0 (splitBs s ⟨#[44]⟩) (by omega) (fun x hx => by have := splitBs_small s.size s ⟨#[44]⟩ (Nat.le_refl _) (by show 1 ≤ 1; omega) x hx; omega) (splitBs s ⟨#[44]⟩).length k 0 [] (by omega) (by omega) (by simp) (by omega)
  rw [List.drop_zero, List.nil_append] at this
  exact this
theorem spec_Split_l0 (s : ByteArray) (hs : s.size ≤ 1048576) : ∀ (d k f i : Nat) (acc : List ByteArray), s.size - i = d → i ≤ s.size → f ≤ i → acc.length ≤ i → (∀ j (h : j < (B s).length), f ≤ j → j < i → (B s)[j] ≠ 44) → 2 * d + 2 * s.size + 9 < k →
    spec_Split.l0 k s acc f i = some (acc ++ wordsOf (splitBs (s.extract f s.size) ⟨#[44]⟩)) := by
  intro d
  induction d with
  | zero =>
    intro k f i acc hd hi hf ha hno hk
    obtain ⟨k, rfl⟩ := succ_of (show 5 < k by omega)
    obtain ⟨k, rfl⟩ := succ_of (show 4 < k by omega)
    have hiz : i = s.size := by omega
    have hz : (s.extract f s.size).size = s.size - f := by rw [ByteArray.size_extract]; omega
    have hsp : splitBs (s.extract f s.size) ⟨#[44]⟩ = [s.extract f s.size] := split1_none _ _ (fun j hj => by
      obtain ⟨h1, h2, h3⟩ := B_get_extract s f s.size j hj
      rw [h2]; exact hno (f + j) h1 (by omega) (by omega))
    simp only [spec_Split.l0]
    rw [if_pos (by omega), if_neg (by omega)]
    simp only [spec_Split.j1]
    rw [if_neg (by simp), if_pos (by omega), if_pos (by omega), if_pos (by omega), Int.toNat_natCast, Int.toNat_natCast, hiz, spec_Trim_f (by omega) (by omega), Option.bind_some, hsp, wordsOf_cons, w64 (by omega)]
    obtain ⟨k, rfl⟩ := succ_of (show 0 < k by omega)
    have fin : ∀ acc', spec_Split.l0 (k + 1) s acc' ((s.size : Int) + 1) ((s.size : Int) + 1) = some acc' := fun acc' => by
      simp only [spec_Split.l0]; rw [if_neg (by omega)]
    by_cases h : (trimT (s.extract f s.size)).toList = []
    · rw [if_pos h, if_pos h, fin]; simp [wordsOf]
    · rw [if_neg h, if_neg h, if_pos (by omega), fin]; simp [wordsOf]
  | succ d ih =>
    intro k f i acc hd hi hf ha hno hk
    obtain ⟨k, rfl⟩ := succ_of (show 5 < k by omega)
    obtain ⟨k, rfl⟩ := succ_of (show 4 < k by omega)
    have hl : i < (B s).length := by rw [B_len]; omega
    simp only [spec_Split.l0]
    rw [if_pos (by omega), if_pos (by omega), if_pos (by omega), bt_get s i hl]
    simp only [spec_Split.j1]
    have h44 : ((B s)[i].toNat : Int) = 44 ↔ (B s)[i] = 44 := by
      constructor
      · intro h
        have : (B s)[i].toNat = (44 : UInt8).toNat := by show (B s)[i].toNat = 44; omega
        exact UInt8.toNat_inj.1 this
      · intro h; rw [h]; rfl
    have hr : wrap64 ((i : Int) + 1) = ((i + 1 : Nat) : Int) := nat_round (n := s.size) (by omega) (by omega)
    by_cases c : (B s)[i] = 44
    · have hsp : splitBs (s.extract f s.size) ⟨#[44]⟩ = s.extract f i :: splitBs (s.extract (i + 1) s.size) ⟨#[44]⟩ := by
        have hz : (s.extract f s.size).size = s.size - f := by rw [ByteArray.size_extract]; omega
        have hlt : i - f < (B (s.extract f s.size)).length := by rw [B_len, hz]; omega
        obtain ⟨g1, g2, _⟩ := B_get_extract s f s.size (i - f) hlt
        rw [split1_at (s.extract f s.size) 44 (i - f) hlt (by rw [g2]; simp only [show f + (i - f) = i by omega]; exact c) (fun j hj hji => by
          obtain ⟨h1, h2, h3⟩ := B_get_extract s f s.size j hj
          rw [h2]; exact hno (f + j) h1 (by omega) (by omega)), ByteArray.extract_extract, hz, ByteArray.extract_extract]
        rw [show min (f + (i - f)) s.size = i by omega, show min (f + (s.size - f)) s.size = s.size by omega, show f + (i - f + 1) = i + 1 by omega, Nat.add_zero]
      rw [if_neg (by simpa using h44.2 c), if_pos (by omega), if_pos (by omega), if_pos (by omega), Int.toNat_natCast, Int.toNat_natCast, spec_Trim_f (by rw [ByteArray.size_extract]; omega) (by rw [ByteArray.size_extract]; omega), Option.bind_some, hsp, wordsOf_cons, hr]
      by_cases h : (trimT (s.extract f i)).toList = []
      · rw [if_pos h, if_pos h, ih k (i + 1) (i + 1) acc (by omega) (by omega) (by omega) (by omega) (fun j _ h1 h2 => by omega) (by omega)]
      · rw [if_neg h, if_neg h, if_pos (by omega), ih k (i + 1) (i + 1) _ (by omega) (by omega) (by omega) (by simp; omega) (fun j _ h1 h2 => by omega) (by omega), List.append_assoc]; rfl
    · rw [if_pos (by simpa using fun e => c (h44.1 e)), hr]
      refine ih k f (i + 1) acc (by omega) (by omega) (by omega) (by omega) (fun j h h1 h2 => ?_) (by omega)
      by_cases e : j = i
      · subst e; exact c
      · exact hno j h h1 (by omega)
theorem spec_Split_f {k : Nat} {s : ByteArray} (hs : s.size ≤ 1048576) (hk : 4 * s.size + 9 < k) : spec_Split.f k s = some (splitT s) := by
  have := spec_Split_l0 s hs s.size k 0 0 [] (by omega) (by omega) (by omega) (by simp) (fun j _ _ h => by omega) (by omega)
  rw [List.nil_append, extract_all0] at this
  exact this
theorem wordsOf_len (l : List ByteArray) : (wordsOf l).length ≤ l.length := by
  unfold wordsOf
  have := List.length_filter_le (fun t : ByteArray => !decide (t.toList = [])) (l.map trimT)
  simpa using this
theorem splitT_len (s : ByteArray) : (splitT s).length ≤ s.size + 1 := by
  have h1 := wordsOf_len (splitBs s ⟨#[44]⟩)
  have h2 := splitBs_len s ⟨#[44]⟩ (by show 1 ≤ 1; omega)
  unfold splitT; omega
/-- bytes as a text -/
def Tx (l : List UInt8) : ByteArray := ⟨l.toArray⟩
theorem B_Tx (l : List UInt8) : B (Tx l) = l := B_mk l
theorem Tx_B (s : ByteArray) : Tx (B s) = s := B_ext (B_Tx _)
theorem Tx_append (a b : List UInt8) : Tx (a ++ b) = Tx a ++ Tx b := B_ext (by rw [B_append, B_Tx, B_Tx, B_Tx])
theorem Tx_inj {a b : List UInt8} (h : Tx a = Tx b) : a = b := by rw [← B_Tx a, h, B_Tx]
theorem Tx_size (l : List UInt8) : (Tx l).size = l.length := by rw [← B_len, B_Tx]
/-! ### what right fields are like; texts of messages -/
theorem okFs_facts (l : List S100) : ∀ (r : List S100) (i : Nat), okFs l i r = true → l.length ≤ 8 ∧ ∀ x ∈ r, tokB x.f0 = true ∧ valB x.f1 = true ∧ lenName x.f0 = false
  | [], i, h => ⟨of_decide_eq_true h, fun x hx => by cases hx⟩
  | y :: r, i, h => by
    simp only [okFs, Bool.and_eq_true] at h
    obtain ⟨h1, h2, h3, _, h5⟩ := h
    obtain ⟨g1, g2⟩ := okFs_facts l r (i + 1) h5
    refine ⟨g1, fun x hx => ?_⟩
    rcases List.mem_cons.1 hx with rfl | hx
    · exact ⟨h1, h2, by simpa using h3⟩
    · exact g2 x hx
theorem val_size {s : ByteArray} (h : valB s = true) : 1 ≤ s.size ∧ s.size ≤ 60 := by
  unfold valB at h
  rw [Bool.and_eq_true, Bool.and_eq_true] at h
  exact of_decide_eq_true h.1.1
theorem tok_size {s : ByteArray} (h : tokB s = true) : 1 ≤ s.size ∧ s.size ≤ 20 := by
  unfold tokB at h
  rw [Bool.and_eq_true] at h
  exact of_decide_eq_true h.2
theorem fieldLines_le : ∀ l : List S100, (∀ x ∈ l, x.f0.size ≤ 20 ∧ x.f1.size ≤ 60) → (fieldLines l).length ≤ 84 * l.length
  | [], _ => Nat.zero_le _
  | x :: r, h => by
    have h1 := h x (by simp)
    have h2 := fieldLines_le r (fun y hy => h y (by simp [hy]))
    simp only [fieldLines, fieldLine, List.length_append, List.length_cons, List.length_nil, data_length]
    omega
theorem fieldsB_lines {l : List S100} (h : fieldsB l = true) : l.length ≤ 8 ∧ (fieldLines l).length ≤ 672 := by
  obtain ⟨h1, h2⟩ := okFs_facts l l 0 h
  have := fieldLines_le l (fun x hx => ⟨(tok_size (h2 x hx).1).2, (val_size (h2 x hx).2.1).2⟩)
  exact ⟨h1, by omega⟩
def linesT (l : List S100) : ByteArray := ⟨(fieldLines l).toArray⟩
theorem linesT_size (l : List S100) : (linesT l).size = (fieldLines l).length := by rw [← B_len]; unfold linesT; rw [B_mk (fieldLines l)]
theorem itoa_numT {n : Int} (h : 0 ≤ n ∧ n ≤ 1000000) : strconv_Itoa.f n = some (numT n) := by
  unfold strconv_Itoa.f numT
  rw [if_pos (by omega), if_pos h]
/-! ### texts of lines, in plain words -/
theorem occ_ne {s r : List UInt8} {c : UInt8} {j : Nat} (h : s[j]? ≠ some c) : Lib.occAt s (c :: r) j = false := by
  unfold Lib.occAt
  cases e : s.drop j with
  | nil => rfl
  | cons x t =>
    have hx : s[j]? = some x := by rw [← List.head?_drop, e]; rfl
    have hc : c ≠ x := fun he => h (by rw [hx, he])
    simp only [List.isPrefixOf]
    rw [beq_eq_false_iff_ne.2 hc]; rfl
theorem occ_free {a b r : List UInt8} {c : UInt8} {j : Nat} (h : c ∉ a) (hj : j < a.length) : Lib.occAt (a ++ b) (c :: r) j = false := by
  refine occ_ne fun e => h ?_
  rw [List.getElem?_append_left hj] at e
  exact List.mem_of_getElem? e
theorem occ_here (a b sub : List UInt8) : Lib.occAt (a ++ (sub ++ b)) sub a.length = true := by
  unfold Lib.occAt
  rw [List.drop_left]
  induction sub with
  | nil => rfl
  | cons c r ih => simp only [List.cons_append, List.isPrefixOf]; rw [ih]; simp
theorem index_app {a b r : List UInt8} {c : UInt8} (h : c ∉ a) : Lib.index (a ++ ((c :: r) ++ b)) (c :: r) = (a.length : Int) :=
  Lib.index_first (by simp) (occ_here a b (c :: r)) (fun _ hj => occ_free h hj)
theorem index_free {a r : List UInt8} {c : UInt8} (h : c ∉ a) : Lib.index a (c :: r) = -1 :=
  Lib.index_none fun j _ => occ_ne fun e => h (List.mem_of_getElem? e)
theorem cut_app {a b r : List UInt8} {c : UInt8} (h : c ∉ a) : Lib.cut (a ++ ((c :: r) ++ b)) (c :: r) = (a, b, true) := by
  unfold Lib.cut
  rw [index_app h, if_pos (by omega), Int.toNat_natCast, List.take_left, List.drop_append, List.drop_eq_nil_of_le (by omega), List.nil_append, Nat.add_sub_cancel_left, List.drop_left]
theorem cut_free {a r : List UInt8} {c : UInt8} (h : c ∉ a) : Lib.cut a (c :: r) = (a, [], false) := by
  unfold Lib.cut
  rw [index_free h, if_neg (by omega)]
theorem splitBs_app {a b sep : ByteArray} {c : UInt8} {r : List UInt8} (hs : B sep = c :: r) (ha : c ∉ B a) : splitBs (a ++ (sep ++ b)) sep = a :: splitBs b sep := by
  have hz : 1 ≤ sep.size := by rw [← B_len, hs]; simp
  have hB : B (a ++ (sep ++ b)) = B a ++ ((c :: r) ++ B b) := by rw [B_append, B_append, hs]
  have hl : a.size ≤ (B (a ++ (sep ++ b))).length := by rw [hB, List.length_append, B_len]; omega
  rw [splitBs_at (a ++ (sep ++ b)) sep a.size hz hl (by rw [hB, hs, ← B_len]; exact occ_here _ _ _) (fun j hj => by rw [hB, hs]; exact occ_free ha (by rw [B_len]; exact hj))]
  congr 1
  · apply B_ext
    rw [B_extract, hB, List.drop_zero, ← B_len, List.take_left]
  · congr 1
    apply B_ext
    have hsz : (a ++ (sep ++ b)).size = a.size + sep.size + b.size := by rw [ByteArray.size_append, ByteArray.size_append]; omega
    rw [B_extract, hsz, List.take_of_length_le (by rw [B_len]; omega), B_append, B_append, ← List.append_assoc, List.drop_left' (by rw [List.length_append, B_len, B_len])]
theorem splitBs_free {a sep : ByteArray} {c : UInt8} {r : List UInt8} (hs : B sep = c :: r) (ha : c ∉ B a) : splitBs a sep = [a] :=
  splitBs_none a sep fun j _ => by rw [hs]; exact occ_ne fun e => ha (List.mem_of_getElem? e)
/-- lines, each with its end -/
def lineT : List (List UInt8) → List UInt8
  | [] => []
  | x :: r => x ++ (13 :: 10 :: lineT r)
/-- lines, ends between them -/
def joinT : List (List UInt8) → List UInt8
  | [] => []
  | [x] => x
  | x :: y :: r => x ++ (13 :: 10 :: joinT (y :: r))
theorem lineT_join : ∀ {l : List (List UInt8)}, l ≠ [] → lineT l = joinT l ++ [13, 10]
  | [], h => absurd rfl h
  | [x], _ => by simp [lineT, joinT]
  | x :: y :: r, _ => by rw [lineT, joinT, lineT_join (l := y :: r) (by simp)]; simp
theorem lineT_append : ∀ a b, lineT (a ++ b) = lineT a ++ lineT b
  | [], b => rfl
  | x :: r, b => by simp [lineT, lineT_append r b]
def GoodL (l : List (List UInt8)) : Prop := ∀ x ∈ l, x ≠ [] ∧ (13 : UInt8) ∉ x ∧ (10 : UInt8) ∉ x
theorem index_head (body : List UInt8) : ∀ {l : List (List UInt8)}, l ≠ [] → GoodL l → Lib.index (lineT l ++ (13 :: 10 :: body)) [13, 10, 13, 10] = ((joinT l).length : Int)
  | [], h, _ => absurd rfl h
  | [x], _, hg => by
    have := index_app (a := x) (b := body) (c := 13) (r := [10, 13, 10]) (hg x (by simp)).2.1
    rw [show lineT [x] ++ (13 :: 10 :: body) = x ++ ([13, 10, 13, 10] ++ body) by simp [lineT]]
    exact this
  | x :: y :: r, _, hg => by
    have ih := index_head body (l := y :: r) (by simp) (fun z hz => hg z (by simp [hz]))
    have hx := hg x (by simp)
    have hy := hg y (by simp)
    obtain ⟨y0, yt, rfl⟩ : ∃ y0 yt, y = y0 :: yt := by cases y with | nil => exact absurd rfl hy.1 | cons a t => exact ⟨a, t, rfl⟩
    have hy0 : y0 ≠ 13 := fun e => hy.2.1 (by simp [e])
    have e1 : lineT (x :: (y0 :: yt) :: r) ++ (13 :: 10 :: body) = x ++ (13 :: 10 :: (lineT ((y0 :: yt) :: r) ++ (13 :: 10 :: body))) := by simp [lineT]
    have hd : (lineT (x :: (y0 :: yt) :: r) ++ (13 :: 10 :: body)).drop (x.length + 2) = lineT ((y0 :: yt) :: r) ++ (13 :: 10 :: body) := by
      rw [e1, List.drop_append, List.drop_eq_nil_of_le (by omega), Nat.add_sub_cancel_left]; rfl
    have hno : Lib.NoOcc (lineT (x :: (y0 :: yt) :: r) ++ (13 :: 10 :: body)) [13, 10, 13, 10] (x.length + 2) := by
      intro j hj
      rw [e1]
      by_cases h1 : j < x.length
      · exact occ_free hx.2.1 h1
      by_cases h2 : j = x.length
      · subst h2
        unfold Lib.occAt
        rw [List.drop_left, lineT]
        have : ((13 : UInt8) == y0) = false := beq_eq_false_iff_ne.2 fun e => hy0 e.symm
        simp [List.isPrefixOf, this]
      · have h3 : j = x.length + 1 := by omega
        subst h3
        refine occ_ne ?_
        rw [List.getElem?_append_right (by omega), Nat.add_sub_cancel_left]
        simp
    rw [Lib.index_drop hno (by rw [e1]; simp <;> omega), hd, ih, if_neg (by rw [beq_iff_eq]; omega), joinT]
    simp only [List.length_append, List.length_cons]
    omega
theorem cut_head (body : List UInt8) {l : List (List UInt8)} (h : l ≠ []) (hg : GoodL l) : Lib.cut (lineT l ++ (13 :: 10 :: body)) [13, 10, 13, 10] = (joinT l, body, true) := by
  have hi := index_head body h hg
  have e : lineT l ++ (13 :: 10 :: body) = joinT l ++ ([13, 10, 13, 10] ++ body) := by rw [lineT_join h]; simp
  unfold Lib.cut
  rw [hi, if_pos (by omega), Int.toNat_natCast, e, List.take_left, List.drop_append, List.drop_eq_nil_of_le (by omega), List.nil_append, Nat.add_sub_cancel_left, List.drop_left]
theorem split_join : ∀ {l : List (List UInt8)}, l ≠ [] → GoodL l → splitBs (Tx (joinT l)) (Tx [13, 10]) = l.map Tx
  | [], h, _ => absurd rfl h
  | [x], _, hg => splitBs_free (B_Tx _) (by rw [B_Tx]; exact (hg x (by simp)).2.1)
  | x :: y :: r, _, hg => by
    have ih := split_join (l := y :: r) (by simp) (fun z hz => hg z (by simp [hz]))
    have e : Tx (joinT (x :: y :: r)) = Tx x ++ (Tx [13, 10] ++ Tx (joinT (y :: r))) := by rw [← Tx_append, ← Tx_append]; rfl
    rw [e, splitBs_app (B_Tx _) (by rw [B_Tx]; exact (hg x (by simp)).2.1), ih]; rfl
/-! ### the lines of a head -/
theorem octv {c d : UInt8} {n : Int} (h : (d.toNat : Int) = n) : ((c.toNat : Int) = n) ↔ c = d := by
  subst h
  constructor
  · intro h; exact UInt8.toNat_inj.1 (by omega)
  · rintro rfl; rfl
theorem w64_n1 {j : Nat} (h : j ≤ 1048576) : wrap64 ((j : Int) + 1) = ((j + 1 : Nat) : Int) := by rw [w64 (by omega)]; omega
theorem w64_n2 {j : Nat} (h : j ≤ 1048576) : wrap64 ((j : Int) + 2) = ((j + 2 : Nat) : Int) := by rw [w64 (by omega)]; omega
theorem w64_m1 {j : Nat} (h1 : 1 ≤ j) (h : j ≤ 1048576) : wrap64 ((j : Int) - 1) = ((j - 1 : Nat) : Int) := by rw [w64 (by omega)]; omega
def firstOf : List (List UInt8) → List UInt8
  | [] => []
  | x :: _ => x
theorem lineT_first (body : List UInt8) : ∀ L : List (List UInt8), ∃ rest, lineT L ++ (13 :: 10 :: body) = firstOf L ++ (13 :: 10 :: rest)
  | [] => ⟨body, rfl⟩
  | x :: r => ⟨lineT r ++ (13 :: 10 :: body), by simp [lineT, firstOf]⟩
theorem drop_get {l x t : List UInt8} {f j : Nat} (h : l.drop f = x ++ t) (h1 : f ≤ j) (h2 : j < f + x.length) : l[j]? = x[j - f]? := by
  rw [← List.getElem?_append_left (l₂ := t) (by omega : j - f < x.length), ← h, List.getElem?_drop, show f + (j - f) = j by omega]
theorem in_first {l x t : List UInt8} {f j : Nat} (h : l.drop f = x ++ t) (h1 : f ≤ j) (h2 : j < f + x.length) (hj : j < l.length) : l[j] ∈ x := by
  have e := drop_get h h1 h2
  rw [List.getElem?_eq_getElem hj] at e
  exact List.mem_of_getElem? e.symm
theorem nl_at {l x rest : List UInt8} {f : Nat} (h : l.drop f = x ++ (13 :: 10 :: rest)) : l[f + x.length]? = some 13 ∧ l[f + x.length + 1]? = some 10 ∧ f + x.length + 2 ≤ l.length := by
  have h13 : (l.drop f)[x.length]? = some 13 := by rw [h, List.getElem?_append_right (Nat.le_refl _), Nat.sub_self]; rfl
  have h10 : (l.drop f)[x.length + 1]? = some 10 := by rw [h, List.getElem?_append_right (by omega), Nat.add_sub_cancel_left]; rfl
  rw [List.getElem?_drop] at h13 h10
  have hl := congrArg List.length h
  simp only [List.length_drop, List.length_append, List.length_cons] at hl
  exact ⟨h13, h10, by omega⟩
theorem get_of {l : List UInt8} {j : Nat} {c : UInt8} (h : l[j]? = some c) (hj : j < l.length) : l[j] = c := by
  rw [List.getElem?_eq_getElem hj] at h; exact Option.some.inj h
theorem cut_line {s : ByteArray} {f : Nat} {x t : List UInt8} (h : (B s).drop f = x ++ t) : s.extract f (f + x.length) = Tx x := by
  apply B_ext
  rw [B_extract, B_Tx, List.drop_take, h, Nat.add_sub_cancel_left, List.take_left]
theorem spec_l3Head_l0 (s : ByteArray) (hs : s.size ≤ 1048576) : ∀ (d k i f : Nat) (acc : List ByteArray), s.size - i = d → 1 ≤ i → f ≤ i → f ≤ s.size → acc.length ≤ f → (∀ x ∈ acc, x.size ≤ s.size) → 2 * d + 4 < k →
    ∃ ls e, spec_l3Head.l0 k s acc f i = some (ls, e) ∧ ls.length ≤ s.size ∧ (∀ x ∈ ls, x.size ≤ s.size) ∧ e ≤ s.size ∧ (e = -1 ∨ 1 ≤ e) ∧ ∀ L body, GoodL L → (B s).drop f = lineT L ++ (13 :: 10 :: body) → i ≤ f + (firstOf L).length + 1 → ls = acc ++ L.map Tx ∧ e = ((f + (lineT L).length + 2 : Nat) : Int) := by
  intro d
  induction d with
  | zero =>
    intro k i f acc hd h1 hf hfs ha hx hk
    obtain ⟨k, rfl⟩ := succ_of (show 0 < k by omega)
    refine ⟨acc, -1, ?_, by omega, hx, by omega, .inl rfl, fun L body hg hL hi => ?_⟩
    · simp only [spec_l3Head.l0]; rw [if_neg (by omega)]
    · exfalso
      obtain ⟨rest, e⟩ := lineT_first body L
      have := (nl_at (hL.trans e)).2.2
      rw [B_len] at this; omega
  | succ d ih =>
    intro k i f acc hd h1 hf hfs ha hx hk
    obtain ⟨k, rfl⟩ := succ_of (show 1 < k by omega)
    obtain ⟨k, rfl⟩ := succ_of (show 0 < k by omega)
    have hlt : i < s.size := by omega
    have hl : i < (B s).length := by rw [B_len]; omega
    have hl1 : i - 1 < (B s).length := by omega
    have hiz : i ≤ 1048576 := by omega
    have go : (¬ ((B s)[i] = 10 ∧ (B s)[i - 1] = 13 ∧ f ≤ i - 1)) → ∃ ls e, spec_l3Head.l0 k s acc f ((i + 1 : Nat) : Int) = some (ls, e) ∧ ls.length ≤ s.size ∧ (∀ x ∈ ls, x.size ≤ s.size) ∧ e ≤ s.size ∧ (e = -1 ∨ 1 ≤ e) ∧ ∀ L body, GoodL L → (B s).drop f = lineT L ++ (13 :: 10 :: body) → i ≤ f + (firstOf L).length + 1 → ls = acc ++ L.map Tx ∧ e = ((f + (lineT L).length + 2 : Nat) : Int) := by
      intro hn
      obtain ⟨ls, e, g1, g2, g3, g4, g5, g6⟩ := ih k (i + 1) f acc (by omega) (by omega) (by omega) hfs ha hx (by omega)
      refine ⟨ls, e, g1, g2, g3, g4, g5, fun L body hg hL hi => g6 L body hg hL ?_⟩
      by_cases he : i = f + (firstOf L).length + 1
      · exfalso
        obtain ⟨rest, e2⟩ := lineT_first body L
        obtain ⟨n1, n2, _⟩ := nl_at (hL.trans e2)
        refine hn ⟨get_of (by rw [he]; exact n2) hl, get_of (by rw [show i - 1 = f + (firstOf L).length by omega]; exact n1) hl1, by omega⟩
      · omega
    simp only [spec_l3Head.l0]
    rw [if_pos (by omega), if_pos (by omega), bt_get s i hl]
    by_cases c : (B s)[i] = 10
    · rw [if_pos ((octv (d := 10) (n := 10) rfl).2 c), w64_m1 h1 hiz, if_pos (by omega), if_pos (by omega), bt_get s (i - 1) hl1]
      by_cases c2 : (B s)[i - 1] = 13
      · rw [if_pos ((octv (d := 13) (n := 13) rfl).2 c2)]
        simp only [spec_l3Head.j1]
        by_cases c3 : i - 1 < f
        · rw [if_pos (decide_eq_true (by omega)), w64_n1 hiz]
          exact go (fun h => by omega)
        · clear go
          rw [if_neg (by rw [decide_eq_false (by omega)]; simp), if_pos (by omega), w64_m1 h1 hiz, if_pos (by omega), if_pos (by omega), Int.toNat_natCast, Int.toNat_natCast, w64_n1 hiz]
          by_cases c4 : (s.extract f (i - 1)).toList = []
          · rw [if_pos c4]
            refine ⟨acc, _, rfl, by omega, hx, by omega, .inr (by omega), fun L body hg hL hi => ?_⟩
            have hz : (s.extract f (i - 1)).size = 0 := by rw [← B_len, ← toList_B, c4]; rfl
            rw [ByteArray.size_extract] at hz
            cases L with
            | nil => exact ⟨by simp, by simp only [lineT, List.length_nil]; omega⟩
            | cons x r =>
              exfalso
              have hgx := hg x (by simp)
              have hx0 : 0 < x.length := List.length_pos_iff.2 hgx.1
              have e2 : (B s).drop f = x ++ (13 :: 10 :: (lineT r ++ (13 :: 10 :: body))) := by rw [hL]; simp [lineT]
              have := in_first e2 (j := i - 1) (by omega) (by omega) hl1
              rw [c2] at this
              exact hgx.2.1 this
          · rw [if_neg c4, if_pos (by omega)]
            have hsz : (s.extract f (i - 1)).size ≤ s.size := by rw [ByteArray.size_extract]; omega
            obtain ⟨ls, e, g1, g2, g3, g4, g5, g6⟩ := ih k (i + 1) (i + 1) (acc ++ [s.extract f (i - 1)]) (by omega) (by omega) (by omega) (by omega) (by simp; omega) (fun x hx' => by
              rcases List.mem_append.1 hx' with hx' | hx'
              · exact hx x hx'
              · rw [List.mem_singleton.1 hx']; exact hsz) (by omega)
            refine ⟨ls, e, g1, g2, g3, g4, g5, fun L body hg hL hi => ?_⟩
            cases L with
            | nil =>
              exfalso
              apply c4
              simp only [firstOf, List.length_nil] at hi
              rw [toList_B, B_extract, List.drop_eq_nil_of_le (by rw [List.length_take]; omega)]
            | cons x r =>
              have hgx := hg x (by simp)
              have e2 : (B s).drop f = x ++ (13 :: 10 :: (lineT r ++ (13 :: 10 :: body))) := by rw [hL]; simp [lineT]
              simp only [firstOf] at hi
              have hi2 : i - 1 = f + x.length := by
                by_cases hq : i - 1 < f + x.length
                · exfalso
                  have := in_first e2 (j := i - 1) (by omega) hq hl1
                  rw [c2] at this
                  exact hgx.2.1 this
                · omega
              have e3 : (B s).drop (i + 1) = lineT r ++ (13 :: 10 :: body) := by
                rw [show i + 1 = f + (x.length + 2) by omega, ← List.drop_drop, e2, List.drop_append, List.drop_eq_nil_of_le (by omega), List.nil_append, Nat.add_sub_cancel_left]; rfl
              have hxt : s.extract f (i - 1) = Tx x := by rw [hi2]; exact cut_line e2
              obtain ⟨q1, q2⟩ := g6 r body (fun y hy => hg y (by simp [hy])) e3 (by omega)
              refine ⟨by rw [q1, hxt]; simp, ?_⟩
              rw [q2]
              simp only [lineT, List.length_append, List.length_cons]
              omega
      · rw [if_neg (fun h => c2 ((octv (d := 13) (n := 13) rfl).1 h))]
        simp only [spec_l3Head.j1]
        rw [if_pos trivial, w64_n1 hiz]
        exact go (fun h => c2 h.2.1)
    · rw [if_neg (fun h => c ((octv (d := 10) (n := 10) rfl).1 h))]
      simp only [spec_l3Head.j1]
      rw [if_pos trivial, w64_n1 hiz]
      exact go (fun h => c h.1)
theorem spec_l3Head_f {k : Nat} {s : ByteArray} (hs : s.size ≤ 1048576) (hk : 2 * s.size + 10 < k) : ∃ ls e, spec_l3Head.f k s = some (ls, e) ∧ ls.length ≤ s.size ∧ (∀ x ∈ ls, x.size ≤ s.size) ∧ e ≤ s.size ∧ (e = -1 ∨ 1 ≤ e) ∧ ∀ L body, GoodL L → B s = lineT L ++ (13 :: 10 :: body) → ls = L.map Tx ∧ e = (((lineT L).length + 2 : Nat) : Int) := by
  obtain ⟨ls, e, g1, g2, g3, g4, g5, g6⟩ := spec_l3Head_l0 s hs (s.size - 1) k 1 0 [] (by omega) (by omega) (by omega) (by omega) (by simp) (fun x hx => by cases hx) (by omega)
  refine ⟨ls, e, g1, g2, g3, g4, g5, fun L body hg hL => ?_⟩
  have := g6 L body hg hL (by omega)
  rw [List.nil_append, Nat.zero_add] at this
  exact this
/-! ### words between blanks -/
theorem spec_l3Words_l0 (s : ByteArray) (hs : s.size ≤ 1048576) : ∀ (d k f i : Nat) (acc : List ByteArray), s.size - i = d → i ≤ s.size → f ≤ i → acc.length ≤ i → (∀ j (h : j < (B s).length), f ≤ j → j < i → (B s)[j] ≠ 32) → d + 2 < k →
    spec_l3Words.l0 k s acc f i = some (acc ++ splitBs (s.extract f s.size) ⟨#[32]⟩) := by
  intro d
  induction d with
  | zero =>
    intro k f i acc hd hi hf ha hno hk
    obtain ⟨k, rfl⟩ := succ_of (show 1 < k by omega)
    have hiz : i = s.size := by omega
    have hsp : splitBs (s.extract f s.size) ⟨#[32]⟩ = [s.extract f s.size] := split1_none _ _ (fun j hj => by
      obtain ⟨h1, h2, h3⟩ := B_get_extract s f s.size j hj
      rw [h2]; exact hno (f + j) h1 (by omega) (by omega))
    rw [hsp]
    have fin : ∀ acc', spec_l3Words.l0 k s acc' ((s.size : Int) + 1) ((s.size : Int) + 1) = some acc' := fun acc' => by
      obtain ⟨k, rfl⟩ := succ_of (show 0 < k by omega)
      simp only [spec_l3Words.l0]; rw [if_neg (by omega)]
    simp only [spec_l3Words.l0]
    rw [if_pos (by omega), if_pos (by omega), if_pos (by omega), if_pos (by omega), if_pos (by omega), Int.toNat_natCast, Int.toNat_natCast, hiz, w64 (by omega), fin]
  | succ d ih =>
    intro k f i acc hd hi hf ha hno hk
    obtain ⟨k, rfl⟩ := succ_of (show 0 < k by omega)
    have hl : i < (B s).length := by rw [B_len]; omega
    have hr : wrap64 ((i : Int) + 1) = ((i + 1 : Nat) : Int) := nat_round (n := s.size) (by omega) (by omega)
    simp only [spec_l3Words.l0]
    rw [if_pos (by omega), if_neg (by omega), if_pos (by omega), if_pos (by omega), bt_get s i hl]
    by_cases c : (B s)[i] = 32
    · have hsp : splitBs (s.extract f s.size) ⟨#[32]⟩ = s.extract f i :: splitBs (s.extract (i + 1) s.size) ⟨#[32]⟩ := by
        have hz : (s.extract f s.size).size = s.size - f := by rw [ByteArray.size_extract]; omega
        have hlt : i - f < (B (s.extract f s.size)).length := by rw [B_len, hz]; omega
        obtain ⟨g1, g2, _⟩ := B_get_extract s f s.size (i - f) hlt
        rw [split1_at (s.extract f s.size) 32 (i - f) hlt (by rw [g2]; simp only [show f + (i - f) = i by omega]; exact c) (fun j hj hji => by
          obtain ⟨h1, h2, h3⟩ := B_get_extract s f s.size j hj
          rw [h2]; exact hno (f + j) h1 (by omega) (by omega)), ByteArray.extract_extract, hz, ByteArray.extract_extract]
        rw [show min (f + (i - f)) s.size = i by omega, show min (f + (s.size - f)) s.size = s.size by omega, show f + (i - f + 1) = i + 1 by omega, Nat.add_zero]
      rw [if_pos ((octv (d := 32) (n := 32) rfl).2 c), if_pos (by omega), if_pos (by omega), if_pos (by omega), Int.toNat_natCast, Int.toNat_natCast, hr, ih k (i + 1) (i + 1) _ (by omega) (by omega) (by omega) (by simp; omega) (fun j _ h1 h2 => by omega) (by omega), hsp, List.append_assoc]; rfl
    · rw [if_neg (fun h => c ((octv (d := 32) (n := 32) rfl).1 h)), hr]
      refine ih k f (i + 1) acc (by omega) (by omega) (by omega) (by omega) (fun j h h1 h2 => ?_) (by omega)
      by_cases e : j = i
      · subst e; exact c
      · exact hno j h h1 (by omega)
theorem spec_l3Words_f {k : Nat} {s : ByteArray} (hs : s.size ≤ 1048576) (hk : s.size + 2 < k) : spec_l3Words.f k s = some (splitBs s ⟨#[32]⟩) := by
  have := spec_l3Words_l0 s hs s.size k 0 0 [] (by omega) (by omega) (by omega) (by simp) (fun j _ _ h => by omega) hk
  rw [List.nil_append, extract_all0] at this
  exact this
/-! ### what stands in right texts: bytes -/
theorem tok_free {s : ByteArray} (h : tokB s = true) {c : UInt8} (hc : tok1 c = false) : c ∉ B s := by
  unfold tokB at h
  rw [Bool.and_eq_true, List.all_eq_true] at h
  intro hm
  rw [h.1 c hm] at hc
  cases hc
theorem tok_bytes {s : ByteArray} (h : tokB s = true) : ∀ c ∈ B s, 33 ≤ c.toNat ∧ c.toNat ≤ 126 := by
  unfold tokB at h
  rw [Bool.and_eq_true, List.all_eq_true] at h
  intro c hm
  have := of_decide_eq_true (h.1 c hm)
  omega
theorem val_bytes {s : ByteArray} (h : valB s = true) : ∀ c ∈ B s, 32 ≤ c.toNat ∧ c.toNat ≤ 126 := by
  unfold valB fromB at h
  rw [Bool.and_eq_true, Bool.and_eq_true, List.all_eq_true] at h
  intro c hm
  have := of_decide_eq_true (h.1.2 c hm)
  omega
theorem ge32_free {l : List UInt8} (h : ∀ c ∈ l, 32 ≤ c.toNat) {c : UInt8} (hc : c.toNat < 32) : c ∉ l := fun hm => by
  have := h c hm; omega
theorem ge33_free {l : List UInt8} (h : ∀ c ∈ l, 33 ≤ c.toNat) {c : UInt8} (hc : c.toNat < 33) : c ∉ l := fun hm => by
  have := h c hm; omega
theorem goodL_of {L : List (List UInt8)} (h : ∀ x ∈ L, x ≠ [] ∧ ∀ c ∈ x, 32 ≤ c.toNat) : GoodL L := fun x hx =>
  ⟨(h x hx).1, ge32_free (h x hx).2 (by decide), ge32_free (h x hx).2 (by decide)⟩
theorem digs_ge {l : List UInt8} (h : digs l = true) : ∀ c ∈ l, 33 ≤ c.toNat := fun c hm => by
  unfold digs at h
  rw [List.all_eq_true] at h
  have := of_decide_eq_true (h c hm)
  omega
theorem num_bytes {n : Int} (h : 0 ≤ n ∧ n ≤ 1000000) : (∀ c ∈ B (numT n), 33 ≤ c.toNat) ∧ B (numT n) ≠ [] := by
  obtain ⟨u, rfl⟩ : ∃ u : Nat, n = u := ⟨n.toNat, by omega⟩
  have e : B (numT (u : Int)) = Lib.decDigits u := by
    unfold numT
    rw [if_pos h, B_mk (Lib.itoa (u : Int)), itoa_nat]
  rw [e]
  exact ⟨digs_ge (dec_facts u).2.1, (dec_facts u).2.2⟩
theorem numRead_numT {n : Int} (h : 0 ≤ n ∧ n ≤ 1000000) : numRead (numT n) = (n, true) := by
  obtain ⟨u, rfl⟩ : ∃ u : Nat, n = u := ⟨n.toNat, by omega⟩
  refine numRead_yes (by omega) ?_
  unfold numT
  rw [if_pos h, B_mk (Lib.itoa (u : Int)), itoa_nat]
/-! ### lines of fields -/
def fl (x : S100) : List UInt8 := B x.f0 ++ (58 :: 32 :: B x.f1)
theorem fieldLines_lineT : ∀ l : List S100, fieldLines l = lineT (l.map fl)
  | [] => rfl
  | x :: r => by
    rw [fieldLines, List.map_cons, lineT, ← fieldLines_lineT r]
    simp [fieldLine, fl, B]
def lenN : List UInt8 := [99, 111, 110, 116, 101, 110, 116, 45, 108, 101, 110, 103, 116, 104]
theorem lenName_B (s : ByteArray) : lenName s = decide (B s = lenN) := by unfold lenName lenN; rw [toList_B]
def fieldOf (line : List UInt8) : Option S100 :=
  if (Lib.cut line [58, 32]).2.2 = true then (if (Lib.cut line [58, 32]).1 = lenN then none else some ⟨Tx (Lib.cut line [58, 32]).1, Tx (Lib.cut line [58, 32]).2.1⟩) else none
def fieldsOf (lines : List (List UInt8)) : List S100 := lines.filterMap fieldOf
theorem cut_fl {a b : List UInt8} (h : (58 : UInt8) ∉ a) : Lib.cut (a ++ (58 :: 32 :: b)) [58, 32] = (a, b, true) := cut_app (c := 58) (r := [32]) h
theorem fieldOf_fl {x : S100} (h : tokB x.f0 = true) (hn : lenName x.f0 = false) : fieldOf (fl x) = some x := by
  have h58 : (58 : UInt8) ∉ B x.f0 := tok_free h (by decide)
  unfold fieldOf fl
  rw [cut_fl h58]
  dsimp only
  rw [if_pos rfl, if_neg (by rw [lenName_B] at hn; exact of_decide_eq_false hn), Tx_B, Tx_B]
theorem fieldOf_len (b : List UInt8) : fieldOf (lenN ++ (58 :: 32 :: b)) = none := by
  unfold fieldOf
  rw [cut_fl (by decide)]
  dsimp only
  rw [if_pos rfl, if_pos rfl]
theorem fieldsOf_fl : ∀ {l : List S100}, (∀ x ∈ l, tokB x.f0 = true ∧ lenName x.f0 = false) → fieldsOf (l.map fl) = l
  | [], _ => rfl
  | x :: r, h => by
    have hx := h x (by simp)
    unfold fieldsOf
    rw [List.map_cons, List.filterMap_cons, fieldOf_fl hx.1 hx.2]
    have := fieldsOf_fl (l := r) (fun y hy => h y (by simp [hy]))
    unfold fieldsOf at this
    simp only [this]
theorem fieldsOf_append (a b : List (List UInt8)) : fieldsOf (a ++ b) = fieldsOf a ++ fieldsOf b := by unfold fieldsOf; rw [List.filterMap_append]
theorem fl_good {x : S100} (h1 : tokB x.f0 = true) (h2 : valB x.f1 = true) : fl x ≠ [] ∧ ∀ c ∈ fl x, 32 ≤ c.toNat := by
  refine ⟨by unfold fl; simp, fun c hc => ?_⟩
  unfold fl at hc
  rcases List.mem_append.1 hc with hc | hc
  · have := tok_bytes h1 c hc; omega
  · rcases List.mem_cons.1 hc with rfl | hc
    · decide
    · rcases List.mem_cons.1 hc with rfl | hc
      · decide
      · exact (val_bytes h2 c hc).1
def lenLine (b : ByteArray) : List UInt8 := lenN ++ (58 :: 32 :: B (numT b.size))
def lenLines (b : ByteArray) : List (List UInt8) := if b.toList = [] then [] else [lenLine b]
theorem lenLine_good {b : ByteArray} (hb : b.size ≤ 1000000) : lenLine b ≠ [] ∧ ∀ c ∈ lenLine b, 32 ≤ c.toNat := by
  refine ⟨by unfold lenLine; simp, fun c hc => ?_⟩
  unfold lenLine at hc
  rcases List.mem_append.1 hc with hc | hc
  · have h : (lenN.all fun c => decide (32 ≤ c.toNat)) = true := by decide
    rw [List.all_eq_true] at h
    exact of_decide_eq_true (h c hc)
  · rcases List.mem_cons.1 hc with rfl | hc
    · decide
    · rcases List.mem_cons.1 hc with rfl | hc
      · decide
      · have := (num_bytes (n := (b.size : Int)) (by omega)).1 c hc; omega
theorem fields_good {l : List S100} (h : fieldsB l = true) : ∀ x ∈ l.map fl, x ≠ [] ∧ ∀ c ∈ x, 32 ≤ c.toNat := by
  obtain ⟨_, h2⟩ := okFs_facts l l 0 h
  intro x hx
  obtain ⟨y, hy, rfl⟩ := List.mem_map.1 hx
  exact fl_good (h2 y hy).1 (h2 y hy).2.1
/-! ### a line of a field -/
def fline (a b : List UInt8) : ByteArray := Tx (a ++ (58 :: 32 :: b))
theorem fline_B {t : ByteArray} {a b : List UInt8} (h : t = fline a b) : B t = a ++ (58 :: 32 :: b) := by rw [h]; exact B_Tx _
theorem fline_size {t : ByteArray} {a b : List UInt8} (h : t = fline a b) : t.size = a.length + 2 + b.length := by
  rw [← B_len, fline_B h, List.length_append, List.length_cons, List.length_cons]; omega
theorem fline_in {t : ByteArray} {a b : List UInt8} (h : t = fline a b) {j : Nat} (hj : j < a.length) (hl : j < (B t).length) : (B t)[j] ∈ a := by
  have e := fline_B h
  simp only [e]
  rw [List.getElem_append_left hj]; exact List.getElem_mem _
theorem fline_58 {t : ByteArray} {a b : List UInt8} (h : t = fline a b) (h1 : a.length < (B t).length) (h2 : a.length + 1 < (B t).length) : (B t)[a.length] = 58 ∧ (B t)[a.length + 1] = 32 := by
  have e := fline_B h
  simp only [e]
  refine ⟨?_, ?_⟩
  · rw [List.getElem_append_right (Nat.le_refl _)]; simp
  · rw [List.getElem_append_right (by omega)]; simp
theorem fline_name {t : ByteArray} {a b : List UInt8} (h : t = fline a b) : t.extract 0 a.length = Tx a := by
  apply B_ext
  rw [B_extract, fline_B h, B_Tx, List.drop_zero, List.take_left]
theorem fline_value {t : ByteArray} {a b : List UInt8} (h : t = fline a b) : t.extract (a.length + 2) t.size = Tx b := by
  apply B_ext
  rw [B_extract, List.take_of_length_le (by rw [B_len]; omega), fline_B h, B_Tx, List.drop_append, List.drop_eq_nil_of_le (by omega), List.nil_append, Nat.add_sub_cancel_left]; rfl
theorem fline_fl (x : S100) : Tx (fl x) = fline (B x.f0) (B x.f1) := rfl
theorem lenN58 : (58 : UInt8) ∉ lenN := by decide
theorem size_zero {s : ByteArray} (h : s.toList = []) : s.size = 0 := by rw [← B_len, ← toList_B, h]; rfl
/-! ### the fields of lines -/
theorem spec_l3Fields_l1 (ls : List ByteArray) (hn : ls.length ≤ 1048576) (hb : ∀ x ∈ ls, x.size ≤ 1048576) (i : Nat) (hi : i < ls.length) (acc : List S100) (ha : acc.length ≤ i) : ∀ (d k j : Nat), ls[i].size - j = d → j ≤ ls[i].size → 2 * d + 3 < k →
    ∃ k' acc', spec_l3Fields.l1 k ls acc i j = spec_l3Fields.l0 k' ls acc' ((i + 1 : Nat) : Int) ∧ k ≤ k' + 2 * d + 3 ∧ (acc' = acc ∨ ∃ x, acc' = acc ++ [x] ∧ x.f0.size ≤ 1048576 ∧ x.f1.size ≤ 1048576) ∧ ∀ a b, ls[i] = fline a b → (58 : UInt8) ∉ a → j ≤ a.length → acc' = if a = lenN then acc else acc ++ [⟨Tx a, Tx b⟩] := by
  have hts := hb _ (List.getElem_mem hi)
  have hiz : i ≤ 1048576 := by omega
  obtain ⟨t, ht⟩ : ∃ t, t = ls[i] := ⟨_, rfl⟩
  rw [← ht] at hts ⊢
  have hrd : rdOf ByteArray.empty ls (i : Int) = t := by rw [ht]; exact rd_B ls i hi
  intro d
  induction d with
  | zero =>
    intro k j hd hj hk
    obtain ⟨k, rfl⟩ := succ_of (show 0 < k by omega)
    simp only [spec_l3Fields.l1]
    rw [if_pos (by omega), if_pos (by omega), hrd, w64 (by omega), if_neg (by omega), w64_n1 hiz]
    refine ⟨k, acc, rfl, by omega, .inl rfl, fun a b h1 h2 h3 => ?_⟩
    have := fline_size h1
    omega
  | succ d ih =>
    intro k j hd hj hk
    obtain ⟨k, rfl⟩ := succ_of (show 1 < k by omega)
    obtain ⟨k, rfl⟩ := succ_of (show 0 < k by omega)
    have hl : j < (B t).length := by rw [B_len]; omega
    have hjz : j ≤ 1048576 := Nat.le_trans hj hts
    simp only [spec_l3Fields.l1]
    rw [if_pos (by omega), if_pos (by omega), hrd, w64_n1 hjz]
    by_cases h2 : j + 1 < t.size
    · have hl2 : j + 1 < (B t).length := by rw [B_len]; omega
      have go : (¬ ((B t)[j] = 58 ∧ (B t)[j + 1] = 32)) → ∃ k' acc', spec_l3Fields.l1 k ls acc i ((j + 1 : Nat) : Int) = spec_l3Fields.l0 k' ls acc' ((i + 1 : Nat) : Int) ∧ k + 1 + 1 ≤ k' + 2 * (d + 1) + 3 ∧ (acc' = acc ∨ ∃ x, acc' = acc ++ [x] ∧ x.f0.size ≤ 1048576 ∧ x.f1.size ≤ 1048576) ∧ ∀ a b, t = fline a b → (58 : UInt8) ∉ a → j ≤ a.length → acc' = if a = lenN then acc else acc ++ [⟨Tx a, Tx b⟩] := by
        intro hno
        obtain ⟨k', acc', e, g1, g2, g3⟩ := ih k (j + 1) (by omega) (by omega) (by omega)
        refine ⟨k', acc', e, by omega, g2, fun a b q1 q2 q3 => g3 a b q1 q2 ?_⟩
        by_cases hq : j = a.length
        · exfalso; subst hq; exact hno (fline_58 q1 hl hl2)
        · omega
      rw [if_pos (by omega), if_pos (by omega), if_pos (by omega), bt_get t j hl]
      by_cases c : (B t)[j] = 58
      · rw [if_pos ((octv (d := 58) (n := 58) rfl).2 c), if_pos (by omega), bt_get t (j + 1) hl2]
        simp only [spec_l3Fields.j2]
        by_cases c2 : (B t)[j + 1] = 32
        · clear go ih
          rw [if_pos (beq_iff_eq.2 ((octv (d := 32) (n := 32) rfl).2 c2)), if_pos (by omega), if_pos (by omega), hrd, if_pos (by omega), if_pos (by omega), w64_n2 hjz, if_pos (by omega), if_pos (by omega), Int.toNat_natCast, Int.toNat_natCast, w64_n1 hiz]
          have hlen : ∀ a b, t = fline a b → (58 : UInt8) ∉ a → j ≤ a.length → j = a.length := fun a b q1 q2 q3 => by
            by_cases hq : j < a.length
            · exfalso; apply q2; rw [← c]; exact fline_in q1 hq hl
            · omega
          by_cases c3 : (t.extract 0 j).toList = ([99, 111, 110, 116, 101, 110, 116, 45, 108, 101, 110, 103, 116, 104] : List UInt8)
          · rw [if_pos c3]
            refine ⟨k, acc, rfl, by omega, .inl rfl, fun a b q1 q2 q3 => ?_⟩
            have := hlen a b q1 q2 q3
            subst this
            rw [fline_name q1, toList_B, B_Tx] at c3
            rw [if_pos (show a = lenN from c3)]
          · rw [if_neg c3, if_pos (by omega)]
            refine ⟨k, _, rfl, by omega, .inr ⟨_, rfl, by dsimp only; rw [ByteArray.size_extract]; omega, by dsimp only; rw [ByteArray.size_extract]; omega⟩, fun a b q1 q2 q3 => ?_⟩
            have := hlen a b q1 q2 q3
            subst this
            rw [fline_name q1, toList_B, B_Tx] at c3
            rw [if_neg (show ¬ a = lenN from c3), fline_name q1, fline_value q1]
        · rw [if_neg (fun h => c2 ((octv (d := 32) (n := 32) rfl).1 (beq_iff_eq.1 h))), w64_n1 hjz]
          exact go (fun h => c2 h.2)
      · rw [if_neg (fun h => c ((octv (d := 58) (n := 58) rfl).1 h))]
        simp only [spec_l3Fields.j2]
        rw [if_neg (by simp), w64_n1 hjz]
        exact go (fun h => c h.1)
    · rw [if_neg (by omega), w64_n1 hiz]
      refine ⟨k + 1, acc, rfl, by omega, .inl rfl, fun a b q1 q2 q3 => ?_⟩
      have := fline_size q1
      omega
theorem spec_l3Fields_l0 (ls : List ByteArray) (hn : ls.length ≤ 1048576) (hb : ∀ x ∈ ls, x.size ≤ 1048576) : ∀ (d k i : Nat) (acc : List S100), ls.length = i + d → acc.length ≤ i → (∀ x ∈ acc, x.f0.size ≤ 1048576 ∧ x.f1.size ≤ 1048576) → d * 2097170 + 4 < k →
    ∃ r, spec_l3Fields.l0 k ls acc i = some r ∧ r.length ≤ ls.length ∧ (∀ x ∈ r, x.f0.size ≤ 1048576 ∧ x.f1.size ≤ 1048576) ∧ ∀ (fs : List S100) (t : List ByteArray), ls.drop i = fs.map (fun x => Tx (fl x)) ++ t → (∀ x ∈ fs, (58 : UInt8) ∉ B x.f0 ∧ lenName x.f0 = false) → (t = [] ∨ ∃ v, t = [fline lenN v]) → r = acc ++ fs := by
  intro d
  induction d with
  | zero =>
    intro k i acc hd ha hx hk
    obtain ⟨k, rfl⟩ := succ_of (show 0 < k by omega)
    simp only [spec_l3Fields.l0]
    rw [if_neg (by omega)]
    refine ⟨acc, rfl, by omega, hx, fun fs t h1 _ _ => ?_⟩
    rw [List.drop_eq_nil_of_le (by omega)] at h1
    have := congrArg List.length h1
    rw [List.length_append, List.length_map] at this
    have h0 : fs = [] := List.eq_nil_of_length_eq_zero (by simp at this; omega)
    rw [h0, List.append_nil]
  | succ d ih =>
    intro k i acc hd ha hx hk
    obtain ⟨k, rfl⟩ := succ_of (show 0 < k by omega)
    have hi : i < ls.length := by omega
    have hts := hb _ (List.getElem_mem hi)
    obtain ⟨k', acc', e, g1, g2, g3⟩ := spec_l3Fields_l1 ls hn hb i hi acc ha ls[i].size k 0 (by omega) (by omega) (by omega)
    have e' : spec_l3Fields.l1 k ls acc i 0 = spec_l3Fields.l0 k' ls acc' ((i + 1 : Nat) : Int) := e
    have hal : acc'.length ≤ i + 1 := by
      rcases g2 with g2 | ⟨x, g2, _⟩
      · rw [g2]; omega
      · rw [g2, List.length_append, List.length_singleton]; omega
    have hk2 : d * 2097170 + 4 < k' := by
      rw [Nat.succ_mul] at hk
      generalize d * 2097170 = D at hk ⊢
      omega
    have hax : ∀ x ∈ acc', x.f0.size ≤ 1048576 ∧ x.f1.size ≤ 1048576 := by
      rcases g2 with g2 | ⟨y, g2, gy⟩ <;> rw [g2]
      · exact hx
      · intro x hx'
        rcases List.mem_append.1 hx' with hx' | hx'
        · exact hx x hx'
        · rw [List.mem_singleton.1 hx']; exact gy
    obtain ⟨r, er, r1, r2, r3⟩ := ih k' (i + 1) acc' (by omega) hal hax hk2
    simp only [spec_l3Fields.l0]
    rw [if_pos (by omega), e', er]
    refine ⟨r, rfl, r1, r2, fun fs t h1 h2 h3 => ?_⟩
    rw [drop_at hi] at h1
    cases fs with
    | nil =>
      rw [List.map_nil, List.nil_append] at h1
      rcases h3 with h3 | ⟨v, h3⟩
      · rw [h3] at h1; cases h1
      · rw [h3] at h1
        injection h1 with h4 h5
        have q := g3 lenN v h4 lenN58 (Nat.zero_le _)
        rw [if_pos rfl] at q
        rw [r3 [] [] (by rw [h5]; rfl) (fun x hx' => by cases hx') (.inl rfl), q]
    | cons x fs =>
      rw [List.map_cons, List.cons_append] at h1
      injection h1 with h4 h5
      have hxx := h2 x (by simp)
      have q := g3 (B x.f0) (B x.f1) h4 hxx.1 (Nat.zero_le _)
      rw [if_neg (by have := hxx.2; rw [lenName_B] at this; exact of_decide_eq_false this), Tx_B, Tx_B] at q
      rw [r3 fs t h5 (fun y hy => h2 y (by simp [hy])) h3, q, List.append_assoc]; rfl
theorem spec_l3Fields_f {k : Nat} {ls : List ByteArray} (hn : ls.length ≤ 1048576) (hb : ∀ x ∈ ls, x.size ≤ 1048576) (hk : 2199042129930 < k) : ∃ r, spec_l3Fields.f k ls = some r ∧ r.length ≤ ls.length ∧ (∀ x ∈ r, x.f0.size ≤ 1048576 ∧ x.f1.size ≤ 1048576) ∧ ∀ (fs : List S100) (t : List ByteArray), ls = fs.map (fun x => Tx (fl x)) ++ t → (∀ x ∈ fs, (58 : UInt8) ∉ B x.f0 ∧ lenName x.f0 = false) → (t = [] ∨ ∃ v, t = [fline lenN v]) → r = fs := by
  obtain ⟨r, e, r1, r2, r3⟩ := spec_l3Fields_l0 ls hn hb ls.length k 0 [] (by omega) (by simp) (fun x hx => by cases hx) (by omega)
  refine ⟨r, e, r1, r2, fun fs t h1 h2 h3 => ?_⟩
  have := r3 fs t h1 h2 h3
  rwa [List.nil_append] at this
/-! ### the parts of a message -/
theorem cut_len (s sep : List UInt8) : (Lib.cut s sep).1.length ≤ s.length ∧ (Lib.cut s sep).2.1.length ≤ s.length := by
  unfold Lib.cut
  split
  · simp only [List.length_take, List.length_drop]; omega
  · simp
theorem strings_Cut_f {s sep : ByteArray} (hs : s.size ≤ 1048576) : strings_Cut.f s sep = some (Tx (Lib.cut (B s) (B sep)).1, Tx (Lib.cut (B s) (B sep)).2.1, (Lib.cut (B s) (B sep)).2.2) := by
  unfold strings_Cut.f
  rw [if_pos (by omega)]; rfl
theorem splitBs_pos (s sep : ByteArray) : 0 < (splitBs s sep).length := by
  unfold splitBs
  cases Lib.countB s sep with
  | zero => simp [Lib.splitB]
  | succ c =>
    unfold Lib.splitB
    split <;> simp
theorem impl_parts_l0 (body : ByteArray) (lines rest : List ByteArray) (h0 : 0 < lines.length) (hnl : lines.length ≤ 10) (hrl : rest.length + 1 = lines.length) (hb : ∀ x ∈ rest, x.size ≤ 1048576) : ∀ (d k i : Nat) (acc : List S100), rest.length = i + d → acc.length ≤ i → (∀ x ∈ acc, x.f0.size ≤ 1048576 ∧ x.f1.size ≤ 1048576) → d < k →
    ∃ f0 r bd ok, impl_parts.l0 k body lines acc rest (rest.length : Int) i = some (f0, r, bd, ok) ∧ ((f0, r, bd, ok) = (⟨#[]⟩, [], ⟨#[]⟩, false) ∨ f0 = lines[0] ∧ bd = body ∧ r.length ≤ 10 ∧ ∀ x ∈ r, x.f0.size ≤ 1048576 ∧ x.f1.size ≤ 1048576) ∧ ∀ (fs : List S100) (t : List ByteArray), rest.drop i = fs.map (fun x => Tx (fl x)) ++ t → (∀ x ∈ fs, (58 : UInt8) ∉ B x.f0 ∧ lenName x.f0 = false) → (t = [] ∨ ∃ v, t = [fline lenN v]) → (f0, r, bd, ok) = (lines[0], acc ++ fs, body, true) := by
  have hr0 : rdOf ByteArray.empty lines 0 = lines[0] := rd_B lines 0 h0
  intro d
  induction d with
  | zero =>
    intro k i acc hd ha hx hk
    obtain ⟨k, rfl⟩ := succ_of (show 0 < k by omega)
    simp only [impl_parts.l0]
    rw [if_neg (by omega), if_pos (by omega), hr0]
    refine ⟨_, _, _, _, rfl, .inr ⟨rfl, rfl, by omega, hx⟩, fun fs t h1 _ _ => ?_⟩
    rw [List.drop_eq_nil_of_le (by omega)] at h1
    have := congrArg List.length h1
    rw [List.length_append, List.length_map] at this
    have h0 : fs = [] := List.eq_nil_of_length_eq_zero (by simp at this; omega)
    rw [h0, List.append_nil]
  | succ d ih =>
    intro k i acc hd ha hx hk
    obtain ⟨k, rfl⟩ := succ_of (show 0 < k by omega)
    have hi : i < rest.length := by omega
    have hts := hb _ (List.getElem_mem hi)
    have hc := cut_len (B rest[i]) [58, 32]
    rw [B_len] at hc
    simp only [impl_parts.l0]
    rw [if_pos (by omega), if_pos (by omega), if_pos (by omega), rd_B rest i hi, strings_Cut_f hts, Option.bind_some, nat_round (n := rest.length) hi (by omega), w64 (n := (lines.length : Int) - 2) (by omega)]
    dsimp only
    rw [show B (⟨#[58, 32]⟩ : ByteArray) = [58, 32] from rfl]
    have push : ∀ x : S100, x.f0.size ≤ 1048576 → x.f1.size ≤ 1048576 → ∃ f0 r bd ok, impl_parts.l0 k body lines (acc ++ [x]) rest (rest.length : Int) ((i + 1 : Nat) : Int) = some (f0, r, bd, ok) ∧ ((f0, r, bd, ok) = (⟨#[]⟩, [], ⟨#[]⟩, false) ∨ f0 = lines[0] ∧ bd = body ∧ r.length ≤ 10 ∧ ∀ x ∈ r, x.f0.size ≤ 1048576 ∧ x.f1.size ≤ 1048576) ∧ ∀ (fs : List S100) (t : List ByteArray), rest.drop (i + 1) = fs.map (fun x => Tx (fl x)) ++ t → (∀ x ∈ fs, (58 : UInt8) ∉ B x.f0 ∧ lenName x.f0 = false) → (t = [] ∨ ∃ v, t = [fline lenN v]) → (f0, r, bd, ok) = (lines[0], (acc ++ [x]) ++ fs, body, true) := fun x hx0 hx1 =>
      ih k (i + 1) (acc ++ [x]) (by omega) (by simp; omega) (fun y hy => by
        rcases List.mem_append.1 hy with hy | hy
        · exact hx y hy
        · rw [List.mem_singleton.1 hy]; exact ⟨hx0, hx1⟩) (by omega)
    have hcut : ∀ a b, rest[i] = fline a b → (58 : UInt8) ∉ a → Lib.cut (B rest[i]) [58, 32] = (a, b, true) := fun a b q1 q2 => by rw [fline_B q1]; exact cut_fl q2
    by_cases c : (Lib.cut (B rest[i]) [58, 32]).2.2 = true
    · rw [if_pos c]
      have pp := push ⟨Tx (Lib.cut (B rest[i]) [58, 32]).1, Tx (Lib.cut (B rest[i]) [58, 32]).2.1⟩ (by rw [Tx_size]; omega) (by rw [Tx_size]; omega)
      have fin : (¬ ((i : Int) = (lines.length : Int) - 2 ∧ (Tx (Lib.cut (B rest[i]) [58, 32]).1).toList = ([99, 111, 110, 116, 101, 110, 116, 45, 108, 101, 110, 103, 116, 104] : List UInt8))) → ∃ f0 r bd ok, impl_parts.l0 k body lines (acc ++ [⟨Tx (Lib.cut (B rest[i]) [58, 32]).1, Tx (Lib.cut (B rest[i]) [58, 32]).2.1⟩]) rest (rest.length : Int) ((i + 1 : Nat) : Int) = some (f0, r, bd, ok) ∧ ((f0, r, bd, ok) = (⟨#[]⟩, [], ⟨#[]⟩, false) ∨ f0 = lines[0] ∧ bd = body ∧ r.length ≤ 10 ∧ ∀ x ∈ r, x.f0.size ≤ 1048576 ∧ x.f1.size ≤ 1048576) ∧ ∀ (fs : List S100) (t : List ByteArray), rest.drop i = fs.map (fun x => Tx (fl x)) ++ t → (∀ x ∈ fs, (58 : UInt8) ∉ B x.f0 ∧ lenName x.f0 = false) → (t = [] ∨ ∃ v, t = [fline lenN v]) → (f0, r, bd, ok) = (lines[0], acc ++ fs, body, true) := by
        intro hno
        obtain ⟨f0, r, bd, ok, e, g1, g2⟩ := pp
        refine ⟨f0, r, bd, ok, e, g1, fun fs t h1 h2 h3 => ?_⟩
        rw [drop_at hi] at h1
        cases fs with
        | nil =>
          exfalso
          rw [List.map_nil, List.nil_append] at h1
          rcases h3 with h3 | ⟨v, h3⟩
          · rw [h3] at h1; cases h1
          · rw [h3] at h1
            injection h1 with h4 h5
            have hl5 := congrArg List.length h5
            rw [List.length_drop, List.length_nil] at hl5
            refine hno ⟨by omega, ?_⟩
            rw [hcut lenN v h4 lenN58, toList_B, B_Tx]; rfl
        | cons x fs =>
          rw [List.map_cons, List.cons_append] at h1
          injection h1 with h4 h5
          have hxx := h2 x (by simp)
          have q := hcut (B x.f0) (B x.f1) h4 hxx.1
          rw [g2 fs t h5 (fun y hy => h2 y (by simp [hy])) h3, q, Tx_B, Tx_B, List.append_assoc]; rfl
      by_cases c2 : (i : Int) = (lines.length : Int) - 2
      · rw [if_pos c2]
        by_cases c3 : (Tx (Lib.cut (B rest[i]) [58, 32]).1).toList = ([99, 111, 110, 116, 101, 110, 116, 45, 108, 101, 110, 103, 116, 104] : List UInt8)
        · rw [if_pos c3, if_pos (by omega), hr0]
          refine ⟨_, _, _, _, rfl, .inr ⟨rfl, rfl, by omega, hx⟩, fun fs t h1 h2 h3 => ?_⟩
          rw [drop_at hi] at h1
          cases fs with
          | nil => rw [List.append_nil]
          | cons x fs =>
            exfalso
            rw [List.map_cons, List.cons_append] at h1
            injection h1 with h4 h5
            have hxx := h2 x (by simp)
            have q := hcut (B x.f0) (B x.f1) h4 hxx.1
            rw [q, Tx_B, toList_B] at c3
            have := hxx.2
            rw [lenName_B] at this
            exact of_decide_eq_false this c3
        · rw [if_neg c3, if_pos (by omega)]
          exact fin (fun h => c3 h.2)
      · rw [if_neg c2, if_pos (by omega)]
        exact fin (fun h => c2 h.1)
    · rw [if_neg c]
      refine ⟨_, _, _, _, rfl, .inl rfl, fun fs t h1 h2 h3 => ?_⟩
      exfalso
      rw [drop_at hi] at h1
      cases fs with
      | nil =>
        rw [List.map_nil, List.nil_append] at h1
        rcases h3 with h3 | ⟨v, h3⟩
        · rw [h3] at h1; cases h1
        · rw [h3] at h1
          injection h1 with h4 h5
          rw [hcut lenN v h4 lenN58] at c; exact c rfl
      | cons x fs =>
        rw [List.map_cons, List.cons_append] at h1
        injection h1 with h4 h5
        rw [hcut (B x.f0) (B x.f1) h4 (h2 x (by simp)).1] at c; exact c rfl
theorem impl_parts_f {k : Nat} {s : ByteArray} (hs : s.size ≤ 1048576) (hk : 20 < k) : ∃ f0 r bd ok, impl_parts.f k s = some (f0, r, bd, ok) ∧ f0.size ≤ 1048576 ∧ bd.size ≤ 1048576 ∧ r.length ≤ 10 ∧ (∀ x ∈ r, x.f0.size ≤ 1048576 ∧ x.f1.size ≤ 1048576) ∧
    ∀ (x0 : List UInt8) (fs : List S100) (lt : List (List UInt8)) (body : List UInt8), GoodL (x0 :: (fs.map fl ++ lt)) → B s = lineT (x0 :: (fs.map fl ++ lt)) ++ (13 :: 10 :: body) → fs.length ≤ 8 → (∀ x ∈ fs, (58 : UInt8) ∉ B x.f0 ∧ lenName x.f0 = false) → (lt = [] ∨ ∃ v, lt = [lenN ++ (58 :: 32 :: v)]) → (f0, r, bd, ok) = (Tx x0, fs, Tx body, true) := by
  have hc := cut_len (B s) [13, 10, 13, 10]
  rw [B_len] at hc
  have hhs : (Tx (Lib.cut (B s) [13, 10, 13, 10]).1).size ≤ 1048576 := by rw [Tx_size]; omega
  obtain ⟨hd, hhd⟩ : ∃ hd, hd = Tx (Lib.cut (B s) [13, 10, 13, 10]).1 := ⟨_, rfl⟩
  have hpos := splitBs_pos hd ⟨#[13, 10]⟩
  have hsm := splitBs_small hd.size hd ⟨#[13, 10]⟩ (Nat.le_refl _) (by show 1 ≤ 2; omega)
  have hln := splitBs_len hd ⟨#[13, 10]⟩ (by show 1 ≤ 2; omega)
  have comp : ∀ (x0 : List UInt8) (fs : List S100) (lt : List (List UInt8)) (body : List UInt8), GoodL (x0 :: (fs.map fl ++ lt)) → B s = lineT (x0 :: (fs.map fl ++ lt)) ++ (13 :: 10 :: body) → Lib.cut (B s) [13, 10, 13, 10] = (joinT (x0 :: (fs.map fl ++ lt)), body, true) ∧ splitBs hd ⟨#[13, 10]⟩ = (x0 :: (fs.map fl ++ lt)).map Tx := fun x0 fs lt body hg hB => by
    have e := cut_head body (l := x0 :: (fs.map fl ++ lt)) (by simp) hg
    rw [← hB] at e
    refine ⟨e, ?_⟩
    rw [hhd, e]
    exact split_join (by simp) hg
  unfold impl_parts.f
  rw [strings_Cut_f hs, Option.bind_some]
  dsimp only
  rw [show B (⟨#[13, 10, 13, 10]⟩ : ByteArray) = [13, 10, 13, 10] from rfl, ← hhd]
  unfold strings_Split.f
  rw [if_pos ⟨by rw [hhd]; omega, by show 1 ≤ 2; omega⟩, Option.bind_some]
  obtain ⟨k, rfl⟩ := succ_of (show 0 < k by omega)
  have rej : ∀ (p : Prop), ∃ f0 r bd ok, (some ((⟨#[]⟩ : ByteArray), ([] : List S100), (⟨#[]⟩ : ByteArray), false)) = some (f0, r, bd, ok) ∧ f0.size ≤ 1048576 ∧ bd.size ≤ 1048576 ∧ r.length ≤ 10 ∧ (∀ x ∈ r, x.f0.size ≤ 1048576 ∧ x.f1.size ≤ 1048576) := fun _ => ⟨_, _, _, _, rfl, Nat.zero_le _, Nat.zero_le _, Nat.zero_le _, fun x hx => by cases hx⟩
  by_cases c : (Lib.cut (B s) [13, 10, 13, 10]).2.2 = true
  · rw [if_pos c]
    simp only [impl_parts.j0]
    by_cases c2 : (splitBs hd ⟨#[13, 10]⟩).length > 10
    · rw [if_pos (decide_eq_true (by omega))]
      refine ⟨_, _, _, _, rfl, Nat.zero_le _, Nat.zero_le _, Nat.zero_le _, fun x hx => (by cases hx), fun x0 fs lt body hg hB hf _ hlt => ?_⟩
      exfalso
      rw [(comp x0 fs lt body hg hB).2, List.length_map, List.length_cons, List.length_append, List.length_map] at c2
      rcases hlt with h | ⟨v, h⟩ <;> rw [h] at c2 <;> simp at c2 <;> omega
    · rw [if_neg (by rw [decide_eq_false (by omega)]; simp), if_pos (by omega), Option.bind_some]
      obtain ⟨f0, r, bd, ok, e, g1, g2⟩ := impl_parts_l0 (Tx (Lib.cut (B s) [13, 10, 13, 10]).2.1) (splitBs hd ⟨#[13, 10]⟩) ((splitBs hd ⟨#[13, 10]⟩).drop 1) hpos (by omega) (by rw [List.length_drop]; omega) (fun x hx => by have := hsm x (List.mem_of_mem_drop hx); rw [hhd] at this; omega) ((splitBs hd ⟨#[13, 10]⟩).drop 1).length k 0 [] (by omega) (by simp) (fun x hx => by cases hx) (by rw [List.length_drop]; omega)
      have e' : impl_parts.l0 k (Tx (Lib.cut (B s) [13, 10, 13, 10]).2.1) (splitBs hd ⟨#[13, 10]⟩) [] ((splitBs hd ⟨#[13, 10]⟩).drop 1) (((splitBs hd ⟨#[13, 10]⟩).drop 1).length : Int) 0 = some (f0, r, bd, ok) := e
      refine ⟨f0, r, bd, ok, e', ?_⟩
      have hb : f0.size ≤ 1048576 ∧ bd.size ≤ 1048576 ∧ r.length ≤ 10 ∧ ∀ x ∈ r, x.f0.size ≤ 1048576 ∧ x.f1.size ≤ 1048576 := by
        rcases g1 with g1 | ⟨g1, g2, g3, g4⟩
        · injection g1 with a1 a2
          injection a2 with a2 a3
          injection a3 with a3 a4
          rw [a1, a2, a3]
          exact ⟨Nat.zero_le _, Nat.zero_le _, Nat.zero_le _, fun x hx => by cases hx⟩
        · refine ⟨?_, ?_, g3, g4⟩
          · rw [g1]; exact Nat.le_trans (hsm _ (List.getElem_mem hpos)) (by rw [hhd]; exact hhs)
          · rw [g2, Tx_size]; omega
      refine ⟨hb.1, hb.2.1, hb.2.2.1, hb.2.2.2, fun x0 fs lt body hg hB hf hfs hlt => ?_⟩
      obtain ⟨q1, q2⟩ := comp x0 fs lt body hg hB
      have h0 : (splitBs hd ⟨#[13, 10]⟩)[0] = Tx x0 := by simp only [q2]; rfl
      have h1 : ((splitBs hd ⟨#[13, 10]⟩).drop 1).drop 0 = fs.map (fun x => Tx (fl x)) ++ lt.map Tx := by
        rw [q2, List.drop_zero, List.map_cons, List.drop_succ_cons, List.drop_zero, List.map_append, List.map_map]; rfl
      have := g2 fs (lt.map Tx) h1 hfs (by
        rcases hlt with h | ⟨v, h⟩
        · left; rw [h]; rfl
        · right; exact ⟨v, by rw [h]; rfl⟩)
      rw [this, h0, q1, List.nil_append]
  · rw [if_neg c]
    simp only [impl_parts.j0]
    rw [if_pos trivial]
    refine ⟨_, _, _, _, rfl, Nat.zero_le _, Nat.zero_le _, Nat.zero_le _, fun x hx => (by cases hx), fun x0 fs lt body hg hB hf _ hlt => ?_⟩
    exfalso
    rw [(comp x0 fs lt body hg hB).1] at c
    exact c rfl
theorem okF_names {l : List S100} (h : fieldsB l = true) : ∀ x ∈ l, (58 : UInt8) ∉ B x.f0 ∧ lenName x.f0 = false := fun x hx => by
  obtain ⟨_, g⟩ := okFs_facts l l 0 h
  exact ⟨tok_free (g x hx).1 (by decide), (g x hx).2.2⟩
theorem lenLines_or (b : ByteArray) : lenLines b = [] ∨ ∃ v, lenLines b = [lenN ++ (58 :: 32 :: v)] := by
  unfold lenLines
  split
  · exact .inl rfl
  · exact .inr ⟨_, rfl⟩

end Go.Proofs.YtnmanegjgidgcaaGreatDoor.Pure
