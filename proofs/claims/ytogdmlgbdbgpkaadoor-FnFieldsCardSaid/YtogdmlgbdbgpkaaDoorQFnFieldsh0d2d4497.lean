/- What the printed functions answer, in plain words: lemmas of this session. No condition of a statement lies here. -/
import Derived.Test.YtogdmlgbdbgpkaaDoorAllx0
import Derived.Test.YtogdmlgbdbgpkaaDoorAllx1
import Derived.Test.YtogdmlgbdbgpkaaDoorAllx10
import Derived.Test.YtogdmlgbdbgpkaaDoorAllx11
import Derived.Test.YtogdmlgbdbgpkaaDoorAllx13
import Derived.Test.YtogdmlgbdbgpkaaDoorAllx14
import Derived.Test.YtogdmlgbdbgpkaaDoorAllx18
import Derived.Test.YtogdmlgbdbgpkaaDoorAllx23
import Derived.Test.YtogdmlgbdbgpkaaDoorAllx28
import Derived.Test.YtogdmlgbdbgpkaaDoorAllx30
import Derived.Test.YtogdmlgbdbgpkaaDoorAllx31
import Derived.Test.YtogdmlgbdbgpkaaDoorAllx32
import Derived.Test.YtogdmlgbdbgpkaaDoorAllx33
import Derived.Test.YtogdmlgbdbgpkaaDoorAllx38
import Derived.Test.YtogdmlgbdbgpkaaDoorAllx39
import Derived.Test.YtogdmlgbdbgpkaaDoorAllx40
import Derived.Test.YtogdmlgbdbgpkaaDoorAllx6
import Derived.Test.YtogdmlgbdbgpkaaDoorAllx9
namespace Go.Proofs.YtogdmlgbdbgpkaaDoor.Pure
open Go.RowKit Go.Proofs.YtogdmlgbdbgpkaaDoor.All Go.Proofs.YtogdmlgbdbgpkaaDoorW.PrintWords Go.Proofs.YtogdmlgbdbgpkaaDoorW.PrintLast
set_option linter.unusedVariables false
set_option linter.unusedSimpArgs false

/-! ### plain words on numbers, bytes, lists -/
theorem w64 {n : Int} (h : -9223372036854775808 ≤ n ∧ n ≤ 9223372036854775807) : wrap64 n = n := by unfold wrap64; omega
/-- a text's bytes -/
def B (s : ByteArray) : List UInt8 := s.data.toList
theorem B_len (s : ByteArray) : (B s).length = s.size := data_length s
theorem toList_B (s : ByteArray) : s.toList = B s := ByteArray.toList_eq s
theorem B_ext {a b : ByteArray} (h : B a = B b) : a = b := by
  cases a with | mk a => cases b with | mk b => unfold B at h; simp at h; rw [h]
theorem B_mk (l : List UInt8) : B ⟨l.toArray⟩ = l := by unfold B; simp
theorem toList_inj {a b : ByteArray} (h : a.toList = b.toList) : a = b := B_ext (by rw [← toList_B, ← toList_B, h])
theorem toList_iff (a b : ByteArray) : a.toList = b.toList ↔ a = b := ⟨toList_inj, fun h => by rw [h]⟩
theorem bt_get (s : ByteArray) (i : Nat) (h : i < (B s).length) : bt s (i : Int) = (((B s)[i]).toNat : Int) := by
  have h' : i < s.size := by rw [← B_len]; exact h
  unfold bt B
  simp [h']
  rfl
theorem B_append (a b : ByteArray) : B (a ++ b) = B a ++ B b := by
  unfold B; rw [ByteArray.data_append]; simp
theorem B_extract (s : ByteArray) (i j : Nat) : B (s.extract i j) = ((B s).take j).drop i := by
  unfold B; rw [ByteArray.data_extract]; simp [List.drop_take]
theorem B_empty : B (⟨#[]⟩ : ByteArray) = [] := rfl
/-- numbers as bytes -/
def oct (n : Int) : UInt8 := UInt8.ofNat n.toNat
theorem oct_nat (c : UInt8) : oct (c.toNat : Int) = c := by unfold oct; simp
theorem strOf (xs : List Int) : strOfNums xs = ⟨(xs.map oct).toArray⟩ := rfl
theorem B_strOf (xs : List Int) : B (strOfNums xs) = xs.map oct := by rw [strOf, B_mk]
theorem succ_of {k d : Nat} (h : d < k) : ∃ m, k = m + 1 := ⟨k - 1, by omega⟩
theorem drop_at {α : Type} {l : List α} {i : Nat} (h : i < l.length) : l.drop i = l[i] :: l.drop (i + 1) := List.drop_eq_getElem_cons h
theorem nat_round {i n : Nat} (h : i < n) (hn : (n : Int) ≤ 9223372036854775807) : wrap64 ((i : Int) + 1) = ((i + 1 : Nat) : Int) := by
  rw [w64 (by omega)]; omega
theorem ite_bool {b : Bool} {α : Type} {x y : α} : (if b = true then x else y) = bif b then x else y := by cases b <;> rfl
/-! ### lists of texts and of numbers -/
theorem rd_B (l : List ByteArray) (j : Nat) (h : j < l.length) : rdOf ByteArray.empty l (j : Int) = l[j] := by simp [rdOf, List.getD, h]
theorem rd_I (l : List Int) (j : Nat) (h : j < l.length) : rd l (j : Int) = l[j] := by simp [rd, List.getD, h]
theorem set_at {α : Type} (pre : List α) (y z : α) (rest : List α) : (pre ++ y :: rest).set ((pre.length : Int)).toNat z = pre ++ z :: rest := by
  rw [Int.toNat_natCast, List.set_append_right _ _ (by omega), Nat.sub_self, List.set_cons_zero]
theorem set_at' {α : Type} {i : Nat} (pre : List α) (y z : α) (rest : List α) (h : pre.length = i) : (pre ++ y :: rest).set ((i : Int)).toNat z = pre ++ z :: rest := by
  subst h; exact set_at pre y z rest
def hasB (s : ByteArray) (l : List ByteArray) : Bool := l.any fun x => decide (x = s)
theorem hasB_drop {l : List ByteArray} {i : Nat} (h : i < l.length) (s : ByteArray) : hasB s (l.drop i) = (decide (l[i] = s) || hasB s (l.drop (i + 1))) := by
  unfold hasB; rw [drop_at h, List.any_cons]
theorem drop_eq {α : Type} {a b : List α} {i : Nat} (ha : i < a.length) (hb : i < b.length) : a.drop i = b.drop i ↔ a[i] = b[i] ∧ a.drop (i + 1) = b.drop (i + 1) := by
  rw [drop_at ha, drop_at hb, List.cons.injEq]
theorem extract_all0 (s : ByteArray) : s.extract 0 s.size = s := ByteArray.extract_zero_size
/-! ### TokenOk -/
def tok1 (c : UInt8) : Bool := decide (97 ≤ c.toNat ∧ c.toNat ≤ 122 ∨ 48 ≤ c.toNat ∧ c.toNat ≤ 57 ∨ c.toNat = 45)
def tokB (s : ByteArray) : Bool := (B s).all tok1 && decide (1 ≤ s.size ∧ s.size ≤ 20)
theorem spec_l1In_f (x a b : Int) : spec_l1In.f x a b = some (decide (a ≤ x ∧ x ≤ b)) := by
  unfold spec_l1In.f
  by_cases h : x ≥ a <;> simp [h]
theorem impl_inRange_f (x a b : Int) : impl_inRange.f x a b = some (decide (a ≤ x ∧ x ≤ b)) := by
  unfold impl_inRange.f
  by_cases h : x ≥ a <;> simp [h]
theorem tok_round (k : Nat) (s : ByteArray) (i : Nat) (hs : (s.size : Int) ≤ 9223372036854775807) (hi : i < s.size) (hl : i < (B s).length) :
    spec_TokenOk.l0 (k + 1) s i = (if tok1 (B s)[i] then spec_TokenOk.l0 k s ((i + 1 : Nat) : Int) else some false) ∧ impl_TokenOk.l0 (k + 1) s i = (if tok1 (B s)[i] then impl_TokenOk.l0 k s ((i + 1 : Nat) : Int) else some false) := by
  have hw := nat_round (i := i) (n := s.size) hi hs
  simp only [spec_TokenOk.l0, impl_TokenOk.l0]
  rw [if_pos (by omega), if_pos (by omega), bt_get s i hl, hw]
  unfold tok1
  generalize ((B s)[i]).toNat = c
  constructor
  all_goals
    by_cases h : 97 ≤ c ∧ c ≤ 122 ∨ 48 ≤ c ∧ c ≤ 57 ∨ c = 45
    · simp only [decide_eq_true h, if_true]
      repeat' (split <;> try rfl)
      all_goals omega
    · simp only [decide_eq_false h, Bool.false_eq_true, if_false]
      repeat' (split <;> try rfl)
      all_goals omega
theorem tok_l0 (s : ByteArray) (hs : (s.size : Int) ≤ 9223372036854775807) : ∀ (d k i : Nat), s.size - i = d → i ≤ s.size → d < k →
    spec_TokenOk.l0 k s i = some (((B s).drop i).all tok1 && decide (1 ≤ s.size ∧ s.size ≤ 20)) ∧ impl_TokenOk.l0 k s i = some (((B s).drop i).all tok1 && decide (1 ≤ s.size ∧ s.size ≤ 20)) := by
  intro d
  induction d with
  | zero =>
    intro k i hd hi hk
    obtain ⟨k, rfl⟩ := succ_of hk
    simp only [spec_TokenOk.l0, impl_TokenOk.l0, spec_l1In_f, impl_inRange_f, Option.bind_some]
    have hni : ¬ ((i : Int) < (s.size : Int)) := by omega
    simp only [if_neg hni]
    rw [List.drop_eq_nil_of_le (by rw [B_len]; omega)]
    have : decide ((1 : Int) ≤ (s.size : Int) ∧ (s.size : Int) ≤ 20) = decide (1 ≤ s.size ∧ s.size ≤ 20) := decide_eq_decide.2 (by omega)
    rw [this]; simp
  | succ d ih =>
    intro k i hd hi hk
    obtain ⟨k, rfl⟩ := succ_of hk
    have hl : i < (B s).length := by rw [B_len]; omega
    obtain ⟨h1, h2⟩ := tok_round k s i hs (by omega) hl
    obtain ⟨i1, i2⟩ := ih k (i + 1) (by omega) (by omega) (by omega)
    rw [h1, h2, i1, i2, drop_at hl, List.all_cons]
    cases tok1 (B s)[i] <;> simp
theorem spec_TokenOk_f {k : Nat} {s : ByteArray} (hs : (s.size : Int) ≤ 9223372036854775807) (hk : s.size < k) : spec_TokenOk.f k s = some (tokB s) := (tok_l0 s hs s.size k 0 (by omega) (by omega) hk).1
theorem impl_TokenOk_f {k : Nat} {s : ByteArray} (hs : (s.size : Int) ≤ 9223372036854775807) (hk : s.size < k) : impl_TokenOk.f k s = some (tokB s) := (tok_l0 s hs s.size k 0 (by omega) (by omega) hk).2
/-! ### fields: what comes in, its size -/
def toF (x : S118) : S78 := ⟨x.f0, x.f1⟩
def szF (x : S118) : Int := x.f0.size + x.f1.size
theorem szF_nonneg (x : S118) : 0 ≤ szF x := by unfold szF; omega
def szFS : List S118 → Int
  | [] => 0
  | x :: r => szF x + szFS r
theorem szFS_nil : szFS [] = 0 := rfl
theorem szFS_cons (x : S118) (r : List S118) : szFS (x :: r) = szF x + szFS r := rfl
theorem szFS_nonneg : ∀ l, 0 ≤ szFS l
  | [] => by simp [szFS]
  | x :: r => by have := szF_nonneg x; have := szFS_nonneg r; simp only [szFS]; omega
def FitsF (x : S118) : Prop := x.f0.size ≤ maxLen ∧ x.f1.size ≤ maxLen
theorem laws_szField_f {x : S118} {n : Int} (h : x.f0.size ≤ maxLen ∧ x.f1.size ≤ maxLen) (h0 : 0 ≤ n) (h1 : n ≤ 1048576) : laws_szField.f x.f0 x.f1 n = some (if n < szF x then -1 else n - szF x) := by
  unfold maxLen at h
  unfold laws_szField.f szF
  rw [w64 (by omega)]
  split
  · rw [if_pos (by omega)]
  · rw [w64 (by omega)]
    split
    · rw [if_pos (by omega)]
    · rw [if_neg (by omega)]; congr 1; omega
/-! ### the first field of a name -/
def getF (n : ByteArray) : List S78 → Option ByteArray
  | [] => none
  | x :: r => if x.f0 = n then some x.f1 else getF n r
def putF (n v : ByteArray) : List S78 → List S78
  | [] => [⟨n, v⟩]
  | x :: r => if x.f0 = n then ⟨x.f0, v⟩ :: r else x :: putF n v r
def dropF (n : ByteArray) : List S78 → List S78
  | [] => []
  | x :: r => if x.f0 = n then r else x :: dropF n r
theorem at_cons (n : ByteArray) (x : S78) (r : List S78) (i : Nat) : at_ n (x :: r) i = if x.f0 = n then (i : Int) else at_ n r (i + 1) := by
  simp only [at_]
  by_cases h : x.f0 = n
  · rw [if_pos h, if_pos (by rw [h]; simp)]
  · rw [if_neg h, if_neg (by simpa using fun e => h (toList_inj e))]
/-- where it stands: nowhere, or at a place j -/
theorem at_cases (n v : ByteArray) : ∀ (l : List S78) (i : Nat), (at_ n l i = -1 ∧ getF n l = none ∧ putF n v l = l ++ [⟨n, v⟩] ∧ dropF n l = l) ∨
    ∃ j, ∃ h : j < l.length, at_ n l i = ((i + j : Nat) : Int) ∧ l[j].f0 = n ∧ getF n l = some l[j].f1 ∧ putF n v l = l.set j ⟨l[j].f0, v⟩ ∧ dropF n l = l.eraseIdx j
  | [], i => .inl ⟨rfl, rfl, rfl, rfl⟩
  | x :: r, i => by
    rw [at_cons]
    by_cases h : x.f0 = n
    · exact .inr ⟨0, by simp, by rw [if_pos h]; rfl, h, by simp [getF, h], by simp [putF, h], by simp [dropF, h]⟩
    · rw [if_neg h]
      rcases at_cases n v r (i + 1) with ⟨h1, h2, h3, h4⟩ | ⟨j, hj, h1, h0, h2, h3, h4⟩
      · exact .inl ⟨h1, by simp [getF, h, h2], by simp [putF, h, h3], by simp [dropF, h, h4]⟩
      · exact .inr ⟨j + 1, by simp; omega, by rw [h1]; congr 1; omega, by simpa using h0, by simp [getF, h, h2], by simp [putF, h, h3], by simp [dropF, h, h4]⟩
theorem at_range (n : ByteArray) (l : List S78) : -1 ≤ at_ n l 0 ∧ at_ n l 0 < l.length := by
  rcases at_cases n n l 0 with ⟨h, _⟩ | ⟨j, hj, h, _⟩ <;> rw [h] <;> omega
theorem impl_fieldAt_f {l : List S78} {n : ByteArray} (hl : l.length < 4398046511104) : impl_fieldAt.f l n = some (at_ n l 0) := by
  unfold impl_fieldAt.f; rw [if_pos hl]
theorem putF_length (n v : ByteArray) (l : List S78) : (putF n v l).length ≤ l.length + 1 := by
  rcases at_cases n v l 0 with ⟨_, _, h, _⟩ | ⟨j, hj, _, _, _, h, _⟩ <;> rw [h] <;> simp
theorem dropF_length (n : ByteArray) (l : List S78) : (dropF n l).length ≤ l.length := by
  rcases at_cases n n l 0 with ⟨_, _, _, h⟩ | ⟨j, hj, _, _, _, _, h⟩ <;> rw [h] <;> simp [List.length_eraseIdx] <;> split <;> omega
theorem spec_l2At_l0 (l : List S78) (n : ByteArray) (hl : (l.length : Int) ≤ 9223372036854775807) : ∀ (d k i : Nat), l.length - i = d → i ≤ l.length → d < k → spec_l2At.l0 k l n i = some (at_ n (l.drop i) i) := by
  intro d
  induction d with
  | zero =>
    intro k i hd hi hk
    obtain ⟨k, rfl⟩ := succ_of hk
    simp only [spec_l2At.l0]
    rw [if_neg (by omega), List.drop_eq_nil_of_le (by omega)]; rfl
  | succ d ih =>
    intro k i hd hi hk
    obtain ⟨k, rfl⟩ := succ_of hk
    have hlt : i < l.length := by omega
    have hx : rd_T78 l (i : Int) = l[i] := by simp [rd_T78, List.getD, hlt]
    simp only [spec_l2At.l0]
    rw [if_pos (by omega), if_pos (by omega), hx, nat_round hlt hl, ih k (i + 1) (by omega) (by omega) (by omega), drop_at hlt, at_cons]
    by_cases h : l[i].f0 = n
    · rw [if_pos h, if_pos (by rw [h])]
    · rw [if_neg h, if_neg (fun e => h (toList_inj e))]
theorem spec_l2At_f {k : Nat} {l : List S78} {n : ByteArray} (hl : (l.length : Int) ≤ 9223372036854775807) (hk : l.length < k) : spec_l2At.f k l n = some (at_ n l 0) := spec_l2At_l0 l n hl l.length k 0 (by omega) (by omega) hk
/-! ### Get, Put, Drop -/
theorem rd_F (l : List S78) (j : Nat) (h : j < l.length) : rd_T78 l (j : Int) = l[j] := by simp [rd_T78, List.getD, h]
theorem impl_Get_f {l : List S78} {n : ByteArray} (hl : l.length < 4398046511104) : impl_Get.f l n = some ((getF n l).getD ⟨#[]⟩, (getF n l).isSome) := by
  unfold impl_Get.f
  rw [impl_fieldAt_f hl, Option.bind_some]
  rcases at_cases n n l 0 with ⟨h1, h2, _, _⟩ | ⟨j, hj, h1, _, h2, _, _⟩
  · rw [h1, h2, if_pos (by omega)]; rfl
  · rw [h1, h2, if_neg (by omega), if_pos (by omega), if_pos (by omega), Nat.zero_add, rd_F l j hj]; rfl
theorem spec_Get_f {k : Nat} {l : List S78} {n : ByteArray} (hl : (l.length : Int) ≤ 9223372036854775807) (hk : l.length < k) : spec_Get.f k l n = some ((getF n l).getD ⟨#[]⟩, (getF n l).isSome) := by
  unfold spec_Get.f
  rw [spec_l2At_f hl hk, Option.bind_some]
  rcases at_cases n n l 0 with ⟨h1, h2, _, _⟩ | ⟨j, hj, h1, _, h2, _, _⟩
  · rw [h1, h2, if_pos (by omega)]; rfl
  · rw [h1, h2, if_neg (by omega), if_pos (by omega), if_pos (by omega), Nat.zero_add, rd_F l j hj]; rfl
theorem slices_Clone_Field_f {l : List S78} (hl : l.length < 4398046511104) : slices_Clone_Field.f l = some l := by
  unfold slices_Clone_Field.f; rw [if_pos hl]
theorem impl_Put_f {l : List S78} {n v : ByteArray} (hl : l.length < 4398046511104) : impl_Put.f l n v = some (putF n v l) := by
  unfold impl_Put.f
  rw [slices_Clone_Field_f hl, Option.bind_some, impl_fieldAt_f hl, Option.bind_some]
  rcases at_cases n v l 0 with ⟨h1, _, h3, _⟩ | ⟨j, hj, h1, _, _, h3, _⟩
  · rw [h1, h3, if_neg (by omega), if_pos hl]
  · rw [h1, h3, if_pos (by omega), if_pos (by omega), if_pos (by omega), Nat.zero_add, rd_F l j hj, Int.toNat_natCast]
theorem spec_Put_f {k : Nat} {l : List S78} {n v : ByteArray} (hl : l.length < 4398046511104) (hk : l.length < k) : spec_Put.f k l n v = some (putF n v l) := by
  unfold spec_Put.f
  rw [Option.bind_some, if_pos (by simpa using hl), Option.bind_some, spec_l2At_f (by omega) hk, Option.bind_some, List.nil_append]
  rcases at_cases n v l 0 with ⟨h1, _, h3, _⟩ | ⟨j, hj, h1, _, _, h3, _⟩
  · rw [h1, h3, if_pos (by omega), if_pos hl]
  · rw [h1, h3, if_neg (by omega), if_pos (by omega), if_pos (by omega), Nat.zero_add, rd_F l j hj, Int.toNat_natCast]
def skipI (j : Int) : Nat → List S78 → List S78
  | _, [] => []
  | i, x :: r => if (i : Int) = j then skipI j (i + 1) r else x :: skipI j (i + 1) r
theorem skipI_past (j : Int) : ∀ (l : List S78) (i : Nat), j < i → skipI j i l = l
  | [], _, _ => rfl
  | x :: r, i, h => by rw [skipI, if_neg (by omega), skipI_past j r (i + 1) (by omega)]
theorem skipI_at : ∀ (l : List S78) (i m : Nat), skipI ((i + m : Nat) : Int) i l = l.eraseIdx m
  | [], _, _ => rfl
  | x :: r, i, 0 => by rw [skipI, if_pos (by omega), skipI_past _ r _ (by omega)]; rfl
  | x :: r, i, m + 1 => by
    rw [skipI, if_neg (by omega), List.eraseIdx_cons_succ, ← skipI_at r (i + 1) m]
    rw [show i + (m + 1) = i + 1 + m by omega]
theorem skipI_len (j : Int) : ∀ (l : List S78) (i : Nat), (skipI j i l).length ≤ l.length
  | [], _ => Nat.le_refl _
  | x :: r, i => by
    have := skipI_len j r (i + 1)
    rw [skipI]; split <;> simp only [List.length_cons] <;> omega
theorem spec_Drop_l0 (l : List S78) (j : Int) (hl : l.length < 4398046511104) : ∀ (d k i : Nat) (acc : List S78), l.length - i = d → i ≤ l.length → acc.length ≤ i → d < k →
    spec_Drop.l0 k l j acc i = some (acc ++ skipI j i (l.drop i)) := by
  intro d
  induction d with
  | zero =>
    intro k i acc hd hi ha hk
    obtain ⟨k, rfl⟩ := succ_of hk
    simp only [spec_Drop.l0]
    rw [if_neg (by omega), List.drop_eq_nil_of_le (by omega), skipI, List.append_nil]
  | succ d ih =>
    intro k i acc hd hi ha hk
    obtain ⟨k, rfl⟩ := succ_of hk
    have hlt : i < l.length := by omega
    simp only [spec_Drop.l0]
    rw [if_pos (by omega), rd_F l i hlt, nat_round (n := l.length) hlt (by omega), drop_at hlt, skipI]
    by_cases h : (i : Int) = j
    · rw [if_pos h, if_pos h, ih k (i + 1) acc (by omega) (by omega) (by omega) (by omega)]
    · rw [if_neg h, if_neg h, if_pos (by omega), if_pos (by omega), ih k (i + 1) _ (by omega) (by omega) (by simp; omega) (by omega), List.append_assoc]
      rfl
theorem spec_Drop_f {k : Nat} {l : List S78} {n : ByteArray} (hl : l.length < 4398046511104) (hk : l.length < k) : spec_Drop.f k l n = some (dropF n l) := by
  unfold spec_Drop.f
  rw [spec_l2At_f (by omega) hk, Option.bind_some, show (0 : Int) = ((0 : Nat) : Int) from rfl, spec_Drop_l0 l _ hl l.length k 0 [] (by omega) (by omega) (by simp) hk, List.nil_append, List.drop_zero]
  rcases at_cases n n l 0 with ⟨h1, _, _, h4⟩ | ⟨j, hj, h1, _, _, _, h4⟩
  · rw [h1, h4, skipI_past _ _ _ (by omega)]
  · rw [h1, h4, skipI_at]
theorem impl_Drop_f {l : List S78} {n : ByteArray} (hl : l.length < 4398046511104) : impl_Drop.f l n = some (dropF n l) := by
  unfold impl_Drop.f
  rw [if_pos hl]
  rcases at_cases n n l 0 with ⟨h1, _, _, h4⟩ | ⟨j, hj, h1, _, _, _, h4⟩
  · rw [h1, h4, if_pos (by omega)]
  · rw [h1, h4, if_neg (by omega), Nat.zero_add, Int.toNat_natCast]
/-! ### FieldsText, Drop, Short, ValuesOf, Same, Pieces, Suits -/
theorem fieldLines_length : ∀ l : List S78, ((fieldLines l).length : Int) = 4 * l.length + (l.map fun x => (x.f0.size : Int) + x.f1.size).foldr (· + ·) 0
  | [] => rfl
  | x :: r => by
    simp only [fieldLines, fieldLine, List.length_append, List.length_cons, List.map_cons, List.foldr_cons, data_length]
    have := fieldLines_length r
    simp only [List.length_nil]
    omega
theorem fieldLines_toF : ∀ l : List S118, ((fieldLines (l.map toF)).length : Int) = 4 * l.length + szFS l
  | [] => rfl
  | x :: r => by
    have := fieldLines_toF r
    simp only [List.map_cons, fieldLines, fieldLine, List.length_append, List.length_cons, data_length, szFS, szF, toF, List.length_nil] at this ⊢
    omega
theorem spec_FieldsText_l0 (l : List S78) (hl : (fieldLines l).length ≤ 1099511627776) (hn : (l.length : Int) ≤ 9223372036854775807) : ∀ (d k i : Nat) (acc : ByteArray), l.length - i = d → i ≤ l.length → B acc ++ fieldLines (l.drop i) = fieldLines l → d < k →
    spec_FieldsText.l0 k l acc i = some ⟨(fieldLines l).toArray⟩ := by
  intro d
  induction d with
  | zero =>
    intro k i acc hd hi ha hk
    obtain ⟨k, rfl⟩ := succ_of hk
    simp only [spec_FieldsText.l0]
    rw [List.drop_eq_nil_of_le (by omega), fieldLines, List.append_nil] at ha
    rw [if_neg (by omega), ← ha]
    exact congrArg some (B_ext (B_mk _).symm)
  | succ d ih =>
    intro k i acc hd hi ha hk
    obtain ⟨k, rfl⟩ := succ_of hk
    have hlt : i < l.length := by omega
    rw [drop_at hlt, fieldLines] at ha
    have hlen := congrArg List.length ha
    simp only [fieldLine, List.length_append, List.length_cons, List.length_nil, data_length, B_len] at hlen
    have ih := ih k (i + 1) (acc ++ l[i].f0 ++ ⟨#[58, 32]⟩ ++ l[i].f1 ++ ⟨#[13, 10]⟩) (by omega) (by omega) (by
      rw [← ha]
      simp only [B_append, fieldLine, List.append_assoc]
      rfl) (by omega)
    have s1 : (⟨#[58, 32]⟩ : ByteArray).size = 2 := rfl
    simp only [spec_FieldsText.l0]
    rw [if_pos (by omega), if_pos (by omega), rd_F l i hlt, nat_round (n := l.length) hlt hn, if_pos (by omega), if_pos (by simp only [ByteArray.size_append]; omega), if_pos (by simp only [ByteArray.size_append, s1]; omega), if_pos (by simp only [ByteArray.size_append, s1]; omega), ih]
theorem spec_FieldsText_f {k : Nat} {l : List S78} (hl : (fieldLines l).length ≤ 1099511627776) (hn : (l.length : Int) ≤ 9223372036854775807) (hk : l.length < k) : spec_FieldsText.f k l = some ⟨(fieldLines l).toArray⟩ := by
  have := spec_FieldsText_l0 l hl hn l.length k 0 ⟨#[]⟩ (by omega) (by omega) (by rw [List.drop_zero]; rfl) hk
  simpa [spec_FieldsText.f] using this
theorem impl_FieldsText_f {l : List S78} (hl : (fieldLines l).length ≤ 1099511627776) (hn : l.length < 4398046511104) : impl_FieldsText.f l = some ⟨(fieldLines l).toArray⟩ := by
  unfold impl_FieldsText.f
  rw [if_pos ⟨hn, hl⟩]
/-! ### NumText -/
def numT (n : Int) : ByteArray := if 0 ≤ n ∧ n ≤ 1000000 then ⟨(Lib.itoa n).toArray⟩ else ⟨#[]⟩
theorem digit_of (u : Nat) : oct ((wrap64 (48 + Int.tmod (u : Int) 10)) % 256) = UInt8.ofNat (48 + u % 10) := by
  have h : Int.tmod (u : Int) 10 = ((u % 10 : Nat) : Int) := by rw [Int.tmod_eq_emod_of_nonneg (by omega)]; omega
  rw [h, w64 (by omega), show (48 + ((u % 10 : Nat) : Int)) % 256 = ((48 + u % 10 : Nat) : Int) by omega]
  unfold oct
  rw [Int.toNat_natCast]
theorem decDigits_len (u : Nat) : ∀ d, u < 10 ^ (d + 1) → (Lib.decDigits u).length ≤ d + 1 := by
  intro d
  induction d generalizing u with
  | zero => intro h; rw [Lib.decDigits, dif_pos (by omega)]; simp
  | succ d ih =>
    intro h
    rw [Lib.decDigits]
    split
    · simp
    · have h10 : (10 : Nat) ^ (d + 1 + 1) = 10 ^ (d + 1) * 10 := rfl
      have := ih (u / 10) (by omega)
      simp only [List.length_append, List.length_cons, List.length_nil]; omega
theorem spec_NumText_l0 : ∀ (d k u : Nat) (acc : ByteArray), u < 10 ^ d → acc.size + d ≤ 1000 → u ≤ 4611686018427387904 → d < k →
    spec_NumText.l0 k (u : Int) acc = some (if u = 0 then acc else ⟨(Lib.decDigits u ++ B acc).toArray⟩) := by
  intro d
  induction d with
  | zero =>
    intro k u acc hu ha hb hk
    obtain ⟨k, rfl⟩ := succ_of hk
    obtain rfl : u = 0 := by simp at hu; omega
    simp only [spec_NumText.l0]
    rw [if_neg (by omega), if_pos trivial]
  | succ d ih =>
    intro k u acc hu ha hb hk
    obtain ⟨k, rfl⟩ := succ_of hk
    simp only [spec_NumText.l0]
    by_cases h0 : u = 0
    · rw [if_neg (by omega), if_pos h0]
    have h10 : (10 : Nat) ^ (d + 1) = 10 ^ d * 10 := rfl
    rw [if_pos (by omega), Option.bind_some, if_pos (by rw [strOfNums_size]; simp; omega), if_neg h0]
    have hdiv : wrap64 (Int.tdiv (u : Int) 10) = ((u / 10 : Nat) : Int) := by
      rw [Int.tdiv_eq_ediv_of_nonneg (by omega), w64 (by omega)]; omega
    rw [hdiv, ih k (u / 10) _ (by omega) (by rw [ByteArray.size_append, strOfNums_size]; simp; omega) (by omega) (by omega)]
    refine congrArg some ?_
    have hB : B (strOfNums [(wrap64 (48 + Int.tmod (u : Int) 10)) % 256] ++ acc) = UInt8.ofNat (48 + u % 10) :: B acc := by
      rw [B_append, B_strOf, List.map_cons, List.map_nil, digit_of]; rfl
    split
    · rename_i h1
      apply B_ext
      rw [hB, B_mk (Lib.decDigits u ++ B acc), Lib.decDigits, dif_pos (by omega), show u % 10 = u by omega]
      rfl
    · rename_i h1
      apply B_ext
      rw [hB, B_mk (Lib.decDigits (u / 10) ++ _), B_mk (Lib.decDigits u ++ B acc)]
      conv => rhs; rw [Lib.decDigits]
      rw [dif_neg (by omega), List.append_assoc]
      rfl
theorem itoa_nat (u : Nat) : Lib.itoa (u : Int) = Lib.decDigits u := by
  unfold Lib.itoa; rw [if_neg (by omega), Int.toNat_natCast]
theorem spec_NumText_f {k : Nat} {n : Int} (hk : 30 < k) : spec_NumText.f k n = some (numT n) := by
  unfold spec_NumText.f numT
  rw [spec_l1In_f, Option.bind_some]
  by_cases h : 0 ≤ n ∧ n ≤ 1000000
  · rw [if_pos (decide_eq_true h), if_pos h]
    obtain ⟨u, rfl⟩ : ∃ u : Nat, n = u := ⟨n.toNat, by omega⟩
    rw [itoa_nat]
    by_cases h0 : u = 0
    · subst h0
      rw [if_pos (show ((0 : Nat) : Int) = 0 from rfl), Lib.decDigits, dif_pos (by omega)]; rfl
    · rw [if_neg (by omega), spec_NumText_l0 20 k u _ (by omega) (by decide) (by omega) (by omega), if_neg h0, B_empty, List.append_nil]
  · rw [if_neg (by simpa using h), if_neg h]
theorem impl_NumText_f {n : Int} : impl_NumText.f n = some (numT n) := by
  unfold impl_NumText.f numT
  rw [impl_inRange_f, Option.bind_some]
  by_cases h : 0 ≤ n ∧ n ≤ 1000000
  · rw [if_pos (decide_eq_true h), if_pos h]
    unfold strconv_Itoa.f
    rw [if_pos (by omega), Option.bind_some]
  · rw [if_neg (by simpa using h), if_neg h]
/-! ### Trim -/
def trimT (s : ByteArray) : ByteArray := ⟨(Lib.trimB (B s) 32).toArray⟩
theorem oct32 (c : UInt8) : ((c.toNat : Int) = 32) ↔ c = 32 := by
  constructor
  · intro h
    have : c.toNat = (32 : UInt8).toNat := by show c.toNat = 32; omega
    exact UInt8.toNat_inj.1 this
  · rintro rfl; rfl
theorem spec_Trim_l1 (s : ByteArray) (hs : (s.size : Int) ≤ 4611686018427387904) (i : Nat) (hi : i ≤ s.size) : ∀ (d k m : Nat), m = i + d → m ≤ s.size → d < k → (∀ j (h : j < (B s).length), m ≤ j → (B s)[j] = 32) →
    ∃ n, i ≤ n ∧ n ≤ s.size ∧ spec_Trim.l1 k s i m = some (s.extract i n) ∧ (∀ j (h : j < (B s).length), n ≤ j → (B s)[j] = 32) ∧ (n = i ∨ ∀ (h : n - 1 < (B s).length), (B s)[n - 1] ≠ 32) := by
  intro d
  induction d with
  | zero =>
    intro k m hm hms hk hall
    obtain ⟨k, rfl⟩ := succ_of hk
    refine ⟨m, by omega, hms, ?_, hall, .inl (by omega)⟩
    simp only [spec_Trim.l1]
    rw [if_neg (by omega), if_pos (by omega), if_pos (by omega), if_pos (by omega), Int.toNat_natCast, Int.toNat_natCast]
  | succ d ih =>
    intro k m hm hms hk hall
    obtain ⟨k, rfl⟩ := succ_of hk
    have hl : m - 1 < (B s).length := by rw [B_len]; omega
    have hw : wrap64 ((m : Int) - 1) = ((m - 1 : Nat) : Int) := by rw [w64 (by omega)]; omega
    simp only [spec_Trim.l1]
    rw [hw, if_pos (by omega), if_pos (by omega), if_pos (by omega), bt_get s (m - 1) hl]
    by_cases c : (B s)[m - 1] = 32
    · rw [if_pos ((oct32 _).2 c)]
      refine ih k (m - 1) (by omega) (by omega) (by omega) (fun j h hj => ?_)
      by_cases e : j = m - 1
      · subst e; exact c
      · exact hall j h (by omega)
    · rw [if_neg (fun e => c ((oct32 _).1 e)), if_pos (by omega), if_pos (by omega), if_pos (by omega), Int.toNat_natCast, Int.toNat_natCast]
      exact ⟨m, by omega, hms, rfl, hall, .inr fun _ => c⟩
theorem trim_is (s : ByteArray) (i n : Nat) (hi : i ≤ n) (hn : n ≤ s.size) (h1 : ∀ j (h : j < (B s).length), j < i → (B s)[j] = 32) (h2 : ∀ h : i < (B s).length, (B s)[i] ≠ 32) (h3 : ∀ j (h : j < (B s).length), n ≤ j → (B s)[j] = 32) (h4 : n = i ∨ ∀ (h : n - 1 < (B s).length), (B s)[n - 1] ≠ 32) :
    s.extract i n = trimT s := by
  apply B_ext
  rw [B_extract]
  unfold trimT
  rw [B_mk (Lib.trimB (B s) 32)]
  have hlen := B_len s
  unfold Lib.trimB
  by_cases hi' : i < s.size
  · have hni : n ≠ i := fun e => h2 (by omega) (h3 i (by omega) (by omega))
    rw [Lib.trimRightB_take (B s) 32 n (by omega) (fun j b hj hb => by
      obtain ⟨hj', rfl⟩ := List.getElem?_eq_some_iff.1 hb
      exact h3 j hj' hj) (fun b _ hb => by
      obtain ⟨hj', rfl⟩ := List.getElem?_eq_some_iff.1 hb
      rcases h4 with h4 | h4
      · exact absurd h4 hni
      · exact h4 hj'),
      Lib.trimLeftB_drop ((B s).take n) 32 i (by rw [List.length_take]; omega) (fun j b hj hb => by
        rw [List.getElem?_take_of_lt (by omega)] at hb
        obtain ⟨hj', rfl⟩ := List.getElem?_eq_some_iff.1 hb
        exact h1 j hj' hj) (fun b hb => by
        rw [List.getElem?_take_of_lt (by omega)] at hb
        obtain ⟨hj', rfl⟩ := List.getElem?_eq_some_iff.1 hb
        exact h2 hj')]
  · rw [Lib.trimRightB_take (B s) 32 0 (by omega) (fun j b _ hb => by
      obtain ⟨hj', rfl⟩ := List.getElem?_eq_some_iff.1 hb
      exact h1 j hj' (by omega)) (fun b h _ => by omega)]
    rw [List.drop_eq_nil_of_le (by rw [List.length_take]; omega)]
    rfl
theorem spec_Trim_l0 (s : ByteArray) (hs : (s.size : Int) ≤ 4611686018427387904) : ∀ (d k i : Nat), s.size = i + d → d + s.size + 2 < k → (∀ j (h : j < (B s).length), j < i → (B s)[j] = 32) → spec_Trim.l0 k s i (s.size : Int) = some (trimT s) := by
  intro d
  have fin : ∀ (k i : Nat), i ≤ s.size → s.size + 1 < k → (∀ j (h : j < (B s).length), j < i → (B s)[j] = 32) → (∀ h : i < (B s).length, (B s)[i] ≠ 32) → spec_Trim.j1 k s i (s.size : Int) = some (trimT s) := by
    intro k i hi hk h1 h2
    obtain ⟨k, rfl⟩ := succ_of (show 0 < k by omega)
    simp only [spec_Trim.j1]
    obtain ⟨n, n1, n2, n3, n4, n5⟩ := spec_Trim_l1 s hs i hi (s.size - i) k s.size (by omega) (Nat.le_refl _) (by omega) (fun j h hj => by rw [B_len] at h; omega)
    rw [n3, trim_is s i n n1 n2 h1 h2 n4 n5]
  induction d with
  | zero =>
    intro k i hd hk hall
    obtain ⟨k, rfl⟩ := succ_of (show 0 < k by omega)
    simp only [spec_Trim.l0]
    rw [if_neg (by omega)]
    exact fin k i (by omega) (by omega) hall (fun h => by rw [B_len] at h; omega)
  | succ d ih =>
    intro k i hd hk hall
    obtain ⟨k, rfl⟩ := succ_of (show 0 < k by omega)
    have hl : i < (B s).length := by rw [B_len]; omega
    simp only [spec_Trim.l0]
    rw [if_pos (by omega), if_pos (by omega), if_pos (by omega), bt_get s i hl, nat_round (n := s.size) (by omega) (by omega)]
    by_cases c : (B s)[i] = 32
    · rw [if_pos ((oct32 _).2 c)]
      refine ih k (i + 1) (by omega) (by omega) (fun j h hj => ?_)
      by_cases e : j = i
      · subst e; exact c
      · exact hall j h (by omega)
    · rw [if_neg (fun e => c ((oct32 _).1 e))]
      exact fin k i (by omega) (by omega) hall (fun _ => c)
theorem spec_Trim_f {k : Nat} {s : ByteArray} (hs : (s.size : Int) ≤ 4611686018427387904) (hk : 2 * s.size + 2 < k) : spec_Trim.f k s = some (trimT s) :=
  spec_Trim_l0 s hs s.size k 0 (by omega) (by omega) (fun j _ hj => by omega)
theorem impl_Trim_f {s : ByteArray} (hs : (s.size : Int) ≤ 4611686018427387904) : impl_Trim.f s = some (trimT s) := by
  unfold impl_Trim.f strings_Trim.f
  rw [if_pos ⟨rfl, by omega⟩, Option.bind_some]
  rfl
/-! ### ValueOk, paths, times -/
def fromB (m : Int) (s : ByteArray) : Bool := (B s).all fun c => decide (m ≤ (c.toNat : Int) ∧ (c.toNat : Int) ≤ 126)
def fromD (m : Int) (l : List UInt8) : Bool := l.all fun c => decide (m ≤ (c.toNat : Int) ∧ (c.toNat : Int) ≤ 126)
def valB (s : ByteArray) : Bool := decide (1 ≤ s.size ∧ s.size ≤ 60) && fromB 32 s && decide (trimT s = s)
theorem beq_texts (a b : ByteArray) : (a.toList == b.toList) = decide (a = b) := by
  rw [Bool.eq_iff_iff, beq_iff_eq, decide_eq_true_eq, toList_iff]
theorem in_range (s : ByteArray) (a b : Nat) : decide ((a : Int) ≤ (s.size : Int) ∧ (s.size : Int) ≤ (b : Int)) = decide (a ≤ s.size ∧ s.size ≤ b) := decide_eq_decide.2 (by omega)
theorem spec_ValueOk_l0 (s : ByteArray) (hs : (s.size : Int) ≤ 4611686018427387904) : ∀ (d k i : Nat), s.size = i + d → d + 2 * s.size + 3 < k →
    spec_ValueOk.l0 k s i = some (fromD 32 ((B s).drop i) && decide (1 ≤ s.size ∧ s.size ≤ 60) && decide (trimT s = s)) := by
  intro d
  induction d with
  | zero =>
    intro k i hd hk
    obtain ⟨k, rfl⟩ := succ_of (show 0 < k by omega)
    simp only [spec_ValueOk.l0]
    rw [if_neg (by omega), spec_l1In_f, Option.bind_some, List.drop_eq_nil_of_le (by rw [B_len]; omega), show (1 : Int) = ((1 : Nat) : Int) from rfl, show (60 : Int) = ((60 : Nat) : Int) from rfl, in_range]
    by_cases h : 1 ≤ s.size ∧ s.size ≤ 60
    · rw [if_pos (decide_eq_true h), spec_Trim_f hs (by omega), Option.bind_some, beq_texts, decide_eq_true h]; simp [fromD]
    · rw [if_neg (by simpa using h), decide_eq_false h]; simp
  | succ d ih =>
    intro k i hd hk
    obtain ⟨k, rfl⟩ := succ_of (show 0 < k by omega)
    have hl : i < (B s).length := by rw [B_len]; omega
    simp only [spec_ValueOk.l0]
    rw [if_pos (by omega), if_pos (by omega), bt_get s i hl, nat_round (n := s.size) (by omega) (by omega), drop_at hl]
    unfold fromD
    rw [List.all_cons]
    by_cases h1 : ((B s)[i].toNat : Int) < 32
    · rw [if_pos h1, decide_eq_false (by omega)]; simp
    · rw [if_neg h1]
      by_cases h2 : ((B s)[i].toNat : Int) > 126
      · rw [if_pos h2, decide_eq_false (by omega)]; simp
      · rw [if_neg h2, decide_eq_true (by omega), Bool.true_and, ih k (i + 1) (by omega) (by omega)]; rfl
theorem spec_ValueOk_f {k : Nat} {s : ByteArray} (hs : (s.size : Int) ≤ 4611686018427387904) (hk : 3 * s.size + 3 < k) : spec_ValueOk.f k s = some (valB s) := by
  unfold spec_ValueOk.f
  rw [show (0 : Int) = ((0 : Nat) : Int) from rfl, spec_ValueOk_l0 s hs s.size k 0 (by omega) (by omega), List.drop_zero]
  unfold valB
  rw [Bool.and_comm (fromD 32 (B s))]; rfl
theorem impl_areFrom_l0 (s : ByteArray) (m : Int) (hs : (s.size : Int) ≤ 4611686018427387904) : ∀ (d k i : Nat), s.size = i + d → d < k → impl_areFrom.l0 k s m i = some (fromD m ((B s).drop i)) := by
  intro d
  induction d with
  | zero =>
    intro k i hd hk
    obtain ⟨k, rfl⟩ := succ_of (show 0 < k by omega)
    simp only [impl_areFrom.l0]
    rw [if_neg (by omega), List.drop_eq_nil_of_le (by rw [B_len]; omega)]; rfl
  | succ d ih =>
    intro k i hd hk
    obtain ⟨k, rfl⟩ := succ_of (show 0 < k by omega)
    have hl : i < (B s).length := by rw [B_len]; omega
    simp only [impl_areFrom.l0]
    rw [if_pos (by omega), if_pos (by omega), bt_get s i hl, nat_round (n := s.size) (by omega) (by omega), drop_at hl]
    unfold fromD
    rw [List.all_cons]
    by_cases h1 : ((B s)[i].toNat : Int) < m
    · rw [if_pos h1, decide_eq_false (by omega)]; simp
    · rw [if_neg h1]
      by_cases h2 : ((B s)[i].toNat : Int) > 126
      · rw [if_pos h2, decide_eq_false (by omega)]; simp
      · rw [if_neg h2, decide_eq_true (by omega), Bool.true_and, ih k (i + 1) (by omega) (by omega)]; rfl
theorem impl_areFrom_f {k : Nat} {s : ByteArray} {m : Int} (hs : (s.size : Int) ≤ 4611686018427387904) (hk : s.size < k) : impl_areFrom.f k s m = some (fromB m s) := by
  have := impl_areFrom_l0 s m hs s.size k 0 (by omega) hk
  rw [List.drop_zero] at this
  exact this
theorem impl_ValueOk_f {k : Nat} {s : ByteArray} (hs : (s.size : Int) ≤ 4611686018427387904) (hk : s.size < k) : impl_ValueOk.f k s = some (valB s) := by
  unfold impl_ValueOk.f valB
  rw [impl_inRange_f, Option.bind_some, show (1 : Int) = ((1 : Nat) : Int) from rfl, show (60 : Int) = ((60 : Nat) : Int) from rfl, in_range]
  by_cases h : 1 ≤ s.size ∧ s.size ≤ 60
  · rw [if_pos (decide_eq_true h), impl_areFrom_f hs hk, Option.bind_some, decide_eq_true h, Bool.true_and]
    cases hf : fromB 32 s
    · rw [if_neg (by simp)]; simp
    · rw [if_pos rfl, impl_Trim_f hs, Option.bind_some, beq_texts, Bool.true_and]
  · rw [if_neg (by simpa using h), decide_eq_false h]; simp
def pathB (s : ByteArray) : Bool := decide (1 ≤ s.size ∧ s.size ≤ 60) && (decide (bt s 0 = 47) && fromB 33 s)
theorem spec_l3Path_l0 (s : ByteArray) (hs : (s.size : Int) ≤ 4611686018427387904) : ∀ (d k i : Nat), s.size = i + d → d < k →
    spec_l3Path.l0 k s i = some (fromD 33 ((B s).drop i) && (decide (1 ≤ s.size ∧ s.size ≤ 60) && decide (bt s 0 = 47))) := by
  intro d
  induction d with
  | zero =>
    intro k i hd hk
    obtain ⟨k, rfl⟩ := succ_of (show 0 < k by omega)
    simp only [spec_l3Path.l0]
    rw [if_neg (by omega), spec_l1In_f, Option.bind_some, List.drop_eq_nil_of_le (by rw [B_len]; omega), show (1 : Int) = ((1 : Nat) : Int) from rfl, show (60 : Int) = ((60 : Nat) : Int) from rfl, in_range]
    by_cases h : 1 ≤ s.size ∧ s.size ≤ 60
    · rw [if_pos (decide_eq_true h), if_pos (by omega), decide_eq_true h]
      refine congrArg some ?_
      rw [Bool.eq_iff_iff]; simp [fromD]
    · rw [if_neg (by simpa using h), decide_eq_false h]; simp
  | succ d ih =>
    intro k i hd hk
    obtain ⟨k, rfl⟩ := succ_of (show 0 < k by omega)
    have hl : i < (B s).length := by rw [B_len]; omega
    simp only [spec_l3Path.l0]
    rw [if_pos (by omega), if_pos (by omega), bt_get s i hl, nat_round (n := s.size) (by omega) (by omega), drop_at hl]
    unfold fromD
    rw [List.all_cons]
    by_cases h1 : ((B s)[i].toNat : Int) < 33
    · rw [if_pos h1, decide_eq_false (by omega)]; simp
    · rw [if_neg h1]
      by_cases h2 : ((B s)[i].toNat : Int) > 126
      · rw [if_pos h2, decide_eq_false (by omega)]; simp
      · rw [if_neg h2, decide_eq_true (by omega), Bool.true_and, ih k (i + 1) (by omega) (by omega)]; rfl
theorem spec_l3Path_f {k : Nat} {s : ByteArray} (hs : (s.size : Int) ≤ 4611686018427387904) (hk : s.size < k) : spec_l3Path.f k s = some (pathB s) := by
  unfold spec_l3Path.f
  rw [show (0 : Int) = ((0 : Nat) : Int) from rfl, spec_l3Path_l0 s hs s.size k 0 (by omega) (by omega), List.drop_zero]
  unfold pathB
  refine congrArg some ?_
  show (fromB 33 s && _) = _
  cases fromB 33 s <;> simp
theorem impl_pathOk_f {k : Nat} {s : ByteArray} (hs : (s.size : Int) ≤ 4611686018427387904) (hk : s.size < k) : impl_pathOk.f k s = some (pathB s) := by
  unfold impl_pathOk.f pathB
  rw [impl_inRange_f, Option.bind_some, show (1 : Int) = ((1 : Nat) : Int) from rfl, show (60 : Int) = ((60 : Nat) : Int) from rfl, in_range]
  by_cases h : 1 ≤ s.size ∧ s.size ≤ 60
  · rw [if_pos (decide_eq_true h), if_pos (by omega), decide_eq_true h, Bool.true_and]
    by_cases h2 : bt s 0 = 47
    · rw [if_pos h2, impl_areFrom_f hs hk, Option.bind_some, decide_eq_true h2, Bool.true_and]
    · rw [if_neg h2, decide_eq_false h2, Bool.false_and]
  · rw [if_neg (by simpa using h), decide_eq_false h]; simp
/-! ### FieldsOk -/
def lenName (s : ByteArray) : Bool := decide (s.toList = [99, 111, 110, 116, 101, 110, 116, 45, 108, 101, 110, 103, 116, 104])
def okFs (l : List S78) : Nat → List S78 → Bool
  | _, [] => decide (l.length ≤ 8)
  | i, x :: r => tokB x.f0 && (valB x.f1 && (!lenName x.f0 && (decide (at_ x.f0 l 0 = (i : Int)) && okFs l (i + 1) r)))
def fieldsB (l : List S78) : Bool := okFs l 0 l
/-- a list of fields of at most K of anything -/
def SmallF (K : Nat) (l : List S78) : Prop := l.length ≤ K ∧ ∀ x ∈ l, x.f0.size ≤ K ∧ x.f1.size ≤ K
theorem FieldsOk_l0 (K : Nat) (hK : K < 4398046511104) (l : List S78) (hl : SmallF K l) : ∀ (d k i : Nat), l.length = i + d → d + 4 * K + 4 < k →
    spec_FieldsOk.l0 k l i = some (okFs l i (l.drop i)) ∧ impl_FieldsOk.l0 k l l (l.length : Int) i = some (okFs l i (l.drop i)) := by
  obtain ⟨hn, hx⟩ := hl
  intro d
  induction d with
  | zero =>
    intro k i hd hk
    obtain ⟨k, rfl⟩ := succ_of (show 0 < k by omega)
    simp only [spec_FieldsOk.l0, impl_FieldsOk.l0]
    have h8 : decide ((l.length : Int) ≤ 8) = decide (l.length ≤ 8) := decide_eq_decide.2 (by omega)
    rw [if_neg (by omega), if_neg (by omega), List.drop_eq_nil_of_le (by omega), okFs, h8]
    exact ⟨rfl, rfl⟩
  | succ d ih =>
    intro k i hd hk
    obtain ⟨k, rfl⟩ := succ_of (show 0 < k by omega)
    have hlt : i < l.length := by omega
    obtain ⟨s0, s1⟩ := hx _ (List.getElem_mem hlt)
    obtain ⟨i1, i2⟩ := ih k (i + 1) (by omega) (by omega)
    simp only [spec_FieldsOk.l0, impl_FieldsOk.l0]
    rw [rd_F l i hlt, nat_round (n := l.length) hlt (by omega), drop_at hlt, okFs]
    refine ⟨?_, ?_⟩
    · rw [if_pos (by omega), if_pos (by omega), spec_TokenOk_f (by omega) (by omega), Option.bind_some]
      cases tokB l[i].f0
      · rfl
      rw [if_pos rfl, spec_ValueOk_f (by omega) (by omega), Option.bind_some]
      cases valB l[i].f1
      · rfl
      rw [if_pos rfl, spec_l2At_f (by omega) (by omega), Option.bind_some]
      unfold lenName
      by_cases ha : at_ l[i].f0 l 0 = (i : Int)
      · rw [if_pos ha, decide_eq_true ha]
        by_cases hL : l[i].f0.toList = [99, 111, 110, 116, 101, 110, 116, 45, 108, 101, 110, 103, 116, 104]
        · rw [if_pos hL, decide_eq_true hL]; rfl
        · rw [if_neg hL, decide_eq_false hL, i1]; rfl
      · rw [if_neg ha, decide_eq_false ha]; simp
    · rw [if_pos (by omega), if_pos (by omega), if_pos (by omega), impl_TokenOk_f (by omega) (by omega), Option.bind_some]
      cases tokB l[i].f0
      · rfl
      rw [if_pos rfl, impl_ValueOk_f (by omega) (by omega), Option.bind_some]
      cases valB l[i].f1
      · rfl
      rw [if_pos rfl]
      unfold lenName
      by_cases hL : l[i].f0.toList = [99, 111, 110, 116, 101, 110, 116, 45, 108, 101, 110, 103, 116, 104]
      · rw [if_pos hL, decide_eq_true hL]; rfl
      rw [if_neg hL, decide_eq_false hL, impl_fieldAt_f (by omega), Option.bind_some]
      by_cases ha : at_ l[i].f0 l 0 = (i : Int)
      · rw [if_pos ha, decide_eq_true ha, i2]; rfl
      · rw [if_neg ha, decide_eq_false ha]; rfl
theorem spec_FieldsOk_f {k K : Nat} {l : List S78} (hK : K < 4398046511104) (hl : SmallF K l) (hk : 5 * K + 4 < k) : spec_FieldsOk.f k l = some (fieldsB l) := by
  have := (FieldsOk_l0 K hK l hl l.length k 0 (by omega) (by have := hl.1; omega)).1
  simpa [spec_FieldsOk.f, fieldsB] using this
theorem impl_FieldsOk_f {k K : Nat} {l : List S78} (hK : K < 4398046511104) (hl : SmallF K l) (hk : 5 * K + 4 < k) : impl_FieldsOk.f k l = some (fieldsB l) := by
  have := (FieldsOk_l0 K hK l hl l.length k 0 (by omega) (by have := hl.1; omega)).2
  simpa [impl_FieldsOk.f, fieldsB] using this
theorem SmallF.toF {K : Nat} {l : List S118} (hl : l.length ≤ K) (hx : ∀ x ∈ l, x.f0.size ≤ K ∧ x.f1.size ≤ K) : SmallF K (l.map toF) := by
  refine ⟨by simpa using hl, fun y hy => ?_⟩
  obtain ⟨x, hx', rfl⟩ := List.mem_map.1 hy
  exact hx x hx'
def banB (kd : Int) (a b : ByteArray) (t : Int) : Bool := decide (0 ≤ t ∧ t ≤ 1000000) && (if kd = 1 ∨ kd = 2 then pathB a && decide (b.toList = []) else if kd = 3 then tokB a && valB b else false)
theorem spec_BanOk_f {k : Nat} {kd t : Int} {a b : ByteArray} (ha : (a.size : Int) ≤ 4611686018427387904) (hb : (b.size : Int) ≤ 4611686018427387904) (hk : 3 * (a.size + b.size) + 4 < k) : spec_BanOk.f k kd a b t = some (banB kd a b t) := by
  unfold spec_BanOk.f banB
  obtain ⟨k', rfl⟩ := succ_of (show 0 < k by omega)
  rw [spec_l1In_f, Option.bind_some]
  by_cases h : 0 ≤ t ∧ t ≤ 1000000
  · rw [if_pos (decide_eq_true h), decide_eq_true h, Bool.true_and]
    have go : ∀ f : Bool, (f = true ↔ kd = 1 ∨ kd = 2) → spec_BanOk.j0 (k' + 1) kd f kd a b t = some (if kd = 1 ∨ kd = 2 then pathB a && decide (b.toList = []) else if kd = 3 then tokB a && valB b else false) := by
      intro f hf
      simp only [spec_BanOk.j0]
      by_cases hq : kd = 1 ∨ kd = 2
      · rw [if_pos (hf.2 hq), if_pos hq, spec_l3Path_f ha (by omega), Option.bind_some]
        cases pathB a
        · rfl
        · rw [if_pos rfl]; refine congrArg some ?_; rw [Bool.eq_iff_iff]; simp
      · rw [if_neg (fun e => hq (hf.1 e)), if_neg hq]
        by_cases h3 : kd = 3
        · rw [if_pos h3, if_pos h3, spec_TokenOk_f (by omega) (by omega), Option.bind_some]
          cases tokB a
          · rfl
          · rw [if_pos rfl, spec_ValueOk_f hb (by omega), Option.bind_some]; rfl
        · rw [if_neg h3, if_neg h3]
    by_cases h1 : kd = 1
    · rw [if_pos h1]; exact go _ (by simp [h1])
    · rw [if_neg h1]; exact go _ (by simp [h1])
  · rw [if_neg (by simpa using h), decide_eq_false h]; rfl
theorem impl_BanOk_f {k : Nat} {kd t : Int} {a b : ByteArray} (ha : (a.size : Int) ≤ 4611686018427387904) (hb : (b.size : Int) ≤ 4611686018427387904) (hk : 3 * (a.size + b.size) + 4 < k) : impl_BanOk.f k kd a b t = some (banB kd a b t) := by
  unfold impl_BanOk.f impl_isTime.f banB
  obtain ⟨k', rfl⟩ := succ_of (show 0 < k by omega)
  rw [impl_inRange_f, Option.bind_some, Option.bind_some]
  by_cases h : 0 ≤ t ∧ t ≤ 1000000
  · rw [if_pos (decide_eq_true h), decide_eq_true h, Bool.true_and]
    have go : ∀ f : Bool, (f = true ↔ kd = 1 ∨ kd = 2) → impl_BanOk.j0 (k' + 1) kd f kd a b t = some (if kd = 1 ∨ kd = 2 then pathB a && decide (b.toList = []) else if kd = 3 then tokB a && valB b else false) := by
      intro f hf
      simp only [impl_BanOk.j0]
      by_cases hq : kd = 1 ∨ kd = 2
      · rw [if_pos (hf.2 hq), if_pos hq, impl_pathOk_f ha (by omega), Option.bind_some]
        cases pathB a
        · rfl
        · rw [if_pos rfl]; refine congrArg some ?_; rw [Bool.eq_iff_iff]; simp
      · rw [if_neg (fun e => hq (hf.1 e)), if_neg hq]
        by_cases h3 : kd = 3
        · rw [if_pos h3, if_pos h3, impl_TokenOk_f (by omega) (by omega), Option.bind_some]
          cases tokB a
          · rfl
          · rw [if_pos rfl, impl_ValueOk_f hb (by omega), Option.bind_some]; rfl
        · rw [if_neg h3, if_neg h3]
    by_cases h1 : kd = 1
    · rw [if_pos h1]; exact go _ (by simp [h1])
    · rw [if_neg h1]; exact go _ (by simp [h1])
  · rw [if_neg (by simpa using h), decide_eq_false h]; rfl
/-! ### BanText -/
def banWordT (kd : Int) : ByteArray := if kd = 1 then ⟨#[112, 97, 116, 104]⟩ else if kd = 2 then ⟨#[98, 101, 108, 111, 119]⟩ else ⟨#[102, 105, 101, 108, 100]⟩
def banText (kd : Int) (a b : ByteArray) (t : Int) : ByteArray :=
  if banB kd a b t = true then
    (if kd = 3 then ((((((((⟨#[98, 97, 110, 32]⟩ : ByteArray) ++ banWordT kd) ++ (⟨#[32]⟩ : ByteArray)) ++ numT t) ++ (⟨#[32]⟩ : ByteArray)) ++ a) ++ (⟨#[10]⟩ : ByteArray)) ++ b) else ((((((⟨#[98, 97, 110, 32]⟩ : ByteArray) ++ banWordT kd) ++ (⟨#[32]⟩ : ByteArray)) ++ numT t) ++ (⟨#[32]⟩ : ByteArray)) ++ a)) else ⟨#[]⟩
theorem banB_kind {kd : Int} {a b : ByteArray} {t : Int} (h : banB kd a b t = true) : kd = 1 ∨ kd = 2 ∨ kd = 3 := by
  unfold banB at h
  rw [Bool.and_eq_true] at h
  have h2 := h.2
  split at h2
  · omega
  · split at h2
    · omega
    · exact absurd h2 (by simp)
theorem numT_size (t : Int) : (numT t).size ≤ 20 := by
  unfold numT
  split
  · rename_i h
    obtain ⟨u, rfl⟩ : ∃ u : Nat, t = u := ⟨t.toNat, by omega⟩
    have hl := decDigits_len u 6 (by omega)
    rw [itoa_nat, ← B_len, B_mk (Lib.decDigits u)]; omega
  · simp [ByteArray.size]
theorem banWordT_size (kd : Int) : (banWordT kd).size ≤ 5 := by
  unfold banWordT
  split
  · exact Nat.le_of_ble_eq_true rfl
  · split
    · exact Nat.le_of_ble_eq_true rfl
    · exact Nat.le_of_ble_eq_true rfl
theorem spec_BanText_f {k : Nat} {kd t : Int} {a b : ByteArray} (ha : (a.size : Int) ≤ 1048576) (hb : (b.size : Int) ≤ 1048576) (hk : 3 * (a.size + b.size) + 40 < k) : spec_BanText.f k kd a b t = some (banText kd a b t) := by
  unfold spec_BanText.f banText
  rw [spec_BanOk_f (by omega) (by omega) (by omega), Option.bind_some]
  by_cases h : banB kd a b t = true
  · rw [if_pos h, if_pos h, Option.bind_some]
    have hn := numT_size t
    have s1 : (⟨#[98, 97, 110, 32]⟩ : ByteArray).size = 4 := rfl
    have s2 : (⟨#[32]⟩ : ByteArray).size = 1 := rfl
    have s3 : (⟨#[10]⟩ : ByteArray).size = 1 := rfl
    have hw := banWordT_size kd
    have hrd : rdOf ByteArray.empty [(⟨#[]⟩ : ByteArray), ⟨#[112, 97, 116, 104]⟩, ⟨#[98, 101, 108, 111, 119]⟩, ⟨#[102, 105, 101, 108, 100]⟩] kd = banWordT kd := by
      rcases banB_kind h with e | e | e <;> subst e <;> rfl
    have h04 : 0 ≤ kd ∧ kd < 4 := by rcases banB_kind h with e | e | e <;> omega
    rw [if_pos h04.1, if_pos (by simpa using h04.2), hrd, if_pos (by omega), if_pos (by rw [ByteArray.size_append, s1]; omega), spec_NumText_f (by omega), Option.bind_some, if_pos (by simp only [ByteArray.size_append, s1, s2]; omega), if_pos (by simp only [ByteArray.size_append, s1, s2]; omega), if_pos (by simp only [ByteArray.size_append, s1, s2]; omega)]
    by_cases h3 : kd = 3
    · rw [if_pos h3, if_pos h3, if_pos (by simp only [ByteArray.size_append, s1, s2]; omega), if_pos (by simp only [ByteArray.size_append, s1, s2, s3]; omega)]
    · rw [if_neg h3, if_neg h3]
  · rw [if_neg h, if_neg h]
theorem impl_BanText_f {k : Nat} {kd t : Int} {a b : ByteArray} (ha : (a.size : Int) ≤ 1048576) (hb : (b.size : Int) ≤ 1048576) (hk : 3 * (a.size + b.size) + 40 < k) : impl_BanText.f k kd a b t = some (banText kd a b t) := by
  unfold impl_BanText.f banText
  rw [impl_BanOk_f (by omega) (by omega) (by omega), Option.bind_some]
  by_cases h : banB kd a b t = true
  · rw [if_pos h, if_pos h]
    have hn := numT_size t
    have hw := banWordT_size kd
    have s1 : (⟨#[98, 97, 110, 32]⟩ : ByteArray).size = 4 := rfl
    have s2 : (⟨#[32]⟩ : ByteArray).size = 1 := rfl
    have s3 : (⟨#[10]⟩ : ByteArray).size = 1 := rfl
    have hwd : impl_banWord.f kd = some (banWordT kd) := by
      unfold impl_banWord.f banWordT
      rcases banB_kind h with e | e | e <;> subst e <;> rfl
    rw [hwd, Option.bind_some, if_pos (by omega), if_pos (by rw [ByteArray.size_append, s1]; omega), impl_NumText_f, Option.bind_some, if_pos (by simp only [ByteArray.size_append, s1, s2]; omega), if_pos (by simp only [ByteArray.size_append, s1, s2]; omega), if_pos (by simp only [ByteArray.size_append, s1, s2]; omega)]
    by_cases h3 : kd = 3
    · rw [if_pos h3, if_pos h3, if_pos (by omega), if_pos (by simp only [ByteArray.size_append, s1, s2, s3]; omega), ByteArray.append_assoc (c := b)]
    · rw [if_neg h3, if_neg h3]
  · rw [if_neg h, if_neg h]
/-! ### draws: they end, and what they draw is small -/
theorem and255 (x : Int) : 0 ≤ Go.bits .and .i64 x 255 ∧ Go.bits .and .i64 x 255 ≤ 255 := by
  unfold Go.bits
  simp only
  have h : (BitVec.ofInt IntKind.i64.bits x &&& BitVec.ofInt IntKind.i64.bits 255).toNat ≤ 255 := by
    rw [BitVec.toNat_and]
    exact Nat.and_le_right
  rw [IntKind.wrap_i64]
  omega
theorem spec_l1Byte_f (l : List Int) (i h : Int) (h0 : 0 ≤ i) (hl : (l.length : Int) ≤ 4611686018427387904) (hi : i ≤ l.length) : ∃ v i' h', spec_l1Byte.f l i h = some (v, i', h') ∧ 0 ≤ v ∧ v ≤ 255 ∧ 0 ≤ i' ∧ i' ≤ l.length := by
  unfold spec_l1Byte.f
  split
  · try rw [if_pos h0]
    refine ⟨_, _, _, rfl, (and255 _).1, (and255 _).2, ?_, ?_⟩ <;> rw [w64 (by omega)] <;> omega
  · exact ⟨_, _, _, rfl, (and255 _).1, (and255 _).2, h0, hi⟩
theorem spec_l1Below_f (l : List Int) (i h n : Int) (h0 : 0 ≤ i) (hl : (l.length : Int) ≤ 4611686018427387904) (hi : i ≤ l.length) : ∃ v i' h', spec_l1Below.f l i h n = some (v, i', h') ∧ 0 ≤ v ∧ (0 < n → v < n) ∧ (n ≤ 0 → v = 0) ∧ 0 ≤ i' ∧ i' ≤ l.length := by
  unfold spec_l1Below.f
  split
  · exact ⟨_, _, _, rfl, by omega, by omega, by omega, h0, hi⟩
  split
  · obtain ⟨v, i', h', e, v0, v1, i0, i1⟩ := spec_l1Byte_f l i h h0 hl hi
    rw [e, Option.bind_some, if_neg (by omega)]
    refine ⟨_, _, _, rfl, ?_, fun _ => ?_, by omega, i0, i1⟩
    · exact Int.tmod_nonneg _ v0
    · exact Int.tmod_lt_of_pos _ (by omega)
  · obtain ⟨v, i', h', e, v0, v1, i0, i1⟩ := spec_l1Byte_f l i h h0 hl hi
    rw [e, Option.bind_some]
    obtain ⟨v2, i2, h2, e2, v20, v21, i20, i21⟩ := spec_l1Byte_f l i' h' i0 hl i1
    simp only
    rw [e2, Option.bind_some]
    obtain ⟨v3, i3, h3, e3, v30, v31, i30, i31⟩ := spec_l1Byte_f l i2 h2 i20 hl i21
    simp only
    rw [e3, Option.bind_some]
    obtain ⟨v4, i4, h4, e4, v40, v41, i40, i41⟩ := spec_l1Byte_f l i3 h3 i30 hl i31
    simp only
    rw [e4, Option.bind_some, if_neg (by omega)]
    simp only
    rw [w64 (n := v * 16777216) (by omega), w64 (n := v2 * 65536) (by omega), w64 (n := v3 * 256) (by omega), w64 (n := v * 16777216 + v2 * 65536) (by omega), w64 (n := v * 16777216 + v2 * 65536 + v3 * 256) (by omega), w64 (n := v * 16777216 + v2 * 65536 + v3 * 256 + v4) (by omega)]
    refine ⟨_, _, _, rfl, ?_, fun _ => ?_, by omega, i40, i41⟩
    · exact Int.tmod_nonneg _ (by omega)
    · exact Int.tmod_lt_of_pos _ (by omega)
theorem spec_l1Pick_f (l : List Int) (i h : Int) (ts : List ByteArray) (h0 : 0 ≤ i) (hl : (l.length : Int) ≤ 4611686018427387904) (hi : i ≤ l.length) (hts : 0 < ts.length) : ∃ t i' h', spec_l1Pick.f l i h ts = some (t, i', h') ∧ t ∈ ts ∧ 0 ≤ i' ∧ i' ≤ l.length := by
  unfold spec_l1Pick.f
  obtain ⟨v, i', h', e, v0, v1, _, i0, i1⟩ := spec_l1Below_f l i h ts.length h0 hl hi
  have v2 := v1 (by omega)
  rw [e, Option.bind_some, if_pos v0, if_pos v2]
  obtain ⟨j, rfl⟩ : ∃ j : Nat, v = j := ⟨v.toNat, by omega⟩
  exact ⟨_, _, _, rfl, by simp only; rw [rd_B ts j (by omega)]; exact List.getElem_mem _, i0, i1⟩
theorem spec_l1New_l0 (l : List Int) (hl : (l.length : Int) ≤ 4611686018427387904) : ∀ (d k i : Nat) (h : Int), l.length = i + d → d < k → ∃ h', spec_l1New.l0 k l h i = some (l, 0, h') := by
  intro d
  induction d with
  | zero =>
    intro k i h hd hk
    obtain ⟨k, rfl⟩ := succ_of hk
    simp only [spec_l1New.l0]
    rw [if_neg (by omega)]
    exact ⟨_, rfl⟩
  | succ d ih =>
    intro k i h hd hk
    obtain ⟨k, rfl⟩ := succ_of hk
    simp only [spec_l1New.l0]
    rw [if_pos (by omega)]
    split
    · rw [if_pos (by omega), nat_round (n := l.length) (by omega) (by omega)]
      exact ih k (i + 1) _ (by omega) (by omega)
    · exact ⟨_, rfl⟩
theorem spec_l1New_f {k : Nat} {l : List Int} (hl : (l.length : Int) ≤ 4611686018427387904) (hk : l.length < k) : ∃ h', spec_l1New.f k l = some (l, 0, h') :=
  spec_l1New_l0 l hl l.length k 0 _ (by omega) hk
theorem strOfNums_size' (l : List Int) : (strOfNums l).size = l.length := by rw [← B_len, B_strOf, List.length_map]
theorem spec_l1DrawText_l0 (l : List Int) (hl : (l.length : Int) ≤ 4611686018427387904) : ∀ (d k n : Nat) (acc : List Int) (i h : Int), n + d = 14 → acc.length = n → 0 ≤ i → i ≤ l.length → d < k → ∃ t i' h', spec_l1DrawText.l0 k acc (n : Int) l i h = some (t, i', h') ∧ t.size ≤ 14 ∧ 0 ≤ i' ∧ i' ≤ l.length := by
  intro d
  induction d with
  | zero =>
    intro k n acc i h hd ha h0 hi hk
    obtain ⟨k, rfl⟩ := succ_of hk
    obtain ⟨v, i', h', e, v0, v1, _, i0, i1⟩ := spec_l1Below_f l i h 14 h0 hl hi
    have v2 := v1 (by omega)
    simp only [spec_l1DrawText.l0]
    rw [e, Option.bind_some]
    simp only
    rw [if_neg (by omega)]
    exact ⟨_, _, _, rfl, by rw [strOfNums_size']; omega, i0, i1⟩
  | succ d ih =>
    intro k n acc i h hd ha h0 hi hk
    obtain ⟨k, rfl⟩ := succ_of hk
    obtain ⟨v, i', h', e, v0, v1, _, i0, i1⟩ := spec_l1Below_f l i h 14 h0 hl hi
    simp only [spec_l1DrawText.l0]
    rw [e, Option.bind_some]
    simp only
    split
    · obtain ⟨t, i2, h2, e2, ht, i20, i21⟩ := spec_l1Pick_f l i' h' [⟨#[32]⟩, ⟨#[44]⟩, ⟨#[97]⟩, ⟨#[90]⟩, ⟨#[55]⟩, ⟨#[45]⟩, ⟨#[61]⟩, ⟨#[120]⟩, ⟨#[58]⟩, ⟨#[1]⟩, ⟨#[64]⟩, ⟨#[91]⟩] i0 hl i1 (by simp)
      have hs : t.size = 1 := by
        simp only [List.mem_cons, List.mem_nil_iff, or_false] at ht
        rcases ht with rfl | rfl | rfl | rfl | rfl | rfl | rfl | rfl | rfl | rfl | rfl | rfl <;> rfl
      rw [e2, Option.bind_some]
      simp only
      rw [if_pos (by omega), if_pos (by omega), w64 (by omega), show (n : Int) + 1 = ((n + 1 : Nat) : Int) by omega]
      exact ih k (n + 1) _ i2 h2 (by omega) (by simp [ha]) i20 i21 (by omega)
    · exact ⟨_, _, _, rfl, by rw [strOfNums_size']; omega, i0, i1⟩
theorem spec_l1DrawText_f {k : Nat} {l : List Int} {i h : Int} (hl : (l.length : Int) ≤ 4611686018427387904) (h0 : 0 ≤ i) (hi : i ≤ l.length) (hk : 20 < k) : ∃ t i' h', spec_l1DrawText.f k l i h = some (t, i', h') ∧ t.size ≤ 14 ∧ 0 ≤ i' ∧ i' ≤ l.length :=
  spec_l1DrawText_l0 l hl 14 k 0 [] i h (by omega) rfl h0 hi (by omega)
/-- the texts of a list are of at most K bytes -/
def allLe (K : Nat) (ts : List ByteArray) : Bool := ts.all fun t => Nat.ble t.size K
theorem allLe_mem {K : Nat} {ts : List ByteArray} (h : allLe K ts = true) {t : ByteArray} (ht : t ∈ ts) : t.size ≤ K := by
  unfold allLe at h
  rw [List.all_eq_true] at h
  exact Nat.le_of_ble_eq_true (h t ht)
theorem spec_l1Pick_le (l : List Int) (i h : Int) (K : Nat) (ts : List ByteArray) (h0 : 0 ≤ i) (hl : (l.length : Int) ≤ 4611686018427387904) (hi : i ≤ l.length) (hts : 0 < ts.length) (hk : allLe K ts = true) : ∃ t i' h', spec_l1Pick.f l i h ts = some (t, i', h') ∧ t.size ≤ K ∧ 0 ≤ i' ∧ i' ≤ l.length := by
  obtain ⟨t, i', h', e, ht, r⟩ := spec_l1Pick_f l i h ts h0 hl hi hts
  exact ⟨t, i', h', e, allLe_mem hk ht, r⟩
theorem pick_bind {α : Type} {l : List Int} {i h : Int} {K : Nat} {ts : List ByteArray} {F : ByteArray × Int × Int → Option α} {P : α → Prop} (h0 : 0 ≤ i) (hl : (l.length : Int) ≤ 4611686018427387904) (hi : i ≤ l.length) (hts : 0 < ts.length) (hk : allLe K ts = true)
    (hF : ∀ t i' h', t.size ≤ K → 0 ≤ i' → i' ≤ (l.length : Int) → ∃ r, F (t, i', h') = some r ∧ P r) : ∃ r, (spec_l1Pick.f l i h ts).bind F = some r ∧ P r := by
  obtain ⟨t, i', h', e, ht, j0, j1⟩ := spec_l1Pick_le l i h K ts h0 hl hi hts hk
  rw [e, Option.bind_some]
  exact hF t i' h' ht j0 j1
theorem ex3 {α β γ : Type} {o : Option (α × β × γ)} {P : α × β × γ → Prop} (h : ∃ r, o = some r ∧ P r) : ∃ a b c, o = some (a, b, c) ∧ P (a, b, c) := by
  obtain ⟨⟨a, b, c⟩, e, p⟩ := h; exact ⟨a, b, c, e, p⟩
theorem ex4 {α β γ δ : Type} {o : Option (α × β × γ × δ)} {P : α × β × γ × δ → Prop} (h : ∃ r, o = some r ∧ P r) : ∃ a b c d, o = some (a, b, c, d) ∧ P (a, b, c, d) := by
  obtain ⟨⟨a, b, c, d⟩, e, p⟩ := h; exact ⟨a, b, c, d, e, p⟩
theorem spec_l2DrawField_f (l : List Int) (i h : Int) (h0 : 0 ≤ i) (hl : (l.length : Int) ≤ 4611686018427387904) (hi : i ≤ l.length) : ∃ n v i' h', spec_l2DrawField.f l i h = some (n, v, i', h') ∧ n.size ≤ 26 ∧ v.size ≤ 26 ∧ 0 ≤ i' ∧ i' ≤ l.length := by
  refine ex4 (P := fun r : ByteArray × ByteArray × Int × Int => r.1.size ≤ 26 ∧ r.2.1.size ≤ 26 ∧ 0 ≤ r.2.2.1 ∧ r.2.2.1 ≤ (l.length : Int)) ?_
  unfold spec_l2DrawField.f
  obtain ⟨d, i1, h1, e, _, _, _, i10, i11⟩ := spec_l1Below_f l i h 9 h0 hl hi
  rw [e, Option.bind_some]
  dsimp only
  repeat' split
  iterate 7
    · exact pick_bind (K := 26) i10 hl i11 (by simp) (by rfl) (fun t i' h' ht j0 j1 => ⟨_, rfl, Nat.le_of_ble_eq_true rfl, ht, j0, j1⟩)
  · refine pick_bind (K := 26) i10 hl i11 (by simp) (by rfl) (fun n i2 h2 hn i20 i21 => ?_)
    dsimp only
    exact pick_bind (K := 26) i20 hl i21 (by simp) (by rfl) (fun t i' h' ht j0 j1 => ⟨_, rfl, hn, ht, j0, j1⟩)
theorem spec_l2DrawRight_l0 (l : List Int) (hl : (l.length : Int) ≤ 4611686018427387904) : ∀ (d k n : Nat) (acc : List S78) (i h : Int), n + d = 5 → acc.length ≤ n → (∀ x ∈ acc, x.f0.size ≤ 26 ∧ x.f1.size ≤ 26) → 0 ≤ i → i ≤ l.length → d + 8 < k → ∃ r i' h', spec_l2DrawRight.l0 k acc (n : Int) l i h = some (r, i', h') ∧ SmallF 26 r ∧ r.length ≤ 5 ∧ 0 ≤ i' ∧ i' ≤ l.length := by
  intro d
  induction d with
  | zero =>
    intro k n acc i h hd ha hx h0 hi hk
    obtain ⟨k, rfl⟩ := succ_of (show 0 < k by omega)
    obtain ⟨v, i', h', e, v0, v1, _, i0, i1⟩ := spec_l1Below_f l i h 5 h0 hl hi
    have v2 := v1 (by omega)
    simp only [spec_l2DrawRight.l0]
    rw [e, Option.bind_some]
    dsimp only
    rw [if_neg (by omega)]
    exact ⟨_, _, _, rfl, ⟨by omega, hx⟩, by omega, i0, i1⟩
  | succ d ih =>
    intro k n acc i h hd ha hx h0 hi hk
    obtain ⟨k, rfl⟩ := succ_of (show 0 < k by omega)
    obtain ⟨v, i1, h1, e, v0, v1, _, i10, i11⟩ := spec_l1Below_f l i h 5 h0 hl hi
    simp only [spec_l2DrawRight.l0]
    rw [e, Option.bind_some]
    dsimp only
    split
    · obtain ⟨fn, fv, i2, h2, e2, hn, hv, i20, i21⟩ := spec_l2DrawField_f l i1 h1 i10 hl i11
      rw [e2, Option.bind_some]
      dsimp only
      rw [spec_l2At_f (by omega) (by omega), Option.bind_some, w64 (by omega), show (n : Int) + 1 = ((n + 1 : Nat) : Int) by omega]
      split
      · rw [if_pos (by omega)]
        refine ih k (n + 1) _ i2 h2 (by omega) (by simp; omega) (fun x hx' => ?_) i20 i21 (by omega)
        rcases List.mem_append.1 hx' with hx' | hx'
        · exact hx x hx'
        · rw [List.mem_singleton.1 hx']; exact ⟨hn, hv⟩
      · exact ih k (n + 1) acc i2 h2 (by omega) (by omega) hx i20 i21 (by omega)
    · exact ⟨_, _, _, rfl, ⟨by omega, hx⟩, by omega, i10, i11⟩
theorem spec_l2DrawRight_f {k : Nat} {l : List Int} {i h : Int} (hl : (l.length : Int) ≤ 4611686018427387904) (h0 : 0 ≤ i) (hi : i ≤ l.length) (hk : 20 < k) : ∃ r i' h', spec_l2DrawRight.f k l i h = some (r, i', h') ∧ SmallF 26 r ∧ r.length ≤ 5 ∧ 0 ≤ i' ∧ i' ≤ l.length :=
  spec_l2DrawRight_l0 l hl 5 k 0 [] i h (by omega) (by simp) (fun x hx => by cases hx) h0 hi (by omega)
theorem spec_l2Draw_l0 (l : List Int) (hl : (l.length : Int) ≤ 4611686018427387904) : ∀ (d k : Nat) (acc : List S78) (i h : Int), acc.length + d = 9 → (∀ x ∈ acc, x.f0.size ≤ 26 ∧ x.f1.size ≤ 26) → 0 ≤ i → i ≤ l.length → d + 40 < k → ∃ r i' h', spec_l2Draw.l0 k acc l i h = some (r, i', h') ∧ SmallF 26 r ∧ 0 ≤ i' ∧ i' ≤ l.length := by
  intro d
  induction d with
  | zero =>
    intro k acc i h hd hx h0 hi hk
    obtain ⟨k, rfl⟩ := succ_of (show 0 < k by omega)
    obtain ⟨v, i', h', e, v0, v1, _, i0, i1⟩ := spec_l1Below_f l i h 2 h0 hl hi
    have v2 := v1 (by omega)
    simp only [spec_l2Draw.l0]
    rw [e, Option.bind_some]
    dsimp only
    rw [w64 (by omega), if_neg (by omega)]
    exact ⟨_, _, _, rfl, ⟨by omega, hx⟩, i0, i1⟩
  | succ d ih =>
    intro k acc i h hd hx h0 hi hk
    obtain ⟨k, rfl⟩ := succ_of (show 0 < k by omega)
    obtain ⟨v, i1, h1, e, v0, v1, _, i10, i11⟩ := spec_l1Below_f l i h 2 h0 hl hi
    have v2 := v1 (by omega)
    have nt := numT_size (acc.length : Int)
    simp only [spec_l2Draw.l0]
    rw [e, Option.bind_some]
    dsimp only
    rw [w64 (by omega)]
    split
    · rw [spec_NumText_f (by omega), Option.bind_some, if_pos (by omega), if_pos (by omega)]
      refine ih k _ i1 h1 (by simp; omega) (fun x hx' => ?_) i10 i11 (by omega)
      rcases List.mem_append.1 hx' with hx' | hx'
      · exact hx x hx'
      · rw [List.mem_singleton.1 hx']
        refine ⟨?_, Nat.le_of_ble_eq_true rfl⟩
        dsimp only
        rw [ByteArray.size_append]
        show 1 + (numT (acc.length : Int)).size ≤ 26
        omega
    · exact ⟨_, _, _, rfl, ⟨by omega, hx⟩, i10, i11⟩
theorem SmallF.snoc {K : Nat} {l : List S78} {x : S78} (h : SmallF K l) (hl : l.length < K) (h0 : x.f0.size ≤ K) (h1 : x.f1.size ≤ K) : SmallF K (l ++ [x]) := by
  refine ⟨by simp; omega, fun y hy => ?_⟩
  rcases List.mem_append.1 hy with hy | hy
  · exact h.2 y hy
  · rw [List.mem_singleton.1 hy]; exact ⟨h0, h1⟩
theorem spec_l2Draw_f {k : Nat} {l : List Int} {i h : Int} (hl : (l.length : Int) ≤ 4611686018427387904) (h0 : 0 ≤ i) (hi : i ≤ l.length) (hk : 60 < k) : ∃ r i' h', spec_l2Draw.f k l i h = some (r, i', h') ∧ SmallF 26 r ∧ 0 ≤ i' ∧ i' ≤ l.length := by
  unfold spec_l2Draw.f
  obtain ⟨r, i1, h1, e, hr, hr5, i10, i11⟩ := spec_l2DrawRight_f (k := k) (h := h) hl h0 hi (by omega)
  rw [e, Option.bind_some]
  dsimp only
  obtain ⟨d, i2, h2, e2, _, _, _, i20, i21⟩ := spec_l1Below_f l i1 h1 15 i10 hl i11
  rw [e2, Option.bind_some]
  dsimp only
  split
  · obtain ⟨n1, v1, i3, h3, e3, hn1, hv1, i30, i31⟩ := spec_l2DrawField_f l i2 h2 i20 hl i21
    rw [e3, Option.bind_some]
    dsimp only
    obtain ⟨n2, v2, i4, h4, e4, hn2, hv2, i40, i41⟩ := spec_l2DrawField_f l i3 h3 i30 hl i31
    rw [e4, Option.bind_some]
    dsimp only
    rw [Option.bind_some, if_pos (by simp; omega)]
    refine ⟨_, _, _, rfl, ?_, i40, i41⟩
    have h5 := (hr.snoc (x := ⟨n1, v1⟩) (by omega) hn1 hv1).snoc (x := ⟨n2, v2⟩) (by simp; omega) hn2 hv2
    rw [List.append_assoc] at h5
    exact h5
  split
  · refine ex3 (P := fun r : List S78 × Int × Int => SmallF 26 r.1 ∧ 0 ≤ r.2.1 ∧ r.2.1 ≤ (l.length : Int)) ?_
    refine pick_bind (K := 26) i20 hl i21 (by simp) (by rfl) (fun n1 i3 h3 hn1 i30 i31 => ?_)
    dsimp only
    refine pick_bind (K := 26) i30 hl i31 (by simp) (by rfl) (fun v1 i4 h4 hv1 i40 i41 => ?_)
    dsimp only
    rw [if_pos (by omega)]
    exact ⟨_, rfl, hr.snoc (x := ⟨n1, v1⟩) (by omega) hn1 hv1, i40, i41⟩
  split
  · exact spec_l2Draw_l0 l hl (9 - r.length) k r i2 h2 (by omega) hr.2 i20 i21 (by omega)
  · exact ⟨_, _, _, rfl, hr, i20, i21⟩
theorem spec_l2DrawName_f (l : List Int) (i h : Int) (h0 : 0 ≤ i) (hl : (l.length : Int) ≤ 4611686018427387904) (hi : i ≤ l.length) : ∃ n i' h', spec_l2DrawName.f l i h = some (n, i', h') ∧ n.size ≤ 4 ∧ 0 ≤ i' ∧ i' ≤ l.length := by
  unfold spec_l2DrawName.f
  refine ex3 (P := fun r : ByteArray × Int × Int => r.1.size ≤ 4 ∧ 0 ≤ r.2.1 ∧ r.2.1 ≤ (l.length : Int)) ?_
  exact pick_bind (K := 4) h0 hl hi (by simp) (by rfl) (fun t i' h' ht j0 j1 => ⟨_, rfl, ht, j0, j1⟩)
theorem spec_DrawPut_f {k : Nat} {l : List Int} (hl : (l.length : Int) ≤ 4611686018427387904) (hk : l.length + 80 < k) : ∃ r n v, spec_DrawPut.f k l = some (r, n, v) ∧ SmallF 26 r ∧ n.size ≤ 4 ∧ v.size ≤ 14 := by
  unfold spec_DrawPut.f
  obtain ⟨h, e⟩ := spec_l1New_f (k := k) hl (by omega)
  rw [e, Option.bind_some]
  dsimp only
  obtain ⟨r, i1, h1, e1, hr, i10, i11⟩ := spec_l2Draw_f (k := k) (i := 0) (h := h) hl (by omega) (by omega) (by omega)
  rw [e1, Option.bind_some]
  dsimp only
  obtain ⟨n, i2, h2, e2, hn, i20, i21⟩ := spec_l2DrawName_f l i1 h1 i10 hl i11
  rw [e2, Option.bind_some]
  dsimp only
  obtain ⟨v, i3, h3, e3, hv, _⟩ := spec_l1DrawText_f (k := k) (h := h2) hl i20 i21 (by omega)
  rw [e3, Option.bind_some]
  exact ⟨_, _, _, rfl, hr, hn, hv⟩
theorem spec_DrawGet_f {k : Nat} {l : List Int} (hl : (l.length : Int) ≤ 4611686018427387904) (hk : l.length + 80 < k) : ∃ r n, spec_DrawGet.f k l = some (r, n) ∧ SmallF 26 r ∧ n.size ≤ 4 := by
  unfold spec_DrawGet.f
  obtain ⟨h, e⟩ := spec_l1New_f (k := k) hl (by omega)
  rw [e, Option.bind_some]
  dsimp only
  obtain ⟨r, i1, h1, e1, hr, i10, i11⟩ := spec_l2Draw_f (k := k) (i := 0) (h := h) hl (by omega) (by omega) (by omega)
  rw [e1, Option.bind_some]
  dsimp only
  obtain ⟨n, i2, h2, e2, hn, i20, i21⟩ := spec_l2DrawName_f l i1 h1 i10 hl i11
  rw [e2, Option.bind_some]
  exact ⟨_, _, rfl, hr, hn⟩
theorem laws_sameFields_l0 (l : List S78) (hl : l.length ≤ 4398046511104) : ∀ (d k i : Nat), l.length = i + d → d < k → laws_sameFields.l0 k l l i = some true := by
  intro d
  induction d with
  | zero =>
    intro k i hd hk
    obtain ⟨k, rfl⟩ := succ_of hk
    simp only [laws_sameFields.l0]
    rw [if_neg (by omega)]
  | succ d ih =>
    intro k i hd hk
    obtain ⟨k, rfl⟩ := succ_of hk
    simp only [laws_sameFields.l0]
    rw [if_pos (by omega), if_pos (by omega), if_pos (by omega), if_neg (by simp), nat_round (n := l.length) (by omega) (by omega)]
    exact ih k (i + 1) (by omega) (by omega)
theorem laws_sameFields_f {k : Nat} {l : List S78} (hl : l.length ≤ 4398046511104) (hk : l.length < k) : laws_sameFields.f k l l = some true := by
  unfold laws_sameFields.f
  rw [if_pos rfl]
  exact laws_sameFields_l0 l hl l.length k 0 (by omega) hk
theorem getF_putF (n v : ByteArray) : ∀ l : List S78, getF n (putF n v l) = some v
  | [] => by simp [putF, getF]
  | x :: r => by
    by_cases h : x.f0 = n
    · simp [putF, getF, h]
    · simp [putF, getF, h, getF_putF n v r]
theorem getF_putF_ne {m n : ByteArray} (v : ByteArray) (hm : m ≠ n) : ∀ l : List S78, getF m (putF n v l) = getF m l
  | [] => by simp [putF, getF, Ne.symm hm]
  | x :: r => by
    by_cases h : x.f0 = n
    · have : x.f0 ≠ m := fun e => hm (e.symm.trans h)
      simp [putF, getF, h, Ne.symm hm]
    · by_cases h2 : x.f0 = m
      · simp [putF, getF, h2, hm]
      · simp [putF, getF, h, h2, getF_putF_ne v hm r]
theorem getF_none {n : ByteArray} : ∀ {l : List S78}, n ∉ l.map (·.f0) → getF n l = none
  | [], _ => rfl
  | x :: r, h => by
    rw [List.map_cons, List.mem_cons, not_or] at h
    rw [getF, if_neg (fun e => h.1 e.symm), getF_none h.2]
theorem getF_dropF (n : ByteArray) : ∀ {l : List S78}, (l.map (·.f0)).Nodup → getF n (dropF n l) = none
  | [], _ => rfl
  | x :: r, h => by
    rw [List.map_cons, List.nodup_cons] at h
    by_cases e : x.f0 = n
    · rw [dropF, if_pos e]; exact getF_none (e ▸ h.1)
    · rw [dropF, if_neg e, getF, if_neg e, getF_dropF n h.2]
theorem okFs_at (l : List S78) : ∀ (r : List S78) (i : Nat), okFs l i r = true → ∀ j (h : j < r.length), at_ r[j].f0 l 0 = ((i + j : Nat) : Int)
  | [], i, h, j, hj => absurd hj (Nat.not_lt_zero j)
  | x :: r, i, h, j, hj => by
    simp only [okFs, Bool.and_eq_true, decide_eq_true_eq] at h
    obtain ⟨_, _, _, h4, h5⟩ := h
    cases j with
    | zero => exact h4
    | succ j =>
      rw [List.getElem_cons_succ, okFs_at l r (i + 1) h5 j (by simpa using hj)]
      congr 1; omega
theorem fieldsB_nodup {l : List S78} (h : fieldsB l = true) : (l.map (·.f0)).Nodup := by
  have ha := okFs_at l l 0 h
  refine List.pairwise_iff_getElem.2 fun i j hi hj hij e => ?_
  rw [List.length_map] at hi hj
  rw [List.getElem_map, List.getElem_map] at e
  have h1 := ha i hi
  have h2 := ha j hj
  rw [e] at h1
  omega
theorem fieldLines_le2 {K : Nat} {l : List S78} (h : SmallF K l) : (fieldLines l).length ≤ (2 * K + 4) * l.length := by
  replace h := h.2
  induction l with
  | nil => exact Nat.zero_le _
  | cons x r ih =>
    have h1 := h x (by simp)
    have h2 := ih (fun y hy => h y (by simp [hy]))
    simp only [fieldLines, fieldLine, List.length_append, List.length_cons, List.length_nil, data_length, Nat.mul_succ]
    omega

end Go.Proofs.YtogdmlgbdbgpkaaDoor.Pure
