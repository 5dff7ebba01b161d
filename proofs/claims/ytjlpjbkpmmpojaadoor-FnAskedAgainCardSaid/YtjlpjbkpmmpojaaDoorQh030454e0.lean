/- What the printed functions answer, in plain words: lemmas of this session. No condition of a statement lies here. -/
import Derived.Test.YtjlpjbkpmmpojaaDoorAllx0
import Derived.Test.YtjlpjbkpmmpojaaDoorAllx1
import Derived.Test.YtjlpjbkpmmpojaaDoorAllx2
import Derived.Test.YtjlpjbkpmmpojaaDoorAllx3
import Derived.Test.YtjlpjbkpmmpojaaDoorAllx4
import Derived.Test.YtjlpjbkpmmpojaaDoorAllx5
import Derived.Test.YtjlpjbkpmmpojaaDoorAllx6
import Derived.Test.YtjlpjbkpmmpojaaDoorAllx7
import Derived.Test.YtjlpjbkpmmpojaaDoorAllx8
namespace Go.Proofs.YtjlpjbkpmmpojaaDoor.Pure
open Go.RowKit Go.Proofs.YtjlpjbkpmmpojaaDoor.All Go.Proofs.YtjlpjbkpmmpojaaDoorW.PrintWords Go.Proofs.YtjlpjbkpmmpojaaDoorW.PrintLast
set_option linter.unusedVariables false
set_option linter.unusedSimpArgs false

/-! ### plain words on numbers, bytes, lists -/
theorem w64 {n : Int} (h : -9223372036854775808 ≤ n ∧ n ≤ 9223372036854775807) : wrap64 n = n := by unfold wrap64; omega
/-- a text's bytes -/
def B (s : ByteArray) : List UInt8 := s.data.toList
theorem B_len (s : ByteArray) : (B s).length = s.size := data_length s
theorem toList_B (s : ByteArray) : s.toList = B s := ByteArray.toList_eq s
theorem B_ext {a b : ByteArray} (h : B a = B b) : a = b := by
  cases a with | mk a => cases b with | mk b => unfold B at h; simp at h; rw [h]
theorem B_mk (l : List UInt8) : B ⟨l.toArray⟩ = l := by unfold B; simp
theorem toList_inj {a b : ByteArray} (h : a.toList = b.toList) : a = b := B_ext (by rw [← toList_B, ← toList_B, h])
theorem toList_iff (a b : ByteArray) : a.toList = b.toList ↔ a = b := ⟨toList_inj, fun h => by rw [h]⟩
theorem bt_get (s : ByteArray) (i : Nat) (h : i < (B s).length) : bt s (i : Int) = (((B s)[i]).toNat : Int) := by
  have h' : i < s.size := by rw [← B_len]; exact h
  unfold bt B
  simp [h']
  rfl
theorem B_append (a b : ByteArray) : B (a ++ b) = B a ++ B b := by
  unfold B; rw [ByteArray.data_append]; simp
theorem B_extract (s : ByteArray) (i j : Nat) : B (s.extract i j) = ((B s).take j).drop i := by
  unfold B; rw [ByteArray.data_extract]; simp [List.drop_take]
theorem B_empty : B (⟨#[]⟩ : ByteArray) = [] := rfl
/-- numbers as bytes -/
def oct (n : Int) : UInt8 := UInt8.ofNat n.toNat
theorem oct_nat (c : UInt8) : oct (c.toNat : Int) = c := by unfold oct; simp
theorem strOf (xs : List Int) : strOfNums xs = ⟨(xs.map oct).toArray⟩ := rfl
theorem B_strOf (xs : List Int) : B (strOfNums xs) = xs.map oct := by rw [strOf, B_mk]
theorem succ_of {k d : Nat} (h : d < k) : ∃ m, k = m + 1 := ⟨k - 1, by omega⟩
theorem drop_at {α : Type} {l : List α} {i : Nat} (h : i < l.length) : l.drop i = l[i] :: l.drop (i + 1) := List.drop_eq_getElem_cons h
theorem nat_round {i n : Nat} (h : i < n) (hn : (n : Int) ≤ 9223372036854775807) : wrap64 ((i : Int) + 1) = ((i + 1 : Nat) : Int) := by
  rw [w64 (by omega)]; omega
theorem ite_bool {b : Bool} {α : Type} {x y : α} : (if b = true then x else y) = bif b then x else y := by cases b <;> rfl
/-! ### lists of texts and of numbers -/
theorem rd_B (l : List ByteArray) (j : Nat) (h : j < l.length) : rdOf ByteArray.empty l (j : Int) = l[j] := by simp [rdOf, List.getD, h]
theorem rd_I (l : List Int) (j : Nat) (h : j < l.length) : rd l (j : Int) = l[j] := by simp [rd, List.getD, h]
theorem set_at {α : Type} (pre : List α) (y z : α) (rest : List α) : (pre ++ y :: rest).set ((pre.length : Int)).toNat z = pre ++ z :: rest := by
  rw [Int.toNat_natCast, List.set_append_right _ _ (by omega), Nat.sub_self, List.set_cons_zero]
theorem set_at' {α : Type} {i : Nat} (pre : List α) (y z : α) (rest : List α) (h : pre.length = i) : (pre ++ y :: rest).set ((i : Int)).toNat z = pre ++ z :: rest := by
  subst h; exact set_at pre y z rest
def hasB (s : ByteArray) (l : List ByteArray) : Bool := l.any fun x => decide (x = s)
theorem hasB_drop {l : List ByteArray} {i : Nat} (h : i < l.length) (s : ByteArray) : hasB s (l.drop i) = (decide (l[i] = s) || hasB s (l.drop (i + 1))) := by
  unfold hasB; rw [drop_at h, List.any_cons]
theorem drop_eq {α : Type} {a b : List α} {i : Nat} (ha : i < a.length) (hb : i < b.length) : a.drop i = b.drop i ↔ a[i] = b[i] ∧ a.drop (i + 1) = b.drop (i + 1) := by
  rw [drop_at ha, drop_at hb, List.cons.injEq]
theorem extract_all0 (s : ByteArray) : s.extract 0 s.size = s := ByteArray.extract_zero_size
/-! ### TokenOk -/
def tok1 (c : UInt8) : Bool := decide (97 ≤ c.toNat ∧ c.toNat ≤ 122 ∨ 48 ≤ c.toNat ∧ c.toNat ≤ 57 ∨ c.toNat = 45)
def tokB (s : ByteArray) : Bool := (B s).all tok1 && decide (1 ≤ s.size ∧ s.size ≤ 20)
theorem spec_l1In_f (x a b : Int) : spec_l1In.f x a b = some (decide (a ≤ x ∧ x ≤ b)) := by
  unfold spec_l1In.f
  by_cases h : x ≥ a <;> simp [h]
theorem impl_inRange_f (x a b : Int) : impl_inRange.f x a b = some (decide (a ≤ x ∧ x ≤ b)) := by
  unfold impl_inRange.f
  by_cases h : x ≥ a <;> simp [h]
theorem tok_round (k : Nat) (s : ByteArray) (i : Nat) (hs : (s.size : Int) ≤ 9223372036854775807) (hi : i < s.size) (hl : i < (B s).length) :
    spec_TokenOk.l0 (k + 1) s i = (if tok1 (B s)[i] then spec_TokenOk.l0 k s ((i + 1 : Nat) : Int) else some false) ∧ impl_TokenOk.l0 (k + 1) s i = (if tok1 (B s)[i] then impl_TokenOk.l0 k s ((i + 1 : Nat) : Int) else some false) := by
  have hw := nat_round (i := i) (n := s.size) hi hs
  simp only [spec_TokenOk.l0, impl_TokenOk.l0]
  rw [if_pos (by omega), if_pos (by omega), bt_get s i hl, hw]
  unfold tok1
  generalize ((B s)[i]).toNat = c
  constructor
  all_goals
    by_cases h : 97 ≤ c ∧ c ≤ 122 ∨ 48 ≤ c ∧ c ≤ 57 ∨ c = 45
    · simp only [decide_eq_true h, if_true]
      repeat' (split <;> try rfl)
      all_goals omega
    · simp only [decide_eq_false h, Bool.false_eq_true, if_false]
      repeat' (split <;> try rfl)
      all_goals omega
theorem tok_l0 (s : ByteArray) (hs : (s.size : Int) ≤ 9223372036854775807) : ∀ (d k i : Nat), s.size - i = d → i ≤ s.size → d < k →
    spec_TokenOk.l0 k s i = some (((B s).drop i).all tok1 && decide (1 ≤ s.size ∧ s.size ≤ 20)) ∧ impl_TokenOk.l0 k s i = some (((B s).drop i).all tok1 && decide (1 ≤ s.size ∧ s.size ≤ 20)) := by
  intro d
  induction d with
  | zero =>
    intro k i hd hi hk
    obtain ⟨k, rfl⟩ := succ_of hk
    simp only [spec_TokenOk.l0, impl_TokenOk.l0, spec_l1In_f, impl_inRange_f, Option.bind_some]
    have hni : ¬ ((i : Int) < (s.size : Int)) := by omega
    simp only [if_neg hni]
    rw [List.drop_eq_nil_of_le (by rw [B_len]; omega)]
    have : decide ((1 : Int) ≤ (s.size : Int) ∧ (s.size : Int) ≤ 20) = decide (1 ≤ s.size ∧ s.size ≤ 20) := decide_eq_decide.2 (by omega)
    rw [this]; simp
  | succ d ih =>
    intro k i hd hi hk
    obtain ⟨k, rfl⟩ := succ_of hk
    have hl : i < (B s).length := by rw [B_len]; omega
    obtain ⟨h1, h2⟩ := tok_round k s i hs (by omega) hl
    obtain ⟨i1, i2⟩ := ih k (i + 1) (by omega) (by omega) (by omega)
    rw [h1, h2, i1, i2, drop_at hl, List.all_cons]
    cases tok1 (B s)[i] <;> simp
theorem spec_TokenOk_f {k : Nat} {s : ByteArray} (hs : (s.size : Int) ≤ 9223372036854775807) (hk : s.size < k) : spec_TokenOk.f k s = some (tokB s) := (tok_l0 s hs s.size k 0 (by omega) (by omega) hk).1
theorem impl_TokenOk_f {k : Nat} {s : ByteArray} (hs : (s.size : Int) ≤ 9223372036854775807) (hk : s.size < k) : impl_TokenOk.f k s = some (tokB s) := (tok_l0 s hs s.size k 0 (by omega) (by omega) hk).2
/-! ### the first field of a name -/
def getF (n : ByteArray) : List S46 → Option ByteArray
  | [] => none
  | x :: r => if x.f0 = n then some x.f1 else getF n r
def putF (n v : ByteArray) : List S46 → List S46
  | [] => [⟨n, v⟩]
  | x :: r => if x.f0 = n then ⟨x.f0, v⟩ :: r else x :: putF n v r
def dropF (n : ByteArray) : List S46 → List S46
  | [] => []
  | x :: r => if x.f0 = n then r else x :: dropF n r
theorem at_cons (n : ByteArray) (x : S46) (r : List S46) (i : Nat) : at_ n (x :: r) i = if x.f0 = n then (i : Int) else at_ n r (i + 1) := by
  simp only [at_]
  by_cases h : x.f0 = n
  · rw [if_pos h, if_pos (by rw [h]; simp)]
  · rw [if_neg h, if_neg (by simpa using fun e => h (toList_inj e))]
/-- where it stands: nowhere, or at a place j -/
theorem at_cases (n v : ByteArray) : ∀ (l : List S46) (i : Nat), (at_ n l i = -1 ∧ getF n l = none ∧ putF n v l = l ++ [⟨n, v⟩] ∧ dropF n l = l) ∨
    ∃ j, ∃ h : j < l.length, at_ n l i = ((i + j : Nat) : Int) ∧ l[j].f0 = n ∧ getF n l = some l[j].f1 ∧ putF n v l = l.set j ⟨l[j].f0, v⟩ ∧ dropF n l = l.eraseIdx j
  | [], i => .inl ⟨rfl, rfl, rfl, rfl⟩
  | x :: r, i => by
    rw [at_cons]
    by_cases h : x.f0 = n
    · exact .inr ⟨0, by simp, by rw [if_pos h]; rfl, h, by simp [getF, h], by simp [putF, h], by simp [dropF, h]⟩
    · rw [if_neg h]
      rcases at_cases n v r (i + 1) with ⟨h1, h2, h3, h4⟩ | ⟨j, hj, h1, h0, h2, h3, h4⟩
      · exact .inl ⟨h1, by simp [getF, h, h2], by simp [putF, h, h3], by simp [dropF, h, h4]⟩
      · exact .inr ⟨j + 1, by simp; omega, by rw [h1]; congr 1; omega, by simpa using h0, by simp [getF, h, h2], by simp [putF, h, h3], by simp [dropF, h, h4]⟩
theorem at_range (n : ByteArray) (l : List S46) : -1 ≤ at_ n l 0 ∧ at_ n l 0 < l.length := by
  rcases at_cases n n l 0 with ⟨h, _⟩ | ⟨j, hj, h, _⟩ <;> rw [h] <;> omega
theorem impl_fieldAt_f {l : List S46} {n : ByteArray} (hl : l.length < 4398046511104) : impl_fieldAt.f l n = some (at_ n l 0) := by
  unfold impl_fieldAt.f; rw [if_pos hl]
theorem putF_length (n v : ByteArray) (l : List S46) : (putF n v l).length ≤ l.length + 1 := by
  rcases at_cases n v l 0 with ⟨_, _, h, _⟩ | ⟨j, hj, _, _, _, h, _⟩ <;> rw [h] <;> simp
theorem dropF_length (n : ByteArray) (l : List S46) : (dropF n l).length ≤ l.length := by
  rcases at_cases n n l 0 with ⟨_, _, _, h⟩ | ⟨j, hj, _, _, _, _, h⟩ <;> rw [h] <;> simp [List.length_eraseIdx] <;> split <;> omega
theorem spec_l2At_l0 (l : List S46) (n : ByteArray) (hl : (l.length : Int) ≤ 9223372036854775807) : ∀ (d k i : Nat), l.length - i = d → i ≤ l.length → d < k → spec_l2At.l0 k l n i = some (at_ n (l.drop i) i) := by
  intro d
  induction d with
  | zero =>
    intro k i hd hi hk
    obtain ⟨k, rfl⟩ := succ_of hk
    simp only [spec_l2At.l0]
    rw [if_neg (by omega), List.drop_eq_nil_of_le (by omega)]; rfl
  | succ d ih =>
    intro k i hd hi hk
    obtain ⟨k, rfl⟩ := succ_of hk
    have hlt : i < l.length := by omega
    have hx : rd_T46 l (i : Int) = l[i] := by simp [rd_T46, List.getD, hlt]
    simp only [spec_l2At.l0]
    rw [if_pos (by omega), if_pos (by omega), hx, nat_round hlt hl, ih k (i + 1) (by omega) (by omega) (by omega), drop_at hlt, at_cons]
    by_cases h : l[i].f0 = n
    · rw [if_pos h, if_pos (by rw [h])]
    · rw [if_neg h, if_neg (fun e => h (toList_inj e))]
theorem spec_l2At_f {k : Nat} {l : List S46} {n : ByteArray} (hl : (l.length : Int) ≤ 9223372036854775807) (hk : l.length < k) : spec_l2At.f k l n = some (at_ n l 0) := spec_l2At_l0 l n hl l.length k 0 (by omega) (by omega) hk
/-! ### Get, Put, Drop -/
theorem rd_F (l : List S46) (j : Nat) (h : j < l.length) : rd_T46 l (j : Int) = l[j] := by simp [rd_T46, List.getD, h]
theorem impl_Get_f {l : List S46} {n : ByteArray} (hl : l.length < 4398046511104) : impl_Get.f l n = some ((getF n l).getD ⟨#[]⟩, (getF n l).isSome) := by
  unfold impl_Get.f
  rw [impl_fieldAt_f hl, Option.bind_some]
  rcases at_cases n n l 0 with ⟨h1, h2, _, _⟩ | ⟨j, hj, h1, _, h2, _, _⟩
  · rw [h1, h2, if_pos (by omega)]; rfl
  · rw [h1, h2, if_neg (by omega), if_pos (by omega), if_pos (by omega), Nat.zero_add, rd_F l j hj]; rfl
theorem spec_Get_f {k : Nat} {l : List S46} {n : ByteArray} (hl : (l.length : Int) ≤ 9223372036854775807) (hk : l.length < k) : spec_Get.f k l n = some ((getF n l).getD ⟨#[]⟩, (getF n l).isSome) := by
  unfold spec_Get.f
  rw [spec_l2At_f hl hk, Option.bind_some]
  rcases at_cases n n l 0 with ⟨h1, h2, _, _⟩ | ⟨j, hj, h1, _, h2, _, _⟩
  · rw [h1, h2, if_pos (by omega)]; rfl
  · rw [h1, h2, if_neg (by omega), if_pos (by omega), if_pos (by omega), Nat.zero_add, rd_F l j hj]; rfl
theorem slices_Clone_Field_f {l : List S46} (hl : l.length < 4398046511104) : slices_Clone_Field.f l = some l := by
  unfold slices_Clone_Field.f; rw [if_pos hl]
theorem impl_Put_f {l : List S46} {n v : ByteArray} (hl : l.length < 4398046511104) : impl_Put.f l n v = some (putF n v l) := by
  unfold impl_Put.f
  rw [slices_Clone_Field_f hl, Option.bind_some, impl_fieldAt_f hl, Option.bind_some]
  rcases at_cases n v l 0 with ⟨h1, _, h3, _⟩ | ⟨j, hj, h1, _, _, h3, _⟩
  · rw [h1, h3, if_neg (by omega), if_pos hl]
  · rw [h1, h3, if_pos (by omega), if_pos (by omega), if_pos (by omega), Nat.zero_add, rd_F l j hj, Int.toNat_natCast]
theorem spec_Put_f {k : Nat} {l : List S46} {n v : ByteArray} (hl : l.length < 4398046511104) (hk : l.length < k) : spec_Put.f k l n v = some (putF n v l) := by
  unfold spec_Put.f
  rw [Option.bind_some, if_pos (by simpa using hl), Option.bind_some, spec_l2At_f (by omega) hk, Option.bind_some, List.nil_append]
  rcases at_cases n v l 0 with ⟨h1, _, h3, _⟩ | ⟨j, hj, h1, _, _, h3, _⟩
  · rw [h1, h3, if_pos (by omega), if_pos hl]
  · rw [h1, h3, if_neg (by omega), if_pos (by omega), if_pos (by omega), Nat.zero_add, rd_F l j hj, Int.toNat_natCast]
def skipI (j : Int) : Nat → List S46 → List S46
  | _, [] => []
  | i, x :: r => if (i : Int) = j then skipI j (i + 1) r else x :: skipI j (i + 1) r
theorem skipI_past (j : Int) : ∀ (l : List S46) (i : Nat), j < i → skipI j i l = l
  | [], _, _ => rfl
  | x :: r, i, h => by rw [skipI, if_neg (by omega), skipI_past j r (i + 1) (by omega)]
theorem skipI_at : ∀ (l : List S46) (i m : Nat), skipI ((i + m : Nat) : Int) i l = l.eraseIdx m
  | [], _, _ => rfl
  | x :: r, i, 0 => by rw [skipI, if_pos (by omega), skipI_past _ r _ (by omega)]; rfl
  | x :: r, i, m + 1 => by
    rw [skipI, if_neg (by omega), List.eraseIdx_cons_succ, ← skipI_at r (i + 1) m]
    rw [show i + (m + 1) = i + 1 + m by omega]
theorem skipI_len (j : Int) : ∀ (l : List S46) (i : Nat), (skipI j i l).length ≤ l.length
  | [], _ => Nat.le_refl _
  | x :: r, i => by
    have := skipI_len j r (i + 1)
    rw [skipI]; split <;> simp only [List.length_cons] <;> omega
theorem spec_Drop_l0 (l : List S46) (j : Int) (hl : l.length < 4398046511104) : ∀ (d k i : Nat) (acc : List S46), l.length - i = d → i ≤ l.length → acc.length ≤ i → d < k →
    spec_Drop.l0 k l j acc i = some (acc ++ skipI j i (l.drop i)) := by
  intro d
  induction d with
  | zero =>
    intro k i acc hd hi ha hk
    obtain ⟨k, rfl⟩ := succ_of hk
    simp only [spec_Drop.l0]
    rw [if_neg (by omega), List.drop_eq_nil_of_le (by omega), skipI, List.append_nil]
  | succ d ih =>
    intro k i acc hd hi ha hk
    obtain ⟨k, rfl⟩ := succ_of hk
    have hlt : i < l.length := by omega
    simp only [spec_Drop.l0]
    rw [if_pos (by omega), rd_F l i hlt, nat_round (n := l.length) hlt (by omega), drop_at hlt, skipI]
    by_cases h : (i : Int) = j
    · rw [if_pos h, if_pos h, ih k (i + 1) acc (by omega) (by omega) (by omega) (by omega)]
    · rw [if_neg h, if_neg h, if_pos (by omega), if_pos (by omega), ih k (i + 1) _ (by omega) (by omega) (by simp; omega) (by omega), List.append_assoc]
      rfl
theorem spec_Drop_f {k : Nat} {l : List S46} {n : ByteArray} (hl : l.length < 4398046511104) (hk : l.length < k) : spec_Drop.f k l n = some (dropF n l) := by
  unfold spec_Drop.f
  rw [spec_l2At_f (by omega) hk, Option.bind_some, show (0 : Int) = ((0 : Nat) : Int) from rfl, spec_Drop_l0 l _ hl l.length k 0 [] (by omega) (by omega) (by simp) hk, List.nil_append, List.drop_zero]
  rcases at_cases n n l 0 with ⟨h1, _, _, h4⟩ | ⟨j, hj, h1, _, _, _, h4⟩
  · rw [h1, h4, skipI_past _ _ _ (by omega)]
  · rw [h1, h4, skipI_at]
theorem impl_Drop_f {l : List S46} {n : ByteArray} (hl : l.length < 4398046511104) : impl_Drop.f l n = some (dropF n l) := by
  unfold impl_Drop.f
  rw [if_pos hl]
  rcases at_cases n n l 0 with ⟨h1, _, _, h4⟩ | ⟨j, hj, h1, _, _, _, h4⟩
  · rw [h1, h4, if_pos (by omega)]
  · rw [h1, h4, if_neg (by omega), Nat.zero_add, Int.toNat_natCast]
def sameF (q r : List S46) : Bool :=
  match getF ⟨#[105, 102, 45, 110, 111, 110, 101, 45, 109, 97, 116, 99, 104]⟩ q, getF ⟨#[101, 116, 97, 103]⟩ r with
  | some a, some b => a.toList == b.toList
  | _, _ => false
theorem beq_comm' (a b : List UInt8) : (a == b) = (b == a) := by rw [Bool.eq_iff_iff, beq_iff_eq, beq_iff_eq]; exact eq_comm
theorem impl_Same_f {m : Int} {p b : ByteArray} {q r : List S46} (hq : q.length < 4398046511104) (hr : r.length < 4398046511104) : impl_Same.f m p q b r = some (sameF q r) := by
  unfold impl_Same.f sameF
  rw [impl_Get_f hr, Option.bind_some, impl_Get_f hq, Option.bind_some]
  cases getF ⟨#[105, 102, 45, 110, 111, 110, 101, 45, 109, 97, 116, 99, 104]⟩ q <;> cases getF ⟨#[101, 116, 97, 103]⟩ r <;> simp [beq_comm']
theorem spec_Same_f {k : Nat} {m : Int} {p b : ByteArray} {q r : List S46} (hq : q.length < 4398046511104) (hr : r.length < 4398046511104) (hk : q.length + r.length < k) : spec_Same.f k m p q b r = some (sameF q r) := by
  unfold spec_Same.f sameF
  rw [spec_Get_f (by omega) (by omega), Option.bind_some, spec_Get_f (by omega) (by omega), Option.bind_some]
  cases getF ⟨#[105, 102, 45, 110, 111, 110, 101, 45, 109, 97, 116, 99, 104]⟩ q <;> cases getF ⟨#[101, 116, 97, 103]⟩ r <;> simp
def keptF (x : S46) : Bool := decide (x.f0.toList = [101, 116, 97, 103] ∨ x.f0.toList = [118, 97, 114, 121] ∨ x.f0.toList = [99, 97, 99, 104, 101, 45, 99, 111, 110, 116, 114, 111, 108])
theorem Short_l0 (l : List S46) (hl : l.length < 4398046511104) (s : Int) (b : ByteArray) : ∀ (d k i : Nat) (acc : List S46), l.length - i = d → i ≤ l.length → acc.length ≤ i → d < k →
    impl_Short.l0 k l (l.length : Int) i s acc b = some (s, acc ++ (l.drop i).filter keptF, b) ∧ ∀ s0 b0, spec_Short.l0 k i s0 l b0 s acc b = some (s, acc ++ (l.drop i).filter keptF, b) := by
  intro d
  induction d with
  | zero =>
    intro k i acc hd hi ha hk
    obtain ⟨k, rfl⟩ := succ_of hk
    simp only [spec_Short.l0, impl_Short.l0]
    rw [List.drop_eq_nil_of_le (by omega), List.filter_nil, List.append_nil]
    exact ⟨by rw [if_neg (by omega)], fun _ _ => by rw [if_neg (by omega)]⟩
  | succ d ih =>
    intro k i acc hd hi ha hk
    obtain ⟨k, rfl⟩ := succ_of hk
    have hlt : i < l.length := by omega
    obtain ⟨y1, y2⟩ := ih k (i + 1) (acc ++ [l[i]]) (by omega) (by omega) (by simp; omega) (by omega)
    obtain ⟨n1, n2⟩ := ih k (i + 1) acc (by omega) (by omega) (by omega) (by omega)
    simp only [spec_Short.l0, impl_Short.l0]
    rw [rd_F l i hlt, nat_round (n := l.length) hlt (by omega), drop_at hlt, List.filter_cons]
    rw [List.append_assoc] at y1
    simp only [List.append_assoc] at y2
    have ha' : acc.length < 4398046511104 := by omega
    by_cases h : keptF l[i] = true
    · rw [if_pos h]
      have h' := h
      unfold keptF at h'
      rw [decide_eq_true_eq] at h'
      have e : (⟨l[i].f0, l[i].f1⟩ : S46) = l[i] := rfl
      refine ⟨?_, fun s0 b0 => ?_⟩
      · rw [if_pos (by omega), if_pos (by omega), if_pos (by omega), e, if_pos ha']
        rcases h' with h' | h' | h'
        · rw [if_pos h']; exact y1
        · rw [h', if_neg (by decide), if_pos rfl]; exact y1
        · rw [h', if_neg (by decide), if_neg (by decide), if_pos rfl]; exact y1
      · rw [if_pos (by omega), if_pos (by omega), e, if_pos ha']
        rcases h' with h' | h' | h'
        · rw [if_pos h']; exact y2 s0 b0
        · rw [h', if_neg (by decide), if_pos rfl]; exact y2 s0 b0
        · rw [h', if_neg (by decide), if_neg (by decide), if_pos rfl]; exact y2 s0 b0
    · rw [if_neg h]
      have h' := h
      unfold keptF at h'
      rw [decide_eq_true_eq] at h'
      have h1 : ¬ l[i].f0.toList = [101, 116, 97, 103] := fun e => h' (.inl e)
      have h2 : ¬ l[i].f0.toList = [118, 97, 114, 121] := fun e => h' (.inr (.inl e))
      have h3 : ¬ l[i].f0.toList = [99, 97, 99, 104, 101, 45, 99, 111, 110, 116, 114, 111, 108] := fun e => h' (.inr (.inr e))
      refine ⟨?_, fun s0 b0 => ?_⟩
      · rw [if_pos (by omega), if_pos (by omega), if_pos (by omega), if_neg h1, if_neg h2, if_neg h3]; exact n1
      · rw [if_pos (by omega), if_pos (by omega), if_neg h1, if_neg h2, if_neg h3]; exact n2 s0 b0
theorem impl_Short_f {k : Nat} {l : List S46} {s : Int} {b : ByteArray} (hl : l.length < 4398046511104) (hk : l.length < k) : impl_Short.f k s l b = some (304, l.filter keptF, ⟨#[]⟩) := by
  have := (Short_l0 l hl 304 ⟨#[]⟩ l.length k 0 [] (by omega) (by omega) (by simp) hk).1
  simpa [impl_Short.f] using this
theorem spec_Short_f {k : Nat} {l : List S46} {s : Int} {b : ByteArray} (hl : l.length < 4398046511104) (hk : l.length < k) : spec_Short.f k s l b = some (304, l.filter keptF, ⟨#[]⟩) := by
  have := (Short_l0 l hl 304 ⟨#[]⟩ l.length k 0 [] (by omega) (by omega) (by simp) hk).2 s b
  simpa [spec_Short.f] using this
/-! ### NumText -/
def numT (n : Int) : ByteArray := if 0 ≤ n ∧ n ≤ 1000000 then ⟨(Lib.itoa n).toArray⟩ else ⟨#[]⟩
theorem digit_of (u : Nat) : oct ((wrap64 (48 + Int.tmod (u : Int) 10)) % 256) = UInt8.ofNat (48 + u % 10) := by
  have h : Int.tmod (u : Int) 10 = ((u % 10 : Nat) : Int) := by rw [Int.tmod_eq_emod_of_nonneg (by omega)]; omega
  rw [h, w64 (by omega), show (48 + ((u % 10 : Nat) : Int)) % 256 = ((48 + u % 10 : Nat) : Int) by omega]
  unfold oct
  rw [Int.toNat_natCast]
theorem decDigits_len (u : Nat) : ∀ d, u < 10 ^ (d + 1) → (Lib.decDigits u).length ≤ d + 1 := by
  intro d
  induction d generalizing u with
  | zero => intro h; rw [Lib.decDigits, dif_pos (by omega)]; simp
  | succ d ih =>
    intro h
    rw [Lib.decDigits]
    split
    · simp
    · have h10 : (10 : Nat) ^ (d + 1 + 1) = 10 ^ (d + 1) * 10 := rfl
      have := ih (u / 10) (by omega)
      simp only [List.length_append, List.length_cons, List.length_nil]; omega
theorem itoa_nat (u : Nat) : Lib.itoa (u : Int) = Lib.decDigits u := by
  unfold Lib.itoa; rw [if_neg (by omega), Int.toNat_natCast]
theorem numT_size (t : Int) : (numT t).size ≤ 20 := by
  unfold numT
  split
  · rename_i h
    obtain ⟨u, rfl⟩ : ∃ u : Nat, t = u := ⟨t.toNat, by omega⟩
    have hl := decDigits_len u 6 (by omega)
    rw [itoa_nat, ← B_len, B_mk (Lib.decDigits u)]; omega
  · simp [ByteArray.size]
theorem spec_NumText_l0 : ∀ (d k u : Nat) (acc : ByteArray), u < 10 ^ d → acc.size + d ≤ 1000 → u ≤ 4611686018427387904 → d < k →
    spec_NumText.l0 k (u : Int) acc = some (if u = 0 then acc else ⟨(Lib.decDigits u ++ B acc).toArray⟩) := by
  intro d
  induction d with
  | zero =>
    intro k u acc hu ha hb hk
    obtain ⟨k, rfl⟩ := succ_of hk
    obtain rfl : u = 0 := by simp at hu; omega
    simp only [spec_NumText.l0]
    rw [if_neg (by omega), if_pos trivial]
  | succ d ih =>
    intro k u acc hu ha hb hk
    obtain ⟨k, rfl⟩ := succ_of hk
    simp only [spec_NumText.l0]
    by_cases h0 : u = 0
    · rw [if_neg (by omega), if_pos h0]
    have h10 : (10 : Nat) ^ (d + 1) = 10 ^ d * 10 := rfl
    rw [if_pos (by omega), Option.bind_some, if_pos (by rw [strOfNums_size]; simp; omega), if_neg h0]
    have hdiv : wrap64 (Int.tdiv (u : Int) 10) = ((u / 10 : Nat) : Int) := by
      rw [Int.tdiv_eq_ediv_of_nonneg (by omega), w64 (by omega)]; omega
    rw [hdiv, ih k (u / 10) _ (by omega) (by rw [ByteArray.size_append, strOfNums_size]; simp; omega) (by omega) (by omega)]
    refine congrArg some ?_
    have hB : B (strOfNums [(wrap64 (48 + Int.tmod (u : Int) 10)) % 256] ++ acc) = UInt8.ofNat (48 + u % 10) :: B acc := by
      rw [B_append, B_strOf, List.map_cons, List.map_nil, digit_of]; rfl
    split
    · rename_i h1
      apply B_ext
      rw [hB, B_mk (Lib.decDigits u ++ B acc), Lib.decDigits, dif_pos (by omega), show u % 10 = u by omega]
      rfl
    · rename_i h1
      apply B_ext
      rw [hB, B_mk (Lib.decDigits (u / 10) ++ _), B_mk (Lib.decDigits u ++ B acc)]
      conv => rhs; rw [Lib.decDigits]
      rw [dif_neg (by omega), List.append_assoc]
      rfl
theorem spec_NumText_f {k : Nat} {n : Int} (hk : 30 < k) : spec_NumText.f k n = some (numT n) := by
  unfold spec_NumText.f numT
  rw [spec_l1In_f, Option.bind_some]
  by_cases h : 0 ≤ n ∧ n ≤ 1000000
  · rw [if_pos (decide_eq_true h), if_pos h]
    obtain ⟨u, rfl⟩ : ∃ u : Nat, n = u := ⟨n.toNat, by omega⟩
    rw [itoa_nat]
    by_cases h0 : u = 0
    · subst h0
      rw [if_pos (show ((0 : Nat) : Int) = 0 from rfl), Lib.decDigits, dif_pos (by omega)]; rfl
    · rw [if_neg (by omega), spec_NumText_l0 20 k u _ (by omega) (by decide) (by omega) (by omega), if_neg h0, B_empty, List.append_nil]
  · rw [if_neg (by simpa using h), if_neg h]
/-! ### Trim -/
def trimT (s : ByteArray) : ByteArray := ⟨(Lib.trimB (B s) 32).toArray⟩
theorem oct32 (c : UInt8) : ((c.toNat : Int) = 32) ↔ c = 32 := by
  constructor
  · intro h
    have : c.toNat = (32 : UInt8).toNat := by show c.toNat = 32; omega
    exact UInt8.toNat_inj.1 this
  · rintro rfl; rfl
theorem spec_Trim_l1 (s : ByteArray) (hs : (s.size : Int) ≤ 4611686018427387904) (i : Nat) (hi : i ≤ s.size) : ∀ (d k m : Nat), m = i + d → m ≤ s.size → d < k → (∀ j (h : j < (B s).length), m ≤ j → (B s)[j] = 32) →
    ∃ n, i ≤ n ∧ n ≤ s.size ∧ spec_Trim.l1 k s i m = some (s.extract i n) ∧ (∀ j (h : j < (B s).length), n ≤ j → (B s)[j] = 32) ∧ (n = i ∨ ∀ (h : n - 1 < (B s).length), (B s)[n - 1] ≠ 32) := by
  intro d
  induction d with
  | zero =>
    intro k m hm hms hk hall
    obtain ⟨k, rfl⟩ := succ_of hk
    refine ⟨m, by omega, hms, ?_, hall, .inl (by omega)⟩
    simp only [spec_Trim.l1]
    rw [if_neg (by omega), if_pos (by omega), if_pos (by omega), if_pos (by omega), Int.toNat_natCast, Int.toNat_natCast]
  | succ d ih =>
    intro k m hm hms hk hall
    obtain ⟨k, rfl⟩ := succ_of hk
    have hl : m - 1 < (B s).length := by rw [B_len]; omega
    have hw : wrap64 ((m : Int) - 1) = ((m - 1 : Nat) : Int) := by rw [w64 (by omega)]; omega
    simp only [spec_Trim.l1]
    rw [hw, if_pos (by omega), if_pos (by omega), if_pos (by omega), bt_get s (m - 1) hl]
    by_cases c : (B s)[m - 1] = 32
    · rw [if_pos ((oct32 _).2 c)]
      refine ih k (m - 1) (by omega) (by omega) (by omega) (fun j h hj => ?_)
      by_cases e : j = m - 1
      · subst e; exact c
      · exact hall j h (by omega)
    · rw [if_neg (fun e => c ((oct32 _).1 e)), if_pos (by omega), if_pos (by omega), if_pos (by omega), Int.toNat_natCast, Int.toNat_natCast]
      exact ⟨m, by omega, hms, rfl, hall, .inr fun _ => c⟩
theorem trim_is (s : ByteArray) (i n : Nat) (hi : i ≤ n) (hn : n ≤ s.size) (h1 : ∀ j (h : j < (B s).length), j < i → (B s)[j] = 32) (h2 : ∀ h : i < (B s).length, (B s)[i] ≠ 32) (h3 : ∀ j (h : j < (B s).length), n ≤ j → (B s)[j] = 32) (h4 : n = i ∨ ∀ (h : n - 1 < (B s).length), (B s)[n - 1] ≠ 32) :
    s.extract i n = trimT s := by
  apply B_ext
  rw [B_extract]
  unfold trimT
  rw [B_mk (Lib.trimB (B s) 32)]
  have hlen := B_len s
  unfold Lib.trimB
  by_cases hi' : i < s.size
  · have hni : n ≠ i := fun e => h2 (by omega) (h3 i (by omega) (by omega))
    rw [Lib.trimRightB_take (B s) 32 n (by omega) (fun j b hj hb => by
      obtain ⟨hj', rfl⟩ := List.getElem?_eq_some_iff.1 hb
      exact h3 j hj' hj) (fun b _ hb => by
      obtain ⟨hj', rfl⟩ := List.getElem?_eq_some_iff.1 hb
      rcases h4 with h4 | h4
      · exact absurd h4 hni
      · exact h4 hj'),
      Lib.trimLeftB_drop ((B s).take n) 32 i (by rw [List.length_take]; omega) (fun j b hj hb => by
        rw [List.getElem?_take_of_lt (by omega)] at hb
        obtain ⟨hj', rfl⟩ := List.getElem?_eq_some_iff.1 hb
        exact h1 j hj' hj) (fun b hb => by
        rw [List.getElem?_take_of_lt (by omega)] at hb
        obtain ⟨hj', rfl⟩ := List.getElem?_eq_some_iff.1 hb
        exact h2 hj')]
  · rw [Lib.trimRightB_take (B s) 32 0 (by omega) (fun j b _ hb => by
      obtain ⟨hj', rfl⟩ := List.getElem?_eq_some_iff.1 hb
      exact h1 j hj' (by omega)) (fun b h _ => by omega)]
    rw [List.drop_eq_nil_of_le (by rw [List.length_take]; omega)]
    rfl
theorem spec_Trim_l0 (s : ByteArray) (hs : (s.size : Int) ≤ 4611686018427387904) : ∀ (d k i : Nat), s.size = i + d → d + s.size + 2 < k → (∀ j (h : j < (B s).length), j < i → (B s)[j] = 32) → spec_Trim.l0 k s i (s.size : Int) = some (trimT s) := by
  intro d
  have fin : ∀ (k i : Nat), i ≤ s.size → s.size + 1 < k → (∀ j (h : j < (B s).length), j < i → (B s)[j] = 32) → (∀ h : i < (B s).length, (B s)[i] ≠ 32) → spec_Trim.j1 k s i (s.size : Int) = some (trimT s) := by
    intro k i hi hk h1 h2
    obtain ⟨k, rfl⟩ := succ_of (show 0 < k by omega)
    simp only [spec_Trim.j1]
    obtain ⟨n, n1, n2, n3, n4, n5⟩ := spec_Trim_l1 s hs i hi (s.size - i) k s.size (by omega) (Nat.le_refl _) (by omega) (fun j h hj => by rw [B_len] at h; omega)
    rw [n3, trim_is s i n n1 n2 h1 h2 n4 n5]
  induction d with
  | zero =>
    intro k i hd hk hall
    obtain ⟨k, rfl⟩ := succ_of (show 0 < k by omega)
    simp only [spec_Trim.l0]
    rw [if_neg (by omega)]
    exact fin k i (by omega) (by omega) hall (fun h => by rw [B_len] at h; omega)
  | succ d ih =>
    intro k i hd hk hall
    obtain ⟨k, rfl⟩ := succ_of (show 0 < k by omega)
    have hl : i < (B s).length := by rw [B_len]; omega
    simp only [spec_Trim.l0]
    rw [if_pos (by omega), if_pos (by omega), if_pos (by omega), bt_get s i hl, nat_round (n := s.size) (by omega) (by omega)]
    by_cases c : (B s)[i] = 32
    · rw [if_pos ((oct32 _).2 c)]
      refine ih k (i + 1) (by omega) (by omega) (fun j h hj => ?_)
      by_cases e : j = i
      · subst e; exact c
      · exact hall j h (by omega)
    · rw [if_neg (fun e => c ((oct32 _).1 e))]
      exact fin k i (by omega) (by omega) hall (fun _ => c)
theorem spec_Trim_f {k : Nat} {s : ByteArray} (hs : (s.size : Int) ≤ 4611686018427387904) (hk : 2 * s.size + 2 < k) : spec_Trim.f k s = some (trimT s) :=
  spec_Trim_l0 s hs s.size k 0 (by omega) (by omega) (fun j _ hj => by omega)
theorem impl_Trim_f {s : ByteArray} (hs : (s.size : Int) ≤ 4611686018427387904) : impl_Trim.f s = some (trimT s) := by
  unfold impl_Trim.f strings_Trim.f
  rw [if_pos ⟨rfl, by omega⟩, Option.bind_some]
  rfl
/-! ### ValueOk, paths, times -/
def fromB (m : Int) (s : ByteArray) : Bool := (B s).all fun c => decide (m ≤ (c.toNat : Int) ∧ (c.toNat : Int) ≤ 126)
def fromD (m : Int) (l : List UInt8) : Bool := l.all fun c => decide (m ≤ (c.toNat : Int) ∧ (c.toNat : Int) ≤ 126)
def valB (s : ByteArray) : Bool := decide (1 ≤ s.size ∧ s.size ≤ 60) && fromB 32 s && decide (trimT s = s)
theorem beq_texts (a b : ByteArray) : (a.toList == b.toList) = decide (a = b) := by
  rw [Bool.eq_iff_iff, beq_iff_eq, decide_eq_true_eq, toList_iff]
theorem in_range (s : ByteArray) (a b : Nat) : decide ((a : Int) ≤ (s.size : Int) ∧ (s.size : Int) ≤ (b : Int)) = decide (a ≤ s.size ∧ s.size ≤ b) := decide_eq_decide.2 (by omega)
theorem spec_ValueOk_l0 (s : ByteArray) (hs : (s.size : Int) ≤ 4611686018427387904) : ∀ (d k i : Nat), s.size = i + d → d + 2 * s.size + 3 < k →
    spec_ValueOk.l0 k s i = some (fromD 32 ((B s).drop i) && decide (1 ≤ s.size ∧ s.size ≤ 60) && decide (trimT s = s)) := by
  intro d
  induction d with
  | zero =>
    intro k i hd hk
    obtain ⟨k, rfl⟩ := succ_of (show 0 < k by omega)
    simp only [spec_ValueOk.l0]
    rw [if_neg (by omega), spec_l1In_f, Option.bind_some, List.drop_eq_nil_of_le (by rw [B_len]; omega), show (1 : Int) = ((1 : Nat) : Int) from rfl, show (60 : Int) = ((60 : Nat) : Int) from rfl, in_range]
    by_cases h : 1 ≤ s.size ∧ s.size ≤ 60
    · rw [if_pos (decide_eq_true h), spec_Trim_f hs (by omega), Option.bind_some, beq_texts, decide_eq_true h]; simp [fromD]
    · rw [if_neg (by simpa using h), decide_eq_false h]; simp
  | succ d ih =>
    intro k i hd hk
    obtain ⟨k, rfl⟩ := succ_of (show 0 < k by omega)
    have hl : i < (B s).length := by rw [B_len]; omega
    simp only [spec_ValueOk.l0]
    rw [if_pos (by omega), if_pos (by omega), bt_get s i hl, nat_round (n := s.size) (by omega) (by omega), drop_at hl]
    unfold fromD
    rw [List.all_cons]
    by_cases h1 : ((B s)[i].toNat : Int) < 32
    · rw [if_pos h1, decide_eq_false (by omega)]; simp
    · rw [if_neg h1]
      by_cases h2 : ((B s)[i].toNat : Int) > 126
      · rw [if_pos h2, decide_eq_false (by omega)]; simp
      · rw [if_neg h2, decide_eq_true (by omega), Bool.true_and, ih k (i + 1) (by omega) (by omega)]; rfl
theorem spec_ValueOk_f {k : Nat} {s : ByteArray} (hs : (s.size : Int) ≤ 4611686018427387904) (hk : 3 * s.size + 3 < k) : spec_ValueOk.f k s = some (valB s) := by
  unfold spec_ValueOk.f
  rw [show (0 : Int) = ((0 : Nat) : Int) from rfl, spec_ValueOk_l0 s hs s.size k 0 (by omega) (by omega), List.drop_zero]
  unfold valB
  rw [Bool.and_comm (fromD 32 (B s))]; rfl
theorem impl_areFrom_l0 (s : ByteArray) (m : Int) (hs : (s.size : Int) ≤ 4611686018427387904) : ∀ (d k i : Nat), s.size = i + d → d < k → impl_areFrom.l0 k s m i = some (fromD m ((B s).drop i)) := by
  intro d
  induction d with
  | zero =>
    intro k i hd hk
    obtain ⟨k, rfl⟩ := succ_of (show 0 < k by omega)
    simp only [impl_areFrom.l0]
    rw [if_neg (by omega), List.drop_eq_nil_of_le (by rw [B_len]; omega)]; rfl
  | succ d ih =>
    intro k i hd hk
    obtain ⟨k, rfl⟩ := succ_of (show 0 < k by omega)
    have hl : i < (B s).length := by rw [B_len]; omega
    simp only [impl_areFrom.l0]
    rw [if_pos (by omega), if_pos (by omega), bt_get s i hl, nat_round (n := s.size) (by omega) (by omega), drop_at hl]
    unfold fromD
    rw [List.all_cons]
    by_cases h1 : ((B s)[i].toNat : Int) < m
    · rw [if_pos h1, decide_eq_false (by omega)]; simp
    · rw [if_neg h1]
      by_cases h2 : ((B s)[i].toNat : Int) > 126
      · rw [if_pos h2, decide_eq_false (by omega)]; simp
      · rw [if_neg h2, decide_eq_true (by omega), Bool.true_and, ih k (i + 1) (by omega) (by omega)]; rfl
theorem impl_areFrom_f {k : Nat} {s : ByteArray} {m : Int} (hs : (s.size : Int) ≤ 4611686018427387904) (hk : s.size < k) : impl_areFrom.f k s m = some (fromB m s) := by
  have := impl_areFrom_l0 s m hs s.size k 0 (by omega) hk
  rw [List.drop_zero] at this
  exact this
theorem impl_ValueOk_f {k : Nat} {s : ByteArray} (hs : (s.size : Int) ≤ 4611686018427387904) (hk : s.size < k) : impl_ValueOk.f k s = some (valB s) := by
  unfold impl_ValueOk.f valB
  rw [impl_inRange_f, Option.bind_some, show (1 : Int) = ((1 : Nat) : Int) from rfl, show (60 : Int) = ((60 : Nat) : Int) from rfl, in_range]
  by_cases h : 1 ≤ s.size ∧ s.size ≤ 60
  · rw [if_pos (decide_eq_true h), impl_areFrom_f hs hk, Option.bind_some, decide_eq_true h, Bool.true_and]
    cases hf : fromB 32 s
    · rw [if_neg (by simp)]; simp
    · rw [if_pos rfl, impl_Trim_f hs, Option.bind_some, beq_texts, Bool.true_and]
  · rw [if_neg (by simpa using h), decide_eq_false h]; simp
def pathB (s : ByteArray) : Bool := decide (1 ≤ s.size ∧ s.size ≤ 60) && (decide (bt s 0 = 47) && fromB 33 s)
theorem spec_l3Path_l0 (s : ByteArray) (hs : (s.size : Int) ≤ 4611686018427387904) : ∀ (d k i : Nat), s.size = i + d → d < k →
    spec_l3Path.l0 k s i = some (fromD 33 ((B s).drop i) && (decide (1 ≤ s.size ∧ s.size ≤ 60) && decide (bt s 0 = 47))) := by
  intro d
  induction d with
  | zero =>
    intro k i hd hk
    obtain ⟨k, rfl⟩ := succ_of (show 0 < k by omega)
    simp only [spec_l3Path.l0]
    rw [if_neg (by omega), spec_l1In_f, Option.bind_some, List.drop_eq_nil_of_le (by rw [B_len]; omega), show (1 : Int) = ((1 : Nat) : Int) from rfl, show (60 : Int) = ((60 : Nat) : Int) from rfl, in_range]
    by_cases h : 1 ≤ s.size ∧ s.size ≤ 60
    · rw [if_pos (decide_eq_true h), if_pos (by omega), decide_eq_true h]
      refine congrArg some ?_
      rw [Bool.eq_iff_iff]; simp [fromD]
    · rw [if_neg (by simpa using h), decide_eq_false h]; simp
  | succ d ih =>
    intro k i hd hk
    obtain ⟨k, rfl⟩ := succ_of (show 0 < k by omega)
    have hl : i < (B s).length := by rw [B_len]; omega
    simp only [spec_l3Path.l0]
    rw [if_pos (by omega), if_pos (by omega), bt_get s i hl, nat_round (n := s.size) (by omega) (by omega), drop_at hl]
    unfold fromD
    rw [List.all_cons]
    by_cases h1 : ((B s)[i].toNat : Int) < 33
    · rw [if_pos h1, decide_eq_false (by omega)]; simp
    · rw [if_neg h1]
      by_cases h2 : ((B s)[i].toNat : Int) > 126
      · rw [if_pos h2, decide_eq_false (by omega)]; simp
      · rw [if_neg h2, decide_eq_true (by omega), Bool.true_and, ih k (i + 1) (by omega) (by omega)]; rfl
theorem spec_l3Path_f {k : Nat} {s : ByteArray} (hs : (s.size : Int) ≤ 4611686018427387904) (hk : s.size < k) : spec_l3Path.f k s = some (pathB s) := by
  unfold spec_l3Path.f
  rw [show (0 : Int) = ((0 : Nat) : Int) from rfl, spec_l3Path_l0 s hs s.size k 0 (by omega) (by omega), List.drop_zero]
  unfold pathB
  refine congrArg some ?_
  show (fromB 33 s && _) = _
  cases fromB 33 s <;> simp
theorem impl_pathOk_f {k : Nat} {s : ByteArray} (hs : (s.size : Int) ≤ 4611686018427387904) (hk : s.size < k) : impl_pathOk.f k s = some (pathB s) := by
  unfold impl_pathOk.f pathB
  rw [impl_inRange_f, Option.bind_some, show (1 : Int) = ((1 : Nat) : Int) from rfl, show (60 : Int) = ((60 : Nat) : Int) from rfl, in_range]
  by_cases h : 1 ≤ s.size ∧ s.size ≤ 60
  · rw [if_pos (decide_eq_true h), if_pos (by omega), decide_eq_true h, Bool.true_and]
    by_cases h2 : bt s 0 = 47
    · rw [if_pos h2, impl_areFrom_f hs hk, Option.bind_some, decide_eq_true h2, Bool.true_and]
    · rw [if_neg h2, decide_eq_false h2, Bool.false_and]
  · rw [if_neg (by simpa using h), decide_eq_false h]; simp
/-! ### FieldsOk -/
def lenName (s : ByteArray) : Bool := decide (s.toList = [99, 111, 110, 116, 101, 110, 116, 45, 108, 101, 110, 103, 116, 104])
def okFs (l : List S46) : Nat → List S46 → Bool
  | _, [] => decide (l.length ≤ 8)
  | i, x :: r => tokB x.f0 && (valB x.f1 && (!lenName x.f0 && (decide (at_ x.f0 l 0 = (i : Int)) && okFs l (i + 1) r)))
def fieldsB (l : List S46) : Bool := okFs l 0 l
/-- a list of fields of at most K of anything -/
def SmallF (K : Nat) (l : List S46) : Prop := l.length ≤ K ∧ ∀ x ∈ l, x.f0.size ≤ K ∧ x.f1.size ≤ K
theorem FieldsOk_l0 (K : Nat) (hK : K < 4398046511104) (l : List S46) (hl : SmallF K l) : ∀ (d k i : Nat), l.length = i + d → d + 4 * K + 4 < k →
    spec_FieldsOk.l0 k l i = some (okFs l i (l.drop i)) ∧ impl_FieldsOk.l0 k l l (l.length : Int) i = some (okFs l i (l.drop i)) := by
  obtain ⟨hn, hx⟩ := hl
  intro d
  induction d with
  | zero =>
    intro k i hd hk
    obtain ⟨k, rfl⟩ := succ_of (show 0 < k by omega)
    simp only [spec_FieldsOk.l0, impl_FieldsOk.l0]
    have h8 : decide ((l.length : Int) ≤ 8) = decide (l.length ≤ 8) := decide_eq_decide.2 (by omega)
    rw [if_neg (by omega), if_neg (by omega), List.drop_eq_nil_of_le (by omega), okFs, h8]
    exact ⟨rfl, rfl⟩
  | succ d ih =>
    intro k i hd hk
    obtain ⟨k, rfl⟩ := succ_of (show 0 < k by omega)
    have hlt : i < l.length := by omega
    obtain ⟨s0, s1⟩ := hx _ (List.getElem_mem hlt)
    obtain ⟨i1, i2⟩ := ih k (i + 1) (by omega) (by omega)
    simp only [spec_FieldsOk.l0, impl_FieldsOk.l0]
    rw [rd_F l i hlt, nat_round (n := l.length) hlt (by omega), drop_at hlt, okFs]
    refine ⟨?_, ?_⟩
    · rw [if_pos (by omega), if_pos (by omega), spec_TokenOk_f (by omega) (by omega), Option.bind_some]
      cases tokB l[i].f0
      · rfl
      rw [if_pos rfl, spec_ValueOk_f (by omega) (by omega), Option.bind_some]
      cases valB l[i].f1
      · rfl
      rw [if_pos rfl, spec_l2At_f (by omega) (by omega), Option.bind_some]
      unfold lenName
      by_cases ha : at_ l[i].f0 l 0 = (i : Int)
      · rw [if_pos ha, decide_eq_true ha]
        by_cases hL : l[i].f0.toList = [99, 111, 110, 116, 101, 110, 116, 45, 108, 101, 110, 103, 116, 104]
        · rw [if_pos hL, decide_eq_true hL]; rfl
        · rw [if_neg hL, decide_eq_false hL, i1]; rfl
      · rw [if_neg ha, decide_eq_false ha]; simp
    · rw [if_pos (by omega), if_pos (by omega), if_pos (by omega), impl_TokenOk_f (by omega) (by omega), Option.bind_some]
      cases tokB l[i].f0
      · rfl
      rw [if_pos rfl, impl_ValueOk_f (by omega) (by omega), Option.bind_some]
      cases valB l[i].f1
      · rfl
      rw [if_pos rfl]
      unfold lenName
      by_cases hL : l[i].f0.toList = [99, 111, 110, 116, 101, 110, 116, 45, 108, 101, 110, 103, 116, 104]
      · rw [if_pos hL, decide_eq_true hL]; rfl
      rw [if_neg hL, decide_eq_false hL, impl_fieldAt_f (by omega), Option.bind_some]
      by_cases ha : at_ l[i].f0 l 0 = (i : Int)
      · rw [if_pos ha, decide_eq_true ha, i2]; rfl
      · rw [if_neg ha, decide_eq_false ha]; rfl
theorem spec_FieldsOk_f {k K : Nat} {l : List S46} (hK : K < 4398046511104) (hl : SmallF K l) (hk : 5 * K + 4 < k) : spec_FieldsOk.f k l = some (fieldsB l) := by
  have := (FieldsOk_l0 K hK l hl l.length k 0 (by omega) (by have := hl.1; omega)).1
  simpa [spec_FieldsOk.f, fieldsB] using this
theorem impl_FieldsOk_f {k K : Nat} {l : List S46} (hK : K < 4398046511104) (hl : SmallF K l) (hk : 5 * K + 4 < k) : impl_FieldsOk.f k l = some (fieldsB l) := by
  have := (FieldsOk_l0 K hK l hl l.length k 0 (by omega) (by have := hl.1; omega)).2
  simpa [impl_FieldsOk.f, fieldsB] using this
theorem le120 (b : ByteArray) : decide ((b.size : Int) ≤ 120) = decide (b.size ≤ 120) := decide_eq_decide.2 (by omega)
def reqB (m : Int) (p : ByteArray) (l : List S46) (b : ByteArray) : Bool := decide (1 ≤ m ∧ m ≤ 4) && (pathB p && (decide (b.size ≤ 120) && fieldsB l))
theorem spec_ReqOk_f {k K : Nat} {m : Int} {p : ByteArray} {l : List S46} {b : ByteArray} (hK : K < 4398046511104) (hp : p.size ≤ K) (hl : SmallF K l) (hk : 5 * K + 4 < k) : spec_ReqOk.f k m p l b = some (reqB m p l b) := by
  unfold spec_ReqOk.f reqB
  rw [spec_l1In_f, Option.bind_some]
  by_cases h : 1 ≤ m ∧ m ≤ 4
  · rw [if_pos (decide_eq_true h), decide_eq_true h, spec_l3Path_f (by omega) (by omega), Option.bind_some]
    cases pathB p
    · rfl
    rw [if_pos rfl, spec_FieldsOk_f hK hl hk, Option.bind_some, le120]
    cases fieldsB l <;> simp
  · rw [if_neg (by simpa using h), decide_eq_false h]; rfl
theorem impl_ReqOk_f {k K : Nat} {m : Int} {p : ByteArray} {l : List S46} {b : ByteArray} (hK : K < 4398046511104) (hp : p.size ≤ K) (hl : SmallF K l) (hk : 5 * K + 4 < k) : impl_ReqOk.f k m p l b = some (reqB m p l b) := by
  unfold impl_ReqOk.f reqB
  rw [impl_inRange_f, Option.bind_some]
  by_cases h : 1 ≤ m ∧ m ≤ 4
  · rw [if_pos (decide_eq_true h), decide_eq_true h, impl_pathOk_f (by omega) (by omega), Option.bind_some]
    cases pathB p
    · rfl
    rw [if_pos rfl]
    by_cases h2 : b.size ≤ 120
    · rw [if_pos (by omega), impl_FieldsOk_f hK hl hk, Option.bind_some, decide_eq_true h2]; rfl
    · rw [if_neg (by omega), decide_eq_false h2]; rfl
  · rw [if_neg (by simpa using h), decide_eq_false h]; rfl
theorem putF_small {K : Nat} {n v : ByteArray} (hn : n.size ≤ K) (hv : v.size ≤ K) : ∀ {l : List S46}, (∀ x ∈ l, x.f0.size ≤ K ∧ x.f1.size ≤ K) → ∀ x ∈ putF n v l, x.f0.size ≤ K ∧ x.f1.size ≤ K
  | [], _, x, hx => by simp only [putF, List.mem_singleton] at hx; rw [hx]; exact ⟨hn, hv⟩
  | y :: r, h, x, hx => by
    have hy := h y (by simp)
    have hr : ∀ x ∈ r, x.f0.size ≤ K ∧ x.f1.size ≤ K := fun x hx => h x (by simp [hx])
    simp only [putF] at hx
    split at hx
    · rcases List.mem_cons.1 hx with rfl | hx
      · exact ⟨hy.1, hv⟩
      · exact hr x hx
    · rcases List.mem_cons.1 hx with rfl | hx
      · exact hy
      · exact putF_small hn hv hr x hx
/-! ### draws: they end, and what they draw is small -/
theorem and255 (x : Int) : 0 ≤ Go.bits .and .i64 x 255 ∧ Go.bits .and .i64 x 255 ≤ 255 := by
  unfold Go.bits
  simp only
  have h : (BitVec.ofInt IntKind.i64.bits x &&& BitVec.ofInt IntKind.i64.bits 255).toNat ≤ 255 := by
    rw [BitVec.toNat_and]
    exact Nat.and_le_right
  rw [IntKind.wrap_i64]
  omega
theorem spec_l1Byte_f (l : List Int) (i h : Int) (h0 : 0 ≤ i) (hl : (l.length : Int) ≤ 4611686018427387904) (hi : i ≤ l.length) : ∃ v i' h', spec_l1Byte.f l i h = some (v, i', h') ∧ 0 ≤ v ∧ v ≤ 255 ∧ 0 ≤ i' ∧ i' ≤ l.length := by
  unfold spec_l1Byte.f
  split
  · try rw [if_pos h0]
    refine ⟨_, _, _, rfl, (and255 _).1, (and255 _).2, ?_, ?_⟩ <;> rw [w64 (by omega)] <;> omega
  · exact ⟨_, _, _, rfl, (and255 _).1, (and255 _).2, h0, hi⟩
theorem spec_l1Below_f (l : List Int) (i h n : Int) (h0 : 0 ≤ i) (hl : (l.length : Int) ≤ 4611686018427387904) (hi : i ≤ l.length) : ∃ v i' h', spec_l1Below.f l i h n = some (v, i', h') ∧ 0 ≤ v ∧ (0 < n → v < n) ∧ (n ≤ 0 → v = 0) ∧ 0 ≤ i' ∧ i' ≤ l.length := by
  unfold spec_l1Below.f
  split
  · exact ⟨_, _, _, rfl, by omega, by omega, by omega, h0, hi⟩
  split
  · obtain ⟨v, i', h', e, v0, v1, i0, i1⟩ := spec_l1Byte_f l i h h0 hl hi
    rw [e, Option.bind_some, if_neg (by omega)]
    refine ⟨_, _, _, rfl, ?_, fun _ => ?_, by omega, i0, i1⟩
    · exact Int.tmod_nonneg _ v0
    · exact Int.tmod_lt_of_pos _ (by omega)
  · obtain ⟨v, i', h', e, v0, v1, i0, i1⟩ := spec_l1Byte_f l i h h0 hl hi
    rw [e, Option.bind_some]
    obtain ⟨v2, i2, h2, e2, v20, v21, i20, i21⟩ := spec_l1Byte_f l i' h' i0 hl i1
    simp only
    rw [e2, Option.bind_some]
    obtain ⟨v3, i3, h3, e3, v30, v31, i30, i31⟩ := spec_l1Byte_f l i2 h2 i20 hl i21
    simp only
    rw [e3, Option.bind_some]
    obtain ⟨v4, i4, h4, e4, v40, v41, i40, i41⟩ := spec_l1Byte_f l i3 h3 i30 hl i31
    simp only
    rw [e4, Option.bind_some, if_neg (by omega)]
    simp only
    rw [w64 (n := v * 16777216) (by omega), w64 (n := v2 * 65536) (by omega), w64 (n := v3 * 256) (by omega), w64 (n := v * 16777216 + v2 * 65536) (by omega), w64 (n := v * 16777216 + v2 * 65536 + v3 * 256) (by omega), w64 (n := v * 16777216 + v2 * 65536 + v3 * 256 + v4) (by omega)]
    refine ⟨_, _, _, rfl, ?_, fun _ => ?_, by omega, i40, i41⟩
    · exact Int.tmod_nonneg _ (by omega)
    · exact Int.tmod_lt_of_pos _ (by omega)
theorem spec_l1Pick_f (l : List Int) (i h : Int) (ts : List ByteArray) (h0 : 0 ≤ i) (hl : (l.length : Int) ≤ 4611686018427387904) (hi : i ≤ l.length) (hts : 0 < ts.length) : ∃ t i' h', spec_l1Pick.f l i h ts = some (t, i', h') ∧ t ∈ ts ∧ 0 ≤ i' ∧ i' ≤ l.length := by
  unfold spec_l1Pick.f
  obtain ⟨v, i', h', e, v0, v1, _, i0, i1⟩ := spec_l1Below_f l i h ts.length h0 hl hi
  have v2 := v1 (by omega)
  rw [e, Option.bind_some, if_pos v0, if_pos v2]
  obtain ⟨j, rfl⟩ : ∃ j : Nat, v = j := ⟨v.toNat, by omega⟩
  exact ⟨_, _, _, rfl, by simp only; rw [rd_B ts j (by omega)]; exact List.getElem_mem _, i0, i1⟩
theorem spec_l1New_l0 (l : List Int) (hl : (l.length : Int) ≤ 4611686018427387904) : ∀ (d k i : Nat) (h : Int), l.length = i + d → d < k → ∃ h', spec_l1New.l0 k l h i = some (l, 0, h') := by
  intro d
  induction d with
  | zero =>
    intro k i h hd hk
    obtain ⟨k, rfl⟩ := succ_of hk
    simp only [spec_l1New.l0]
    rw [if_neg (by omega)]
    exact ⟨_, rfl⟩
  | succ d ih =>
    intro k i h hd hk
    obtain ⟨k, rfl⟩ := succ_of hk
    simp only [spec_l1New.l0]
    rw [if_pos (by omega)]
    split
    · rw [if_pos (by omega), nat_round (n := l.length) (by omega) (by omega)]
      exact ih k (i + 1) _ (by omega) (by omega)
    · exact ⟨_, rfl⟩
theorem spec_l1New_f {k : Nat} {l : List Int} (hl : (l.length : Int) ≤ 4611686018427387904) (hk : l.length < k) : ∃ h', spec_l1New.f k l = some (l, 0, h') :=
  spec_l1New_l0 l hl l.length k 0 _ (by omega) hk
theorem strOfNums_size' (l : List Int) : (strOfNums l).size = l.length := by rw [← B_len, B_strOf, List.length_map]
theorem spec_l1DrawText_l0 (l : List Int) (hl : (l.length : Int) ≤ 4611686018427387904) : ∀ (d k n : Nat) (acc : List Int) (i h : Int), n + d = 14 → acc.length = n → 0 ≤ i → i ≤ l.length → d < k → ∃ t i' h', spec_l1DrawText.l0 k acc (n : Int) l i h = some (t, i', h') ∧ t.size ≤ 14 ∧ 0 ≤ i' ∧ i' ≤ l.length := by
  intro d
  induction d with
  | zero =>
    intro k n acc i h hd ha h0 hi hk
    obtain ⟨k, rfl⟩ := succ_of hk
    obtain ⟨v, i', h', e, v0, v1, _, i0, i1⟩ := spec_l1Below_f l i h 14 h0 hl hi
    have v2 := v1 (by omega)
    simp only [spec_l1DrawText.l0]
    rw [e, Option.bind_some]
    simp only
    rw [if_neg (by omega)]
    exact ⟨_, _, _, rfl, by rw [strOfNums_size']; omega, i0, i1⟩
  | succ d ih =>
    intro k n acc i h hd ha h0 hi hk
    obtain ⟨k, rfl⟩ := succ_of hk
    obtain ⟨v, i', h', e, v0, v1, _, i0, i1⟩ := spec_l1Below_f l i h 14 h0 hl hi
    simp only [spec_l1DrawText.l0]
    rw [e, Option.bind_some]
    simp only
    split
    · obtain ⟨t, i2, h2, e2, ht, i20, i21⟩ := spec_l1Pick_f l i' h' [⟨#[32]⟩, ⟨#[44]⟩, ⟨#[97]⟩, ⟨#[90]⟩, ⟨#[55]⟩, ⟨#[45]⟩, ⟨#[61]⟩, ⟨#[120]⟩, ⟨#[58]⟩, ⟨#[1]⟩, ⟨#[64]⟩, ⟨#[91]⟩] i0 hl i1 (by simp)
      have hs : t.size = 1 := by
        simp only [List.mem_cons, List.mem_nil_iff, or_false] at ht
        rcases ht with rfl | rfl | rfl | rfl | rfl | rfl | rfl | rfl | rfl | rfl | rfl | rfl <;> rfl
      rw [e2, Option.bind_some]
      simp only
      rw [if_pos (by omega), if_pos (by omega), w64 (by omega), show (n : Int) + 1 = ((n + 1 : Nat) : Int) by omega]
      exact ih k (n + 1) _ i2 h2 (by omega) (by simp [ha]) i20 i21 (by omega)
    · exact ⟨_, _, _, rfl, by rw [strOfNums_size']; omega, i0, i1⟩
theorem spec_l1DrawText_f {k : Nat} {l : List Int} {i h : Int} (hl : (l.length : Int) ≤ 4611686018427387904) (h0 : 0 ≤ i) (hi : i ≤ l.length) (hk : 20 < k) : ∃ t i' h', spec_l1DrawText.f k l i h = some (t, i', h') ∧ t.size ≤ 14 ∧ 0 ≤ i' ∧ i' ≤ l.length :=
  spec_l1DrawText_l0 l hl 14 k 0 [] i h (by omega) rfl h0 hi (by omega)
theorem spec_l1Once_f (l : List Int) (i h n : Int) (h0 : 0 ≤ i) (hl : (l.length : Int) ≤ 4611686018427387904) (hi : i ≤ l.length) : ∃ v i' h', spec_l1Once.f l i h n = some (v, i', h') ∧ 0 ≤ i' ∧ i' ≤ l.length := by
  unfold spec_l1Once.f
  obtain ⟨v, i', h', e, _, _, _, i0, i1⟩ := spec_l1Below_f l i h n h0 hl hi
  rw [e, Option.bind_some]
  exact ⟨_, _, _, rfl, i0, i1⟩
/-- the texts of a list are of at most K bytes -/
def allLe (K : Nat) (ts : List ByteArray) : Bool := ts.all fun t => Nat.ble t.size K
theorem allLe_mem {K : Nat} {ts : List ByteArray} (h : allLe K ts = true) {t : ByteArray} (ht : t ∈ ts) : t.size ≤ K := by
  unfold allLe at h
  rw [List.all_eq_true] at h
  exact Nat.le_of_ble_eq_true (h t ht)
theorem spec_l1Pick_le (l : List Int) (i h : Int) (K : Nat) (ts : List ByteArray) (h0 : 0 ≤ i) (hl : (l.length : Int) ≤ 4611686018427387904) (hi : i ≤ l.length) (hts : 0 < ts.length) (hk : allLe K ts = true) : ∃ t i' h', spec_l1Pick.f l i h ts = some (t, i', h') ∧ t.size ≤ K ∧ 0 ≤ i' ∧ i' ≤ l.length := by
  obtain ⟨t, i', h', e, ht, r⟩ := spec_l1Pick_f l i h ts h0 hl hi hts
  exact ⟨t, i', h', e, allLe_mem hk ht, r⟩
theorem pick_bind {α : Type} {l : List Int} {i h : Int} {K : Nat} {ts : List ByteArray} {F : ByteArray × Int × Int → Option α} {P : α → Prop} (h0 : 0 ≤ i) (hl : (l.length : Int) ≤ 4611686018427387904) (hi : i ≤ l.length) (hts : 0 < ts.length) (hk : allLe K ts = true)
    (hF : ∀ t i' h', t.size ≤ K → 0 ≤ i' → i' ≤ (l.length : Int) → ∃ r, F (t, i', h') = some r ∧ P r) : ∃ r, (spec_l1Pick.f l i h ts).bind F = some r ∧ P r := by
  obtain ⟨t, i', h', e, ht, j0, j1⟩ := spec_l1Pick_le l i h K ts h0 hl hi hts hk
  rw [e, Option.bind_some]
  exact hF t i' h' ht j0 j1
theorem ex3 {α β γ : Type} {o : Option (α × β × γ)} {P : α × β × γ → Prop} (h : ∃ r, o = some r ∧ P r) : ∃ a b c, o = some (a, b, c) ∧ P (a, b, c) := by
  obtain ⟨⟨a, b, c⟩, e, p⟩ := h; exact ⟨a, b, c, e, p⟩
theorem ex4 {α β γ δ : Type} {o : Option (α × β × γ × δ)} {P : α × β × γ × δ → Prop} (h : ∃ r, o = some r ∧ P r) : ∃ a b c d, o = some (a, b, c, d) ∧ P (a, b, c, d) := by
  obtain ⟨⟨a, b, c, d⟩, e, p⟩ := h; exact ⟨a, b, c, d, e, p⟩
theorem spec_l2DrawField_f (l : List Int) (i h : Int) (h0 : 0 ≤ i) (hl : (l.length : Int) ≤ 4611686018427387904) (hi : i ≤ l.length) : ∃ n v i' h', spec_l2DrawField.f l i h = some (n, v, i', h') ∧ n.size ≤ 26 ∧ v.size ≤ 26 ∧ 0 ≤ i' ∧ i' ≤ l.length := by
  refine ex4 (P := fun r : ByteArray × ByteArray × Int × Int => r.1.size ≤ 26 ∧ r.2.1.size ≤ 26 ∧ 0 ≤ r.2.2.1 ∧ r.2.2.1 ≤ (l.length : Int)) ?_
  unfold spec_l2DrawField.f
  obtain ⟨d, i1, h1, e, _, _, _, i10, i11⟩ := spec_l1Below_f l i h 9 h0 hl hi
  rw [e, Option.bind_some]
  dsimp only
  repeat' split
  iterate 7
    · exact pick_bind (K := 26) i10 hl i11 (by simp) (by rfl) (fun t i' h' ht j0 j1 => ⟨_, rfl, Nat.le_of_ble_eq_true rfl, ht, j0, j1⟩)
  · refine pick_bind (K := 26) i10 hl i11 (by simp) (by rfl) (fun n i2 h2 hn i20 i21 => ?_)
    dsimp only
    exact pick_bind (K := 26) i20 hl i21 (by simp) (by rfl) (fun t i' h' ht j0 j1 => ⟨_, rfl, hn, ht, j0, j1⟩)
theorem spec_l2DrawRight_l0 (l : List Int) (hl : (l.length : Int) ≤ 4611686018427387904) : ∀ (d k n : Nat) (acc : List S46) (i h : Int), n + d = 5 → acc.length ≤ n → (∀ x ∈ acc, x.f0.size ≤ 26 ∧ x.f1.size ≤ 26) → 0 ≤ i → i ≤ l.length → d + 8 < k → ∃ r i' h', spec_l2DrawRight.l0 k acc (n : Int) l i h = some (r, i', h') ∧ SmallF 26 r ∧ r.length ≤ 5 ∧ 0 ≤ i' ∧ i' ≤ l.length := by
  intro d
  induction d with
  | zero =>
    intro k n acc i h hd ha hx h0 hi hk
    obtain ⟨k, rfl⟩ := succ_of (show 0 < k by omega)
    obtain ⟨v, i', h', e, v0, v1, _, i0, i1⟩ := spec_l1Below_f l i h 5 h0 hl hi
    have v2 := v1 (by omega)
    simp only [spec_l2DrawRight.l0]
    rw [e, Option.bind_some]
    dsimp only
    rw [if_neg (by omega)]
    exact ⟨_, _, _, rfl, ⟨by omega, hx⟩, by omega, i0, i1⟩
  | succ d ih =>
    intro k n acc i h hd ha hx h0 hi hk
    obtain ⟨k, rfl⟩ := succ_of (show 0 < k by omega)
    obtain ⟨v, i1, h1, e, v0, v1, _, i10, i11⟩ := spec_l1Below_f l i h 5 h0 hl hi
    simp only [spec_l2DrawRight.l0]
    rw [e, Option.bind_some]
    dsimp only
    split
    · obtain ⟨fn, fv, i2, h2, e2, hn, hv, i20, i21⟩ := spec_l2DrawField_f l i1 h1 i10 hl i11
      rw [e2, Option.bind_some]
      dsimp only
      rw [spec_l2At_f (by omega) (by omega), Option.bind_some, w64 (by omega), show (n : Int) + 1 = ((n + 1 : Nat) : Int) by omega]
      split
      · rw [if_pos (by omega)]
        refine ih k (n + 1) _ i2 h2 (by omega) (by simp; omega) (fun x hx' => ?_) i20 i21 (by omega)
        rcases List.mem_append.1 hx' with hx' | hx'
        · exact hx x hx'
        · rw [List.mem_singleton.1 hx']; exact ⟨hn, hv⟩
      · exact ih k (n + 1) acc i2 h2 (by omega) (by omega) hx i20 i21 (by omega)
    · exact ⟨_, _, _, rfl, ⟨by omega, hx⟩, by omega, i10, i11⟩
theorem spec_l2DrawRight_f {k : Nat} {l : List Int} {i h : Int} (hl : (l.length : Int) ≤ 4611686018427387904) (h0 : 0 ≤ i) (hi : i ≤ l.length) (hk : 20 < k) : ∃ r i' h', spec_l2DrawRight.f k l i h = some (r, i', h') ∧ SmallF 26 r ∧ r.length ≤ 5 ∧ 0 ≤ i' ∧ i' ≤ l.length :=
  spec_l2DrawRight_l0 l hl 5 k 0 [] i h (by omega) (by simp) (fun x hx => by cases hx) h0 hi (by omega)
theorem spec_l2Draw_l0 (l : List Int) (hl : (l.length : Int) ≤ 4611686018427387904) : ∀ (d k : Nat) (acc : List S46) (i h : Int), acc.length + d = 9 → (∀ x ∈ acc, x.f0.size ≤ 26 ∧ x.f1.size ≤ 26) → 0 ≤ i → i ≤ l.length → d + 40 < k → ∃ r i' h', spec_l2Draw.l0 k acc l i h = some (r, i', h') ∧ SmallF 26 r ∧ 0 ≤ i' ∧ i' ≤ l.length := by
  intro d
  induction d with
  | zero =>
    intro k acc i h hd hx h0 hi hk
    obtain ⟨k, rfl⟩ := succ_of (show 0 < k by omega)
    obtain ⟨v, i', h', e, v0, v1, _, i0, i1⟩ := spec_l1Below_f l i h 2 h0 hl hi
    have v2 := v1 (by omega)
    simp only [spec_l2Draw.l0]
    rw [e, Option.bind_some]
    dsimp only
    rw [w64 (by omega), if_neg (by omega)]
    exact ⟨_, _, _, rfl, ⟨by omega, hx⟩, i0, i1⟩
  | succ d ih =>
    intro k acc i h hd hx h0 hi hk
    obtain ⟨k, rfl⟩ := succ_of (show 0 < k by omega)
    obtain ⟨v, i1, h1, e, v0, v1, _, i10, i11⟩ := spec_l1Below_f l i h 2 h0 hl hi
    have v2 := v1 (by omega)
    have nt := numT_size (acc.length : Int)
    simp only [spec_l2Draw.l0]
    rw [e, Option.bind_some]
    dsimp only
    rw [w64 (by omega)]
    split
    · rw [spec_NumText_f (by omega), Option.bind_some, if_pos (by omega), if_pos (by omega)]
      refine ih k _ i1 h1 (by simp; omega) (fun x hx' => ?_) i10 i11 (by omega)
      rcases List.mem_append.1 hx' with hx' | hx'
      · exact hx x hx'
      · rw [List.mem_singleton.1 hx']
        refine ⟨?_, Nat.le_of_ble_eq_true rfl⟩
        dsimp only
        rw [ByteArray.size_append]
        show 1 + (numT (acc.length : Int)).size ≤ 26
        omega
    · exact ⟨_, _, _, rfl, ⟨by omega, hx⟩, i10, i11⟩
theorem SmallF.snoc {K : Nat} {l : List S46} {x : S46} (h : SmallF K l) (hl : l.length < K) (h0 : x.f0.size ≤ K) (h1 : x.f1.size ≤ K) : SmallF K (l ++ [x]) := by
  refine ⟨by simp; omega, fun y hy => ?_⟩
  rcases List.mem_append.1 hy with hy | hy
  · exact h.2 y hy
  · rw [List.mem_singleton.1 hy]; exact ⟨h0, h1⟩
theorem spec_l2Draw_f {k : Nat} {l : List Int} {i h : Int} (hl : (l.length : Int) ≤ 4611686018427387904) (h0 : 0 ≤ i) (hi : i ≤ l.length) (hk : 60 < k) : ∃ r i' h', spec_l2Draw.f k l i h = some (r, i', h') ∧ SmallF 26 r ∧ 0 ≤ i' ∧ i' ≤ l.length := by
  unfold spec_l2Draw.f
  obtain ⟨r, i1, h1, e, hr, hr5, i10, i11⟩ := spec_l2DrawRight_f (k := k) (h := h) hl h0 hi (by omega)
  rw [e, Option.bind_some]
  dsimp only
  obtain ⟨d, i2, h2, e2, _, _, _, i20, i21⟩ := spec_l1Below_f l i1 h1 15 i10 hl i11
  rw [e2, Option.bind_some]
  dsimp only
  split
  · obtain ⟨n1, v1, i3, h3, e3, hn1, hv1, i30, i31⟩ := spec_l2DrawField_f l i2 h2 i20 hl i21
    rw [e3, Option.bind_some]
    dsimp only
    obtain ⟨n2, v2, i4, h4, e4, hn2, hv2, i40, i41⟩ := spec_l2DrawField_f l i3 h3 i30 hl i31
    rw [e4, Option.bind_some]
    dsimp only
    rw [Option.bind_some, if_pos (by simp; omega)]
    refine ⟨_, _, _, rfl, ?_, i40, i41⟩
    have h5 := (hr.snoc (x := ⟨n1, v1⟩) (by omega) hn1 hv1).snoc (x := ⟨n2, v2⟩) (by simp; omega) hn2 hv2
    rw [List.append_assoc] at h5
    exact h5
  split
  · refine ex3 (P := fun r : List S46 × Int × Int => SmallF 26 r.1 ∧ 0 ≤ r.2.1 ∧ r.2.1 ≤ (l.length : Int)) ?_
    refine pick_bind (K := 26) i20 hl i21 (by simp) (by rfl) (fun n1 i3 h3 hn1 i30 i31 => ?_)
    dsimp only
    refine pick_bind (K := 26) i30 hl i31 (by simp) (by rfl) (fun v1 i4 h4 hv1 i40 i41 => ?_)
    dsimp only
    rw [if_pos (by omega)]
    exact ⟨_, rfl, hr.snoc (x := ⟨n1, v1⟩) (by omega) hn1 hv1, i40, i41⟩
  split
  · exact spec_l2Draw_l0 l hl (9 - r.length) k r i2 h2 (by omega) hr.2 i20 i21 (by omega)
  · exact ⟨_, _, _, rfl, hr, i20, i21⟩
theorem okFs_facts (l : List S46) : ∀ (r : List S46) (i : Nat), okFs l i r = true → l.length ≤ 8 ∧ ∀ x ∈ r, tokB x.f0 = true ∧ valB x.f1 = true ∧ lenName x.f0 = false
  | [], i, h => ⟨of_decide_eq_true h, fun x hx => by cases hx⟩
  | y :: r, i, h => by
    simp only [okFs, Bool.and_eq_true] at h
    obtain ⟨h1, h2, h3, _, h5⟩ := h
    obtain ⟨g1, g2⟩ := okFs_facts l r (i + 1) h5
    refine ⟨g1, fun x hx => ?_⟩
    rcases List.mem_cons.1 hx with rfl | hx
    · exact ⟨h1, h2, by simpa using h3⟩
    · exact g2 x hx
theorem reqB_facts {m : Int} {p : ByteArray} {l : List S46} {b : ByteArray} (h : reqB m p l b = true) : (1 ≤ m ∧ m ≤ 4) ∧ pathB p = true ∧ b.size ≤ 120 ∧ fieldsB l = true := by
  unfold reqB at h
  simp only [Bool.and_eq_true] at h
  exact ⟨of_decide_eq_true h.1, h.2.1, of_decide_eq_true h.2.2.1, h.2.2.2⟩
/-! ### Ask -/
def tagN : ByteArray := ⟨#[101, 116, 97, 103]⟩
def askN : ByteArray := ⟨#[105, 102, 45, 110, 111, 110, 101, 45, 109, 97, 116, 99, 104]⟩
def askF (m : Int) (p : ByteArray) (q : List S46) (b : ByteArray) (l : List S46) : List S46 :=
  match getF tagN l with
  | some t => if reqB m p (putF askN t q) b = true then putF askN t q else dropF askN q
  | none => dropF askN q
theorem SmallF.put {K : Nat} {n v : ByteArray} {l : List S46} (h : SmallF K l) (hn : n.size ≤ K + 13) (hv : v.size ≤ K) : SmallF (K + 13) (putF n v l) := by
  have := putF_length n v l
  have := h.1
  exact ⟨by omega, putF_small (K := K + 13) hn (by omega) (fun x hx => by have := h.2 x hx; omega)⟩
theorem getF_le {K : Nat} {n v : ByteArray} : ∀ {l : List S46}, (∀ x ∈ l, x.f0.size ≤ K ∧ x.f1.size ≤ K) → getF n l = some v → v.size ≤ K
  | y :: r, h, e => by
    simp only [getF] at e
    split at e
    · rw [← Option.some.inj e]; exact (h y (by simp)).2
    · exact getF_le (fun x hx => h x (by simp [hx])) e
theorem askN_size : askN.size ≤ 13 := Nat.le_of_ble_eq_true rfl
theorem askF_length {K : Nat} {m : Int} {p b : ByteArray} {q l : List S46} (hq : q.length ≤ K) : (askF m p q b l).length ≤ K + 1 := by
  have h1 := dropF_length askN q
  unfold askF
  split
  · rename_i t _
    have h2 := putF_length askN t q
    split <;> omega
  · omega
theorem spec_Ask_f {k K : Nat} {m : Int} {p b : ByteArray} {q l : List S46} (hK : K ≤ 1099511627776) (hp : p.size ≤ K) (hq : SmallF K q) (hl : SmallF K l) (hk : 5 * K + 90 < k) : spec_Ask.f k m p q b l = some (m, p, askF m p q b l, b) := by
  have hq1 := hq.1
  have hl1 := hl.1
  unfold spec_Ask.f askF
  rw [spec_Get_f (by omega) (by omega), Option.bind_some]
  show (if (getF tagN l).isSome = true then (spec_Put.f k q askN ((getF tagN l).getD ⟨#[]⟩)).bind _ else (spec_Drop.f k q askN).bind _) = _
  cases h : getF tagN l with
  | none =>
    rw [if_neg (by simp), spec_Drop_f (by omega) (by omega), Option.bind_some]
  | some t =>
    have ht := getF_le hl.2 h
    rw [if_pos (by simp), Option.getD_some, spec_Put_f (by omega) (by omega), Option.bind_some, spec_ReqOk_f (K := K + 13) (by omega) (by omega) (hq.put (by have := askN_size; omega) ht) (by omega), Option.bind_some]
    dsimp only
    by_cases hr : reqB m p (putF askN t q) b = true
    · rw [if_pos hr, if_pos hr]
    · rw [if_neg hr, if_neg hr]
      show (spec_Drop.f k q askN).bind _ = _
      rw [spec_Drop_f (by omega) (by omega), Option.bind_some]
theorem impl_Ask_f {k K : Nat} {m : Int} {p b : ByteArray} {q l : List S46} (hK : K ≤ 1099511627776) (hp : p.size ≤ K) (hq : SmallF K q) (hl : SmallF K l) (hk : 5 * K + 90 < k) : impl_Ask.f k m p q b l = some (m, p, askF m p q b l, b) := by
  have hq1 := hq.1
  have hl1 := hl.1
  unfold impl_Ask.f askF impl_copyReq.f
  rw [impl_Get_f (by omega), Option.bind_some, slices_Clone_Field_f (by omega), Option.bind_some, Option.bind_some]
  dsimp only
  show (impl_Put.f q askN ((getF tagN l).getD ⟨#[]⟩)).bind (fun t => if (getF tagN l).isSome = true then _ else (impl_Drop.f q askN).bind _) = _
  rw [impl_Put_f (by omega), Option.bind_some]
  cases h : getF tagN l with
  | none =>
    rw [if_neg (by simp), impl_Drop_f (by omega), Option.bind_some]
  | some t =>
    have ht := getF_le hl.2 h
    rw [if_pos (by simp), Option.getD_some, impl_ReqOk_f (K := K + 13) (by omega) (by omega) (hq.put (by have := askN_size; omega) ht) (by omega), Option.bind_some]
    dsimp only
    by_cases hr : reqB m p (putF askN t q) b = true
    · rw [if_pos hr, if_pos hr]
    · rw [if_neg hr, if_neg hr]
      show (impl_Drop.f q askN).bind _ = _
      rw [impl_Drop_f (by omega), Option.bind_some]
theorem laws_sameFields_l0 (l : List S46) (hl : l.length ≤ 4398046511104) : ∀ (d k i : Nat), l.length = i + d → d < k → laws_sameFields.l0 k l l i = some true := by
  intro d
  induction d with
  | zero =>
    intro k i hd hk
    obtain ⟨k, rfl⟩ := succ_of hk
    simp only [laws_sameFields.l0]
    rw [if_neg (by omega)]
  | succ d ih =>
    intro k i hd hk
    obtain ⟨k, rfl⟩ := succ_of hk
    simp only [laws_sameFields.l0]
    rw [if_pos (by omega), if_pos (by omega), if_pos (by omega), if_neg (by simp), nat_round (n := l.length) (by omega) (by omega)]
    exact ih k (i + 1) (by omega) (by omega)
theorem laws_sameFields_f {k : Nat} {l : List S46} (hl : l.length ≤ 4398046511104) (hk : l.length < k) : laws_sameFields.f k l l = some true := by
  unfold laws_sameFields.f
  rw [if_pos rfl]
  exact laws_sameFields_l0 l hl l.length k 0 (by omega) hk
theorem getF_putF (n v : ByteArray) : ∀ l : List S46, getF n (putF n v l) = some v
  | [] => by simp [putF, getF]
  | x :: r => by
    by_cases h : x.f0 = n
    · simp [putF, getF, h]
    · simp [putF, getF, h, getF_putF n v r]
theorem getF_putF_ne {m n : ByteArray} (v : ByteArray) (hm : m ≠ n) : ∀ l : List S46, getF m (putF n v l) = getF m l
  | [] => by simp [putF, getF, Ne.symm hm]
  | x :: r => by
    by_cases h : x.f0 = n
    · have : x.f0 ≠ m := fun e => hm (e.symm.trans h)
      simp [putF, getF, h, Ne.symm hm]
    · by_cases h2 : x.f0 = m
      · simp [putF, getF, h2, hm]
      · simp [putF, getF, h, h2, getF_putF_ne v hm r]
theorem getF_none {n : ByteArray} : ∀ {l : List S46}, n ∉ l.map (·.f0) → getF n l = none
  | [], _ => rfl
  | x :: r, h => by
    rw [List.map_cons, List.mem_cons, not_or] at h
    rw [getF, if_neg (fun e => h.1 e.symm), getF_none h.2]
theorem getF_dropF (n : ByteArray) : ∀ {l : List S46}, (l.map (·.f0)).Nodup → getF n (dropF n l) = none
  | [], _ => rfl
  | x :: r, h => by
    rw [List.map_cons, List.nodup_cons] at h
    by_cases e : x.f0 = n
    · rw [dropF, if_pos e]; exact getF_none (e ▸ h.1)
    · rw [dropF, if_neg e, getF, if_neg e, getF_dropF n h.2]
theorem okFs_at (l : List S46) : ∀ (r : List S46) (i : Nat), okFs l i r = true → ∀ j (h : j < r.length), at_ r[j].f0 l 0 = ((i + j : Nat) : Int)
  | [], i, h, j, hj => absurd hj (Nat.not_lt_zero j)
  | x :: r, i, h, j, hj => by
    simp only [okFs, Bool.and_eq_true, decide_eq_true_eq] at h
    obtain ⟨_, _, _, h4, h5⟩ := h
    cases j with
    | zero => exact h4
    | succ j =>
      rw [List.getElem_cons_succ, okFs_at l r (i + 1) h5 j (by simpa using hj)]
      congr 1; omega
theorem fieldsB_nodup {l : List S46} (h : fieldsB l = true) : (l.map (·.f0)).Nodup := by
  have ha := okFs_at l l 0 h
  refine List.pairwise_iff_getElem.2 fun i j hi hj hij e => ?_
  rw [List.length_map] at hi hj
  rw [List.getElem_map, List.getElem_map] at e
  have h1 := ha i hi
  have h2 := ha j hj
  rw [e] at h1
  omega
theorem spec_l1PickInt_f (l : List Int) (i h : Int) (ts : List Int) (h0 : 0 ≤ i) (hl : (l.length : Int) ≤ 4611686018427387904) (hi : i ≤ l.length) (hts : 0 < ts.length) : ∃ t i' h', spec_l1PickInt.f l i h ts = some (t, i', h') ∧ t ∈ ts ∧ 0 ≤ i' ∧ i' ≤ l.length := by
  obtain ⟨v, i', h', e, v0, v1, _, i0, i1⟩ := spec_l1Below_f l i h ts.length h0 hl hi
  have v2 := v1 (by omega)
  unfold spec_l1PickInt.f
  rw [e, Option.bind_some]
  dsimp only
  rw [if_pos v0, if_pos v2]
  obtain ⟨u, rfl⟩ : ∃ u : Nat, v = u := ⟨v.toNat, by omega⟩
  rw [rd_I ts u (by omega)]
  exact ⟨_, _, _, rfl, List.getElem_mem (by omega), i0, i1⟩
/-! ### draws of messages: they end, and what they draw is small -/
theorem spec_l3DrawBody_f {k : Nat} {l : List Int} {i h : Int} (hl : (l.length : Int) ≤ 4611686018427387904) (h0 : 0 ≤ i) (hi : i ≤ l.length) (hk : 20 < k) : ∃ b i' h', spec_l3DrawBody.f k l i h = some (b, i', h') ∧ b.size ≤ 14 ∧ 0 ≤ i' ∧ i' ≤ l.length := by
  unfold spec_l3DrawBody.f
  obtain ⟨v, i1, h1, e, i10, i11⟩ := spec_l1Once_f l i h 2 h0 hl hi
  rw [e, Option.bind_some]
  dsimp only
  split
  · obtain ⟨t, i2, h2, e2, ht, i20, i21⟩ := spec_l1Pick_le l i1 h1 14 [(⟨#[]⟩ : ByteArray), (⟨#[104, 101, 108, 108, 111]⟩ : ByteArray), (⟨#[13, 10, 13, 10]⟩ : ByteArray), (⟨#[97, 0, 98]⟩ : ByteArray), (⟨#[111, 110, 101, 32, 116, 119, 111]⟩ : ByteArray)] i10 hl i11 (by decide) (by rfl)
    rw [e2, Option.bind_some]
    exact ⟨_, _, _, rfl, ht, i20, i21⟩
  · obtain ⟨t, i2, h2, e2, ht, i20, i21⟩ := spec_l1DrawText_f (k := k) (h := h1) hl i10 i11 hk
    rw [e2, Option.bind_some]
    exact ⟨_, _, _, rfl, ht, i20, i21⟩
theorem spec_l3DrawReq_l0 (l : List Int) (hl : (l.length : Int) ≤ 4611686018427387904) (m : Int) (p : ByteArray) : ∀ (d k n : Nat) (acc : List S46) (i h : Int), n + d = 3 → acc.length ≤ n → (∀ x ∈ acc, x.f0.size ≤ 26 ∧ x.f1.size ≤ 26) → 0 ≤ i → i ≤ l.length → d + 30 < k →
    ∃ r b i' h', spec_l3DrawReq.l0 k (n : Int) l i h m p acc (⟨#[]⟩ : ByteArray) = some (m, p, r, b, i', h') ∧ SmallF 26 r ∧ r.length ≤ 3 ∧ b.size ≤ 14 ∧ 0 ≤ i' ∧ i' ≤ l.length := by
  have fin : ∀ (k : Nat) (acc : List S46) (i h : Int), acc.length ≤ 3 → (∀ x ∈ acc, x.f0.size ≤ 26 ∧ x.f1.size ≤ 26) → 0 ≤ i → i ≤ l.length → 20 < k → ∃ r b i' h', (if m = 3 then ((spec_l3DrawBody.f k l i h).bind fun bt => (some (m, p, acc, bt.1, bt.2.1, bt.2.2))) else (some (m, p, acc, (⟨#[]⟩ : ByteArray), i, h))) = some (m, p, r, b, i', h') ∧ SmallF 26 r ∧ r.length ≤ 3 ∧ b.size ≤ 14 ∧ 0 ≤ i' ∧ i' ≤ l.length := by
    intro k acc i h ha hx h0 hi hk
    split
    · obtain ⟨b, i1, h1, e, hb, i10, i11⟩ := spec_l3DrawBody_f (k := k) (h := h) hl h0 hi hk
      rw [e, Option.bind_some]
      exact ⟨_, _, _, _, rfl, ⟨by omega, hx⟩, ha, hb, i10, i11⟩
    · exact ⟨_, _, _, _, rfl, ⟨by omega, hx⟩, ha, Nat.zero_le _, h0, hi⟩
  intro d
  induction d with
  | zero =>
    intro k n acc i h hd ha hx h0 hi hk
    obtain ⟨k, rfl⟩ := succ_of (show 0 < k by omega)
    obtain ⟨v, i1, h1, e, v0, v1, _, i10, i11⟩ := spec_l1Below_f l i h 4 h0 hl hi
    have v2 := v1 (by omega)
    simp only [spec_l3DrawReq.l0]
    rw [e, Option.bind_some]
    dsimp only
    rw [if_neg (by omega)]
    exact fin k acc i1 h1 (by omega) hx i10 i11 (by omega)
  | succ d ih =>
    intro k n acc i h hd ha hx h0 hi hk
    obtain ⟨k, rfl⟩ := succ_of (show 0 < k by omega)
    obtain ⟨v, i1, h1, e, v0, v1, _, i10, i11⟩ := spec_l1Below_f l i h 4 h0 hl hi
    have hr : wrap64 ((n : Int) + 1) = ((n + 1 : Nat) : Int) := by rw [w64 (by omega)]; omega
    have push : ∀ (f v : ByteArray) (i h : Int), f.size ≤ 26 → v.size ≤ 26 → 0 ≤ i → i ≤ l.length → ∃ r b i' h', spec_l3DrawReq.l0 k ((n + 1 : Nat) : Int) l i h m p (acc ++ [⟨f, v⟩]) (⟨#[]⟩ : ByteArray) = some (m, p, r, b, i', h') ∧ SmallF 26 r ∧ r.length ≤ 3 ∧ b.size ≤ 14 ∧ 0 ≤ i' ∧ i' ≤ l.length := fun f v i h hf hv h0 hi =>
      ih k (n + 1) _ i h (by omega) (by simp; omega) (fun x hx' => by
        rcases List.mem_append.1 hx' with hx' | hx'
        · exact hx x hx'
        · rw [List.mem_singleton.1 hx']; exact ⟨hf, hv⟩) h0 hi (by omega)
    simp only [spec_l3DrawReq.l0]
    rw [e, Option.bind_some]
    dsimp only
    split
    · obtain ⟨f, i2, h2, e2, hf, i20, i21⟩ := spec_l1Pick_le l i1 h1 26 [(⟨#[108, 97, 110, 103]⟩ : ByteArray), (⟨#[107, 105, 110, 100]⟩ : ByteArray), (⟨#[99, 97, 99, 104, 101, 45, 99, 111, 110, 116, 114, 111, 108]⟩ : ByteArray), (⟨#[105, 102, 45, 110, 111, 110, 101, 45, 109, 97, 116, 99, 104]⟩ : ByteArray), (⟨#[120, 45, 97]⟩ : ByteArray)] i10 hl i11 (by decide) (by rfl)
      rw [e2, Option.bind_some]
      dsimp only
      rw [spec_l2At_f (by omega) (by omega), Option.bind_some, hr]
      split
      · obtain ⟨w, i3, h3, e3, hw, i30, i31⟩ := spec_l1Pick_le l i2 h2 26 [(⟨#[100, 101]⟩ : ByteArray), (⟨#[101, 110]⟩ : ByteArray)] i20 hl i21 (by decide) (by rfl)
        rw [e3, Option.bind_some]
        dsimp only
        split
        · obtain ⟨w, i4, h4, e4, hw, i40, i41⟩ := spec_l1Pick_le l i3 h3 26 [(⟨#[120]⟩ : ByteArray), (⟨#[121]⟩ : ByteArray)] i30 hl i31 (by decide) (by rfl)
          rw [e4, Option.bind_some]
          dsimp only
          rw [if_pos (by omega)]
          exact push f w i4 h4 hf hw i40 i41
        · split
          · obtain ⟨w, i4, h4, e4, hw, i40, i41⟩ := spec_l1Pick_le l i3 h3 26 [(⟨#[110, 111, 45, 99, 97, 99, 104, 101]⟩ : ByteArray), (⟨#[110, 111, 45, 115, 116, 111, 114, 101]⟩ : ByteArray), (⟨#[109, 97, 120, 45, 97, 103, 101, 61, 51]⟩ : ByteArray)] i30 hl i31 (by decide) (by rfl)
            rw [e4, Option.bind_some]
            dsimp only
            rw [if_pos (by omega)]
            exact push f w i4 h4 hf hw i40 i41
          · split
            · obtain ⟨w, i4, h4, e4, hw, i40, i41⟩ := spec_l1Pick_le l i3 h3 26 [(⟨#[97]⟩ : ByteArray), (⟨#[98]⟩ : ByteArray)] i30 hl i31 (by decide) (by rfl)
              rw [e4, Option.bind_some]
              dsimp only
              rw [if_pos (by omega)]
              exact push f w i4 h4 hf hw i40 i41
            · rw [if_pos (by omega)]
              exact push f w i3 h3 hf hw i30 i31
      · exact ih k (n + 1) acc i2 h2 (by omega) (by omega) hx i20 i21 (by omega)
    · exact fin k acc i1 h1 (by omega) hx i10 i11 (by omega)
theorem spec_l3DrawReq_f {k : Nat} {l : List Int} {i h : Int} (hl : (l.length : Int) ≤ 4611686018427387904) (h0 : 0 ≤ i) (hi : i ≤ l.length) (hk : 40 < k) : ∃ m p r b i' h', spec_l3DrawReq.f k l i h = some (m, p, r, b, i', h') ∧ (1 ≤ m ∧ m ≤ 4) ∧ p.size ≤ 26 ∧ SmallF 26 r ∧ r.length ≤ 3 ∧ b.size ≤ 14 ∧ 0 ≤ i' ∧ i' ≤ l.length := by
  unfold spec_l3DrawReq.f
  obtain ⟨m, i1, h1, e, hm, i10, i11⟩ := spec_l1PickInt_f l i h [1, 1, 1, 1, 2, 3, 4] h0 hl hi (by decide)
  rw [e, Option.bind_some]
  dsimp only
  obtain ⟨p, i2, h2, e2, hp, i20, i21⟩ := spec_l1Pick_le l i1 h1 26 [(⟨#[47]⟩ : ByteArray), (⟨#[47, 97]⟩ : ByteArray), (⟨#[47, 97, 47, 98]⟩ : ByteArray), (⟨#[47, 98]⟩ : ByteArray)] i10 hl i11 (by decide) (by rfl)
  rw [e2, Option.bind_some]
  dsimp only
  obtain ⟨r, b, i3, h3, e3, hr, hr3, hb, i30, i31⟩ := spec_l3DrawReq_l0 l hl m p 3 k 0 [] i2 h2 (by omega) (by simp) (fun x hx => by cases hx) i20 i21 (by omega)
  refine ⟨m, p, r, b, i3, h3, e3, ?_, hp, hr, hr3, hb, i30, i31⟩
  simp only [List.mem_cons, List.mem_nil_iff, or_false] at hm
  omega
theorem spec_l3DrawResp_f {k : Nat} {l : List Int} {i h : Int} (hl : (l.length : Int) ≤ 4611686018427387904) (h0 : 0 ≤ i) (hi : i ≤ l.length) (hk : 60 < k) : ∃ m r b i' h', spec_l3DrawResp.f k l i h = some (m, r, b, i', h') ∧ SmallF 27 r ∧ r.length ≤ 6 ∧ b.size ≤ 14 ∧ 0 ≤ i' ∧ i' ≤ l.length := by
  unfold spec_l3DrawResp.f
  obtain ⟨m, i1, h1, e, hm, i10, i11⟩ := spec_l1PickInt_f l i h [200, 200, 200, 200, 404, 500, 304] h0 hl hi (by decide)
  rw [e, Option.bind_some]
  dsimp only
  obtain ⟨r, i2, h2, e2, hr, hr5, i20, i21⟩ := spec_l2DrawRight_f (k := k) (h := h1) hl i10 i11 (by omega)
  have hw : ∀ x ∈ r, x.f0.size ≤ 27 ∧ x.f1.size ≤ 27 := fun x hx => by have := hr.2 x hx; omega
  rw [e2, Option.bind_some]
  dsimp only
  obtain ⟨b, i3, h3, e3, hb, i30, i31⟩ := spec_l3DrawBody_f (k := k) (h := h2) hl i20 i21 (by omega)
  rw [e3, Option.bind_some]
  dsimp only
  obtain ⟨v, i4, h4, e4, i40, i41⟩ := spec_l1Once_f l i3 h3 2 i30 hl i31
  rw [e4, Option.bind_some]
  dsimp only
  split
  · obtain ⟨t, i5, h5, e5, ht, i50, i51⟩ := spec_l1Pick_le l i4 h4 27 [(⟨#[109, 97, 120, 45, 97, 103, 101, 61, 53]⟩ : ByteArray), (⟨#[109, 97, 120, 45, 97, 103, 101, 61, 50, 48]⟩ : ByteArray), (⟨#[109, 97, 120, 45, 97, 103, 101, 61, 57]⟩ : ByteArray)] i40 hl i41 (by decide) (by rfl)
    have hp := putF_length (⟨#[99, 97, 99, 104, 101, 45, 99, 111, 110, 116, 114, 111, 108]⟩ : ByteArray) t r
    rw [e5, Option.bind_some]
    dsimp only
    rw [spec_Put_f (by omega) (by omega), Option.bind_some]
    exact ⟨_, _, _, _, _, rfl, ⟨by omega, putF_small (by decide) (by omega) hw⟩, by omega, hb, i50, i51⟩
  · exact ⟨_, _, _, _, _, rfl, ⟨by omega, hw⟩, by omega, hb, i40, i41⟩
theorem spec_l3DrawBadResp_l0 (l : List Int) (hl : (l.length : Int) ≤ 4611686018427387904) (m : Int) (r : List S46) : ∀ (d k : Nat) (b : ByteArray) (i h : Int), b.size + d = 200 → 0 ≤ i → i ≤ l.length → d < k → ∃ b' i' h', spec_l3DrawBadResp.l0 k l i h m r b = some (m, r, b', i', h') ∧ b'.size ≤ 200 ∧ 0 ≤ i' ∧ i' ≤ l.length := by
  intro d
  induction d with
  | zero =>
    intro k b i h hd h0 hi hk
    obtain ⟨k, rfl⟩ := succ_of hk
    obtain ⟨v, i1, h1, e, v0, v1, _, i10, i11⟩ := spec_l1Below_f l i h 2 h0 hl hi
    have v2 := v1 (by omega)
    simp only [spec_l3DrawBadResp.l0]
    rw [e, Option.bind_some]
    dsimp only
    rw [w64 (by omega), if_neg (by omega)]
    exact ⟨_, _, _, rfl, by omega, i10, i11⟩
  | succ d ih =>
    intro k b i h hd h0 hi hk
    obtain ⟨k, rfl⟩ := succ_of hk
    obtain ⟨v, i1, h1, e, v0, v1, _, i10, i11⟩ := spec_l1Below_f l i h 2 h0 hl hi
    have v2 := v1 (by omega)
    simp only [spec_l3DrawBadResp.l0]
    rw [e, Option.bind_some]
    dsimp only
    rw [w64 (by omega)]
    split
    · rw [if_pos (by omega)]
      exact ih k _ i1 h1 (by rw [ByteArray.size_append]; show b.size + 1 + d = 200; omega) i10 i11 (by omega)
    · exact ⟨_, _, _, rfl, by omega, i10, i11⟩
theorem spec_l3DrawBadResp_f {k : Nat} {l : List Int} {i h : Int} (hl : (l.length : Int) ≤ 4611686018427387904) (h0 : 0 ≤ i) (hi : i ≤ l.length) (hk : 300 < k) : ∃ m r b i' h', spec_l3DrawBadResp.f k l i h = some (m, r, b, i', h') ∧ SmallF 27 r ∧ b.size ≤ 200 ∧ 0 ≤ i' ∧ i' ≤ l.length := by
  unfold spec_l3DrawBadResp.f
  obtain ⟨m, r, b, i1, h1, e, hr, _, hb, i10, i11⟩ := spec_l3DrawResp_f (k := k) (h := h) hl h0 hi (by omega)
  rw [e, Option.bind_some]
  dsimp only
  obtain ⟨v, i2, h2, e2, _, _, _, i20, i21⟩ := spec_l1Below_f l i1 h1 20 i10 hl i11
  rw [e2, Option.bind_some]
  dsimp only
  split
  · obtain ⟨t, i3, h3, e3, _, i30, i31⟩ := spec_l1PickInt_f l i2 h2 [99, 100, 599, 600, (-1)] i20 hl i21 (by decide)
    rw [e3, Option.bind_some]
    exact ⟨_, _, _, _, _, rfl, hr, by omega, i30, i31⟩
  · split
    · obtain ⟨fs, i3, h3, e3, hf, i30, i31⟩ := spec_l2Draw_f (k := k) (h := h2) hl i20 i21 (by omega)
      rw [e3, Option.bind_some]
      exact ⟨_, _, _, _, _, rfl, ⟨by have := hf.1; dsimp only; omega, fun x hx => by have := hf.2 x hx; omega⟩, by omega, i30, i31⟩
    · split
      · obtain ⟨b', i3, h3, e3, hb', i30, i31⟩ := spec_l3DrawBadResp_l0 l hl m r (200 - b.size) k b i2 h2 (by omega) i20 i21 (by omega)
        exact ⟨m, r, b', i3, h3, e3, hr, hb', i30, i31⟩
      · exact ⟨_, _, _, _, _, rfl, hr, by omega, i20, i21⟩
theorem spec_l3DrawBadReq_l0 (l : List Int) (hl : (l.length : Int) ≤ 4611686018427387904) (m : Int) (p : ByteArray) (r : List S46) : ∀ (d k : Nat) (b : ByteArray) (i h : Int), b.size + d = 200 → 0 ≤ i → i ≤ l.length → d < k → ∃ b' i' h', spec_l3DrawBadReq.l0 k l i h m p r b = some (m, p, r, b', i', h') ∧ b'.size ≤ 200 ∧ 0 ≤ i' ∧ i' ≤ l.length := by
  intro d
  induction d with
  | zero =>
    intro k b i h hd h0 hi hk
    obtain ⟨k, rfl⟩ := succ_of hk
    obtain ⟨v, i1, h1, e, v0, v1, _, i10, i11⟩ := spec_l1Below_f l i h 2 h0 hl hi
    have v2 := v1 (by omega)
    simp only [spec_l3DrawBadReq.l0]
    rw [e, Option.bind_some]
    dsimp only
    rw [w64 (by omega), if_neg (by omega)]
    exact ⟨_, _, _, rfl, by omega, i10, i11⟩
  | succ d ih =>
    intro k b i h hd h0 hi hk
    obtain ⟨k, rfl⟩ := succ_of hk
    obtain ⟨v, i1, h1, e, v0, v1, _, i10, i11⟩ := spec_l1Below_f l i h 2 h0 hl hi
    have v2 := v1 (by omega)
    simp only [spec_l3DrawBadReq.l0]
    rw [e, Option.bind_some]
    dsimp only
    rw [w64 (by omega)]
    split
    · rw [if_pos (by omega)]
      exact ih k _ i1 h1 (by rw [ByteArray.size_append]; show b.size + 1 + d = 200; omega) i10 i11 (by omega)
    · exact ⟨_, _, _, rfl, by omega, i10, i11⟩
theorem spec_l3DrawBadReq_f {k : Nat} {l : List Int} {i h : Int} (hl : (l.length : Int) ≤ 4611686018427387904) (h0 : 0 ≤ i) (hi : i ≤ l.length) (hk : 300 < k) : ∃ m p r b i' h', spec_l3DrawBadReq.f k l i h = some (m, p, r, b, i', h') ∧ p.size ≤ 61 ∧ SmallF 27 r ∧ b.size ≤ 200 ∧ 0 ≤ i' ∧ i' ≤ l.length := by
  unfold spec_l3DrawBadReq.f
  obtain ⟨m, p, r, b, i1, h1, e, _, hp, hr, _, hb, i10, i11⟩ := spec_l3DrawReq_f (k := k) (h := h) hl h0 hi (by omega)
  have hr' : SmallF 27 r := ⟨by have := hr.1; omega, fun x hx => by have := hr.2 x hx; omega⟩
  rw [e, Option.bind_some]
  dsimp only
  obtain ⟨v, i2, h2, e2, _, _, _, i20, i21⟩ := spec_l1Below_f l i1 h1 20 i10 hl i11
  rw [e2, Option.bind_some]
  dsimp only
  split
  · obtain ⟨t, i3, h3, e3, _, _, _, i30, i31⟩ := spec_l1Below_f l i2 h2 7 i20 hl i21
    rw [e3, Option.bind_some]
    exact ⟨_, _, _, _, _, _, rfl, by omega, hr', by omega, i30, i31⟩
  · split
    · obtain ⟨t, i3, h3, e3, ht, i30, i31⟩ := spec_l1Pick_le l i2 h2 61 [(⟨#[]⟩ : ByteArray), (⟨#[97]⟩ : ByteArray), (⟨#[47, 32, 98]⟩ : ByteArray), (⟨#[47, 127]⟩ : ByteArray), (⟨#[47, 48, 49, 50, 51, 52, 53, 54, 55, 56, 57, 48, 49, 50, 51, 52, 53, 54, 55, 56, 57, 48, 49, 50, 51, 52, 53, 54, 55, 56, 57, 48, 49, 50, 51, 52, 53, 54, 55, 56, 57, 48, 49, 50, 51, 52, 53, 54, 55, 56, 57, 48, 49, 50, 51, 52, 53, 54, 55, 56, 57]⟩ : ByteArray)] i20 hl i21 (by decide) (by rfl)
      rw [e3, Option.bind_some]
      exact ⟨_, _, _, _, _, _, rfl, ht, hr', by omega, i30, i31⟩
    · split
      · obtain ⟨fs, i3, h3, e3, hf, i30, i31⟩ := spec_l2Draw_f (k := k) (h := h2) hl i20 i21 (by omega)
        rw [e3, Option.bind_some]
        exact ⟨_, _, _, _, _, _, rfl, by omega, ⟨by have := hf.1; dsimp only; omega, fun x hx => by have := hf.2 x hx; omega⟩, by omega, i30, i31⟩
      · split
        · obtain ⟨b', i3, h3, e3, hb', i30, i31⟩ := spec_l3DrawBadReq_l0 l hl m p r (200 - b.size) k b i2 h2 (by omega) i20 i21 (by omega)
          exact ⟨m, p, r, b', i3, h3, e3, by omega, hr', hb', i30, i31⟩
        · exact ⟨_, _, _, _, _, _, rfl, by omega, hr', by omega, i20, i21⟩
theorem spec_l9Draw_f {k : Nat} {l : List Int} (hl : (l.length : Int) ≤ 4611686018427387904) (hk : l.length + 300 < k) : ∃ m p q b st r rb, spec_l9Draw.f k l = some (m, p, q, b, st, r, rb) ∧ p.size ≤ 61 ∧ SmallF 27 q ∧ b.size ≤ 200 ∧ SmallF 27 r ∧ rb.size ≤ 200 := by
  unfold spec_l9Draw.f
  obtain ⟨h, e⟩ := spec_l1New_f (k := k) hl (by omega)
  rw [e, Option.bind_some]
  dsimp only
  obtain ⟨m, p, q, b, i1, h1, e1, hp, hq, hb, i10, i11⟩ := spec_l3DrawBadReq_f (k := k) (i := 0) (h := h) hl (by omega) (by omega) (by omega)
  rw [e1, Option.bind_some]
  dsimp only
  obtain ⟨st, r, rb, i2, h2, e2, hr, hrb, _⟩ := spec_l3DrawBadResp_f (k := k) (h := h1) hl i10 i11 (by omega)
  rw [e2, Option.bind_some]
  exact ⟨_, _, _, _, _, _, _, rfl, hp, hq, hb, hr, hrb⟩
theorem dropF_sub (n : ByteArray) : ∀ l : List S46, (dropF n l).Sublist l
  | [] => List.Sublist.refl _
  | x :: r => by
    rw [dropF]
    split
    · exact List.sublist_cons_self x r
    · exact (dropF_sub n r).cons_cons x
theorem dropF_SmallF {K : Nat} {n : ByteArray} {l : List S46} (h : SmallF K l) : SmallF K (dropF n l) :=
  ⟨Nat.le_trans (dropF_length n l) h.1, fun x hx => h.2 x ((dropF_sub n l).mem hx)⟩
theorem at_nodup : ∀ (l : List S46) (k i : Nat) (hi : i < l.length), (l.map (·.f0)).Nodup → at_ l[i].f0 l k = ((k + i : Nat) : Int)
  | x :: r, k, 0, _, _ => by rw [at_cons, List.getElem_cons_zero, if_pos rfl]; rfl
  | x :: r, k, i + 1, hi, hn => by
    rw [List.map_cons, List.nodup_cons] at hn
    have hi' : i < r.length := by simpa using hi
    rw [List.getElem_cons_succ, at_cons, if_neg (fun e => hn.1 (by rw [e]; exact List.mem_map.2 ⟨_, List.getElem_mem hi', rfl⟩)), at_nodup r (k + 1) i hi' hn.2]
    congr 1; omega
theorem okFs_of (l : List S46) (hl : l.length ≤ 8) (hn : (l.map (·.f0)).Nodup) : ∀ (r : List S46) (i : Nat), l.drop i = r → (∀ x ∈ r, tokB x.f0 = true ∧ valB x.f1 = true ∧ lenName x.f0 = false) → okFs l i r = true
  | [], i, _, _ => decide_eq_true hl
  | x :: r, i, hd, hx => by
    have h1 := hx x (by simp)
    have hi : i < l.length := by
      have := congrArg List.length hd
      rw [List.length_drop, List.length_cons] at this; omega
    rw [drop_at hi] at hd
    injection hd with h2 h3
    have hat := at_nodup l 0 i hi hn
    rw [h2, Nat.zero_add] at hat
    simp only [okFs, h1.1, h1.2.1, h1.2.2, decide_eq_true hat, okFs_of l hl hn r (i + 1) h3 (fun y hy => hx y (by simp [hy]))]
    rfl
theorem fieldsB_of {l : List S46} (hl : l.length ≤ 8) (hn : (l.map (·.f0)).Nodup) (hx : ∀ x ∈ l, tokB x.f0 = true ∧ valB x.f1 = true ∧ lenName x.f0 = false) : fieldsB l = true := okFs_of l hl hn l 0 rfl hx
theorem fieldsB_drop (n : ByteArray) {l : List S46} (h : fieldsB l = true) : fieldsB (dropF n l) = true := by
  obtain ⟨h1, h2⟩ := okFs_facts l l 0 h
  exact fieldsB_of (Nat.le_trans (dropF_length n l) h1) (List.Pairwise.sublist ((dropF_sub n l).map _) (fieldsB_nodup h)) (fun x hx => h2 x ((dropF_sub n l).mem hx))
theorem reqB_drop (n : ByteArray) {m : Int} {p : ByteArray} {l : List S46} {b : ByteArray} (h : reqB m p l b = true) : reqB m p (dropF n l) b = true := by
  unfold reqB at h ⊢
  simp only [Bool.and_eq_true] at h ⊢
  exact ⟨h.1, h.2.1, h.2.2.1, fieldsB_drop n h.2.2.2⟩
theorem spec_DrawSame_f {k : Nat} {l : List Int} (hl : (l.length : Int) ≤ 4611686018427387904) (hk : l.length + 300 < k) : ∃ m p q b r, spec_DrawSame.f k l = some (m, p, q, b, r) ∧ SmallF 27 q ∧ SmallF 27 r := by
  unfold spec_DrawSame.f
  obtain ⟨m, p, q, b, st, r, rb, e, _, hq, _, hr, _⟩ := spec_l9Draw_f hl hk
  rw [e, Option.bind_some]
  exact ⟨_, _, _, _, _, rfl, hq, hr⟩
theorem spec_DrawShort_f {k : Nat} {l : List Int} (hl : (l.length : Int) ≤ 4611686018427387904) (hk : l.length + 300 < k) : ∃ m r b, spec_DrawShort.f k l = some (m, r, b) ∧ SmallF 27 r := by
  unfold spec_DrawShort.f
  obtain ⟨h, e⟩ := spec_l1New_f (k := k) hl (by omega)
  rw [e, Option.bind_some]
  dsimp only
  obtain ⟨m, r, b, i1, h1, e1, hr, _⟩ := spec_l3DrawBadResp_f (k := k) (i := 0) (h := h) hl (by omega) (by omega) (by omega)
  rw [e1, Option.bind_some]
  exact ⟨_, _, _, rfl, hr⟩
theorem spec_DrawAsk_l0 (m : Int) (p : ByteArray) (b : ByteArray) (st : Int) (r : List S46) (rb : ByteArray) : ∀ (d k : Nat) (q : List S46), 8 - q.length = d → SmallF 27 q → d + 100 < k → ∃ q', spec_DrawAsk.l0 k m p q b st r rb = some (m, p, q', b, r) ∧ SmallF 27 q' := by
  intro d
  induction d with
  | zero =>
    intro k q hd hq hk
    obtain ⟨k, rfl⟩ := succ_of (show 0 < k by omega)
    have hql := hq.1
    simp only [spec_DrawAsk.l0]
    rw [if_neg (by omega), spec_Drop_f (by omega) (by omega), Option.bind_some]
    exact ⟨_, rfl, dropF_SmallF hq⟩
  | succ d ih =>
    intro k q hd hq hk
    obtain ⟨k, rfl⟩ := succ_of (show 0 < k by omega)
    have nt := numT_size (q.length : Int)
    simp only [spec_DrawAsk.l0]
    rw [if_pos (by omega), spec_NumText_f (by omega), Option.bind_some, if_pos (by omega), if_pos (by omega)]
    refine ih k _ (by simp; omega) ⟨by simp; omega, fun x hx => ?_⟩ (by omega)
    rcases List.mem_append.1 hx with hx | hx
    · exact hq.2 x hx
    · rw [List.mem_singleton.1 hx]
      refine ⟨?_, Nat.le_of_ble_eq_true rfl⟩
      dsimp only
      rw [ByteArray.size_append]
      show 1 + (numT (q.length : Int)).size ≤ 27
      omega
theorem spec_DrawAsk_f {k : Nat} {l : List Int} (hl : (l.length : Int) ≤ 4611686018427387904) (hk : l.length + 300 < k) : ∃ m p q b r, spec_DrawAsk.f k l = some (m, p, q, b, r) ∧ p.size ≤ 61 ∧ SmallF 27 q ∧ SmallF 27 r := by
  unfold spec_DrawAsk.f
  obtain ⟨m, p, q, b, st, r, rb, e, hp, hq, _, hr, _⟩ := spec_l9Draw_f hl hk
  rw [e, Option.bind_some]
  obtain ⟨h, e1⟩ := spec_l1New_f (k := k) hl (by omega)
  rw [e1, Option.bind_some]
  dsimp only
  obtain ⟨v, i2, h2, e2, _⟩ := spec_l1Once_f l 0 h 15 (by omega) hl (by omega)
  rw [e2, Option.bind_some]
  dsimp only
  split
  · obtain ⟨q', e3, hq'⟩ := spec_DrawAsk_l0 m p b st r rb (8 - q.length) k q rfl hq (by omega)
    exact ⟨m, p, q', b, r, e3, hp, hq', hr⟩
  · exact ⟨_, _, _, _, _, rfl, hp, hq, hr⟩

end Go.Proofs.YtjlpjbkpmmpojaaDoor.Pure
