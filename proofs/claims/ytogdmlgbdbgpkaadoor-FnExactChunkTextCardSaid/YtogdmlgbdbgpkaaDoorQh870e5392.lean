/- What the printed functions answer, in plain words: lemmas of this session. No condition of a statement lies here. -/
import Derived.Test.YtogdmlgbdbgpkaaDoorAllx0
import Derived.Test.YtogdmlgbdbgpkaaDoorAllx1
import Derived.Test.YtogdmlgbdbgpkaaDoorAllx11
namespace Go.Proofs.YtogdmlgbdbgpkaaDoor.Pure
open Go.RowKit Go.Proofs.YtogdmlgbdbgpkaaDoor.All Go.Proofs.YtogdmlgbdbgpkaaDoorW.PrintWords Go.Proofs.YtogdmlgbdbgpkaaDoorW.PrintLast
set_option linter.unusedVariables false
set_option linter.unusedSimpArgs false

/-! ### plain words on numbers, bytes, lists -/
theorem w64 {n : Int} (h : -9223372036854775808 ≤ n ∧ n ≤ 9223372036854775807) : wrap64 n = n := by unfold wrap64; omega
/-- a text's bytes -/
def B (s : ByteArray) : List UInt8 := s.data.toList
theorem B_len (s : ByteArray) : (B s).length = s.size := data_length s
theorem toList_B (s : ByteArray) : s.toList = B s := ByteArray.toList_eq s
theorem B_ext {a b : ByteArray} (h : B a = B b) : a = b := by
  cases a with | mk a => cases b with | mk b => unfold B at h; simp at h; rw [h]
theorem B_mk (l : List UInt8) : B ⟨l.toArray⟩ = l := by unfold B; simp
theorem toList_inj {a b : ByteArray} (h : a.toList = b.toList) : a = b := B_ext (by rw [← toList_B, ← toList_B, h])
theorem toList_iff (a b : ByteArray) : a.toList = b.toList ↔ a = b := ⟨toList_inj, fun h => by rw [h]⟩
theorem bt_get (s : ByteArray) (i : Nat) (h : i < (B s).length) : bt s (i : Int) = (((B s)[i]).toNat : Int) := by
  have h' : i < s.size := by rw [← B_len]; exact h
  unfold bt B
  simp [h']
  rfl
theorem B_append (a b : ByteArray) : B (a ++ b) = B a ++ B b := by
  unfold B; rw [ByteArray.data_append]; simp
theorem B_extract (s : ByteArray) (i j : Nat) : B (s.extract i j) = ((B s).take j).drop i := by
  unfold B; rw [ByteArray.data_extract]; simp [List.drop_take]
theorem B_empty : B (⟨#[]⟩ : ByteArray) = [] := rfl
/-- numbers as bytes -/
def oct (n : Int) : UInt8 := UInt8.ofNat n.toNat
theorem oct_nat (c : UInt8) : oct (c.toNat : Int) = c := by unfold oct; simp
theorem strOf (xs : List Int) : strOfNums xs = ⟨(xs.map oct).toArray⟩ := rfl
theorem B_strOf (xs : List Int) : B (strOfNums xs) = xs.map oct := by rw [strOf, B_mk]
theorem succ_of {k d : Nat} (h : d < k) : ∃ m, k = m + 1 := ⟨k - 1, by omega⟩
theorem drop_at {α : Type} {l : List α} {i : Nat} (h : i < l.length) : l.drop i = l[i] :: l.drop (i + 1) := List.drop_eq_getElem_cons h
theorem nat_round {i n : Nat} (h : i < n) (hn : (n : Int) ≤ 9223372036854775807) : wrap64 ((i : Int) + 1) = ((i + 1 : Nat) : Int) := by
  rw [w64 (by omega)]; omega
theorem ite_bool {b : Bool} {α : Type} {x y : α} : (if b = true then x else y) = bif b then x else y := by cases b <;> rfl
/-! ### lists of texts and of numbers -/
theorem rd_B (l : List ByteArray) (j : Nat) (h : j < l.length) : rdOf ByteArray.empty l (j : Int) = l[j] := by simp [rdOf, List.getD, h]
theorem rd_I (l : List Int) (j : Nat) (h : j < l.length) : rd l (j : Int) = l[j] := by simp [rd, List.getD, h]
theorem set_at {α : Type} (pre : List α) (y z : α) (rest : List α) : (pre ++ y :: rest).set ((pre.length : Int)).toNat z = pre ++ z :: rest := by
  rw [Int.toNat_natCast, List.set_append_right _ _ (by omega), Nat.sub_self, List.set_cons_zero]
theorem set_at' {α : Type} {i : Nat} (pre : List α) (y z : α) (rest : List α) (h : pre.length = i) : (pre ++ y :: rest).set ((i : Int)).toNat z = pre ++ z :: rest := by
  subst h; exact set_at pre y z rest
def hasB (s : ByteArray) (l : List ByteArray) : Bool := l.any fun x => decide (x = s)
theorem hasB_drop {l : List ByteArray} {i : Nat} (h : i < l.length) (s : ByteArray) : hasB s (l.drop i) = (decide (l[i] = s) || hasB s (l.drop (i + 1))) := by
  unfold hasB; rw [drop_at h, List.any_cons]
theorem drop_eq {α : Type} {a b : List α} {i : Nat} (ha : i < a.length) (hb : i < b.length) : a.drop i = b.drop i ↔ a[i] = b[i] ∧ a.drop (i + 1) = b.drop (i + 1) := by
  rw [drop_at ha, drop_at hb, List.cons.injEq]
theorem extract_all0 (s : ByteArray) : s.extract 0 s.size = s := ByteArray.extract_zero_size
/-! ### TokenOk -/
def tok1 (c : UInt8) : Bool := decide (97 ≤ c.toNat ∧ c.toNat ≤ 122 ∨ 48 ≤ c.toNat ∧ c.toNat ≤ 57 ∨ c.toNat = 45)
def tokB (s : ByteArray) : Bool := (B s).all tok1 && decide (1 ≤ s.size ∧ s.size ≤ 20)
theorem spec_l1In_f (x a b : Int) : spec_l1In.f x a b = some (decide (a ≤ x ∧ x ≤ b)) := by
  unfold spec_l1In.f
  by_cases h : x ≥ a <;> simp [h]
theorem impl_inRange_f (x a b : Int) : impl_inRange.f x a b = some (decide (a ≤ x ∧ x ≤ b)) := by
  unfold impl_inRange.f
  by_cases h : x ≥ a <;> simp [h]
theorem tok_round (k : Nat) (s : ByteArray) (i : Nat) (hs : (s.size : Int) ≤ 9223372036854775807) (hi : i < s.size) (hl : i < (B s).length) :
    spec_TokenOk.l0 (k + 1) s i = (if tok1 (B s)[i] then spec_TokenOk.l0 k s ((i + 1 : Nat) : Int) else some false) ∧ impl_TokenOk.l0 (k + 1) s i = (if tok1 (B s)[i] then impl_TokenOk.l0 k s ((i + 1 : Nat) : Int) else some false) := by
  have hw := nat_round (i := i) (n := s.size) hi hs
  simp only [spec_TokenOk.l0, impl_TokenOk.l0]
  rw [if_pos (by omega), if_pos (by omega), bt_get s i hl, hw]
  unfold tok1
  generalize ((B s)[i]).toNat = c
  constructor
  all_goals
    by_cases h : 97 ≤ c ∧ c ≤ 122 ∨ 48 ≤ c ∧ c ≤ 57 ∨ c = 45
    · simp only [decide_eq_true h, if_true]
      repeat' (split <;> try rfl)
      all_goals omega
    · simp only [decide_eq_false h, Bool.false_eq_true, if_false]
      repeat' (split <;> try rfl)
      all_goals omega
theorem tok_l0 (s : ByteArray) (hs : (s.size : Int) ≤ 9223372036854775807) : ∀ (d k i : Nat), s.size - i = d → i ≤ s.size → d < k →
    spec_TokenOk.l0 k s i = some (((B s).drop i).all tok1 && decide (1 ≤ s.size ∧ s.size ≤ 20)) ∧ impl_TokenOk.l0 k s i = some (((B s).drop i).all tok1 && decide (1 ≤ s.size ∧ s.size ≤ 20)) := by
  intro d
  induction d with
  | zero =>
    intro k i hd hi hk
    obtain ⟨k, rfl⟩ := succ_of hk
    simp only [spec_TokenOk.l0, impl_TokenOk.l0, spec_l1In_f, impl_inRange_f, Option.bind_some]
    have hni : ¬ ((i : Int) < (s.size : Int)) := by omega
    simp only [if_neg hni]
    rw [List.drop_eq_nil_of_le (by rw [B_len]; omega)]
    have : decide ((1 : Int) ≤ (s.size : Int) ∧ (s.size : Int) ≤ 20) = decide (1 ≤ s.size ∧ s.size ≤ 20) := decide_eq_decide.2 (by omega)
    rw [this]; simp
  | succ d ih =>
    intro k i hd hi hk
    obtain ⟨k, rfl⟩ := succ_of hk
    have hl : i < (B s).length := by rw [B_len]; omega
    obtain ⟨h1, h2⟩ := tok_round k s i hs (by omega) hl
    obtain ⟨i1, i2⟩ := ih k (i + 1) (by omega) (by omega) (by omega)
    rw [h1, h2, i1, i2, drop_at hl, List.all_cons]
    cases tok1 (B s)[i] <;> simp
theorem spec_TokenOk_f {k : Nat} {s : ByteArray} (hs : (s.size : Int) ≤ 9223372036854775807) (hk : s.size < k) : spec_TokenOk.f k s = some (tokB s) := (tok_l0 s hs s.size k 0 (by omega) (by omega) hk).1
theorem impl_TokenOk_f {k : Nat} {s : ByteArray} (hs : (s.size : Int) ≤ 9223372036854775807) (hk : s.size < k) : impl_TokenOk.f k s = some (tokB s) := (tok_l0 s hs s.size k 0 (by omega) (by omega) hk).2

end Go.Proofs.YtogdmlgbdbgpkaaDoor.Pure
