/- What the printed functions answer, in plain words: lemmas of this session. No condition of a statement lies here. -/
import Derived.Test.YtjlpjbkpmmpojaaGreatDoorKHitsAllx0
import Derived.Test.YtjlpjbkpmmpojaaGreatDoorKHitsAllx1
import Derived.Test.YtjlpjbkpmmpojaaGreatDoorKHitsAllx19
import Derived.Test.YtjlpjbkpmmpojaaGreatDoorKHitsAllx8
import Derived.Test.YtjlpjbkpmmpojaaGreatDoorKHitsAllx9
namespace Go.Proofs.YtjlpjbkpmmpojaaGreatDoor.Pure
open Go.RowKit Go.Proofs.YtjlpjbkpmmpojaaGreatDoor.All Go.Proofs.YtjlpjbkpmmpojaaGreatDoorW.PrintWords Go.Proofs.YtjlpjbkpmmpojaaGreatDoorW.PrintLast
set_option linter.unusedVariables false
set_option linter.unusedSimpArgs false

/-! ### plain words on numbers, bytes, lists -/
theorem w64 {n : Int} (h : -9223372036854775808 ≤ n ∧ n ≤ 9223372036854775807) : wrap64 n = n := by unfold wrap64; omega
/-- a text's bytes -/
def B (s : ByteArray) : List UInt8 := s.data.toList
theorem B_len (s : ByteArray) : (B s).length = s.size := data_length s
theorem toList_B (s : ByteArray) : s.toList = B s := ByteArray.toList_eq s
theorem B_ext {a b : ByteArray} (h : B a = B b) : a = b := by
  cases a with | mk a => cases b with | mk b => unfold B at h; simp at h; rw [h]
theorem B_mk (l : List UInt8) : B ⟨l.toArray⟩ = l := by unfold B; simp
theorem toList_inj {a b : ByteArray} (h : a.toList = b.toList) : a = b := B_ext (by rw [← toList_B, ← toList_B, h])
theorem toList_iff (a b : ByteArray) : a.toList = b.toList ↔ a = b := ⟨toList_inj, fun h => by rw [h]⟩
theorem bt_get (s : ByteArray) (i : Nat) (h : i < (B s).length) : bt s (i : Int) = (((B s)[i]).toNat : Int) := by
  have h' : i < s.size := by rw [← B_len]; exact h
  unfold bt B
  simp [h']
  rfl
theorem B_append (a b : ByteArray) : B (a ++ b) = B a ++ B b := by
  unfold B; rw [ByteArray.data_append]; simp
theorem B_extract (s : ByteArray) (i j : Nat) : B (s.extract i j) = ((B s).take j).drop i := by
  unfold B; rw [ByteArray.data_extract]; simp [List.drop_take]
theorem B_empty : B (⟨#[]⟩ : ByteArray) = [] := rfl
/-- numbers as bytes -/
def oct (n : Int) : UInt8 := UInt8.ofNat n.toNat
theorem oct_nat (c : UInt8) : oct (c.toNat : Int) = c := by unfold oct; simp
theorem strOf (xs : List Int) : strOfNums xs = ⟨(xs.map oct).toArray⟩ := rfl
theorem B_strOf (xs : List Int) : B (strOfNums xs) = xs.map oct := by rw [strOf, B_mk]
theorem succ_of {k d : Nat} (h : d < k) : ∃ m, k = m + 1 := ⟨k - 1, by omega⟩
theorem drop_at {α : Type} {l : List α} {i : Nat} (h : i < l.length) : l.drop i = l[i] :: l.drop (i + 1) := List.drop_eq_getElem_cons h
theorem nat_round {i n : Nat} (h : i < n) (hn : (n : Int) ≤ 9223372036854775807) : wrap64 ((i : Int) + 1) = ((i + 1 : Nat) : Int) := by
  rw [w64 (by omega)]; omega
/-! ### lists of texts and of numbers -/
theorem rd_B (l : List ByteArray) (j : Nat) (h : j < l.length) : rdOf ByteArray.empty l (j : Int) = l[j] := by simp [rdOf, List.getD, h]
theorem rd_I (l : List Int) (j : Nat) (h : j < l.length) : rd l (j : Int) = l[j] := by simp [rd, List.getD, h]
theorem set_at {α : Type} (pre : List α) (y z : α) (rest : List α) : (pre ++ y :: rest).set ((pre.length : Int)).toNat z = pre ++ z :: rest := by
  rw [Int.toNat_natCast, List.set_append_right _ _ (by omega), Nat.sub_self, List.set_cons_zero]
theorem drop_eq {α : Type} {a b : List α} {i : Nat} (ha : i < a.length) (hb : i < b.length) : a.drop i = b.drop i ↔ a[i] = b[i] ∧ a.drop (i + 1) = b.drop (i + 1) := by
  rw [drop_at ha, drop_at hb, List.cons.injEq]
theorem extract_all0 (s : ByteArray) : s.extract 0 s.size = s := ByteArray.extract_zero_size
/-! ### Lower -/
theorem spec_Lower_l0 (s : ByteArray) (hs : (s.size : Int) ≤ 140737488355327) : ∀ (d k i : Nat) (acc : List Int), s.size - i = d → i ≤ s.size → acc.length ≤ i → d < k →
    spec_Lower.l0 k s acc i = some ⟨(acc.map oct ++ ((B s).drop i).map low1).toArray⟩ := by
  intro d
  induction d with
  | zero =>
    intro k i acc hd hi ha hk
    obtain ⟨k, rfl⟩ := succ_of hk
    simp only [spec_Lower.l0]
    rw [if_neg (by omega), List.drop_eq_nil_of_le (by rw [B_len]; omega), strOf]; simp
  | succ d ih =>
    intro k i acc hd hi ha hk
    obtain ⟨k, rfl⟩ := succ_of hk
    have hl : i < (B s).length := by rw [B_len]; omega
    have hlen : acc.length < 140737488355328 := by omega
    have step : ∀ x : Int, oct x = low1 (B s)[i] → spec_Lower.l0 k s (acc ++ [x]) ((i + 1 : Nat) : Int) = some ⟨(acc.map oct ++ ((B s).drop i).map low1).toArray⟩ := fun x hx => by
      rw [ih k (i + 1) (acc ++ [x]) (by omega) (by omega) (by simp; omega) (by omega), drop_at hl, List.map_append, List.append_assoc, List.map_cons, List.map_cons, hx]
      rfl
    have hw := nat_round (i := i) (n := s.size) (by omega) (by omega)
    have hc := ((B s)[i]).toNat_lt
    simp only [spec_Lower.l0]
    rw [if_pos (by omega), if_pos (by omega), bt_get s i hl, hw]
    split
    · split
      · try rw [if_pos hlen]
        refine step _ ?_
        unfold low1 oct
        rw [if_pos (by omega), show ((((B s)[i]).toNat : Int) + 32) % 256 = ((((B s)[i]).toNat + 32 : Nat) : Int) by omega, Int.toNat_natCast]
      · try rw [if_pos hlen]
        exact step _ (by rw [oct_nat]; unfold low1; rw [if_neg (by omega)])
    · try rw [if_pos hlen]
      exact step _ (by rw [oct_nat]; unfold low1; rw [if_neg (by omega)])
def lowB (s : ByteArray) : ByteArray := ⟨((B s).map low1).toArray⟩
theorem B_lowB (s : ByteArray) : B (lowB s) = (B s).map low1 := B_mk _
theorem spec_Lower_f {k : Nat} {s : ByteArray} (hs : (s.size : Int) ≤ 140737488355327) (hk : s.size < k) : spec_Lower.f k s = some (lowB s) := by
  unfold spec_Lower.f
  have := spec_Lower_l0 s hs s.size k 0 [] (by omega) (by omega) (by simp) hk
  simpa [lowB] using this
theorem impl_Lower_f {s : ByteArray} (hs : (s.size : Int) ≤ 140737488355327) : impl_Lower.f s = some (lowB s) := by
  unfold impl_Lower.f
  rw [if_pos (by omega)]; rfl
/-! ### TokenOk -/
def tok1 (c : UInt8) : Bool := decide (97 ≤ c.toNat ∧ c.toNat ≤ 122 ∨ 48 ≤ c.toNat ∧ c.toNat ≤ 57 ∨ c.toNat = 45)
def tokB (s : ByteArray) : Bool := (B s).all tok1 && decide (1 ≤ s.size ∧ s.size ≤ 20)
theorem spec_l1In_f (x a b : Int) : spec_l1In.f x a b = some (decide (a ≤ x ∧ x ≤ b)) := by
  unfold spec_l1In.f
  by_cases h : x ≥ a <;> simp [h]
theorem impl_inRange_f (x a b : Int) : impl_inRange.f x a b = some (decide (a ≤ x ∧ x ≤ b)) := by
  unfold impl_inRange.f
  by_cases h : x ≥ a <;> simp [h]
theorem tok_round (k : Nat) (s : ByteArray) (i : Nat) (hs : (s.size : Int) ≤ 9223372036854775807) (hi : i < s.size) (hl : i < (B s).length) :
    spec_TokenOk.l0 (k + 1) s i = (if tok1 (B s)[i] then spec_TokenOk.l0 k s ((i + 1 : Nat) : Int) else some false) ∧ impl_TokenOk.l0 (k + 1) s i = (if tok1 (B s)[i] then impl_TokenOk.l0 k s ((i + 1 : Nat) : Int) else some false) := by
  have hw := nat_round (i := i) (n := s.size) hi hs
  simp only [spec_TokenOk.l0, impl_TokenOk.l0]
  rw [if_pos (by omega), if_pos (by omega), bt_get s i hl, hw]
  unfold tok1
  generalize ((B s)[i]).toNat = c
  constructor
  all_goals
    by_cases h : 97 ≤ c ∧ c ≤ 122 ∨ 48 ≤ c ∧ c ≤ 57 ∨ c = 45
    · simp only [decide_eq_true h, if_true]
      repeat' (split <;> try rfl)
      all_goals omega
    · simp only [decide_eq_false h, Bool.false_eq_true, if_false]
      repeat' (split <;> try rfl)
      all_goals omega
theorem tok_l0 (s : ByteArray) (hs : (s.size : Int) ≤ 9223372036854775807) : ∀ (d k i : Nat), s.size - i = d → i ≤ s.size → d < k →
    spec_TokenOk.l0 k s i = some (((B s).drop i).all tok1 && decide (1 ≤ s.size ∧ s.size ≤ 20)) ∧ impl_TokenOk.l0 k s i = some (((B s).drop i).all tok1 && decide (1 ≤ s.size ∧ s.size ≤ 20)) := by
  intro d
  induction d with
  | zero =>
    intro k i hd hi hk
    obtain ⟨k, rfl⟩ := succ_of hk
    simp only [spec_TokenOk.l0, impl_TokenOk.l0, spec_l1In_f, impl_inRange_f, Option.bind_some]
    have hni : ¬ ((i : Int) < (s.size : Int)) := by omega
    simp only [if_neg hni]
    rw [List.drop_eq_nil_of_le (by rw [B_len]; omega)]
    have : decide ((1 : Int) ≤ (s.size : Int) ∧ (s.size : Int) ≤ 20) = decide (1 ≤ s.size ∧ s.size ≤ 20) := decide_eq_decide.2 (by omega)
    rw [this]; simp
  | succ d ih =>
    intro k i hd hi hk
    obtain ⟨k, rfl⟩ := succ_of hk
    have hl : i < (B s).length := by rw [B_len]; omega
    obtain ⟨h1, h2⟩ := tok_round k s i hs (by omega) hl
    obtain ⟨i1, i2⟩ := ih k (i + 1) (by omega) (by omega) (by omega)
    rw [h1, h2, i1, i2, drop_at hl, List.all_cons]
    cases tok1 (B s)[i] <;> simp
theorem spec_TokenOk_f {k : Nat} {s : ByteArray} (hs : (s.size : Int) ≤ 9223372036854775807) (hk : s.size < k) : spec_TokenOk.f k s = some (tokB s) := (tok_l0 s hs s.size k 0 (by omega) (by omega) hk).1
theorem impl_TokenOk_f {k : Nat} {s : ByteArray} (hs : (s.size : Int) ≤ 9223372036854775807) (hk : s.size < k) : impl_TokenOk.f k s = some (tokB s) := (tok_l0 s hs s.size k 0 (by omega) (by omega) hk).2
/-! ### the first field of a name -/
def getF (n : ByteArray) : List S116 → Option ByteArray
  | [] => none
  | x :: r => if x.f0 = n then some x.f1 else getF n r
def putF (n v : ByteArray) : List S116 → List S116
  | [] => [⟨n, v⟩]
  | x :: r => if x.f0 = n then ⟨x.f0, v⟩ :: r else x :: putF n v r
def dropF (n : ByteArray) : List S116 → List S116
  | [] => []
  | x :: r => if x.f0 = n then r else x :: dropF n r
theorem at_cons (n : ByteArray) (x : S116) (r : List S116) (i : Nat) : at_ n (x :: r) i = if x.f0 = n then (i : Int) else at_ n r (i + 1) := by
  simp only [at_]
  by_cases h : x.f0 = n
  · rw [if_pos h, if_pos (by rw [h]; simp)]
  · rw [if_neg h, if_neg (by simpa using fun e => h (toList_inj e))]
/-- where it stands: nowhere, or at a place j -/
theorem at_cases (n v : ByteArray) : ∀ (l : List S116) (i : Nat), (at_ n l i = -1 ∧ getF n l = none ∧ putF n v l = l ++ [⟨n, v⟩] ∧ dropF n l = l) ∨
    ∃ j, ∃ h : j < l.length, at_ n l i = ((i + j : Nat) : Int) ∧ l[j].f0 = n ∧ getF n l = some l[j].f1 ∧ putF n v l = l.set j ⟨l[j].f0, v⟩ ∧ dropF n l = l.eraseIdx j
  | [], i => .inl ⟨rfl, rfl, rfl, rfl⟩
  | x :: r, i => by
    rw [at_cons]
    by_cases h : x.f0 = n
    · exact .inr ⟨0, by simp, by rw [if_pos h]; rfl, h, by simp [getF, h], by simp [putF, h], by simp [dropF, h]⟩
    · rw [if_neg h]
      rcases at_cases n v r (i + 1) with ⟨h1, h2, h3, h4⟩ | ⟨j, hj, h1, h0, h2, h3, h4⟩
      · exact .inl ⟨h1, by simp [getF, h, h2], by simp [putF, h, h3], by simp [dropF, h, h4]⟩
      · exact .inr ⟨j + 1, by simp; omega, by rw [h1]; congr 1; omega, by simpa using h0, by simp [getF, h, h2], by simp [putF, h, h3], by simp [dropF, h, h4]⟩
theorem impl_fieldAt_f {l : List S116} {n : ByteArray} (hl : l.length < 4398046511104) : impl_fieldAt.f l n = some (at_ n l 0) := by
  unfold impl_fieldAt.f; rw [if_pos hl]
theorem putF_length (n v : ByteArray) (l : List S116) : (putF n v l).length ≤ l.length + 1 := by
  rcases at_cases n v l 0 with ⟨_, _, h, _⟩ | ⟨j, hj, _, _, _, h, _⟩ <;> rw [h] <;> simp
theorem dropF_length (n : ByteArray) (l : List S116) : (dropF n l).length ≤ l.length := by
  rcases at_cases n n l 0 with ⟨_, _, _, h⟩ | ⟨j, hj, _, _, _, _, h⟩ <;> rw [h] <;> simp [List.length_eraseIdx] <;> split <;> omega
theorem spec_l2At_l0 (l : List S116) (n : ByteArray) (hl : (l.length : Int) ≤ 9223372036854775807) : ∀ (d k i : Nat), l.length - i = d → i ≤ l.length → d < k → spec_l2At.l0 k l n i = some (at_ n (l.drop i) i) := by
  intro d
  induction d with
  | zero =>
    intro k i hd hi hk
    obtain ⟨k, rfl⟩ := succ_of hk
    simp only [spec_l2At.l0]
    rw [if_neg (by omega), List.drop_eq_nil_of_le (by omega)]; rfl
  | succ d ih =>
    intro k i hd hi hk
    obtain ⟨k, rfl⟩ := succ_of hk
    have hlt : i < l.length := by omega
    have hx : rd_T116 l (i : Int) = l[i] := by simp [rd_T116, List.getD, hlt]
    simp only [spec_l2At.l0]
    rw [if_pos (by omega), if_pos (by omega), hx, nat_round hlt hl, ih k (i + 1) (by omega) (by omega) (by omega), drop_at hlt, at_cons]
    by_cases h : l[i].f0 = n
    · rw [if_pos h, if_pos (by rw [h])]
    · rw [if_neg h, if_neg (fun e => h (toList_inj e))]
theorem spec_l2At_f {k : Nat} {l : List S116} {n : ByteArray} (hl : (l.length : Int) ≤ 9223372036854775807) (hk : l.length < k) : spec_l2At.f k l n = some (at_ n l 0) := spec_l2At_l0 l n hl l.length k 0 (by omega) (by omega) hk
/-! ### Get, Put, Drop -/
theorem rd_F (l : List S116) (j : Nat) (h : j < l.length) : rd_T116 l (j : Int) = l[j] := by simp [rd_T116, List.getD, h]
theorem impl_Get_f {l : List S116} {n : ByteArray} (hl : l.length < 4398046511104) : impl_Get.f l n = some ((getF n l).getD ⟨#[]⟩, (getF n l).isSome) := by
  unfold impl_Get.f
  rw [impl_fieldAt_f hl, Option.bind_some]
  rcases at_cases n n l 0 with ⟨h1, h2, _, _⟩ | ⟨j, hj, h1, _, h2, _, _⟩
  · rw [h1, h2, if_pos (by omega)]; rfl
  · rw [h1, h2, if_neg (by omega), if_pos (by omega), if_pos (by omega), Nat.zero_add, rd_F l j hj]; rfl
theorem spec_Get_f {k : Nat} {l : List S116} {n : ByteArray} (hl : (l.length : Int) ≤ 9223372036854775807) (hk : l.length < k) : spec_Get.f k l n = some ((getF n l).getD ⟨#[]⟩, (getF n l).isSome) := by
  unfold spec_Get.f
  rw [spec_l2At_f hl hk, Option.bind_some]
  rcases at_cases n n l 0 with ⟨h1, h2, _, _⟩ | ⟨j, hj, h1, _, h2, _, _⟩
  · rw [h1, h2, if_pos (by omega)]; rfl
  · rw [h1, h2, if_neg (by omega), if_pos (by omega), if_pos (by omega), Nat.zero_add, rd_F l j hj]; rfl
/-! ### NumText -/
def numT (n : Int) : ByteArray := if 0 ≤ n ∧ n ≤ 1000000 then ⟨(Lib.itoa n).toArray⟩ else ⟨#[]⟩
theorem digit_of (u : Nat) : oct ((wrap64 (48 + Int.tmod (u : Int) 10)) % 256) = UInt8.ofNat (48 + u % 10) := by
  have h : Int.tmod (u : Int) 10 = ((u % 10 : Nat) : Int) := by rw [Int.tmod_eq_emod_of_nonneg (by omega)]; omega
  rw [h, w64 (by omega), show (48 + ((u % 10 : Nat) : Int)) % 256 = ((48 + u % 10 : Nat) : Int) by omega]
  unfold oct
  rw [Int.toNat_natCast]
theorem decDigits_len (u : Nat) : ∀ d, u < 10 ^ (d + 1) → (Lib.decDigits u).length ≤ d + 1 := by
  intro d
  induction d generalizing u with
  | zero => intro h; rw [Lib.decDigits, dif_pos (by omega)]; simp
  | succ d ih =>
    intro h
    rw [Lib.decDigits]
    split
    · simp
    · have h10 : (10 : Nat) ^ (d + 1 + 1) = 10 ^ (d + 1) * 10 := rfl
      have := ih (u / 10) (by omega)
      simp only [List.length_append, List.length_cons, List.length_nil]; omega
theorem itoa_nat (u : Nat) : Lib.itoa (u : Int) = Lib.decDigits u := by
  unfold Lib.itoa; rw [if_neg (by omega), Int.toNat_natCast]
theorem numT_size (t : Int) : (numT t).size ≤ 20 := by
  unfold numT
  split
  · rename_i h
    obtain ⟨u, rfl⟩ : ∃ u : Nat, t = u := ⟨t.toNat, by omega⟩
    have hl := decDigits_len u 6 (by omega)
    rw [itoa_nat, ← B_len, B_mk (Lib.decDigits u)]; omega
  · simp [ByteArray.size]
theorem spec_NumText_l0 : ∀ (d k u : Nat) (acc : ByteArray), u < 10 ^ d → acc.size + d ≤ 1000 → u ≤ 4611686018427387904 → d < k →
    spec_NumText.l0 k (u : Int) acc = some (if u = 0 then acc else ⟨(Lib.decDigits u ++ B acc).toArray⟩) := by
  intro d
  induction d with
  | zero =>
    intro k u acc hu ha hb hk
    obtain ⟨k, rfl⟩ := succ_of hk
    obtain rfl : u = 0 := by simp at hu; omega
    simp only [spec_NumText.l0]
    rw [if_neg (by omega), if_pos trivial]
  | succ d ih =>
    intro k u acc hu ha hb hk
    obtain ⟨k, rfl⟩ := succ_of hk
    simp only [spec_NumText.l0]
    by_cases h0 : u = 0
    · rw [if_neg (by omega), if_pos h0]
    have h10 : (10 : Nat) ^ (d + 1) = 10 ^ d * 10 := rfl
    rw [if_pos (by omega), Option.bind_some, if_pos (by rw [strOfNums_size]; simp; omega), if_neg h0]
    have hdiv : wrap64 (Int.tdiv (u : Int) 10) = ((u / 10 : Nat) : Int) := by
      rw [Int.tdiv_eq_ediv_of_nonneg (by omega), w64 (by omega)]; omega
    rw [hdiv, ih k (u / 10) _ (by omega) (by rw [ByteArray.size_append, strOfNums_size]; simp; omega) (by omega) (by omega)]
    refine congrArg some ?_
    have hB : B (strOfNums [(wrap64 (48 + Int.tmod (u : Int) 10)) % 256] ++ acc) = UInt8.ofNat (48 + u % 10) :: B acc := by
      rw [B_append, B_strOf, List.map_cons, List.map_nil, digit_of]; rfl
    split
    · rename_i h1
      apply B_ext
      rw [hB, B_mk (Lib.decDigits u ++ B acc), Lib.decDigits, dif_pos (by omega), show u % 10 = u by omega]
      rfl
    · rename_i h1
      apply B_ext
      rw [hB, B_mk (Lib.decDigits (u / 10) ++ _), B_mk (Lib.decDigits u ++ B acc)]
      conv => rhs; rw [Lib.decDigits]
      rw [dif_neg (by omega), List.append_assoc]
      rfl
theorem spec_NumText_f {k : Nat} {n : Int} (hk : 30 < k) : spec_NumText.f k n = some (numT n) := by
  unfold spec_NumText.f numT
  rw [spec_l1In_f, Option.bind_some]
  by_cases h : 0 ≤ n ∧ n ≤ 1000000
  · rw [if_pos (decide_eq_true h), if_pos h]
    obtain ⟨u, rfl⟩ : ∃ u : Nat, n = u := ⟨n.toNat, by omega⟩
    rw [itoa_nat]
    by_cases h0 : u = 0
    · subst h0
      rw [if_pos (show ((0 : Nat) : Int) = 0 from rfl), Lib.decDigits, dif_pos (by omega)]; rfl
    · rw [if_neg (by omega), spec_NumText_l0 20 k u _ (by omega) (by decide) (by omega) (by omega), if_neg h0, B_empty, List.append_nil]
  · rw [if_neg (by simpa using h), if_neg h]
/-! ### Trim -/
def trimT (s : ByteArray) : ByteArray := ⟨(Lib.trimB (B s) 32).toArray⟩
theorem oct32 (c : UInt8) : ((c.toNat : Int) = 32) ↔ c = 32 := by
  constructor
  · intro h
    have : c.toNat = (32 : UInt8).toNat := by show c.toNat = 32; omega
    exact UInt8.toNat_inj.1 this
  · rintro rfl; rfl
theorem spec_Trim_l1 (s : ByteArray) (hs : (s.size : Int) ≤ 4611686018427387904) (i : Nat) (hi : i ≤ s.size) : ∀ (d k m : Nat), m = i + d → m ≤ s.size → d < k → (∀ j (h : j < (B s).length), m ≤ j → (B s)[j] = 32) →
    ∃ n, i ≤ n ∧ n ≤ s.size ∧ spec_Trim.l1 k s i m = some (s.extract i n) ∧ (∀ j (h : j < (B s).length), n ≤ j → (B s)[j] = 32) ∧ (n = i ∨ ∀ (h : n - 1 < (B s).length), (B s)[n - 1] ≠ 32) := by
  intro d
  induction d with
  | zero =>
    intro k m hm hms hk hall
    obtain ⟨k, rfl⟩ := succ_of hk
    refine ⟨m, by omega, hms, ?_, hall, .inl (by omega)⟩
    simp only [spec_Trim.l1]
    rw [if_neg (by omega), if_pos (by omega), if_pos (by omega), if_pos (by omega), Int.toNat_natCast, Int.toNat_natCast]
  | succ d ih =>
    intro k m hm hms hk hall
    obtain ⟨k, rfl⟩ := succ_of hk
    have hl : m - 1 < (B s).length := by rw [B_len]; omega
    have hw : wrap64 ((m : Int) - 1) = ((m - 1 : Nat) : Int) := by rw [w64 (by omega)]; omega
    simp only [spec_Trim.l1]
    rw [hw, if_pos (by omega), if_pos (by omega), if_pos (by omega), bt_get s (m - 1) hl]
    by_cases c : (B s)[m - 1] = 32
    · rw [if_pos ((oct32 _).2 c)]
      refine ih k (m - 1) (by omega) (by omega) (by omega) (fun j h hj => ?_)
      by_cases e : j = m - 1
      · subst e; exact c
      · exact hall j h (by omega)
    · rw [if_neg (fun e => c ((oct32 _).1 e)), if_pos (by omega), if_pos (by omega), if_pos (by omega), Int.toNat_natCast, Int.toNat_natCast]
      exact ⟨m, by omega, hms, rfl, hall, .inr fun _ => c⟩
theorem trim_is (s : ByteArray) (i n : Nat) (hi : i ≤ n) (hn : n ≤ s.size) (h1 : ∀ j (h : j < (B s).length), j < i → (B s)[j] = 32) (h2 : ∀ h : i < (B s).length, (B s)[i] ≠ 32) (h3 : ∀ j (h : j < (B s).length), n ≤ j → (B s)[j] = 32) (h4 : n = i ∨ ∀ (h : n - 1 < (B s).length), (B s)[n - 1] ≠ 32) :
    s.extract i n = trimT s := by
  apply B_ext
  rw [B_extract]
  unfold trimT
  rw [B_mk (Lib.trimB (B s) 32)]
  have hlen := B_len s
  unfold Lib.trimB
  by_cases hi' : i < s.size
  · have hni : n ≠ i := fun e => h2 (by omega) (h3 i (by omega) (by omega))
    rw [Lib.trimRightB_take (B s) 32 n (by omega) (fun j b hj hb => by
      obtain ⟨hj', rfl⟩ := List.getElem?_eq_some_iff.1 hb
      exact h3 j hj' hj) (fun b _ hb => by
      obtain ⟨hj', rfl⟩ := List.getElem?_eq_some_iff.1 hb
      rcases h4 with h4 | h4
      · exact absurd h4 hni
      · exact h4 hj'),
      Lib.trimLeftB_drop ((B s).take n) 32 i (by rw [List.length_take]; omega) (fun j b hj hb => by
        rw [List.getElem?_take_of_lt (by omega)] at hb
        obtain ⟨hj', rfl⟩ := List.getElem?_eq_some_iff.1 hb
        exact h1 j hj' hj) (fun b hb => by
        rw [List.getElem?_take_of_lt (by omega)] at hb
        obtain ⟨hj', rfl⟩ := List.getElem?_eq_some_iff.1 hb
        exact h2 hj')]
  · rw [Lib.trimRightB_take (B s) 32 0 (by omega) (fun j b _ hb => by
      obtain ⟨hj', rfl⟩ := List.getElem?_eq_some_iff.1 hb
      exact h1 j hj' (by omega)) (fun b h _ => by omega)]
    rw [List.drop_eq_nil_of_le (by rw [List.length_take]; omega)]
    rfl
theorem spec_Trim_l0 (s : ByteArray) (hs : (s.size : Int) ≤ 4611686018427387904) : ∀ (d k i : Nat), s.size = i + d → d + s.size + 2 < k → (∀ j (h : j < (B s).length), j < i → (B s)[j] = 32) → spec_Trim.l0 k s i (s.size : Int) = some (trimT s) := by
  intro d
  have fin : ∀ (k i : Nat), i ≤ s.size → s.size + 1 < k → (∀ j (h : j < (B s).length), j < i → (B s)[j] = 32) → (∀ h : i < (B s).length, (B s)[i] ≠ 32) → spec_Trim.j1 k s i (s.size : Int) = some (trimT s) := by
    intro k i hi hk h1 h2
    obtain ⟨k, rfl⟩ := succ_of (show 0 < k by omega)
    simp only [spec_Trim.j1]
    obtain ⟨n, n1, n2, n3, n4, n5⟩ := spec_Trim_l1 s hs i hi (s.size - i) k s.size (by omega) (Nat.le_refl _) (by omega) (fun j h hj => by rw [B_len] at h; omega)
    rw [n3, trim_is s i n n1 n2 h1 h2 n4 n5]
  induction d with
  | zero =>
    intro k i hd hk hall
    obtain ⟨k, rfl⟩ := succ_of (show 0 < k by omega)
    simp only [spec_Trim.l0]
    rw [if_neg (by omega)]
    exact fin k i (by omega) (by omega) hall (fun h => by rw [B_len] at h; omega)
  | succ d ih =>
    intro k i hd hk hall
    obtain ⟨k, rfl⟩ := succ_of (show 0 < k by omega)
    have hl : i < (B s).length := by rw [B_len]; omega
    simp only [spec_Trim.l0]
    rw [if_pos (by omega), if_pos (by omega), if_pos (by omega), bt_get s i hl, nat_round (n := s.size) (by omega) (by omega)]
    by_cases c : (B s)[i] = 32
    · rw [if_pos ((oct32 _).2 c)]
      refine ih k (i + 1) (by omega) (by omega) (fun j h hj => ?_)
      by_cases e : j = i
      · subst e; exact c
      · exact hall j h (by omega)
    · rw [if_neg (fun e => c ((oct32 _).1 e))]
      exact fin k i (by omega) (by omega) hall (fun _ => c)
theorem spec_Trim_f {k : Nat} {s : ByteArray} (hs : (s.size : Int) ≤ 4611686018427387904) (hk : 2 * s.size + 2 < k) : spec_Trim.f k s = some (trimT s) :=
  spec_Trim_l0 s hs s.size k 0 (by omega) (by omega) (fun j _ hj => by omega)
theorem impl_Trim_f {s : ByteArray} (hs : (s.size : Int) ≤ 4611686018427387904) : impl_Trim.f s = some (trimT s) := by
  unfold impl_Trim.f strings_Trim.f
  rw [if_pos ⟨rfl, by omega⟩, Option.bind_some]
  rfl
/-! ### NumRead -/
def decV (acc : Nat) (l : List UInt8) : Nat := l.foldl (fun a c => a * 10 + (c.toNat - 48)) acc
def digs (l : List UInt8) : Bool := l.all fun c => decide (48 ≤ c.toNat ∧ c.toNat ≤ 57)
theorem decV_cons (acc : Nat) (c : UInt8) (r : List UInt8) : decV acc (c :: r) = decV (acc * 10 + (c.toNat - 48)) r := by unfold decV; rw [List.foldl_cons]
theorem decV_nil (acc : Nat) : decV acc [] = acc := by unfold decV; rw [List.foldl_nil]
theorem decV_append (a b : List UInt8) (acc : Nat) : decV acc (a ++ b) = decV (decV acc a) b := by
  induction a generalizing acc with
  | nil => rw [List.nil_append, decV_nil]
  | cons c r ih => rw [List.cons_append, decV_cons, decV_cons, ih]
theorem digit_nat (u : Nat) (h : u < 10) : (UInt8.ofNat (48 + u)).toNat = 48 + u := by
  exact UInt8.toNat_ofNat_of_lt' (by show 48 + u < 256; omega)
theorem dec_facts (u : Nat) : decV 0 (Lib.decDigits u) = u ∧ digs (Lib.decDigits u) = true ∧ Lib.decDigits u ≠ [] := by
  induction u using Nat.strongRecOn with
  | _ u ih =>
    rw [Lib.decDigits]
    split
    · rename_i h
      refine ⟨?_, ?_, by simp⟩
      · rw [decV_cons, decV_nil, digit_nat u h]; omega
      · simp only [digs, List.all_cons, List.all_nil]; rw [digit_nat u h, decide_eq_true (by omega)]; rfl
    · rename_i h
      obtain ⟨h1, h2, h3⟩ := ih (u / 10) (by omega)
      refine ⟨?_, ?_, by simp⟩
      · rw [decV_append, h1, decV_cons, decV_nil, digit_nat (u % 10) (by omega)]; omega
      · unfold digs at h2 ⊢
        rw [List.all_append, h2, List.all_cons, List.all_nil, digit_nat (u % 10) (by omega), decide_eq_true (by omega)]; rfl
theorem parse_digs : ∀ (l : List UInt8) (acc j : Nat), digs l = true → acc < 10 ^ j → j + l.length ≤ 18 → Lib.parseUint10 acc l = .ok (decV acc l)
  | [], acc, j, _, _, _ => by rw [decV_nil]; rfl
  | c :: r, acc, j, hd, ha, hj => by
    unfold digs at hd
    rw [List.all_cons, Bool.and_eq_true] at hd
    have hc := of_decide_eq_true hd.1
    simp only [List.length_cons] at hj
    have hp : (10 : Nat) ^ (j + 1) = 10 ^ j * 10 := rfl
    have hb : (10 : Nat) ^ j ≤ 10 ^ 17 := Nat.pow_le_pow_right (by omega) (by omega)
    simp only [Lib.parseUint10]
    rw [decV_cons, if_pos hc, if_neg (by omega), if_neg (by omega)]
    exact parse_digs r _ (j + 1) hd.2 (by omega) (by omega)
theorem atoi_dec (n : Nat) (h : n ≤ 1000000) : Lib.atoiAll (Lib.decDigits n) = .ok (n : Int) := by
  obtain ⟨h1, h2, h3⟩ := dec_facts n
  have hl := decDigits_len n 6 (by omega)
  have hp := parse_digs (Lib.decDigits n) 0 0 h2 (by omega) (by omega)
  rw [h1] at hp
  cases e : Lib.decDigits n with
  | nil => exact absurd e h3
  | cons c r =>
    rw [e] at hp h2
    unfold digs at h2
    rw [List.all_cons, Bool.and_eq_true] at h2
    have hc := of_decide_eq_true h2.1
    simp only [Lib.atoiAll]
    rw [if_neg (by omega)]
    unfold Lib.parseMag
    rw [if_neg (by simp), hp]
    simp only
    rw [if_neg (by omega), if_neg (by omega), if_neg (by omega)]
theorem numRead_yes {s : ByteArray} {n : Nat} (h : n ≤ 1000000) (hs : B s = Lib.decDigits n) : numRead s = ((n : Int), true) := by
  have hl := decDigits_len n 6 (by omega)
  rw [← hs, B_len] at hl
  unfold numRead
  rw [if_neg (by omega)]
  show (match Lib.atoiAll (B s) with | .ok n => if 0 ≤ n ∧ n ≤ 1000000 ∧ Lib.itoa n = B s then (n, true) else (0, false) | _ => (0, false)) = _
  rw [hs, atoi_dec n h]
  simp only
  rw [if_pos ⟨by omega, by omega, itoa_nat n⟩]
theorem numRead_no {s : ByteArray} (h : ∀ n : Nat, n ≤ 1000000 → B s ≠ Lib.decDigits n) : numRead s = (0, false) := by
  unfold numRead
  split
  · rfl
  split
  · rename_i n _
    rw [if_neg]
    rintro ⟨h1, h2, h3⟩
    obtain ⟨u, rfl⟩ : ∃ u : Nat, n = u := ⟨n.toNat, by omega⟩
    rw [itoa_nat] at h3
    exact h u (by omega) h3.symm
  · rfl
theorem spec_NumRead_l0 (s : ByteArray) (hs : s.size ≤ 7) : ∀ (d k i v : Nat), s.size = i + d → v < 10 ^ i → d + 40 < k →
    spec_NumRead.l0 k s v i = some (if digs ((B s).drop i) = true ∧ numT ((decV v ((B s).drop i) : Nat) : Int) = s then (((decV v ((B s).drop i) : Nat) : Int), true) else (0, false)) := by
  intro d
  induction d with
  | zero =>
    intro k i v hd hv hk
    obtain ⟨k, rfl⟩ := succ_of (show 0 < k by omega)
    simp only [spec_NumRead.l0]
    rw [if_neg (by omega), List.drop_eq_nil_of_le (by rw [B_len]; omega), spec_NumText_f (by omega), Option.bind_some, decV_nil]
    by_cases h : numT (v : Int) = s
    · rw [if_pos (by rw [h]), if_pos ⟨rfl, h⟩]
    · rw [if_neg (fun e => h (toList_inj e)), if_neg (fun e => h e.2)]
  | succ d ih =>
    intro k i v hd hv hk
    obtain ⟨k, rfl⟩ := succ_of (show 0 < k by omega)
    have hl : i < (B s).length := by rw [B_len]; omega
    have hp : (10 : Nat) ^ (i + 1) = 10 ^ i * 10 := rfl
    have hb : (10 : Nat) ^ i ≤ 10 ^ 7 := Nat.pow_le_pow_right (by omega) (by omega)
    simp only [spec_NumRead.l0]
    rw [if_pos (by omega), if_pos (by omega), bt_get s i hl, nat_round (n := s.size) (by omega) (by omega), drop_at hl, decV_cons]
    by_cases h1 : ((B s)[i].toNat : Int) < 48
    · rw [if_pos h1, if_neg]
      rintro ⟨e, _⟩
      unfold digs at e
      rw [List.all_cons, decide_eq_false (by omega)] at e
      exact Bool.noConfusion e
    rw [if_neg h1]
    by_cases h2 : ((B s)[i].toNat : Int) > 57
    · rw [if_pos h2, if_neg]
      rintro ⟨e, _⟩
      unfold digs at e
      rw [List.all_cons, decide_eq_false (by omega)] at e
      exact Bool.noConfusion e
    rw [if_neg h2, w64 (n := 10 * (v : Int)) (by omega), w64 (n := ((B s)[i].toNat : Int)) (by omega), w64 (n := 10 * (v : Int) + _) (by omega), w64 (by omega),
      show 10 * (v : Int) + ((B s)[i].toNat : Int) - 48 = ((v * 10 + ((B s)[i].toNat - 48) : Nat) : Int) by omega, ih k (i + 1) _ (by omega) (by omega) (by omega)]
    have hg : digs ((B s)[i] :: (B s).drop (i + 1)) = digs ((B s).drop (i + 1)) := by
      unfold digs
      rw [List.all_cons, decide_eq_true (by omega), Bool.true_and]
    rw [hg]
theorem spec_NumRead_f {k : Nat} {s : ByteArray} (hk : 60 < k) : spec_NumRead.f k s = some (numRead s) := by
  obtain ⟨k, rfl⟩ := succ_of (show 0 < k by omega)
  have hlenf : ∀ n : Nat, n ≤ 1000000 → B s = Lib.decDigits n → 1 ≤ s.size ∧ s.size ≤ 7 := fun n h e => by
    obtain ⟨_, _, h3⟩ := dec_facts n
    have hl := decDigits_len n 6 (by omega)
    have : 1 ≤ (Lib.decDigits n).length := by
      cases e : Lib.decDigits n with
      | nil => exact absurd e h3
      | cons c r => simp
    rw [← e, B_len] at hl this
    omega
  unfold spec_NumRead.f
  have e0 : (s.toList = []) ↔ s.size = 0 := by
    rw [toList_B]
    constructor
    · intro e; rw [← B_len, e]; rfl
    · intro e; exact List.eq_nil_of_length_eq_zero (by rw [B_len, e])
  by_cases h0 : s.size = 0
  · rw [if_pos (e0.2 h0)]
    simp only [spec_NumRead.j0]
    rw [if_pos trivial, numRead_no (fun n h e => by have := hlenf n h e; omega)]
  rw [if_neg (fun e => h0 (e0.1 e))]
  simp only [spec_NumRead.j0]
  by_cases h7 : s.size > 7
  · rw [if_pos (decide_eq_true (by omega)), numRead_no (fun n h e => by have := hlenf n h e; omega)]
  rw [if_neg (by simp; omega)]
  have hl0 := spec_NumRead_l0 s (by omega) s.size k 0 0 (by omega) (by omega) (by omega)
  rw [List.drop_zero] at hl0
  refine hl0.trans (congrArg some ?_)
  by_cases h : ∃ n : Nat, n ≤ 1000000 ∧ B s = Lib.decDigits n
  · obtain ⟨n, hn, e⟩ := h
    obtain ⟨h1, h2, h3⟩ := dec_facts n
    have hT : numT (n : Int) = s := by
      unfold numT
      rw [if_pos (by omega), itoa_nat, ← e]
      exact B_ext (B_mk _)
    rw [numRead_yes hn e, e, h1, if_pos ⟨h2, hT⟩]
  · rw [numRead_no (fun n hn e => h ⟨n, hn, e⟩), if_neg]
    rintro ⟨_, e⟩
    unfold numT at e
    split at e
    · rename_i hr
      rw [itoa_nat] at e
      exact h ⟨decV 0 (B s), by omega, (congrArg B e).symm.trans (B_mk (Lib.decDigits _))⟩
    · exact h0 (by rw [← e]; rfl)
/-! ### ValueOk, paths, times -/
def fromB (m : Int) (s : ByteArray) : Bool := (B s).all fun c => decide (m ≤ (c.toNat : Int) ∧ (c.toNat : Int) ≤ 126)
def fromD (m : Int) (l : List UInt8) : Bool := l.all fun c => decide (m ≤ (c.toNat : Int) ∧ (c.toNat : Int) ≤ 126)
def valB (s : ByteArray) : Bool := decide (1 ≤ s.size ∧ s.size ≤ 60) && fromB 32 s && decide (trimT s = s)
theorem beq_texts (a b : ByteArray) : (a.toList == b.toList) = decide (a = b) := by
  rw [Bool.eq_iff_iff, beq_iff_eq, decide_eq_true_eq, toList_iff]
theorem in_range (s : ByteArray) (a b : Nat) : decide ((a : Int) ≤ (s.size : Int) ∧ (s.size : Int) ≤ (b : Int)) = decide (a ≤ s.size ∧ s.size ≤ b) := decide_eq_decide.2 (by omega)
theorem spec_ValueOk_l0 (s : ByteArray) (hs : (s.size : Int) ≤ 4611686018427387904) : ∀ (d k i : Nat), s.size = i + d → d + 2 * s.size + 3 < k →
    spec_ValueOk.l0 k s i = some (fromD 32 ((B s).drop i) && decide (1 ≤ s.size ∧ s.size ≤ 60) && decide (trimT s = s)) := by
  intro d
  induction d with
  | zero =>
    intro k i hd hk
    obtain ⟨k, rfl⟩ := succ_of (show 0 < k by omega)
    simp only [spec_ValueOk.l0]
    rw [if_neg (by omega), spec_l1In_f, Option.bind_some, List.drop_eq_nil_of_le (by rw [B_len]; omega), show (1 : Int) = ((1 : Nat) : Int) from rfl, show (60 : Int) = ((60 : Nat) : Int) from rfl, in_range]
    by_cases h : 1 ≤ s.size ∧ s.size ≤ 60
    · rw [if_pos (decide_eq_true h), spec_Trim_f hs (by omega), Option.bind_some, beq_texts, decide_eq_true h]; simp [fromD]
    · rw [if_neg (by simpa using h), decide_eq_false h]; simp
  | succ d ih =>
    intro k i hd hk
    obtain ⟨k, rfl⟩ := succ_of (show 0 < k by omega)
    have hl : i < (B s).length := by rw [B_len]; omega
    simp only [spec_ValueOk.l0]
    rw [if_pos (by omega), if_pos (by omega), bt_get s i hl, nat_round (n := s.size) (by omega) (by omega), drop_at hl]
    unfold fromD
    rw [List.all_cons]
    by_cases h1 : ((B s)[i].toNat : Int) < 32
    · rw [if_pos h1, decide_eq_false (by omega)]; simp
    · rw [if_neg h1]
      by_cases h2 : ((B s)[i].toNat : Int) > 126
      · rw [if_pos h2, decide_eq_false (by omega)]; simp
      · rw [if_neg h2, decide_eq_true (by omega), Bool.true_and, ih k (i + 1) (by omega) (by omega)]; rfl
theorem spec_ValueOk_f {k : Nat} {s : ByteArray} (hs : (s.size : Int) ≤ 4611686018427387904) (hk : 3 * s.size + 3 < k) : spec_ValueOk.f k s = some (valB s) := by
  unfold spec_ValueOk.f
  rw [show (0 : Int) = ((0 : Nat) : Int) from rfl, spec_ValueOk_l0 s hs s.size k 0 (by omega) (by omega), List.drop_zero]
  unfold valB
  rw [Bool.and_comm (fromD 32 (B s))]; rfl
theorem impl_areFrom_l0 (s : ByteArray) (m : Int) (hs : (s.size : Int) ≤ 4611686018427387904) : ∀ (d k i : Nat), s.size = i + d → d < k → impl_areFrom.l0 k s m i = some (fromD m ((B s).drop i)) := by
  intro d
  induction d with
  | zero =>
    intro k i hd hk
    obtain ⟨k, rfl⟩ := succ_of (show 0 < k by omega)
    simp only [impl_areFrom.l0]
    rw [if_neg (by omega), List.drop_eq_nil_of_le (by rw [B_len]; omega)]; rfl
  | succ d ih =>
    intro k i hd hk
    obtain ⟨k, rfl⟩ := succ_of (show 0 < k by omega)
    have hl : i < (B s).length := by rw [B_len]; omega
    simp only [impl_areFrom.l0]
    rw [if_pos (by omega), if_pos (by omega), bt_get s i hl, nat_round (n := s.size) (by omega) (by omega), drop_at hl]
    unfold fromD
    rw [List.all_cons]
    by_cases h1 : ((B s)[i].toNat : Int) < m
    · rw [if_pos h1, decide_eq_false (by omega)]; simp
    · rw [if_neg h1]
      by_cases h2 : ((B s)[i].toNat : Int) > 126
      · rw [if_pos h2, decide_eq_false (by omega)]; simp
      · rw [if_neg h2, decide_eq_true (by omega), Bool.true_and, ih k (i + 1) (by omega) (by omega)]; rfl
theorem impl_areFrom_f {k : Nat} {s : ByteArray} {m : Int} (hs : (s.size : Int) ≤ 4611686018427387904) (hk : s.size < k) : impl_areFrom.f k s m = some (fromB m s) := by
  have := impl_areFrom_l0 s m hs s.size k 0 (by omega) hk
  rw [List.drop_zero] at this
  exact this
theorem impl_ValueOk_f {k : Nat} {s : ByteArray} (hs : (s.size : Int) ≤ 4611686018427387904) (hk : s.size < k) : impl_ValueOk.f k s = some (valB s) := by
  unfold impl_ValueOk.f valB
  rw [impl_inRange_f, Option.bind_some, show (1 : Int) = ((1 : Nat) : Int) from rfl, show (60 : Int) = ((60 : Nat) : Int) from rfl, in_range]
  by_cases h : 1 ≤ s.size ∧ s.size ≤ 60
  · rw [if_pos (decide_eq_true h), impl_areFrom_f hs hk, Option.bind_some, decide_eq_true h, Bool.true_and]
    cases hf : fromB 32 s
    · rw [if_neg (by simp)]; simp
    · rw [if_pos rfl, impl_Trim_f hs, Option.bind_some, beq_texts, Bool.true_and]
  · rw [if_neg (by simpa using h), decide_eq_false h]; simp
/-! ### FieldsOk -/
def lenName (s : ByteArray) : Bool := decide (s.toList = [99, 111, 110, 116, 101, 110, 116, 45, 108, 101, 110, 103, 116, 104])
def okFs (l : List S116) : Nat → List S116 → Bool
  | _, [] => decide (l.length ≤ 8)
  | i, x :: r => tokB x.f0 && (valB x.f1 && (!lenName x.f0 && (decide (at_ x.f0 l 0 = (i : Int)) && okFs l (i + 1) r)))
def fieldsB (l : List S116) : Bool := okFs l 0 l
/-- a list of fields of at most K of anything -/
def SmallF (K : Nat) (l : List S116) : Prop := l.length ≤ K ∧ ∀ x ∈ l, x.f0.size ≤ K ∧ x.f1.size ≤ K
theorem FieldsOk_l0 (K : Nat) (hK : K < 4398046511104) (l : List S116) (hl : SmallF K l) : ∀ (d k i : Nat), l.length = i + d → d + 4 * K + 4 < k →
    spec_FieldsOk.l0 k l i = some (okFs l i (l.drop i)) ∧ impl_FieldsOk.l0 k l l (l.length : Int) i = some (okFs l i (l.drop i)) := by
  obtain ⟨hn, hx⟩ := hl
  intro d
  induction d with
  | zero =>
    intro k i hd hk
    obtain ⟨k, rfl⟩ := succ_of (show 0 < k by omega)
    simp only [spec_FieldsOk.l0, impl_FieldsOk.l0]
    have h8 : decide ((l.length : Int) ≤ 8) = decide (l.length ≤ 8) := decide_eq_decide.2 (by omega)
    rw [if_neg (by omega), if_neg (by omega), List.drop_eq_nil_of_le (by omega), okFs, h8]
    exact ⟨rfl, rfl⟩
  | succ d ih =>
    intro k i hd hk
    obtain ⟨k, rfl⟩ := succ_of (show 0 < k by omega)
    have hlt : i < l.length := by omega
    obtain ⟨s0, s1⟩ := hx _ (List.getElem_mem hlt)
    obtain ⟨i1, i2⟩ := ih k (i + 1) (by omega) (by omega)
    simp only [spec_FieldsOk.l0, impl_FieldsOk.l0]
    rw [rd_F l i hlt, nat_round (n := l.length) hlt (by omega), drop_at hlt, okFs]
    refine ⟨?_, ?_⟩
    · rw [if_pos (by omega), if_pos (by omega), spec_TokenOk_f (by omega) (by omega), Option.bind_some]
      cases tokB l[i].f0
      · rfl
      rw [if_pos rfl, spec_ValueOk_f (by omega) (by omega), Option.bind_some]
      cases valB l[i].f1
      · rfl
      rw [if_pos rfl, spec_l2At_f (by omega) (by omega), Option.bind_some]
      unfold lenName
      by_cases ha : at_ l[i].f0 l 0 = (i : Int)
      · rw [if_pos ha, decide_eq_true ha]
        by_cases hL : l[i].f0.toList = [99, 111, 110, 116, 101, 110, 116, 45, 108, 101, 110, 103, 116, 104]
        · rw [if_pos hL, decide_eq_true hL]; rfl
        · rw [if_neg hL, decide_eq_false hL, i1]; rfl
      · rw [if_neg ha, decide_eq_false ha]; simp
    · rw [if_pos (by omega), if_pos (by omega), if_pos (by omega), impl_TokenOk_f (by omega) (by omega), Option.bind_some]
      cases tokB l[i].f0
      · rfl
      rw [if_pos rfl, impl_ValueOk_f (by omega) (by omega), Option.bind_some]
      cases valB l[i].f1
      · rfl
      rw [if_pos rfl]
      unfold lenName
      by_cases hL : l[i].f0.toList = [99, 111, 110, 116, 101, 110, 116, 45, 108, 101, 110, 103, 116, 104]
      · rw [if_pos hL, decide_eq_true hL]; rfl
      rw [if_neg hL, decide_eq_false hL, impl_fieldAt_f (by omega), Option.bind_some]
      by_cases ha : at_ l[i].f0 l 0 = (i : Int)
      · rw [if_pos ha, decide_eq_true ha, i2]; rfl
      · rw [if_neg ha, decide_eq_false ha]; rfl
theorem spec_FieldsOk_f {k K : Nat} {l : List S116} (hK : K < 4398046511104) (hl : SmallF K l) (hk : 5 * K + 4 < k) : spec_FieldsOk.f k l = some (fieldsB l) := by
  have := (FieldsOk_l0 K hK l hl l.length k 0 (by omega) (by have := hl.1; omega)).1
  simpa [spec_FieldsOk.f, fieldsB] using this
theorem impl_FieldsOk_f {k K : Nat} {l : List S116} (hK : K < 4398046511104) (hl : SmallF K l) (hk : 5 * K + 4 < k) : impl_FieldsOk.f k l = some (fieldsB l) := by
  have := (FieldsOk_l0 K hK l hl l.length k 0 (by omega) (by have := hl.1; omega)).2
  simpa [impl_FieldsOk.f, fieldsB] using this
/-! ### strings.Split in plain words -/
theorem splitBs_none (s sep : ByteArray) (h : ∀ j, j ≤ (B s).length → Lib.occAt (B s) (B sep) j = false) : splitBs s sep = [s] := by
  have hi : Lib.indexB s sep = -1 := Lib.index_none h
  unfold splitBs
  exact Lib.splitB_miss sep 0 _ s hi
theorem splitBs_at (s sep : ByteArray) (i : Nat) (h1 : 1 ≤ sep.size) (hi : i ≤ (B s).length) (ho : Lib.occAt (B s) (B sep) i = true) (hn : ∀ j, j < i → Lib.occAt (B s) (B sep) j = false) :
    splitBs s sep = s.extract 0 i :: splitBs (s.extract (i + sep.size) s.size) sep := by
  have hx : Lib.indexB s sep = (i : Int) := Lib.index_first hi ho hn
  unfold splitBs
  rw [Lib.countB_hit s sep i h1 hx, Nat.add_comm 1, Lib.splitB_hit sep 0 _ s i hx, Nat.add_zero]
theorem occ_one (l : List UInt8) (c : UInt8) (j : Nat) : Lib.occAt l [c] j = (match l[j]? with | some x => c == x | none => false) := by
  unfold Lib.occAt
  by_cases h : j < l.length
  · rw [drop_at h, List.getElem?_eq_getElem h]; simp [List.isPrefixOf]
  · rw [List.drop_eq_nil_of_le (by omega), List.getElem?_eq_none (by omega)]; rfl
theorem split1_none (s : ByteArray) (c : UInt8) (h : ∀ j (h : j < (B s).length), (B s)[j] ≠ c) : splitBs s ⟨#[c]⟩ = [s] := by
  refine splitBs_none s _ (fun j hj => ?_)
  show Lib.occAt (B s) [c] j = false
  rw [occ_one]
  by_cases hl : j < (B s).length
  · rw [List.getElem?_eq_getElem hl]; simp only; rw [beq_eq_false_iff_ne]; exact fun e => h j hl e.symm
  · rw [List.getElem?_eq_none (by omega)]
theorem split1_at (s : ByteArray) (c : UInt8) (i : Nat) (hi : i < (B s).length) (h1 : (B s)[i] = c) (h2 : ∀ j (h : j < (B s).length), j < i → (B s)[j] ≠ c) : splitBs s ⟨#[c]⟩ = s.extract 0 i :: splitBs (s.extract (i + 1) s.size) ⟨#[c]⟩ := by
  refine splitBs_at s ⟨#[c]⟩ i (by show 1 ≤ 1; omega) (by omega) ?_ (fun j hj => ?_)
  · show Lib.occAt (B s) [c] i = true
    rw [occ_one, List.getElem?_eq_getElem hi, h1]; simp
  · show Lib.occAt (B s) [c] j = false
    rw [occ_one, List.getElem?_eq_getElem (by omega)]; simp only; rw [beq_eq_false_iff_ne]; exact fun e => h2 j (by omega) hj e.symm
theorem B_get_extract (s : ByteArray) (a b j : Nat) (hj : j < (B (s.extract a b)).length) : ∃ h : a + j < (B s).length, (B (s.extract a b))[j] = (B s)[a + j] ∧ a + j < b := by
  have e := B_extract s a b
  have hl : j < (((B s).take b).drop a).length := by rw [← e]; exact hj
  simp only [List.length_drop, List.length_take] at hl
  refine ⟨by omega, ?_, by omega⟩
  simp only [e, List.getElem_drop, List.getElem_take]
theorem splitBs_len (s sep : ByteArray) (h1 : 1 ≤ sep.size) : (splitBs s sep).length ≤ s.size + 1 := by
  have h := Lib.splitB_length_le sep 0 (Lib.countB s sep) s
  have h2 := Lib.countB_le sep h1 _ s (Nat.le_refl _)
  unfold splitBs; omega
/-! ### Split -/
def wordsOf (l : List ByteArray) : List ByteArray := (l.map trimT).filter fun t => !decide (t.toList = [])
theorem wordsOf_cons (x : ByteArray) (r : List ByteArray) : wordsOf (x :: r) = if (trimT x).toList = [] then wordsOf r else trimT x :: wordsOf r := by
  unfold wordsOf
  rw [List.map_cons, List.filter_cons]
  by_cases h : (trimT x).toList = [] <;> simp [h]
def splitT (s : ByteArray) : List ByteArray := wordsOf (splitBs s ⟨#[44]⟩)
theorem impl_Split_l0 (l : List ByteArray) (hl : l.length ≤ 4294967296) (hx : ∀ x ∈ l, x.size ≤ 4294967296) : ∀ (d k i : Nat) (acc : List ByteArray), l.length - i = d → i ≤ l.length → acc.length ≤ i → d < k →
    impl_Split.l0 k acc l (l.length : Int) i = some (acc ++ wordsOf (l.drop i)) := by
  intro d
  induction d with
  | zero =>
    intro k i acc hd hi ha hk
    obtain ⟨k, rfl⟩ := succ_of hk
    simp only [impl_Split.l0]
    rw [if_neg (by omega), List.drop_eq_nil_of_le (by omega)]; simp [wordsOf]
  | succ d ih =>
    intro k i acc hd hi ha hk
    obtain ⟨k, rfl⟩ := succ_of hk
    have hlt : i < l.length := by omega
    have hs := hx _ (List.getElem_mem hlt)
    simp only [impl_Split.l0]
    rw [if_pos (by omega), if_pos (by omega), if_pos (by omega), rd_B l i hlt, impl_Trim_f (by omega), Option.bind_some, nat_round (n := l.length) hlt (by omega), drop_at hlt, wordsOf_cons]
    by_cases h : (trimT l[i]).toList = []
    · rw [if_pos h, if_pos h, ih k (i + 1) acc (by omega) (by omega) (by omega) (by omega)]
    · rw [if_neg h, if_neg h, if_pos (by omega), ih k (i + 1) _ (by omega) (by omega) (by simp; omega) (by omega), List.append_assoc]; rfl
theorem splitBs_small : ∀ (n : Nat) (s sep : ByteArray), s.size ≤ n → 1 ≤ sep.size → ∀ x ∈ splitBs s sep, x.size ≤ s.size := by
  intro n s sep _ h1
  unfold splitBs
  generalize Lib.countB s sep = c
  induction c generalizing s n with
  | zero => intro x hx; simp only [Lib.splitB, List.mem_singleton] at hx; rw [hx]; exact Nat.le_refl _
  | succ c ih =>
    intro x hx
    unfold Lib.splitB at hx
    split at hx
    · simp only [List.mem_singleton] at hx; rw [hx]; exact Nat.le_refl _
    · rcases List.mem_cons.1 hx with rfl | hx
      · rw [ByteArray.size_extract]; omega
      · have := ih s.size _ (by rw [ByteArray.size_extract]; omega) x hx
        rw [ByteArray.size_extract] at this; omega
theorem impl_Split_f {k : Nat} {s : ByteArray} (hs : s.size ≤ 1048576) (hk : s.size + 1 < k) : impl_Split.f k s = some (splitT s) := by
  unfold impl_Split.f strings_Split.f
  have hn := splitBs_len s ⟨#[44]⟩ (by show 1 ≤ 1; omega)
  rw [if_pos ⟨by omega, by show 1 ≤ 1; omega⟩, Option.bind_some]
  have := impl_Split_l0 (splitBs s ⟨#[44]⟩) (by omega) (fun x hx => by have := splitBs_small s.size s ⟨#[44]⟩ (Nat.le_refl _) (by show 1 ≤ 1; omega) x hx; omega) (splitBs s ⟨#[44]⟩).length k 0 [] (by omega) (by omega) (by simp) (by omega)
  rw [List.drop_zero, List.nil_append] at this
  exact this
theorem spec_Split_l0 (s : ByteArray) (hs : s.size ≤ 1048576) : ∀ (d k f i : Nat) (acc : List ByteArray), s.size - i = d → i ≤ s.size → f ≤ i → acc.length ≤ i → (∀ j (h : j < (B s).length), f ≤ j → j < i → (B s)[j] ≠ 44) → 2 * d + 2 * s.size + 9 < k →
    spec_Split.l0 k s acc f i = some (acc ++ wordsOf (splitBs (s.extract f s.size) ⟨#[44]⟩)) := by
  intro d
  induction d with
  | zero =>
    intro k f i acc hd hi hf ha hno hk
    obtain ⟨k, rfl⟩ := succ_of (show 5 < k by omega)
    obtain ⟨k, rfl⟩ := succ_of (show 4 < k by omega)
    have hiz : i = s.size := by omega
    have hz : (s.extract f s.size).size = s.size - f := by rw [ByteArray.size_extract]; omega
    have hsp : splitBs (s.extract f s.size) ⟨#[44]⟩ = [s.extract f s.size] := split1_none _ _ (fun j hj => by
      obtain ⟨h1, h2, h3⟩ := B_get_extract s f s.size j hj
      rw [h2]; exact hno (f + j) h1 (by omega) (by omega))
    simp only [spec_Split.l0]
    rw [if_pos (by omega), if_neg (by omega)]
    simp only [spec_Split.j1]
    rw [if_neg (by simp), if_pos (by omega), if_pos (by omega), if_pos (by omega), Int.toNat_natCast, Int.toNat_natCast, hiz, spec_Trim_f (by omega) (by omega), Option.bind_some, hsp, wordsOf_cons, w64 (by omega)]
    obtain ⟨k, rfl⟩ := succ_of (show 0 < k by omega)
    have fin : ∀ acc', spec_Split.l0 (k + 1) s acc' ((s.size : Int) + 1) ((s.size : Int) + 1) = some acc' := fun acc' => by
      simp only [spec_Split.l0]; rw [if_neg (by omega)]
    by_cases h : (trimT (s.extract f s.size)).toList = []
    · rw [if_pos h, if_pos h, fin]; simp [wordsOf]
    · rw [if_neg h, if_neg h, if_pos (by omega), fin]; simp [wordsOf]
  | succ d ih =>
    intro k f i acc hd hi hf ha hno hk
    obtain ⟨k, rfl⟩ := succ_of (show 5 < k by omega)
    obtain ⟨k, rfl⟩ := succ_of (show 4 < k by omega)
    have hl : i < (B s).length := by rw [B_len]; omega
    simp only [spec_Split.l0]
    rw [if_pos (by omega), if_pos (by omega), if_pos (by omega), bt_get s i hl]
    simp only [spec_Split.j1]
    have h44 : ((B s)[i].toNat : Int) = 44 ↔ (B s)[i] = 44 := by
      constructor
      · intro h
        have : (B s)[i].toNat = (44 : UInt8).toNat := by show (B s)[i].toNat = 44; omega
        exact UInt8.toNat_inj.1 this
      · intro h; rw [h]; rfl
    have hr : wrap64 ((i : Int) + 1) = ((i + 1 : Nat) : Int) := nat_round (n := s.size) (by omega) (by omega)
    by_cases c : (B s)[i] = 44
    · have hsp : splitBs (s.extract f s.size) ⟨#[44]⟩ = s.extract f i :: splitBs (s.extract (i + 1) s.size) ⟨#[44]⟩ := by
        have hz : (s.extract f s.size).size = s.size - f := by rw [ByteArray.size_extract]; omega
        have hlt : i - f < (B (s.extract f s.size)).length := by rw [B_len, hz]; omega
        obtain ⟨g1, g2, _⟩ := B_get_extract s f s.size (i - f) hlt
        rw [split1_at (s.extract f s.size) 44 (i - f) hlt (by rw [g2]; simp only [show f + (i - f) = i by omega]; exact c) (fun j hj hji => by
          obtain ⟨h1, h2, h3⟩ := B_get_extract s f s.size j hj
          rw [h2]; exact hno (f + j) h1 (by omega) (by omega)), ByteArray.extract_extract, hz, ByteArray.extract_extract]
        rw [show min (f + (i - f)) s.size = i by omega, show min (f + (s.size - f)) s.size = s.size by omega, show f + (i - f + 1) = i + 1 by omega, Nat.add_zero]
      rw [if_neg (by simpa using h44.2 c), if_pos (by omega), if_pos (by omega), if_pos (by omega), Int.toNat_natCast, Int.toNat_natCast, spec_Trim_f (by rw [ByteArray.size_extract]; omega) (by rw [ByteArray.size_extract]; omega), Option.bind_some, hsp, wordsOf_cons, hr]
      by_cases h : (trimT (s.extract f i)).toList = []
      · rw [if_pos h, if_pos h, ih k (i + 1) (i + 1) acc (by omega) (by omega) (by omega) (by omega) (fun j _ h1 h2 => by omega) (by omega)]
      · rw [if_neg h, if_neg h, if_pos (by omega), ih k (i + 1) (i + 1) _ (by omega) (by omega) (by omega) (by simp; omega) (fun j _ h1 h2 => by omega) (by omega), List.append_assoc]; rfl
    · rw [if_pos (by simpa using fun e => c (h44.1 e)), hr]
      refine ih k f (i + 1) acc (by omega) (by omega) (by omega) (by omega) (fun j h h1 h2 => ?_) (by omega)
      by_cases e : j = i
      · subst e; exact c
      · exact hno j h h1 (by omega)
theorem spec_Split_f {k : Nat} {s : ByteArray} (hs : s.size ≤ 1048576) (hk : 4 * s.size + 9 < k) : spec_Split.f k s = some (splitT s) := by
  have := spec_Split_l0 s hs s.size k 0 0 [] (by omega) (by omega) (by omega) (by simp) (fun j _ _ h => by omega) (by omega)
  rw [List.nil_append, extract_all0] at this
  exact this
theorem wordsOf_len (l : List ByteArray) : (wordsOf l).length ≤ l.length := by
  unfold wordsOf
  have := List.length_filter_le (fun t : ByteArray => !decide (t.toList = [])) (l.map trimT)
  simpa using this
theorem splitT_len (s : ByteArray) : (splitT s).length ≤ s.size + 1 := by
  have h1 := wordsOf_len (splitBs s ⟨#[44]⟩)
  have h2 := splitBs_len s ⟨#[44]⟩ (by show 1 ≤ 1; omega)
  unfold splitT; omega
/-! ### VaryOf -/
def varyF (l : List S116) : List ByteArray := (splitT ((getF ⟨#[118, 97, 114, 121]⟩ l).getD ⟨#[]⟩)).map lowB
theorem spec_VaryOf_l0 (l : List ByteArray) (hl : l.length ≤ 4294967296) (hx : ∀ x ∈ l, x.size ≤ 1048576) : ∀ (d k : Nat) (pre rest : List ByteArray), rest.length = d → pre.length + d = l.length → (∀ x ∈ rest, x.size ≤ 1048576) → d + 1048577 < k →
    spec_VaryOf.l0 k (pre ++ rest) (pre.length : Int) = some (pre ++ rest.map lowB) := by
  intro d
  induction d with
  | zero =>
    intro k pre rest hr hp hs hk
    obtain ⟨k, rfl⟩ := succ_of (show 0 < k by omega)
    rw [List.eq_nil_of_length_eq_zero hr]
    simp only [spec_VaryOf.l0]
    rw [if_neg (by simp)]; simp
  | succ d ih =>
    intro k pre rest hr hp hs hk
    obtain ⟨k, rfl⟩ := succ_of (show 0 < k by omega)
    obtain ⟨y, rest, rfl⟩ : ∃ y r, rest = y :: r := by cases rest with | nil => simp at hr | cons y r => exact ⟨y, r, rfl⟩
    have hy := hs y (by simp)
    have hrd : rdOf ByteArray.empty (pre ++ y :: rest) (pre.length : Int) = y := by rw [rd_B _ _ (by simp)]; simp
    simp only [spec_VaryOf.l0]
    rw [if_pos (by simp; omega), if_pos (by omega), hrd, spec_Lower_f (by omega) (by omega), Option.bind_some, set_at, w64 (by omega), show (pre.length : Int) + 1 = ((pre ++ [lowB y]).length : Int) by simp]
    have := ih k (pre ++ [lowB y]) rest (by simpa using hr) (by simp at hr ⊢; omega) (fun x hx => hs x (by simp [hx])) (by omega)
    rw [List.append_assoc, List.append_assoc] at this
    exact this
theorem impl_VaryOf_l0 (l : List ByteArray) (hl : l.length ≤ 4294967296) (hx : ∀ x ∈ l, x.size ≤ 1048576) : ∀ (d k i : Nat) (acc : List ByteArray), l.length - i = d → i ≤ l.length → acc.length ≤ i → d < k →
    impl_VaryOf.l0 k acc l (l.length : Int) i = some (acc ++ (l.drop i).map lowB) := by
  intro d
  induction d with
  | zero =>
    intro k i acc hd hi ha hk
    obtain ⟨k, rfl⟩ := succ_of hk
    simp only [impl_VaryOf.l0]
    rw [if_neg (by omega), List.drop_eq_nil_of_le (by omega)]; simp
  | succ d ih =>
    intro k i acc hd hi ha hk
    obtain ⟨k, rfl⟩ := succ_of hk
    have hlt : i < l.length := by omega
    have hs := hx _ (List.getElem_mem hlt)
    simp only [impl_VaryOf.l0]
    rw [if_pos (by omega), if_pos (by omega), if_pos (by omega), rd_B l i hlt, impl_Lower_f (by omega), Option.bind_some, if_pos (by omega), nat_round (n := l.length) hlt (by omega), ih k (i + 1) _ (by omega) (by omega) (by simp; omega) (by omega), drop_at hlt, List.map_cons, List.append_assoc]
    rfl
theorem trimT_size (s : ByteArray) : (trimT s).size ≤ s.size := by
  have h : ∀ l : List UInt8, (Lib.trimB l 32).length ≤ l.length := fun l => by
    unfold Lib.trimB Lib.trimLeftB Lib.trimRightB
    have h1 := (List.dropWhile_sublist (· == (32 : UInt8)) (l := (l.reverse.dropWhile (· == (32 : UInt8))).reverse)).length_le
    have h2 := (List.dropWhile_sublist (· == (32 : UInt8)) (l := l.reverse)).length_le
    simp only [List.length_reverse] at h1 h2
    omega
  have := h (B s)
  rw [B_len] at this
  rw [← B_len (trimT s)]
  unfold trimT
  rw [B_mk (Lib.trimB (B s) 32)]
  exact this
theorem splitT_small (s : ByteArray) : ∀ x ∈ splitT s, x.size ≤ s.size := by
  intro x hx
  unfold splitT wordsOf at hx
  obtain ⟨y, hy, rfl⟩ := List.mem_map.1 (List.mem_filter.1 hx).1
  have h1 := trimT_size y
  have h2 := splitBs_small s.size s ⟨#[44]⟩ (Nat.le_refl _) (by show 1 ≤ 1; omega) y hy
  omega
theorem getF_small {K : Nat} {n : ByteArray} : ∀ {l : List S116}, (∀ x ∈ l, x.f0.size ≤ K ∧ x.f1.size ≤ K) → ((getF n l).getD ⟨#[]⟩).size ≤ K
  | [], _ => by simp [getF, ByteArray.size]
  | y :: r, h => by
    simp only [getF]
    split
    · exact (h y (by simp)).2
    · exact getF_small (fun x hx => h x (by simp [hx]))
theorem varyF_len {K : Nat} {l : List S116} (hl : ∀ x ∈ l, x.f0.size ≤ K ∧ x.f1.size ≤ K) : (varyF l).length ≤ K + 1 := by
  unfold varyF
  rw [List.length_map]
  have h1 := splitT_len ((getF ⟨#[118, 97, 114, 121]⟩ l).getD ⟨#[]⟩)
  have h2 : ((getF ⟨#[118, 97, 114, 121]⟩ l).getD ⟨#[]⟩).size ≤ K := getF_small hl
  omega
theorem impl_VaryOf_f {k K : Nat} {l : List S116} (hK : K ≤ 1048576) (hl : SmallF K l) (hk : K + 2 < k) : impl_VaryOf.f k l = some (varyF l) := by
  have h2 : ((getF ⟨#[118, 97, 114, 121]⟩ l).getD ⟨#[]⟩).size ≤ K := getF_small hl.2
  have h1 := splitT_len ((getF ⟨#[118, 97, 114, 121]⟩ l).getD ⟨#[]⟩)
  have h3 := splitT_small ((getF ⟨#[118, 97, 114, 121]⟩ l).getD ⟨#[]⟩)
  have hn := hl.1
  unfold impl_VaryOf.f varyF
  rw [impl_Get_f (by omega), Option.bind_some]
  simp only
  rw [impl_Split_f (by omega) (by omega), Option.bind_some]
  have := impl_VaryOf_l0 (splitT ((getF ⟨#[118, 97, 114, 121]⟩ l).getD ⟨#[]⟩)) (by omega) (fun x hx => by have := h3 x hx; omega) (splitT ((getF ⟨#[118, 97, 114, 121]⟩ l).getD ⟨#[]⟩)).length k 0 [] (by rw [Nat.sub_zero]) (Nat.zero_le _) (Nat.le_refl _) (by omega)
  rw [List.drop_zero, List.nil_append] at this
  exact this
theorem spec_VaryOf_f {k K : Nat} {l : List S116} (hK : K ≤ 1048576) (hl : SmallF K l) (hk : 8388608 < k) : spec_VaryOf.f k l = some (varyF l) := by
  have h2 : ((getF ⟨#[118, 97, 114, 121]⟩ l).getD ⟨#[]⟩).size ≤ K := getF_small hl.2
  have h1 := splitT_len ((getF ⟨#[118, 97, 114, 121]⟩ l).getD ⟨#[]⟩)
  have h3 := splitT_small ((getF ⟨#[118, 97, 114, 121]⟩ l).getD ⟨#[]⟩)
  have hn := hl.1
  unfold spec_VaryOf.f varyF
  rw [spec_Get_f (by omega) (by omega), Option.bind_some]
  simp only
  rw [spec_Split_f (by omega) (by omega), Option.bind_some]
  have := spec_VaryOf_l0 (splitT ((getF ⟨#[118, 97, 114, 121]⟩ l).getD ⟨#[]⟩)) (by omega) (fun x hx => by have := h3 x hx; omega) (splitT ((getF ⟨#[118, 97, 114, 121]⟩ l).getD ⟨#[]⟩)).length k [] (splitT ((getF ⟨#[118, 97, 114, 121]⟩ l).getD ⟨#[]⟩)) rfl (by simp) (fun x hx => by have := h3 x hx; omega) (by omega)
  rw [List.nil_append, List.nil_append] at this
  exact this

end Go.Proofs.YtjlpjbkpmmpojaaGreatDoor.Pure
