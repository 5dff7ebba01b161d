import Derived.Test.YtjlpjbkpmmpojaaGreatDoorKO35
import Derived.Test.YtjlpjbkpmmpojaaGreatDoorKO32
set_option linter.unusedVariables false
set_option linter.unusedSimpArgs false
namespace Go.Proofs.YtjlpjbkpmmpojaaGreatDoor.Pure
open Go.RowKit Go.Proofs.YtjlpjbkpmmpojaaGreatDoor.All Go.Proofs.YtjlpjbkpmmpojaaGreatDoorW.PrintWords Go.Proofs.YtjlpjbkpmmpojaaGreatDoorW.PrintLast
theorem w64 {n : Int} (h : -9223372036854775808 ≤ n ∧ n ≤ 9223372036854775807) : wrap64 n = n := by unfold wrap64; omega
def B (s : ByteArray) : List UInt8 := s.data.toList
theorem B_len (s : ByteArray) : (B s).length = s.size := data_length s
theorem toList_B (s : ByteArray) : s.toList = B s := ByteArray.toList_eq s
theorem B_ext {a b : ByteArray} (h : B a = B b) : a = b := by
 cases a with | mk a => cases b with | mk b => unfold B at h; simp at h; rw [h]
theorem B_mk (l : List UInt8) : B ⟨l.toArray⟩ = l := by unfold B; simp
theorem toList_inj {a b : ByteArray} (h : a.toList = b.toList) : a = b := B_ext (by rw [← toList_B, ← toList_B, h])
theorem toList_iff (a b : ByteArray) : a.toList = b.toList ↔ a = b := ⟨toList_inj, fun h => by rw [h]⟩
theorem bt_get (s : ByteArray) (i : Nat) (h : i < (B s).length) : bt s (i : Int) = (((B s)[i]).toNat : Int) := by
 have h' : i < s.size := by rw [← B_len]; exact h
 unfold bt B
 simp [h']
 rfl
theorem B_append (a b : ByteArray) : B (a ++ b) = B a ++ B b := by
 unfold B; rw [ByteArray.data_append]; simp
theorem B_extract (s : ByteArray) (i j : Nat) : B (s.extract i j) = ((B s).take j).drop i := by
 unfold B; rw [ByteArray.data_extract]; simp [List.drop_take]
theorem B_empty : B (⟨#[]⟩ : ByteArray) = [] := rfl
def oct (n : Int) : UInt8 := UInt8.ofNat n.toNat
theorem oct_nat (c : UInt8) : oct (c.toNat : Int) = c := by unfold oct; simp
theorem strOf (xs : List Int) : strOfNums xs = ⟨(xs.map oct).toArray⟩ := rfl
theorem B_strOf (xs : List Int) : B (strOfNums xs) = xs.map oct := by rw [strOf, B_mk]
theorem succ_of {k d : Nat} (h : d < k) : ∃ m, k = m + 1 := ⟨k - 1, by omega⟩
theorem drop_at {α : Type} {l : List α} {i : Nat} (h : i < l.length) : l.drop i = l[i] :: l.drop (i + 1) := List.drop_eq_getElem_cons h
theorem nat_round {i n : Nat} (h : i < n) (hn : (n : Int) ≤ 9223372036854775807) : wrap64 ((i : Int) + 1) = ((i + 1 : Nat) : Int) := by
 rw [w64 (by omega)]; omega
theorem rd_B (l : List ByteArray) (j : Nat) (h : j < l.length) : rdOf ByteArray.empty l (j : Int) = l[j] := by simp [rdOf, List.getD, h]
theorem rd_I (l : List Int) (j : Nat) (h : j < l.length) : rd l (j : Int) = l[j] := by simp [rd, List.getD, h]
theorem set_at {α : Type} (pre : List α) (y z : α) (rest : List α) : (pre ++ y :: rest).set ((pre.length : Int)).toNat z = pre ++ z :: rest := by
 rw [Int.toNat_natCast, List.set_append_right _ _ (by omega), Nat.sub_self, List.set_cons_zero]
theorem drop_eq {α : Type} {a b : List α} {i : Nat} (ha : i < a.length) (hb : i < b.length) : a.drop i = b.drop i ↔ a[i] = b[i] ∧ a.drop (i + 1) = b.drop (i + 1) := by
 rw [drop_at ha, drop_at hb, List.cons.injEq]
theorem extract_all0 (s : ByteArray) : s.extract 0 s.size = s := ByteArray.extract_zero_size
theorem spec_Lower_l0 (s : ByteArray) (hs : (s.size : Int) ≤ 140737488355327) : ∀ (d k i : Nat) (acc : List Int), s.size - i = d → i ≤ s.size → acc.length ≤ i → d < k →
  spec_Lower.l0 k s acc i = some ⟨(acc.map oct ++ ((B s).drop i).map low1).toArray⟩ := by
 intro d
 induction d with
 | zero =>
  intro k i acc hd hi ha hk
  obtain ⟨k, rfl⟩ := succ_of hk
  simp only [spec_Lower.l0]
  rw [if_neg (by omega), List.drop_eq_nil_of_le (by rw [B_len]; omega), strOf]; simp
 | succ d ih =>
  intro k i acc hd hi ha hk
  obtain ⟨k, rfl⟩ := succ_of hk
  have hl : i < (B s).length := by rw [B_len]; omega
  have hlen : acc.length < 140737488355328 := by omega
  have step : ∀ x : Int, oct x = low1 (B s)[i] → spec_Lower.l0 k s (acc ++ [x]) ((i + 1 : Nat) : Int) = some ⟨(acc.map oct ++ ((B s).drop i).map low1).toArray⟩ := fun x hx => by
   rw [ih k (i + 1) (acc ++ [x]) (by omega) (by omega) (by simp; omega) (by omega), drop_at hl, List.map_append, List.append_assoc, List.map_cons, List.map_cons, hx]
   rfl
  have hw := nat_round (i := i) (n := s.size) (by omega) (by omega)
  have hc := ((B s)[i]).toNat_lt
  simp only [spec_Lower.l0]
  rw [if_pos (by omega), if_pos (by omega), bt_get s i hl, hw]
  split
  ·split
   ·try rw [if_pos hlen]
    refine step _ ?_
    unfold low1 oct
    rw [if_pos (by omega), show ((((B s)[i]).toNat : Int) + 32) % 256 = ((((B s)[i]).toNat + 32 : Nat) : Int) by omega, Int.toNat_natCast]
   ·try rw [if_pos hlen]
    exact step _ (by rw [oct_nat]; unfold low1; rw [if_neg (by omega)])
  ·try rw [if_pos hlen]
   exact step _ (by rw [oct_nat]; unfold low1; rw [if_neg (by omega)])
def lowB (s : ByteArray) : ByteArray := ⟨((B s).map low1).toArray⟩
theorem B_lowB (s : ByteArray) : B (lowB s) = (B s).map low1 := B_mk _
theorem spec_Lower_f {k : Nat} {s : ByteArray} (hs : (s.size : Int) ≤ 140737488355327) (hk : s.size < k) : spec_Lower.f k s = some (lowB s) := by
 unfold spec_Lower.f
 have := spec_Lower_l0 s hs s.size k 0 [] (by omega) (by omega) (by simp) hk
 simpa [lowB] using this
theorem impl_Lower_f {s : ByteArray} (hs : (s.size : Int) ≤ 140737488355327) : impl_Lower.f s = some (lowB s) := by
 unfold impl_Lower.f
 rw [if_pos (by omega)]; rfl
def tok1 (c : UInt8) : Bool := decide (97 ≤ c.toNat ∧ c.toNat ≤ 122 ∨ 48 ≤ c.toNat ∧ c.toNat ≤ 57 ∨ c.toNat = 45)
def tokB (s : ByteArray) : Bool := (B s).all tok1 && decide (1 ≤ s.size ∧ s.size ≤ 20)
theorem spec_l1In_f (x a b : Int) : spec_l1In.f x a b = some (decide (a ≤ x ∧ x ≤ b)) := by
 unfold spec_l1In.f
 by_cases h : x ≥ a <;> simp [h]
theorem impl_inRange_f (x a b : Int) : impl_inRange.f x a b = some (decide (a ≤ x ∧ x ≤ b)) := by
 unfold impl_inRange.f
 by_cases h : x ≥ a <;> simp [h]
theorem tok_round (k : Nat) (s : ByteArray) (i : Nat) (hs : (s.size : Int) ≤ 9223372036854775807) (hi : i < s.size) (hl : i < (B s).length) :
  spec_TokenOk.l0 (k + 1) s i = (if tok1 (B s)[i] then spec_TokenOk.l0 k s ((i + 1 : Nat) : Int) else some false) ∧ impl_TokenOk.l0 (k + 1) s i = (if tok1 (B s)[i] then impl_TokenOk.l0 k s ((i + 1 : Nat) : Int) else some false) := by
 have hw := nat_round (i := i) (n := s.size) hi hs
 simp only [spec_TokenOk.l0, impl_TokenOk.l0]
 rw [if_pos (by omega), if_pos (by omega), bt_get s i hl, hw]
 unfold tok1
 generalize ((B s)[i]).toNat = c
 constructor
 all_goals
  by_cases h : 97 ≤ c ∧ c ≤ 122 ∨ 48 ≤ c ∧ c ≤ 57 ∨ c = 45
  ·simp only [decide_eq_true h, if_true]
   repeat' (split <;> try rfl)
   all_goals omega
  ·simp only [decide_eq_false h, Bool.false_eq_true, if_false]
   repeat' (split <;> try rfl)
   all_goals omega
theorem tok_l0 (s : ByteArray) (hs : (s.size : Int) ≤ 9223372036854775807) : ∀ (d k i : Nat), s.size - i = d → i ≤ s.size → d < k →
  spec_TokenOk.l0 k s i = some (((B s).drop i).all tok1 && decide (1 ≤ s.size ∧ s.size ≤ 20)) ∧ impl_TokenOk.l0 k s i = some (((B s).drop i).all tok1 && decide (1 ≤ s.size ∧ s.size ≤ 20)) := by
 intro d
 induction d with
 | zero =>
  intro k i hd hi hk
  obtain ⟨k, rfl⟩ := succ_of hk
  simp only [spec_TokenOk.l0, impl_TokenOk.l0, spec_l1In_f, impl_inRange_f, Option.bind_some]
  have hni : ¬ ((i : Int) < (s.size : Int)) := by omega
  simp only [if_neg hni]
  rw [List.drop_eq_nil_of_le (by rw [B_len]; omega)]
  have : decide ((1 : Int) ≤ (s.size : Int) ∧ (s.size : Int) ≤ 20) = decide (1 ≤ s.size ∧ s.size ≤ 20) := decide_eq_decide.2 (by omega)
  rw [this]; simp
 | succ d ih =>
  intro k i hd hi hk
  obtain ⟨k, rfl⟩ := succ_of hk
  have hl : i < (B s).length := by rw [B_len]; omega
  obtain ⟨h1, h2⟩ := tok_round k s i hs (by omega) hl
  obtain ⟨i1, i2⟩ := ih k (i + 1) (by omega) (by omega) (by omega)
  rw [h1, h2, i1, i2, drop_at hl, List.all_cons]
  cases tok1 (B s)[i] <;> simp
theorem spec_TokenOk_f {k : Nat} {s : ByteArray} (hs : (s.size : Int) ≤ 9223372036854775807) (hk : s.size < k) : spec_TokenOk.f k s = some (tokB s) := (tok_l0 s hs s.size k 0 (by omega) (by omega) hk).1
theorem impl_TokenOk_f {k : Nat} {s : ByteArray} (hs : (s.size : Int) ≤ 9223372036854775807) (hk : s.size < k) : impl_TokenOk.f k s = some (tokB s) := (tok_l0 s hs s.size k 0 (by omega) (by omega) hk).2
def getF (n : ByteArray) : List S116 → Option ByteArray
 | [] => none
 | x :: r => if x.f0 = n then some x.f1 else getF n r
def putF (n v : ByteArray) : List S116 → List S116
 | [] => [⟨n, v⟩]
 | x :: r => if x.f0 = n then ⟨x.f0, v⟩ :: r else x :: putF n v r
def dropF (n : ByteArray) : List S116 → List S116
 | [] => []
 | x :: r => if x.f0 = n then r else x :: dropF n r
theorem at_cons (n : ByteArray) (x : S116) (r : List S116) (i : Nat) : at_ n (x :: r) i = if x.f0 = n then (i : Int) else at_ n r (i + 1) := by
 simp only [at_]
 by_cases h : x.f0 = n
 ·rw [if_pos h, if_pos (by rw [h]; simp)]
 ·rw [if_neg h, if_neg (by simpa using fun e => h (toList_inj e))]
theorem at_cases (n v : ByteArray) : ∀ (l : List S116) (i : Nat), (at_ n l i = -1 ∧ getF n l = none ∧ putF n v l = l ++ [⟨n, v⟩] ∧ dropF n l = l) ∨
  ∃ j, ∃ h : j < l.length, at_ n l i = ((i + j : Nat) : Int) ∧ l[j].f0 = n ∧ getF n l = some l[j].f1 ∧ putF n v l = l.set j ⟨l[j].f0, v⟩ ∧ dropF n l = l.eraseIdx j
 | [], i => .inl ⟨rfl, rfl, rfl, rfl⟩
 | x :: r, i => by
  rw [at_cons]
  by_cases h : x.f0 = n
  ·exact .inr ⟨0, by simp, by rw [if_pos h]; rfl, h, by simp [getF, h], by simp [putF, h], by simp [dropF, h]⟩
  ·rw [if_neg h]
   rcases at_cases n v r (i + 1) with ⟨h1, h2, h3, h4⟩ | ⟨j, hj, h1, h0, h2, h3, h4⟩
   ·exact .inl ⟨h1, by simp [getF, h, h2], by simp [putF, h, h3], by simp [dropF, h, h4]⟩
   ·exact .inr ⟨j + 1, by simp; omega, by rw [h1]; congr 1; omega, by simpa using h0, by simp [getF, h, h2], by simp [putF, h, h3], by simp [dropF, h, h4]⟩
theorem impl_fieldAt_f {l : List S116} {n : ByteArray} (hl : l.length < 4398046511104) : impl_fieldAt.f l n = some (at_ n l 0) := by
 unfold impl_fieldAt.f; rw [if_pos hl]
theorem putF_length (n v : ByteArray) (l : List S116) : (putF n v l).length ≤ l.length + 1 := by
 rcases at_cases n v l 0 with ⟨_, _, h, _⟩ | ⟨j, hj, _, _, _, h, _⟩ <;> rw [h] <;> simp
theorem dropF_length (n : ByteArray) (l : List S116) : (dropF n l).length ≤ l.length := by
 rcases at_cases n n l 0 with ⟨_, _, _, h⟩ | ⟨j, hj, _, _, _, _, h⟩ <;> rw [h] <;> simp [List.length_eraseIdx] <;> split <;> omega
theorem spec_l2At_l0 (l : List S116) (n : ByteArray) (hl : (l.length : Int) ≤ 9223372036854775807) : ∀ (d k i : Nat), l.length - i = d → i ≤ l.length → d < k → spec_l2At.l0 k l n i = some (at_ n (l.drop i) i) := by
 intro d
 induction d with
 | zero =>
  intro k i hd hi hk
  obtain ⟨k, rfl⟩ := succ_of hk
  simp only [spec_l2At.l0]
  rw [if_neg (by omega), List.drop_eq_nil_of_le (by omega)]; rfl
 | succ d ih =>
  intro k i hd hi hk
  obtain ⟨k, rfl⟩ := succ_of hk
  have hlt : i < l.length := by omega
  have hx : rd_T116 l (i : Int) = l[i] := by simp [rd_T116, List.getD, hlt]
  simp only [spec_l2At.l0]
  rw [if_pos (by omega), if_pos (by omega), hx, nat_round hlt hl, ih k (i + 1) (by omega) (by omega) (by omega), drop_at hlt, at_cons]
  by_cases h : l[i].f0 = n
  ·rw [if_pos h, if_pos (by rw [h])]
  ·rw [if_neg h, if_neg (fun e => h (toList_inj e))]
theorem spec_l2At_f {k : Nat} {l : List S116} {n : ByteArray} (hl : (l.length : Int) ≤ 9223372036854775807) (hk : l.length < k) : spec_l2At.f k l n = some (at_ n l 0) := spec_l2At_l0 l n hl l.length k 0 (by omega) (by omega) hk
theorem rd_F (l : List S116) (j : Nat) (h : j < l.length) : rd_T116 l (j : Int) = l[j] := by simp [rd_T116, List.getD, h]
theorem impl_Get_f {l : List S116} {n : ByteArray} (hl : l.length < 4398046511104) : impl_Get.f l n = some ((getF n l).getD ⟨#[]⟩, (getF n l).isSome) := by
 unfold impl_Get.f
 rw [impl_fieldAt_f hl, Option.bind_some]
 rcases at_cases n n l 0 with ⟨h1, h2, _, _⟩ | ⟨j, hj, h1, _, h2, _, _⟩
 ·rw [h1, h2, if_pos (by omega)]; rfl
 ·rw [h1, h2, if_neg (by omega), if_pos (by omega), if_pos (by omega), Nat.zero_add, rd_F l j hj]; rfl
theorem spec_Get_f {k : Nat} {l : List S116} {n : ByteArray} (hl : (l.length : Int) ≤ 9223372036854775807) (hk : l.length < k) : spec_Get.f k l n = some ((getF n l).getD ⟨#[]⟩, (getF n l).isSome) := by
 unfold spec_Get.f
 rw [spec_l2At_f hl hk, Option.bind_some]
 rcases at_cases n n l 0 with ⟨h1, h2, _, _⟩ | ⟨j, hj, h1, _, h2, _, _⟩
 ·rw [h1, h2, if_pos (by omega)]; rfl
 ·rw [h1, h2, if_neg (by omega), if_pos (by omega), if_pos (by omega), Nat.zero_add, rd_F l j hj]; rfl
def numT (n : Int) : ByteArray := if 0 ≤ n ∧ n ≤ 1000000 then ⟨(Lib.itoa n).toArray⟩ else ⟨#[]⟩
theorem digit_of (u : Nat) : oct ((wrap64 (48 + Int.tmod (u : Int) 10)) % 256) = UInt8.ofNat (48 + u % 10) := by
 have h : Int.tmod (u : Int) 10 = ((u % 10 : Nat) : Int) := by rw [Int.tmod_eq_emod_of_nonneg (by omega)]; omega
 rw [h, w64 (by omega), show (48 + ((u % 10 : Nat) : Int)) % 256 = ((48 + u % 10 : Nat) : Int) by omega]
 unfold oct
 rw [Int.toNat_natCast]
theorem decDigits_len (u : Nat) : ∀ d, u < 10 ^ (d + 1) → (Lib.decDigits u).length ≤ d + 1 := by
 intro d
 induction d generalizing u with
 | zero => intro h; rw [Lib.decDigits, dif_pos (by omega)]; simp
 | succ d ih =>
  intro h
  rw [Lib.decDigits]
  split
  ·simp
  ·have h10 : (10 : Nat) ^ (d + 1 + 1) = 10 ^ (d + 1) * 10 := rfl
   have := ih (u / 10) (by omega)
   simp only [List.length_append, List.length_cons, List.length_nil]; omega
theorem itoa_nat (u : Nat) : Lib.itoa (u : Int) = Lib.decDigits u := by
 unfold Lib.itoa; rw [if_neg (by omega), Int.toNat_natCast]
theorem numT_size (t : Int) : (numT t).size ≤ 20 := by
 unfold numT
 split
 ·rename_i h
  obtain ⟨u, rfl⟩ : ∃ u : Nat, t = u := ⟨t.toNat, by omega⟩
  have hl := decDigits_len u 6 (by omega)
  rw [itoa_nat, ← B_len, B_mk (Lib.decDigits u)]; omega
 ·simp [ByteArray.size]
theorem spec_NumText_l0 : ∀ (d k u : Nat) (acc : ByteArray), u < 10 ^ d → acc.size + d ≤ 1000 → u ≤ 4611686018427387904 → d < k →
  spec_NumText.l0 k (u : Int) acc = some (if u = 0 then acc else ⟨(Lib.decDigits u ++ B acc).toArray⟩) := by
 intro d
 induction d with
 | zero =>
  intro k u acc hu ha hb hk
  obtain ⟨k, rfl⟩ := succ_of hk
  obtain rfl : u = 0 := by simp at hu; omega
  simp only [spec_NumText.l0]
  rw [if_neg (by omega), if_pos trivial]
 | succ d ih =>
  intro k u acc hu ha hb hk
  obtain ⟨k, rfl⟩ := succ_of hk
  simp only [spec_NumText.l0]
  by_cases h0 : u = 0
  ·rw [if_neg (by omega), if_pos h0]
  have h10 : (10 : Nat) ^ (d + 1) = 10 ^ d * 10 := rfl
  rw [if_pos (by omega), Option.bind_some, if_pos (by rw [strOfNums_size]; simp; omega), if_neg h0]
  have hdiv : wrap64 (Int.tdiv (u : Int) 10) = ((u / 10 : Nat) : Int) := by
   rw [Int.tdiv_eq_ediv_of_nonneg (by omega), w64 (by omega)]; omega
  rw [hdiv, ih k (u / 10) _ (by omega) (by rw [ByteArray.size_append, strOfNums_size]; simp; omega) (by omega) (by omega)]
  refine congrArg some ?_
  have hB : B (strOfNums [(wrap64 (48 + Int.tmod (u : Int) 10)) % 256] ++ acc) = UInt8.ofNat (48 + u % 10) :: B acc := by
   rw [B_append, B_strOf, List.map_cons, List.map_nil, digit_of]; rfl
  split
  ·rename_i h1
   apply B_ext
   rw [hB, B_mk (Lib.decDigits u ++ B acc), Lib.decDigits, dif_pos (by omega), show u % 10 = u by omega]
   rfl
  ·rename_i h1
   apply B_ext
   rw [hB, B_mk (Lib.decDigits (u / 10) ++ _), B_mk (Lib.decDigits u ++ B acc)]
   conv => rhs; rw [Lib.decDigits]
   rw [dif_neg (by omega), List.append_assoc]
   rfl
theorem spec_NumText_f {k : Nat} {n : Int} (hk : 30 < k) : spec_NumText.f k n = some (numT n) := by
 unfold spec_NumText.f numT
 rw [spec_l1In_f, Option.bind_some]
 by_cases h : 0 ≤ n ∧ n ≤ 1000000
 ·rw [if_pos (decide_eq_true h), if_pos h]
  obtain ⟨u, rfl⟩ : ∃ u : Nat, n = u := ⟨n.toNat, by omega⟩
  rw [itoa_nat]
  by_cases h0 : u = 0
  ·subst h0
   rw [if_pos (show ((0 : Nat) : Int) = 0 from rfl), Lib.decDigits, dif_pos (by omega)]; rfl
  ·rw [if_neg (by omega), spec_NumText_l0 20 k u _ (by omega) (by decide) (by omega) (by omega), if_neg h0, B_empty, List.append_nil]
 ·rw [if_neg (by simpa using h), if_neg h]
def trimT (s : ByteArray) : ByteArray := ⟨(Lib.trimB (B s) 32).toArray⟩
theorem oct32 (c : UInt8) : ((c.toNat : Int) = 32) ↔ c = 32 := by
 constructor
 ·intro h
  have : c.toNat = (32 : UInt8).toNat := by show c.toNat = 32; omega
  exact UInt8.toNat_inj.1 this
 ·rintro rfl; rfl
theorem spec_Trim_l1 (s : ByteArray) (hs : (s.size : Int) ≤ 4611686018427387904) (i : Nat) (hi : i ≤ s.size) : ∀ (d k m : Nat), m = i + d → m ≤ s.size → d < k → (∀ j (h : j < (B s).length), m ≤ j → (B s)[j] = 32) →
  ∃ n, i ≤ n ∧ n ≤ s.size ∧ spec_Trim.l1 k s i m = some (s.extract i n) ∧ (∀ j (h : j < (B s).length), n ≤ j → (B s)[j] = 32) ∧ (n = i ∨ ∀ (h : n - 1 < (B s).length), (B s)[n - 1] ≠ 32) := by
 intro d
 induction d with
 | zero =>
  intro k m hm hms hk hall
  obtain ⟨k, rfl⟩ := succ_of hk
  refine ⟨m, by omega, hms, ?_, hall, .inl (by omega)⟩
  simp only [spec_Trim.l1]
  rw [if_neg (by omega), if_pos (by omega), if_pos (by omega), if_pos (by omega), Int.toNat_natCast, Int.toNat_natCast]
 | succ d ih =>
  intro k m hm hms hk hall
  obtain ⟨k, rfl⟩ := succ_of hk
  have hl : m - 1 < (B s).length := by rw [B_len]; omega
  have hw : wrap64 ((m : Int) - 1) = ((m - 1 : Nat) : Int) := by rw [w64 (by omega)]; omega
  simp only [spec_Trim.l1]
  rw [hw, if_pos (by omega), if_pos (by omega), if_pos (by omega), bt_get s (m - 1) hl]
  by_cases c : (B s)[m - 1] = 32
  ·rw [if_pos ((oct32 _).2 c)]
   refine ih k (m - 1) (by omega) (by omega) (by omega) (fun j h hj => ?_)
   by_cases e : j = m - 1
   ·subst e; exact c
   ·exact hall j h (by omega)
  ·rw [if_neg (fun e => c ((oct32 _).1 e)), if_pos (by omega), if_pos (by omega), if_pos (by omega), Int.toNat_natCast, Int.toNat_natCast]
   exact ⟨m, by omega, hms, rfl, hall, .inr fun _ => c⟩
theorem trim_is (s : ByteArray) (i n : Nat) (hi : i ≤ n) (hn : n ≤ s.size) (h1 : ∀ j (h : j < (B s).length), j < i → (B s)[j] = 32) (h2 : ∀ h : i < (B s).length, (B s)[i] ≠ 32) (h3 : ∀ j (h : j < (B s).length), n ≤ j → (B s)[j] = 32) (h4 : n = i ∨ ∀ (h : n - 1 < (B s).length), (B s)[n - 1] ≠ 32) :
  s.extract i n = trimT s := by
 apply B_ext
 rw [B_extract]
 unfold trimT
 rw [B_mk (Lib.trimB (B s) 32)]
 have hlen := B_len s
 unfold Lib.trimB
 by_cases hi' : i < s.size
 ·have hni : n ≠ i := fun e => h2 (by omega) (h3 i (by omega) (by omega))
  rw [Lib.trimRightB_take (B s) 32 n (by omega) (fun j b hj hb => by
   obtain ⟨hj', rfl⟩ := List.getElem?_eq_some_iff.1 hb
   exact h3 j hj' hj) (fun b _ hb => by
   obtain ⟨hj', rfl⟩ := List.getElem?_eq_some_iff.1 hb
   rcases h4 with h4 | h4
   ·exact absurd h4 hni
   ·exact h4 hj'),
   Lib.trimLeftB_drop ((B s).take n) 32 i (by rw [List.length_take]; omega) (fun j b hj hb => by
    rw [List.getElem?_take_of_lt (by omega)] at hb
    obtain ⟨hj', rfl⟩ := List.getElem?_eq_some_iff.1 hb
    exact h1 j hj' hj) (fun b hb => by
    rw [List.getElem?_take_of_lt (by omega)] at hb
    obtain ⟨hj', rfl⟩ := List.getElem?_eq_some_iff.1 hb
    exact h2 hj')]
 ·rw [Lib.trimRightB_take (B s) 32 0 (by omega) (fun j b _ hb => by
   obtain ⟨hj', rfl⟩ := List.getElem?_eq_some_iff.1 hb
   exact h1 j hj' (by omega)) (fun b h _ => by omega)]
  rw [List.drop_eq_nil_of_le (by rw [List.length_take]; omega)]
  rfl
theorem spec_Trim_l0 (s : ByteArray) (hs : (s.size : Int) ≤ 4611686018427387904) : ∀ (d k i : Nat), s.size = i + d → d + s.size + 2 < k → (∀ j (h : j < (B s).length), j < i → (B s)[j] = 32) → spec_Trim.l0 k s i (s.size : Int) = some (trimT s) := by
 intro d
 have fin : ∀ (k i : Nat), i ≤ s.size → s.size + 1 < k → (∀ j (h : j < (B s).length), j < i → (B s)[j] = 32) → (∀ h : i < (B s).length, (B s)[i] ≠ 32) → spec_Trim.j1 k s i (s.size : Int) = some (trimT s) := by
  intro k i hi hk h1 h2
  obtain ⟨k, rfl⟩ := succ_of (show 0 < k by omega)
  simp only [spec_Trim.j1]
  obtain ⟨n, n1, n2, n3, n4, n5⟩ := spec_Trim_l1 s hs i hi (s.size - i) k s.size (by omega) (Nat.le_refl _) (by omega) (fun j h hj => by rw [B_len] at h; omega)
  rw [n3, trim_is s i n n1 n2 h1 h2 n4 n5]
 induction d with
 | zero =>
  intro k i hd hk hall
  obtain ⟨k, rfl⟩ := succ_of (show 0 < k by omega)
  simp only [spec_Trim.l0]
  rw [if_neg (by omega)]
  exact fin k i (by omega) (by omega) hall (fun h => by rw [B_len] at h; omega)
 | succ d ih =>
  intro k i hd hk hall
  obtain ⟨k, rfl⟩ := succ_of (show 0 < k by omega)
  have hl : i < (B s).length := by rw [B_len]; omega
  simp only [spec_Trim.l0]
  rw [if_pos (by omega), if_pos (by omega), if_pos (by omega), bt_get s i hl, nat_round (n := s.size) (by omega) (by omega)]
  by_cases c : (B s)[i] = 32
  ·rw [if_pos ((oct32 _).2 c)]
   refine ih k (i + 1) (by omega) (by omega) (fun j h hj => ?_)
   by_cases e : j = i
   ·subst e; exact c
   ·exact hall j h (by omega)
  ·rw [if_neg (fun e => c ((oct32 _).1 e))]
   exact fin k i (by omega) (by omega) hall (fun _ => c)
theorem spec_Trim_f {k : Nat} {s : ByteArray} (hs : (s.size : Int) ≤ 4611686018427387904) (hk : 2 * s.size + 2 < k) : spec_Trim.f k s = some (trimT s) :=
 spec_Trim_l0 s hs s.size k 0 (by omega) (by omega) (fun j _ hj => by omega)
theorem impl_Trim_f {s : ByteArray} (hs : (s.size : Int) ≤ 4611686018427387904) : impl_Trim.f s = some (trimT s) := by
 unfold impl_Trim.f strings_Trim.f
 rw [if_pos ⟨rfl, by omega⟩, Option.bind_some]
 rfl
def decV (acc : Nat) (l : List UInt8) : Nat := l.foldl (fun a c => a * 10 + (c.toNat - 48)) acc
def digs (l : List UInt8) : Bool := l.all fun c => decide (48 ≤ c.toNat ∧ c.toNat ≤ 57)
theorem decV_cons (acc : Nat) (c : UInt8) (r : List UInt8) : decV acc (c :: r) = decV (acc * 10 + (c.toNat - 48)) r := by unfold decV; rw [List.foldl_cons]
theorem decV_nil (acc : Nat) : decV acc [] = acc := by unfold decV; rw [List.foldl_nil]
theorem decV_append (a b : List UInt8) (acc : Nat) : decV acc (a ++ b) = decV (decV acc a) b := by
 induction a generalizing acc with
 | nil => rw [List.nil_append, decV_nil]
 | cons c r ih => rw [List.cons_append, decV_cons, decV_cons, ih]
theorem digit_nat (u : Nat) (h : u < 10) : (UInt8.ofNat (48 + u)).toNat = 48 + u := by
 exact UInt8.toNat_ofNat_of_lt' (by show 48 + u < 256; omega)
theorem dec_facts (u : Nat) : decV 0 (Lib.decDigits u) = u ∧ digs (Lib.decDigits u) = true ∧ Lib.decDigits u ≠ [] := by
 induction u using Nat.strongRecOn with
 | _ u ih =>
  rw [Lib.decDigits]
  split
  ·rename_i h
   refine ⟨?_, ?_, by simp⟩
   ·rw [decV_cons, decV_nil, digit_nat u h]; omega
   ·simp only [digs, List.all_cons, List.all_nil]; rw [digit_nat u h, decide_eq_true (by omega)]; rfl
  ·rename_i h
   obtain ⟨h1, h2, h3⟩ := ih (u / 10) (by omega)
   refine ⟨?_, ?_, by simp⟩
   ·rw [decV_append, h1, decV_cons, decV_nil, digit_nat (u % 10) (by omega)]; omega
   ·unfold digs at h2 ⊢
    rw [List.all_append, h2, List.all_cons, List.all_nil, digit_nat (u % 10) (by omega), decide_eq_true (by omega)]; rfl
theorem parse_digs : ∀ (l : List UInt8) (acc j : Nat), digs l = true → acc < 10 ^ j → j + l.length ≤ 18 → Lib.parseUint10 acc l = .ok (decV acc l)
 | [], acc, j, _, _, _ => by rw [decV_nil]; rfl
 | c :: r, acc, j, hd, ha, hj => by
  unfold digs at hd
  rw [List.all_cons, Bool.and_eq_true] at hd
  have hc := of_decide_eq_true hd.1
  simp only [List.length_cons] at hj
  have hp : (10 : Nat) ^ (j + 1) = 10 ^ j * 10 := rfl
  have hb : (10 : Nat) ^ j ≤ 10 ^ 17 := Nat.pow_le_pow_right (by omega) (by omega)
  simp only [Lib.parseUint10]
  rw [decV_cons, if_pos hc, if_neg (by omega), if_neg (by omega)]
  exact parse_digs r _ (j + 1) hd.2 (by omega) (by omega)
theorem atoi_dec (n : Nat) (h : n ≤ 1000000) : Lib.atoiAll (Lib.decDigits n) = .ok (n : Int) := by
 obtain ⟨h1, h2, h3⟩ := dec_facts n
 have hl := decDigits_len n 6 (by omega)
 have hp := parse_digs (Lib.decDigits n) 0 0 h2 (by omega) (by omega)
 rw [h1] at hp
 cases e : Lib.decDigits n with
 | nil => exact absurd e h3
 | cons c r =>
  rw [e] at hp h2
  unfold digs at h2
  rw [List.all_cons, Bool.and_eq_true] at h2
  have hc := of_decide_eq_true h2.1
  simp only [Lib.atoiAll]
  rw [if_neg (by omega)]
  unfold Lib.parseMag
  rw [if_neg (by simp), hp]
  simp only
  rw [if_neg (by omega), if_neg (by omega), if_neg (by omega)]
theorem numRead_yes {s : ByteArray} {n : Nat} (h : n ≤ 1000000) (hs : B s = Lib.decDigits n) : numRead s = ((n : Int), true) := by
 have hl := decDigits_len n 6 (by omega)
 rw [← hs, B_len] at hl
 unfold numRead
 rw [if_neg (by omega)]
 show (match Lib.atoiAll (B s) with | .ok n => if 0 ≤ n ∧ n ≤ 1000000 ∧ Lib.itoa n = B s then (n, true) else (0, false) | _ => (0, false)) = _
 rw [hs, atoi_dec n h]
 simp only
 rw [if_pos ⟨by omega, by omega, itoa_nat n⟩]
theorem numRead_no {s : ByteArray} (h : ∀ n : Nat, n ≤ 1000000 → B s ≠ Lib.decDigits n) : numRead s = (0, false) := by
 unfold numRead
 split
 ·rfl
 split
 ·rename_i n _
  rw [if_neg]
  rintro ⟨h1, h2, h3⟩
  obtain ⟨u, rfl⟩ : ∃ u : Nat, n = u := ⟨n.toNat, by omega⟩
  rw [itoa_nat] at h3
  exact h u (by omega) h3.symm
 ·rfl
theorem spec_NumRead_l0 (s : ByteArray) (hs : s.size ≤ 7) : ∀ (d k i v : Nat), s.size = i + d → v < 10 ^ i → d + 40 < k →
  spec_NumRead.l0 k s v i = some (if digs ((B s).drop i) = true ∧ numT ((decV v ((B s).drop i) : Nat) : Int) = s then (((decV v ((B s).drop i) : Nat) : Int), true) else (0, false)) := by
 intro d
 induction d with
 | zero =>
  intro k i v hd hv hk
  obtain ⟨k, rfl⟩ := succ_of (show 0 < k by omega)
  simp only [spec_NumRead.l0]
  rw [if_neg (by omega), List.drop_eq_nil_of_le (by rw [B_len]; omega), spec_NumText_f (by omega), Option.bind_some, decV_nil]
  by_cases h : numT (v : Int) = s
  ·rw [if_pos (by rw [h]), if_pos ⟨rfl, h⟩]
  ·rw [if_neg (fun e => h (toList_inj e)), if_neg (fun e => h e.2)]
 | succ d ih =>
  intro k i v hd hv hk
  obtain ⟨k, rfl⟩ := succ_of (show 0 < k by omega)
  have hl : i < (B s).length := by rw [B_len]; omega
  have hp : (10 : Nat) ^ (i + 1) = 10 ^ i * 10 := rfl
  have hb : (10 : Nat) ^ i ≤ 10 ^ 7 := Nat.pow_le_pow_right (by omega) (by omega)
  simp only [spec_NumRead.l0]
  rw [if_pos (by omega), if_pos (by omega), bt_get s i hl, nat_round (n := s.size) (by omega) (by omega), drop_at hl, decV_cons]
  by_cases h1 : ((B s)[i].toNat : Int) < 48
  ·rw [if_pos h1, if_neg]
   rintro ⟨e, _⟩
   unfold digs at e
   rw [List.all_cons, decide_eq_false (by omega)] at e
   exact Bool.noConfusion e
  rw [if_neg h1]
  by_cases h2 : ((B s)[i].toNat : Int) > 57
  ·rw [if_pos h2, if_neg]
   rintro ⟨e, _⟩
   unfold digs at e
   rw [List.all_cons, decide_eq_false (by omega)] at e
   exact Bool.noConfusion e
  rw [if_neg h2, w64 (n := 10 * (v : Int)) (by omega), w64 (n := ((B s)[i].toNat : Int)) (by omega), w64 (n := 10 * (v : Int) + _) (by omega), w64 (by omega),
   show 10 * (v : Int) + ((B s)[i].toNat : Int) - 48 = ((v * 10 + ((B s)[i].toNat - 48) : Nat) : Int) by omega, ih k (i + 1) _ (by omega) (by omega) (by omega)]
  have hg : digs ((B s)[i] :: (B s).drop (i + 1)) = digs ((B s).drop (i + 1)) := by
   unfold digs
   rw [List.all_cons, decide_eq_true (by omega), Bool.true_and]
  rw [hg]
theorem spec_NumRead_f {k : Nat} {s : ByteArray} (hk : 60 < k) : spec_NumRead.f k s = some (numRead s) := by
 obtain ⟨k, rfl⟩ := succ_of (show 0 < k by omega)
 have hlenf : ∀ n : Nat, n ≤ 1000000 → B s = Lib.decDigits n → 1 ≤ s.size ∧ s.size ≤ 7 := fun n h e => by
  obtain ⟨_, _, h3⟩ := dec_facts n
  have hl := decDigits_len n 6 (by omega)
  have : 1 ≤ (Lib.decDigits n).length := by
   cases e : Lib.decDigits n with
   | nil => exact absurd e h3
   | cons c r => simp
  rw [← e, B_len] at hl this
  omega
 unfold spec_NumRead.f
 have e0 : (s.toList = []) ↔ s.size = 0 := by
  rw [toList_B]
  constructor
  ·intro e; rw [← B_len, e]; rfl
  ·intro e; exact List.eq_nil_of_length_eq_zero (by rw [B_len, e])
 by_cases h0 : s.size = 0
 ·rw [if_pos (e0.2 h0)]
  simp only [spec_NumRead.j0]
  rw [if_pos trivial, numRead_no (fun n h e => by have := hlenf n h e; omega)]
 rw [if_neg (fun e => h0 (e0.1 e))]
 simp only [spec_NumRead.j0]
 by_cases h7 : s.size > 7
 ·rw [if_pos (decide_eq_true (by omega)), numRead_no (fun n h e => by have := hlenf n h e; omega)]
 rw [if_neg (by simp; omega)]
 have hl0 := spec_NumRead_l0 s (by omega) s.size k 0 0 (by omega) (by omega) (by omega)
 rw [List.drop_zero] at hl0
 refine hl0.trans (congrArg some ?_)
 by_cases h : ∃ n : Nat, n ≤ 1000000 ∧ B s = Lib.decDigits n
 ·obtain ⟨n, hn, e⟩ := h
  obtain ⟨h1, h2, h3⟩ := dec_facts n
  have hT : numT (n : Int) = s := by
   unfold numT
   rw [if_pos (by omega), itoa_nat, ← e]
   exact B_ext (B_mk _)
  rw [numRead_yes hn e, e, h1, if_pos ⟨h2, hT⟩]
 ·rw [numRead_no (fun n hn e => h ⟨n, hn, e⟩), if_neg]
  rintro ⟨_, e⟩
  unfold numT at e
  split at e
  ·rename_i hr
   rw [itoa_nat] at e
   exact h ⟨decV 0 (B s), by omega, (congrArg B e).symm.trans (B_mk (Lib.decDigits _))⟩
  ·exact h0 (by rw [← e]; rfl)
theorem impl_NumRead_f {s : ByteArray} : impl_NumRead.f s = some (numRead s) := rfl
def fromB (m : Int) (s : ByteArray) : Bool := (B s).all fun c => decide (m ≤ (c.toNat : Int) ∧ (c.toNat : Int) ≤ 126)
def fromD (m : Int) (l : List UInt8) : Bool := l.all fun c => decide (m ≤ (c.toNat : Int) ∧ (c.toNat : Int) ≤ 126)
def valB (s : ByteArray) : Bool := decide (1 ≤ s.size ∧ s.size ≤ 60) && fromB 32 s && decide (trimT s = s)
theorem beq_texts (a b : ByteArray) : (a.toList == b.toList) = decide (a = b) := by
 rw [Bool.eq_iff_iff, beq_iff_eq, decide_eq_true_eq, toList_iff]
theorem in_range (s : ByteArray) (a b : Nat) : decide ((a : Int) ≤ (s.size : Int) ∧ (s.size : Int) ≤ (b : Int)) = decide (a ≤ s.size ∧ s.size ≤ b) := decide_eq_decide.2 (by omega)
theorem spec_ValueOk_l0 (s : ByteArray) (hs : (s.size : Int) ≤ 4611686018427387904) : ∀ (d k i : Nat), s.size = i + d → d + 2 * s.size + 3 < k →
  spec_ValueOk.l0 k s i = some (fromD 32 ((B s).drop i) && decide (1 ≤ s.size ∧ s.size ≤ 60) && decide (trimT s = s)) := by
 intro d
 induction d with
 | zero =>
  intro k i hd hk
  obtain ⟨k, rfl⟩ := succ_of (show 0 < k by omega)
  simp only [spec_ValueOk.l0]
  rw [if_neg (by omega), spec_l1In_f, Option.bind_some, List.drop_eq_nil_of_le (by rw [B_len]; omega), show (1 : Int) = ((1 : Nat) : Int) from rfl, show (60 : Int) = ((60 : Nat) : Int) from rfl, in_range]
  by_cases h : 1 ≤ s.size ∧ s.size ≤ 60
  ·rw [if_pos (decide_eq_true h), spec_Trim_f hs (by omega), Option.bind_some, beq_texts, decide_eq_true h]; simp [fromD]
  ·rw [if_neg (by simpa using h), decide_eq_false h]; simp
 | succ d ih =>
  intro k i hd hk
  obtain ⟨k, rfl⟩ := succ_of (show 0 < k by omega)
  have hl : i < (B s).length := by rw [B_len]; omega
  simp only [spec_ValueOk.l0]
  rw [if_pos (by omega), if_pos (by omega), bt_get s i hl, nat_round (n := s.size) (by omega) (by omega), drop_at hl]
  unfold fromD
  rw [List.all_cons]
  by_cases h1 : ((B s)[i].toNat : Int) < 32
  ·rw [if_pos h1, decide_eq_false (by omega)]; simp
  ·rw [if_neg h1]
   by_cases h2 : ((B s)[i].toNat : Int) > 126
   ·rw [if_pos h2, decide_eq_false (by omega)]; simp
   ·rw [if_neg h2, decide_eq_true (by omega), Bool.true_and, ih k (i + 1) (by omega) (by omega)]; rfl
theorem spec_ValueOk_f {k : Nat} {s : ByteArray} (hs : (s.size : Int) ≤ 4611686018427387904) (hk : 3 * s.size + 3 < k) : spec_ValueOk.f k s = some (valB s) := by
 unfold spec_ValueOk.f
 rw [show (0 : Int) = ((0 : Nat) : Int) from rfl, spec_ValueOk_l0 s hs s.size k 0 (by omega) (by omega), List.drop_zero]
 unfold valB
 rw [Bool.and_comm (fromD 32 (B s))]; rfl
theorem impl_areFrom_l0 (s : ByteArray) (m : Int) (hs : (s.size : Int) ≤ 4611686018427387904) : ∀ (d k i : Nat), s.size = i + d → d < k → impl_areFrom.l0 k s m i = some (fromD m ((B s).drop i)) := by
 intro d
 induction d with
 | zero =>
  intro k i hd hk
  obtain ⟨k, rfl⟩ := succ_of (show 0 < k by omega)
  simp only [impl_areFrom.l0]
  rw [if_neg (by omega), List.drop_eq_nil_of_le (by rw [B_len]; omega)]; rfl
 | succ d ih =>
  intro k i hd hk
  obtain ⟨k, rfl⟩ := succ_of (show 0 < k by omega)
  have hl : i < (B s).length := by rw [B_len]; omega
  simp only [impl_areFrom.l0]
  rw [if_pos (by omega), if_pos (by omega), bt_get s i hl, nat_round (n := s.size) (by omega) (by omega), drop_at hl]
  unfold fromD
  rw [List.all_cons]
  by_cases h1 : ((B s)[i].toNat : Int) < m
  ·rw [if_pos h1, decide_eq_false (by omega)]; simp
  ·rw [if_neg h1]
   by_cases h2 : ((B s)[i].toNat : Int) > 126
   ·rw [if_pos h2, decide_eq_false (by omega)]; simp
   ·rw [if_neg h2, decide_eq_true (by omega), Bool.true_and, ih k (i + 1) (by omega) (by omega)]; rfl
theorem impl_areFrom_f {k : Nat} {s : ByteArray} {m : Int} (hs : (s.size : Int) ≤ 4611686018427387904) (hk : s.size < k) : impl_areFrom.f k s m = some (fromB m s) := by
 have := impl_areFrom_l0 s m hs s.size k 0 (by omega) hk
 rw [List.drop_zero] at this
 exact this
theorem impl_ValueOk_f {k : Nat} {s : ByteArray} (hs : (s.size : Int) ≤ 4611686018427387904) (hk : s.size < k) : impl_ValueOk.f k s = some (valB s) := by
 unfold impl_ValueOk.f valB
 rw [impl_inRange_f, Option.bind_some, show (1 : Int) = ((1 : Nat) : Int) from rfl, show (60 : Int) = ((60 : Nat) : Int) from rfl, in_range]
 by_cases h : 1 ≤ s.size ∧ s.size ≤ 60
 ·rw [if_pos (decide_eq_true h), impl_areFrom_f hs hk, Option.bind_some, decide_eq_true h, Bool.true_and]
  cases hf : fromB 32 s
  ·rw [if_neg (by simp)]; simp
  ·rw [if_pos rfl, impl_Trim_f hs, Option.bind_some, beq_texts, Bool.true_and]
 ·rw [if_neg (by simpa using h), decide_eq_false h]; simp
def lenName (s : ByteArray) : Bool := decide (s.toList = [99, 111, 110, 116, 101, 110, 116, 45, 108, 101, 110, 103, 116, 104])
def okFs (l : List S116) : Nat → List S116 → Bool
 | _, [] => decide (l.length ≤ 8)
 | i, x :: r => tokB x.f0 && (valB x.f1 && (!lenName x.f0 && (decide (at_ x.f0 l 0 = (i : Int)) && okFs l (i + 1) r)))
def fieldsB (l : List S116) : Bool := okFs l 0 l
def SmallF (K : Nat) (l : List S116) : Prop := l.length ≤ K ∧ ∀ x ∈ l, x.f0.size ≤ K ∧ x.f1.size ≤ K
theorem FieldsOk_l0 (K : Nat) (hK : K < 4398046511104) (l : List S116) (hl : SmallF K l) : ∀ (d k i : Nat), l.length = i + d → d + 4 * K + 4 < k →
  spec_FieldsOk.l0 k l i = some (okFs l i (l.drop i)) ∧ impl_FieldsOk.l0 k l l (l.length : Int) i = some (okFs l i (l.drop i)) := by
 obtain ⟨hn, hx⟩ := hl
 intro d
 induction d with
 | zero =>
  intro k i hd hk
  obtain ⟨k, rfl⟩ := succ_of (show 0 < k by omega)
  simp only [spec_FieldsOk.l0, impl_FieldsOk.l0]
  have h8 : decide ((l.length : Int) ≤ 8) = decide (l.length ≤ 8) := decide_eq_decide.2 (by omega)
  rw [if_neg (by omega), if_neg (by omega), List.drop_eq_nil_of_le (by omega), okFs, h8]
  exact ⟨rfl, rfl⟩
 | succ d ih =>
  intro k i hd hk
  obtain ⟨k, rfl⟩ := succ_of (show 0 < k by omega)
  have hlt : i < l.length := by omega
  obtain ⟨s0, s1⟩ := hx _ (List.getElem_mem hlt)
  obtain ⟨i1, i2⟩ := ih k (i + 1) (by omega) (by omega)
  simp only [spec_FieldsOk.l0, impl_FieldsOk.l0]
  rw [rd_F l i hlt, nat_round (n := l.length) hlt (by omega), drop_at hlt, okFs]
  refine ⟨?_, ?_⟩
  ·rw [if_pos (by omega), if_pos (by omega), spec_TokenOk_f (by omega) (by omega), Option.bind_some]
   cases tokB l[i].f0
   ·rfl
   rw [if_pos rfl, spec_ValueOk_f (by omega) (by omega), Option.bind_some]
   cases valB l[i].f1
   ·rfl
   rw [if_pos rfl, spec_l2At_f (by omega) (by omega), Option.bind_some]
   unfold lenName
   by_cases ha : at_ l[i].f0 l 0 = (i : Int)
   ·rw [if_pos ha, decide_eq_true ha]
    by_cases hL : l[i].f0.toList = [99, 111, 110, 116, 101, 110, 116, 45, 108, 101, 110, 103, 116, 104]
    ·rw [if_pos hL, decide_eq_true hL]; rfl
    ·rw [if_neg hL, decide_eq_false hL, i1]; rfl
   ·rw [if_neg ha, decide_eq_false ha]; simp
  ·rw [if_pos (by omega), if_pos (by omega), if_pos (by omega), impl_TokenOk_f (by omega) (by omega), Option.bind_some]
   cases tokB l[i].f0
   ·rfl
   rw [if_pos rfl, impl_ValueOk_f (by omega) (by omega), Option.bind_some]
   cases valB l[i].f1
   ·rfl
   rw [if_pos rfl]
   unfold lenName
   by_cases hL : l[i].f0.toList = [99, 111, 110, 116, 101, 110, 116, 45, 108, 101, 110, 103, 116, 104]
   ·rw [if_pos hL, decide_eq_true hL]; rfl
   rw [if_neg hL, decide_eq_false hL, impl_fieldAt_f (by omega), Option.bind_some]
   by_cases ha : at_ l[i].f0 l 0 = (i : Int)
   ·rw [if_pos ha, decide_eq_true ha, i2]; rfl
   ·rw [if_neg ha, decide_eq_false ha]; rfl
theorem spec_FieldsOk_f {k K : Nat} {l : List S116} (hK : K < 4398046511104) (hl : SmallF K l) (hk : 5 * K + 4 < k) : spec_FieldsOk.f k l = some (fieldsB l) := by
 have := (FieldsOk_l0 K hK l hl l.length k 0 (by omega) (by have := hl.1; omega)).1
 simpa [spec_FieldsOk.f, fieldsB] using this
theorem impl_FieldsOk_f {k K : Nat} {l : List S116} (hK : K < 4398046511104) (hl : SmallF K l) (hk : 5 * K + 4 < k) : impl_FieldsOk.f k l = some (fieldsB l) := by
 have := (FieldsOk_l0 K hK l hl l.length k 0 (by omega) (by have := hl.1; omega)).2
 simpa [impl_FieldsOk.f, fieldsB] using this
theorem splitBs_none (s sep : ByteArray) (h : ∀ j, j ≤ (B s).length → Lib.occAt (B s) (B sep) j = false) : splitBs s sep = [s] := by
 have hi : Lib.indexB s sep = -1 := Lib.index_none h
 unfold splitBs
 exact Lib.splitB_miss sep 0 _ s hi
theorem splitBs_at (s sep : ByteArray) (i : Nat) (h1 : 1 ≤ sep.size) (hi : i ≤ (B s).length) (ho : Lib.occAt (B s) (B sep) i = true) (hn : ∀ j, j < i → Lib.occAt (B s) (B sep) j = false) :
  splitBs s sep = s.extract 0 i :: splitBs (s.extract (i + sep.size) s.size) sep := by
 have hx : Lib.indexB s sep = (i : Int) := Lib.index_first hi ho hn
 unfold splitBs
 rw [Lib.countB_hit s sep i h1 hx, Nat.add_comm 1, Lib.splitB_hit sep 0 _ s i hx, Nat.add_zero]
theorem occ_one (l : List UInt8) (c : UInt8) (j : Nat) : Lib.occAt l [c] j = (match l[j]? with | some x => c == x | none => false) := by
 unfold Lib.occAt
 by_cases h : j < l.length
 ·rw [drop_at h, List.getElem?_eq_getElem h]; simp [List.isPrefixOf]
 ·rw [List.drop_eq_nil_of_le (by omega), List.getElem?_eq_none (by omega)]; rfl
theorem split1_none (s : ByteArray) (c : UInt8) (h : ∀ j (h : j < (B s).length), (B s)[j] ≠ c) : splitBs s ⟨#[c]⟩ = [s] := by
 refine splitBs_none s _ (fun j hj => ?_)
 show Lib.occAt (B s) [c] j = false
 rw [occ_one]
 by_cases hl : j < (B s).length
 ·rw [List.getElem?_eq_getElem hl]; simp only; rw [beq_eq_false_iff_ne]; exact fun e => h j hl e.symm
 ·rw [List.getElem?_eq_none (by omega)]
theorem split1_at (s : ByteArray) (c : UInt8) (i : Nat) (hi : i < (B s).length) (h1 : (B s)[i] = c) (h2 : ∀ j (h : j < (B s).length), j < i → (B s)[j] ≠ c) : splitBs s ⟨#[c]⟩ = s.extract 0 i :: splitBs (s.extract (i + 1) s.size) ⟨#[c]⟩ := by
 refine splitBs_at s ⟨#[c]⟩ i (by show 1 ≤ 1; omega) (by omega) ?_ (fun j hj => ?_)
 ·show Lib.occAt (B s) [c] i = true
  rw [occ_one, List.getElem?_eq_getElem hi, h1]; simp
 ·show Lib.occAt (B s) [c] j = false
  rw [occ_one, List.getElem?_eq_getElem (by omega)]; simp only; rw [beq_eq_false_iff_ne]; exact fun e => h2 j (by omega) hj e.symm
theorem B_get_extract (s : ByteArray) (a b j : Nat) (hj : j < (B (s.extract a b)).length) : ∃ h : a + j < (B s).length, (B (s.extract a b))[j] = (B s)[a + j] ∧ a + j < b := by
 have e := B_extract s a b
 have hl : j < (((B s).take b).drop a).length := by rw [← e]; exact hj
 simp only [List.length_drop, List.length_take] at hl
 refine ⟨by omega, ?_, by omega⟩
 simp only [e, List.getElem_drop, List.getElem_take]
theorem splitBs_len (s sep : ByteArray) (h1 : 1 ≤ sep.size) : (splitBs s sep).length ≤ s.size + 1 := by
 have h := Lib.splitB_length_le sep 0 (Lib.countB s sep) s
 have h2 := Lib.countB_le sep h1 _ s (Nat.le_refl _)
 unfold splitBs; omega
def wordsOf (l : List ByteArray) : List ByteArray := (l.map trimT).filter fun t => !decide (t.toList = [])
theorem wordsOf_cons (x : ByteArray) (r : List ByteArray) : wordsOf (x :: r) = if (trimT x).toList = [] then wordsOf r else trimT x :: wordsOf r := by
 unfold wordsOf
 rw [List.map_cons, List.filter_cons]
 by_cases h : (trimT x).toList = [] <;> simp [h]
def splitT (s : ByteArray) : List ByteArray := wordsOf (splitBs s ⟨#[44]⟩)
theorem impl_Split_l0 (l : List ByteArray) (hl : l.length ≤ 4294967296) (hx : ∀ x ∈ l, x.size ≤ 4294967296) : ∀ (d k i : Nat) (acc : List ByteArray), l.length - i = d → i ≤ l.length → acc.length ≤ i → d < k →
  impl_Split.l0 k acc l (l.length : Int) i = some (acc ++ wordsOf (l.drop i)) := by
 intro d
 induction d with
 | zero =>
  intro k i acc hd hi ha hk
  obtain ⟨k, rfl⟩ := succ_of hk
  simp only [impl_Split.l0]
  rw [if_neg (by omega), List.drop_eq_nil_of_le (by omega)]; simp [wordsOf]
 | succ d ih =>
  intro k i acc hd hi ha hk
  obtain ⟨k, rfl⟩ := succ_of hk
  have hlt : i < l.length := by omega
  have hs := hx _ (List.getElem_mem hlt)
  simp only [impl_Split.l0]
  rw [if_pos (by omega), if_pos (by omega), if_pos (by omega), rd_B l i hlt, impl_Trim_f (by omega), Option.bind_some, nat_round (n := l.length) hlt (by omega), drop_at hlt, wordsOf_cons]
  by_cases h : (trimT l[i]).toList = []
  ·rw [if_pos h, if_pos h, ih k (i + 1) acc (by omega) (by omega) (by omega) (by omega)]
  ·rw [if_neg h, if_neg h, if_pos (by omega), ih k (i + 1) _ (by omega) (by omega) (by simp; omega) (by omega), List.append_assoc]; rfl
theorem splitBs_small : ∀ (n : Nat) (s sep : ByteArray), s.size ≤ n → 1 ≤ sep.size → ∀ x ∈ splitBs s sep, x.size ≤ s.size := by
 intro n s sep _ h1
 unfold splitBs
 generalize Lib.countB s sep = c
 induction c generalizing s n with
 | zero => intro x hx; simp only [Lib.splitB, List.mem_singleton] at hx; rw [hx]; exact Nat.le_refl _
 | succ c ih =>
  intro x hx
  unfold Lib.splitB at hx
  split at hx
  ·simp only [List.mem_singleton] at hx; rw [hx]; exact Nat.le_refl _
  ·rcases List.mem_cons.1 hx with rfl | hx
   ·rw [ByteArray.size_extract]; omega
   ·have := ih s.size _ (by rw [ByteArray.size_extract]; omega) x hx
    rw [ByteArray.size_extract] at this; omega
theorem impl_Split_f {k : Nat} {s : ByteArray} (hs : s.size ≤ 1048576) (hk : s.size + 1 < k) : impl_Split.f k s = some (splitT s) := by
 unfold impl_Split.f strings_Split.f
 have hn := splitBs_len s ⟨#[44]⟩ (by show 1 ≤ 1; omega)
 rw [if_pos ⟨by omega, by show 1 ≤ 1; omega⟩, Option.bind_some]
 have := impl_Split_l0 (splitBs s ⟨#[44]⟩) (by omega) (fun x hx => by have := splitBs_small s.size s ⟨#[44]⟩ (Nat.le_refl _) (by show 1 ≤ 1; omega) x hx; omega) (splitBs s ⟨#[44]⟩).length k 0 [] (by omega) (by omega) (by simp) (by omega)
 rw [List.drop_zero, List.nil_append] at this
 exact this
theorem spec_Split_l0 (s : ByteArray) (hs : s.size ≤ 1048576) : ∀ (d k f i : Nat) (acc : List ByteArray), s.size - i = d → i ≤ s.size → f ≤ i → acc.length ≤ i → (∀ j (h : j < (B s).length), f ≤ j → j < i → (B s)[j] ≠ 44) → 2 * d + 2 * s.size + 9 < k →
  spec_Split.l0 k s acc f i = some (acc ++ wordsOf (splitBs (s.extract f s.size) ⟨#[44]⟩)) := by
 intro d
 induction d with
 | zero =>
  intro k f i acc hd hi hf ha hno hk
  obtain ⟨k, rfl⟩ := succ_of (show 5 < k by omega)
  obtain ⟨k, rfl⟩ := succ_of (show 4 < k by omega)
  have hiz : i = s.size := by omega
  have hz : (s.extract f s.size).size = s.size - f := by rw [ByteArray.size_extract]; omega
  have hsp : splitBs (s.extract f s.size) ⟨#[44]⟩ = [s.extract f s.size] := split1_none _ _ (fun j hj => by
   obtain ⟨h1, h2, h3⟩ := B_get_extract s f s.size j hj
   rw [h2]; exact hno (f + j) h1 (by omega) (by omega))
  simp only [spec_Split.l0]
  rw [if_pos (by omega), if_neg (by omega)]
  simp only [spec_Split.j1]
  rw [if_neg (by simp), if_pos (by omega), if_pos (by omega), if_pos (by omega), Int.toNat_natCast, Int.toNat_natCast, hiz, spec_Trim_f (by omega) (by omega), Option.bind_some, hsp, wordsOf_cons, w64 (by omega)]
  obtain ⟨k, rfl⟩ := succ_of (show 0 < k by omega)
  have fin : ∀ acc', spec_Split.l0 (k + 1) s acc' ((s.size : Int) + 1) ((s.size : Int) + 1) = some acc' := fun acc' => by
   simp only [spec_Split.l0]; rw [if_neg (by omega)]
  by_cases h : (trimT (s.extract f s.size)).toList = []
  ·rw [if_pos h, if_pos h, fin]; simp [wordsOf]
  ·rw [if_neg h, if_neg h, if_pos (by omega), fin]; simp [wordsOf]
 | succ d ih =>
  intro k f i acc hd hi hf ha hno hk
  obtain ⟨k, rfl⟩ := succ_of (show 5 < k by omega)
  obtain ⟨k, rfl⟩ := succ_of (show 4 < k by omega)
  have hl : i < (B s).length := by rw [B_len]; omega
  simp only [spec_Split.l0]
  rw [if_pos (by omega), if_pos (by omega), if_pos (by omega), bt_get s i hl]
  simp only [spec_Split.j1]
  have h44 : ((B s)[i].toNat : Int) = 44 ↔ (B s)[i] = 44 := by
   constructor
   ·intro h
    have : (B s)[i].toNat = (44 : UInt8).toNat := by show (B s)[i].toNat = 44; omega
    exact UInt8.toNat_inj.1 this
   ·intro h; rw [h]; rfl
  have hr : wrap64 ((i : Int) + 1) = ((i + 1 : Nat) : Int) := nat_round (n := s.size) (by omega) (by omega)
  by_cases c : (B s)[i] = 44
  ·have hsp : splitBs (s.extract f s.size) ⟨#[44]⟩ = s.extract f i :: splitBs (s.extract (i + 1) s.size) ⟨#[44]⟩ := by
    have hz : (s.extract f s.size).size = s.size - f := by rw [ByteArray.size_extract]; omega
    have hlt : i - f < (B (s.extract f s.size)).length := by rw [B_len, hz]; omega
    obtain ⟨g1, g2, _⟩ := B_get_extract s f s.size (i - f) hlt
    rw [split1_at (s.extract f s.size) 44 (i - f) hlt (by rw [g2]; simp only [show f + (i - f) = i by omega]; exact c) (fun j hj hji => by
     obtain ⟨h1, h2, h3⟩ := B_get_extract s f s.size j hj
     rw [h2]; exact hno (f + j) h1 (by omega) (by omega)), ByteArray.extract_extract, hz, ByteArray.extract_extract]
    rw [show min (f + (i - f)) s.size = i by omega, show min (f + (s.size - f)) s.size = s.size by omega, show f + (i - f + 1) = i + 1 by omega, Nat.add_zero]
   rw [if_neg (by simpa using h44.2 c), if_pos (by omega), if_pos (by omega), if_pos (by omega), Int.toNat_natCast, Int.toNat_natCast, spec_Trim_f (by rw [ByteArray.size_extract]; omega) (by rw [ByteArray.size_extract]; omega), Option.bind_some, hsp, wordsOf_cons, hr]
   by_cases h : (trimT (s.extract f i)).toList = []
   ·rw [if_pos h, if_pos h, ih k (i + 1) (i + 1) acc (by omega) (by omega) (by omega) (by omega) (fun j _ h1 h2 => by omega) (by omega)]
   ·rw [if_neg h, if_neg h, if_pos (by omega), ih k (i + 1) (i + 1) _ (by omega) (by omega) (by omega) (by simp; omega) (fun j _ h1 h2 => by omega) (by omega), List.append_assoc]; rfl
  ·rw [if_pos (by simpa using fun e => c (h44.1 e)), hr]
   refine ih k f (i + 1) acc (by omega) (by omega) (by omega) (by omega) (fun j h h1 h2 => ?_) (by omega)
   by_cases e : j = i
   ·subst e; exact c
   ·exact hno j h h1 (by omega)
theorem spec_Split_f {k : Nat} {s : ByteArray} (hs : s.size ≤ 1048576) (hk : 4 * s.size + 9 < k) : spec_Split.f k s = some (splitT s) := by
 have := spec_Split_l0 s hs s.size k 0 0 [] (by omega) (by omega) (by omega) (by simp) (fun j _ _ h => by omega) (by omega)
 rw [List.nil_append, extract_all0] at this
 exact this
theorem wordsOf_len (l : List ByteArray) : (wordsOf l).length ≤ l.length := by
 unfold wordsOf
 have := List.length_filter_le (fun t : ByteArray => !decide (t.toList = [])) (l.map trimT)
 simpa using this
theorem splitT_len (s : ByteArray) : (splitT s).length ≤ s.size + 1 := by
 have h1 := wordsOf_len (splitBs s ⟨#[44]⟩)
 have h2 := splitBs_len s ⟨#[44]⟩ (by show 1 ≤ 1; omega)
 unfold splitT; omega
def varyF (l : List S116) : List ByteArray := (splitT ((getF ⟨#[118, 97, 114, 121]⟩ l).getD ⟨#[]⟩)).map lowB
theorem spec_VaryOf_l0 (l : List ByteArray) (hl : l.length ≤ 4294967296) (hx : ∀ x ∈ l, x.size ≤ 1048576) : ∀ (d k : Nat) (pre rest : List ByteArray), rest.length = d → pre.length + d = l.length → (∀ x ∈ rest, x.size ≤ 1048576) → d + 1048577 < k →
  spec_VaryOf.l0 k (pre ++ rest) (pre.length : Int) = some (pre ++ rest.map lowB) := by
 intro d
 induction d with
 | zero =>
  intro k pre rest hr hp hs hk
  obtain ⟨k, rfl⟩ := succ_of (show 0 < k by omega)
  rw [List.eq_nil_of_length_eq_zero hr]
  simp only [spec_VaryOf.l0]
  rw [if_neg (by simp)]; simp
 | succ d ih =>
  intro k pre rest hr hp hs hk
  obtain ⟨k, rfl⟩ := succ_of (show 0 < k by omega)
  obtain ⟨y, rest, rfl⟩ : ∃ y r, rest = y :: r := by cases rest with | nil => simp at hr | cons y r => exact ⟨y, r, rfl⟩
  have hy := hs y (by simp)
  have hrd : rdOf ByteArray.empty (pre ++ y :: rest) (pre.length : Int) = y := by rw [rd_B _ _ (by simp)]; simp
  simp only [spec_VaryOf.l0]
  rw [if_pos (by simp; omega), if_pos (by omega), hrd, spec_Lower_f (by omega) (by omega), Option.bind_some, set_at, w64 (by omega), show (pre.length : Int) + 1 = ((pre ++ [lowB y]).length : Int) by simp]
  have := ih k (pre ++ [lowB y]) rest (by simpa using hr) (by simp at hr ⊢; omega) (fun x hx => hs x (by simp [hx])) (by omega)
  rw [List.append_assoc, List.append_assoc] at this
  exact this
theorem impl_VaryOf_l0 (l : List ByteArray) (hl : l.length ≤ 4294967296) (hx : ∀ x ∈ l, x.size ≤ 1048576) : ∀ (d k i : Nat) (acc : List ByteArray), l.length - i = d → i ≤ l.length → acc.length ≤ i → d < k →
  impl_VaryOf.l0 k acc l (l.length : Int) i = some (acc ++ (l.drop i).map lowB) := by
 intro d
 induction d with
 | zero =>
  intro k i acc hd hi ha hk
  obtain ⟨k, rfl⟩ := succ_of hk
  simp only [impl_VaryOf.l0]
  rw [if_neg (by omega), List.drop_eq_nil_of_le (by omega)]; simp
 | succ d ih =>
  intro k i acc hd hi ha hk
  obtain ⟨k, rfl⟩ := succ_of hk
  have hlt : i < l.length := by omega
  have hs := hx _ (List.getElem_mem hlt)
  simp only [impl_VaryOf.l0]
  rw [if_pos (by omega), if_pos (by omega), if_pos (by omega), rd_B l i hlt, impl_Lower_f (by omega), Option.bind_some, if_pos (by omega), nat_round (n := l.length) hlt (by omega), ih k (i + 1) _ (by omega) (by omega) (by simp; omega) (by omega), drop_at hlt, List.map_cons, List.append_assoc]
  rfl
theorem trimT_size (s : ByteArray) : (trimT s).size ≤ s.size := by
 have h : ∀ l : List UInt8, (Lib.trimB l 32).length ≤ l.length := fun l => by
  unfold Lib.trimB Lib.trimLeftB Lib.trimRightB
  have h1 := (List.dropWhile_sublist (· == (32 : UInt8)) (l := (l.reverse.dropWhile (· == (32 : UInt8))).reverse)).length_le
  have h2 := (List.dropWhile_sublist (· == (32 : UInt8)) (l := l.reverse)).length_le
  simp only [List.length_reverse] at h1 h2
  omega
 have := h (B s)
 rw [B_len] at this
 rw [← B_len (trimT s)]
 unfold trimT
 rw [B_mk (Lib.trimB (B s) 32)]
 exact this
theorem splitT_small (s : ByteArray) : ∀ x ∈ splitT s, x.size ≤ s.size := by
 intro x hx
 unfold splitT wordsOf at hx
 obtain ⟨y, hy, rfl⟩ := List.mem_map.1 (List.mem_filter.1 hx).1
 have h1 := trimT_size y
 have h2 := splitBs_small s.size s ⟨#[44]⟩ (Nat.le_refl _) (by show 1 ≤ 1; omega) y hy
 omega
theorem getF_small {K : Nat} {n : ByteArray} : ∀ {l : List S116}, (∀ x ∈ l, x.f0.size ≤ K ∧ x.f1.size ≤ K) → ((getF n l).getD ⟨#[]⟩).size ≤ K
 | [], _ => by simp [getF, ByteArray.size]
 | y :: r, h => by
  simp only [getF]
  split
  ·exact (h y (by simp)).2
  ·exact getF_small (fun x hx => h x (by simp [hx]))
theorem varyF_len {K : Nat} {l : List S116} (hl : ∀ x ∈ l, x.f0.size ≤ K ∧ x.f1.size ≤ K) : (varyF l).length ≤ K + 1 := by
 unfold varyF
 rw [List.length_map]
 have h1 := splitT_len ((getF ⟨#[118, 97, 114, 121]⟩ l).getD ⟨#[]⟩)
 have h2 : ((getF ⟨#[118, 97, 114, 121]⟩ l).getD ⟨#[]⟩).size ≤ K := getF_small hl
 omega
theorem impl_VaryOf_f {k K : Nat} {l : List S116} (hK : K ≤ 1048576) (hl : SmallF K l) (hk : K + 2 < k) : impl_VaryOf.f k l = some (varyF l) := by
 have h2 : ((getF ⟨#[118, 97, 114, 121]⟩ l).getD ⟨#[]⟩).size ≤ K := getF_small hl.2
 have h1 := splitT_len ((getF ⟨#[118, 97, 114, 121]⟩ l).getD ⟨#[]⟩)
 have h3 := splitT_small ((getF ⟨#[118, 97, 114, 121]⟩ l).getD ⟨#[]⟩)
 have hn := hl.1
 unfold impl_VaryOf.f varyF
 rw [impl_Get_f (by omega), Option.bind_some]
 simp only
 rw [impl_Split_f (by omega) (by omega), Option.bind_some]
 have := impl_VaryOf_l0 (splitT ((getF ⟨#[118, 97, 114, 121]⟩ l).getD ⟨#[]⟩)) (by omega) (fun x hx => by have := h3 x hx; omega) (splitT ((getF ⟨#[118, 97, 114, 121]⟩ l).getD ⟨#[]⟩)).length k 0 [] (by rw [Nat.sub_zero]) (Nat.zero_le _) (Nat.le_refl _) (by omega)
 rw [List.drop_zero, List.nil_append] at this
 exact this
theorem spec_VaryOf_f {k K : Nat} {l : List S116} (hK : K ≤ 1048576) (hl : SmallF K l) (hk : 8388608 < k) : spec_VaryOf.f k l = some (varyF l) := by
 have h2 : ((getF ⟨#[118, 97, 114, 121]⟩ l).getD ⟨#[]⟩).size ≤ K := getF_small hl.2
 have h1 := splitT_len ((getF ⟨#[118, 97, 114, 121]⟩ l).getD ⟨#[]⟩)
 have h3 := splitT_small ((getF ⟨#[118, 97, 114, 121]⟩ l).getD ⟨#[]⟩)
 have hn := hl.1
 unfold spec_VaryOf.f varyF
 rw [spec_Get_f (by omega) (by omega), Option.bind_some]
 simp only
 rw [spec_Split_f (by omega) (by omega), Option.bind_some]
 have := spec_VaryOf_l0 (splitT ((getF ⟨#[118, 97, 114, 121]⟩ l).getD ⟨#[]⟩)) (by omega) (fun x hx => by have := h3 x hx; omega) (splitT ((getF ⟨#[118, 97, 114, 121]⟩ l).getD ⟨#[]⟩)).length k [] (splitT ((getF ⟨#[118, 97, 114, 121]⟩ l).getD ⟨#[]⟩)) rfl (by simp) (fun x hx => by have := h3 x hx; omega) (by omega)
 rw [List.nil_append, List.nil_append] at this
 exact this
end Go.Proofs.YtjlpjbkpmmpojaaGreatDoor.Pure
namespace Go.Proofs.YtjlpjbkpmmpojaaGreatDoor.Pure
open Go.RowKit Go.Proofs.YtjlpjbkpmmpojaaGreatDoor.All Go.Proofs.YtjlpjbkpmmpojaaGreatDoorW.PrintWords Go.Proofs.YtjlpjbkpmmpojaaGreatDoorW.PrintLast
def pathB (s : ByteArray) : Bool := decide (1 ≤ s.size ∧ s.size ≤ 60) && (decide (bt s 0 = 47) && fromB 33 s)
theorem spec_l3Path_l0 (s : ByteArray) (hs : (s.size : Int) ≤ 4611686018427387904) : ∀ (d k i : Nat), s.size = i + d → d < k →
  spec_l3Path.l0 k s i = some (fromD 33 ((B s).drop i) && (decide (1 ≤ s.size ∧ s.size ≤ 60) && decide (bt s 0 = 47))) := by
 intro d
 induction d with
 | zero =>
  intro k i hd hk
  obtain ⟨k, rfl⟩ := succ_of (show 0 < k by omega)
  simp only [spec_l3Path.l0]
  rw [if_neg (by omega), spec_l1In_f, Option.bind_some, List.drop_eq_nil_of_le (by rw [B_len]; omega), show (1 : Int) = ((1 : Nat) : Int) from rfl, show (60 : Int) = ((60 : Nat) : Int) from rfl, in_range]
  by_cases h : 1 ≤ s.size ∧ s.size ≤ 60
  ·rw [if_pos (decide_eq_true h), if_pos (by omega), decide_eq_true h]
   refine congrArg some ?_
   rw [Bool.eq_iff_iff]; simp [fromD]
  ·rw [if_neg (by simpa using h), decide_eq_false h]; simp
 | succ d ih =>
  intro k i hd hk
  obtain ⟨k, rfl⟩ := succ_of (show 0 < k by omega)
  have hl : i < (B s).length := by rw [B_len]; omega
  simp only [spec_l3Path.l0]
  rw [if_pos (by omega), if_pos (by omega), bt_get s i hl, nat_round (n := s.size) (by omega) (by omega), drop_at hl]
  unfold fromD
  rw [List.all_cons]
  by_cases h1 : ((B s)[i].toNat : Int) < 33
  ·rw [if_pos h1, decide_eq_false (by omega)]; simp
  ·rw [if_neg h1]
   by_cases h2 : ((B s)[i].toNat : Int) > 126
   ·rw [if_pos h2, decide_eq_false (by omega)]; simp
   ·rw [if_neg h2, decide_eq_true (by omega), Bool.true_and, ih k (i + 1) (by omega) (by omega)]; rfl
theorem spec_l3Path_f {k : Nat} {s : ByteArray} (hs : (s.size : Int) ≤ 4611686018427387904) (hk : s.size < k) : spec_l3Path.f k s = some (pathB s) := by
 unfold spec_l3Path.f
 rw [show (0 : Int) = ((0 : Nat) : Int) from rfl, spec_l3Path_l0 s hs s.size k 0 (by omega) (by omega), List.drop_zero]
 unfold pathB
 refine congrArg some ?_
 show (fromB 33 s && _) = _
 cases fromB 33 s <;> simp
theorem impl_pathOk_f {k : Nat} {s : ByteArray} (hs : (s.size : Int) ≤ 4611686018427387904) (hk : s.size < k) : impl_pathOk.f k s = some (pathB s) := by
 unfold impl_pathOk.f pathB
 rw [impl_inRange_f, Option.bind_some, show (1 : Int) = ((1 : Nat) : Int) from rfl, show (60 : Int) = ((60 : Nat) : Int) from rfl, in_range]
 by_cases h : 1 ≤ s.size ∧ s.size ≤ 60
 ·rw [if_pos (decide_eq_true h), if_pos (by omega), decide_eq_true h, Bool.true_and]
  by_cases h2 : bt s 0 = 47
  ·rw [if_pos h2, impl_areFrom_f hs hk, Option.bind_some, decide_eq_true h2, Bool.true_and]
  ·rw [if_neg h2, decide_eq_false h2, Bool.false_and]
 ·rw [if_neg (by simpa using h), decide_eq_false h]; simp
theorem le120 (b : ByteArray) : decide ((b.size : Int) ≤ 120) = decide (b.size ≤ 120) := decide_eq_decide.2 (by omega)
def respB (m : Int) (l : List S116) (b : ByteArray) : Bool := decide (100 ≤ m ∧ m ≤ 599) && (decide (b.size ≤ 120) && fieldsB l)
theorem spec_RespOk_f {k K : Nat} {m : Int} {l : List S116} {b : ByteArray} (hK : K < 4398046511104) (hl : SmallF K l) (hk : 5 * K + 4 < k) : spec_RespOk.f k m l b = some (respB m l b) := by
 unfold spec_RespOk.f respB
 rw [spec_l1In_f, Option.bind_some]
 by_cases h : 100 ≤ m ∧ m ≤ 599
 ·rw [if_pos (decide_eq_true h), decide_eq_true h, spec_FieldsOk_f hK hl hk, Option.bind_some, le120]
  cases fieldsB l <;> simp
 ·rw [if_neg (by simpa using h), decide_eq_false h]; rfl
theorem impl_RespOk_f {k K : Nat} {m : Int} {l : List S116} {b : ByteArray} (hK : K < 4398046511104) (hl : SmallF K l) (hk : 5 * K + 4 < k) : impl_RespOk.f k m l b = some (respB m l b) := by
 unfold impl_RespOk.f respB
 rw [impl_inRange_f, Option.bind_some]
 by_cases h : 100 ≤ m ∧ m ≤ 599
 ·rw [if_pos (decide_eq_true h), decide_eq_true h]
  by_cases h2 : b.size ≤ 120
  ·rw [if_pos (by omega), impl_FieldsOk_f hK hl hk, Option.bind_some, decide_eq_true h2]; rfl
  ·rw [if_neg (by omega), decide_eq_false h2]; rfl
 ·rw [if_neg (by simpa using h), decide_eq_false h]; rfl
theorem lowB_size (s : ByteArray) : (lowB s).size = s.size := by rw [← B_len, B_lowB, List.length_map, B_len]
theorem okFs_facts (l : List S116) : ∀ (r : List S116) (i : Nat), okFs l i r = true → l.length ≤ 8 ∧ ∀ x ∈ r, tokB x.f0 = true ∧ valB x.f1 = true ∧ lenName x.f0 = false
 | [], i, h => ⟨of_decide_eq_true h, fun x hx => by cases hx⟩
 | y :: r, i, h => by
  simp only [okFs, Bool.and_eq_true] at h
  obtain ⟨h1, h2, h3, _, h5⟩ := h
  obtain ⟨g1, g2⟩ := okFs_facts l r (i + 1) h5
  refine ⟨g1, fun x hx => ?_⟩
  rcases List.mem_cons.1 hx with rfl | hx
  ·exact ⟨h1, h2, by simpa using h3⟩
  ·exact g2 x hx
theorem val_size {s : ByteArray} (h : valB s = true) : 1 ≤ s.size ∧ s.size ≤ 60 := by
 unfold valB at h
 rw [Bool.and_eq_true, Bool.and_eq_true] at h
 exact of_decide_eq_true h.1.1
theorem tok_size {s : ByteArray} (h : tokB s = true) : 1 ≤ s.size ∧ s.size ≤ 20 := by
 unfold tokB at h
 rw [Bool.and_eq_true] at h
 exact of_decide_eq_true h.2
theorem fieldLines_le : ∀ l : List S116, (∀ x ∈ l, x.f0.size ≤ 20 ∧ x.f1.size ≤ 60) → (fieldLines l).length ≤ 84 * l.length
 | [], _ => Nat.zero_le _
 | x :: r, h => by
  have h1 := h x (by simp)
  have h2 := fieldLines_le r (fun y hy => h y (by simp [hy]))
  simp only [fieldLines, fieldLine, List.length_append, List.length_cons, List.length_nil, data_length]
  omega
theorem fieldsB_lines {l : List S116} (h : fieldsB l = true) : l.length ≤ 8 ∧ (fieldLines l).length ≤ 672 := by
 obtain ⟨h1, h2⟩ := okFs_facts l l 0 h
 have := fieldLines_le l (fun x hx => ⟨(tok_size (h2 x hx).1).2, (val_size (h2 x hx).2.1).2⟩)
 exact ⟨h1, by omega⟩
def linesT (l : List S116) : ByteArray := ⟨(fieldLines l).toArray⟩
theorem linesT_size (l : List S116) : (linesT l).size = (fieldLines l).length := by rw [← B_len]; unfold linesT; rw [B_mk (fieldLines l)]
theorem itoa_numT {n : Int} (h : 0 ≤ n ∧ n ≤ 1000000) : strconv_Itoa.f n = some (numT n) := by
 unfold strconv_Itoa.f numT
 rw [if_pos (by omega), if_pos h]
def SmallB (K : Nat) (l : List ByteArray) : Prop := l.length ≤ K ∧ ∀ x ∈ l, x.size ≤ K
def namesB (l : List ByteArray) : Bool := l.all tokB && decide (l.length ≤ 4)
theorem names_l0 (K : Nat) (hK : K ≤ 4000000) (l : List ByteArray) (hl : SmallB K l) : ∀ (d k i : Nat), l.length = i + d → d + K < k →
  spec_l9Names.l0 k l i = some ((l.drop i).all tokB && decide (l.length ≤ 4)) ∧ impl_namesOk.l0 k l l (l.length : Int) i = some ((l.drop i).all tokB && decide (l.length ≤ 4)) := by
 obtain ⟨hn, hx⟩ := hl
 have h4 : decide ((l.length : Int) ≤ 4) = decide (l.length ≤ 4) := decide_eq_decide.2 (by omega)
 intro d
 induction d with
 | zero =>
  intro k i hd hk
  obtain ⟨k, rfl⟩ := succ_of (show 0 < k by omega)
  simp only [spec_l9Names.l0, impl_namesOk.l0]
  rw [if_neg (by omega), if_neg (by omega), List.drop_eq_nil_of_le (by omega), h4]
  exact ⟨rfl, rfl⟩
 | succ d ih =>
  intro k i hd hk
  obtain ⟨k, rfl⟩ := succ_of (show 0 < k by omega)
  have hlt : i < l.length := by omega
  have hs := hx _ (List.getElem_mem hlt)
  obtain ⟨i1, i2⟩ := ih k (i + 1) (by omega) (by omega)
  simp only [spec_l9Names.l0, impl_namesOk.l0]
  rw [rd_B l i hlt, nat_round (n := l.length) hlt (by omega), drop_at hlt, List.all_cons]
  refine ⟨?_, ?_⟩
  ·rw [if_pos (by omega), if_pos (by omega), spec_TokenOk_f (by omega) (by omega), Option.bind_some]
   cases tokB l[i]
   ·rfl
   ·rw [if_pos rfl, i1]; rfl
  ·rw [if_pos (by omega), if_pos (by omega), if_pos (by omega), impl_TokenOk_f (by omega) (by omega), Option.bind_some]
   cases tokB l[i]
   ·rfl
   ·rw [if_pos rfl, i2]; rfl
theorem spec_l9Names_f {k K : Nat} {l : List ByteArray} (hK : K ≤ 4000000) (hl : SmallB K l) (hk : 2 * K < k) : spec_l9Names.f k l = some (namesB l) := by
 have := (names_l0 K hK l hl l.length k 0 (by omega) (by have := hl.1; omega)).1
 simpa [spec_l9Names.f, namesB] using this
theorem impl_namesOk_f {k K : Nat} {l : List ByteArray} (hK : K ≤ 4000000) (hl : SmallB K l) (hk : 2 * K < k) : impl_namesOk.f k l = some (namesB l) := by
 have := (names_l0 K hK l hl l.length k 0 (by omega) (by have := hl.1; omega)).2
 simpa [impl_namesOk.f, namesB] using this
theorem varyF_small {K : Nat} {l : List S116} (hl : SmallF K l) : SmallB (K + 1) (varyF l) := by
 refine ⟨varyF_len hl.2, fun x hx => ?_⟩
 unfold varyF at hx
 obtain ⟨y, hy, rfl⟩ := List.mem_map.1 hx
 have h1 := splitT_small _ y hy
 have h2 : ((getF ⟨#[118, 97, 114, 121]⟩ l).getD ⟨#[]⟩).size ≤ K := getF_small hl.2
 rw [lowB_size]; omega
end Go.Proofs.YtjlpjbkpmmpojaaGreatDoor.Pure
namespace Go.Proofs.YtjlpjbkpmmpojaaGreatDoor.Pure
open Go.RowKit Go.Proofs.YtjlpjbkpmmpojaaGreatDoor.All Go.Proofs.YtjlpjbkpmmpojaaGreatDoorW.PrintWords Go.Proofs.YtjlpjbkpmmpojaaGreatDoorW.PrintLast
theorem and255 (x : Int) : 0 ≤ Go.bits .and .i64 x 255 ∧ Go.bits .and .i64 x 255 ≤ 255 := by
 unfold Go.bits
 simp only
 have h : (BitVec.ofInt IntKind.i64.bits x &&& BitVec.ofInt IntKind.i64.bits 255).toNat ≤ 255 := by
  rw [BitVec.toNat_and]
  exact Nat.and_le_right
 rw [IntKind.wrap_i64]
 omega
theorem spec_l1Byte_f (l : List Int) (i h : Int) (h0 : 0 ≤ i) (hl : (l.length : Int) ≤ 4611686018427387904) (hi : i ≤ l.length) : ∃ v i' h', spec_l1Byte.f l i h = some (v, i', h') ∧ 0 ≤ v ∧ v ≤ 255 ∧ 0 ≤ i' ∧ i' ≤ l.length := by
 unfold spec_l1Byte.f
 split
 ·try rw [if_pos h0]
  refine ⟨_, _, _, rfl, (and255 _).1, (and255 _).2, ?_, ?_⟩ <;> rw [w64 (by omega)] <;> omega
 ·exact ⟨_, _, _, rfl, (and255 _).1, (and255 _).2, h0, hi⟩
theorem spec_l1Below_f (l : List Int) (i h n : Int) (h0 : 0 ≤ i) (hl : (l.length : Int) ≤ 4611686018427387904) (hi : i ≤ l.length) : ∃ v i' h', spec_l1Below.f l i h n = some (v, i', h') ∧ 0 ≤ v ∧ (0 < n → v < n) ∧ (n ≤ 0 → v = 0) ∧ 0 ≤ i' ∧ i' ≤ l.length := by
 unfold spec_l1Below.f
 split
 ·exact ⟨_, _, _, rfl, by omega, by omega, by omega, h0, hi⟩
 split
 ·obtain ⟨v, i', h', e, v0, v1, i0, i1⟩ := spec_l1Byte_f l i h h0 hl hi
  rw [e, Option.bind_some, if_neg (by omega)]
  refine ⟨_, _, _, rfl, ?_, fun _ => ?_, by omega, i0, i1⟩
  ·exact Int.tmod_nonneg _ v0
  ·exact Int.tmod_lt_of_pos _ (by omega)
 ·obtain ⟨v, i', h', e, v0, v1, i0, i1⟩ := spec_l1Byte_f l i h h0 hl hi
  rw [e, Option.bind_some]
  obtain ⟨v2, i2, h2, e2, v20, v21, i20, i21⟩ := spec_l1Byte_f l i' h' i0 hl i1
  simp only
  rw [e2, Option.bind_some]
  obtain ⟨v3, i3, h3, e3, v30, v31, i30, i31⟩ := spec_l1Byte_f l i2 h2 i20 hl i21
  simp only
  rw [e3, Option.bind_some]
  obtain ⟨v4, i4, h4, e4, v40, v41, i40, i41⟩ := spec_l1Byte_f l i3 h3 i30 hl i31
  simp only
  rw [e4, Option.bind_some, if_neg (by omega)]
  simp only
  rw [w64 (n := v * 16777216) (by omega), w64 (n := v2 * 65536) (by omega), w64 (n := v3 * 256) (by omega), w64 (n := v * 16777216 + v2 * 65536) (by omega), w64 (n := v * 16777216 + v2 * 65536 + v3 * 256) (by omega), w64 (n := v * 16777216 + v2 * 65536 + v3 * 256 + v4) (by omega)]
  refine ⟨_, _, _, rfl, ?_, fun _ => ?_, by omega, i40, i41⟩
  ·exact Int.tmod_nonneg _ (by omega)
  ·exact Int.tmod_lt_of_pos _ (by omega)
theorem spec_l1Pick_f (l : List Int) (i h : Int) (ts : List ByteArray) (h0 : 0 ≤ i) (hl : (l.length : Int) ≤ 4611686018427387904) (hi : i ≤ l.length) (hts : 0 < ts.length) : ∃ t i' h', spec_l1Pick.f l i h ts = some (t, i', h') ∧ t ∈ ts ∧ 0 ≤ i' ∧ i' ≤ l.length := by
 unfold spec_l1Pick.f
 obtain ⟨v, i', h', e, v0, v1, _, i0, i1⟩ := spec_l1Below_f l i h ts.length h0 hl hi
 have v2 := v1 (by omega)
 rw [e, Option.bind_some, if_pos v0, if_pos v2]
 obtain ⟨j, rfl⟩ : ∃ j : Nat, v = j := ⟨v.toNat, by omega⟩
 exact ⟨_, _, _, rfl, by simp only; rw [rd_B ts j (by omega)]; exact List.getElem_mem _, i0, i1⟩
theorem spec_l1New_l0 (l : List Int) (hl : (l.length : Int) ≤ 4611686018427387904) : ∀ (d k i : Nat) (h : Int), l.length = i + d → d < k → ∃ h', spec_l1New.l0 k l h i = some (l, 0, h') := by
 intro d
 induction d with
 | zero =>
  intro k i h hd hk
  obtain ⟨k, rfl⟩ := succ_of hk
  simp only [spec_l1New.l0]
  rw [if_neg (by omega)]
  exact ⟨_, rfl⟩
 | succ d ih =>
  intro k i h hd hk
  obtain ⟨k, rfl⟩ := succ_of hk
  simp only [spec_l1New.l0]
  rw [if_pos (by omega)]
  split
  ·rw [if_pos (by omega), nat_round (n := l.length) (by omega) (by omega)]
   exact ih k (i + 1) _ (by omega) (by omega)
  ·exact ⟨_, rfl⟩
theorem spec_l1New_f {k : Nat} {l : List Int} (hl : (l.length : Int) ≤ 4611686018427387904) (hk : l.length < k) : ∃ h', spec_l1New.f k l = some (l, 0, h') :=
 spec_l1New_l0 l hl l.length k 0 _ (by omega) hk
def allLe (K : Nat) (ts : List ByteArray) : Bool := ts.all fun t => Nat.ble t.size K
theorem allLe_mem {K : Nat} {ts : List ByteArray} (h : allLe K ts = true) {t : ByteArray} (ht : t ∈ ts) : t.size ≤ K := by
 unfold allLe at h
 rw [List.all_eq_true] at h
 exact Nat.le_of_ble_eq_true (h t ht)
theorem spec_l1Pick_le (l : List Int) (i h : Int) (K : Nat) (ts : List ByteArray) (h0 : 0 ≤ i) (hl : (l.length : Int) ≤ 4611686018427387904) (hi : i ≤ l.length) (hts : 0 < ts.length) (hk : allLe K ts = true) : ∃ t i' h', spec_l1Pick.f l i h ts = some (t, i', h') ∧ t.size ≤ K ∧ 0 ≤ i' ∧ i' ≤ l.length := by
 obtain ⟨t, i', h', e, ht, r⟩ := spec_l1Pick_f l i h ts h0 hl hi hts
 exact ⟨t, i', h', e, allLe_mem hk ht, r⟩
theorem pick_bind {α : Type} {l : List Int} {i h : Int} {K : Nat} {ts : List ByteArray} {F : ByteArray × Int × Int → Option α} {P : α → Prop} (h0 : 0 ≤ i) (hl : (l.length : Int) ≤ 4611686018427387904) (hi : i ≤ l.length) (hts : 0 < ts.length) (hk : allLe K ts = true)
  (hF : ∀ t i' h', t.size ≤ K → 0 ≤ i' → i' ≤ (l.length : Int) → ∃ r, F (t, i', h') = some r ∧ P r) : ∃ r, (spec_l1Pick.f l i h ts).bind F = some r ∧ P r := by
 obtain ⟨t, i', h', e, ht, j0, j1⟩ := spec_l1Pick_le l i h K ts h0 hl hi hts hk
 rw [e, Option.bind_some]
 exact hF t i' h' ht j0 j1
theorem ex3 {α β γ : Type} {o : Option (α × β × γ)} {P : α × β × γ → Prop} (h : ∃ r, o = some r ∧ P r) : ∃ a b c, o = some (a, b, c) ∧ P (a, b, c) := by
 obtain ⟨⟨a, b, c⟩, e, p⟩ := h; exact ⟨a, b, c, e, p⟩
theorem ex4 {α β γ δ : Type} {o : Option (α × β × γ × δ)} {P : α × β × γ × δ → Prop} (h : ∃ r, o = some r ∧ P r) : ∃ a b c d, o = some (a, b, c, d) ∧ P (a, b, c, d) := by
 obtain ⟨⟨a, b, c, d⟩, e, p⟩ := h; exact ⟨a, b, c, d, e, p⟩
theorem spec_l2DrawField_f (l : List Int) (i h : Int) (h0 : 0 ≤ i) (hl : (l.length : Int) ≤ 4611686018427387904) (hi : i ≤ l.length) : ∃ n v i' h', spec_l2DrawField.f l i h = some (n, v, i', h') ∧ n.size ≤ 26 ∧ v.size ≤ 26 ∧ 0 ≤ i' ∧ i' ≤ l.length := by
 refine ex4 (P := fun r : ByteArray × ByteArray × Int × Int => r.1.size ≤ 26 ∧ r.2.1.size ≤ 26 ∧ 0 ≤ r.2.2.1 ∧ r.2.2.1 ≤ (l.length : Int)) ?_
 unfold spec_l2DrawField.f
 obtain ⟨d, i1, h1, e, _, _, _, i10, i11⟩ := spec_l1Below_f l i h 9 h0 hl hi
 rw [e, Option.bind_some]
 dsimp only
 repeat' split
 iterate 7
  ·exact pick_bind (K := 26) i10 hl i11 (by simp) (by rfl) (fun t i' h' ht j0 j1 => ⟨_, rfl, Nat.le_of_ble_eq_true rfl, ht, j0, j1⟩)
 ·refine pick_bind (K := 26) i10 hl i11 (by simp) (by rfl) (fun n i2 h2 hn i20 i21 => ?_)
  dsimp only
  exact pick_bind (K := 26) i20 hl i21 (by simp) (by rfl) (fun t i' h' ht j0 j1 => ⟨_, rfl, hn, ht, j0, j1⟩)
theorem spec_l2DrawRight_l0 (l : List Int) (hl : (l.length : Int) ≤ 4611686018427387904) : ∀ (d k n : Nat) (acc : List S116) (i h : Int), n + d = 5 → acc.length ≤ n → (∀ x ∈ acc, x.f0.size ≤ 26 ∧ x.f1.size ≤ 26) → 0 ≤ i → i ≤ l.length → d + 8 < k → ∃ r i' h', spec_l2DrawRight.l0 k acc (n : Int) l i h = some (r, i', h') ∧ SmallF 26 r ∧ r.length ≤ 5 ∧ 0 ≤ i' ∧ i' ≤ l.length := by
 intro d
 induction d with
 | zero =>
  intro k n acc i h hd ha hx h0 hi hk
  obtain ⟨k, rfl⟩ := succ_of (show 0 < k by omega)
  obtain ⟨v, i', h', e, v0, v1, _, i0, i1⟩ := spec_l1Below_f l i h 5 h0 hl hi
  have v2 := v1 (by omega)
  simp only [spec_l2DrawRight.l0]
  rw [e, Option.bind_some]
  dsimp only
  rw [if_neg (by omega)]
  exact ⟨_, _, _, rfl, ⟨by omega, hx⟩, by omega, i0, i1⟩
 | succ d ih =>
  intro k n acc i h hd ha hx h0 hi hk
  obtain ⟨k, rfl⟩ := succ_of (show 0 < k by omega)
  obtain ⟨v, i1, h1, e, v0, v1, _, i10, i11⟩ := spec_l1Below_f l i h 5 h0 hl hi
  simp only [spec_l2DrawRight.l0]
  rw [e, Option.bind_some]
  dsimp only
  split
  ·obtain ⟨fn, fv, i2, h2, e2, hn, hv, i20, i21⟩ := spec_l2DrawField_f l i1 h1 i10 hl i11
   rw [e2, Option.bind_some]
   dsimp only
   rw [spec_l2At_f (by omega) (by omega), Option.bind_some, w64 (by omega), show (n : Int) + 1 = ((n + 1 : Nat) : Int) by omega]
   split
   ·rw [if_pos (by omega)]
    refine ih k (n + 1) _ i2 h2 (by omega) (by simp; omega) (fun x hx' => ?_) i20 i21 (by omega)
    rcases List.mem_append.1 hx' with hx' | hx'
    ·exact hx x hx'
    ·rw [List.mem_singleton.1 hx']; exact ⟨hn, hv⟩
   ·exact ih k (n + 1) acc i2 h2 (by omega) (by omega) hx i20 i21 (by omega)
  ·exact ⟨_, _, _, rfl, ⟨by omega, hx⟩, by omega, i10, i11⟩
theorem spec_l2DrawRight_f {k : Nat} {l : List Int} {i h : Int} (hl : (l.length : Int) ≤ 4611686018427387904) (h0 : 0 ≤ i) (hi : i ≤ l.length) (hk : 20 < k) : ∃ r i' h', spec_l2DrawRight.f k l i h = some (r, i', h') ∧ SmallF 26 r ∧ r.length ≤ 5 ∧ 0 ≤ i' ∧ i' ≤ l.length :=
 spec_l2DrawRight_l0 l hl 5 k 0 [] i h (by omega) (by simp) (fun x hx => by cases hx) h0 hi (by omega)
theorem spec_l2Draw_l0 (l : List Int) (hl : (l.length : Int) ≤ 4611686018427387904) : ∀ (d k : Nat) (acc : List S116) (i h : Int), acc.length + d = 9 → (∀ x ∈ acc, x.f0.size ≤ 26 ∧ x.f1.size ≤ 26) → 0 ≤ i → i ≤ l.length → d + 40 < k → ∃ r i' h', spec_l2Draw.l0 k acc l i h = some (r, i', h') ∧ SmallF 26 r ∧ 0 ≤ i' ∧ i' ≤ l.length := by
 intro d
 induction d with
 | zero =>
  intro k acc i h hd hx h0 hi hk
  obtain ⟨k, rfl⟩ := succ_of (show 0 < k by omega)
  obtain ⟨v, i', h', e, v0, v1, _, i0, i1⟩ := spec_l1Below_f l i h 2 h0 hl hi
  have v2 := v1 (by omega)
  simp only [spec_l2Draw.l0]
  rw [e, Option.bind_some]
  dsimp only
  rw [w64 (by omega), if_neg (by omega)]
  exact ⟨_, _, _, rfl, ⟨by omega, hx⟩, i0, i1⟩
 | succ d ih =>
  intro k acc i h hd hx h0 hi hk
  obtain ⟨k, rfl⟩ := succ_of (show 0 < k by omega)
  obtain ⟨v, i1, h1, e, v0, v1, _, i10, i11⟩ := spec_l1Below_f l i h 2 h0 hl hi
  have v2 := v1 (by omega)
  have nt := numT_size (acc.length : Int)
  simp only [spec_l2Draw.l0]
  rw [e, Option.bind_some]
  dsimp only
  rw [w64 (by omega)]
  split
  ·rw [spec_NumText_f (by omega), Option.bind_some, if_pos (by omega), if_pos (by omega)]
   refine ih k _ i1 h1 (by simp; omega) (fun x hx' => ?_) i10 i11 (by omega)
   rcases List.mem_append.1 hx' with hx' | hx'
   ·exact hx x hx'
   ·rw [List.mem_singleton.1 hx']
    refine ⟨?_, Nat.le_of_ble_eq_true rfl⟩
    dsimp only
    rw [ByteArray.size_append]
    show 1 + (numT (acc.length : Int)).size ≤ 26
    omega
  ·exact ⟨_, _, _, rfl, ⟨by omega, hx⟩, i10, i11⟩
theorem SmallF.snoc {K : Nat} {l : List S116} {x : S116} (h : SmallF K l) (hl : l.length < K) (h0 : x.f0.size ≤ K) (h1 : x.f1.size ≤ K) : SmallF K (l ++ [x]) := by
 refine ⟨by simp; omega, fun y hy => ?_⟩
 rcases List.mem_append.1 hy with hy | hy
 ·exact h.2 y hy
 ·rw [List.mem_singleton.1 hy]; exact ⟨h0, h1⟩
theorem spec_l2Draw_f {k : Nat} {l : List Int} {i h : Int} (hl : (l.length : Int) ≤ 4611686018427387904) (h0 : 0 ≤ i) (hi : i ≤ l.length) (hk : 60 < k) : ∃ r i' h', spec_l2Draw.f k l i h = some (r, i', h') ∧ SmallF 26 r ∧ 0 ≤ i' ∧ i' ≤ l.length := by
 unfold spec_l2Draw.f
 obtain ⟨r, i1, h1, e, hr, hr5, i10, i11⟩ := spec_l2DrawRight_f (k := k) (h := h) hl h0 hi (by omega)
 rw [e, Option.bind_some]
 dsimp only
 obtain ⟨d, i2, h2, e2, _, _, _, i20, i21⟩ := spec_l1Below_f l i1 h1 15 i10 hl i11
 rw [e2, Option.bind_some]
 dsimp only
 split
 ·obtain ⟨n1, v1, i3, h3, e3, hn1, hv1, i30, i31⟩ := spec_l2DrawField_f l i2 h2 i20 hl i21
  rw [e3, Option.bind_some]
  dsimp only
  obtain ⟨n2, v2, i4, h4, e4, hn2, hv2, i40, i41⟩ := spec_l2DrawField_f l i3 h3 i30 hl i31
  rw [e4, Option.bind_some]
  dsimp only
  rw [Option.bind_some, if_pos (by simp; omega)]
  refine ⟨_, _, _, rfl, ?_, i40, i41⟩
  have h5 := (hr.snoc (x := ⟨n1, v1⟩) (by omega) hn1 hv1).snoc (x := ⟨n2, v2⟩) (by simp; omega) hn2 hv2
  rw [List.append_assoc] at h5
  exact h5
 split
 ·refine ex3 (P := fun r : List S116 × Int × Int => SmallF 26 r.1 ∧ 0 ≤ r.2.1 ∧ r.2.1 ≤ (l.length : Int)) ?_
  refine pick_bind (K := 26) i20 hl i21 (by simp) (by rfl) (fun n1 i3 h3 hn1 i30 i31 => ?_)
  dsimp only
  refine pick_bind (K := 26) i30 hl i31 (by simp) (by rfl) (fun v1 i4 h4 hv1 i40 i41 => ?_)
  dsimp only
  rw [if_pos (by omega)]
  exact ⟨_, rfl, hr.snoc (x := ⟨n1, v1⟩) (by omega) hn1 hv1, i40, i41⟩
 split
 ·exact spec_l2Draw_l0 l hl (9 - r.length) k r i2 h2 (by omega) hr.2 i20 i21 (by omega)
 ·exact ⟨_, _, _, rfl, hr, i20, i21⟩
theorem spec_l1PickInt_f (l : List Int) (i h : Int) (ts : List Int) (h0 : 0 ≤ i) (hl : (l.length : Int) ≤ 4611686018427387904) (hi : i ≤ l.length) (hts : 0 < ts.length) : ∃ t i' h', spec_l1PickInt.f l i h ts = some (t, i', h') ∧ t ∈ ts ∧ 0 ≤ i' ∧ i' ≤ l.length := by
 obtain ⟨v, i', h', e, v0, v1, _, i0, i1⟩ := spec_l1Below_f l i h ts.length h0 hl hi
 have v2 := v1 (by omega)
 unfold spec_l1PickInt.f
 rw [e, Option.bind_some]
 dsimp only
 rw [if_pos v0, if_pos v2]
 obtain ⟨u, rfl⟩ : ∃ u : Nat, v = u := ⟨v.toNat, by omega⟩
 rw [rd_I ts u (by omega)]
 exact ⟨_, _, _, rfl, List.getElem_mem (by omega), i0, i1⟩
end Go.Proofs.YtjlpjbkpmmpojaaGreatDoor.Pure
namespace Go.Proofs.YtjlpjbkpmmpojaaGreatDoor.Pure
open Go.RowKit Go.Proofs.YtjlpjbkpmmpojaaGreatDoor.All Go.Proofs.YtjlpjbkpmmpojaaGreatDoorW.PrintWords Go.Proofs.YtjlpjbkpmmpojaaGreatDoorW.PrintLast
theorem spec_Put_f {k : Nat} {l : List S116} {n v : ByteArray} (hl : l.length < 4398046511104) (hk : l.length < k) : spec_Put.f k l n v = some (putF n v l) := by
 unfold spec_Put.f
 rw [Option.bind_some, if_pos (by simpa using hl), Option.bind_some, spec_l2At_f (by omega) hk, Option.bind_some, List.nil_append]
 rcases at_cases n v l 0 with ⟨h1, _, h3, _⟩ | ⟨j, hj, h1, _, _, h3, _⟩
 ·rw [h1, h3, if_pos (by omega), if_pos hl]
 ·rw [h1, h3, if_neg (by omega), if_pos (by omega), if_pos (by omega), Nat.zero_add, rd_F l j hj, Int.toNat_natCast]
theorem putF_small {K : Nat} {n v : ByteArray} (hn : n.size ≤ K) (hv : v.size ≤ K) : ∀ {l : List S116}, (∀ x ∈ l, x.f0.size ≤ K ∧ x.f1.size ≤ K) → ∀ x ∈ putF n v l, x.f0.size ≤ K ∧ x.f1.size ≤ K
 | [], _, x, hx => by simp only [putF, List.mem_singleton] at hx; rw [hx]; exact ⟨hn, hv⟩
 | y :: r, h, x, hx => by
  have hy := h y (by simp)
  have hr : ∀ x ∈ r, x.f0.size ≤ K ∧ x.f1.size ≤ K := fun x hx => h x (by simp [hx])
  simp only [putF] at hx
  split at hx
  ·rcases List.mem_cons.1 hx with rfl | hx
   ·exact ⟨hy.1, hv⟩
   ·exact hr x hx
  ·rcases List.mem_cons.1 hx with rfl | hx
   ·exact hy
   ·exact putF_small hn hv hr x hx
theorem strOfNums_size' (l : List Int) : (strOfNums l).size = l.length := by rw [← B_len, B_strOf, List.length_map]
theorem spec_l1DrawText_l0 (l : List Int) (hl : (l.length : Int) ≤ 4611686018427387904) : ∀ (d k n : Nat) (acc : List Int) (i h : Int), n + d = 14 → acc.length = n → 0 ≤ i → i ≤ l.length → d < k → ∃ t i' h', spec_l1DrawText.l0 k acc (n : Int) l i h = some (t, i', h') ∧ t.size ≤ 14 ∧ 0 ≤ i' ∧ i' ≤ l.length := by
 intro d
 induction d with
 | zero =>
  intro k n acc i h hd ha h0 hi hk
  obtain ⟨k, rfl⟩ := succ_of hk
  obtain ⟨v, i', h', e, v0, v1, _, i0, i1⟩ := spec_l1Below_f l i h 14 h0 hl hi
  have v2 := v1 (by omega)
  simp only [spec_l1DrawText.l0]
  rw [e, Option.bind_some]
  simp only
  rw [if_neg (by omega)]
  exact ⟨_, _, _, rfl, by rw [strOfNums_size']; omega, i0, i1⟩
 | succ d ih =>
  intro k n acc i h hd ha h0 hi hk
  obtain ⟨k, rfl⟩ := succ_of hk
  obtain ⟨v, i', h', e, v0, v1, _, i0, i1⟩ := spec_l1Below_f l i h 14 h0 hl hi
  simp only [spec_l1DrawText.l0]
  rw [e, Option.bind_some]
  simp only
  split
  ·obtain ⟨t, i2, h2, e2, ht, i20, i21⟩ := spec_l1Pick_f l i' h' [⟨#[32]⟩, ⟨#[44]⟩, ⟨#[97]⟩, ⟨#[90]⟩, ⟨#[55]⟩, ⟨#[45]⟩, ⟨#[61]⟩, ⟨#[120]⟩, ⟨#[58]⟩, ⟨#[1]⟩, ⟨#[64]⟩, ⟨#[91]⟩] i0 hl i1 (by simp)
   have hs : t.size = 1 := by
    simp only [List.mem_cons, List.mem_nil_iff, or_false] at ht
    rcases ht with rfl | rfl | rfl | rfl | rfl | rfl | rfl | rfl | rfl | rfl | rfl | rfl <;> rfl
   rw [e2, Option.bind_some]
   simp only
   rw [if_pos (by omega), if_pos (by omega), w64 (by omega), show (n : Int) + 1 = ((n + 1 : Nat) : Int) by omega]
   exact ih k (n + 1) _ i2 h2 (by omega) (by simp [ha]) i20 i21 (by omega)
  ·exact ⟨_, _, _, rfl, by rw [strOfNums_size']; omega, i0, i1⟩
theorem spec_l1DrawText_f {k : Nat} {l : List Int} {i h : Int} (hl : (l.length : Int) ≤ 4611686018427387904) (h0 : 0 ≤ i) (hi : i ≤ l.length) (hk : 20 < k) : ∃ t i' h', spec_l1DrawText.f k l i h = some (t, i', h') ∧ t.size ≤ 14 ∧ 0 ≤ i' ∧ i' ≤ l.length :=
 spec_l1DrawText_l0 l hl 14 k 0 [] i h (by omega) rfl h0 hi (by omega)
theorem spec_l1Once_f (l : List Int) (i h n : Int) (h0 : 0 ≤ i) (hl : (l.length : Int) ≤ 4611686018427387904) (hi : i ≤ l.length) : ∃ v i' h', spec_l1Once.f l i h n = some (v, i', h') ∧ 0 ≤ i' ∧ i' ≤ l.length := by
 unfold spec_l1Once.f
 obtain ⟨v, i', h', e, _, _, _, i0, i1⟩ := spec_l1Below_f l i h n h0 hl hi
 rw [e, Option.bind_some]
 exact ⟨_, _, _, rfl, i0, i1⟩
theorem spec_l3DrawBody_f {k : Nat} {l : List Int} {i h : Int} (hl : (l.length : Int) ≤ 4611686018427387904) (h0 : 0 ≤ i) (hi : i ≤ l.length) (hk : 20 < k) : ∃ b i' h', spec_l3DrawBody.f k l i h = some (b, i', h') ∧ b.size ≤ 14 ∧ 0 ≤ i' ∧ i' ≤ l.length := by
 unfold spec_l3DrawBody.f
 obtain ⟨v, i1, h1, e, i10, i11⟩ := spec_l1Once_f l i h 2 h0 hl hi
 rw [e, Option.bind_some]
 dsimp only
 split
 ·obtain ⟨t, i2, h2, e2, ht, i20, i21⟩ := spec_l1Pick_le l i1 h1 14 [(⟨#[]⟩ : ByteArray), (⟨#[104, 101, 108, 108, 111]⟩ : ByteArray), (⟨#[13, 10, 13, 10]⟩ : ByteArray), (⟨#[97, 0, 98]⟩ : ByteArray), (⟨#[111, 110, 101, 32, 116, 119, 111]⟩ : ByteArray)] i10 hl i11 (by decide) (by rfl)
  rw [e2, Option.bind_some]
  exact ⟨_, _, _, rfl, ht, i20, i21⟩
 ·obtain ⟨t, i2, h2, e2, ht, i20, i21⟩ := spec_l1DrawText_f (k := k) (h := h1) hl i10 i11 hk
  rw [e2, Option.bind_some]
  exact ⟨_, _, _, rfl, ht, i20, i21⟩
theorem spec_l3DrawReq_l0 (l : List Int) (hl : (l.length : Int) ≤ 4611686018427387904) (m : Int) (p : ByteArray) : ∀ (d k n : Nat) (acc : List S116) (i h : Int), n + d = 3 → acc.length ≤ n → (∀ x ∈ acc, x.f0.size ≤ 26 ∧ x.f1.size ≤ 26) → 0 ≤ i → i ≤ l.length → d + 30 < k →
  ∃ r b i' h', spec_l3DrawReq.l0 k (n : Int) l i h m p acc (⟨#[]⟩ : ByteArray) = some (m, p, r, b, i', h') ∧ SmallF 26 r ∧ r.length ≤ 3 ∧ b.size ≤ 14 ∧ 0 ≤ i' ∧ i' ≤ l.length := by
 have fin : ∀ (k : Nat) (acc : List S116) (i h : Int), acc.length ≤ 3 → (∀ x ∈ acc, x.f0.size ≤ 26 ∧ x.f1.size ≤ 26) → 0 ≤ i → i ≤ l.length → 20 < k → ∃ r b i' h', (if m = 3 then ((spec_l3DrawBody.f k l i h).bind fun bt => (some (m, p, acc, bt.1, bt.2.1, bt.2.2))) else (some (m, p, acc, (⟨#[]⟩ : ByteArray), i, h))) = some (m, p, r, b, i', h') ∧ SmallF 26 r ∧ r.length ≤ 3 ∧ b.size ≤ 14 ∧ 0 ≤ i' ∧ i' ≤ l.length := by
  intro k acc i h ha hx h0 hi hk
  split
  ·obtain ⟨b, i1, h1, e, hb, i10, i11⟩ := spec_l3DrawBody_f (k := k) (h := h) hl h0 hi hk
   rw [e, Option.bind_some]
   exact ⟨_, _, _, _, rfl, ⟨by omega, hx⟩, ha, hb, i10, i11⟩
  ·exact ⟨_, _, _, _, rfl, ⟨by omega, hx⟩, ha, Nat.zero_le _, h0, hi⟩
 intro d
 induction d with
 | zero =>
  intro k n acc i h hd ha hx h0 hi hk
  obtain ⟨k, rfl⟩ := succ_of (show 0 < k by omega)
  obtain ⟨v, i1, h1, e, v0, v1, _, i10, i11⟩ := spec_l1Below_f l i h 4 h0 hl hi
  have v2 := v1 (by omega)
  simp only [spec_l3DrawReq.l0]
  rw [e, Option.bind_some]
  dsimp only
  rw [if_neg (by omega)]
  exact fin k acc i1 h1 (by omega) hx i10 i11 (by omega)
 | succ d ih =>
  intro k n acc i h hd ha hx h0 hi hk
  obtain ⟨k, rfl⟩ := succ_of (show 0 < k by omega)
  obtain ⟨v, i1, h1, e, v0, v1, _, i10, i11⟩ := spec_l1Below_f l i h 4 h0 hl hi
  have hr : wrap64 ((n : Int) + 1) = ((n + 1 : Nat) : Int) := by rw [w64 (by omega)]; omega
  have push : ∀ (f v : ByteArray) (i h : Int), f.size ≤ 26 → v.size ≤ 26 → 0 ≤ i → i ≤ l.length → ∃ r b i' h', spec_l3DrawReq.l0 k ((n + 1 : Nat) : Int) l i h m p (acc ++ [⟨f, v⟩]) (⟨#[]⟩ : ByteArray) = some (m, p, r, b, i', h') ∧ SmallF 26 r ∧ r.length ≤ 3 ∧ b.size ≤ 14 ∧ 0 ≤ i' ∧ i' ≤ l.length := fun f v i h hf hv h0 hi =>
   ih k (n + 1) _ i h (by omega) (by simp; omega) (fun x hx' => by
    rcases List.mem_append.1 hx' with hx' | hx'
    ·exact hx x hx'
    ·rw [List.mem_singleton.1 hx']; exact ⟨hf, hv⟩) h0 hi (by omega)
  simp only [spec_l3DrawReq.l0]
  rw [e, Option.bind_some]
  dsimp only
  split
  ·obtain ⟨f, i2, h2, e2, hf, i20, i21⟩ := spec_l1Pick_le l i1 h1 26 [(⟨#[108, 97, 110, 103]⟩ : ByteArray), (⟨#[107, 105, 110, 100]⟩ : ByteArray), (⟨#[99, 97, 99, 104, 101, 45, 99, 111, 110, 116, 114, 111, 108]⟩ : ByteArray), (⟨#[105, 102, 45, 110, 111, 110, 101, 45, 109, 97, 116, 99, 104]⟩ : ByteArray), (⟨#[120, 45, 97]⟩ : ByteArray)] i10 hl i11 (by decide) (by rfl)
   rw [e2, Option.bind_some]
   dsimp only
   rw [spec_l2At_f (by omega) (by omega), Option.bind_some, hr]
   split
   ·obtain ⟨w, i3, h3, e3, hw, i30, i31⟩ := spec_l1Pick_le l i2 h2 26 [(⟨#[100, 101]⟩ : ByteArray), (⟨#[101, 110]⟩ : ByteArray)] i20 hl i21 (by decide) (by rfl)
    rw [e3, Option.bind_some]
    dsimp only
    split
    ·obtain ⟨w, i4, h4, e4, hw, i40, i41⟩ := spec_l1Pick_le l i3 h3 26 [(⟨#[120]⟩ : ByteArray), (⟨#[121]⟩ : ByteArray)] i30 hl i31 (by decide) (by rfl)
     rw [e4, Option.bind_some]
     dsimp only
     rw [if_pos (by omega)]
     exact push f w i4 h4 hf hw i40 i41
    ·split
     ·obtain ⟨w, i4, h4, e4, hw, i40, i41⟩ := spec_l1Pick_le l i3 h3 26 [(⟨#[110, 111, 45, 99, 97, 99, 104, 101]⟩ : ByteArray), (⟨#[110, 111, 45, 115, 116, 111, 114, 101]⟩ : ByteArray), (⟨#[109, 97, 120, 45, 97, 103, 101, 61, 51]⟩ : ByteArray)] i30 hl i31 (by decide) (by rfl)
      rw [e4, Option.bind_some]
      dsimp only
      rw [if_pos (by omega)]
      exact push f w i4 h4 hf hw i40 i41
     ·split
      ·obtain ⟨w, i4, h4, e4, hw, i40, i41⟩ := spec_l1Pick_le l i3 h3 26 [(⟨#[97]⟩ : ByteArray), (⟨#[98]⟩ : ByteArray)] i30 hl i31 (by decide) (by rfl)
       rw [e4, Option.bind_some]
       dsimp only
       rw [if_pos (by omega)]
       exact push f w i4 h4 hf hw i40 i41
      ·rw [if_pos (by omega)]
       exact push f w i3 h3 hf hw i30 i31
   ·exact ih k (n + 1) acc i2 h2 (by omega) (by omega) hx i20 i21 (by omega)
  ·exact fin k acc i1 h1 (by omega) hx i10 i11 (by omega)
theorem spec_l3DrawReq_f {k : Nat} {l : List Int} {i h : Int} (hl : (l.length : Int) ≤ 4611686018427387904) (h0 : 0 ≤ i) (hi : i ≤ l.length) (hk : 40 < k) : ∃ m p r b i' h', spec_l3DrawReq.f k l i h = some (m, p, r, b, i', h') ∧ (1 ≤ m ∧ m ≤ 4) ∧ p.size ≤ 26 ∧ SmallF 26 r ∧ r.length ≤ 3 ∧ b.size ≤ 14 ∧ 0 ≤ i' ∧ i' ≤ l.length := by
 unfold spec_l3DrawReq.f
 obtain ⟨m, i1, h1, e, hm, i10, i11⟩ := spec_l1PickInt_f l i h [1, 1, 1, 1, 2, 3, 4] h0 hl hi (by decide)
 rw [e, Option.bind_some]
 dsimp only
 obtain ⟨p, i2, h2, e2, hp, i20, i21⟩ := spec_l1Pick_le l i1 h1 26 [(⟨#[47]⟩ : ByteArray), (⟨#[47, 97]⟩ : ByteArray), (⟨#[47, 97, 47, 98]⟩ : ByteArray), (⟨#[47, 98]⟩ : ByteArray)] i10 hl i11 (by decide) (by rfl)
 rw [e2, Option.bind_some]
 dsimp only
 obtain ⟨r, b, i3, h3, e3, hr, hr3, hb, i30, i31⟩ := spec_l3DrawReq_l0 l hl m p 3 k 0 [] i2 h2 (by omega) (by simp) (fun x hx => by cases hx) i20 i21 (by omega)
 refine ⟨m, p, r, b, i3, h3, e3, ?_, hp, hr, hr3, hb, i30, i31⟩
 simp only [List.mem_cons, List.mem_nil_iff, or_false] at hm
 omega
theorem spec_l3DrawResp_f {k : Nat} {l : List Int} {i h : Int} (hl : (l.length : Int) ≤ 4611686018427387904) (h0 : 0 ≤ i) (hi : i ≤ l.length) (hk : 60 < k) : ∃ m r b i' h', spec_l3DrawResp.f k l i h = some (m, r, b, i', h') ∧ SmallF 27 r ∧ r.length ≤ 6 ∧ b.size ≤ 14 ∧ 0 ≤ i' ∧ i' ≤ l.length := by
 unfold spec_l3DrawResp.f
 obtain ⟨m, i1, h1, e, hm, i10, i11⟩ := spec_l1PickInt_f l i h [200, 200, 200, 200, 404, 500, 304] h0 hl hi (by decide)
 rw [e, Option.bind_some]
 dsimp only
 obtain ⟨r, i2, h2, e2, hr, hr5, i20, i21⟩ := spec_l2DrawRight_f (k := k) (h := h1) hl i10 i11 (by omega)
 have hw : ∀ x ∈ r, x.f0.size ≤ 27 ∧ x.f1.size ≤ 27 := fun x hx => by have := hr.2 x hx; omega
 rw [e2, Option.bind_some]
 dsimp only
 obtain ⟨b, i3, h3, e3, hb, i30, i31⟩ := spec_l3DrawBody_f (k := k) (h := h2) hl i20 i21 (by omega)
 rw [e3, Option.bind_some]
 dsimp only
 obtain ⟨v, i4, h4, e4, i40, i41⟩ := spec_l1Once_f l i3 h3 2 i30 hl i31
 rw [e4, Option.bind_some]
 dsimp only
 split
 ·obtain ⟨t, i5, h5, e5, ht, i50, i51⟩ := spec_l1Pick_le l i4 h4 27 [(⟨#[109, 97, 120, 45, 97, 103, 101, 61, 53]⟩ : ByteArray), (⟨#[109, 97, 120, 45, 97, 103, 101, 61, 50, 48]⟩ : ByteArray), (⟨#[109, 97, 120, 45, 97, 103, 101, 61, 57]⟩ : ByteArray)] i40 hl i41 (by decide) (by rfl)
  have hp := putF_length (⟨#[99, 97, 99, 104, 101, 45, 99, 111, 110, 116, 114, 111, 108]⟩ : ByteArray) t r
  rw [e5, Option.bind_some]
  dsimp only
  rw [spec_Put_f (by omega) (by omega), Option.bind_some]
  exact ⟨_, _, _, _, _, rfl, ⟨by omega, putF_small (by decide) (by omega) hw⟩, by omega, hb, i50, i51⟩
 ·exact ⟨_, _, _, _, _, rfl, ⟨by omega, hw⟩, by omega, hb, i40, i41⟩
theorem spec_l3DrawBadResp_l0 (l : List Int) (hl : (l.length : Int) ≤ 4611686018427387904) (m : Int) (r : List S116) : ∀ (d k : Nat) (b : ByteArray) (i h : Int), b.size + d = 200 → 0 ≤ i → i ≤ l.length → d < k → ∃ b' i' h', spec_l3DrawBadResp.l0 k l i h m r b = some (m, r, b', i', h') ∧ b'.size ≤ 200 ∧ 0 ≤ i' ∧ i' ≤ l.length := by
 intro d
 induction d with
 | zero =>
  intro k b i h hd h0 hi hk
  obtain ⟨k, rfl⟩ := succ_of hk
  obtain ⟨v, i1, h1, e, v0, v1, _, i10, i11⟩ := spec_l1Below_f l i h 2 h0 hl hi
  have v2 := v1 (by omega)
  simp only [spec_l3DrawBadResp.l0]
  rw [e, Option.bind_some]
  dsimp only
  rw [w64 (by omega), if_neg (by omega)]
  exact ⟨_, _, _, rfl, by omega, i10, i11⟩
 | succ d ih =>
  intro k b i h hd h0 hi hk
  obtain ⟨k, rfl⟩ := succ_of hk
  obtain ⟨v, i1, h1, e, v0, v1, _, i10, i11⟩ := spec_l1Below_f l i h 2 h0 hl hi
  have v2 := v1 (by omega)
  simp only [spec_l3DrawBadResp.l0]
  rw [e, Option.bind_some]
  dsimp only
  rw [w64 (by omega)]
  split
  ·rw [if_pos (by omega)]
   exact ih k _ i1 h1 (by rw [ByteArray.size_append]; show b.size + 1 + d = 200; omega) i10 i11 (by omega)
  ·exact ⟨_, _, _, rfl, by omega, i10, i11⟩
theorem spec_l3DrawBadResp_f {k : Nat} {l : List Int} {i h : Int} (hl : (l.length : Int) ≤ 4611686018427387904) (h0 : 0 ≤ i) (hi : i ≤ l.length) (hk : 300 < k) : ∃ m r b i' h', spec_l3DrawBadResp.f k l i h = some (m, r, b, i', h') ∧ SmallF 27 r ∧ b.size ≤ 200 ∧ 0 ≤ i' ∧ i' ≤ l.length := by
 unfold spec_l3DrawBadResp.f
 obtain ⟨m, r, b, i1, h1, e, hr, _, hb, i10, i11⟩ := spec_l3DrawResp_f (k := k) (h := h) hl h0 hi (by omega)
 rw [e, Option.bind_some]
 dsimp only
 obtain ⟨v, i2, h2, e2, _, _, _, i20, i21⟩ := spec_l1Below_f l i1 h1 20 i10 hl i11
 rw [e2, Option.bind_some]
 dsimp only
 split
 ·obtain ⟨t, i3, h3, e3, _, i30, i31⟩ := spec_l1PickInt_f l i2 h2 [99, 100, 599, 600, (-1)] i20 hl i21 (by decide)
  rw [e3, Option.bind_some]
  exact ⟨_, _, _, _, _, rfl, hr, by omega, i30, i31⟩
 ·split
  ·obtain ⟨fs, i3, h3, e3, hf, i30, i31⟩ := spec_l2Draw_f (k := k) (h := h2) hl i20 i21 (by omega)
   rw [e3, Option.bind_some]
   exact ⟨_, _, _, _, _, rfl, ⟨by have := hf.1; dsimp only; omega, fun x hx => by have := hf.2 x hx; omega⟩, by omega, i30, i31⟩
  ·split
   ·obtain ⟨b', i3, h3, e3, hb', i30, i31⟩ := spec_l3DrawBadResp_l0 l hl m r (200 - b.size) k b i2 h2 (by omega) i20 i21 (by omega)
    exact ⟨m, r, b', i3, h3, e3, hr, hb', i30, i31⟩
   ·exact ⟨_, _, _, _, _, rfl, hr, by omega, i20, i21⟩
end Go.Proofs.YtjlpjbkpmmpojaaGreatDoor.Pure
namespace Go.Proofs.YtjlpjbkpmmpojaaGreatDoor.Pure
open Go.RowKit Go.Proofs.YtjlpjbkpmmpojaaGreatDoor.All Go.Proofs.YtjlpjbkpmmpojaaGreatDoorW.PrintWords Go.Proofs.YtjlpjbkpmmpojaaGreatDoorW.PrintLast
theorem spec_l1Min_f (a b : Int) : spec_l1Min.f a b = some (min a b) := by
 unfold spec_l1Min.f
 split <;> (congr 1; omega)
def isAge (w : ByteArray) : Bool := decide (8 ≤ w.size) && ((w.extract 0 8).toList == [109, 97, 120, 45, 97, 103, 101, 61])
def ageN (w : ByteArray) : Int := (numRead (w.extract 8 w.size)).1
def ccW (f0 f1 f2 f3 f4 : Bool) (f5 : Int) (w : ByteArray) : Bool × Bool × Bool × Bool × Bool × Int :=
 if w.toList = [110, 111, 45, 115, 116, 111, 114, 101] then (true, f1, f2, f3, f4, f5)
 else if w.toList = [110, 111, 45, 99, 97, 99, 104, 101] then (f0, true, f2, f3, f4, f5)
 else if w.toList = [112, 114, 105, 118, 97, 116, 101] then (f0, f1, true, f3, f4, f5)
 else if w.toList = [109, 117, 115, 116, 45, 114, 101, 118, 97, 108, 105, 100, 97, 116, 101] then (f0, f1, f2, true, f4, f5)
 else if isAge w = true then (f0, f1, f2, f3, true, if f4 = true then min f5 (ageN w) else ageN w) else (f0, f1, f2, f3, f4, f5)
def ccGo : List ByteArray → Bool × Bool × Bool × Bool × Bool × Int → Bool × Bool × Bool × Bool × Bool × Int
 | [], s => s
 | x :: r, s => ccGo r (ccW s.1 s.2.1 s.2.2.1 s.2.2.2.1 s.2.2.2.2.1 s.2.2.2.2.2 (lowB x))
def ccReadT (s : ByteArray) : Bool × Bool × Bool × Bool × Bool × Int := ccGo (splitT s) (false, false, false, false, false, 0)
theorem spec_l6Age_f {k : Nat} (w : ByteArray) (hk : 70 < k) : spec_l6Age.f k w = some (if isAge w = true then (ageN w, true) else (0, false)) := by
 unfold spec_l6Age.f isAge ageN
 by_cases h : 8 ≤ w.size
 ·rw [if_neg (by omega), if_pos (by omega), if_pos (by omega), decide_eq_true h, Bool.true_and]
  by_cases h2 : (w.extract 0 8).toList = [109, 97, 120, 45, 97, 103, 101, 61]
  ·rw [if_pos h2, spec_NumRead_f (by omega), Option.bind_some, if_pos (by rw [h2]; rfl)]
  ·rw [if_neg h2, if_neg (by simpa using h2)]
 ·rw [if_pos (by omega), decide_eq_false h]; rfl
theorem spec_CcRead_l0 (xs : List ByteArray) (hx : ∀ x ∈ xs, x.size ≤ 1048576) (hn : xs.length ≤ 1048577) : ∀ (d k i : Nat) (f0 f1 f2 f3 f4 : Bool) (f5 : Int), xs.length = i + d → 2 * d + 1048680 < k →
  spec_CcRead.l0 k xs i f0 f1 f2 f3 f4 f5 = some (ccGo (xs.drop i) (f0, f1, f2, f3, f4, f5)) := by
 intro d
 induction d with
 | zero =>
  intro k i f0 f1 f2 f3 f4 f5 hd hk
  obtain ⟨k, rfl⟩ := succ_of (show 0 < k by omega)
  simp only [spec_CcRead.l0]
  rw [if_neg (by omega), List.drop_eq_nil_of_le (by omega), ccGo]
 | succ d ih =>
  intro k i f0 f1 f2 f3 f4 f5 hd hk
  obtain ⟨k, rfl⟩ := succ_of (show 1 < k by omega)
  obtain ⟨k, rfl⟩ := succ_of (show 0 < k by omega)
  have hlt : i < xs.length := by omega
  have hs := hx _ (List.getElem_mem hlt)
  have ih1 := fun g0 g1 g2 g3 g4 g5 => ih (k + 1) (i + 1) g0 g1 g2 g3 g4 g5 (by omega) (by omega)
  have ih0 := fun g0 g1 g2 g3 g4 g5 => ih k (i + 1) g0 g1 g2 g3 g4 g5 (by omega) (by omega)
  simp only [spec_CcRead.l0]
  rw [if_pos (by omega), if_pos (by omega), rd_B xs i hlt, spec_Lower_f (by omega) (by omega), Option.bind_some, spec_l6Age_f _ (by omega), Option.bind_some, nat_round (n := xs.length) hlt (by omega), drop_at hlt, ccGo]
  unfold ccW
  dsimp only
  by_cases w1 : (lowB xs[i]).toList = [110, 111, 45, 115, 116, 111, 114, 101]
  ·rw [if_pos w1, if_pos w1]; exact ih1 _ _ _ _ _ _
  rw [if_neg w1, if_neg w1]
  by_cases w2 : (lowB xs[i]).toList = [110, 111, 45, 99, 97, 99, 104, 101]
  ·rw [if_pos w2, if_pos w2]; exact ih1 _ _ _ _ _ _
  rw [if_neg w2, if_neg w2]
  by_cases w3 : (lowB xs[i]).toList = [112, 114, 105, 118, 97, 116, 101]
  ·rw [if_pos w3, if_pos w3]; exact ih1 _ _ _ _ _ _
  rw [if_neg w3, if_neg w3]
  by_cases w4 : (lowB xs[i]).toList = [109, 117, 115, 116, 45, 114, 101, 118, 97, 108, 105, 100, 97, 116, 101]
  ·rw [if_pos w4, if_pos w4]; exact ih1 _ _ _ _ _ _
  rw [if_neg w4, if_neg w4]
  by_cases h : isAge (lowB xs[i]) = true
  ·rw [if_pos h, if_pos h]
   dsimp only
   rw [if_pos rfl]
   simp only [spec_CcRead.j1]
   rw [nat_round (n := xs.length) hlt (by omega)]
   cases f4
   ·rw [if_neg (by simp), if_pos (by trivial), if_neg (by simp)]; exact ih0 _ _ _ _ _ _
   ·rw [if_pos (by trivial), spec_l1Min_f, Option.bind_some, if_pos (by trivial)]; exact ih0 _ _ _ _ _ _
  ·rw [if_neg h, if_neg h]
   dsimp only
   rw [if_neg (by simp)]
   simp only [spec_CcRead.j1]
   rw [if_neg (by simp), if_neg (by simp), nat_round (n := xs.length) hlt (by omega)]
   exact ih0 _ _ _ _ _ _
theorem spec_CcRead_f {k : Nat} {s : ByteArray} (hs : s.size ≤ 1048576) (hk : 4300000 < k) : spec_CcRead.f k s = some (ccReadT s) := by
 have hn := splitT_len s
 unfold spec_CcRead.f
 rw [spec_Split_f hs (by omega), Option.bind_some]
 have := spec_CcRead_l0 (splitT s) (fun x hx => Nat.le_trans (splitT_small s x hx) hs) (by omega) (splitT s).length k 0 false false false false false 0 (by omega) (by omega)
 rw [List.drop_zero] at this
 exact this
def ccName : ByteArray := ⟨#[99, 97, 99, 104, 101, 45, 99, 111, 110, 116, 114, 111, 108]⟩
def ccOfF (l : List S116) : Bool × Bool × Bool × Bool × Bool × Int := ccReadT ((getF ccName l).getD ⟨#[]⟩)
theorem spec_CcOf_f {k K : Nat} {l : List S116} (hK : K ≤ 1048576) (hl : SmallF K l) (hk : 4300000 < k) : spec_CcOf.f k l = some (ccOfF l) := by
 have h2 : ((getF ccName l).getD ⟨#[]⟩).size ≤ K := getF_small hl.2
 have hn := hl.1
 unfold spec_CcOf.f ccOfF
 rw [spec_Get_f (by omega) (by omega), Option.bind_some]
 show (spec_CcRead.f k ((getF ccName l).getD ⟨#[]⟩)).bind _ = _
 rw [spec_CcRead_f (by omega) hk, Option.bind_some]
end Go.Proofs.YtjlpjbkpmmpojaaGreatDoor.Pure
namespace Go.Proofs.YtjlpjbkpmmpojaaGreatDoor.Pure
open Go.RowKit Go.Proofs.YtjlpjbkpmmpojaaGreatDoor.All Go.Proofs.YtjlpjbkpmmpojaaGreatDoorW.PrintWords Go.Proofs.YtjlpjbkpmmpojaaGreatDoorW.PrintLast
def reqB (m : Int) (p : ByteArray) (l : List S116) (b : ByteArray) : Bool := decide (1 ≤ m ∧ m ≤ 4) && (pathB p && (decide (b.size ≤ 120) && fieldsB l))
theorem spec_ReqOk_f {k K : Nat} {m : Int} {p : ByteArray} {l : List S116} {b : ByteArray} (hK : K < 4398046511104) (hp : p.size ≤ K) (hl : SmallF K l) (hk : 5 * K + 4 < k) : spec_ReqOk.f k m p l b = some (reqB m p l b) := by
 unfold spec_ReqOk.f reqB
 rw [spec_l1In_f, Option.bind_some]
 by_cases h : 1 ≤ m ∧ m ≤ 4
 ·rw [if_pos (decide_eq_true h), decide_eq_true h, spec_l3Path_f (by omega) (by omega), Option.bind_some]
  cases pathB p
  ·rfl
  rw [if_pos rfl, spec_FieldsOk_f hK hl hk, Option.bind_some, le120]
  cases fieldsB l <;> simp
 ·rw [if_neg (by simpa using h), decide_eq_false h]; rfl
def keepB (q l : List S116) : Bool := !(ccOfF q).1 && (!(ccOfF l).1 && (!(ccOfF l).2.2.1 && ((ccOfF l).2.2.2.2.1 && namesB (varyF l))))
def mayB (m : Int) (p : ByteArray) (q : List S116) (b : ByteArray) (st : Int) (l : List S116) (rb : ByteArray) : Bool := reqB m p q b && (respB st l rb && (decide (m = 1) && (decide (st = 200) && keepB q l)))
theorem spec_MayKeep_j0 {k K : Nat} (x : Bool) {m : Int} {p : ByteArray} {q : List S116} {b : ByteArray} {st : Int} {l : List S116} {rb : ByteArray} (hK : K ≤ 1048576) (hq : SmallF K q) (hl : SmallF K l) (hk : 9000001 < k) : spec_MayKeep.j0 k x m p q b st l rb = some (!x && keepB q l) := by
 obtain ⟨k, rfl⟩ := succ_of (show 0 < k by omega)
 have hv := varyF_small hl
 simp only [spec_MayKeep.j0]
 rw [spec_CcOf_f hK hq (by omega), spec_CcOf_f hK hl (by omega), spec_VaryOf_f hK hl (by omega)]
 simp only [Option.bind_some]
 rw [spec_l9Names_f (by omega) hv (by omega), Option.bind_some]
 unfold keepB
 cases x
 ·cases (ccOfF q).1 <;> cases (ccOfF l).1 <;> cases (ccOfF l).2.2.1 <;> cases (ccOfF l).2.2.2.2.1 <;> simp
 ·simp
theorem spec_MayKeep_f {k K : Nat} {m : Int} {p : ByteArray} {q : List S116} {b : ByteArray} {st : Int} {l : List S116} {rb : ByteArray} (hK : K ≤ 1048576) (hp : p.size ≤ K) (hq : SmallF K q) (hl : SmallF K l) (hk : 9000001 < k) : spec_MayKeep.f k m p q b st l rb = some (mayB m p q b st l rb) := by
 unfold spec_MayKeep.f mayB
 rw [spec_ReqOk_f (K := K) (by omega) hp hq (by omega), Option.bind_some, spec_RespOk_f (K := K) (by omega) hl (by omega), Option.bind_some, spec_MayKeep_j0 _ hK hq hl hk, spec_MayKeep_j0 _ hK hq hl hk]
 cases reqB m p q b
 ·simp
 ·cases respB st l rb
  ·simp
  ·by_cases h1 : m = 1
   ·by_cases h2 : st = 200
    ·simp [h1, h2]
    ·simp [h1, h2]
   ·simp [h1]
end Go.Proofs.YtjlpjbkpmmpojaaGreatDoor.Pure
namespace Go.Proofs.YtjlpjbkpmmpojaaGreatDoor.Pure
open Go.RowKit Go.Proofs.YtjlpjbkpmmpojaaGreatDoor.All Go.Proofs.YtjlpjbkpmmpojaaGreatDoorW.PrintWords Go.Proofs.YtjlpjbkpmmpojaaGreatDoorW.PrintLast
theorem spec_l8Texts_l0 (a b : List ByteArray) (hl : (a.length : Int) ≤ 4611686018427387904) : ∀ (d k i : Nat), a.length - i = d → i ≤ a.length → i ≤ b.length → d * 2 + 1 < k →
  spec_l8Texts.l0 k a b i = some (decide (a.drop i = b.drop i)) := by
 intro d
 induction d with
 | zero =>
  intro k i hd hi hi2 hk
  obtain ⟨k, rfl⟩ := succ_of (show 1 < k by omega)
  obtain ⟨k, rfl⟩ := succ_of (show 0 < k by omega)
  simp only [spec_l8Texts.l0, spec_l8Texts.j1]
  rw [if_neg (by omega), List.drop_eq_nil_of_le (show a.length ≤ i by omega)]
  simp only [Bool.false_eq_true, if_false]
  refine congrArg some ?_
  rw [Bool.eq_iff_iff]
  simp only [beq_iff_eq, decide_eq_true_eq, List.nil_eq, List.drop_eq_nil_iff]
  omega
 | succ d ih =>
  intro k i hd hi hi2 hk
  obtain ⟨k, rfl⟩ := succ_of (show 1 < k by omega)
  obtain ⟨k, rfl⟩ := succ_of (show 0 < k by omega)
  have hlt : i < a.length := by omega
  simp only [spec_l8Texts.l0, spec_l8Texts.j1]
  rw [if_pos (by omega)]
  by_cases h2 : i < b.length
  ·rw [if_pos (by simp; omega), if_pos (by omega), if_pos (by omega), if_pos (by omega), rd_B a i hlt, rd_B b i h2, nat_round (n := a.length) hlt (by omega), ih k (i + 1) (by omega) (by omega) (by omega) (by omega)]
   by_cases h : a[i] = b[i]
   ·rw [if_pos (by rw [h])]
    exact congrArg some (decide_eq_decide.2 (by rw [drop_eq hlt h2]; exact ⟨fun e => ⟨h, e⟩, fun e => e.2⟩))
   ·rw [if_neg (fun e => h (toList_inj e))]
    exact congrArg some (decide_eq_false fun e => h ((drop_eq hlt h2).1 e).1).symm
  ·rw [if_neg (by simp; omega), List.drop_eq_nil_of_le (show b.length ≤ i by omega)]
   refine congrArg some ?_
   rw [Bool.eq_iff_iff]
   simp only [beq_iff_eq, decide_eq_true_eq, List.drop_eq_nil_iff]
   omega
theorem spec_l8Texts_f {k : Nat} {a b : List ByteArray} (hl : (a.length : Int) ≤ 4611686018427387904) (hk : a.length * 2 + 1 < k) : spec_l8Texts.f k a b = some (decide (a = b)) := by
 have := spec_l8Texts_l0 a b hl a.length k 0 (by omega) (by omega) (by omega) hk
 simpa [spec_l8Texts.f] using this
theorem slices_Equal_string_string_l0 (a b : List ByteArray) (hl : a.length = b.length) (hn : a.length ≤ 4611686018427387904) : ∀ (d k i : Nat), a.length = i + d → d < k →
  slices_Equal_string_string.l0 k a b (a.length : Int) i = some (decide (a.drop i = b.drop i)) := by
 intro d
 induction d with
 | zero =>
  intro k i hd hk
  obtain ⟨k, rfl⟩ := succ_of hk
  simp only [slices_Equal_string_string.l0]
  rw [if_neg (by omega), List.drop_eq_nil_of_le (by omega), List.drop_eq_nil_of_le (by omega)]; simp
 | succ d ih =>
  intro k i hd hk
  obtain ⟨k, rfl⟩ := succ_of hk
  have h1 : i < a.length := by omega
  have h2 : i < b.length := by omega
  simp only [slices_Equal_string_string.l0]
  rw [if_pos (by omega), if_pos (by omega), if_pos (by omega), if_pos (by omega), rd_B a i h1, rd_B b i h2, nat_round (n := a.length) h1 (by omega), ih k (i + 1) (by omega) (by omega)]
  by_cases h : a[i] = b[i]
  ·rw [if_pos (by rw [h])]
   exact congrArg some (decide_eq_decide.2 (by rw [drop_eq h1 h2]; exact ⟨fun e => ⟨h, e⟩, fun e => e.2⟩))
  ·rw [if_neg (fun e => h (toList_inj e))]
   exact congrArg some (decide_eq_false fun e => h ((drop_eq h1 h2).1 e).1).symm
theorem slices_Equal_string_string_f {k : Nat} {a b : List ByteArray} (hn : a.length ≤ 4611686018427387904) (hk : a.length < k) : slices_Equal_string_string.f k a b = some (decide (a = b)) := by
 unfold slices_Equal_string_string.f
 by_cases h : a.length = b.length
 ·rw [if_pos (by omega), show (0 : Int) = ((0 : Nat) : Int) from rfl, slices_Equal_string_string_l0 a b h hn a.length k 0 (by omega) hk]; rfl
 ·rw [if_neg (by omega), decide_eq_false (fun e => h (by rw [e]))]
def timeB (t : Int) : Bool := decide (0 ≤ t ∧ t ≤ 1000000)
def objB (p : ByteArray) (ns vs : List ByteArray) (m : Int) (l : List S116) (b : ByteArray) (t : Int) : Bool :=
 respB m l b && (pathB p && (timeB t && (namesB ns && (decide (ns = varyF l) && (decide (vs.length = ns.length) && vs.all valB)))))
theorem spec_ObjOk_j0t {k : Nat} (p : ByteArray) (ns vs : List ByteArray) (m : Int) (l : List S116) (b : ByteArray) (t : Int) (hk : 0 < k) : spec_ObjOk.j0 k true p ns vs m l b t = some false := by
 obtain ⟨k, rfl⟩ := succ_of hk
 simp only [spec_ObjOk.j0, if_true]
theorem impl_ObjOk_j1t {k : Nat} (p : ByteArray) (ns vs : List ByteArray) (m : Int) (l : List S116) (b : ByteArray) (t : Int) (hk : 0 < k) : impl_ObjOk.j1 k true p ns vs m l b t = some false := by
 obtain ⟨k, rfl⟩ := succ_of hk
 simp only [impl_ObjOk.j1, if_true]
theorem spec_ObjOk_l0 (K : Nat) (hK : K ≤ 1048576) (p : ByteArray) (ns vs : List ByteArray) (m : Int) (l : List S116) (b : ByteArray) (t : Int) (hv : SmallB K vs) : ∀ (d k i : Nat), vs.length = i + d → d + 3 * K + 10 < k →
  spec_ObjOk.l0 k i p ns vs m l b t = some ((vs.drop i).all valB) := by
 obtain ⟨hn, hx⟩ := hv
 intro d
 induction d with
 | zero =>
  intro k i hd hk
  obtain ⟨k, rfl⟩ := succ_of (show 0 < k by omega)
  simp only [spec_ObjOk.l0]
  rw [if_neg (by omega), List.drop_eq_nil_of_le (by omega)]; rfl
 | succ d ih =>
  intro k i hd hk
  obtain ⟨k, rfl⟩ := succ_of (show 0 < k by omega)
  have hlt : i < vs.length := by omega
  have hs := hx _ (List.getElem_mem hlt)
  simp only [spec_ObjOk.l0]
  rw [if_pos (by omega), if_pos (by omega), rd_B vs i hlt, spec_ValueOk_f (by omega) (by omega), Option.bind_some, nat_round (n := vs.length) hlt (by omega), ih k (i + 1) (by omega) (by omega), drop_at hlt, List.all_cons]
  cases valB vs[i] <;> rfl
theorem spec_ObjOk_f {k K : Nat} {p : ByteArray} {ns vs : List ByteArray} {m : Int} {l : List S116} {b : ByteArray} {t : Int} (hK : K ≤ 1048576) (hp : p.size ≤ K) (hn : SmallB K ns) (hv : SmallB K vs) (hl : SmallF K l) (hk : 9000000 < k) :
  spec_ObjOk.f k p ns vs m l b t = some (objB p ns vs m l b t) := by
 have hn1 := hn.1
 have hv1 := hv.1
 unfold spec_ObjOk.f objB timeB
 rw [spec_RespOk_f (K := K) (by omega) hl (by omega), Option.bind_some]
 cases respB m l b
 ·rw [if_neg (by simp), spec_ObjOk_j0t _ _ _ _ _ _ _ (by omega)]; rfl
 rw [if_pos rfl, spec_l3Path_f (by omega) (by omega), Option.bind_some]
 cases pathB p
 ·rw [if_neg (by simp), spec_ObjOk_j0t _ _ _ _ _ _ _ (by omega)]; rfl
 rw [if_pos rfl, spec_l1In_f, Option.bind_some]
 cases decide (0 ≤ t ∧ t ≤ 1000000)
 ·rw [if_neg (by simp), spec_ObjOk_j0t _ _ _ _ _ _ _ (by omega)]; rfl
 rw [if_pos rfl, spec_l9Names_f (Nat.le_trans hK (by decide)) hn (by omega), Option.bind_some]
 cases namesB ns
 ·rw [if_neg (by simp), spec_ObjOk_j0t _ _ _ _ _ _ _ (by omega)]; rfl
 rw [if_pos rfl, spec_VaryOf_f hK hl (by omega), Option.bind_some, spec_l8Texts_f (by omega) (by omega), Option.bind_some]
 cases decide (ns = varyF l)
 ·rw [if_neg (by simp), spec_ObjOk_j0t _ _ _ _ _ _ _ (by omega)]; rfl
 rw [if_pos rfl]
 by_cases h : vs.length = ns.length
 ·have e : ((vs.length : Int) != (ns.length : Int)) = false := by simp [h]
  obtain ⟨k, rfl⟩ := succ_of (show 0 < k by omega)
  simp only [spec_ObjOk.j0]
  rw [e, if_neg (by simp), show (0 : Int) = ((0 : Nat) : Int) from rfl, spec_ObjOk_l0 K hK p ns vs m l b t hv vs.length k 0 (by omega) (by omega), decide_eq_true h]; rfl
 ·have e : ((vs.length : Int) != (ns.length : Int)) = true := by simp; omega
  rw [e, spec_ObjOk_j0t _ _ _ _ _ _ _ (by omega), decide_eq_false h]; rfl
theorem impl_ObjOk_l0 (K : Nat) (hK : K ≤ 1048576) (p : ByteArray) (ns vs : List ByteArray) (m : Int) (l : List S116) (b : ByteArray) (t : Int) (hp : p.size ≤ K) (hns : SmallB K ns) (hv : SmallB K vs) (hl : SmallF K l) : ∀ (d k i : Nat), vs.length = i + d → d + 8000000 < k →
  impl_ObjOk.l0 k vs (vs.length : Int) i p ns vs m l b t = some ((vs.drop i).all valB && (pathB p && (timeB t && (decide (vs.length = ns.length) && (namesB ns && (respB m l b && decide (ns = varyF l))))))) := by
 have hn1 := hns.1
 obtain ⟨hn, hx⟩ := hv
 intro d
 induction d with
 | zero =>
  intro k i hd hk
  obtain ⟨k, rfl⟩ := succ_of (show 0 < k by omega)
  simp only [impl_ObjOk.l0]
  rw [if_neg (by omega), List.drop_eq_nil_of_le (by omega), List.all_nil, Bool.true_and, impl_pathOk_f (by omega) (by omega), Option.bind_some]
  cases pathB p
  ·rw [if_neg (by simp), impl_ObjOk_j1t _ _ _ _ _ _ _ (by omega)]; rfl
  rw [if_pos rfl]
  unfold impl_isTime.f timeB
  rw [impl_inRange_f, Option.bind_some, Option.bind_some]
  cases decide (0 ≤ t ∧ t ≤ 1000000)
  ·rw [if_neg (by simp), impl_ObjOk_j1t _ _ _ _ _ _ _ (by omega)]; rfl
  rw [if_pos rfl]
  by_cases h : vs.length = ns.length
  ·rw [if_pos (by omega), impl_namesOk_f (Nat.le_trans hK (by decide)) hns (by omega), Option.bind_some, decide_eq_true h]
   cases namesB ns
   ·rw [if_neg (by simp), impl_ObjOk_j1t _ _ _ _ _ _ _ (by omega)]; rfl
   rw [if_pos rfl, impl_RespOk_f (K := K) (by omega) hl (by omega), Option.bind_some]
   cases respB m l b
   ·rw [show (!false) = true from rfl, impl_ObjOk_j1t _ _ _ _ _ _ _ (by omega)]; rfl
   obtain ⟨k, rfl⟩ := succ_of (show 0 < k by omega)
   simp only [impl_ObjOk.j1]
   rw [if_neg (by simp), impl_VaryOf_f hK hl (by omega), Option.bind_some, slices_Equal_string_string_f (by omega) (by omega), Option.bind_some]; rfl
  ·rw [if_neg (by omega), impl_ObjOk_j1t _ _ _ _ _ _ _ (by omega), decide_eq_false h]; rfl
 | succ d ih =>
  intro k i hd hk
  obtain ⟨k, rfl⟩ := succ_of (show 0 < k by omega)
  have hlt : i < vs.length := by omega
  have hs := hx _ (List.getElem_mem hlt)
  simp only [impl_ObjOk.l0]
  rw [if_pos (by omega), if_pos (by omega), if_pos (by omega), rd_B vs i hlt, impl_ValueOk_f (by omega) (by omega), Option.bind_some, nat_round (n := vs.length) hlt (by omega), ih k (i + 1) (by omega) (by omega), drop_at hlt, List.all_cons]
  cases valB vs[i] <;> rfl
theorem impl_ObjOk_f {k K : Nat} {p : ByteArray} {ns vs : List ByteArray} {m : Int} {l : List S116} {b : ByteArray} {t : Int} (hK : K ≤ 1048576) (hp : p.size ≤ K) (hn : SmallB K ns) (hv : SmallB K vs) (hl : SmallF K l) (hk : 9200000 < k) :
  impl_ObjOk.f k p ns vs m l b t = some (objB p ns vs m l b t) := by
 have := impl_ObjOk_l0 K hK p ns vs m l b t hp hn hv hl vs.length k 0 (by omega) (by have := hv.1; omega)
 rw [List.drop_zero] at this
 refine Eq.trans this (congrArg some ?_)
 unfold objB
 cases vs.all valB <;> cases pathB p <;> cases timeB t <;> cases decide (vs.length = ns.length) <;> cases namesB ns <;> cases respB m l b <;> cases decide (ns = varyF l) <;> rfl
def rejO : ByteArray × List ByteArray × List ByteArray × Int × List S116 × ByteArray × Int × Bool := (⟨#[]⟩, [], [], 0, [], ⟨#[]⟩, 0, false)
theorem objB_facts {p : ByteArray} {ns vs : List ByteArray} {m : Int} {l : List S116} {b : ByteArray} {t : Int} (h : objB p ns vs m l b t = true) : respB m l b = true ∧ pathB p = true ∧ (0 ≤ t ∧ t ≤ 1000000) ∧ ns.length ≤ 4 ∧ ns = varyF l ∧ vs.length = ns.length ∧ (∀ x ∈ ns, tokB x = true) ∧ ∀ v ∈ vs, valB v = true := by
 unfold objB timeB namesB at h
 simp only [Bool.and_eq_true, List.all_eq_true, decide_eq_true_eq] at h
 obtain ⟨h1, h2, h3, ⟨h4, h5⟩, h6, h7, h8⟩ := h
 exact ⟨h1, h2, h3, h5, h6, h7, h4, h8⟩
end Go.Proofs.YtjlpjbkpmmpojaaGreatDoor.Pure
namespace Go.Proofs.YtjlpjbkpmmpojaaGreatDoor.Pure
open Go.RowKit Go.Proofs.YtjlpjbkpmmpojaaGreatDoor.All Go.Proofs.YtjlpjbkpmmpojaaGreatDoorW.PrintWords Go.Proofs.YtjlpjbkpmmpojaaGreatDoorW.PrintLast
def valuesF (l : List S116) (ns : List ByteArray) : List ByteArray := ns.map fun n => (getF n l).getD ⟨#[45]⟩
theorem ValuesOf_l0 (ns : List ByteArray) (l : List S116) (hn : ns.length ≤ 1048576) (hl : l.length < 4398046511104) : ∀ (d k i : Nat) (acc : List ByteArray), ns.length - i = d → i ≤ ns.length → acc.length ≤ i → d + l.length < k →
  impl_ValuesOf.l0 k l acc ns (ns.length : Int) i = some (acc ++ valuesF l (ns.drop i)) ∧ spec_ValuesOf.l0 k ns l acc i = some (acc ++ valuesF l (ns.drop i)) := by
 intro d
 induction d with
 | zero =>
  intro k i acc hd hi ha hk
  obtain ⟨k, rfl⟩ := succ_of (show 0 < k by omega)
  simp only [spec_ValuesOf.l0, impl_ValuesOf.l0]
  rw [if_neg (by omega), if_neg (by omega), List.drop_eq_nil_of_le (by omega), valuesF, List.map_nil, List.append_nil]
  exact ⟨rfl, rfl⟩
 | succ d ih =>
  intro k i acc hd hi ha hk
  obtain ⟨k, rfl⟩ := succ_of (show 0 < k by omega)
  have hlt : i < ns.length := by omega
  have ha' : acc.length < 8796093022208 := by omega
  have st : ∀ x : ByteArray, x = (getF ns[i] l).getD ⟨#[45]⟩ → impl_ValuesOf.l0 k l (acc ++ [x]) ns (ns.length : Int) ((i + 1 : Nat) : Int) = some (acc ++ valuesF l (ns.drop i)) ∧ spec_ValuesOf.l0 k ns l (acc ++ [x]) ((i + 1 : Nat) : Int) = some (acc ++ valuesF l (ns.drop i)) := fun x hx => by
   obtain ⟨i1, i2⟩ := ih k (i + 1) (acc ++ [x]) (by omega) (by omega) (by simp; omega) (by omega)
   rw [i1, i2, drop_at hlt, valuesF, valuesF, List.map_cons, List.append_assoc, hx]
   exact ⟨rfl, rfl⟩
  simp only [spec_ValuesOf.l0, impl_ValuesOf.l0]
  refine ⟨?_, ?_⟩
  ·rw [if_pos (by omega), if_pos (by omega), if_pos (by omega), rd_B ns i hlt, nat_round (n := ns.length) hlt (by omega), impl_Get_f hl, Option.bind_some]
   cases h : getF ns[i] l with
   | none => simp only [Option.isSome_none, Bool.false_eq_true, if_false]; rw [if_pos ha']; exact (st ⟨#[45]⟩ (by simp [h])).1
   | some v => simp only [Option.isSome_some, if_true, Option.getD_some]; rw [if_pos ha']; exact (st v (by simp [h])).1
  ·rw [if_pos (by omega), if_pos (by omega), rd_B ns i hlt, nat_round (n := ns.length) hlt (by omega), spec_Get_f (by omega) (by omega), Option.bind_some]
   cases h : getF ns[i] l with
   | none => simp only [Option.isSome_none, Bool.false_eq_true, if_false]; rw [if_pos ha']; exact (st ⟨#[45]⟩ (by simp [h])).2
   | some v => simp only [Option.isSome_some, if_true, Option.getD_some]; rw [if_pos ha']; exact (st v (by simp [h])).2
theorem spec_ValuesOf_f {k : Nat} {ns : List ByteArray} {l : List S116} (hn : ns.length ≤ 1048576) (hl : l.length < 4398046511104) (hk : ns.length + l.length < k) : spec_ValuesOf.f k ns l = some (valuesF l ns) := by
 have := (ValuesOf_l0 ns l hn hl ns.length k 0 [] (by omega) (by omega) (by simp) hk).2
 simpa [spec_ValuesOf.f] using this
def objOfR (m : Int) (p : ByteArray) (q : List S116) (b : ByteArray) (st : Int) (l : List S116) (rb : ByteArray) (t : Int) : ByteArray × List ByteArray × List ByteArray × Int × List S116 × ByteArray × Int × Bool :=
 if mayB m p q b st l rb = true then (if objB p (varyF l) (valuesF q (varyF l)) st l rb t = true then (p, varyF l, valuesF q (varyF l), st, l, rb, t, true) else rejO) else rejO
theorem valuesF_small {K : Nat} {q : List S116} {ns : List ByteArray} (h1 : 1 ≤ K) (hn : ns.length ≤ K) (hq : SmallF K q) : SmallB K (valuesF q ns) := by
 unfold valuesF
 refine ⟨by rw [List.length_map]; exact hn, fun x hx => ?_⟩
 obtain ⟨n, _, rfl⟩ := List.mem_map.1 hx
 cases h : getF n q with
 | none => exact h1
 | some v => have h2 := getF_small (n := n) hq.2; rw [h] at h2; exact h2
theorem mayB_facts {m : Int} {p : ByteArray} {q : List S116} {b : ByteArray} {st : Int} {l : List S116} {rb : ByteArray} (h : mayB m p q b st l rb = true) : reqB m p q b = true ∧ respB st l rb = true ∧ m = 1 ∧ st = 200 ∧ namesB (varyF l) = true := by
 unfold mayB keepB at h
 simp only [Bool.and_eq_true, Bool.not_eq_true', decide_eq_true_eq] at h
 exact ⟨h.1, h.2.1, h.2.2.1, h.2.2.2.1, h.2.2.2.2.2.2.2.2⟩
theorem namesB_small {K : Nat} {l : List ByteArray} (hK : 20 ≤ K) (h : namesB l = true) : SmallB K l := by
 unfold namesB at h
 rw [Bool.and_eq_true, List.all_eq_true] at h
 have h1 := of_decide_eq_true h.2
 exact ⟨by omega, fun x hx => by have := (tok_size (h.1 x hx)).2; omega⟩
theorem spec_ObjOf_f {k K : Nat} {m : Int} {p : ByteArray} {q : List S116} {b : ByteArray} {st : Int} {l : List S116} {rb : ByteArray} {t : Int} (hK : K ≤ 1048576) (h20 : 20 ≤ K) (hp : p.size ≤ K) (hq : SmallF K q) (hl : SmallF K l) (hk : 9300000 < k) : spec_ObjOf.f k m p q b st l rb t = some (objOfR m p q b st l rb t) := by
 have hl1 := hl.1
 have hq1 := hq.1
 unfold spec_ObjOf.f objOfR
 rw [spec_MayKeep_f hK hp hq hl (by omega), Option.bind_some]
 by_cases h : mayB m p q b st l rb = true
 ·have hn := namesB_small h20 (mayB_facts h).2.2.2.2
  have hv := valuesF_small (by omega) hn.1 hq
  have hnl := hn.1
  unfold spec_l9Resp.f spec_l9Copy.f
  rw [if_pos h, if_pos h, spec_VaryOf_f hK hl (by omega), Option.bind_some, spec_ValuesOf_f (by omega) (by omega) (by omega), Option.bind_some, Option.bind_some, if_pos (by simp; omega), Option.bind_some, Option.bind_some]
  dsimp only
  rw [List.nil_append, spec_ObjOk_f hK hp hn hv hl (by omega), Option.bind_some]
  by_cases h2 : objB p (varyF l) (valuesF q (varyF l)) st l rb t = true
  ·rw [if_pos h2, if_pos h2]
  ·rw [if_neg h2, if_neg h2]; rfl
 ·rw [if_neg h, if_neg h]; rfl
end Go.Proofs.YtjlpjbkpmmpojaaGreatDoor.Pure
namespace Go.Proofs.YtjlpjbkpmmpojaaGreatDoor.Pure
open Go.RowKit Go.Proofs.YtjlpjbkpmmpojaaGreatDoor.All Go.Proofs.YtjlpjbkpmmpojaaGreatDoorW.PrintWords Go.Proofs.YtjlpjbkpmmpojaaGreatDoorW.PrintLast
def skipI (j : Int) : Nat → List S116 → List S116
 | _, [] => []
 | i, x :: r => if (i : Int) = j then skipI j (i + 1) r else x :: skipI j (i + 1) r
theorem skipI_past (j : Int) : ∀ (l : List S116) (i : Nat), j < i → skipI j i l = l
 | [], _, _ => rfl
 | x :: r, i, h => by rw [skipI, if_neg (by omega), skipI_past j r (i + 1) (by omega)]
theorem skipI_at : ∀ (l : List S116) (i m : Nat), skipI ((i + m : Nat) : Int) i l = l.eraseIdx m
 | [], _, _ => rfl
 | x :: r, i, 0 => by rw [skipI, if_pos (by omega), skipI_past _ r _ (by omega)]; rfl
 | x :: r, i, m + 1 => by
  rw [skipI, if_neg (by omega), List.eraseIdx_cons_succ, ← skipI_at r (i + 1) m]
  rw [show i + (m + 1) = i + 1 + m by omega]
theorem spec_Drop_l0 (l : List S116) (j : Int) (hl : l.length < 4398046511104) : ∀ (d k i : Nat) (acc : List S116), l.length - i = d → i ≤ l.length → acc.length ≤ i → d < k →
  spec_Drop.l0 k l j acc i = some (acc ++ skipI j i (l.drop i)) := by
 intro d
 induction d with
 | zero =>
  intro k i acc hd hi ha hk
  obtain ⟨k, rfl⟩ := succ_of hk
  simp only [spec_Drop.l0]
  rw [if_neg (by omega), List.drop_eq_nil_of_le (by omega), skipI, List.append_nil]
 | succ d ih =>
  intro k i acc hd hi ha hk
  obtain ⟨k, rfl⟩ := succ_of hk
  have hlt : i < l.length := by omega
  simp only [spec_Drop.l0]
  rw [if_pos (by omega), rd_F l i hlt, nat_round (n := l.length) hlt (by omega), drop_at hlt, skipI]
  by_cases h : (i : Int) = j
  ·rw [if_pos h, if_pos h, ih k (i + 1) acc (by omega) (by omega) (by omega) (by omega)]
  ·rw [if_neg h, if_neg h, if_pos (by omega), if_pos (by omega), ih k (i + 1) _ (by omega) (by omega) (by simp; omega) (by omega), List.append_assoc]
   rfl
theorem spec_Drop_f {k : Nat} {l : List S116} {n : ByteArray} (hl : l.length < 4398046511104) (hk : l.length < k) : spec_Drop.f k l n = some (dropF n l) := by
 unfold spec_Drop.f
 rw [spec_l2At_f (by omega) hk, Option.bind_some, show (0 : Int) = ((0 : Nat) : Int) from rfl, spec_Drop_l0 l _ hl l.length k 0 [] (by omega) (by omega) (by simp) hk, List.nil_append, List.drop_zero]
 rcases at_cases n n l 0 with ⟨h1, _, _, h4⟩ | ⟨j, hj, h1, _, _, _, h4⟩
 ·rw [h1, h4, skipI_past _ _ _ (by omega)]
 ·rw [h1, h4, skipI_at]
theorem spec_l7DrawTime_f (l : List Int) (i h : Int) (h0 : 0 ≤ i) (hl : (l.length : Int) ≤ 4611686018427387904) (hi : i ≤ l.length) : ∃ v i' h', spec_l7DrawTime.f l i h = some (v, i', h') ∧ (-9223372036854775808 ≤ v ∧ v ≤ 9223372036854775807) ∧ 0 ≤ i' ∧ i' ≤ l.length := by
 unfold spec_l7DrawTime.f
 obtain ⟨v, i1, h1, e, i10, i11⟩ := spec_l1Once_f l i h 15 h0 hl hi
 rw [e, Option.bind_some]
 dsimp only
 split
 ·obtain ⟨t, i2, h2, e2, ht, i20, i21⟩ := spec_l1PickInt_f l i1 h1 [(-1), 1000000, 1000001, 9223372036854775807, (-9223372036854775808)] i10 hl i11 (by decide)
  rw [e2, Option.bind_some]
  refine ⟨_, _, _, rfl, ?_, i20, i21⟩
  simp only [List.mem_cons, List.mem_nil_iff, or_false] at ht
  rcases ht with rfl | rfl | rfl | rfl | rfl <;> exact ⟨by dsimp only; omega, by dsimp only; omega⟩
 ·obtain ⟨d, i2, h2, e2, d0, d1, _, i20, i21⟩ := spec_l1Below_f l i1 h1 40 i10 hl i11
  rw [e2, Option.bind_some]
  have := d1 (by omega)
  exact ⟨_, _, _, rfl, ⟨by dsimp only; omega, by dsimp only; omega⟩, i20, i21⟩
theorem dropF_sub (n : ByteArray) : ∀ l : List S116, (dropF n l).Sublist l
 | [] => List.Sublist.refl _
 | x :: r => by
  rw [dropF]
  split
  ·exact List.sublist_cons_self x r
  ·exact (dropF_sub n r).cons_cons x
theorem dropF_SmallF {K : Nat} {n : ByteArray} {l : List S116} (h : SmallF K l) : SmallF K (dropF n l) :=
 ⟨Nat.le_trans (dropF_length n l) h.1, fun x hx => h.2 x ((dropF_sub n l).mem hx)⟩
theorem objOfR_or (m : Int) (p : ByteArray) (q : List S116) (b : ByteArray) (st : Int) (l : List S116) (rb : ByteArray) (t : Int) : objOfR m p q b st l rb t = rejO ∨ mayB m p q b st l rb = true ∧ objB p (varyF l) (valuesF q (varyF l)) st l rb t = true ∧ objOfR m p q b st l rb t = (p, varyF l, valuesF q (varyF l), st, l, rb, t, true) := by
 unfold objOfR
 by_cases h : mayB m p q b st l rb = true
 ·rw [if_pos h]
  by_cases h2 : objB p (varyF l) (valuesF q (varyF l)) st l rb t = true
  ·rw [if_pos h2]; exact .inr ⟨h, h2, rfl⟩
  ·rw [if_neg h2]; exact .inl rfl
 ·rw [if_neg h]; exact .inl rfl
end Go.Proofs.YtjlpjbkpmmpojaaGreatDoor.Pure
namespace Go.Proofs.YtjlpjbkpmmpojaaGreatDoor.Pure
open Go.RowKit Go.Proofs.YtjlpjbkpmmpojaaGreatDoor.All Go.Proofs.YtjlpjbkpmmpojaaGreatDoorW.PrintWords Go.Proofs.YtjlpjbkpmmpojaaGreatDoorW.PrintLast
def SmallO (K : Nat) (p : ByteArray) (ns vs : List ByteArray) (l : List S116) : Prop := p.size ≤ K ∧ SmallB K ns ∧ SmallB K vs ∧ SmallF K l
theorem spec_l10DrawRight_l0 (l : List Int) (hl : (l.length : Int) ≤ 4611686018427387904) (t : Int) : ∀ (d k i : Nat) (c h : Int), i + d = 4 → 0 ≤ c → c ≤ l.length → d + 9400000 < k →
  ∃ p ns vs m fs b t' c' h', spec_l10DrawRight.l0 k t i l c h = some (p, ns, vs, m, fs, b, t', c', h') ∧ SmallO 60 p ns vs fs ∧ 0 ≤ c' ∧ c' ≤ l.length := by
 intro d
 induction d with
 | zero =>
  intro k i c h hd h0 hi hk
  obtain ⟨k, rfl⟩ := succ_of (show 0 < k by omega)
  simp only [spec_l10DrawRight.l0]
  rw [if_neg (by omega)]
  exact ⟨_, _, _, _, _, _, _, _, _, rfl, ⟨Nat.le_of_ble_eq_true rfl, ⟨Nat.zero_le _, fun x hx => by cases hx⟩, ⟨Nat.zero_le _, fun x hx => by cases hx⟩, ⟨Nat.zero_le _, fun x hx => by cases hx⟩⟩, h0, hi⟩
 | succ d ih =>
  intro k i c h hd h0 hi hk
  obtain ⟨k, rfl⟩ := succ_of (show 0 < k by omega)
  simp only [spec_l10DrawRight.l0]
  obtain ⟨st, r, rb, c1, h1, e1, hr, hr6, hrb, c10, c11⟩ := spec_l3DrawResp_f (k := k) (i := c) (h := h) hl h0 hi (by omega)
  rw [if_pos (by omega), e1, Option.bind_some]
  dsimp only
  rw [spec_Drop_f (by omega) (by omega), Option.bind_some]
  have hd1 : SmallF 27 (dropF (⟨#[99, 97, 99, 104, 101, 45, 99, 111, 110, 116, 114, 111, 108]⟩ : ByteArray) r) := dropF_SmallF hr
  generalize dropF (⟨#[99, 97, 99, 104, 101, 45, 99, 111, 110, 116, 114, 111, 108]⟩ : ByteArray) r = r1 at hd1 ⊢
  have hd1l := hd1.1
  obtain ⟨v, c2, h2, e2, hv, c20, c21⟩ := spec_l1Pick_le l c1 h1 27 [(⟨#[109, 97, 120, 45, 97, 103, 101, 61, 53]⟩ : ByteArray), (⟨#[109, 97, 120, 45, 97, 103, 101, 61, 50, 48]⟩ : ByteArray)] c10 hl c11 (by decide) (by rfl)
  rw [e2, Option.bind_some]
  dsimp only
  rw [spec_Put_f (by omega) (by omega), Option.bind_some]
  have hp1 := putF_length (⟨#[99, 97, 99, 104, 101, 45, 99, 111, 110, 116, 114, 111, 108]⟩ : ByteArray) v r1
  have hp2 := putF_small (K := 27) (n := (⟨#[99, 97, 99, 104, 101, 45, 99, 111, 110, 116, 114, 111, 108]⟩ : ByteArray)) (v := v) (by decide) hv hd1.2
  have hp : SmallF 60 (putF (⟨#[99, 97, 99, 104, 101, 45, 99, 111, 110, 116, 114, 111, 108]⟩ : ByteArray) v r1) := ⟨by omega, fun x hx => by have := hp2 x hx; omega⟩
  generalize putF (⟨#[99, 97, 99, 104, 101, 45, 99, 111, 110, 116, 114, 111, 108]⟩ : ByteArray) v r1 = r2 at hp ⊢
  obtain ⟨m, p, q, b, c3, h3, e3, hm, hps, hq, hq3, hb, c30, c31⟩ := spec_l3DrawReq_f (k := k) (i := c2) (h := h2) hl c20 c21 (by omega)
  rw [e3, Option.bind_some]
  dsimp only
  rw [spec_Drop_f (by omega) (by omega), Option.bind_some]
  have hd2 : SmallF 26 (dropF (⟨#[99, 97, 99, 104, 101, 45, 99, 111, 110, 116, 114, 111, 108]⟩ : ByteArray) q) := dropF_SmallF hq
  generalize dropF (⟨#[99, 97, 99, 104, 101, 45, 99, 111, 110, 116, 114, 111, 108]⟩ : ByteArray) q = q1 at hd2 ⊢
  have hd3 : SmallF 60 q1 := ⟨by have := hd2.1; omega, fun x hx => by have := hd2.2 x hx; omega⟩
  rw [spec_ObjOf_f (K := 60) (by omega) (by omega) (by omega) hd3 hp (by omega), Option.bind_some]
  rcases objOfR_or 1 p q1 ⟨#[]⟩ 200 r2 rb t with ho | ⟨ho1, ho2, ho⟩
  ·rw [ho, if_neg (show ¬ (rejO.2.2.2.2.2.2.2 = true) by show ¬ (false = true); simp), w64 (by omega)]
   exact ih k (i + 1) c3 h3 (by omega) c30 c31 (by omega)
  ·rw [ho]
   dsimp only
   rw [if_pos rfl]
   have hn := namesB_small (K := 60) (by omega) (mayB_facts ho1).2.2.2.2
   exact ⟨_, _, _, _, _, _, _, _, _, rfl, ⟨by omega, hn, valuesF_small (by omega) hn.1 hd3, hp⟩, c30, c31⟩
theorem spec_l10DrawRight_f {k : Nat} {l : List Int} {i h t : Int} (hl : (l.length : Int) ≤ 4611686018427387904) (h0 : 0 ≤ i) (hi : i ≤ l.length) (hk : 9400010 < k) :
  ∃ p ns vs m fs b t' c' h', spec_l10DrawRight.f k l i h t = some (p, ns, vs, m, fs, b, t', c', h') ∧ SmallO 60 p ns vs fs ∧ 0 ≤ c' ∧ c' ≤ l.length :=
 spec_l10DrawRight_l0 l hl t 4 k 0 i h rfl h0 hi (by omega)
theorem SmallO.mono {K L : Nat} (h : K ≤ L) {p : ByteArray} {ns vs : List ByteArray} {l : List S116} (s : SmallO K p ns vs l) : SmallO L p ns vs l := by
 obtain ⟨h1, ⟨h2, h3⟩, ⟨h4, h5⟩, h6, h7⟩ := s
 exact ⟨by omega, ⟨by omega, fun x hx => by have := h3 x hx; omega⟩, ⟨by omega, fun x hx => by have := h5 x hx; omega⟩, by omega, fun x hx => by have := h7 x hx; omega⟩
theorem SmallB.snoc {K : Nat} {l : List ByteArray} {v : ByteArray} (s : SmallB K l) (hv : v.size ≤ K + 1) : SmallB (K + 1) (l ++ [v]) := by
 refine ⟨by have := s.1; simp; omega, fun x hx => ?_⟩
 rcases List.mem_append.1 hx with hx | hx
 ·have := s.2 x hx; omega
 ·rw [List.mem_singleton.1 hx]; exact hv
theorem spec_l10Draw_f {k : Nat} {l : List Int} {i h : Int} (hl : (l.length : Int) ≤ 4611686018427387904) (h0 : 0 ≤ i) (hi : i ≤ l.length) (hk : 9400010 < k) :
  ∃ p ns vs m fs b t' c' h', spec_l10Draw.f k l i h = some (p, ns, vs, m, fs, b, t', c', h') ∧ SmallO 61 p ns vs fs ∧ 0 ≤ c' ∧ c' ≤ l.length := by
 unfold spec_l10Draw.f
 obtain ⟨v, c1, h1, e1, _, _, _, c10, c11⟩ := spec_l1Below_f l i h 30 h0 hl hi
 rw [e1, Option.bind_some]
 dsimp only
 obtain ⟨p, ns, vs, m, fs, b, t, c2, h2, e2, hs, c20, c21⟩ := spec_l10DrawRight_f (k := k) (h := h1) (t := v) hl c10 c11 hk
 have hs1 := SmallO.mono (show 60 ≤ 61 by omega) hs
 obtain ⟨s1, s2, s3, s4⟩ := hs1
 rw [e2, Option.bind_some]
 dsimp only
 obtain ⟨w, c3, h3, e3, _, _, _, c30, c31⟩ := spec_l1Below_f l c2 h2 20 c20 hl c21
 rw [e3, Option.bind_some]
 dsimp only
 split
 ·obtain ⟨u, c4, h4, e4, _, c40, c41⟩ := spec_l7DrawTime_f l c3 h3 c30 hl c31
  rw [e4, Option.bind_some]
  exact ⟨_, _, _, _, _, _, _, _, _, rfl, ⟨s1, s2, s3, s4⟩, c40, c41⟩
 ·split
  ·obtain ⟨u, c4, h4, e4, hu, c40, c41⟩ := spec_l1Pick_le l c3 h3 61 [(⟨#[]⟩ : ByteArray), (⟨#[120]⟩ : ByteArray), (⟨#[47, 32]⟩ : ByteArray)] c30 hl c31 (by decide) (by rfl)
   rw [e4, Option.bind_some]
   exact ⟨_, _, _, _, _, _, _, _, _, rfl, ⟨hu, s2, s3, s4⟩, c40, c41⟩
  ·split
   ·have hvl := hs.2.2.1.1
    rw [if_pos (by omega)]
    exact ⟨_, _, _, _, _, _, _, _, _, rfl, ⟨s1, s2, SmallB.snoc hs.2.2.1 (Nat.le_of_ble_eq_true rfl), s4⟩, c30, c31⟩
   ·split
    ·have hnl := hs.2.1.1
     rw [if_pos (by omega)]
     exact ⟨_, _, _, _, _, _, _, _, _, rfl, ⟨s1, SmallB.snoc hs.2.1 (Nat.le_of_ble_eq_true rfl), s3, s4⟩, c30, c31⟩
    ·split
     ·obtain ⟨m', r', b', c4, h4, e4, hr, _, c40, c41⟩ := spec_l3DrawBadResp_f (k := k) (h := h3) hl c30 c31 (by omega)
      rw [e4, Option.bind_some]
      exact ⟨_, _, _, _, _, _, _, _, _, rfl, ⟨s1, s2, s3, ⟨by have := hr.1; dsimp only; omega, fun x hx => by have := hr.2 x hx; omega⟩⟩, c40, c41⟩
     ·exact ⟨_, _, _, _, _, _, _, _, _, rfl, ⟨s1, s2, s3, s4⟩, c30, c31⟩
end Go.Proofs.YtjlpjbkpmmpojaaGreatDoor.Pure
namespace Go.Proofs.YtjlpjbkpmmpojaaGreatDoor.Pure
open Go.RowKit Go.Proofs.YtjlpjbkpmmpojaaGreatDoor.All Go.Proofs.YtjlpjbkpmmpojaaGreatDoorW.PrintWords Go.Proofs.YtjlpjbkpmmpojaaGreatDoorW.PrintLast
theorem spec_FieldsText_l0 (l : List S116) (hl : (fieldLines l).length ≤ 1099511627776) (hn : (l.length : Int) ≤ 9223372036854775807) : ∀ (d k i : Nat) (acc : ByteArray), l.length - i = d → i ≤ l.length → B acc ++ fieldLines (l.drop i) = fieldLines l → d < k →
  spec_FieldsText.l0 k l acc i = some ⟨(fieldLines l).toArray⟩ := by
 intro d
 induction d with
 | zero =>
  intro k i acc hd hi ha hk
  obtain ⟨k, rfl⟩ := succ_of hk
  simp only [spec_FieldsText.l0]
  rw [List.drop_eq_nil_of_le (by omega), fieldLines, List.append_nil] at ha
  rw [if_neg (by omega), ← ha]
  exact congrArg some (B_ext (B_mk _).symm)
 | succ d ih =>
  intro k i acc hd hi ha hk
  obtain ⟨k, rfl⟩ := succ_of hk
  have hlt : i < l.length := by omega
  rw [drop_at hlt, fieldLines] at ha
  have hlen := congrArg List.length ha
  simp only [fieldLine, List.length_append, List.length_cons, List.length_nil, data_length, B_len] at hlen
  have ih := ih k (i + 1) (acc ++ l[i].f0 ++ ⟨#[58, 32]⟩ ++ l[i].f1 ++ ⟨#[13, 10]⟩) (by omega) (by omega) (by
   rw [← ha]
   simp only [B_append, fieldLine, List.append_assoc]
   rfl) (by omega)
  have s1 : (⟨#[58, 32]⟩ : ByteArray).size = 2 := rfl
  simp only [spec_FieldsText.l0]
  rw [if_pos (by omega), if_pos (by omega), rd_F l i hlt, nat_round (n := l.length) hlt hn, if_pos (by omega), if_pos (by simp only [ByteArray.size_append]; omega), if_pos (by simp only [ByteArray.size_append, s1]; omega), if_pos (by simp only [ByteArray.size_append, s1]; omega), ih]
theorem spec_FieldsText_f {k : Nat} {l : List S116} (hl : (fieldLines l).length ≤ 1099511627776) (hn : (l.length : Int) ≤ 9223372036854775807) (hk : l.length < k) : spec_FieldsText.f k l = some ⟨(fieldLines l).toArray⟩ := by
 have := spec_FieldsText_l0 l hl hn l.length k 0 ⟨#[]⟩ (by omega) (by omega) (by rw [List.drop_zero]; rfl) hk
 simpa [spec_FieldsText.f] using this
theorem impl_FieldsText_f {l : List S116} (hl : (fieldLines l).length ≤ 1099511627776) (hn : l.length < 4398046511104) : impl_FieldsText.f l = some ⟨(fieldLines l).toArray⟩ := by
 unfold impl_FieldsText.f
 rw [if_pos ⟨hn, hl⟩]
def respText (m : Int) (l : List S116) (b : ByteArray) : ByteArray :=
 if respB m l b = true then (((((((⟨#[72, 84, 84, 80, 47, 49, 46, 49, 32]⟩ : ByteArray) ++ numT m) ++ (⟨#[32, 46, 13, 10]⟩ : ByteArray)) ++ linesT l) ++ (⟨#[99, 111, 110, 116, 101, 110, 116, 45, 108, 101, 110, 103, 116, 104, 58, 32]⟩ : ByteArray)) ++ numT b.size) ++ (⟨#[13, 10, 13, 10]⟩ : ByteArray)) ++ b else ⟨#[]⟩
theorem respB_facts {m : Int} {l : List S116} {b : ByteArray} (h : respB m l b = true) : (100 ≤ m ∧ m ≤ 599) ∧ b.size ≤ 120 ∧ fieldsB l = true := by
 unfold respB at h
 rw [Bool.and_eq_true, Bool.and_eq_true] at h
 exact ⟨of_decide_eq_true h.1, of_decide_eq_true h.2.1, h.2.2⟩
theorem spec_RespText_f {k K : Nat} {m : Int} {l : List S116} {b : ByteArray} (hK : K < 4398046511104) (hl : SmallF K l) (hk : 5 * K + 50 < k) : spec_RespText.f k m l b = some (respText m l b) := by
 unfold spec_RespText.f respText
 rw [spec_RespOk_f hK hl (by omega), Option.bind_some]
 by_cases h : respB m l b = true
 ·obtain ⟨h1, h2, h3⟩ := respB_facts h
  obtain ⟨h4, h5⟩ := fieldsB_lines h3
  have n1 := numT_size m
  have n2 := numT_size b.size
  have n3 := linesT_size l
  have s1 : (⟨#[72, 84, 84, 80, 47, 49, 46, 49, 32]⟩ : ByteArray).size = 9 := rfl
  have s2 : (⟨#[32, 46, 13, 10]⟩ : ByteArray).size = 4 := rfl
  have s3 : (⟨#[99, 111, 110, 116, 101, 110, 116, 45, 108, 101, 110, 103, 116, 104, 58, 32]⟩ : ByteArray).size = 16 := rfl
  have s4 : (⟨#[13, 10, 13, 10]⟩ : ByteArray).size = 4 := rfl
  rw [if_pos h, if_pos h, spec_NumText_f (by omega), Option.bind_some, if_pos (by omega), if_pos (by simp only [ByteArray.size_append, s1]; omega), spec_FieldsText_f (by omega) (by omega) (by omega), Option.bind_some]
  show (if (((⟨#[72, 84, 84, 80, 47, 49, 46, 49, 32]⟩ : ByteArray) ++ numT m) ++ (⟨#[32, 46, 13, 10]⟩ : ByteArray)).size + (linesT l).size ≤ 9223372036854775807 then _ else none) = _
  rw [if_pos (by simp only [ByteArray.size_append, s1, s2]; omega)]
  show (if ((((⟨#[72, 84, 84, 80, 47, 49, 46, 49, 32]⟩ : ByteArray) ++ numT m) ++ (⟨#[32, 46, 13, 10]⟩ : ByteArray)) ++ linesT l).size + 16 ≤ 9223372036854775807 then _ else none) = _
  rw [if_pos (by simp only [ByteArray.size_append, s1, s2]; omega), spec_NumText_f (by omega), Option.bind_some]
  show (if (((((⟨#[72, 84, 84, 80, 47, 49, 46, 49, 32]⟩ : ByteArray) ++ numT m) ++ (⟨#[32, 46, 13, 10]⟩ : ByteArray)) ++ linesT l) ++ (⟨#[99, 111, 110, 116, 101, 110, 116, 45, 108, 101, 110, 103, 116, 104, 58, 32]⟩ : ByteArray)).size + (numT b.size).size ≤ 9223372036854775807 then _ else none) = _
  rw [if_pos (by simp only [ByteArray.size_append, s1, s2, s3]; omega)]
  show (if ((((((⟨#[72, 84, 84, 80, 47, 49, 46, 49, 32]⟩ : ByteArray) ++ numT m) ++ (⟨#[32, 46, 13, 10]⟩ : ByteArray)) ++ linesT l) ++ (⟨#[99, 111, 110, 116, 101, 110, 116, 45, 108, 101, 110, 103, 116, 104, 58, 32]⟩ : ByteArray)) ++ numT b.size).size + 4 ≤ 9223372036854775807 then _ else none) = _
  rw [if_pos (by simp only [ByteArray.size_append, s1, s2, s3]; omega)]
  show (if (((((((⟨#[72, 84, 84, 80, 47, 49, 46, 49, 32]⟩ : ByteArray) ++ numT m) ++ (⟨#[32, 46, 13, 10]⟩ : ByteArray)) ++ linesT l) ++ (⟨#[99, 111, 110, 116, 101, 110, 116, 45, 108, 101, 110, 103, 116, 104, 58, 32]⟩ : ByteArray)) ++ numT b.size) ++ (⟨#[13, 10, 13, 10]⟩ : ByteArray)).size + b.size ≤ 9223372036854775807 then _ else none) = _
  rw [if_pos (by simp only [ByteArray.size_append, s1, s2, s3, s4]; omega)]
  rfl
 ·rw [if_neg h, if_neg h]
theorem impl_RespText_f {k K : Nat} {m : Int} {l : List S116} {b : ByteArray} (hK : K < 4398046511104) (hl : SmallF K l) (hk : 5 * K + 50 < k) : impl_RespText.f k m l b = some (respText m l b) := by
 unfold impl_RespText.f respText
 rw [impl_RespOk_f hK hl (by omega), Option.bind_some]
 by_cases h : respB m l b = true
 ·obtain ⟨h1, h2, h3⟩ := respB_facts h
  obtain ⟨h4, h5⟩ := fieldsB_lines h3
  have n1 := numT_size m
  have n2 := numT_size b.size
  have n3 := linesT_size l
  have s1 : (⟨#[72, 84, 84, 80, 47, 49, 46, 49, 32]⟩ : ByteArray).size = 9 := rfl
  have s2 : (⟨#[32, 46]⟩ : ByteArray).size = 2 := rfl
  have s3 : (⟨#[99, 111, 110, 116, 101, 110, 116, 45, 108, 101, 110, 103, 116, 104, 58, 32]⟩ : ByteArray).size = 16 := rfl
  have s4 : (⟨#[13, 10]⟩ : ByteArray).size = 2 := rfl
  have hll : impl_lengthLine.f b = some (((⟨#[99, 111, 110, 116, 101, 110, 116, 45, 108, 101, 110, 103, 116, 104, 58, 32]⟩ : ByteArray) ++ numT b.size) ++ (⟨#[13, 10]⟩ : ByteArray)) := by
   unfold impl_lengthLine.f
   rw [itoa_numT (by omega), Option.bind_some, if_pos (by omega), if_pos (by simp only [ByteArray.size_append, s3]; omega)]
  have hft : impl_FieldsText.f l = some (linesT l) := impl_FieldsText_f (by omega) (by omega)
  rw [if_pos h, if_pos h, itoa_numT (by omega), Option.bind_some, if_pos (by omega), if_pos (by simp only [ByteArray.size_append, s1]; omega), if_pos (by simp only [ByteArray.size_append, s1, s2]; omega), hft, Option.bind_some,
   if_pos (by simp only [ByteArray.size_append, s1, s2, s4]; omega), hll, Option.bind_some, if_pos (by simp only [ByteArray.size_append, s1, s2, s3, s4]; omega), if_pos (by simp only [ByteArray.size_append, s1, s2, s3, s4]; omega), if_pos (by simp only [ByteArray.size_append, s1, s2, s3, s4]; omega)]
  refine congrArg some (B_ext ?_)
  simp only [B_append, List.append_assoc]
  rfl
 ·rw [if_neg h, if_neg h]
end Go.Proofs.YtjlpjbkpmmpojaaGreatDoor.Pure
namespace Go.Proofs.YtjlpjbkpmmpojaaGreatDoor.Pure
open Go.RowKit Go.Proofs.YtjlpjbkpmmpojaaGreatDoor.All Go.Proofs.YtjlpjbkpmmpojaaGreatDoorW.PrintWords Go.Proofs.YtjlpjbkpmmpojaaGreatDoorW.PrintLast
theorem impl_NumText_f {n : Int} : impl_NumText.f n = some (numT n) := by
 unfold impl_NumText.f numT
 rw [impl_inRange_f, Option.bind_some]
 by_cases h : 0 ≤ n ∧ n ≤ 1000000
 ·rw [if_pos (decide_eq_true h), if_pos h]
  unfold strconv_Itoa.f
  rw [if_pos (by omega), Option.bind_some]
 ·rw [if_neg (by simpa using h), if_neg h]
def Tx (l : List UInt8) : ByteArray := ⟨l.toArray⟩
theorem B_Tx (l : List UInt8) : B (Tx l) = l := B_mk l
theorem Tx_B (s : ByteArray) : Tx (B s) = s := B_ext (B_Tx _)
theorem Tx_append (a b : List UInt8) : Tx (a ++ b) = Tx a ++ Tx b := B_ext (by rw [B_append, B_Tx, B_Tx, B_Tx])
theorem Tx_size (l : List UInt8) : (Tx l).size = l.length := by rw [← B_len, B_Tx]
theorem occ_ne {s r : List UInt8} {c : UInt8} {j : Nat} (h : s[j]? ≠ some c) : Lib.occAt s (c :: r) j = false := by
 unfold Lib.occAt
 cases e : s.drop j with
 | nil => rfl
 | cons x t =>
  have hx : s[j]? = some x := by rw [← List.head?_drop, e]; rfl
  have hc : c ≠ x := fun he => h (by rw [hx, he])
  simp only [List.isPrefixOf]
  rw [beq_eq_false_iff_ne.2 hc]; rfl
theorem occ_free {a b r : List UInt8} {c : UInt8} {j : Nat} (h : c ∉ a) (hj : j < a.length) : Lib.occAt (a ++ b) (c :: r) j = false := by
 refine occ_ne fun e => h ?_
 rw [List.getElem?_append_left hj] at e
 exact List.mem_of_getElem? e
theorem occ_here (a b sub : List UInt8) : Lib.occAt (a ++ (sub ++ b)) sub a.length = true := by
 unfold Lib.occAt
 rw [List.drop_left]
 induction sub with
 | nil => rfl
 | cons c r ih => simp only [List.cons_append, List.isPrefixOf]; rw [ih]; simp
theorem index_app {a b r : List UInt8} {c : UInt8} (h : c ∉ a) : Lib.index (a ++ ((c :: r) ++ b)) (c :: r) = (a.length : Int) :=
 Lib.index_first (by simp) (occ_here a b (c :: r)) (fun _ hj => occ_free h hj)
theorem cut_app {a b r : List UInt8} {c : UInt8} (h : c ∉ a) : Lib.cut (a ++ ((c :: r) ++ b)) (c :: r) = (a, b, true) := by
 unfold Lib.cut
 rw [index_app h, if_pos (by omega), Int.toNat_natCast, List.take_left, List.drop_append, List.drop_eq_nil_of_le (by omega), List.nil_append, Nat.add_sub_cancel_left, List.drop_left]
theorem splitBs_app {a b sep : ByteArray} {c : UInt8} {r : List UInt8} (hs : B sep = c :: r) (ha : c ∉ B a) : splitBs (a ++ (sep ++ b)) sep = a :: splitBs b sep := by
 have hz : 1 ≤ sep.size := by rw [← B_len, hs]; simp
 have hB : B (a ++ (sep ++ b)) = B a ++ ((c :: r) ++ B b) := by rw [B_append, B_append, hs]
 have hl : a.size ≤ (B (a ++ (sep ++ b))).length := by rw [hB, List.length_append, B_len]; omega
 rw [splitBs_at (a ++ (sep ++ b)) sep a.size hz hl (by rw [hB, hs, ← B_len]; exact occ_here _ _ _) (fun j hj => by rw [hB, hs]; exact occ_free ha (by rw [B_len]; exact hj))]
 congr 1
 ·apply B_ext
  rw [B_extract, hB, List.drop_zero, ← B_len, List.take_left]
 ·congr 1
  apply B_ext
  have hsz : (a ++ (sep ++ b)).size = a.size + sep.size + b.size := by rw [ByteArray.size_append, ByteArray.size_append]; omega
  rw [B_extract, hsz, List.take_of_length_le (by rw [B_len]; omega), B_append, B_append, ← List.append_assoc, List.drop_left' (by rw [List.length_append, B_len, B_len])]
theorem splitBs_free {a sep : ByteArray} {c : UInt8} {r : List UInt8} (hs : B sep = c :: r) (ha : c ∉ B a) : splitBs a sep = [a] :=
 splitBs_none a sep fun j _ => by rw [hs]; exact occ_ne fun e => ha (List.mem_of_getElem? e)
def lineT : List (List UInt8) → List UInt8
 | [] => []
 | x :: r => x ++ (13 :: 10 :: lineT r)
def joinT : List (List UInt8) → List UInt8
 | [] => []
 | [x] => x
 | x :: y :: r => x ++ (13 :: 10 :: joinT (y :: r))
theorem lineT_join : ∀ {l : List (List UInt8)}, l ≠ [] → lineT l = joinT l ++ [13, 10]
 | [], h => absurd rfl h
 | [x], _ => by simp [lineT, joinT]
 | x :: y :: r, _ => by rw [lineT, joinT, lineT_join (l := y :: r) (by simp)]; simp
theorem lineT_append : ∀ a b, lineT (a ++ b) = lineT a ++ lineT b
 | [], b => rfl
 | x :: r, b => by simp [lineT, lineT_append r b]
def GoodL (l : List (List UInt8)) : Prop := ∀ x ∈ l, x ≠ [] ∧ (13 : UInt8) ∉ x ∧ (10 : UInt8) ∉ x
theorem index_head (body : List UInt8) : ∀ {l : List (List UInt8)}, l ≠ [] → GoodL l → Lib.index (lineT l ++ (13 :: 10 :: body)) [13, 10, 13, 10] = ((joinT l).length : Int)
 | [], h, _ => absurd rfl h
 | [x], _, hg => by
  have := index_app (a := x) (b := body) (c := 13) (r := [10, 13, 10]) (hg x (by simp)).2.1
  rw [show lineT [x] ++ (13 :: 10 :: body) = x ++ ([13, 10, 13, 10] ++ body) by simp [lineT]]
  exact this
 | x :: y :: r, _, hg => by
  have ih := index_head body (l := y :: r) (by simp) (fun z hz => hg z (by simp [hz]))
  have hx := hg x (by simp)
  have hy := hg y (by simp)
  obtain ⟨y0, yt, rfl⟩ : ∃ y0 yt, y = y0 :: yt := by cases y with | nil => exact absurd rfl hy.1 | cons a t => exact ⟨a, t, rfl⟩
  have hy0 : y0 ≠ 13 := fun e => hy.2.1 (by simp [e])
  have e1 : lineT (x :: (y0 :: yt) :: r) ++ (13 :: 10 :: body) = x ++ (13 :: 10 :: (lineT ((y0 :: yt) :: r) ++ (13 :: 10 :: body))) := by simp [lineT]
  have hd : (lineT (x :: (y0 :: yt) :: r) ++ (13 :: 10 :: body)).drop (x.length + 2) = lineT ((y0 :: yt) :: r) ++ (13 :: 10 :: body) := by
   rw [e1, List.drop_append, List.drop_eq_nil_of_le (by omega), Nat.add_sub_cancel_left]; rfl
  have hno : Lib.NoOcc (lineT (x :: (y0 :: yt) :: r) ++ (13 :: 10 :: body)) [13, 10, 13, 10] (x.length + 2) := by
   intro j hj
   rw [e1]
   by_cases h1 : j < x.length
   ·exact occ_free hx.2.1 h1
   by_cases h2 : j = x.length
   ·subst h2
    unfold Lib.occAt
    rw [List.drop_left, lineT]
    have : ((13 : UInt8) == y0) = false := beq_eq_false_iff_ne.2 fun e => hy0 e.symm
    simp [List.isPrefixOf, this]
   ·have h3 : j = x.length + 1 := by omega
    subst h3
    refine occ_ne ?_
    rw [List.getElem?_append_right (by omega), Nat.add_sub_cancel_left]
    simp
  rw [Lib.index_drop hno (by rw [e1]; simp <;> omega), hd, ih, if_neg (by rw [beq_iff_eq]; omega), joinT]
  simp only [List.length_append, List.length_cons]
  omega
theorem cut_head (body : List UInt8) {l : List (List UInt8)} (h : l ≠ []) (hg : GoodL l) : Lib.cut (lineT l ++ (13 :: 10 :: body)) [13, 10, 13, 10] = (joinT l, body, true) := by
 have hi := index_head body h hg
 have e : lineT l ++ (13 :: 10 :: body) = joinT l ++ ([13, 10, 13, 10] ++ body) := by rw [lineT_join h]; simp
 unfold Lib.cut
 rw [hi, if_pos (by omega), Int.toNat_natCast, e, List.take_left, List.drop_append, List.drop_eq_nil_of_le (by omega), List.nil_append, Nat.add_sub_cancel_left, List.drop_left]
theorem split_join : ∀ {l : List (List UInt8)}, l ≠ [] → GoodL l → splitBs (Tx (joinT l)) (Tx [13, 10]) = l.map Tx
 | [], h, _ => absurd rfl h
 | [x], _, hg => splitBs_free (B_Tx _) (by rw [B_Tx]; exact (hg x (by simp)).2.1)
 | x :: y :: r, _, hg => by
  have ih := split_join (l := y :: r) (by simp) (fun z hz => hg z (by simp [hz]))
  have e : Tx (joinT (x :: y :: r)) = Tx x ++ (Tx [13, 10] ++ Tx (joinT (y :: r))) := by rw [← Tx_append, ← Tx_append]; rfl
  rw [e, splitBs_app (B_Tx _) (by rw [B_Tx]; exact (hg x (by simp)).2.1), ih]; rfl
end Go.Proofs.YtjlpjbkpmmpojaaGreatDoor.Pure
namespace Go.Proofs.YtjlpjbkpmmpojaaGreatDoor.Pure
open Go.RowKit Go.Proofs.YtjlpjbkpmmpojaaGreatDoor.All Go.Proofs.YtjlpjbkpmmpojaaGreatDoorW.PrintWords Go.Proofs.YtjlpjbkpmmpojaaGreatDoorW.PrintLast
theorem path_size {p : ByteArray} (h : pathB p = true) : 1 ≤ p.size ∧ p.size ≤ 60 := by
 unfold pathB at h
 simp only [Bool.and_eq_true, decide_eq_true_eq] at h
 omega
theorem octv {c d : UInt8} {n : Int} (h : (d.toNat : Int) = n) : ((c.toNat : Int) = n) ↔ c = d := by
 subst h
 constructor
 ·intro h; exact UInt8.toNat_inj.1 (by omega)
 ·rintro rfl; rfl
theorem w64_n1 {j : Nat} (h : j ≤ 1048576) : wrap64 ((j : Int) + 1) = ((j + 1 : Nat) : Int) := by rw [w64 (by omega)]; omega
theorem w64_n2 {j : Nat} (h : j ≤ 1048576) : wrap64 ((j : Int) + 2) = ((j + 2 : Nat) : Int) := by rw [w64 (by omega)]; omega
theorem w64_m1 {j : Nat} (h1 : 1 ≤ j) (h : j ≤ 1048576) : wrap64 ((j : Int) - 1) = ((j - 1 : Nat) : Int) := by rw [w64 (by omega)]; omega
def firstOf : List (List UInt8) → List UInt8
 | [] => []
 | x :: _ => x
theorem lineT_first (body : List UInt8) : ∀ L : List (List UInt8), ∃ rest, lineT L ++ (13 :: 10 :: body) = firstOf L ++ (13 :: 10 :: rest)
 | [] => ⟨body, rfl⟩
 | x :: r => ⟨lineT r ++ (13 :: 10 :: body), by simp [lineT, firstOf]⟩
theorem drop_get {l x t : List UInt8} {f j : Nat} (h : l.drop f = x ++ t) (h1 : f ≤ j) (h2 : j < f + x.length) : l[j]? = x[j - f]? := by
 rw [← List.getElem?_append_left (l₂ := t) (by omega : j - f < x.length), ← h, List.getElem?_drop, show f + (j - f) = j by omega]
theorem in_first {l x t : List UInt8} {f j : Nat} (h : l.drop f = x ++ t) (h1 : f ≤ j) (h2 : j < f + x.length) (hj : j < l.length) : l[j] ∈ x := by
 have e := drop_get h h1 h2
 rw [List.getElem?_eq_getElem hj] at e
 exact List.mem_of_getElem? e.symm
theorem nl_at {l x rest : List UInt8} {f : Nat} (h : l.drop f = x ++ (13 :: 10 :: rest)) : l[f + x.length]? = some 13 ∧ l[f + x.length + 1]? = some 10 ∧ f + x.length + 2 ≤ l.length := by
 have h13 : (l.drop f)[x.length]? = some 13 := by rw [h, List.getElem?_append_right (Nat.le_refl _), Nat.sub_self]; rfl
 have h10 : (l.drop f)[x.length + 1]? = some 10 := by rw [h, List.getElem?_append_right (by omega), Nat.add_sub_cancel_left]; rfl
 rw [List.getElem?_drop] at h13 h10
 have hl := congrArg List.length h
 simp only [List.length_drop, List.length_append, List.length_cons] at hl
 exact ⟨h13, h10, by omega⟩
theorem get_of {l : List UInt8} {j : Nat} {c : UInt8} (h : l[j]? = some c) (hj : j < l.length) : l[j] = c := by
 rw [List.getElem?_eq_getElem hj] at h; exact Option.some.inj h
theorem cut_line {s : ByteArray} {f : Nat} {x t : List UInt8} (h : (B s).drop f = x ++ t) : s.extract f (f + x.length) = Tx x := by
 apply B_ext
 rw [B_extract, B_Tx, List.drop_take, h, Nat.add_sub_cancel_left, List.take_left]
theorem spec_l3Head_l0 (s : ByteArray) (hs : s.size ≤ 1048576) : ∀ (d k i f : Nat) (acc : List ByteArray), s.size - i = d → 1 ≤ i → f ≤ i → f ≤ s.size → acc.length ≤ f → (∀ x ∈ acc, x.size ≤ s.size) → 2 * d + 4 < k →
  ∃ ls e, spec_l3Head.l0 k s acc f i = some (ls, e) ∧ ls.length ≤ s.size ∧ (∀ x ∈ ls, x.size ≤ s.size) ∧ e ≤ s.size ∧ (e = -1 ∨ 1 ≤ e) ∧ ∀ L body, GoodL L → (B s).drop f = lineT L ++ (13 :: 10 :: body) → i ≤ f + (firstOf L).length + 1 → ls = acc ++ L.map Tx ∧ e = ((f + (lineT L).length + 2 : Nat) : Int) := by
 intro d
 induction d with
 | zero =>
  intro k i f acc hd h1 hf hfs ha hx hk
  obtain ⟨k, rfl⟩ := succ_of (show 0 < k by omega)
  refine ⟨acc, -1, ?_, by omega, hx, by omega, .inl rfl, fun L body hg hL hi => ?_⟩
  ·simp only [spec_l3Head.l0]; rw [if_neg (by omega)]
  ·exfalso
   obtain ⟨rest, e⟩ := lineT_first body L
   have := (nl_at (hL.trans e)).2.2
   rw [B_len] at this; omega
 | succ d ih =>
  intro k i f acc hd h1 hf hfs ha hx hk
  obtain ⟨k, rfl⟩ := succ_of (show 1 < k by omega)
  obtain ⟨k, rfl⟩ := succ_of (show 0 < k by omega)
  have hlt : i < s.size := by omega
  have hl : i < (B s).length := by rw [B_len]; omega
  have hl1 : i - 1 < (B s).length := by omega
  have hiz : i ≤ 1048576 := by omega
  have go : (¬ ((B s)[i] = 10 ∧ (B s)[i - 1] = 13 ∧ f ≤ i - 1)) → ∃ ls e, spec_l3Head.l0 k s acc f ((i + 1 : Nat) : Int) = some (ls, e) ∧ ls.length ≤ s.size ∧ (∀ x ∈ ls, x.size ≤ s.size) ∧ e ≤ s.size ∧ (e = -1 ∨ 1 ≤ e) ∧ ∀ L body, GoodL L → (B s).drop f = lineT L ++ (13 :: 10 :: body) → i ≤ f + (firstOf L).length + 1 → ls = acc ++ L.map Tx ∧ e = ((f + (lineT L).length + 2 : Nat) : Int) := by
   intro hn
   obtain ⟨ls, e, g1, g2, g3, g4, g5, g6⟩ := ih k (i + 1) f acc (by omega) (by omega) (by omega) hfs ha hx (by omega)
   refine ⟨ls, e, g1, g2, g3, g4, g5, fun L body hg hL hi => g6 L body hg hL ?_⟩
   by_cases he : i = f + (firstOf L).length + 1
   ·exfalso
    obtain ⟨rest, e2⟩ := lineT_first body L
    obtain ⟨n1, n2, _⟩ := nl_at (hL.trans e2)
    refine hn ⟨get_of (by rw [he]; exact n2) hl, get_of (by rw [show i - 1 = f + (firstOf L).length by omega]; exact n1) hl1, by omega⟩
   ·omega
  simp only [spec_l3Head.l0]
  rw [if_pos (by omega), if_pos (by omega), bt_get s i hl]
  by_cases c : (B s)[i] = 10
  ·rw [if_pos ((octv (d := 10) (n := 10) rfl).2 c), w64_m1 h1 hiz, if_pos (by omega), if_pos (by omega), bt_get s (i - 1) hl1]
   by_cases c2 : (B s)[i - 1] = 13
   ·rw [if_pos ((octv (d := 13) (n := 13) rfl).2 c2)]
    simp only [spec_l3Head.j1]
    by_cases c3 : i - 1 < f
    ·rw [if_pos (decide_eq_true (by omega)), w64_n1 hiz]
     exact go (fun h => by omega)
    ·clear go
     rw [if_neg (by rw [decide_eq_false (by omega)]; simp), if_pos (by omega), w64_m1 h1 hiz, if_pos (by omega), if_pos (by omega), Int.toNat_natCast, Int.toNat_natCast, w64_n1 hiz]
     by_cases c4 : (s.extract f (i - 1)).toList = []
     ·rw [if_pos c4]
      refine ⟨acc, _, rfl, by omega, hx, by omega, .inr (by omega), fun L body hg hL hi => ?_⟩
      have hz : (s.extract f (i - 1)).size = 0 := by rw [← B_len, ← toList_B, c4]; rfl
      rw [ByteArray.size_extract] at hz
      cases L with
      | nil => exact ⟨by simp, by simp only [lineT, List.length_nil]; omega⟩
      | cons x r =>
       exfalso
       have hgx := hg x (by simp)
       have hx0 : 0 < x.length := List.length_pos_iff.2 hgx.1
       have e2 : (B s).drop f = x ++ (13 :: 10 :: (lineT r ++ (13 :: 10 :: body))) := by rw [hL]; simp [lineT]
       have := in_first e2 (j := i - 1) (by omega) (by omega) hl1
       rw [c2] at this
       exact hgx.2.1 this
     ·rw [if_neg c4, if_pos (by omega)]
      have hsz : (s.extract f (i - 1)).size ≤ s.size := by rw [ByteArray.size_extract]; omega
      obtain ⟨ls, e, g1, g2, g3, g4, g5, g6⟩ := ih k (i + 1) (i + 1) (acc ++ [s.extract f (i - 1)]) (by omega) (by omega) (by omega) (by omega) (by simp; omega) (fun x hx' => by
       rcases List.mem_append.1 hx' with hx' | hx'
       ·exact hx x hx'
       ·rw [List.mem_singleton.1 hx']; exact hsz) (by omega)
      refine ⟨ls, e, g1, g2, g3, g4, g5, fun L body hg hL hi => ?_⟩
      cases L with
      | nil =>
       exfalso
       apply c4
       simp only [firstOf, List.length_nil] at hi
       rw [toList_B, B_extract, List.drop_eq_nil_of_le (by rw [List.length_take]; omega)]
      | cons x r =>
       have hgx := hg x (by simp)
       have e2 : (B s).drop f = x ++ (13 :: 10 :: (lineT r ++ (13 :: 10 :: body))) := by rw [hL]; simp [lineT]
       simp only [firstOf] at hi
       have hi2 : i - 1 = f + x.length := by
        by_cases hq : i - 1 < f + x.length
        ·exfalso
         have := in_first e2 (j := i - 1) (by omega) hq hl1
         rw [c2] at this
         exact hgx.2.1 this
        ·omega
       have e3 : (B s).drop (i + 1) = lineT r ++ (13 :: 10 :: body) := by
        rw [show i + 1 = f + (x.length + 2) by omega, ← List.drop_drop, e2, List.drop_append, List.drop_eq_nil_of_le (by omega), List.nil_append, Nat.add_sub_cancel_left]; rfl
       have hxt : s.extract f (i - 1) = Tx x := by rw [hi2]; exact cut_line e2
       obtain ⟨q1, q2⟩ := g6 r body (fun y hy => hg y (by simp [hy])) e3 (by omega)
       refine ⟨by rw [q1, hxt]; simp, ?_⟩
       rw [q2]
       simp only [lineT, List.length_append, List.length_cons]
       omega
   ·rw [if_neg (fun h => c2 ((octv (d := 13) (n := 13) rfl).1 h))]
    simp only [spec_l3Head.j1]
    rw [if_pos trivial, w64_n1 hiz]
    exact go (fun h => c2 h.2.1)
  ·rw [if_neg (fun h => c ((octv (d := 10) (n := 10) rfl).1 h))]
   simp only [spec_l3Head.j1]
   rw [if_pos trivial, w64_n1 hiz]
   exact go (fun h => c h.1)
theorem spec_l3Head_f {k : Nat} {s : ByteArray} (hs : s.size ≤ 1048576) (hk : 2 * s.size + 10 < k) : ∃ ls e, spec_l3Head.f k s = some (ls, e) ∧ ls.length ≤ s.size ∧ (∀ x ∈ ls, x.size ≤ s.size) ∧ e ≤ s.size ∧ (e = -1 ∨ 1 ≤ e) ∧ ∀ L body, GoodL L → B s = lineT L ++ (13 :: 10 :: body) → ls = L.map Tx ∧ e = (((lineT L).length + 2 : Nat) : Int) := by
 obtain ⟨ls, e, g1, g2, g3, g4, g5, g6⟩ := spec_l3Head_l0 s hs (s.size - 1) k 1 0 [] (by omega) (by omega) (by omega) (by omega) (by simp) (fun x hx => by cases hx) (by omega)
 refine ⟨ls, e, g1, g2, g3, g4, g5, fun L body hg hL => ?_⟩
 have := g6 L body hg hL (by omega)
 rw [List.nil_append, Nat.zero_add] at this
 exact this
theorem spec_l3Words_l0 (s : ByteArray) (hs : s.size ≤ 1048576) : ∀ (d k f i : Nat) (acc : List ByteArray), s.size - i = d → i ≤ s.size → f ≤ i → acc.length ≤ i → (∀ j (h : j < (B s).length), f ≤ j → j < i → (B s)[j] ≠ 32) → d + 2 < k →
  spec_l3Words.l0 k s acc f i = some (acc ++ splitBs (s.extract f s.size) ⟨#[32]⟩) := by
 intro d
 induction d with
 | zero =>
  intro k f i acc hd hi hf ha hno hk
  obtain ⟨k, rfl⟩ := succ_of (show 1 < k by omega)
  have hiz : i = s.size := by omega
  have hsp : splitBs (s.extract f s.size) ⟨#[32]⟩ = [s.extract f s.size] := split1_none _ _ (fun j hj => by
   obtain ⟨h1, h2, h3⟩ := B_get_extract s f s.size j hj
   rw [h2]; exact hno (f + j) h1 (by omega) (by omega))
  rw [hsp]
  have fin : ∀ acc', spec_l3Words.l0 k s acc' ((s.size : Int) + 1) ((s.size : Int) + 1) = some acc' := fun acc' => by
   obtain ⟨k, rfl⟩ := succ_of (show 0 < k by omega)
   simp only [spec_l3Words.l0]; rw [if_neg (by omega)]
  simp only [spec_l3Words.l0]
  rw [if_pos (by omega), if_pos (by omega), if_pos (by omega), if_pos (by omega), if_pos (by omega), Int.toNat_natCast, Int.toNat_natCast, hiz, w64 (by omega), fin]
 | succ d ih =>
  intro k f i acc hd hi hf ha hno hk
  obtain ⟨k, rfl⟩ := succ_of (show 0 < k by omega)
  have hl : i < (B s).length := by rw [B_len]; omega
  have hr : wrap64 ((i : Int) + 1) = ((i + 1 : Nat) : Int) := nat_round (n := s.size) (by omega) (by omega)
  simp only [spec_l3Words.l0]
  rw [if_pos (by omega), if_neg (by omega), if_pos (by omega), if_pos (by omega), bt_get s i hl]
  by_cases c : (B s)[i] = 32
  ·have hsp : splitBs (s.extract f s.size) ⟨#[32]⟩ = s.extract f i :: splitBs (s.extract (i + 1) s.size) ⟨#[32]⟩ := by
    have hz : (s.extract f s.size).size = s.size - f := by rw [ByteArray.size_extract]; omega
    have hlt : i - f < (B (s.extract f s.size)).length := by rw [B_len, hz]; omega
    obtain ⟨g1, g2, _⟩ := B_get_extract s f s.size (i - f) hlt
    rw [split1_at (s.extract f s.size) 32 (i - f) hlt (by rw [g2]; simp only [show f + (i - f) = i by omega]; exact c) (fun j hj hji => by
     obtain ⟨h1, h2, h3⟩ := B_get_extract s f s.size j hj
     rw [h2]; exact hno (f + j) h1 (by omega) (by omega)), ByteArray.extract_extract, hz, ByteArray.extract_extract]
    rw [show min (f + (i - f)) s.size = i by omega, show min (f + (s.size - f)) s.size = s.size by omega, show f + (i - f + 1) = i + 1 by omega, Nat.add_zero]
   rw [if_pos ((octv (d := 32) (n := 32) rfl).2 c), if_pos (by omega), if_pos (by omega), if_pos (by omega), Int.toNat_natCast, Int.toNat_natCast, hr, ih k (i + 1) (i + 1) _ (by omega) (by omega) (by omega) (by simp; omega) (fun j _ h1 h2 => by omega) (by omega), hsp, List.append_assoc]; rfl
  ·rw [if_neg (fun h => c ((octv (d := 32) (n := 32) rfl).1 h)), hr]
   refine ih k f (i + 1) acc (by omega) (by omega) (by omega) (by omega) (fun j h h1 h2 => ?_) (by omega)
   by_cases e : j = i
   ·subst e; exact c
   ·exact hno j h h1 (by omega)
theorem spec_l3Words_f {k : Nat} {s : ByteArray} (hs : s.size ≤ 1048576) (hk : s.size + 2 < k) : spec_l3Words.f k s = some (splitBs s ⟨#[32]⟩) := by
 have := spec_l3Words_l0 s hs s.size k 0 0 [] (by omega) (by omega) (by omega) (by simp) (fun j _ _ h => by omega) hk
 rw [List.nil_append, extract_all0] at this
 exact this
theorem tok_free {s : ByteArray} (h : tokB s = true) {c : UInt8} (hc : tok1 c = false) : c ∉ B s := by
 unfold tokB at h
 rw [Bool.and_eq_true, List.all_eq_true] at h
 intro hm
 rw [h.1 c hm] at hc
 cases hc
theorem tok_bytes {s : ByteArray} (h : tokB s = true) : ∀ c ∈ B s, 33 ≤ c.toNat ∧ c.toNat ≤ 126 := by
 unfold tokB at h
 rw [Bool.and_eq_true, List.all_eq_true] at h
 intro c hm
 have := of_decide_eq_true (h.1 c hm)
 omega
theorem val_bytes {s : ByteArray} (h : valB s = true) : ∀ c ∈ B s, 32 ≤ c.toNat ∧ c.toNat ≤ 126 := by
 unfold valB fromB at h
 rw [Bool.and_eq_true, Bool.and_eq_true, List.all_eq_true] at h
 intro c hm
 have := of_decide_eq_true (h.1.2 c hm)
 omega
theorem ge32_free {l : List UInt8} (h : ∀ c ∈ l, 32 ≤ c.toNat) {c : UInt8} (hc : c.toNat < 32) : c ∉ l := fun hm => by
 have := h c hm; omega
theorem goodL_of {L : List (List UInt8)} (h : ∀ x ∈ L, x ≠ [] ∧ ∀ c ∈ x, 32 ≤ c.toNat) : GoodL L := fun x hx =>
 ⟨(h x hx).1, ge32_free (h x hx).2 (by decide), ge32_free (h x hx).2 (by decide)⟩
theorem digs_ge {l : List UInt8} (h : digs l = true) : ∀ c ∈ l, 33 ≤ c.toNat := fun c hm => by
 unfold digs at h
 rw [List.all_eq_true] at h
 have := of_decide_eq_true (h c hm)
 omega
theorem num_bytes {n : Int} (h : 0 ≤ n ∧ n ≤ 1000000) : (∀ c ∈ B (numT n), 33 ≤ c.toNat) ∧ B (numT n) ≠ [] := by
 obtain ⟨u, rfl⟩ : ∃ u : Nat, n = u := ⟨n.toNat, by omega⟩
 have e : B (numT (u : Int)) = Lib.decDigits u := by
  unfold numT
  rw [if_pos h, B_mk (Lib.itoa (u : Int)), itoa_nat]
 rw [e]
 exact ⟨digs_ge (dec_facts u).2.1, (dec_facts u).2.2⟩
theorem numRead_numT {n : Int} (h : 0 ≤ n ∧ n ≤ 1000000) : numRead (numT n) = (n, true) := by
 obtain ⟨u, rfl⟩ : ∃ u : Nat, n = u := ⟨n.toNat, by omega⟩
 refine numRead_yes (by omega) ?_
 unfold numT
 rw [if_pos h, B_mk (Lib.itoa (u : Int)), itoa_nat]
def fl (x : S116) : List UInt8 := B x.f0 ++ (58 :: 32 :: B x.f1)
theorem fieldLines_lineT : ∀ l : List S116, fieldLines l = lineT (l.map fl)
 | [] => rfl
 | x :: r => by
  rw [fieldLines, List.map_cons, lineT, ← fieldLines_lineT r]
  simp [fieldLine, fl, B]
def lenN : List UInt8 := [99, 111, 110, 116, 101, 110, 116, 45, 108, 101, 110, 103, 116, 104]
theorem lenName_B (s : ByteArray) : lenName s = decide (B s = lenN) := by unfold lenName lenN; rw [toList_B]
theorem cut_fl {a b : List UInt8} (h : (58 : UInt8) ∉ a) : Lib.cut (a ++ (58 :: 32 :: b)) [58, 32] = (a, b, true) := cut_app (c := 58) (r := [32]) h
theorem fl_good {x : S116} (h1 : tokB x.f0 = true) (h2 : valB x.f1 = true) : fl x ≠ [] ∧ ∀ c ∈ fl x, 32 ≤ c.toNat := by
 refine ⟨by unfold fl; simp, fun c hc => ?_⟩
 unfold fl at hc
 rcases List.mem_append.1 hc with hc | hc
 ·have := tok_bytes h1 c hc; omega
 ·rcases List.mem_cons.1 hc with rfl | hc
  ·decide
  ·rcases List.mem_cons.1 hc with rfl | hc
   ·decide
   ·exact (val_bytes h2 c hc).1
def lenLine (b : ByteArray) : List UInt8 := lenN ++ (58 :: 32 :: B (numT b.size))
theorem lenLine_good {b : ByteArray} (hb : b.size ≤ 1000000) : lenLine b ≠ [] ∧ ∀ c ∈ lenLine b, 32 ≤ c.toNat := by
 refine ⟨by unfold lenLine; simp, fun c hc => ?_⟩
 unfold lenLine at hc
 rcases List.mem_append.1 hc with hc | hc
 ·have h : (lenN.all fun c => decide (32 ≤ c.toNat)) = true := by decide
  rw [List.all_eq_true] at h
  exact of_decide_eq_true (h c hc)
 ·rcases List.mem_cons.1 hc with rfl | hc
  ·decide
  ·rcases List.mem_cons.1 hc with rfl | hc
   ·decide
   ·have := (num_bytes (n := (b.size : Int)) (by omega)).1 c hc; omega
theorem fields_good {l : List S116} (h : fieldsB l = true) : ∀ x ∈ l.map fl, x ≠ [] ∧ ∀ c ∈ x, 32 ≤ c.toNat := by
 obtain ⟨_, h2⟩ := okFs_facts l l 0 h
 intro x hx
 obtain ⟨y, hy, rfl⟩ := List.mem_map.1 hx
 exact fl_good (h2 y hy).1 (h2 y hy).2.1
theorem path_bytes {s : ByteArray} (h : pathB s = true) : (∀ c ∈ B s, 33 ≤ c.toNat ∧ c.toNat ≤ 126) ∧ 1 ≤ s.size := by
 unfold pathB fromB at h
 simp only [Bool.and_eq_true, List.all_eq_true, decide_eq_true_eq] at h
 refine ⟨fun c hm => ?_, by omega⟩
 have := h.2.2 c hm
 omega
def respFirst (m : Int) : List UInt8 := [72, 84, 84, 80, 47, 49, 46, 49] ++ (32 :: (B (numT m) ++ [32, 46]))
def respLines (m : Int) (l : List S116) (b : ByteArray) : List (List UInt8) := respFirst m :: (l.map fl ++ [lenN ++ (58 :: 32 :: B (numT b.size))])
theorem respText_lines {m : Int} {l : List S116} {b : ByteArray} (h : respB m l b = true) : respText m l b = Tx (lineT (respLines m l b) ++ (13 :: 10 :: B b)) := by
 apply B_ext
 unfold respText respLines respFirst lenN
 rw [if_pos h, B_Tx, lineT, lineT_append, ← fieldLines_lineT]
 simp only [B_append]
 have : B (linesT l) = fieldLines l := B_mk (fieldLines l)
 rw [this]
 simp [lineT, B]
def fline (a b : List UInt8) : ByteArray := Tx (a ++ (58 :: 32 :: b))
theorem fline_B {t : ByteArray} {a b : List UInt8} (h : t = fline a b) : B t = a ++ (58 :: 32 :: b) := by rw [h]; exact B_Tx _
theorem fline_size {t : ByteArray} {a b : List UInt8} (h : t = fline a b) : t.size = a.length + 2 + b.length := by
 rw [← B_len, fline_B h, List.length_append, List.length_cons, List.length_cons]; omega
theorem fline_in {t : ByteArray} {a b : List UInt8} (h : t = fline a b) {j : Nat} (hj : j < a.length) (hl : j < (B t).length) : (B t)[j] ∈ a := by
 have e := fline_B h
 simp only [e]
 rw [List.getElem_append_left hj]; exact List.getElem_mem _
theorem fline_58 {t : ByteArray} {a b : List UInt8} (h : t = fline a b) (h1 : a.length < (B t).length) (h2 : a.length + 1 < (B t).length) : (B t)[a.length] = 58 ∧ (B t)[a.length + 1] = 32 := by
 have e := fline_B h
 simp only [e]
 refine ⟨?_, ?_⟩
 ·rw [List.getElem_append_right (Nat.le_refl _)]; simp
 ·rw [List.getElem_append_right (by omega)]; simp
theorem fline_name {t : ByteArray} {a b : List UInt8} (h : t = fline a b) : t.extract 0 a.length = Tx a := by
 apply B_ext
 rw [B_extract, fline_B h, B_Tx, List.drop_zero, List.take_left]
theorem fline_value {t : ByteArray} {a b : List UInt8} (h : t = fline a b) : t.extract (a.length + 2) t.size = Tx b := by
 apply B_ext
 rw [B_extract, List.take_of_length_le (by rw [B_len]; omega), fline_B h, B_Tx, List.drop_append, List.drop_eq_nil_of_le (by omega), List.nil_append, Nat.add_sub_cancel_left]; rfl
theorem lenN58 : (58 : UInt8) ∉ lenN := by decide
theorem size_zero {s : ByteArray} (h : s.toList = []) : s.size = 0 := by rw [← B_len, ← toList_B, h]; rfl
theorem spec_l3Fields_l1 (ls : List ByteArray) (hn : ls.length ≤ 1048576) (hb : ∀ x ∈ ls, x.size ≤ 1048576) (i : Nat) (hi : i < ls.length) (acc : List S116) (ha : acc.length ≤ i) : ∀ (d k j : Nat), ls[i].size - j = d → j ≤ ls[i].size → 2 * d + 3 < k →
  ∃ k' acc', spec_l3Fields.l1 k ls acc i j = spec_l3Fields.l0 k' ls acc' ((i + 1 : Nat) : Int) ∧ k ≤ k' + 2 * d + 3 ∧ (acc' = acc ∨ ∃ x, acc' = acc ++ [x] ∧ x.f0.size ≤ 1048576 ∧ x.f1.size ≤ 1048576) ∧ ∀ a b, ls[i] = fline a b → (58 : UInt8) ∉ a → j ≤ a.length → acc' = if a = lenN then acc else acc ++ [⟨Tx a, Tx b⟩] := by
 have hts := hb _ (List.getElem_mem hi)
 have hiz : i ≤ 1048576 := by omega
 obtain ⟨t, ht⟩ : ∃ t, t = ls[i] := ⟨_, rfl⟩
 rw [← ht] at hts ⊢
 have hrd : rdOf ByteArray.empty ls (i : Int) = t := by rw [ht]; exact rd_B ls i hi
 intro d
 induction d with
 | zero =>
  intro k j hd hj hk
  obtain ⟨k, rfl⟩ := succ_of (show 0 < k by omega)
  simp only [spec_l3Fields.l1]
  rw [if_pos (by omega), if_pos (by omega), hrd, w64 (by omega), if_neg (by omega), w64_n1 hiz]
  refine ⟨k, acc, rfl, by omega, .inl rfl, fun a b h1 h2 h3 => ?_⟩
  have := fline_size h1
  omega
 | succ d ih =>
  intro k j hd hj hk
  obtain ⟨k, rfl⟩ := succ_of (show 1 < k by omega)
  obtain ⟨k, rfl⟩ := succ_of (show 0 < k by omega)
  have hl : j < (B t).length := by rw [B_len]; omega
  have hjz : j ≤ 1048576 := Nat.le_trans hj hts
  simp only [spec_l3Fields.l1]
  rw [if_pos (by omega), if_pos (by omega), hrd, w64_n1 hjz]
  by_cases h2 : j + 1 < t.size
  ·have hl2 : j + 1 < (B t).length := by rw [B_len]; omega
   have go : (¬ ((B t)[j] = 58 ∧ (B t)[j + 1] = 32)) → ∃ k' acc', spec_l3Fields.l1 k ls acc i ((j + 1 : Nat) : Int) = spec_l3Fields.l0 k' ls acc' ((i + 1 : Nat) : Int) ∧ k + 1 + 1 ≤ k' + 2 * (d + 1) + 3 ∧ (acc' = acc ∨ ∃ x, acc' = acc ++ [x] ∧ x.f0.size ≤ 1048576 ∧ x.f1.size ≤ 1048576) ∧ ∀ a b, t = fline a b → (58 : UInt8) ∉ a → j ≤ a.length → acc' = if a = lenN then acc else acc ++ [⟨Tx a, Tx b⟩] := by
    intro hno
    obtain ⟨k', acc', e, g1, g2, g3⟩ := ih k (j + 1) (by omega) (by omega) (by omega)
    refine ⟨k', acc', e, by omega, g2, fun a b q1 q2 q3 => g3 a b q1 q2 ?_⟩
    by_cases hq : j = a.length
    ·exfalso; subst hq; exact hno (fline_58 q1 hl hl2)
    ·omega
   rw [if_pos (by omega), if_pos (by omega), if_pos (by omega), bt_get t j hl]
   by_cases c : (B t)[j] = 58
   ·rw [if_pos ((octv (d := 58) (n := 58) rfl).2 c), if_pos (by omega), bt_get t (j + 1) hl2]
    simp only [spec_l3Fields.j2]
    by_cases c2 : (B t)[j + 1] = 32
    ·clear go ih
     rw [if_pos (beq_iff_eq.2 ((octv (d := 32) (n := 32) rfl).2 c2)), if_pos (by omega), if_pos (by omega), hrd, if_pos (by omega), if_pos (by omega), w64_n2 hjz, if_pos (by omega), if_pos (by omega), Int.toNat_natCast, Int.toNat_natCast, w64_n1 hiz]
     have hlen : ∀ a b, t = fline a b → (58 : UInt8) ∉ a → j ≤ a.length → j = a.length := fun a b q1 q2 q3 => by
      by_cases hq : j < a.length
      ·exfalso; apply q2; rw [← c]; exact fline_in q1 hq hl
      ·omega
     by_cases c3 : (t.extract 0 j).toList = ([99, 111, 110, 116, 101, 110, 116, 45, 108, 101, 110, 103, 116, 104] : List UInt8)
     ·rw [if_pos c3]
      refine ⟨k, acc, rfl, by omega, .inl rfl, fun a b q1 q2 q3 => ?_⟩
      have := hlen a b q1 q2 q3
      subst this
      rw [fline_name q1, toList_B, B_Tx] at c3
      rw [if_pos (show a = lenN from c3)]
     ·rw [if_neg c3, if_pos (by omega)]
      refine ⟨k, _, rfl, by omega, .inr ⟨_, rfl, by dsimp only; rw [ByteArray.size_extract]; omega, by dsimp only; rw [ByteArray.size_extract]; omega⟩, fun a b q1 q2 q3 => ?_⟩
      have := hlen a b q1 q2 q3
      subst this
      rw [fline_name q1, toList_B, B_Tx] at c3
      rw [if_neg (show ¬ a = lenN from c3), fline_name q1, fline_value q1]
    ·rw [if_neg (fun h => c2 ((octv (d := 32) (n := 32) rfl).1 (beq_iff_eq.1 h))), w64_n1 hjz]
     exact go (fun h => c2 h.2)
   ·rw [if_neg (fun h => c ((octv (d := 58) (n := 58) rfl).1 h))]
    simp only [spec_l3Fields.j2]
    rw [if_neg (by simp), w64_n1 hjz]
    exact go (fun h => c h.1)
  ·rw [if_neg (by omega), w64_n1 hiz]
   refine ⟨k + 1, acc, rfl, by omega, .inl rfl, fun a b q1 q2 q3 => ?_⟩
   have := fline_size q1
   omega
theorem spec_l3Fields_l0 (ls : List ByteArray) (hn : ls.length ≤ 1048576) (hb : ∀ x ∈ ls, x.size ≤ 1048576) : ∀ (d k i : Nat) (acc : List S116), ls.length = i + d → acc.length ≤ i → (∀ x ∈ acc, x.f0.size ≤ 1048576 ∧ x.f1.size ≤ 1048576) → d * 2097170 + 4 < k →
  ∃ r, spec_l3Fields.l0 k ls acc i = some r ∧ r.length ≤ ls.length ∧ (∀ x ∈ r, x.f0.size ≤ 1048576 ∧ x.f1.size ≤ 1048576) ∧ ∀ (fs : List S116) (t : List ByteArray), ls.drop i = fs.map (fun x => Tx (fl x)) ++ t → (∀ x ∈ fs, (58 : UInt8) ∉ B x.f0 ∧ lenName x.f0 = false) → (t = [] ∨ ∃ v, t = [fline lenN v]) → r = acc ++ fs := by
 intro d
 induction d with
 | zero =>
  intro k i acc hd ha hx hk
  obtain ⟨k, rfl⟩ := succ_of (show 0 < k by omega)
  simp only [spec_l3Fields.l0]
  rw [if_neg (by omega)]
  refine ⟨acc, rfl, by omega, hx, fun fs t h1 _ _ => ?_⟩
  rw [List.drop_eq_nil_of_le (by omega)] at h1
  have := congrArg List.length h1
  rw [List.length_append, List.length_map] at this
  have h0 : fs = [] := List.eq_nil_of_length_eq_zero (by simp at this; omega)
  rw [h0, List.append_nil]
 | succ d ih =>
  intro k i acc hd ha hx hk
  obtain ⟨k, rfl⟩ := succ_of (show 0 < k by omega)
  have hi : i < ls.length := by omega
  have hts := hb _ (List.getElem_mem hi)
  obtain ⟨k', acc', e, g1, g2, g3⟩ := spec_l3Fields_l1 ls hn hb i hi acc ha ls[i].size k 0 (by omega) (by omega) (by omega)
  have e' : spec_l3Fields.l1 k ls acc i 0 = spec_l3Fields.l0 k' ls acc' ((i + 1 : Nat) : Int) := e
  have hal : acc'.length ≤ i + 1 := by
   rcases g2 with g2 | ⟨x, g2, _⟩
   ·rw [g2]; omega
   ·rw [g2, List.length_append, List.length_singleton]; omega
  have hk2 : d * 2097170 + 4 < k' := by
   rw [Nat.succ_mul] at hk
   generalize d * 2097170 = D at hk ⊢
   omega
  have hax : ∀ x ∈ acc', x.f0.size ≤ 1048576 ∧ x.f1.size ≤ 1048576 := by
   rcases g2 with g2 | ⟨y, g2, gy⟩ <;> rw [g2]
   ·exact hx
   ·intro x hx'
    rcases List.mem_append.1 hx' with hx' | hx'
    ·exact hx x hx'
    ·rw [List.mem_singleton.1 hx']; exact gy
  obtain ⟨r, er, r1, r2, r3⟩ := ih k' (i + 1) acc' (by omega) hal hax hk2
  simp only [spec_l3Fields.l0]
  rw [if_pos (by omega), e', er]
  refine ⟨r, rfl, r1, r2, fun fs t h1 h2 h3 => ?_⟩
  rw [drop_at hi] at h1
  cases fs with
  | nil =>
   rw [List.map_nil, List.nil_append] at h1
   rcases h3 with h3 | ⟨v, h3⟩
   ·rw [h3] at h1; cases h1
   ·rw [h3] at h1
    injection h1 with h4 h5
    have q := g3 lenN v h4 lenN58 (Nat.zero_le _)
    rw [if_pos rfl] at q
    rw [r3 [] [] (by rw [h5]; rfl) (fun x hx' => by cases hx') (.inl rfl), q]
  | cons x fs =>
   rw [List.map_cons, List.cons_append] at h1
   injection h1 with h4 h5
   have hxx := h2 x (by simp)
   have q := g3 (B x.f0) (B x.f1) h4 hxx.1 (Nat.zero_le _)
   rw [if_neg (by have := hxx.2; rw [lenName_B] at this; exact of_decide_eq_false this), Tx_B, Tx_B] at q
   rw [r3 fs t h5 (fun y hy => h2 y (by simp [hy])) h3, q, List.append_assoc]; rfl
theorem spec_l3Fields_f {k : Nat} {ls : List ByteArray} (hn : ls.length ≤ 1048576) (hb : ∀ x ∈ ls, x.size ≤ 1048576) (hk : 2199042129930 < k) : ∃ r, spec_l3Fields.f k ls = some r ∧ r.length ≤ ls.length ∧ (∀ x ∈ r, x.f0.size ≤ 1048576 ∧ x.f1.size ≤ 1048576) ∧ ∀ (fs : List S116) (t : List ByteArray), ls = fs.map (fun x => Tx (fl x)) ++ t → (∀ x ∈ fs, (58 : UInt8) ∉ B x.f0 ∧ lenName x.f0 = false) → (t = [] ∨ ∃ v, t = [fline lenN v]) → r = fs := by
 obtain ⟨r, e, r1, r2, r3⟩ := spec_l3Fields_l0 ls hn hb ls.length k 0 [] (by omega) (by simp) (fun x hx => by cases hx) (by omega)
 refine ⟨r, e, r1, r2, fun fs t h1 h2 h3 => ?_⟩
 have := r3 fs t h1 h2 h3
 rwa [List.nil_append] at this
theorem cut_len (s sep : List UInt8) : (Lib.cut s sep).1.length ≤ s.length ∧ (Lib.cut s sep).2.1.length ≤ s.length := by
 unfold Lib.cut
 split
 ·simp only [List.length_take, List.length_drop]; omega
 ·simp
theorem strings_Cut_f {s sep : ByteArray} (hs : s.size ≤ 1048576) : strings_Cut.f s sep = some (Tx (Lib.cut (B s) (B sep)).1, Tx (Lib.cut (B s) (B sep)).2.1, (Lib.cut (B s) (B sep)).2.2) := by
 unfold strings_Cut.f
 rw [if_pos (by omega)]; rfl
theorem splitBs_pos (s sep : ByteArray) : 0 < (splitBs s sep).length := by
 unfold splitBs
 cases Lib.countB s sep with
 | zero => simp [Lib.splitB]
 | succ c =>
  unfold Lib.splitB
  split <;> simp
theorem impl_parts_l0 (body : ByteArray) (lines rest : List ByteArray) (h0 : 0 < lines.length) (hnl : lines.length ≤ 10) (hrl : rest.length + 1 = lines.length) (hb : ∀ x ∈ rest, x.size ≤ 1048576) : ∀ (d k i : Nat) (acc : List S116), rest.length = i + d → acc.length ≤ i → (∀ x ∈ acc, x.f0.size ≤ 1048576 ∧ x.f1.size ≤ 1048576) → d < k →
  ∃ f0 r bd ok, impl_parts.l0 k body lines acc rest (rest.length : Int) i = some (f0, r, bd, ok) ∧ ((f0, r, bd, ok) = (⟨#[]⟩, [], ⟨#[]⟩, false) ∨ f0 = lines[0] ∧ bd = body ∧ r.length ≤ 10 ∧ ∀ x ∈ r, x.f0.size ≤ 1048576 ∧ x.f1.size ≤ 1048576) ∧ ∀ (fs : List S116) (t : List ByteArray), rest.drop i = fs.map (fun x => Tx (fl x)) ++ t → (∀ x ∈ fs, (58 : UInt8) ∉ B x.f0 ∧ lenName x.f0 = false) → (t = [] ∨ ∃ v, t = [fline lenN v]) → (f0, r, bd, ok) = (lines[0], acc ++ fs, body, true) := by
 have hr0 : rdOf ByteArray.empty lines 0 = lines[0] := rd_B lines 0 h0
 intro d
 induction d with
 | zero =>
  intro k i acc hd ha hx hk
  obtain ⟨k, rfl⟩ := succ_of (show 0 < k by omega)
  simp only [impl_parts.l0]
  rw [if_neg (by omega), if_pos (by omega), hr0]
  refine ⟨_, _, _, _, rfl, .inr ⟨rfl, rfl, by omega, hx⟩, fun fs t h1 _ _ => ?_⟩
  rw [List.drop_eq_nil_of_le (by omega)] at h1
  have := congrArg List.length h1
  rw [List.length_append, List.length_map] at this
  have h0 : fs = [] := List.eq_nil_of_length_eq_zero (by simp at this; omega)
  rw [h0, List.append_nil]
 | succ d ih =>
  intro k i acc hd ha hx hk
  obtain ⟨k, rfl⟩ := succ_of (show 0 < k by omega)
  have hi : i < rest.length := by omega
  have hts := hb _ (List.getElem_mem hi)
  have hc := cut_len (B rest[i]) [58, 32]
  rw [B_len] at hc
  simp only [impl_parts.l0]
  rw [if_pos (by omega), if_pos (by omega), if_pos (by omega), rd_B rest i hi, strings_Cut_f hts, Option.bind_some, nat_round (n := rest.length) hi (by omega), w64 (n := (lines.length : Int) - 2) (by omega)]
  dsimp only
  rw [show B (⟨#[58, 32]⟩ : ByteArray) = [58, 32] from rfl]
  have push : ∀ x : S116, x.f0.size ≤ 1048576 → x.f1.size ≤ 1048576 → ∃ f0 r bd ok, impl_parts.l0 k body lines (acc ++ [x]) rest (rest.length : Int) ((i + 1 : Nat) : Int) = some (f0, r, bd, ok) ∧ ((f0, r, bd, ok) = (⟨#[]⟩, [], ⟨#[]⟩, false) ∨ f0 = lines[0] ∧ bd = body ∧ r.length ≤ 10 ∧ ∀ x ∈ r, x.f0.size ≤ 1048576 ∧ x.f1.size ≤ 1048576) ∧ ∀ (fs : List S116) (t : List ByteArray), rest.drop (i + 1) = fs.map (fun x => Tx (fl x)) ++ t → (∀ x ∈ fs, (58 : UInt8) ∉ B x.f0 ∧ lenName x.f0 = false) → (t = [] ∨ ∃ v, t = [fline lenN v]) → (f0, r, bd, ok) = (lines[0], (acc ++ [x]) ++ fs, body, true) := fun x hx0 hx1 =>
   ih k (i + 1) (acc ++ [x]) (by omega) (by simp; omega) (fun y hy => by
    rcases List.mem_append.1 hy with hy | hy
    ·exact hx y hy
    ·rw [List.mem_singleton.1 hy]; exact ⟨hx0, hx1⟩) (by omega)
  have hcut : ∀ a b, rest[i] = fline a b → (58 : UInt8) ∉ a → Lib.cut (B rest[i]) [58, 32] = (a, b, true) := fun a b q1 q2 => by rw [fline_B q1]; exact cut_fl q2
  by_cases c : (Lib.cut (B rest[i]) [58, 32]).2.2 = true
  ·rw [if_pos c]
   have pp := push ⟨Tx (Lib.cut (B rest[i]) [58, 32]).1, Tx (Lib.cut (B rest[i]) [58, 32]).2.1⟩ (by rw [Tx_size]; omega) (by rw [Tx_size]; omega)
   have fin : (¬ ((i : Int) = (lines.length : Int) - 2 ∧ (Tx (Lib.cut (B rest[i]) [58, 32]).1).toList = ([99, 111, 110, 116, 101, 110, 116, 45, 108, 101, 110, 103, 116, 104] : List UInt8))) → ∃ f0 r bd ok, impl_parts.l0 k body lines (acc ++ [⟨Tx (Lib.cut (B rest[i]) [58, 32]).1, Tx (Lib.cut (B rest[i]) [58, 32]).2.1⟩]) rest (rest.length : Int) ((i + 1 : Nat) : Int) = some (f0, r, bd, ok) ∧ ((f0, r, bd, ok) = (⟨#[]⟩, [], ⟨#[]⟩, false) ∨ f0 = lines[0] ∧ bd = body ∧ r.length ≤ 10 ∧ ∀ x ∈ r, x.f0.size ≤ 1048576 ∧ x.f1.size ≤ 1048576) ∧ ∀ (fs : List S116) (t : List ByteArray), rest.drop i = fs.map (fun x => Tx (fl x)) ++ t → (∀ x ∈ fs, (58 : UInt8) ∉ B x.f0 ∧ lenName x.f0 = false) → (t = [] ∨ ∃ v, t = [fline lenN v]) → (f0, r, bd, ok) = (lines[0], acc ++ fs, body, true) := by
    intro hno
    obtain ⟨f0, r, bd, ok, e, g1, g2⟩ := pp
    refine ⟨f0, r, bd, ok, e, g1, fun fs t h1 h2 h3 => ?_⟩
    rw [drop_at hi] at h1
    cases fs with
    | nil =>
     exfalso
     rw [List.map_nil, List.nil_append] at h1
     rcases h3 with h3 | ⟨v, h3⟩
     ·rw [h3] at h1; cases h1
     ·rw [h3] at h1
      injection h1 with h4 h5
      have hl5 := congrArg List.length h5
      rw [List.length_drop, List.length_nil] at hl5
      refine hno ⟨by omega, ?_⟩
      rw [hcut lenN v h4 lenN58, toList_B, B_Tx]; rfl
    | cons x fs =>
     rw [List.map_cons, List.cons_append] at h1
     injection h1 with h4 h5
     have hxx := h2 x (by simp)
     have q := hcut (B x.f0) (B x.f1) h4 hxx.1
     rw [g2 fs t h5 (fun y hy => h2 y (by simp [hy])) h3, q, Tx_B, Tx_B, List.append_assoc]; rfl
   by_cases c2 : (i : Int) = (lines.length : Int) - 2
   ·rw [if_pos c2]
    by_cases c3 : (Tx (Lib.cut (B rest[i]) [58, 32]).1).toList = ([99, 111, 110, 116, 101, 110, 116, 45, 108, 101, 110, 103, 116, 104] : List UInt8)
    ·rw [if_pos c3, if_pos (by omega), hr0]
     refine ⟨_, _, _, _, rfl, .inr ⟨rfl, rfl, by omega, hx⟩, fun fs t h1 h2 h3 => ?_⟩
     rw [drop_at hi] at h1
     cases fs with
     | nil => rw [List.append_nil]
     | cons x fs =>
      exfalso
      rw [List.map_cons, List.cons_append] at h1
      injection h1 with h4 h5
      have hxx := h2 x (by simp)
      have q := hcut (B x.f0) (B x.f1) h4 hxx.1
      rw [q, Tx_B, toList_B] at c3
      have := hxx.2
      rw [lenName_B] at this
      exact of_decide_eq_false this c3
    ·rw [if_neg c3, if_pos (by omega)]
     exact fin (fun h => c3 h.2)
   ·rw [if_neg c2, if_pos (by omega)]
    exact fin (fun h => c2 h.1)
  ·rw [if_neg c]
   refine ⟨_, _, _, _, rfl, .inl rfl, fun fs t h1 h2 h3 => ?_⟩
   exfalso
   rw [drop_at hi] at h1
   cases fs with
   | nil =>
    rw [List.map_nil, List.nil_append] at h1
    rcases h3 with h3 | ⟨v, h3⟩
    ·rw [h3] at h1; cases h1
    ·rw [h3] at h1
     injection h1 with h4 h5
     rw [hcut lenN v h4 lenN58] at c; exact c rfl
   | cons x fs =>
    rw [List.map_cons, List.cons_append] at h1
    injection h1 with h4 h5
    rw [hcut (B x.f0) (B x.f1) h4 (h2 x (by simp)).1] at c; exact c rfl
theorem impl_parts_f {k : Nat} {s : ByteArray} (hs : s.size ≤ 1048576) (hk : 20 < k) : ∃ f0 r bd ok, impl_parts.f k s = some (f0, r, bd, ok) ∧ f0.size ≤ 1048576 ∧ bd.size ≤ 1048576 ∧ r.length ≤ 10 ∧ (∀ x ∈ r, x.f0.size ≤ 1048576 ∧ x.f1.size ≤ 1048576) ∧
  ∀ (x0 : List UInt8) (fs : List S116) (lt : List (List UInt8)) (body : List UInt8), GoodL (x0 :: (fs.map fl ++ lt)) → B s = lineT (x0 :: (fs.map fl ++ lt)) ++ (13 :: 10 :: body) → fs.length ≤ 8 → (∀ x ∈ fs, (58 : UInt8) ∉ B x.f0 ∧ lenName x.f0 = false) → (lt = [] ∨ ∃ v, lt = [lenN ++ (58 :: 32 :: v)]) → (f0, r, bd, ok) = (Tx x0, fs, Tx body, true) := by
 have hc := cut_len (B s) [13, 10, 13, 10]
 rw [B_len] at hc
 have hhs : (Tx (Lib.cut (B s) [13, 10, 13, 10]).1).size ≤ 1048576 := by rw [Tx_size]; omega
 obtain ⟨hd, hhd⟩ : ∃ hd, hd = Tx (Lib.cut (B s) [13, 10, 13, 10]).1 := ⟨_, rfl⟩
 have hpos := splitBs_pos hd ⟨#[13, 10]⟩
 have hsm := splitBs_small hd.size hd ⟨#[13, 10]⟩ (Nat.le_refl _) (by show 1 ≤ 2; omega)
 have hln := splitBs_len hd ⟨#[13, 10]⟩ (by show 1 ≤ 2; omega)
 have comp : ∀ (x0 : List UInt8) (fs : List S116) (lt : List (List UInt8)) (body : List UInt8), GoodL (x0 :: (fs.map fl ++ lt)) → B s = lineT (x0 :: (fs.map fl ++ lt)) ++ (13 :: 10 :: body) → Lib.cut (B s) [13, 10, 13, 10] = (joinT (x0 :: (fs.map fl ++ lt)), body, true) ∧ splitBs hd ⟨#[13, 10]⟩ = (x0 :: (fs.map fl ++ lt)).map Tx := fun x0 fs lt body hg hB => by
  have e := cut_head body (l := x0 :: (fs.map fl ++ lt)) (by simp) hg
  rw [← hB] at e
  refine ⟨e, ?_⟩
  rw [hhd, e]
  exact split_join (by simp) hg
 unfold impl_parts.f
 rw [strings_Cut_f hs, Option.bind_some]
 dsimp only
 rw [show B (⟨#[13, 10, 13, 10]⟩ : ByteArray) = [13, 10, 13, 10] from rfl, ← hhd]
 unfold strings_Split.f
 rw [if_pos ⟨by rw [hhd]; omega, by show 1 ≤ 2; omega⟩, Option.bind_some]
 obtain ⟨k, rfl⟩ := succ_of (show 0 < k by omega)
 have rej : ∀ (p : Prop), ∃ f0 r bd ok, (some ((⟨#[]⟩ : ByteArray), ([] : List S116), (⟨#[]⟩ : ByteArray), false)) = some (f0, r, bd, ok) ∧ f0.size ≤ 1048576 ∧ bd.size ≤ 1048576 ∧ r.length ≤ 10 ∧ (∀ x ∈ r, x.f0.size ≤ 1048576 ∧ x.f1.size ≤ 1048576) := fun _ => ⟨_, _, _, _, rfl, Nat.zero_le _, Nat.zero_le _, Nat.zero_le _, fun x hx => by cases hx⟩
 by_cases c : (Lib.cut (B s) [13, 10, 13, 10]).2.2 = true
 ·rw [if_pos c]
  simp only [impl_parts.j0]
  by_cases c2 : (splitBs hd ⟨#[13, 10]⟩).length > 10
  ·rw [if_pos (decide_eq_true (by omega))]
   refine ⟨_, _, _, _, rfl, Nat.zero_le _, Nat.zero_le _, Nat.zero_le _, fun x hx => (by cases hx), fun x0 fs lt body hg hB hf _ hlt => ?_⟩
   exfalso
   rw [(comp x0 fs lt body hg hB).2, List.length_map, List.length_cons, List.length_append, List.length_map] at c2
   rcases hlt with h | ⟨v, h⟩ <;> rw [h] at c2 <;> simp at c2 <;> omega
  ·rw [if_neg (by rw [decide_eq_false (by omega)]; simp), if_pos (by omega), Option.bind_some]
   obtain ⟨f0, r, bd, ok, e, g1, g2⟩ := impl_parts_l0 (Tx (Lib.cut (B s) [13, 10, 13, 10]).2.1) (splitBs hd ⟨#[13, 10]⟩) ((splitBs hd ⟨#[13, 10]⟩).drop 1) hpos (by omega) (by rw [List.length_drop]; omega) (fun x hx => by have := hsm x (List.mem_of_mem_drop hx); rw [hhd] at this; omega) ((splitBs hd ⟨#[13, 10]⟩).drop 1).length k 0 [] (by omega) (by simp) (fun x hx => by cases hx) (by rw [List.length_drop]; omega)
   have e' : impl_parts.l0 k (Tx (Lib.cut (B s) [13, 10, 13, 10]).2.1) (splitBs hd ⟨#[13, 10]⟩) [] ((splitBs hd ⟨#[13, 10]⟩).drop 1) (((splitBs hd ⟨#[13, 10]⟩).drop 1).length : Int) 0 = some (f0, r, bd, ok) := e
   refine ⟨f0, r, bd, ok, e', ?_⟩
   have hb : f0.size ≤ 1048576 ∧ bd.size ≤ 1048576 ∧ r.length ≤ 10 ∧ ∀ x ∈ r, x.f0.size ≤ 1048576 ∧ x.f1.size ≤ 1048576 := by
    rcases g1 with g1 | ⟨g1, g2, g3, g4⟩
    ·injection g1 with a1 a2
     injection a2 with a2 a3
     injection a3 with a3 a4
     rw [a1, a2, a3]
     exact ⟨Nat.zero_le _, Nat.zero_le _, Nat.zero_le _, fun x hx => by cases hx⟩
    ·refine ⟨?_, ?_, g3, g4⟩
     ·rw [g1]; exact Nat.le_trans (hsm _ (List.getElem_mem hpos)) (by rw [hhd]; exact hhs)
     ·rw [g2, Tx_size]; omega
   refine ⟨hb.1, hb.2.1, hb.2.2.1, hb.2.2.2, fun x0 fs lt body hg hB hf hfs hlt => ?_⟩
   obtain ⟨q1, q2⟩ := comp x0 fs lt body hg hB
   have h0 : (splitBs hd ⟨#[13, 10]⟩)[0] = Tx x0 := by simp only [q2]; rfl
   have h1 : ((splitBs hd ⟨#[13, 10]⟩).drop 1).drop 0 = fs.map (fun x => Tx (fl x)) ++ lt.map Tx := by
    rw [q2, List.drop_zero, List.map_cons, List.drop_succ_cons, List.drop_zero, List.map_append, List.map_map]; rfl
   have := g2 fs (lt.map Tx) h1 hfs (by
    rcases hlt with h | ⟨v, h⟩
    ·left; rw [h]; rfl
    ·right; exact ⟨v, by rw [h]; rfl⟩)
   rw [this, h0, q1, List.nil_append]
 ·rw [if_neg c]
  simp only [impl_parts.j0]
  rw [if_pos trivial]
  refine ⟨_, _, _, _, rfl, Nat.zero_le _, Nat.zero_le _, Nat.zero_le _, fun x hx => (by cases hx), fun x0 fs lt body hg hB hf _ hlt => ?_⟩
  exfalso
  rw [(comp x0 fs lt body hg hB).1] at c
  exact c rfl
theorem okF_names {l : List S116} (h : fieldsB l = true) : ∀ x ∈ l, (58 : UInt8) ∉ B x.f0 ∧ lenName x.f0 = false := fun x hx => by
 obtain ⟨_, g⟩ := okFs_facts l l 0 h
 exact ⟨tok_free (g x hx).1 (by decide), (g x hx).2.2⟩
theorem respB_of {m : Int} {l : List S116} {b s : ByteArray} (h : respText m l b = s) (hz : 0 < s.size) : respB m l b = true := by
 unfold respText at h
 by_cases c : respB m l b = true
 ·exact c
 ·rw [if_neg c] at h
  rw [← h] at hz
  exact absurd hz (by decide)
def rejR : Int × List S116 × ByteArray × Bool := (0, [], ⟨#[]⟩, false)
def finR (s : ByteArray) (m : Int) (l : List S116) (b : ByteArray) : Int × List S116 × ByteArray × Bool := if respText m l b = s then (m, l, b, true) else rejR
theorem resp_lines {s : ByteArray} {m : Int} {l : List S116} {b : ByteArray} (hq : respB m l b = true) (hr : respText m l b = s) : B s = lineT (respLines m l b) ++ (13 :: 10 :: B b) := by
 rw [← hr, respText_lines hq, B_Tx]
def httpA : List UInt8 := [72, 84, 84, 80, 47, 49, 46, 49]
theorem resp_words {m : Int} (h : 100 ≤ m ∧ m ≤ 599) : splitBs (Tx (respFirst m)) ⟨#[32]⟩ = [Tx httpA, numT m, Tx [46]] := by
 have e : Tx (respFirst m) = Tx httpA ++ ((⟨#[32]⟩ : ByteArray) ++ (numT m ++ ((⟨#[32]⟩ : ByteArray) ++ Tx [46]))) := by
  apply B_ext
  simp only [B_append, B_Tx]
  rfl
 have h1 : (32 : UInt8) ∉ B (Tx httpA) := by rw [B_Tx]; decide
 have h2 : (32 : UInt8) ∉ B (numT m) := fun hc => absurd ((num_bytes (n := m) (by omega)).1 _ hc) (by decide)
 rw [e, splitBs_app (c := 32) (r := []) rfl h1, splitBs_app (c := 32) (r := []) rfl h2, splitBs_free (c := 32) (r := []) rfl (by rw [B_Tx]; decide)]
theorem respFirst_good {m : Int} (h : 100 ≤ m ∧ m ≤ 599) : respFirst m ≠ [] ∧ ∀ c ∈ respFirst m, 32 ≤ c.toNat := by
 refine ⟨by unfold respFirst; simp, fun c hc => ?_⟩
 unfold respFirst at hc
 rcases List.mem_append.1 hc with hc | hc
 ·have h : (httpA.all fun c => decide (32 ≤ c.toNat)) = true := by decide
  rw [List.all_eq_true] at h
  exact of_decide_eq_true (h c hc)
 ·rcases List.mem_cons.1 hc with rfl | hc
  ·decide
  ·rcases List.mem_append.1 hc with hc | hc
   ·have := (num_bytes (n := m) (by omega)).1 c hc; omega
   ·have h : (([32, 46] : List UInt8).all fun c => decide (32 ≤ c.toNat)) = true := by decide
    rw [List.all_eq_true] at h
    exact of_decide_eq_true (h c hc)
theorem respLines_good {m : Int} {l : List S116} {b : ByteArray} (h : respB m l b = true) : GoodL (respLines m l b) := by
 obtain ⟨h1, h2, h3⟩ := respB_facts h
 refine goodL_of fun x hx => ?_
 rcases List.mem_cons.1 hx with rfl | hx
 ·exact respFirst_good h1
 ·rcases List.mem_append.1 hx with hx | hx
  ·exact fields_good h3 x hx
  ·rw [List.mem_singleton.1 hx]; exact lenLine_good (b := b) (by omega)
theorem spec_RespRead_f {k : Nat} {s : ByteArray} (hs : s.size ≤ 1048576) (hk : 2199042129990 < k) : ∃ r, spec_RespRead.f k s = some r ∧ (r = rejR ∨ ∃ m l b, r = (m, l, b, true) ∧ respText m l b = s ∧ 0 < s.size ∧ l.length ≤ 1048576) ∧ ∀ m l b, respB m l b = true → respText m l b = s → r = (m, l, b, true) := by
 obtain ⟨ls, e, h1, h2, h3, h4, h5, h6⟩ := spec_l3Head_f (k := k) hs (by omega)
 have comp : ∀ m l b, respB m l b = true → respText m l b = s → ls = (respLines m l b).map Tx ∧ e = (((lineT (respLines m l b)).length + 2 : Nat) : Int) := fun m l b hq hr => h6 _ _ (respLines_good hq) (resp_lines hq hr)
 unfold spec_RespRead.f
 rw [h1, Option.bind_some]
 dsimp only
 obtain ⟨k, rfl⟩ := succ_of (show 0 < k by omega)
 by_cases c : e < 0
 ·rw [if_pos c]
  simp only [spec_RespRead.j0]
  rw [if_pos trivial]
  exact ⟨_, rfl, .inl rfl, fun m l b hq hr => by have := (comp m l b hq hr).2; omega⟩
 ·rw [if_neg c]
  simp only [spec_RespRead.j0]
  obtain ⟨n, rfl⟩ : ∃ n : Nat, e = n := ⟨e.toNat, by omega⟩
  by_cases c2 : ls.length = 0
  ·rw [if_pos (beq_iff_eq.2 (by omega))]
   refine ⟨_, rfl, .inl rfl, fun m l b hq hr => ?_⟩
   rw [(comp m l b hq hr).1] at c2
   simp [respLines] at c2
  ·have hpos : 0 < ls.length := by omega
   have h0 : rdOf ByteArray.empty ls 0 = ls[0] := rd_B ls 0 hpos
   have hz0 := h3 _ (List.getElem_mem hpos)
   rw [if_neg (fun h => c2 (by have := beq_iff_eq.1 h; omega)), if_pos (by omega), h0, spec_l3Words_f (by omega) (by omega), Option.bind_some]
   have hsm := splitBs_small (ls[0]).size ls[0] ⟨#[32]⟩ (Nat.le_refl _) (by show 1 ≤ 1; omega)
   have cw : ∀ m l b, respB m l b = true → respText m l b = s → splitBs ls[0] ⟨#[32]⟩ = [Tx httpA, numT m, Tx [46]] := fun m l b hq hr => by
    have q := (comp m l b hq hr).1
    have q0 : ls[0] = Tx (respFirst m) := by simp only [q]; rfl
    rw [q0]; exact resp_words (respB_facts hq).1
   by_cases c3 : (splitBs ls[0] ⟨#[32]⟩).length = 3
   ·have h1w : rdOf ByteArray.empty (splitBs ls[0] ⟨#[32]⟩) 1 = (splitBs ls[0] ⟨#[32]⟩)[1] := rd_B _ 1 (by omega)
    obtain ⟨fs, ef, f1, f2, f3⟩ := spec_l3Fields_f (k := k) (ls := ls.drop 1) (by rw [List.length_drop]; omega) (fun x hx => by have := h3 x (List.mem_of_mem_drop hx); omega) (by omega)
    rw [List.length_drop] at f1
    rw [if_pos (by omega), if_pos (by omega), h1w, spec_NumRead_f (by omega), Option.bind_some, if_pos (by omega), ef, Option.bind_some, if_pos (by omega), if_pos h4, Int.toNat_natCast, spec_RespText_f (K := 1048576) (by omega) ⟨by omega, f2⟩ (by omega), Option.bind_some]
    refine ⟨finR s (numRead (splitBs ls[0] ⟨#[32]⟩)[1]).1 fs (s.extract n s.size), ?_, ?_, fun m l b hq hr => ?_⟩
    ·unfold finR
     by_cases c4 : respText (numRead (splitBs ls[0] ⟨#[32]⟩)[1]).1 fs (s.extract n s.size) = s
     ·rw [if_pos ((toList_iff _ _).2 c4), if_pos c4]
     ·rw [if_neg (fun h => c4 (toList_inj h)), if_neg c4]; rfl
    ·unfold finR
     by_cases c4 : respText (numRead (splitBs ls[0] ⟨#[32]⟩)[1]).1 fs (s.extract n s.size) = s
     ·rw [if_pos c4]; exact .inr ⟨_, _, _, rfl, c4, by omega, by omega⟩
     ·rw [if_neg c4]; exact .inl rfl
    ·obtain ⟨q1, q2⟩ := comp m l b hq hr
     obtain ⟨g1, g2, g3⟩ := respB_facts hq
     have qw := cw m l b hq hr
     have w1 : (splitBs ls[0] ⟨#[32]⟩)[1] = numT m := by simp only [qw]; rfl
     have qf : fs = l := f3 l [Tx (lenLine b)] (by rw [q1]; unfold respLines; rw [List.map_cons, List.drop_succ_cons, List.drop_zero, List.map_append, List.map_map]; rfl) (okF_names g3) (.inr ⟨B (numT b.size), rfl⟩)
     have qb : s.extract n s.size = b := by
      apply B_ext
      have hn : n = (lineT (respLines m l b)).length + 2 := by omega
      rw [B_extract, List.take_of_length_le (by rw [B_len]; omega), resp_lines hq hr, hn, List.drop_append, List.drop_eq_nil_of_le (by omega), List.nil_append, Nat.add_sub_cancel_left]; rfl
     rw [w1, qf, qb, numRead_numT (by omega)]
     unfold finR
     rw [if_pos hr]
   ·rw [if_neg (by omega)]
    refine ⟨_, rfl, .inl rfl, fun m l b hq hr => ?_⟩
    rw [cw m l b hq hr] at c3
    exact absurd rfl c3
theorem impl_RespRead_f {k : Nat} {s : ByteArray} (hs : s.size ≤ 1048576) (hk : 5243000 < k) : ∃ r, impl_RespRead.f k s = some r ∧ (r = rejR ∨ ∃ m l b, r = (m, l, b, true) ∧ respText m l b = s ∧ 0 < s.size ∧ l.length ≤ 1048576) ∧ ∀ m l b, respB m l b = true → respText m l b = s → r = (m, l, b, true) := by
 obtain ⟨f0, r, bd, ok, e, h1, h2, h3, h4, h5⟩ := impl_parts_f (k := k) hs (by omega)
 have comp : ∀ m l b, respB m l b = true → respText m l b = s → (f0, r, bd, ok) = (Tx (respFirst m), l, b, true) := fun m l b hq hr => by
  obtain ⟨g1, g2, g3⟩ := respB_facts hq
  have := h5 (respFirst m) l [lenLine b] (B b) (respLines_good hq) (resp_lines hq hr) (fieldsB_lines g3).1 (okF_names g3) (.inr ⟨B (numT b.size), rfl⟩)
  rw [this, Tx_B]
 have hsm := splitBs_small f0.size f0 ⟨#[32]⟩ (Nat.le_refl _) (by show 1 ≤ 1; omega)
 unfold impl_RespRead.f
 rw [e, Option.bind_some]
 dsimp only
 unfold strings_Split.f
 rw [if_pos ⟨by omega, by show 1 ≤ 1; omega⟩, Option.bind_some]
 obtain ⟨k, rfl⟩ := succ_of (show 0 < k by omega)
 cases ok with
 | false =>
  rw [if_neg (by simp)]
  simp only [impl_RespRead.j0]
  rw [if_pos trivial]
  exact ⟨_, rfl, .inl rfl, fun m l b hq hr => by have := comp m l b hq hr; cases this⟩
 | true =>
  rw [if_pos rfl]
  simp only [impl_RespRead.j0]
  have cw : ∀ m l b, respB m l b = true → respText m l b = s → splitBs f0 ⟨#[32]⟩ = [Tx httpA, numT m, Tx [46]] ∧ r = l ∧ bd = b := fun m l b hq hr => by
   have q := comp m l b hq hr
   injection q with q1 q2
   injection q2 with q2 q3
   injection q3 with q3 q4
   exact ⟨by rw [q1]; exact resp_words (respB_facts hq).1, q2, q3⟩
  by_cases c3 : (splitBs f0 ⟨#[32]⟩).length = 3
  ·have h1w : rdOf ByteArray.empty (splitBs f0 ⟨#[32]⟩) 1 = (splitBs f0 ⟨#[32]⟩)[1] := rd_B _ 1 (by omega)
   rw [if_neg (by simp [c3]), if_pos (by omega), h1w, impl_NumRead_f, Option.bind_some]
   by_cases c0 : s.toList = []
   ·rw [if_pos c0]
    refine ⟨_, rfl, .inl rfl, fun m l b hq hr => ?_⟩
    exfalso
    have hz := size_zero c0
    rw [← B_len, resp_lines hq hr, List.length_append, List.length_cons] at hz
    omega
   ·have hz : s.size ≠ 0 := fun h => c0 (by rw [toList_B]; exact List.eq_nil_of_length_eq_zero (by rw [B_len]; exact h))
    rw [if_neg c0, impl_RespText_f (K := 1048576) (by omega) ⟨by omega, h4⟩ (by omega), Option.bind_some]
    refine ⟨finR s (numRead (splitBs f0 ⟨#[32]⟩)[1]).1 r bd, ?_, ?_, fun m l b hq hr => ?_⟩
    ·unfold finR
     by_cases c4 : respText (numRead (splitBs f0 ⟨#[32]⟩)[1]).1 r bd = s
     ·rw [if_pos ((toList_iff _ _).2 c4), if_pos c4]
     ·rw [if_neg (fun h => c4 (toList_inj h)), if_neg c4]; rfl
    ·unfold finR
     by_cases c4 : respText (numRead (splitBs f0 ⟨#[32]⟩)[1]).1 r bd = s
     ·rw [if_pos c4]; exact .inr ⟨_, _, _, rfl, c4, by omega, by omega⟩
     ·rw [if_neg c4]; exact .inl rfl
    ·obtain ⟨g1, g2, g3⟩ := respB_facts hq
     obtain ⟨qw, q2, q3⟩ := cw m l b hq hr
     have w1 : (splitBs f0 ⟨#[32]⟩)[1] = numT m := by simp only [qw]; rfl
     rw [w1, q2, q3, numRead_numT (by omega)]
     unfold finR
     rw [if_pos hr]
  ·rw [if_pos (by simpa using fun h => c3 (by omega))]
   refine ⟨_, rfl, .inl rfl, fun m l b hq hr => ?_⟩
   rw [(cw m l b hq hr).1] at c3
   exact absurd rfl c3
theorem fieldsB_SmallF {l : List S116} (h : fieldsB l = true) : SmallF 100 l := by
 obtain ⟨_, h2⟩ := okFs_facts l l 0 h
 have h1 := (fieldsB_lines h).1
 exact ⟨by omega, fun x hx => ⟨by have := (tok_size (h2 x hx).1).2; omega, by have := (val_size (h2 x hx).2.1).2; omega⟩⟩
theorem respText_size (m : Int) (l : List S116) (b : ByteArray) : (respText m l b).size ≤ 2000 := by
 unfold respText
 split
 ·rename_i h
  obtain ⟨h1, h2, h3⟩ := respB_facts h
  obtain ⟨h4, h5⟩ := fieldsB_lines h3
  have n1 := numT_size m
  have n2 := numT_size b.size
  have n3 := linesT_size l
  have s1 : (⟨#[72, 84, 84, 80, 47, 49, 46, 49, 32]⟩ : ByteArray).size = 9 := rfl
  have s2 : (⟨#[32, 46, 13, 10]⟩ : ByteArray).size = 4 := rfl
  have s3 : (⟨#[99, 111, 110, 116, 101, 110, 116, 45, 108, 101, 110, 103, 116, 104, 58, 32]⟩ : ByteArray).size = 16 := rfl
  have s4 : (⟨#[13, 10, 13, 10]⟩ : ByteArray).size = 4 := rfl
  simp only [ByteArray.size_append, s1, s2, s3, s4]; omega
 ·exact Nat.zero_le _
def valLines : List ByteArray → List UInt8
 | [] => []
 | v :: r => B v ++ (10 :: valLines r)
def objBytes (p : ByteArray) (vs : List ByteArray) (m : Int) (l : List S116) (b : ByteArray) (t : Int) : List UInt8 :=
 [111, 98, 106, 32] ++ (B p ++ (32 :: (B (numT t) ++ (32 :: (B (numT (vs.length : Int)) ++ (10 :: (valLines vs ++ B (respText m l b))))))))
def objText (p : ByteArray) (ns vs : List ByteArray) (m : Int) (l : List S116) (b : ByteArray) (t : Int) : ByteArray := if objB p ns vs m l b t = true then Tx (objBytes p vs m l b t) else ⟨#[]⟩
theorem ObjText_l0 {K : Nat} (hK : K ≤ 1048576) (p : ByteArray) (ns vs : List ByteArray) (m : Int) (l : List S116) (b : ByteArray) (t : Int) (hv : vs.length ≤ 4) (hx : ∀ v ∈ vs, v.size ≤ 60) (hl : SmallF K l) : ∀ (d k i : Nat) (acc : ByteArray), vs.length = i + d → acc.size + 100 * d ≤ 100000 → d + 5 * K + 60 < k →
  spec_ObjText.l0 k acc i p ns vs m l b t = some (acc ++ Tx (valLines (vs.drop i) ++ B (respText m l b))) ∧ impl_ObjText.l0 k acc vs (vs.length : Int) i p ns vs m l b t = some (acc ++ Tx (valLines (vs.drop i) ++ B (respText m l b))) := by
 have hz := respText_size m l b
 intro d
 induction d with
 | zero =>
  intro k i acc hd ha hk
  obtain ⟨k, rfl⟩ := succ_of (show 0 < k by omega)
  have e : acc ++ Tx (valLines (vs.drop i) ++ B (respText m l b)) = acc ++ respText m l b := by
   rw [List.drop_eq_nil_of_le (by omega)]
   show acc ++ Tx (B (respText m l b)) = _
   rw [Tx_B]
  simp only [spec_ObjText.l0, impl_ObjText.l0]
  rw [if_neg (by omega), if_neg (by omega), spec_RespText_f (K := K) (by omega) hl (by omega), impl_RespText_f (K := K) (by omega) hl (by omega), Option.bind_some, if_pos (by omega), e]
  exact ⟨rfl, rfl⟩
 | succ d ih =>
  intro k i acc hd ha hk
  obtain ⟨k, rfl⟩ := succ_of (show 0 < k by omega)
  have hlt : i < vs.length := by omega
  have hs := hx _ (List.getElem_mem hlt)
  have s1 : (⟨#[10]⟩ : ByteArray).size = 1 := rfl
  have e1 : (acc ++ vs[i]) ++ (⟨#[10]⟩ : ByteArray) = acc ++ (vs[i] ++ (⟨#[10]⟩ : ByteArray)) := B_ext (by simp only [B_append, List.append_assoc])
  have e2 : (acc ++ (vs[i] ++ (⟨#[10]⟩ : ByteArray))) ++ Tx (valLines (vs.drop (i + 1)) ++ B (respText m l b)) = acc ++ Tx (valLines (vs.drop i) ++ B (respText m l b)) := B_ext (by
   rw [drop_at hlt]; simp only [B_append, B_Tx, valLines, List.append_assoc]; rfl)
  obtain ⟨i1, i2⟩ := ih k (i + 1) (acc ++ (vs[i] ++ (⟨#[10]⟩ : ByteArray))) (by omega) (by simp only [ByteArray.size_append, s1]; omega) (by omega)
  simp only [spec_ObjText.l0, impl_ObjText.l0]
  refine ⟨?_, ?_⟩
  ·rw [if_pos (by omega), if_pos (by omega), rd_B vs i hlt, if_pos (by omega), if_pos (by simp only [ByteArray.size_append]; omega), nat_round (n := vs.length) hlt (by omega), e1, i1, e2]
  ·rw [if_pos (by omega), if_pos (by omega), if_pos (by omega), rd_B vs i hlt, if_pos (by omega), if_pos (by simp only [ByteArray.size_append, s1]; omega), nat_round (n := vs.length) hlt (by omega), i2, e2]
theorem spec_ObjText_f {k K : Nat} {p : ByteArray} {ns vs : List ByteArray} {m : Int} {l : List S116} {b : ByteArray} {t : Int} (hK : K ≤ 1048576) (hp : p.size ≤ K) (hn : SmallB K ns) (hv : SmallB K vs) (hl : SmallF K l) (hk : 9000000 < k) : spec_ObjText.f k p ns vs m l b t = some (objText p ns vs m l b t) := by
 unfold spec_ObjText.f objText
 rw [spec_ObjOk_f hK hp hn hv hl hk, Option.bind_some]
 by_cases h : objB p ns vs m l b t = true
 ·obtain ⟨h1, h2, h3, h4, h5, h6, _, h7⟩ := objB_facts h
  have n1 := numT_size t
  have n2 := numT_size (vs.length : Int)
  have n4 := path_size h2
  have s0 : (⟨#[111, 98, 106, 32]⟩ : ByteArray).size = 4 := rfl
  have s1 : (⟨#[32]⟩ : ByteArray).size = 1 := rfl
  have s2 : (⟨#[10]⟩ : ByteArray).size = 1 := rfl
  have e := (ObjText_l0 hK p ns vs m l b t (by omega) (fun v hv => (val_size (h7 v hv)).2) hl vs.length k 0 ((((((((⟨#[111, 98, 106, 32]⟩ : ByteArray) ++ p) ++ (⟨#[32]⟩ : ByteArray)) ++ numT t) ++ (⟨#[32]⟩ : ByteArray)) ++ numT (vs.length : Int)) ++ (⟨#[10]⟩ : ByteArray))) (by omega) (by simp only [ByteArray.size_append, s0, s1, s2]; omega) (by omega)).1
  rw [if_pos h, if_pos h, if_pos (by omega), if_pos (by simp only [ByteArray.size_append, s0]; omega), spec_NumText_f (by omega), Option.bind_some, if_pos (by simp only [ByteArray.size_append, s0, s1]; omega), if_pos (by simp only [ByteArray.size_append, s0, s1]; omega), spec_NumText_f (by omega), Option.bind_some, if_pos (by simp only [ByteArray.size_append, s0, s1]; omega), if_pos (by simp only [ByteArray.size_append, s0, s1]; omega)]
  refine (show _ = _ from e).trans (congrArg some (B_ext ?_))
  simp only [objBytes, B_append, B_Tx, List.drop_zero, List.append_assoc]
  rfl
 ·rw [if_neg h, if_neg h]
theorem impl_ObjText_f {k K : Nat} {p : ByteArray} {ns vs : List ByteArray} {m : Int} {l : List S116} {b : ByteArray} {t : Int} (hK : K ≤ 1048576) (hp : p.size ≤ K) (hn : SmallB K ns) (hv : SmallB K vs) (hl : SmallF K l) (hk : 9200000 < k) : impl_ObjText.f k p ns vs m l b t = some (objText p ns vs m l b t) := by
 unfold impl_ObjText.f objText
 rw [impl_ObjOk_f hK hp hn hv hl hk, Option.bind_some]
 by_cases h : objB p ns vs m l b t = true
 ·obtain ⟨h1, h2, h3, h4, h5, h6, _, h7⟩ := objB_facts h
  have n1 := numT_size t
  have n2 := numT_size (vs.length : Int)
  have n4 := path_size h2
  have s0 : (⟨#[111, 98, 106, 32]⟩ : ByteArray).size = 4 := rfl
  have s1 : (⟨#[32]⟩ : ByteArray).size = 1 := rfl
  have s2 : (⟨#[10]⟩ : ByteArray).size = 1 := rfl
  have e := (ObjText_l0 hK p ns vs m l b t (by omega) (fun v hv => (val_size (h7 v hv)).2) hl vs.length k 0 ((((((((⟨#[111, 98, 106, 32]⟩ : ByteArray) ++ p) ++ (⟨#[32]⟩ : ByteArray)) ++ numT t) ++ (⟨#[32]⟩ : ByteArray)) ++ numT (vs.length : Int)) ++ (⟨#[10]⟩ : ByteArray))) (by omega) (by simp only [ByteArray.size_append, s0, s1, s2]; omega) (by omega)).2
  rw [if_pos h, if_pos h, if_pos (by omega), if_pos (by simp only [ByteArray.size_append, s0]; omega), impl_NumText_f, Option.bind_some, if_pos (by simp only [ByteArray.size_append, s0, s1]; omega), if_pos (by simp only [ByteArray.size_append, s0, s1]; omega), itoa_numT (by omega), Option.bind_some, if_pos (by simp only [ByteArray.size_append, s0, s1]; omega), if_pos (by simp only [ByteArray.size_append, s0, s1]; omega)]
  refine (show _ = _ from e).trans (congrArg some (B_ext ?_))
  simp only [objBytes, B_append, B_Tx, List.drop_zero, List.append_assoc]
  rfl
 ·rw [if_neg h, if_neg h]
theorem spec_l10Line_l0 (s : ByteArray) (hs : s.size ≤ 1048576) (a : Nat) : ∀ (d k i : Nat), s.size - i = d → a ≤ i → i ≤ s.size → d < k →
  ∃ v n, spec_l10Line.l0 k s a i = some (v, n) ∧ v.size ≤ s.size ∧ (n = -1 ∨ 1 ≤ n ∧ n ≤ s.size) ∧ ∀ x rest, (B s).drop a = x ++ (10 :: rest) → (10 : UInt8) ∉ x → i ≤ a + x.length → v = Tx x ∧ n = ((a + x.length + 1 : Nat) : Int) := by
 intro d
 induction d with
 | zero =>
  intro k i hd ha hi hk
  obtain ⟨k, rfl⟩ := succ_of hk
  simp only [spec_l10Line.l0]
  rw [if_neg (by omega)]
  refine ⟨_, _, rfl, Nat.zero_le _, .inl rfl, fun x rest h1 h2 h3 => ?_⟩
  have := congrArg List.length h1
  rw [List.length_drop, B_len, List.length_append, List.length_cons] at this
  omega
 | succ d ih =>
  intro k i hd ha hi hk
  obtain ⟨k, rfl⟩ := succ_of (show 0 < k by omega)
  have hl : i < (B s).length := by rw [B_len]; omega
  have hiz : i ≤ 1048576 := by omega
  simp only [spec_l10Line.l0]
  rw [if_pos (by omega), if_pos (by omega), bt_get s i hl]
  by_cases c : (B s)[i] = 10
  ·rw [if_pos ((octv (d := 10) (n := 10) rfl).2 c), if_pos (by omega), if_pos (by omega), if_pos (by omega), Int.toNat_natCast, Int.toNat_natCast, w64_n1 hiz]
   refine ⟨_, _, rfl, by rw [ByteArray.size_extract]; omega, .inr ⟨by omega, by omega⟩, fun x rest h1 h2 h3 => ?_⟩
   have e : i = a + x.length := by
    by_cases h4 : i < a + x.length
    ·exfalso
     have := in_first h1 ha h4 hl
     rw [c] at this
     exact h2 this
    ·omega
   rw [e]
   exact ⟨cut_line h1, rfl⟩
  ·rw [if_neg (fun h => c ((octv (d := 10) (n := 10) rfl).1 h)), w64_n1 hiz]
   obtain ⟨v, n, e, g1, g2, g3⟩ := ih k (i + 1) (by omega) (by omega) (by omega) (by omega)
   refine ⟨v, n, e, g1, g2, fun x rest h1 h2 h3 => g3 x rest h1 h2 ?_⟩
   by_cases h4 : i = a + x.length
   ·exfalso
    apply c
    have h10 : ((B s).drop a)[x.length]? = some 10 := by rw [h1, List.getElem?_append_right (Nat.le_refl _), Nat.sub_self]; rfl
    rw [List.getElem?_drop] at h10
    subst h4
    exact get_of h10 hl
   ·omega
theorem spec_l10Line_f {k a : Nat} {s : ByteArray} (hs : s.size ≤ 1048576) (ha : a ≤ s.size) (hk : s.size < k) : ∃ v n, spec_l10Line.f k s a = some (v, n) ∧ v.size ≤ s.size ∧ (n = -1 ∨ 1 ≤ n ∧ n ≤ s.size) ∧ ∀ x rest, (B s).drop a = x ++ (10 :: rest) → (10 : UInt8) ∉ x → v = Tx x ∧ n = ((a + x.length + 1 : Nat) : Int) := by
 obtain ⟨v, n, e, g1, g2, g3⟩ := spec_l10Line_l0 s hs a (s.size - a) k a rfl (Nat.le_refl _) ha (by omega)
 exact ⟨v, n, e, g1, g2, fun x rest h1 h2 => g3 x rest h1 h2 (by omega)⟩
theorem index10 (rest : List UInt8) : ∀ x : List UInt8, (10 : UInt8) ∉ x → Lib.index (x ++ (10 :: rest)) [10] = (x.length : Int)
 | [], _ => by simp [Lib.index, List.isPrefixOf]
 | y :: r, h => by
  have hy : ((10 : UInt8) == y) = false := beq_eq_false_iff_ne.2 fun e => h (by rw [e]; simp)
  have ih := index10 rest r (fun hm => h (by simp [hm]))
  rw [List.cons_append, Lib.index, if_neg (by simp [List.isPrefixOf, hy]), ih, if_neg (by rw [beq_iff_eq]; omega)]
  simp only [List.length_cons]
  omega
theorem cut10 {x rest : List UInt8} (h : (10 : UInt8) ∉ x) : Lib.cut (x ++ (10 :: rest)) [10] = (x, rest, true) := by
 unfold Lib.cut
 rw [index10 rest x h, if_pos (by omega), Int.toNat_natCast, List.take_left, List.drop_append, List.drop_eq_nil_of_le (by simp), List.nil_append, Nat.add_sub_cancel_left]; rfl
def objFirst (p : ByteArray) (t n : Int) : List UInt8 := [111, 98, 106] ++ (32 :: (B p ++ (32 :: (B (numT t) ++ (32 :: B (numT n))))))
theorem objBytes_first (p : ByteArray) (vs : List ByteArray) (m : Int) (l : List S116) (b : ByteArray) (t : Int) : objBytes p vs m l b t = objFirst p t (vs.length : Int) ++ (10 :: (valLines vs ++ B (respText m l b))) := by
 unfold objBytes objFirst
 simp
theorem obj_words {p : ByteArray} {t n : Int} (hp : pathB p = true) (ht : 0 ≤ t ∧ t ≤ 1000000) (hn : 0 ≤ n ∧ n ≤ 1000000) : splitBs (Tx (objFirst p t n)) ⟨#[32]⟩ = [Tx [111, 98, 106], p, numT t, numT n] := by
 have e : Tx (objFirst p t n) = Tx [111, 98, 106] ++ ((⟨#[32]⟩ : ByteArray) ++ (p ++ ((⟨#[32]⟩ : ByteArray) ++ (numT t ++ ((⟨#[32]⟩ : ByteArray) ++ numT n))))) := by
  apply B_ext
  simp only [B_append, B_Tx]
  rfl
 have h1 : (32 : UInt8) ∉ B (Tx [111, 98, 106]) := by rw [B_Tx]; decide
 have h2 : (32 : UInt8) ∉ B p := fun hc => absurd ((path_bytes hp).1 _ hc).1 (by decide)
 have h3 : (32 : UInt8) ∉ B (numT t) := fun hc => absurd ((num_bytes ht).1 _ hc) (by decide)
 have h4 : (32 : UInt8) ∉ B (numT n) := fun hc => absurd ((num_bytes hn).1 _ hc) (by decide)
 rw [e, splitBs_app (c := 32) (r := []) rfl h1, splitBs_app (c := 32) (r := []) rfl h2, splitBs_app (c := 32) (r := []) rfl h3, splitBs_free (c := 32) (r := []) rfl h4]
theorem objFirst_10 {p : ByteArray} {t n : Int} (hp : pathB p = true) (ht : 0 ≤ t ∧ t ≤ 1000000) (hn : 0 ≤ n ∧ n ≤ 1000000) : (10 : UInt8) ∉ objFirst p t n := fun hc => by
 unfold objFirst at hc
 rcases List.mem_append.1 hc with hc | hc
 ·exact absurd hc (by decide)
 ·rcases List.mem_cons.1 hc with hc | hc
  ·exact absurd hc (by decide)
  ·rcases List.mem_append.1 hc with hc | hc
   ·exact absurd ((path_bytes hp).1 _ hc).1 (by decide)
   ·rcases List.mem_cons.1 hc with hc | hc
    ·exact absurd hc (by decide)
    ·rcases List.mem_append.1 hc with hc | hc
     ·exact absurd ((num_bytes ht).1 _ hc) (by decide)
     ·rcases List.mem_cons.1 hc with hc | hc
      ·exact absurd hc (by decide)
      ·exact absurd ((num_bytes hn).1 _ hc) (by decide)
theorem objB_of {p : ByteArray} {ns vs : List ByteArray} {m : Int} {l : List S116} {b s : ByteArray} {t : Int} (h : objText p ns vs m l b t = s) (hz : 0 < s.size) : objB p ns vs m l b t = true := by
 unfold objText at h
 by_cases c : objB p ns vs m l b t = true
 ·exact c
 ·rw [if_neg c] at h
  rw [← h] at hz
  exact absurd hz (by decide)
theorem obj_head {p : ByteArray} {ns vs : List ByteArray} {m : Int} {l : List S116} {b s : ByteArray} {t : Int} (hq : objB p ns vs m l b t = true) (hr : objText p ns vs m l b t = s) : B s = objFirst p t (vs.length : Int) ++ (10 :: (valLines vs ++ B (respText m l b))) := by
 rw [← hr]
 unfold objText
 rw [if_pos hq, B_Tx, objBytes_first]
def GoodO (s : ByteArray) (r : ByteArray × List ByteArray × List ByteArray × Int × List S116 × ByteArray × Int × Bool) : Prop := r = rejO ∨ ∃ p vs m l b t, r = (p, varyF l, vs, m, l, b, t, true) ∧ objText p (varyF l) vs m l b t = s ∧ 0 < s.size
theorem smallO {s : ByteArray} {m : Int} {l : List S116} {b : ByteArray} {ok : Bool} (h1 : (m, l, b, ok) = rejR ∨ ∃ m' l' b', (m, l, b, ok) = (m', l', b', true) ∧ respText m' l' b' = s ∧ 0 < s.size ∧ l'.length ≤ 1048576) : SmallF 100 l := by
 rcases h1 with h1 | ⟨m', l', b', h1, hr, hz, _⟩
 ·injection h1 with _ h1
  injection h1 with h1 _
  rw [h1]
  exact ⟨Nat.zero_le _, fun x hx => by cases hx⟩
 ·injection h1 with _ h1
  injection h1 with h1 _
  rw [h1]
  exact fieldsB_SmallF (respB_facts (respB_of hr hz)).2.2
theorem spec_ObjRead_j2 {k : Nat} {s : ByteArray} (hs : s.size ≤ 1048576) (hz : 0 < s.size) (a : Int) (ha : a = -1 ∨ 1 ≤ a ∧ a ≤ s.size) (p : ByteArray) (vs : List ByteArray) (hp : p.size ≤ 1048576) (hv : SmallB 1048576 vs) (t : Int) (hk : 2199042130100 < k) :
  ∃ r, spec_ObjRead.j2 k s a p vs 0 ⟨#[]⟩ t = some r ∧ GoodO s r ∧ ∀ (n : Nat) m l b, a = n → (B s).drop n = B (respText m l b) → respB m l b = true → objText p (varyF l) vs m l b t = s → r = (p, varyF l, vs, m, l, b, t, true) := by
 obtain ⟨k, rfl⟩ := succ_of (show 0 < k by omega)
 simp only [spec_ObjRead.j2]
 by_cases c : a < 0
 ·rw [if_pos c]
  exact ⟨_, rfl, .inl rfl, fun n m l b h => by omega⟩
 ·obtain ⟨n, rfl⟩ : ∃ n : Nat, a = n := ⟨a.toNat, by omega⟩
  obtain ⟨r, e, h1, h2⟩ := spec_RespRead_f (k := k) (s := s.extract n s.size) (by rw [ByteArray.size_extract]; omega) (by omega)
  obtain ⟨m, l, b, ok⟩ := r
  have hl : SmallF 100 l := smallO h1
  have hn := varyF_small hl
  have hn' : SmallB 1048576 (varyF l) := ⟨by have := hn.1; omega, fun x hx => by have := hn.2 x hx; omega⟩
  have hl' : SmallF 1048576 l := ⟨by have := hl.1; omega, fun x hx => by have := hl.2 x hx; omega⟩
  rw [if_neg c, if_pos (by omega), if_pos (by omega), Int.toNat_natCast, e, Option.bind_some]
  dsimp only
  rw [spec_VaryOf_f (K := 100) (by omega) hl (by omega), Option.bind_some, spec_ObjText_f (K := 1048576) (by omega) hp hn' hv hl' (by omega), Option.bind_some]
  refine ⟨if objText p (varyF l) vs m l b t = s then (p, varyF l, vs, m, l, b, t, true) else rejO, ?_, ?_, fun n' m' l' b' hnn hd hq hr => ?_⟩
  ·by_cases c4 : objText p (varyF l) vs m l b t = s
   ·rw [if_pos ((toList_iff _ _).2 c4), if_pos c4]
   ·rw [if_neg (fun h => c4 (toList_inj h)), if_neg c4]; rfl
  ·by_cases c4 : objText p (varyF l) vs m l b t = s
   ·rw [if_pos c4]; exact .inr ⟨_, _, _, _, _, _, rfl, c4, hz⟩
   ·rw [if_neg c4]; exact .inl rfl
  ·have hnn' : n = n' := by omega
   subst hnn'
   have hx : s.extract n s.size = respText m' l' b' := by
    apply B_ext
    rw [B_extract, List.take_of_length_le (by rw [B_len]; omega)]; exact hd
   have h3 := h2 m' l' b' hq hx.symm
   injection h3 with a1 a2
   injection a2 with a2 a3
   injection a3 with a3 _
   subst a1; subst a2; subst a3
   rw [if_pos hr]
theorem spec_ObjRead_l0 (s : ByteArray) (hs : s.size ≤ 1048576) (hz : 0 < s.size) (p : ByteArray) (hp : p.size ≤ 1048576) (t N : Int) : ∀ (d k i : Nat) (a : Int) (acc : List ByteArray), i + d = 4 → acc.length = i → (∀ x ∈ acc, x.size ≤ 1048576) → (a = -1 ∨ 1 ≤ a ∧ a ≤ s.size) → 2199042130200 + d < k →
  ∃ r, spec_ObjRead.l0 k s a N i p acc 0 ⟨#[]⟩ t = some r ∧ GoodO s r ∧ ∀ (n : Nat) vs m l b, a = n → N = ((i + vs.length : Nat) : Int) → i + vs.length ≤ 4 → (B s).drop n = valLines vs ++ B (respText m l b) → (∀ v ∈ vs, (10 : UInt8) ∉ B v) → respB m l b = true → objText p (varyF l) (acc ++ vs) m l b t = s → r = (p, varyF l, acc ++ vs, m, l, b, t, true) := by
 intro d
 induction d with
 | zero =>
  intro k i a acc hd hi hx ha hk
  obtain ⟨k, rfl⟩ := succ_of (show 0 < k by omega)
  obtain ⟨r, e, g1, g2⟩ := spec_ObjRead_j2 (k := k) hs hz a ha p acc hp ⟨by omega, hx⟩ t (by omega)
  refine ⟨r, ?_, g1, fun n vs m l b h1 h2 h3 h4 _ h6 h7 => ?_⟩
  ·simp only [spec_ObjRead.l0]
   by_cases c : (i : Int) < N
   ·rw [if_pos c, if_neg (by omega)]; exact e
   ·rw [if_neg c]; exact e
  ·have hv : vs = [] := List.eq_nil_of_length_eq_zero (by omega)
   subst hv
   rw [List.append_nil] at h7 ⊢
   exact g2 n m l b h1 h4 h6 h7
 | succ d ih =>
  intro k i a acc hd hi hx ha hk
  obtain ⟨k, rfl⟩ := succ_of (show 0 < k by omega)
  by_cases c : (i : Int) < N
  ·by_cases c2 : a ≥ 0
   ·obtain ⟨n0, rfl⟩ : ∃ n : Nat, a = n := ⟨a.toNat, by omega⟩
    obtain ⟨v, a', e0, g1, g2, g3⟩ := spec_l10Line_f (k := k) (a := n0) hs (by omega) (by omega)
    obtain ⟨r, e, q1, q2⟩ := ih k (i + 1) a' (acc ++ [v]) (by omega) (by rw [List.length_append, List.length_singleton]; omega) (fun x hx' => by
     rcases List.mem_append.1 hx' with hx' | hx'
     ·exact hx x hx'
     ·rw [List.mem_singleton.1 hx']; omega) g2 (by omega)
    refine ⟨r, ?_, q1, fun n vs m l b h1 h2 h3 h4 h5 h6 h7 => ?_⟩
    ·simp only [spec_ObjRead.l0]
     rw [if_pos c, if_pos (by omega), if_pos c2, e0, Option.bind_some, if_pos (by omega), w64_n1 (show i ≤ 1048576 by omega)]
     exact e
    ·have hn : n0 = n := by omega
     subst hn
     cases vs with
     | nil => simp only [List.length_nil] at h2; omega
     | cons v0 vs =>
      have h4' : (B s).drop n0 = B v0 ++ (10 :: (valLines vs ++ B (respText m l b))) := by rw [h4]; simp [valLines]
      obtain ⟨w1, w2⟩ := g3 _ _ h4' (h5 v0 (by simp))
      rw [Tx_B] at w1
      subst w1
      have h8 : (B s).drop (n0 + (B v).length + 1) = valLines vs ++ B (respText m l b) := by
       rw [show n0 + (B v).length + 1 = n0 + ((B v).length + 1) by omega, ← List.drop_drop, h4', List.drop_append, List.drop_eq_nil_of_le (by omega), List.nil_append, Nat.add_sub_cancel_left]; rfl
      have h9 := q2 (n0 + (B v).length + 1) vs m l b w2 (by rw [h2, List.length_cons]; omega) (by rw [List.length_cons] at h3; omega) h8 (fun y hy => h5 y (by simp [hy])) h6 (by rw [List.append_assoc]; exact h7)
      rw [h9, List.append_assoc]; rfl
   ·obtain ⟨r, e, g1, g2⟩ := spec_ObjRead_j2 (k := k) hs hz a ha p acc hp ⟨by omega, hx⟩ t (by omega)
    refine ⟨r, ?_, g1, fun n vs m l b h1 h2 h3 h4 _ h6 h7 => by omega⟩
    simp only [spec_ObjRead.l0]
    rw [if_pos c, if_pos (by omega), if_neg c2]; exact e
  ·obtain ⟨r, e, g1, g2⟩ := spec_ObjRead_j2 (k := k) hs hz a ha p acc hp ⟨by omega, hx⟩ t (by omega)
   refine ⟨r, ?_, g1, fun n vs m l b h1 h2 h3 h4 _ h6 h7 => ?_⟩
   ·simp only [spec_ObjRead.l0]
    rw [if_neg c]; exact e
   ·have hv : vs = [] := List.eq_nil_of_length_eq_zero (by omega)
    subst hv
    rw [List.append_nil] at h7 ⊢
    exact g2 n m l b h1 h4 h6 h7
theorem spec_ObjRead_f {k : Nat} {s : ByteArray} (hs : s.size ≤ 1048576) (hk : 2199042130300 < k) : ∃ r, spec_ObjRead.f k s = some r ∧ GoodO s r ∧ ∀ p vs m l b t, objB p (varyF l) vs m l b t = true → objText p (varyF l) vs m l b t = s → r = (p, varyF l, vs, m, l, b, t, true) := by
 obtain ⟨v, a, e, g1, g2, g3⟩ := spec_l10Line_f (k := k) (a := 0) hs (by omega) (by omega)
 have hv := splitBs_small v.size v ⟨#[32]⟩ (Nat.le_refl _) (by show 1 ≤ 1; omega)
 have comp : ∀ p vs m l b t, objB p (varyF l) vs m l b t = true → objText p (varyF l) vs m l b t = s → splitBs v ⟨#[32]⟩ = [Tx [111, 98, 106], p, numT t, numT (vs.length : Int)] ∧ (∃ n : Nat, a = n ∧ (B s).drop n = valLines vs ++ B (respText m l b)) ∧ vs.length ≤ 4 ∧ (0 ≤ t ∧ t ≤ 1000000) ∧ respB m l b = true ∧ ∀ y ∈ vs, (10 : UInt8) ∉ B y := fun p vs m l b t hq hr => by
  obtain ⟨f1, f2, f3, f4, f5, f6, f7, f8⟩ := objB_facts hq
  have hh := obj_head hq hr
  have hn : 0 ≤ (vs.length : Int) ∧ (vs.length : Int) ≤ 1000000 := ⟨by omega, by omega⟩
  obtain ⟨w1, w2⟩ := g3 _ _ (by rw [List.drop_zero]; exact hh) (objFirst_10 f2 f3 hn)
  refine ⟨by rw [w1]; exact obj_words f2 f3 hn, ⟨_, w2, ?_⟩, by omega, f3, f1, fun y hy hc => ?_⟩
  ·rw [hh, show 0 + (objFirst p t (vs.length : Int)).length + 1 = (objFirst p t (vs.length : Int)).length + 1 by omega, List.drop_append, List.drop_eq_nil_of_le (by omega), List.nil_append, Nat.add_sub_cancel_left]; rfl
  ·exact absurd (val_bytes (f8 y hy) _ hc).1 (by decide)
 unfold spec_ObjRead.f
 rw [show spec_l10Line.f k s 0 = some (v, a) from e, Option.bind_some]
 dsimp only
 rw [spec_l3Words_f (by omega) (by omega), Option.bind_some]
 obtain ⟨k, rfl⟩ := succ_of (show 0 < k by omega)
 by_cases c : a < 0
 ·rw [if_pos c]
  simp only [spec_ObjRead.j0]
  rw [if_pos trivial]
  exact ⟨_, rfl, .inl rfl, fun p vs m l b t hq hr => by obtain ⟨_, ⟨n, h, _⟩, _⟩ := comp p vs m l b t hq hr; omega⟩
 ·rw [if_neg c]
  simp only [spec_ObjRead.j0]
  by_cases c3 : (splitBs v ⟨#[32]⟩).length = 4
  ·have r1 : rdOf ByteArray.empty (splitBs v ⟨#[32]⟩) 1 = (splitBs v ⟨#[32]⟩)[1] := rd_B _ 1 (by omega)
   have r2 : rdOf ByteArray.empty (splitBs v ⟨#[32]⟩) 2 = (splitBs v ⟨#[32]⟩)[2] := rd_B _ 2 (by omega)
   have r3 : rdOf ByteArray.empty (splitBs v ⟨#[32]⟩) 3 = (splitBs v ⟨#[32]⟩)[3] := rd_B _ 3 (by omega)
   have hp := hv _ (List.getElem_mem (show 1 < (splitBs v ⟨#[32]⟩).length by omega))
   obtain ⟨r, er, q1, q2⟩ := spec_ObjRead_l0 s hs (by omega) (splitBs v ⟨#[32]⟩)[1] (by omega) (numRead (splitBs v ⟨#[32]⟩)[2]).1 (numRead (splitBs v ⟨#[32]⟩)[3]).1 4 k 0 a [] (by omega) rfl (fun x hx => by cases hx) g2 (by omega)
   rw [if_neg (by simp [c3]), if_pos (by omega), r2, spec_NumRead_f (by omega), Option.bind_some, if_pos (by omega), r3, spec_NumRead_f (by omega), Option.bind_some, if_pos (by omega), r1]
   refine ⟨r, er, q1, fun p vs m l b t hq hr => ?_⟩
   obtain ⟨w, ⟨n, h1, h2⟩, h3, h4, h5, h6⟩ := comp p vs m l b t hq hr
   have w1 : (splitBs v ⟨#[32]⟩)[1] = p := by simp only [w]; rfl
   have w2 : (splitBs v ⟨#[32]⟩)[2] = numT t := by simp only [w]; rfl
   have w3 : (splitBs v ⟨#[32]⟩)[3] = numT (vs.length : Int) := by simp only [w]; rfl
   rw [w1, w2, w3, numRead_numT h4, numRead_numT ⟨by omega, by omega⟩] at q2
   have := q2 n vs m l b h1 (by dsimp only; omega) (by omega) h2 h6 h5 (by rw [List.nil_append]; exact hr)
   rw [this, List.nil_append]
  ·rw [if_pos (by simpa using fun h => c3 (by omega))]
   refine ⟨_, rfl, .inl rfl, fun p vs m l b t hq hr => ?_⟩
   rw [(comp p vs m l b t hq hr).1] at c3
   exact absurd rfl c3
theorem impl_ObjRead_tail {k : Nat} {s : ByteArray} (hz : 0 < s.size) (u : ByteArray) (hu : u.size ≤ 1048576) (p : ByteArray) (acc : List ByteArray) (hp : p.size ≤ 1048576) (hv : SmallB 1048576 acc) (t : Int) (hk : 9300000 < k) :
  ∃ r, ((impl_RespRead.f k u).bind fun x => ((impl_VaryOf.f k x.2.1).bind fun y => (if x.2.2.2 = true then ((impl_ObjText.f k p y acc x.1 x.2.1 x.2.2.1 t).bind fun z => (if z.toList = s.toList then (some (p, y, acc, x.1, x.2.1, x.2.2.1, t, true)) else (some rejO))) else (some rejO)))) = some r ∧ GoodO s r ∧ ∀ m l b, B u = B (respText m l b) → respB m l b = true → objText p (varyF l) acc m l b t = s → r = (p, varyF l, acc, m, l, b, t, true) := by
 obtain ⟨r, e, h1, h2⟩ := impl_RespRead_f (k := k) (s := u) hu (by omega)
 obtain ⟨m, l, b, ok⟩ := r
 have hl : SmallF 100 l := smallO h1
 have hn := varyF_small hl
 have hn' : SmallB 1048576 (varyF l) := ⟨by have := hn.1; omega, fun x hx => by have := hn.2 x hx; omega⟩
 have hl' : SmallF 1048576 l := ⟨by have := hl.1; omega, fun x hx => by have := hl.2 x hx; omega⟩
 have same : ∀ m' l' b', B u = B (respText m' l' b') → respB m' l' b' = true → m = m' ∧ l = l' ∧ b = b' ∧ ok = true := fun m' l' b' hd hq => by
  have h3 := h2 m' l' b' hq (B_ext hd).symm
  injection h3 with a1 a2
  injection a2 with a2 a3
  injection a3 with a3 a4
  exact ⟨a1, a2, a3, a4⟩
 rw [e, Option.bind_some]
 dsimp only
 rw [impl_VaryOf_f (K := 100) (by omega) hl (by omega), Option.bind_some]
 cases ok with
 | false =>
  rw [if_neg (by simp)]
  exact ⟨_, rfl, .inl rfl, fun m' l' b' hd hq _ => by have := (same m' l' b' hd hq).2.2.2; cases this⟩
 | true =>
  rw [if_pos rfl, impl_ObjText_f (K := 1048576) (by omega) hp hn' hv hl' (by omega), Option.bind_some]
  refine ⟨if objText p (varyF l) acc m l b t = s then (p, varyF l, acc, m, l, b, t, true) else rejO, ?_, ?_, fun m' l' b' hd hq hr => ?_⟩
  ·by_cases c4 : objText p (varyF l) acc m l b t = s
   ·rw [if_pos ((toList_iff _ _).2 c4), if_pos c4]
   ·rw [if_neg (fun h => c4 (toList_inj h)), if_neg c4]
  ·by_cases c4 : objText p (varyF l) acc m l b t = s
   ·rw [if_pos c4]; exact .inr ⟨_, _, _, _, _, _, rfl, c4, hz⟩
   ·rw [if_neg c4]; exact .inl rfl
  ·obtain ⟨a1, a2, a3, _⟩ := same m' l' b' hd hq
   subst a1; subst a2; subst a3
   rw [if_pos hr]
theorem impl_ObjRead_l0 (s : ByteArray) (hs : s.size ≤ 1048576) (hz : 0 < s.size) (p : ByteArray) (hp : p.size ≤ 1048576) (t : Int) : ∀ (d k i : Nat) (N : Int) (u : ByteArray) (acc : List ByteArray), i + d = 4 → N ≤ 4 → acc.length = i → (∀ x ∈ acc, x.size ≤ 1048576) → u.size ≤ 1048576 → 9300010 + d < k →
  ∃ r, impl_ObjRead.l0 k s u N i p acc 0 ⟨#[]⟩ t = some r ∧ GoodO s r ∧ ∀ vs m l b, N = ((i + vs.length : Nat) : Int) → B u = valLines vs ++ B (respText m l b) → (∀ v ∈ vs, (10 : UInt8) ∉ B v) → respB m l b = true → objText p (varyF l) (acc ++ vs) m l b t = s → r = (p, varyF l, acc ++ vs, m, l, b, t, true) := by
 intro d
 induction d with
 | zero =>
  intro k i N u acc hd hN hi hx hu hk
  obtain ⟨k, rfl⟩ := succ_of (show 0 < k by omega)
  obtain ⟨r, e, g1, g2⟩ := impl_ObjRead_tail (k := k) hz u hu p acc hp ⟨by omega, hx⟩ t (by omega)
  refine ⟨r, ?_, g1, fun vs m l b h2 h4 _ h6 h7 => ?_⟩
  ·simp only [impl_ObjRead.l0]
   rw [if_neg (by omega)]; exact e
  ·have hv : vs = [] := List.eq_nil_of_length_eq_zero (by omega)
   subst hv
   rw [List.append_nil] at h7 ⊢
   exact g2 m l b h4 h6 h7
 | succ d ih =>
  intro k i N u acc hd hN hi hx hu hk
  obtain ⟨k, rfl⟩ := succ_of (show 0 < k by omega)
  by_cases c : (i : Int) < N
  ·have hc := cut_len (B u) [10]
   rw [B_len] at hc
   obtain ⟨r, e, q1, q2⟩ := ih k (i + 1) N (Tx (Lib.cut (B u) [10]).2.1) (acc ++ [Tx (Lib.cut (B u) [10]).1]) (by omega) hN (by rw [List.length_append, List.length_singleton]; omega) (fun x hx' => by
    rcases List.mem_append.1 hx' with hx' | hx'
    ·exact hx x hx'
    ·rw [List.mem_singleton.1 hx', Tx_size]; omega) (by rw [Tx_size]; omega) (by omega)
   refine ⟨r, ?_, q1, fun vs m l b h2 h4 h5 h6 h7 => ?_⟩
   ·simp only [impl_ObjRead.l0]
    rw [if_pos c, strings_Cut_f hu, Option.bind_some, if_pos (by omega), w64_n1 (show i ≤ 1048576 by omega)]
    exact e
   ·cases vs with
    | nil => simp only [List.length_nil] at h2; omega
    | cons v0 vs =>
     have h4' : B u = B v0 ++ (10 :: (valLines vs ++ B (respText m l b))) := by rw [h4]; simp [valLines]
     have hcc := cut10 (rest := valLines vs ++ B (respText m l b)) (h5 v0 (by simp))
     rw [← h4'] at hcc
     have w1 : Tx (Lib.cut (B u) [10]).1 = v0 := by rw [hcc]; exact Tx_B v0
     have w2 : B (Tx (Lib.cut (B u) [10]).2.1) = valLines vs ++ B (respText m l b) := by rw [hcc, B_Tx]
     have h9 := q2 vs m l b (by rw [h2, List.length_cons]; omega) w2 (fun y hy => h5 y (by simp [hy])) h6 (by rw [w1, List.append_assoc]; exact h7)
     rw [h9, w1, List.append_assoc]; rfl
  ·obtain ⟨r, e, g1, g2⟩ := impl_ObjRead_tail (k := k) hz u hu p acc hp ⟨by omega, hx⟩ t (by omega)
   refine ⟨r, ?_, g1, fun vs m l b h2 h4 _ h6 h7 => ?_⟩
   ·simp only [impl_ObjRead.l0]
    rw [if_neg c]; exact e
   ·have hv : vs = [] := List.eq_nil_of_length_eq_zero (by omega)
    subst hv
    rw [List.append_nil] at h7 ⊢
    exact g2 m l b h4 h6 h7
theorem impl_ObjRead_f {k : Nat} {s : ByteArray} (hs : s.size ≤ 1048576) (hk : 9400000 < k) : ∃ r, impl_ObjRead.f k s = some r ∧ GoodO s r ∧ ∀ p vs m l b t, objB p (varyF l) vs m l b t = true → objText p (varyF l) vs m l b t = s → r = (p, varyF l, vs, m, l, b, t, true) := by
 obtain ⟨v, hv0⟩ : ∃ v, v = Tx (Lib.cut (B s) [10]).1 := ⟨_, rfl⟩
 obtain ⟨u, hu0⟩ : ∃ u, u = Tx (Lib.cut (B s) [10]).2.1 := ⟨_, rfl⟩
 have hc := cut_len (B s) [10]
 rw [B_len] at hc
 have hvs : v.size ≤ s.size := by rw [hv0, Tx_size]; omega
 have hus : u.size ≤ 1048576 := by rw [hu0, Tx_size]; omega
 have hv := splitBs_small v.size v ⟨#[32]⟩ (Nat.le_refl _) (by show 1 ≤ 1; omega)
 have comp : ∀ p vs m l b t, objB p (varyF l) vs m l b t = true → objText p (varyF l) vs m l b t = s → splitBs v ⟨#[32]⟩ = [Tx [111, 98, 106], p, numT t, numT (vs.length : Int)] ∧ B u = valLines vs ++ B (respText m l b) ∧ vs.length ≤ 4 ∧ (0 ≤ t ∧ t ≤ 1000000) ∧ respB m l b = true ∧ ∀ y ∈ vs, (10 : UInt8) ∉ B y := fun p vs m l b t hq hr => by
  obtain ⟨f1, f2, f3, f4, f5, f6, f7, f8⟩ := objB_facts hq
  have hh := obj_head hq hr
  have hn : 0 ≤ (vs.length : Int) ∧ (vs.length : Int) ≤ 1000000 := ⟨by omega, by omega⟩
  have hcc := cut10 (rest := valLines vs ++ B (respText m l b)) (objFirst_10 f2 f3 hn)
  rw [← hh] at hcc
  refine ⟨by rw [hv0, hcc]; exact obj_words f2 f3 hn, by rw [hu0, hcc, B_Tx], by omega, f3, f1, fun y hy hc => ?_⟩
  exact absurd (val_bytes (f8 y hy) _ hc).1 (by decide)
 unfold impl_ObjRead.f
 rw [strings_Cut_f hs, Option.bind_some]
 dsimp only
 rw [show B ⟨#[10]⟩ = [10] from rfl, ← hv0, ← hu0]
 unfold strings_Split.f
 rw [if_pos ⟨by omega, by show 1 ≤ 1; omega⟩, Option.bind_some]
 by_cases c3 : (splitBs v ⟨#[32]⟩).length = 4
 ·have hz : 0 < s.size := by
   rcases Nat.eq_zero_or_pos v.size with h0 | h0
   ·exfalso
    have : v = ⟨#[]⟩ := B_ext (List.eq_nil_of_length_eq_zero (by rw [B_len]; exact h0))
    rw [this] at c3
    exact absurd c3 (by decide)
   ·omega
  have r1 : rdOf ByteArray.empty (splitBs v ⟨#[32]⟩) 1 = (splitBs v ⟨#[32]⟩)[1] := rd_B _ 1 (by omega)
  have r2 : rdOf ByteArray.empty (splitBs v ⟨#[32]⟩) 2 = (splitBs v ⟨#[32]⟩)[2] := rd_B _ 2 (by omega)
  have r3 : rdOf ByteArray.empty (splitBs v ⟨#[32]⟩) 3 = (splitBs v ⟨#[32]⟩)[3] := rd_B _ 3 (by omega)
  have hp := hv _ (List.getElem_mem (show 1 < (splitBs v ⟨#[32]⟩).length by omega))
  obtain ⟨T, ok1, hT⟩ : ∃ T ok1, numRead (splitBs v ⟨#[32]⟩)[2] = (T, ok1) := ⟨_, _, rfl⟩
  obtain ⟨M, ok2, hM⟩ : ∃ M ok2, numRead (splitBs v ⟨#[32]⟩)[3] = (M, ok2) := ⟨_, _, rfl⟩
  have comp2 : ∀ p vs m l b t, objB p (varyF l) vs m l b t = true → objText p (varyF l) vs m l b t = s → (splitBs v ⟨#[32]⟩)[1] = p ∧ T = t ∧ ok1 = true ∧ M = (vs.length : Int) ∧ ok2 = true ∧ vs.length ≤ 4 := fun p vs m l b t hq hr => by
   obtain ⟨w, h2, h3, h4, h5, h6⟩ := comp p vs m l b t hq hr
   have w1 : (splitBs v ⟨#[32]⟩)[1] = p := by simp only [w]; rfl
   have w2 : (splitBs v ⟨#[32]⟩)[2] = numT t := by simp only [w]; rfl
   have w3 : (splitBs v ⟨#[32]⟩)[3] = numT (vs.length : Int) := by simp only [w]; rfl
   rw [w2, numRead_numT h4] at hT
   rw [w3, numRead_numT ⟨by omega, by omega⟩] at hM
   injection hT with a1 a2
   injection hM with b1 b2
   exact ⟨w1, a1.symm, a2.symm, b1.symm, b2.symm, h3⟩
  have rej : ∀ k' : Nat, 0 < k' → impl_ObjRead.j0 k' s u (splitBs v ⟨#[32]⟩) T M true = some rejO := fun k' hk' => by
   obtain ⟨k', rfl⟩ := succ_of hk'
   simp only [impl_ObjRead.j0]
   rw [if_pos trivial]; rfl
  rw [if_pos (by omega), if_pos (by omega), r2, impl_NumRead_f, Option.bind_some, if_pos (by omega), r3, impl_NumRead_f, Option.bind_some, hT, hM]
  dsimp only
  cases ok1 with
  | false =>
   rw [if_neg (by simp), rej k (by omega)]
   exact ⟨_, rfl, .inl rfl, fun p vs m l b t hq hr => by have := (comp2 p vs m l b t hq hr).2.2.1; cases this⟩
  | true =>
   rw [if_pos rfl]
   cases ok2 with
   | false =>
    rw [if_neg (by simp), rej k (by omega)]
    exact ⟨_, rfl, .inl rfl, fun p vs m l b t hq hr => by have := (comp2 p vs m l b t hq hr).2.2.2.2.1; cases this⟩
   | true =>
    rw [if_pos rfl]
    by_cases c4 : M > 4
    ·rw [decide_eq_true c4, rej k (by omega)]
     exact ⟨_, rfl, .inl rfl, fun p vs m l b t hq hr => by obtain ⟨_, _, _, h1, _, h2⟩ := comp2 p vs m l b t hq hr; omega⟩
    ·rw [decide_eq_false c4]
     obtain ⟨k, rfl⟩ := succ_of (show 0 < k by omega)
     simp only [impl_ObjRead.j0]
     obtain ⟨r, er, q1, q2⟩ := impl_ObjRead_l0 s hs hz (splitBs v ⟨#[32]⟩)[1] (by omega) T 4 k 0 M u [] (by omega) (by omega) rfl (fun x hx => by cases hx) hus (by omega)
     rw [if_neg (by simp), if_pos (by omega), r1]
     refine ⟨r, er, q1, fun p vs m l b t hq hr => ?_⟩
     obtain ⟨w1, w2, _, w3, _, _⟩ := comp2 p vs m l b t hq hr
     obtain ⟨_, h2, _, _, h5, h6⟩ := comp p vs m l b t hq hr
     rw [w1, w2] at q2
     have := q2 vs m l b (by omega) h2 h6 h5 (by rw [List.nil_append]; exact hr)
     rw [this, List.nil_append]
 ·rw [if_neg (by omega)]
  refine ⟨_, rfl, .inl rfl, fun p vs m l b t hq hr => ?_⟩
  rw [(comp p vs m l b t hq hr).1] at c3
  exact absurd rfl c3
theorem ObjRead_same {k1 k2 : Nat} {s : ByteArray} (hs : s.size ≤ 1048576) (h1 : 2199042130300 < k1) (h2 : 9400000 < k2) : ∃ r, spec_ObjRead.f k1 s = some r ∧ impl_ObjRead.f k2 s = some r ∧ GoodO s r ∧ ∀ p vs m l b t, objB p (varyF l) vs m l b t = true → objText p (varyF l) vs m l b t = s → r = (p, varyF l, vs, m, l, b, t, true) := by
 obtain ⟨r, e, a1, a2⟩ := spec_ObjRead_f hs h1
 obtain ⟨r', e', b1, b2⟩ := impl_ObjRead_f hs h2
 have heq : r' = r := by
  rcases b1 with b1 | ⟨p, vs, m, l, b, t, b1, hr, hz⟩
  ·rcases a1 with a1 | ⟨p, vs, m, l, b, t, a1, hr, hz⟩
   ·rw [a1, b1]
   ·rw [a1]; exact b2 p vs m l b t (objB_of hr hz) hr
  ·rw [b1]; exact (a2 p vs m l b t (objB_of hr hz) hr).symm
 exact ⟨r, e, by rw [← heq]; exact e', a1, a2⟩
end Go.Proofs.YtjlpjbkpmmpojaaGreatDoor.Pure
namespace Go.Proofs.YtjlpjbkpmmpojaaGreatDoor.Pure
open Go.RowKit Go.Proofs.YtjlpjbkpmmpojaaGreatDoor.All Go.Proofs.YtjlpjbkpmmpojaaGreatDoorW.PrintWords Go.Proofs.YtjlpjbkpmmpojaaGreatDoorW.PrintLast
theorem spec_l3Dent_f (l : List Int) (i h : Int) (s : ByteArray) (ts : List ByteArray) (h0 : 0 ≤ i) (hl : (l.length : Int) ≤ 4611686018427387904) (hi : i ≤ l.length) (hs : s.size ≤ 1000000) (hts : 0 < ts.length) (hb : ∀ t ∈ ts, t.size ≤ 20) : ∃ t i' h', spec_l3Dent.f l i h s ts = some (t, i', h') ∧ t.size ≤ s.size + 20 := by
 unfold spec_l3Dent.f
 rw [w64 (by omega)]
 obtain ⟨v, i1, h1, e1, a1, a2, _, a4, a5⟩ := spec_l1Below_f l i h ((s.size : Int) + 1) h0 hl hi
 rw [e1, Option.bind_some]
 dsimp only
 obtain ⟨u, i2, h2, e2, _, _, _, b4, b5⟩ := spec_l1Below_f l i1 h1 5 a4 hl a5
 rw [e2, Option.bind_some]
 dsimp only
 have hv := a2 (by omega)
 split
 ·rw [if_pos (by omega)]
  exact ⟨_, _, _, rfl, by rw [ByteArray.size_extract]; omega⟩
 ·split
  ·rw [if_pos (by omega)]
   obtain ⟨t, i3, h3, e3, ht, c1, c2⟩ := spec_l1Pick_f l i2 h2 ts b4 hl b5 hts
   have := hb t ht
   rw [e3, Option.bind_some]
   dsimp only
   rw [if_pos (by rw [ByteArray.size_extract]; omega), if_pos (by simp only [ByteArray.size_append, ByteArray.size_extract]; omega)]
   exact ⟨_, _, _, rfl, by simp only [ByteArray.size_append, ByteArray.size_extract]; omega⟩
  ·exact ⟨_, _, _, rfl, by omega⟩
theorem laws_sameTexts_l0 (l : List ByteArray) (hl : l.length ≤ 4398046511104) : ∀ (d k i : Nat), l.length = i + d → d < k → laws_sameTexts.l0 k l l i = some true := by
 intro d
 induction d with
 | zero =>
  intro k i hd hk
  obtain ⟨k, rfl⟩ := succ_of hk
  simp only [laws_sameTexts.l0]
  rw [if_neg (by omega)]
 | succ d ih =>
  intro k i hd hk
  obtain ⟨k, rfl⟩ := succ_of hk
  simp only [laws_sameTexts.l0]
  rw [if_pos (by omega), if_pos (by omega), if_pos (by omega), if_pos trivial, nat_round (n := l.length) (by omega) (by omega)]
  exact ih k (i + 1) (by omega) (by omega)
theorem laws_sameTexts_f {k : Nat} {l : List ByteArray} (hl : l.length ≤ 4398046511104) (hk : l.length < k) : laws_sameTexts.f k l l = some true := by
 unfold laws_sameTexts.f
 rw [if_pos rfl]
 exact laws_sameTexts_l0 l hl l.length k 0 (by omega) hk
theorem spec_DrawObjText_f {k : Nat} {l : List Int} (hl : (l.length : Int) ≤ 4611686018427387904) (hk : l.length + 9400010 < k) : ∃ p ns vs m fs b t, spec_DrawObjText.f k l = some (p, ns, vs, m, fs, b, t) ∧ SmallO 61 p ns vs fs := by
 unfold spec_DrawObjText.f
 obtain ⟨h, e⟩ := spec_l1New_f (k := k) hl (by omega)
 rw [e, Option.bind_some]
 dsimp only
 obtain ⟨p, ns, vs, m, fs, b, t, i2, h2, e2, hs, _⟩ := spec_l10Draw_f (k := k) (i := 0) (h := h) hl (by omega) (by omega) (by omega)
 rw [e2, Option.bind_some]
 exact ⟨_, _, _, _, _, _, _, rfl, hs⟩
theorem valLines_len : ∀ {l : List ByteArray}, (∀ v ∈ l, v.size ≤ 60) → (valLines l).length ≤ 61 * l.length
 | [], _ => Nat.zero_le _
 | v :: r, h => by
  have h1 := h v (by simp)
  have h2 := valLines_len (l := r) (fun x hx => h x (by simp [hx]))
  simp only [valLines, List.length_append, List.length_cons, B_len]
  omega
theorem objText_size (p : ByteArray) (ns vs : List ByteArray) (m : Int) (l : List S116) (b : ByteArray) (t : Int) : (objText p ns vs m l b t).size ≤ 3000 := by
 unfold objText
 split
 ·rename_i h
  obtain ⟨h1, h2, h3, h4, h5, h6, _, h7⟩ := objB_facts h
  have n1 := numT_size t
  have n2 := numT_size (vs.length : Int)
  have n4 := path_size h2
  have n5 := respText_size m l b
  have n6 := valLines_len (fun v hv => (val_size (h7 v hv)).2)
  rw [Tx_size]
  unfold objBytes
  simp only [List.length_append, List.length_cons, B_len, List.length_nil]
  omega
 ·exact Nat.zero_le _
theorem spec_DrawObjRead_f {k : Nat} {l : List Int} (hl : (l.length : Int) ≤ 4611686018427387904) (hk : l.length + 9400010 < k) : ∃ t, spec_DrawObjRead.f k l = some t ∧ t.size ≤ 3020 := by
 unfold spec_DrawObjRead.f
 obtain ⟨h, e⟩ := spec_l1New_f (k := k) hl (by omega)
 rw [e, Option.bind_some]
 dsimp only
 obtain ⟨v, c1, h1, e1, _, _, _, c10, c11⟩ := spec_l1Below_f l 0 h 30 (by omega) hl (by omega)
 rw [e1, Option.bind_some]
 dsimp only
 obtain ⟨p, ns, vs, m, fs, b, t, c2, h2, e2, ⟨s1, s2, s3, s4⟩, c20, c21⟩ := spec_l10DrawRight_f (k := k) (h := h1) (t := v) hl c10 c11 (by omega)
 rw [e2, Option.bind_some]
 dsimp only
 rw [spec_ObjText_f (K := 60) (by omega) s1 s2 s3 s4 (by omega), Option.bind_some]
 have hz := objText_size p ns vs m fs b t
 obtain ⟨u, i3, h3, e3, hu⟩ := spec_l3Dent_f l c2 h2 (objText p ns vs m fs b t) [(⟨#[32]⟩ : ByteArray), (⟨#[10]⟩ : ByteArray), (⟨#[48]⟩ : ByteArray), (⟨#[120]⟩ : ByteArray), (⟨#[49]⟩ : ByteArray)] c20 hl c21 (by omega) (by decide) (by decide)
 rw [e3, Option.bind_some]
 exact ⟨_, rfl, by dsimp only; omega⟩
theorem objText_ne (p : ByteArray) (ns vs : List ByteArray) (m : Int) (l : List S116) (b : ByteArray) (t : Int) : ((objText p ns vs m l b t).toList != ([] : List UInt8)) = objB p ns vs m l b t := by
 unfold objText
 by_cases h : objB p ns vs m l b t = true
 ·rw [if_pos h, h, toList_B, B_Tx]
  unfold objBytes
  simp
 ·rw [if_neg h]
  rw [Bool.not_eq_true] at h
  rw [h, toList_B]; rfl
end Go.Proofs.YtjlpjbkpmmpojaaGreatDoor.Pure
