/- What the printed functions answer, in plain words: lemmas of this session. No condition of a statement lies here. -/
import Derived.Test.YtogdmlgbdbgpkaaDoorAllx0
import Derived.Test.YtogdmlgbdbgpkaaDoorAllx12
import Derived.Test.YtogdmlgbdbgpkaaDoorAllx13
import Derived.Test.YtogdmlgbdbgpkaaDoorAllx15
import Derived.Test.YtogdmlgbdbgpkaaDoorAllx27
import Derived.Test.YtogdmlgbdbgpkaaDoorQh5b1878b7
import Derived.Test.YtogdmlgbdbgpkaaDoorQhf76dce6b
namespace Go.Proofs.YtogdmlgbdbgpkaaDoor.Pure
open Go.RowKit Go.Proofs.YtogdmlgbdbgpkaaDoor.All Go.Proofs.YtogdmlgbdbgpkaaDoorW.PrintWords Go.Proofs.YtogdmlgbdbgpkaaDoorW.PrintLast
set_option linter.unusedVariables false
set_option linter.unusedSimpArgs false

/-! ### fields: what comes in, its size -/
def toF (x : S118) : S78 := ⟨x.f0, x.f1⟩
def szF (x : S118) : Int := x.f0.size + x.f1.size
theorem szF_nonneg (x : S118) : 0 ≤ szF x := by unfold szF; omega
def szFS : List S118 → Int
  | [] => 0
  | x :: r => szF x + szFS r
theorem szFS_nil : szFS [] = 0 := rfl
theorem szFS_cons (x : S118) (r : List S118) : szFS (x :: r) = szF x + szFS r := rfl
theorem szFS_nonneg : ∀ l, 0 ≤ szFS l
  | [] => by simp [szFS]
  | x :: r => by have := szF_nonneg x; have := szFS_nonneg r; simp only [szFS]; omega
def FitsF (x : S118) : Prop := x.f0.size ≤ maxLen ∧ x.f1.size ≤ maxLen
theorem laws_szField_f {x : S118} {n : Int} (h : x.f0.size ≤ maxLen ∧ x.f1.size ≤ maxLen) (h0 : 0 ≤ n) (h1 : n ≤ 1048576) : laws_szField.f x.f0 x.f1 n = some (if n < szF x then -1 else n - szF x) := by
  unfold maxLen at h
  unfold laws_szField.f szF
  rw [w64 (by omega)]
  split
  · rw [if_pos (by omega)]
  · rw [w64 (by omega)]
    split
    · rw [if_pos (by omega)]
    · rw [if_neg (by omega)]; congr 1; omega
theorem laws_szFieldS_l0 (l : List S118) (hl : l.length ≤ 1048576) (hf : ∀ x ∈ l, x.f0.size ≤ maxLen ∧ x.f1.size ≤ maxLen) : ∀ (d k i : Nat) (n : Int), l.length - i = d → i ≤ l.length → 0 ≤ n → n ≤ 1048576 → d < k →
    laws_szFieldS.l0 k l n i = some (if n < szFS (l.drop i) then -1 else n - szFS (l.drop i)) := by
  intro d
  induction d with
  | zero =>
    intro k i n hd hi h0 h1 hk
    obtain ⟨k, rfl⟩ := succ_of hk
    simp only [laws_szFieldS.l0]
    rw [if_neg (by omega), List.drop_eq_nil_of_le (by omega), szFS_nil, if_neg (by omega)]; simp
  | succ d ih =>
    intro k i n hd hi h0 h1 hk
    obtain ⟨k, rfl⟩ := succ_of hk
    have hlt : i < l.length := by omega
    have hx : rd_T118 l (i : Int) = l[i] := by simp [rd_T118, List.getD, hlt]
    have hn := szF_nonneg l[i]
    have hr := szFS_nonneg (l.drop (i + 1))
    simp only [laws_szFieldS.l0]
    rw [if_pos (by omega), if_pos (by omega), hx, laws_szField_f (hf _ (List.getElem_mem hlt)) h0 h1, Option.bind_some, nat_round (n := l.length) hlt (by omega), drop_at hlt, szFS_cons]
    by_cases c : n < szF l[i]
    · rw [if_pos c, if_pos (by omega), if_pos (by omega)]
    · rw [if_neg c, if_neg (by omega), ih k (i + 1) _ (by omega) (by omega) (by omega) (by omega) (by omega)]
      by_cases c2 : n - szF l[i] < szFS (l.drop (i + 1))
      · rw [if_pos c2, if_pos (by omega)]
      · rw [if_neg c2, if_neg (by omega)]; congr 1; omega
/-- how much is left of n behind a list of fields -/
def leftFS (n : Int) (l : List S118) : Int := if n < (l.length : Int) + szFS l then -1 else n - (l.length : Int) - szFS l
theorem laws_szFieldS_f {k : Nat} {l : List S118} {n : Int} (hl : l.length ≤ maxLen ∧ ∀ x ∈ l, x.f0.size ≤ maxLen ∧ x.f1.size ≤ maxLen) (h0 : 0 ≤ n) (h1 : n ≤ 1048576) (hk : 1048577 < k) : laws_szFieldS.f k l n = some (leftFS n l) := by
  obtain ⟨h2, h3⟩ := hl
  unfold maxLen at h2
  have hr := szFS_nonneg l
  unfold laws_szFieldS.f leftFS
  rw [w64 (by omega)]
  split
  · rw [if_pos (by omega)]
  · have := laws_szFieldS_l0 l (by omega) h3 l.length k 0 (n - l.length) (by omega) (by omega) (by omega) (by omega) (by omega)
    rw [show ((0 : Nat) : Int) = 0 from rfl, List.drop_zero] at this
    rw [this]
    by_cases c : n - (l.length : Int) < szFS l
    · rw [if_pos c, if_pos (by omega)]
    · rw [if_neg c, if_neg (by omega)]
theorem szFS_mem : ∀ {l : List S118} {x}, x ∈ l → szF x ≤ szFS l
  | y :: r, x, h => by
    simp only [szFS]
    have := szFS_nonneg r
    have := szF_nonneg y
    rcases List.mem_cons.1 h with rfl | h
    · omega
    · have := szFS_mem h; omega
theorem leftFS_nonneg {n : Int} {l : List S118} (h : ¬ leftFS n l < 0) (hn : n ≤ 1048576) : 0 ≤ leftFS n l ∧ leftFS n l ≤ 1048576 ∧ l.length ≤ 1048576 ∧ ∀ x ∈ l, x.f0.size ≤ 1048576 ∧ x.f1.size ≤ 1048576 := by
  have hr := szFS_nonneg l
  unfold leftFS at h ⊢
  split at h
  · omega
  · rename_i c
    rw [if_neg c]
    refine ⟨by omega, by omega, by omega, fun x hx => ?_⟩
    have h1 := szFS_mem hx
    unfold szF at h1
    omega
theorem laws_toFieldS_l0 (l : List S118) (hl : l.length ≤ 1048576) : ∀ (d k i : Nat) (pre rest : List S78), l.length - i = d → i ≤ l.length → pre.length = i → rest.length = d → d < k →
    laws_toFieldS.l0 k l (pre ++ rest) i = some (pre ++ (l.drop i).map toF) := by
  intro d
  induction d with
  | zero =>
    intro k i pre rest hd hi hp hr hk
    obtain ⟨k, rfl⟩ := succ_of hk
    simp only [laws_toFieldS.l0]
    rw [if_neg (by omega), List.drop_eq_nil_of_le (by omega), List.eq_nil_of_length_eq_zero hr]; simp
  | succ d ih =>
    intro k i pre rest hd hi hp hr hk
    obtain ⟨k, rfl⟩ := succ_of hk
    have hlt : i < l.length := by omega
    have hx : rd_T118 l (i : Int) = l[i] := by simp [rd_T118, List.getD, hlt]
    obtain ⟨y, rest, rfl⟩ : ∃ y r, rest = y :: r := by cases rest with | nil => simp at hr | cons y r => exact ⟨y, r, rfl⟩
    simp only [laws_toFieldS.l0]
    rw [if_pos (by omega), if_pos (by omega), hx]
    simp only [laws_toField.f, Option.bind_some]
    rw [if_pos (by simp only [List.length_append, List.length_cons]; omega), nat_round (n := l.length) hlt (by omega), Int.toNat_natCast, List.set_append_right _ _ (by omega), hp, Nat.sub_self, List.set_cons_zero, drop_at hlt]
    have := ih k (i + 1) (pre ++ [toF l[i]]) rest (by omega) (by omega) (by simp [hp]) (by simpa using hr) (by omega)
    rw [List.append_assoc, List.append_assoc] at this
    rw [List.map_cons]
    exact this
theorem laws_toFieldS_f {k : Nat} {l : List S118} (hl : l.length ≤ 1048576) (hk : l.length < k) : laws_toFieldS.f k l = some (l.map toF) := by
  unfold laws_toFieldS.f
  rw [if_pos (by omega), Int.toNat_natCast, if_pos (by omega)]
  have := laws_toFieldS_l0 l hl l.length k 0 [] (List.replicate l.length z78) (by omega) (by omega) rfl (by simp) hk
  simpa using this
theorem laws_eqFieldS_l0 (l : List S78) (hl : l.length ≤ 4398046511104) : ∀ (d k i : Nat), l.length - i = d → i ≤ l.length → d < k → laws_eqFieldS.l0 k l l i = some true := by
  intro d
  induction d with
  | zero =>
    intro k i hd hi hk
    obtain ⟨k, rfl⟩ := succ_of hk
    simp only [laws_eqFieldS.l0]
    rw [if_neg (by omega)]
  | succ d ih =>
    intro k i hd hi hk
    obtain ⟨k, rfl⟩ := succ_of hk
    simp only [laws_eqFieldS.l0]
    rw [if_pos (by omega), if_pos (by omega)]
    simp only [laws_eqField.f, if_true, Option.bind_some]
    try rw [if_pos (by omega)]
    rw [nat_round (n := l.length) (by omega) (by omega)]
    exact ih k (i + 1) (by omega) (by omega) (by omega)
theorem laws_eqFieldS_f {k : Nat} {l : List S78} (hl : l.length ≤ 4398046511104) (hk : l.length < k) : laws_eqFieldS.f k l l = some true := by
  unfold laws_eqFieldS.f
  rw [if_pos rfl]
  exact laws_eqFieldS_l0 l hl l.length k 0 (by omega) (by omega) hk
/-! ### the first field of a name -/
def getF (n : ByteArray) : List S78 → Option ByteArray
  | [] => none
  | x :: r => if x.f0 = n then some x.f1 else getF n r
def putF (n v : ByteArray) : List S78 → List S78
  | [] => [⟨n, v⟩]
  | x :: r => if x.f0 = n then ⟨x.f0, v⟩ :: r else x :: putF n v r
def dropF (n : ByteArray) : List S78 → List S78
  | [] => []
  | x :: r => if x.f0 = n then r else x :: dropF n r
theorem at_cons (n : ByteArray) (x : S78) (r : List S78) (i : Nat) : at_ n (x :: r) i = if x.f0 = n then (i : Int) else at_ n r (i + 1) := by
  simp only [at_]
  by_cases h : x.f0 = n
  · rw [if_pos h, if_pos (by rw [h]; simp)]
  · rw [if_neg h, if_neg (by simpa using fun e => h (toList_inj e))]
/-- where it stands: nowhere, or at a place j -/
theorem at_cases (n v : ByteArray) : ∀ (l : List S78) (i : Nat), (at_ n l i = -1 ∧ getF n l = none ∧ putF n v l = l ++ [⟨n, v⟩] ∧ dropF n l = l) ∨
    ∃ j, ∃ h : j < l.length, at_ n l i = ((i + j : Nat) : Int) ∧ l[j].f0 = n ∧ getF n l = some l[j].f1 ∧ putF n v l = l.set j ⟨l[j].f0, v⟩ ∧ dropF n l = l.eraseIdx j
  | [], i => .inl ⟨rfl, rfl, rfl, rfl⟩
  | x :: r, i => by
    rw [at_cons]
    by_cases h : x.f0 = n
    · exact .inr ⟨0, by simp, by rw [if_pos h]; rfl, h, by simp [getF, h], by simp [putF, h], by simp [dropF, h]⟩
    · rw [if_neg h]
      rcases at_cases n v r (i + 1) with ⟨h1, h2, h3, h4⟩ | ⟨j, hj, h1, h0, h2, h3, h4⟩
      · exact .inl ⟨h1, by simp [getF, h, h2], by simp [putF, h, h3], by simp [dropF, h, h4]⟩
      · exact .inr ⟨j + 1, by simp; omega, by rw [h1]; congr 1; omega, by simpa using h0, by simp [getF, h, h2], by simp [putF, h, h3], by simp [dropF, h, h4]⟩
theorem at_range (n : ByteArray) (l : List S78) : -1 ≤ at_ n l 0 ∧ at_ n l 0 < l.length := by
  rcases at_cases n n l 0 with ⟨h, _⟩ | ⟨j, hj, h, _⟩ <;> rw [h] <;> omega
theorem impl_fieldAt_f {l : List S78} {n : ByteArray} (hl : l.length < 4398046511104) : impl_fieldAt.f l n = some (at_ n l 0) := by
  unfold impl_fieldAt.f; rw [if_pos hl]
theorem putF_length (n v : ByteArray) (l : List S78) : (putF n v l).length ≤ l.length + 1 := by
  rcases at_cases n v l 0 with ⟨_, _, h, _⟩ | ⟨j, hj, _, _, _, h, _⟩ <;> rw [h] <;> simp
theorem dropF_length (n : ByteArray) (l : List S78) : (dropF n l).length ≤ l.length := by
  rcases at_cases n n l 0 with ⟨_, _, _, h⟩ | ⟨j, hj, _, _, _, _, h⟩ <;> rw [h] <;> simp [List.length_eraseIdx] <;> split <;> omega
theorem spec_l2At_l0 (l : List S78) (n : ByteArray) (hl : (l.length : Int) ≤ 9223372036854775807) : ∀ (d k i : Nat), l.length - i = d → i ≤ l.length → d < k → spec_l2At.l0 k l n i = some (at_ n (l.drop i) i) := by
  intro d
  induction d with
  | zero =>
    intro k i hd hi hk
    obtain ⟨k, rfl⟩ := succ_of hk
    simp only [spec_l2At.l0]
    rw [if_neg (by omega), List.drop_eq_nil_of_le (by omega)]; rfl
  | succ d ih =>
    intro k i hd hi hk
    obtain ⟨k, rfl⟩ := succ_of hk
    have hlt : i < l.length := by omega
    have hx : rd_T78 l (i : Int) = l[i] := by simp [rd_T78, List.getD, hlt]
    simp only [spec_l2At.l0]
    rw [if_pos (by omega), if_pos (by omega), hx, nat_round hlt hl, ih k (i + 1) (by omega) (by omega) (by omega), drop_at hlt, at_cons]
    by_cases h : l[i].f0 = n
    · rw [if_pos h, if_pos (by rw [h])]
    · rw [if_neg h, if_neg (fun e => h (toList_inj e))]
theorem spec_l2At_f {k : Nat} {l : List S78} {n : ByteArray} (hl : (l.length : Int) ≤ 9223372036854775807) (hk : l.length < k) : spec_l2At.f k l n = some (at_ n l 0) := spec_l2At_l0 l n hl l.length k 0 (by omega) (by omega) hk
/-! ### Get, Put, Drop -/
theorem rd_F (l : List S78) (j : Nat) (h : j < l.length) : rd_T78 l (j : Int) = l[j] := by simp [rd_T78, List.getD, h]
theorem impl_Get_f {l : List S78} {n : ByteArray} (hl : l.length < 4398046511104) : impl_Get.f l n = some ((getF n l).getD ⟨#[]⟩, (getF n l).isSome) := by
  unfold impl_Get.f
  rw [impl_fieldAt_f hl, Option.bind_some]
  rcases at_cases n n l 0 with ⟨h1, h2, _, _⟩ | ⟨j, hj, h1, _, h2, _, _⟩
  · rw [h1, h2, if_pos (by omega)]; rfl
  · rw [h1, h2, if_neg (by omega), if_pos (by omega), if_pos (by omega), Nat.zero_add, rd_F l j hj]; rfl
theorem spec_Get_f {k : Nat} {l : List S78} {n : ByteArray} (hl : (l.length : Int) ≤ 9223372036854775807) (hk : l.length < k) : spec_Get.f k l n = some ((getF n l).getD ⟨#[]⟩, (getF n l).isSome) := by
  unfold spec_Get.f
  rw [spec_l2At_f hl hk, Option.bind_some]
  rcases at_cases n n l 0 with ⟨h1, h2, _, _⟩ | ⟨j, hj, h1, _, h2, _, _⟩
  · rw [h1, h2, if_pos (by omega)]; rfl
  · rw [h1, h2, if_neg (by omega), if_pos (by omega), if_pos (by omega), Nat.zero_add, rd_F l j hj]; rfl
/-! ### FieldsOk -/
def lenName (s : ByteArray) : Bool := decide (s.toList = [99, 111, 110, 116, 101, 110, 116, 45, 108, 101, 110, 103, 116, 104])
def okFs (l : List S78) : Nat → List S78 → Bool
  | _, [] => decide (l.length ≤ 8)
  | i, x :: r => tokB x.f0 && (valB x.f1 && (!lenName x.f0 && (decide (at_ x.f0 l 0 = (i : Int)) && okFs l (i + 1) r)))
def fieldsB (l : List S78) : Bool := okFs l 0 l
/-- a list of fields of at most K of anything -/
def SmallF (K : Nat) (l : List S78) : Prop := l.length ≤ K ∧ ∀ x ∈ l, x.f0.size ≤ K ∧ x.f1.size ≤ K
theorem FieldsOk_l0 (K : Nat) (hK : K < 4398046511104) (l : List S78) (hl : SmallF K l) : ∀ (d k i : Nat), l.length = i + d → d + 4 * K + 4 < k →
    spec_FieldsOk.l0 k l i = some (okFs l i (l.drop i)) ∧ impl_FieldsOk.l0 k l l (l.length : Int) i = some (okFs l i (l.drop i)) := by
  obtain ⟨hn, hx⟩ := hl
  intro d
  induction d with
  | zero =>
    intro k i hd hk
    obtain ⟨k, rfl⟩ := succ_of (show 0 < k by omega)
    simp only [spec_FieldsOk.l0, impl_FieldsOk.l0]
    have h8 : decide ((l.length : Int) ≤ 8) = decide (l.length ≤ 8) := decide_eq_decide.2 (by omega)
    rw [if_neg (by omega), if_neg (by omega), List.drop_eq_nil_of_le (by omega), okFs, h8]
    exact ⟨rfl, rfl⟩
  | succ d ih =>
    intro k i hd hk
    obtain ⟨k, rfl⟩ := succ_of (show 0 < k by omega)
    have hlt : i < l.length := by omega
    obtain ⟨s0, s1⟩ := hx _ (List.getElem_mem hlt)
    obtain ⟨i1, i2⟩ := ih k (i + 1) (by omega) (by omega)
    simp only [spec_FieldsOk.l0, impl_FieldsOk.l0]
    rw [rd_F l i hlt, nat_round (n := l.length) hlt (by omega), drop_at hlt, okFs]
    refine ⟨?_, ?_⟩
    · rw [if_pos (by omega), if_pos (by omega), spec_TokenOk_f (by omega) (by omega), Option.bind_some]
      cases tokB l[i].f0
      · rfl
      rw [if_pos rfl, spec_ValueOk_f (by omega) (by omega), Option.bind_some]
      cases valB l[i].f1
      · rfl
      rw [if_pos rfl, spec_l2At_f (by omega) (by omega), Option.bind_some]
      unfold lenName
      by_cases ha : at_ l[i].f0 l 0 = (i : Int)
      · rw [if_pos ha, decide_eq_true ha]
        by_cases hL : l[i].f0.toList = [99, 111, 110, 116, 101, 110, 116, 45, 108, 101, 110, 103, 116, 104]
        · rw [if_pos hL, decide_eq_true hL]; rfl
        · rw [if_neg hL, decide_eq_false hL, i1]; rfl
      · rw [if_neg ha, decide_eq_false ha]; simp
    · rw [if_pos (by omega), if_pos (by omega), if_pos (by omega), impl_TokenOk_f (by omega) (by omega), Option.bind_some]
      cases tokB l[i].f0
      · rfl
      rw [if_pos rfl, impl_ValueOk_f (by omega) (by omega), Option.bind_some]
      cases valB l[i].f1
      · rfl
      rw [if_pos rfl]
      unfold lenName
      by_cases hL : l[i].f0.toList = [99, 111, 110, 116, 101, 110, 116, 45, 108, 101, 110, 103, 116, 104]
      · rw [if_pos hL, decide_eq_true hL]; rfl
      rw [if_neg hL, decide_eq_false hL, impl_fieldAt_f (by omega), Option.bind_some]
      by_cases ha : at_ l[i].f0 l 0 = (i : Int)
      · rw [if_pos ha, decide_eq_true ha, i2]; rfl
      · rw [if_neg ha, decide_eq_false ha]; rfl
theorem spec_FieldsOk_f {k K : Nat} {l : List S78} (hK : K < 4398046511104) (hl : SmallF K l) (hk : 5 * K + 4 < k) : spec_FieldsOk.f k l = some (fieldsB l) := by
  have := (FieldsOk_l0 K hK l hl l.length k 0 (by omega) (by have := hl.1; omega)).1
  simpa [spec_FieldsOk.f, fieldsB] using this
theorem impl_FieldsOk_f {k K : Nat} {l : List S78} (hK : K < 4398046511104) (hl : SmallF K l) (hk : 5 * K + 4 < k) : impl_FieldsOk.f k l = some (fieldsB l) := by
  have := (FieldsOk_l0 K hK l hl l.length k 0 (by omega) (by have := hl.1; omega)).2
  simpa [impl_FieldsOk.f, fieldsB] using this
theorem SmallF.toF {K : Nat} {l : List S118} (hl : l.length ≤ K) (hx : ∀ x ∈ l, x.f0.size ≤ K ∧ x.f1.size ≤ K) : SmallF K (l.map toF) := by
  refine ⟨by simpa using hl, fun y hy => ?_⟩
  obtain ⟨x, hx', rfl⟩ := List.mem_map.1 hy
  exact hx x hx'
def respB (m : Int) (l : List S78) (b : ByteArray) : Bool := decide (100 ≤ m ∧ m ≤ 599) && (decide (b.size ≤ 120) && fieldsB l)
theorem le120 (b : ByteArray) : decide ((b.size : Int) ≤ 120) = decide (b.size ≤ 120) := decide_eq_decide.2 (by omega)
theorem spec_RespOk_f {k K : Nat} {m : Int} {l : List S78} {b : ByteArray} (hK : K < 4398046511104) (hl : SmallF K l) (hk : 5 * K + 4 < k) : spec_RespOk.f k m l b = some (respB m l b) := by
  unfold spec_RespOk.f respB
  rw [spec_l1In_f, Option.bind_some]
  by_cases h : 100 ≤ m ∧ m ≤ 599
  · rw [if_pos (decide_eq_true h), decide_eq_true h, spec_FieldsOk_f hK hl hk, Option.bind_some, le120]
    cases fieldsB l <;> simp
  · rw [if_neg (by simpa using h), decide_eq_false h]; rfl
theorem impl_RespOk_f {k K : Nat} {m : Int} {l : List S78} {b : ByteArray} (hK : K < 4398046511104) (hl : SmallF K l) (hk : 5 * K + 4 < k) : impl_RespOk.f k m l b = some (respB m l b) := by
  unfold impl_RespOk.f respB
  rw [impl_inRange_f, Option.bind_some]
  by_cases h : 100 ≤ m ∧ m ≤ 599
  · rw [if_pos (decide_eq_true h), decide_eq_true h]
    by_cases h2 : b.size ≤ 120
    · rw [if_pos (by omega), impl_FieldsOk_f hK hl hk, Option.bind_some, decide_eq_true h2]; rfl
    · rw [if_neg (by omega), decide_eq_false h2]; rfl
  · rw [if_neg (by simpa using h), decide_eq_false h]; rfl

end Go.Proofs.YtogdmlgbdbgpkaaDoor.Pure
