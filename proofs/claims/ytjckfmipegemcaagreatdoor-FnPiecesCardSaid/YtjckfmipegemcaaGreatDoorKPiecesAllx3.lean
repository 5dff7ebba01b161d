-- Written by a program of this session (wip/tools/hprint.py) out of the translation. Lean checks it.
import Derived.Test.YtjckfmipegemcaaGreatDoorKPiecesAllx0
import Derived.Test.YtjckfmipegemcaaGreatDoorKPiecesAllx1
import Derived.Test.YtjckfmipegemcaaGreatDoorKPiecesAllx2
namespace Go.Proofs.YtjckfmipegemcaaGreatDoor.All
open Go.RowKit Go.Proofs.YtjckfmipegemcaaGreatDoorW.PrintWords Go.Proofs.YtjckfmipegemcaaGreatDoorW.PrintLast Go.Proofs.YtjckfmipegemcaaGreatDoorW.PrintMore
attribute [local go_sem] max2_int min2_int max_two min_two max_three min_three max_four min_four  -- for this text's walks alone
set_option linter.unusedVariables false
set_option linter.unusedSimpArgs false

/-! ### impl_ReqText: function 14 -/
def impl_ReqText.f (k : Nat) (a0_0 : Int) (a0_1 : ByteArray) (l0_2 : List (S81)) (a0_3 : ByteArray) : Option (ByteArray) := (impl_ReqOk.f k a0_0 a0_1 l0_2 a0_3).bind fun t312 => (if t312 = true then ((impl_methodText.f a0_0).bind fun t313 => (if t313.size + 1 ≤ 9223372036854775807 then (if (t313 ++ (⟨#[32]⟩ : ByteArray)).size + a0_1.size ≤ 9223372036854775807 then (if ((t313 ++ (⟨#[32]⟩ : ByteArray)) ++ a0_1).size + 1 ≤ 9223372036854775807 then (if (((t313 ++ (⟨#[32]⟩ : ByteArray)) ++ a0_1) ++ (⟨#[32]⟩ : ByteArray)).size + 8 ≤ 9223372036854775807 then (if ((((t313 ++ (⟨#[32]⟩ : ByteArray)) ++ a0_1) ++ (⟨#[32]⟩ : ByteArray)) ++ (⟨#[72, 84, 84, 80, 47, 49, 46, 49]⟩ : ByteArray)).size + 2 ≤ 9223372036854775807 then ((impl_FieldsText.f l0_2).bind fun t314 => (if (((((t313 ++ (⟨#[32]⟩ : ByteArray)) ++ a0_1) ++ (⟨#[32]⟩ : ByteArray)) ++ (⟨#[72, 84, 84, 80, 47, 49, 46, 49]⟩ : ByteArray)) ++ (⟨#[13, 10]⟩ : ByteArray)).size + t314.size ≤ 9223372036854775807 then (if a0_3.toList = ([] : List UInt8) then (if ((((((t313 ++ (⟨#[32]⟩ : ByteArray)) ++ a0_1) ++ (⟨#[32]⟩ : ByteArray)) ++ (⟨#[72, 84, 84, 80, 47, 49, 46, 49]⟩ : ByteArray)) ++ (⟨#[13, 10]⟩ : ByteArray)) ++ t314).size + 2 ≤ 9223372036854775807 then (if (((((((t313 ++ (⟨#[32]⟩ : ByteArray)) ++ a0_1) ++ (⟨#[32]⟩ : ByteArray)) ++ (⟨#[72, 84, 84, 80, 47, 49, 46, 49]⟩ : ByteArray)) ++ (⟨#[13, 10]⟩ : ByteArray)) ++ t314) ++ (⟨#[13, 10]⟩ : ByteArray)).size + a0_3.size ≤ 9223372036854775807 then (some ((((((((t313 ++ (⟨#[32]⟩ : ByteArray)) ++ a0_1) ++ (⟨#[32]⟩ : ByteArray)) ++ (⟨#[72, 84, 84, 80, 47, 49, 46, 49]⟩ : ByteArray)) ++ (⟨#[13, 10]⟩ : ByteArray)) ++ t314) ++ (⟨#[13, 10]⟩ : ByteArray)) ++ a0_3)) else (none)) else (none)) else ((impl_lengthLine.f a0_3).bind fun t315 => (if ((((((t313 ++ (⟨#[32]⟩ : ByteArray)) ++ a0_1) ++ (⟨#[32]⟩ : ByteArray)) ++ (⟨#[72, 84, 84, 80, 47, 49, 46, 49]⟩ : ByteArray)) ++ (⟨#[13, 10]⟩ : ByteArray)) ++ t314).size + t315.size ≤ 9223372036854775807 then (if (((((((t313 ++ (⟨#[32]⟩ : ByteArray)) ++ a0_1) ++ (⟨#[32]⟩ : ByteArray)) ++ (⟨#[72, 84, 84, 80, 47, 49, 46, 49]⟩ : ByteArray)) ++ (⟨#[13, 10]⟩ : ByteArray)) ++ t314) ++ t315).size + 2 ≤ 9223372036854775807 then (if ((((((((t313 ++ (⟨#[32]⟩ : ByteArray)) ++ a0_1) ++ (⟨#[32]⟩ : ByteArray)) ++ (⟨#[72, 84, 84, 80, 47, 49, 46, 49]⟩ : ByteArray)) ++ (⟨#[13, 10]⟩ : ByteArray)) ++ t314) ++ t315) ++ (⟨#[13, 10]⟩ : ByteArray)).size + a0_3.size ≤ 9223372036854775807 then (some (((((((((t313 ++ (⟨#[32]⟩ : ByteArray)) ++ a0_1) ++ (⟨#[32]⟩ : ByteArray)) ++ (⟨#[72, 84, 84, 80, 47, 49, 46, 49]⟩ : ByteArray)) ++ (⟨#[13, 10]⟩ : ByteArray)) ++ t314) ++ t315) ++ (⟨#[13, 10]⟩ : ByteArray)) ++ a0_3)) else (none)) else (none)) else (none)))) else (none))) else (none)) else (none)) else (none)) else (none)) else (none))) else (some (⟨#[]⟩ : ByteArray)))
def impl_ReqText.T3 : Bool × List (List Nat × List Nat) := (true, [([], []), ([0], [0]), ([1], [1]), ([2], [2]), ([], []), ([4], [4]), ([3, 5], [3, 5]), ([6], [6]), ([7], [7]), ([8], [8]), ([], []), ([10], [10]), ([11, 2], [11]), ([9, 12], [9, 12]), ([13, 12, 0, 1, 2, 3, 4, 5, 6, 7, 8, 9, 10, 11, 12, 13], [13])])
def impl_ReqText.B3 : List Nat := [0, 1, 3, 7, 0, 16, 63, 127, 255, 511, 0, 1024, 3079, 8191, 16383]
theorem impl_ReqText.tab3 : rtab .any (opsOf Tryz.f14 3) = impl_ReqText.T3 := by kernel_rfl
theorem impl_ReqText.bits3 : waitsOk impl_ReqText.T3.2 impl_ReqText.B3 = true := by kernel_rfl
set_option maxHeartbeats 8000000 in
set_option maxRecDepth 100000 in
theorem impl_ReqText.calls (k : Nat) (a0_0 : Int) (a0_1 : ByteArray) (A0_2 : Option Addr) (c0_2 : Nat) (l0_2 : List (S81)) (a0_3 : ByteArray) (r : ByteArray) (w : World) (hGT : GLOBT w) (hr0_2 : Kd.C k81 w A0_2 l0_2.length l0_2) (hc0_2 : l0_2.length ≤ c0_2) (h : impl_ReqText.f k a0_0 a0_1 l0_2 a0_3 = some r) :
  Calls Tryz.prog 14 #[.agg #[.int .i64 a0_0, .string a0_1, .slice A0_2 l0_2.length c0_2, .string a0_3]] w fun e w' => e = .returned (.string r) ∧ Below w.heap.size w w' := by
 have hu40 := Tryz.underlying40
 have HR0_2 := am hr0_2
 have HC0_2 := am hc0_2
 clear hr0_2 hc0_2
 have HGT := am hGT
 clear hGT
 have HB := am (Below.refl w.heap.size w)
 unfold impl_ReqText.f at h
 have H := h
 clear h
 revert H
 refine ok1 fun t312 A2 H => ?_
 by_cases c3 : t312 = true
 rotate_left
 ·replace c3 := Bool.eq_false_iff.mpr c3
  subst c3
  rw [if_neg (show ¬ (false = true) by decide)] at H
  obtain rfl := Option.some.inj H
  go_enter Tryz.func14, Tryz.ntmps14
  go_wp2_with ((with_reducible refine gw ?_); first | (refine bx 1 #[.int .i64 a0_0, .string a0_1, .slice A0_2 l0_2.length c0_2, .string a0_3] 40 ?_; intro gb311 hg w35 hbox hb; have BK311 := am (hbox); have GW311 := am (sz hg : w.heap.size ≤ gb311); have GE311 := am (sz hg : w.heap.size ≤ gb311); replace HB := am (below_step bl hb); clear hb hbox hg; obtain ⟨z36_0, y36_0, z36_1, y36_1, z36_2, y36_2, z36_3, y36_3⟩ := cl4 BK311) | (refine gl 5 Tryz.func42 #[.agg #[.int .i64 a0_0, .string a0_1, .slice A0_2 l0_2.length c0_2, .string a0_3]] ?_; (with_reducible refine (impl_ReqOk.calls k a0_0 a0_1 _ _ l0_2 a0_3 false _ ?side1 ?side2 A2.out).mono ?_); (case side1 => exact cb HR0_2); (case side2 => exact HC0_2.out); rintro e w37 ⟨rfl, hb⟩; refine ⟨_, rfl, ?_⟩; replace BK311 := kb BK311 hb; replace HB := am (below_step bl hb); clear hb))
  go_ret
  exact ⟨rf, bl⟩
 subst c3
 rw [if_pos rfl] at H
 revert H
 refine ok1 fun t313 A4 H => ?_
 revert H
 refine ifn fun c5 H => ?_
 have c5b0 := eq_true c5
 have c5b1 := decide_eq_true c5
 try have c5b2 := eq_false (Nat.not_lt.2 c5)
 revert H
 refine ifn fun c6 H => ?_
 have c6b0 := eq_true c6
 have c6b1 := decide_eq_true c6
 try have c6b2 := eq_false (Nat.not_lt.2 c6)
 have c6b3 : (9223372036854775807 < (t313).size + 1 + (a0_1).size) = False := b3 c6
 revert H
 refine ifn fun c7 H => ?_
 have c7b0 := eq_true c7
 have c7b1 := decide_eq_true c7
 try have c7b2 := eq_false (Nat.not_lt.2 c7)
 have c7b3 : (9223372036854775807 < (t313).size + 1 + (a0_1).size + 1) = False := b3 c7
 revert H
 refine ifn fun c8 H => ?_
 have c8b0 := eq_true c8
 have c8b1 := decide_eq_true c8
 try have c8b2 := eq_false (Nat.not_lt.2 c8)
 have c8b3 : (9223372036854775807 < (t313).size + 1 + (a0_1).size + 1 + 8) = False := b3 c8
 revert H
 refine ifn fun c9 H => ?_
 have c9b0 := eq_true c9
 have c9b1 := decide_eq_true c9
 try have c9b2 := eq_false (Nat.not_lt.2 c9)
 have c9b3 : (9223372036854775807 < (t313).size + 1 + (a0_1).size + 1 + 8 + 2) = False := b3 c9
 revert H
 refine ok1 fun t314 A10 H => ?_
 revert H
 refine ifn fun c11 H => ?_
 have c11b0 := eq_true c11
 have c11b1 := decide_eq_true c11
 try have c11b2 := eq_false (Nat.not_lt.2 c11)
 have c11b3 : (9223372036854775807 < (t313).size + 1 + (a0_1).size + 1 + 8 + 2 + (t314).size) = False := b3 c11
 by_cases c12 : a0_3.toList = ([] : List UInt8)
 ·rw [if_pos c12] at H
  have c12b0 : (a0_3.toList == ([] : List UInt8)) = true := beq_iff_eq.mpr c12
  have c12b1 : (a0_3.toList != ([] : List UInt8)) = false := bne_eq_false_iff_eq.mpr c12
  clear c12
  revert H
  refine ifn fun c13 H => ?_
  have c13b0 := eq_true c13
  have c13b1 := decide_eq_true c13
  try have c13b2 := eq_false (Nat.not_lt.2 c13)
  have c13b3 : (9223372036854775807 < (t313).size + 1 + (a0_1).size + 1 + 8 + 2 + (t314).size + 2) = False := b3 c13
  revert H
  refine ifn fun c14 H => ?_
  have c14b0 := eq_true c14
  have c14b1 := decide_eq_true c14
  try have c14b2 := eq_false (Nat.not_lt.2 c14)
  have c14b3 : (9223372036854775807 < (t313).size + 1 + (a0_1).size + 1 + 8 + 2 + (t314).size + 2 + (a0_3).size) = False := b3 c14
  obtain rfl := Option.some.inj H
  go_enter Tryz.func14, Tryz.ntmps14
  try go_wp2_with ((with_reducible refine gw ?_); first | (refine bx 1 #[.int .i64 a0_0, .string a0_1, .slice A0_2 l0_2.length c0_2, .string a0_3] 40 ?_; intro gb311 hg w15 hbox hb; have BK311 := am (hbox); have GW311 := am (sz hg : w.heap.size ≤ gb311); have GE311 := am (sz hg : w.heap.size ≤ gb311); replace HB := am (below_step bl hb); clear hb hbox hg; obtain ⟨z16_0, y16_0, z16_1, y16_1, z16_2, y16_2, z16_3, y16_3⟩ := cl4 BK311) | (refine gl 5 Tryz.func42 #[.agg #[.int .i64 a0_0, .string a0_1, .slice A0_2 l0_2.length c0_2, .string a0_3]] ?_; (with_reducible refine (impl_ReqOk.calls k a0_0 a0_1 _ _ l0_2 a0_3 true _ ?side1 ?side2 A2.out).mono ?_); (case side1 => exact cb HR0_2); (case side2 => exact HC0_2.out); rintro e w17 ⟨rfl, hb⟩; refine ⟨_, rfl, ?_⟩; replace BK311 := kb BK311 hb; replace HB := am (below_step bl hb); clear hb))
  replace BK311 := am (blk_drew BK311.out)
  replace HB := am (below_drew1 HB.out)
  refine start_ (n := 15) (S := fun w' => w'.cell? ⟨gb311, 0, none⟩ = some (.int .i64 a0_0) ∧ w'.cell? ⟨gb311, 1, none⟩ = some (.string a0_1) ∧ w'.cell? ⟨gb311, 2, none⟩ = some (.slice A0_2 l0_2.length c0_2) ∧ w'.cell? ⟨gb311, 3, none⟩ = some (.string a0_3)) (ds := []) ⟨br true [0, 15]⟩ (by kernel_rfl) rfl (by kernel_rfl) ⟨bc BK311, bc BK311, bc BK311, bc BK311⟩ (fun hHeld => ?_); refine with_tabW impl_ReqText.tab3 impl_ReqText.bits3 (fun HT_ HW_ => ?_)
  generalize w17.drew = w18 at BK311 HB hHeld ⊢
  refine pu 0 7 [1, 14] ?_
  refine pu 4 11 [1, 3, 1, 10] ?_
  refine pu 10 17 [1, 3, 1, 5, 1, 4] ?_
  refine tk 1 8 [2, 2, 1, 5, 1, 4] ?_
  refine tk 5 12 [2, 2, 2, 4, 1, 4] ?_
  refine tk 11 18 [2, 2, 2, 4, 2, 3] ?_
  refine og 2 9 [3, 1, 2, 4, 2, 3] Tryz.func43 #[.int .i64 a0_0] (fun K hK => ?_)
  with_reducible refine (impl_methodText.calls a0_0 t313 _ A4.out).mono ?_
  rintro e w19 ⟨rfl, hb⟩
  refine ⟨_, rfl, ?_⟩
  replace BK311 := kb BK311 hb
  replace HB := am (below_step bl hb)
  clear hb
  refine hK.out _ _ ⟨bc BK311, bc BK311, bc BK311, bc BK311⟩ (fun hHeld => ?_)
  clear hK K
  refine nm 9 ?_
  refine pu 3 10 [6, 4, 2, 3] ?_
  refine pu 6 13 [7, 3, 2, 3] ?_
  refine pu 7 14 [8, 2, 2, 3] ?_
  refine pu 8 15 [9, 1, 2, 3] ?_
  refine pu 9 16 [12, 3] ?_
  refine og 12 19 [13, 2] Tryz.func44 #[.slice A0_2 l0_2.length c0_2] (fun K hK => ?_)
  with_reducible refine (impl_FieldsText.calls _ _ l0_2 t314 _ ?side1 ?side2 A10.out).mono ?_
  (case side1 => exact cb HR0_2)
  (case side2 => exact HC0_2.out)
  rintro e w20 ⟨rfl, hb⟩
  refine ⟨_, rfl, ?_⟩
  replace BK311 := kb BK311 hb
  replace HB := am (below_step bl hb)
  clear hb
  refine hK.out _ _ ⟨bc BK311, bc BK311, bc BK311, bc BK311⟩ (fun hHeld => ?_)
  clear hK K
  refine nm 19 ?_
  refine pu 13 20 [14, 1] ?_
  refine pu 14 3 [15] ?_
  refine done_ (done_of HT_.out (by kernel_rfl)) ?_
  obtain ⟨z21_0, y21_0, z21_1, y21_1, z21_2, y21_2, z21_3, y21_3⟩ := cl4 BK311
  try go_wp2
  go_ret
  exact ⟨rf, bl⟩
 rw [if_neg c12] at H
 have c12b0 : (a0_3.toList == ([] : List UInt8)) = false := beq_eq_false_iff_ne.mpr c12
 have c12b1 : (a0_3.toList != ([] : List UInt8)) = true := bne_iff_ne.mpr c12
 revert H
 refine ok1 fun t315 A22 H => ?_
 revert H
 refine ifn fun c23 H => ?_
 have c23b0 := eq_true c23
 have c23b1 := decide_eq_true c23
 try have c23b2 := eq_false (Nat.not_lt.2 c23)
 have c23b3 : (9223372036854775807 < (t313).size + 1 + (a0_1).size + 1 + 8 + 2 + (t314).size + (t315).size) = False := b3 c23
 revert H
 refine ifn fun c24 H => ?_
 have c24b0 := eq_true c24
 have c24b1 := decide_eq_true c24
 try have c24b2 := eq_false (Nat.not_lt.2 c24)
 have c24b3 : (9223372036854775807 < (t313).size + 1 + (a0_1).size + 1 + 8 + 2 + (t314).size + (t315).size + 2) = False := b3 c24
 revert H
 refine ifn fun c25 H => ?_
 have c25b0 := eq_true c25
 have c25b1 := decide_eq_true c25
 try have c25b2 := eq_false (Nat.not_lt.2 c25)
 have c25b3 : (9223372036854775807 < (t313).size + 1 + (a0_1).size + 1 + 8 + 2 + (t314).size + (t315).size + 2 + (a0_3).size) = False := b3 c25
 obtain rfl := Option.some.inj H
 go_enter Tryz.func14, Tryz.ntmps14
 try go_wp2_with ((with_reducible refine gw ?_); first | (refine bx 1 #[.int .i64 a0_0, .string a0_1, .slice A0_2 l0_2.length c0_2, .string a0_3] 40 ?_; intro gb311 hg w26 hbox hb; have BK311 := am (hbox); have GW311 := am (sz hg : w.heap.size ≤ gb311); have GE311 := am (sz hg : w.heap.size ≤ gb311); replace HB := am (below_step bl hb); clear hb hbox hg; obtain ⟨z27_0, y27_0, z27_1, y27_1, z27_2, y27_2, z27_3, y27_3⟩ := cl4 BK311) | (refine gl 5 Tryz.func42 #[.agg #[.int .i64 a0_0, .string a0_1, .slice A0_2 l0_2.length c0_2, .string a0_3]] ?_; (with_reducible refine (impl_ReqOk.calls k a0_0 a0_1 _ _ l0_2 a0_3 true _ ?side1 ?side2 A2.out).mono ?_); (case side1 => exact cb HR0_2); (case side2 => exact HC0_2.out); rintro e w28 ⟨rfl, hb⟩; refine ⟨_, rfl, ?_⟩; replace BK311 := kb BK311 hb; replace HB := am (below_step bl hb); clear hb))
 replace BK311 := am (blk_drew BK311.out)
 replace HB := am (below_drew1 HB.out)
 refine start_ (n := 15) (S := fun w' => w'.cell? ⟨gb311, 0, none⟩ = some (.int .i64 a0_0) ∧ w'.cell? ⟨gb311, 1, none⟩ = some (.string a0_1) ∧ w'.cell? ⟨gb311, 2, none⟩ = some (.slice A0_2 l0_2.length c0_2) ∧ w'.cell? ⟨gb311, 3, none⟩ = some (.string a0_3)) (ds := []) ⟨br true [0, 15]⟩ (by kernel_rfl) rfl (by kernel_rfl) ⟨bc BK311, bc BK311, bc BK311, bc BK311⟩ (fun hHeld => ?_); refine with_tabW impl_ReqText.tab3 impl_ReqText.bits3 (fun HT_ HW_ => ?_)
 generalize w28.drew = w29 at BK311 HB hHeld ⊢
 refine pu 0 7 [1, 14] ?_
 refine pu 4 11 [1, 3, 1, 10] ?_
 refine pu 10 17 [1, 3, 1, 5, 1, 4] ?_
 refine tk 1 8 [2, 2, 1, 5, 1, 4] ?_
 refine tk 5 12 [2, 2, 2, 4, 1, 4] ?_
 refine tk 11 18 [2, 2, 2, 4, 2, 3] ?_
 refine og 2 9 [3, 1, 2, 4, 2, 3] Tryz.func43 #[.int .i64 a0_0] (fun K hK => ?_)
 with_reducible refine (impl_methodText.calls a0_0 t313 _ A4.out).mono ?_
 rintro e w30 ⟨rfl, hb⟩
 refine ⟨_, rfl, ?_⟩
 replace BK311 := kb BK311 hb
 replace HB := am (below_step bl hb)
 clear hb
 refine hK.out _ _ ⟨bc BK311, bc BK311, bc BK311, bc BK311⟩ (fun hHeld => ?_)
 clear hK K
 refine nm 9 ?_
 refine pu 3 10 [6, 4, 2, 3] ?_
 refine pu 6 13 [7, 3, 2, 3] ?_
 refine pu 7 14 [8, 2, 2, 3] ?_
 refine pu 8 15 [9, 1, 2, 3] ?_
 refine pu 9 16 [12, 3] ?_
 refine og 12 19 [13, 2] Tryz.func44 #[.slice A0_2 l0_2.length c0_2] (fun K hK => ?_)
 with_reducible refine (impl_FieldsText.calls _ _ l0_2 t314 _ ?side1 ?side2 A10.out).mono ?_
 (case side1 => exact cb HR0_2)
 (case side2 => exact HC0_2.out)
 rintro e w31 ⟨rfl, hb⟩
 refine ⟨_, rfl, ?_⟩
 replace BK311 := kb BK311 hb
 replace HB := am (below_step bl hb)
 clear hb
 refine hK.out _ _ ⟨bc BK311, bc BK311, bc BK311, bc BK311⟩ (fun hHeld => ?_)
 clear hK K
 refine nm 19 ?_
 refine pu 13 20 [14, 1] ?_
 refine pu 14 3 [15] ?_
 refine done_ (done_of HT_.out (by kernel_rfl)) ?_
 obtain ⟨z32_0, y32_0, z32_1, y32_1, z32_2, y32_2, z32_3, y32_3⟩ := cl4 BK311
 try go_wp2_with ((with_reducible refine gw ?_); first | (refine gl 27 Tryz.func45 #[.string a0_3] ?_; (with_reducible refine (impl_lengthLine.calls a0_3 t315 _ ?side1 A22.out).mono ?_); (case side1 => exact GLOBT.below HGT.out bl); rintro e w33 ⟨rfl, hb⟩; refine ⟨_, rfl, ?_⟩; replace BK311 := kb BK311 hb; replace HB := am (below_step bl hb); clear hb; obtain ⟨z34_0, y34_0, z34_1, y34_1, z34_2, y34_2, z34_3, y34_3⟩ := cl4 BK311))
 go_ret
 exact ⟨rf, bl⟩

/-! ### strings.Cut -/
def strings_Cut.f (a0 a1 : ByteArray) : Option (ByteArray × ByteArray × Bool) := if a0.size < 4294967281 then some (⟨(Lib.cut a0.data.toList a1.data.toList).1.toArray⟩, ⟨(Lib.cut a0.data.toList a1.data.toList).2.1.toArray⟩, (Lib.cut a0.data.toList a1.data.toList).2.2) else none
theorem strings_Cut.calls (a0 a1 : ByteArray) (r1 r2 : ByteArray) (r3 : Bool) (w : World) (hGM : GLOBM w) (h : strings_Cut.f a0 a1 = some (r1, r2, r3)) :
  Calls Tryz.prog 99 #[.string a0, .string a1] w fun e w' => e = .returned (.tuple #[.string r1, .string r2, .bool r3]) ∧ Below w.heap.size w w' := by
 unfold strings_Cut.f at h
 split at h
 case isFalse => cases h
 rename_i hl
 simp only [Option.some.injEq, Prod.mk.injEq] at h
 obtain ⟨rfl, rfl, rfl⟩ := h
 obtain ⟨m, hm⟩ := hGM
 refine (Tryz.strings_Cut a0 a1 m w hl hm).mono ?_
 rintro e w' ⟨rfl, n, rfl⟩
 exact ⟨rfl, pw_below_drewN (Below.refl _ _) n⟩

/-! ### impl_parts: function 82 -/
theorem u82HB {p : Prop} (h : p := by repeat (first | (with_reducible first | exact HB.out | apply below_alloc | apply pw_below_drewN | apply below_drew1) | exact HB.out)) : p := h
mutual
def impl_parts.j0 : Nat → ByteArray → List ByteArray → Bool → Option (ByteArray × (List (S81)) × ByteArray × Bool)
 | 0, _, _, _ => none
 | k + 1, x7, x9, x30 => if x30 = true then (some ((⟨#[]⟩ : ByteArray), ([] : List (S81)), (⟨#[]⟩ : ByteArray), false)) else (if 1 ≤ (x9.length : Int) then ((some (x9.drop 1 : List ByteArray)).bind fun y322 => (impl_parts.l0 k x7 x9 ([] : List (S81)) y322 (y322.length : Int) 0)) else (none))
def impl_parts.l0 : Nat → ByteArray → List ByteArray → List (S81) → List ByteArray → Int → Int → Option (ByteArray × (List (S81)) × ByteArray × Bool)
 | 0, _, _, _, _, _, _ => none
 | k + 1, x7, x9, x10, x32, x33, x34 => if x34 < x33 then (if 0 ≤ x34 then (if x34 < (x32.length : Int) then ((strings_Cut.f (rdOf ByteArray.empty x32 x34) (⟨#[58, 32]⟩ : ByteArray)).bind fun bt328 => (if bt328.2.2 = true then (if x34 = (wrap64 ((x9.length : Int) - 2)) then (if bt328.1.toList = ([99, 111, 110, 116, 101, 110, 116, 45, 108, 101, 110, 103, 116, 104] : List UInt8) then (if 0 < (x9.length : Int) then (some (rdOf ByteArray.empty x9 0, x10, x7, true)) else (none)) else (if x10.length < 4398046511104 then (impl_parts.l0 k x7 x9 (x10 ++ [(⟨bt328.1, bt328.2.1⟩ : S81)]) x32 x33 (wrap64 (x34 + 1))) else (none))) else (if x10.length < 4398046511104 then (impl_parts.l0 k x7 x9 (x10 ++ [(⟨bt328.1, bt328.2.1⟩ : S81)]) x32 x33 (wrap64 (x34 + 1))) else (none))) else (some ((⟨#[]⟩ : ByteArray), ([] : List (S81)), (⟨#[]⟩ : ByteArray), false)))) else (none)) else (none)) else (if 0 < (x9.length : Int) then (some (rdOf ByteArray.empty x9 0, x10, x7, true)) else (none))
end
def impl_parts.f (k : Nat) (a0 : ByteArray) : Option (ByteArray × (List (S81)) × ByteArray × Bool) := (strings_Cut.f a0 (⟨#[13, 10, 13, 10]⟩ : ByteArray)).bind fun bt316 => ((strings_Split.f bt316.1 (⟨#[13, 10]⟩ : ByteArray)).bind fun t319 => (if bt316.2.2 = true then (impl_parts.j0 k bt316.2.1 t319 (decide ((t319.length : Int) > 10))) else (impl_parts.j0 k bt316.2.1 t319 true)))
set_option maxHeartbeats 8000000 in
set_option maxRecDepth 100000 in
theorem impl_parts.calls (k : Nat) (a0 : ByteArray) (r1 : ByteArray) (r2 : List (S81)) (r3 : ByteArray) (r4 : Bool) (w : World) (hGM : GLOBM w) (h : impl_parts.f k a0 = some (r1, r2, r3, r4)) :
  Calls Tryz.prog 82 #[.string a0] w fun e w' => ∃ v1_ : Value, e = .returned (.tuple #[.string r1, v1_, .string r3, .bool r4]) ∧ Kd.R k81 81 w' w.heap.size (fun _ => True) v1_ r2 ∧ Below w.heap.size w w' := by
 have hu81 := Tryz.underlying81
 have HGM := am hGM
 clear hGM
 have HB := am (Below.refl w.heap.size w)
 unfold impl_parts.f at h
 have H := h
 clear h
 revert H
 refine ok3 fun t316 t317 t318 A2 H => ?_
 (try dsimp only at H)
 revert H
 refine ok1 fun t319 A3 H => ?_
 have HC4 := am H
 clear H
 go_enter Tryz.func82, Tryz.ntmps82
 go_upto_region 3 with ((with_reducible refine gw ?_); first | (refine gl 18 Tryz.func99 #[.string a0, .string (⟨#[13, 10, 13, 10]⟩ : ByteArray)] ?_; (with_reducible refine (strings_Cut.calls a0 (⟨#[13, 10, 13, 10]⟩ : ByteArray) t316 t317 t318 _ ?side1 A2.out).mono ?_); (case side1 => exact GLOBM.below HGM.out bl); rintro e w5 ⟨rfl, hb⟩; refine ⟨_, rfl, ?_⟩; replace HB := am (below_step bl hb); clear hb) | (refine gl 23 Tryz.func79 #[.string t316, .string (⟨#[13, 10]⟩ : ByteArray)] ?_; (with_reducible refine (strings_Split.calls t316 (⟨#[13, 10]⟩ : ByteArray) t319 _ ?side1 A3.out).mono ?_); (case side1 => exact GLOBM.below HGM.out bl); rintro e w6 ⟨v320, rfl, ho0, hb⟩; refine ⟨_, rfl, ?_⟩; have HO321 := am (Kd.R_lower ho0 (below_size bl)); replace HB := am (below_step bl hb); clear hb ho0))
 (try simp only [Act.put, List.setIfInBounds_toArray, List.set_cons_zero, List.set_cons_succ])
 go_cut [30] (fun v30 wc => ∃ (kq : Nat) (x30_3 : Bool), v30 = .bool x30_3 ∧ Aside0 (impl_parts.j0 kq t317 t319 x30_3 = some (r1, r2, r3, r4)) ∧ Aside0 (kq ≤ k) ∧ Aside0 (Kd.R Kd.string 9 wc w.heap.size (fun _ => True) v320 t319) ∧ Aside0 (Below w.heap.size w wc))
 case first =>
  have H := HC4.out
  clear HC4
  by_cases c7 : t318 = true
  rotate_left
  ·replace c7 := Bool.eq_false_iff.mpr c7
   subst c7
   rw [if_neg (show ¬ (false = true) by decide)] at H
   have H' := am H
   clear H
   go_wp2
   go_meet
   case rel => exact ⟨_, (true), rs, H', ⟨by first | omega | exact Nat.le_refl _⟩, ⟨by (with_reducible repeat (first | apply Kd.R_alloc | apply Kd.R_drewN | apply Kd.R_drew)); exact HO321.out⟩, ⟨u82HB⟩⟩
  subst c7
  rw [if_pos rfl] at H
  have H' := am H
  clear H
  obtain ⟨Ao8, co8, eo8⟩ := Kd.R_slice HO321.out
  subst eo8
  go_wp2
  go_meet
  case rel => exact ⟨_, (decide ((t319.length : Int) > 10)), rs, H', ⟨by first | omega | exact Nat.le_refl _⟩, ⟨by (with_reducible repeat (first | apply Kd.R_alloc | apply Kd.R_drewN | apply Kd.R_drew)); exact HO321.out⟩, ⟨u82HB⟩⟩
 case rest =>
  clear HC4
  try clear p2
  try clear c7
  try clear c8
  obtain ⟨kq, x30_3, rfl, HA, HJ3, HO_9, HB⟩ := hcut
  cases kq with
  | zero => exact absurd HA.out (by simp [impl_parts.j0])
  | succ kj3 =>
   have H := HA.out
   clear HA
   simp only [impl_parts.j0] at H
   by_cases c9 : x30_3 = true
   ·subst c9
    rw [if_pos rfl] at H
    simp only [Option.some.injEq, Prod.mk.injEq] at H
    obtain ⟨rfl, rfl, rfl, rfl⟩ := H
    go_wp2
    refine bodyPost_ret (results_list (rs := [.tmp 2, .tmp 3, .tmp 4, .tmp 5]) rfl (by simp) (.tmp (.tmp (.tmp (.tmp .nil))))) rfl ?_
    exact ⟨_, rf, by first | exact Kd.R_nil _ _ _ _ _ | exact Kd.N_nil _ _ _ _ _ | exact Kd.V_nil _ _ _ _ _ | exact Kd.Q_nil _ _ _ _ _ | exact Kd.S_nil _ _ _ _ _, bl⟩
   replace c9 := Bool.eq_false_iff.mpr c9
   subst c9
   rw [if_neg (show ¬ (false = true) by decide)] at H
   revert H
   refine ifn fun c10 H => ?_
   have c10b0 := eq_true c10
   have c10b1 := decide_eq_true c10
   clear c10
   obtain ⟨y322, hy322⟩ : ∃ y_ : List ByteArray, y_ = (t319.drop 1) := ⟨_, rfl⟩
   replace H : (impl_parts.l0 kj3 t317 t319 ([] : List (S81)) y322 (y322.length : Int) 0) = some (r1, r2, r3, r4) := by first | (rw [hy322]; with_reducible exact H) | (have H2_ := (Option.bind_some _ _).symm.trans H; rw [hy322]; with_reducible exact H2_) | (have H2_ := (Option.bind_some _ _).symm.trans H; with_reducible exact H2_) | with_reducible exact H | (rw [hy322]; exact H) | exact H
   have Ny322 := am hy322
   clear hy322
   have H' := am H
   clear H
   obtain ⟨Ao12, co12, eo12⟩ := Kd.R_slice HO_9.out
   subst eo12
   have q11 : (1 : Int) ≤ ((t319.length : Int) : Int) := od
   obtain ⟨i011, hi011, _, hsz11, _⟩ := info_parts info9
   have hroom11 : t319.length ≤ co12 := (Kd.R_reads' HO_9.out).2.1
   have hC11 : Kd.C Kd.string _ Ao12 t319.length t319 := (Kd.R_reads' HO_9.out).2.2
   have hcut11 := cut_from (P := Tryz.prog) 35 9 .i64 Tryz.underlying35 hi011 1 hsz11 Ao12 t319.length co12 1 (by omega) q11
   have hr11 := Kd.C_drop (m := (1 : Int).toNat) (c := co12) hC11 (by omega) hroom11
   obtain ⟨A11, hA11⟩ : ∃ A1, A1 = (if co12 = (1 : Int).toNat then Ao12 else (Ao12 : Option Addr).map (·.add ((1 : Int).toNat * 1))) := ⟨_, rfl⟩
   obtain ⟨c11, hc11⟩ : ∃ c1, c1 = co12 - (1 : Int).toNat := ⟨_, rfl⟩
   have hy11 : y322.length = t319.length - (1 : Int).toNat := (by rw [Ny322.out, List.length_drop] <;> omega)
   rw [show (t319).drop (1 : Int).toNat = y322 from Ny322.out.symm] at hr11
   replace hr11 : Kd.C Kd.string _ A11 y322.length y322 := (by rw [hA11]; exact hr11)
   rw [← hy11, ← hA11, ← hc11] at hcut11
   have HR325 := am hr11
   have HC325 := am (show y322.length ≤ c11 from by rw [hy11, hc11]; exact Nat.sub_le_sub_right hroom11 _)
   clear hr11 hC11 hroom11 hi011 hsz11 hc11
   have KY11 := am hy11
   have KA11 := am hA11
   clear hy11 hA11
   have KL11 := am (show 1 ≤ t319.length from by omega)
   replace q11 := eq_true q11
   go_wp2
   (try simp only [Act.put, List.setIfInBounds_toArray, List.set_cons_zero, List.set_cons_succ])
   go_loopg [10, 34] kj3 (fun kq v10 v34 w' => ∃ (x10_2 : List (S81)) (x34_2 : Int), v34 = .int .i64 x34_2 ∧ Aside0 (impl_parts.l0 kq t317 t319 x10_2 y322 (y322.length : Int) x34_2 = some (r1, r2, r3, r4)) ∧ Aside0 (kq ≤ kj3) ∧ Aside0 (Kd.R Kd.string 9 w' w.heap.size (fun _ => True) (.slice Ao12 t319.length co12) t319) ∧ Aside0 (Kd.R k81 81 w' w.heap.size (fun _ => True) v10 x10_2) ∧ Aside0 (Kd.C Kd.string w' A11 y322.length y322) ∧ Aside0 (Below w.heap.size w w'))
   case atStart => exact ⟨(([] : List (S81))), (0), rs, H', ⟨Nat.le_refl _⟩, ⟨by (with_reducible repeat (first | apply Kd.R_alloc | apply Kd.R_drewN | apply Kd.R_drew)); exact HO_9.out⟩, ⟨by first | exact Kd.R_nil _ _ _ _ _ | exact Kd.N_nil _ _ _ _ _ | exact Kd.V_nil _ _ _ _ _ | exact Kd.Q_nil _ _ _ _ _ | exact Kd.S_nil _ _ _ _ _⟩, ⟨by repeat (first | (with_reducible exact HR325.out) | (with_reducible refine Kd.C_alloc ?_ _) | (with_reducible refine Kd.C_drewN ?_ _) | (with_reducible refine Kd.C_drew ?_) | exact HR325.out)⟩, ⟨u82HB⟩⟩
   case round =>
    clear H'
    try clear c1
    try clear q1
    try clear p2
    try clear c7
    try clear c8
    try clear c9
    try clear c10
    try clear c10b0
    try clear c10b1
    try clear c11
    try clear q11
    try clear p2
    try clear q11
    obtain ⟨x10_2, x34_2, rfl, HA, HK2, HO_9, HO_10, HR325, HB⟩ := hrel
    cases gk with
    | zero => exact absurd HA.out (by simp [impl_parts.l0])
    | succ k2 =>
     have H := HA.out
     clear HA
     simp only [impl_parts.l0] at H
     by_cases c13 : x34_2 < (y322.length : Int)
     rotate_left
     ·rw [if_neg c13] at H
      have c13b0 := decide_eq_false c13
      clear c13
      revert H
      refine ifn fun c27 H => ?_
      have c27b0 := decide_eq_true c27
      have c27b1 : decide (0 < t319.length) = true := decide_eq_true (by omega)
      clear c27
      simp only [Option.some.injEq, Prod.mk.injEq] at H
      obtain ⟨rfl, rfl, rfl, rfl⟩ := H
      have p326 : 0 ≤ (0 : Int) := (by omega)
      have q326 : 0 < (t319.length : Int) := od
      obtain ⟨ad326, e326, hx326_0⟩ := Kd.at_string (Kd.R_reads' HO_9.out).2.2 0 p326 q326
      cases e326
      have qi326 : (0 < t319.length) = True := eq_true (by omega)
      (try rw [show ((0 : Int)).toNat = 0 from rfl] at hx326_0)
      (try rw [Addr.add_zero'] at hx326_0)
      replace p326 := eq_true p326
      replace q326 := eq_true q326
      go_wp2
      refine bodyPost_ret (results_list (rs := [.tmp 2, .tmp 3, .tmp 4, .tmp 5]) rfl (by simp) (.tmp (.tmp (.tmp (.tmp .nil))))) rfl ?_
      exact ⟨_, rf, by (with_reducible repeat (first | apply Kd.R_alloc | apply Kd.R_drewN | apply Kd.R_drew)); exact HO_10.out, bl⟩
     rw [if_pos c13] at H
     have c13b0 := decide_eq_true c13
     clear c13
     revert H
     refine ifn fun c14 H => ?_
     have c14b0 := decide_eq_true c14
     clear c14
     revert H
     refine ifn fun c15 H => ?_
     have c15b0 := decide_eq_true c15
     clear c15
     revert H
     refine ok3 fun t328 t329 t330 A16 H => ?_
     (try dsimp only at H)
     have HH17 := am H
     clear H
     have p327 : 0 ≤ (x34_2 : Int) := od
     have q327 : x34_2 < (y322.length : Int) := od
     obtain ⟨ad327, e327, hx327_0⟩ := Kd.at_string HR325.out x34_2 p327 q327
     cases e327
     replace p327 := eq_true p327
     replace q327 := eq_true q327
     go_upto_if 46 with ((with_reducible refine gw ?_); first | (refine gl 41 Tryz.func99 #[.string (rdOf ByteArray.empty y322 x34_2), .string (⟨#[58, 32]⟩ : ByteArray)] ?_; (with_reducible refine (strings_Cut.calls (rdOf ByteArray.empty y322 x34_2) (⟨#[58, 32]⟩ : ByteArray) t328 t329 t330 _ ?side1 A16.out).mono ?_); (case side1 => exact GLOBM.below HGM.out bl); rintro e w18 ⟨rfl, hb⟩; refine ⟨_, rfl, ?_⟩; replace HO_9 := kr HO_9 hb; replace HO_10 := kr HO_10 hb; replace HR325 := am (Kd.C_below (by repeat (first | (with_reducible exact HR325.out) | (with_reducible refine Kd.C_alloc ?_ _) | (with_reducible refine Kd.C_drewN ?_ _) | (with_reducible refine Kd.C_drew ?_) | exact HR325.out)) hb); replace HB := am (below_step bl hb); clear hb))
     have H := HH17.out
     clear HH17
     by_cases c19 : t330 = true
     rotate_left
     ·replace c19 := Bool.eq_false_iff.mpr c19
      subst c19
      rw [if_neg (show ¬ (false = true) by decide)] at H
      simp only [Option.some.injEq, Prod.mk.injEq] at H
      obtain ⟨rfl, rfl, rfl, rfl⟩ := H
      go_wp2
      refine bodyPost_ret (results_list (rs := [.tmp 2, .tmp 3, .tmp 4, .tmp 5]) rfl (by simp) (.tmp (.tmp (.tmp (.tmp .nil))))) rfl ?_
      exact ⟨_, rf, by first | exact Kd.R_nil _ _ _ _ _ | exact Kd.N_nil _ _ _ _ _ | exact Kd.V_nil _ _ _ _ _ | exact Kd.Q_nil _ _ _ _ _ | exact Kd.S_nil _ _ _ _ _, bl⟩
     subst c19
     rw [if_pos rfl] at H
     by_cases c20 : x34_2 = (wrap64 ((t319.length : Int) - 2))
     rotate_left
     ·rw [if_neg c20] at H
      have c20b0 : (x34_2 == (wrap64 ((t319.length : Int) - 2))) = false := beq_eq_false_iff_ne.mpr c20
      have c20b1 : (x34_2 != (wrap64 ((t319.length : Int) - 2))) = true := bne_iff_ne.mpr c20
      (first | rw [c20b0] | (simp only [i64_w, i32_w]; rw [c20b0]) | skip)
      revert H
      refine ifn fun c25 H => ?_
      have LMc25 := am c25
      clear c25
      obtain ⟨y335, hy335⟩ : ∃ y_ : List (S81), y_ = (x10_2 ++ [(⟨t328, t329⟩ : S81)]) := ⟨_, rfl⟩
      replace H : (impl_parts.l0 k2 t317 t319 y335 y322 (y322.length : Int) (wrap64 (x34_2 + 1))) = some (r1, r2, r3, r4) := by first | (rw [hy335]; with_reducible exact H) | (have H2_ := (Option.bind_some _ _).symm.trans H; rw [hy335]; with_reducible exact H2_) | (have H2_ := (Option.bind_some _ _).symm.trans H; with_reducible exact H2_) | with_reducible exact H | (rw [hy335]; exact H) | exact H
      have Ny335 := am hy335
      clear hy335
      have H' := am H
      clear H
      go_wp2_with (first | ((with_reducible refine gate_builtin (b := .append) (xs := #[.tmp 56, .tmp 60]) rfl ?_); (try (refine gate_guard (by rfl) ?_; dsimp only)); at_builtin; refine Kd.R_append k81 (w0 := w) w.heap.size rfl (.tmp 56) (.tmp 60) 38 81 (.agg #[(.string ⟨#[]⟩), (.string ⟨#[]⟩)]) 32 rfl Tryz.underlying38 info81 rfl (by decide) (by omega) u10 x10_2 (⟨t328, t329⟩ : S81) [.string t328, .string t329] (fun _ => True) (fun _ => False) rfl rfl ?aP (fun _ hk => hk.elim) ?aF ?aO ?aB ?aS ?aL ?_; (case aP => exact k81_mkM _ _ _ (⟨t328, t329⟩ : S81)); (case aB => exact bl); (case aF => exact (fun _ _ => trivial)); (case aO => exact (ro HO_10)); (case aS => exact (below_size bl)); (case aL => have := LMc25.out; omega); intro v336 w26 ho hb hg hat; rw [← Ny335.out] at ho; have n0_ := am (Kd.R_over' (ro HO_9) (Kd.R_typed (ro HO_10)) (by decide) hg); have n1_ := am (hb); have n2_ := am ((show Kd.C Kd.string w26 (some ad327) y322.length y322 from by rw [Ny322.out, KA11.out]; exact Kd.C_drop (m := 1) (c := co12) ((Kd.R_reads' (Kd.R_over' (ro HO_9) (Kd.R_typed (ro HO_10)) (by decide) hg)).2.2) KL11.out ((Kd.R_reads' (Kd.R_over' (ro HO_9) (Kd.R_typed (ro HO_10)) (by decide) hg)).2.1))); have n3_ := am (ho); clear HO_9; clear HB; clear HR325; clear HO_10; have HO_9 := n0_; have HB := n1_; have HR325 := n2_; have HO337 := n3_; clear n0_ n1_ n2_ n3_; clear ho hb hg hat))
      go_roundg k2
      case measure => have := HJ3.out; have := HK2.out; omega
      case rel => exact ⟨(y335), (wrap64 (x34_2 + 1)), rs, H', ⟨by have := HJ3.out; have := HK2.out; omega⟩, ⟨by (with_reducible repeat (first | apply Kd.R_alloc | apply Kd.R_drewN | apply Kd.R_drew)); exact HO_9.out⟩, ⟨by (with_reducible repeat (first | apply Kd.R_alloc | apply Kd.R_drewN | apply Kd.R_drew)); exact HO337.out⟩, ⟨by repeat (first | (with_reducible exact HR325.out) | (with_reducible refine Kd.C_alloc ?_ _) | (with_reducible refine Kd.C_drewN ?_ _) | (with_reducible refine Kd.C_drew ?_) | exact HR325.out)⟩, ⟨u82HB⟩⟩
     rw [if_pos c20] at H
     have c20b0 : (x34_2 == (wrap64 ((t319.length : Int) - 2))) = true := beq_iff_eq.mpr c20
     have c20b1 : (x34_2 != (wrap64 ((t319.length : Int) - 2))) = false := bne_eq_false_iff_eq.mpr c20
     clear c20
     (first | rw [c20b0] | (simp only [i64_w, i32_w]; rw [c20b0]) | skip)
     by_cases c21 : t328.toList = ([99, 111, 110, 116, 101, 110, 116, 45, 108, 101, 110, 103, 116, 104] : List UInt8)
     ·rw [if_pos c21] at H
      have c21b0 : (t328.toList == ([99, 111, 110, 116, 101, 110, 116, 45, 108, 101, 110, 103, 116, 104] : List UInt8)) = true := beq_iff_eq.mpr c21
      have c21b1 : (t328.toList != ([99, 111, 110, 116, 101, 110, 116, 45, 108, 101, 110, 103, 116, 104] : List UInt8)) = false := bne_eq_false_iff_eq.mpr c21
      clear c21
      revert H
      refine ifn fun c22 H => ?_
      have c22b0 := decide_eq_true c22
      have c22b1 : decide (0 < t319.length) = true := decide_eq_true (by omega)
      clear c22
      simp only [Option.some.injEq, Prod.mk.injEq] at H
      obtain ⟨rfl, rfl, rfl, rfl⟩ := H
      have p331 : 0 ≤ (0 : Int) := (by omega)
      have q331 : 0 < (t319.length : Int) := od
      obtain ⟨ad331, e331, hx331_0⟩ := Kd.at_string (Kd.R_reads' HO_9.out).2.2 0 p331 q331
      cases e331
      have qi331 : (0 < t319.length) = True := eq_true (by omega)
      (try rw [show ((0 : Int)).toNat = 0 from rfl] at hx331_0)
      (try rw [Addr.add_zero'] at hx331_0)
      replace p331 := eq_true p331
      replace q331 := eq_true q331
      go_wp2
      refine bodyPost_ret (results_list (rs := [.tmp 2, .tmp 3, .tmp 4, .tmp 5]) rfl (by simp) (.tmp (.tmp (.tmp (.tmp .nil))))) rfl ?_
      exact ⟨_, rf, by (with_reducible repeat (first | apply Kd.R_alloc | apply Kd.R_drewN | apply Kd.R_drew)); exact HO_10.out, bl⟩
     rw [if_neg c21] at H
     have c21b0 : (t328.toList == ([99, 111, 110, 116, 101, 110, 116, 45, 108, 101, 110, 103, 116, 104] : List UInt8)) = false := beq_eq_false_iff_ne.mpr c21
     have c21b1 : (t328.toList != ([99, 111, 110, 116, 101, 110, 116, 45, 108, 101, 110, 103, 116, 104] : List UInt8)) = true := bne_iff_ne.mpr c21
     revert H
     refine ifn fun c23 H => ?_
     have LMc23 := am c23
     clear c23
     obtain ⟨y332, hy332⟩ : ∃ y_ : List (S81), y_ = (x10_2 ++ [(⟨t328, t329⟩ : S81)]) := ⟨_, rfl⟩
     replace H : (impl_parts.l0 k2 t317 t319 y332 y322 (y322.length : Int) (wrap64 (x34_2 + 1))) = some (r1, r2, r3, r4) := by first | (rw [hy332]; with_reducible exact H) | (have H2_ := (Option.bind_some _ _).symm.trans H; rw [hy332]; with_reducible exact H2_) | (have H2_ := (Option.bind_some _ _).symm.trans H; with_reducible exact H2_) | with_reducible exact H | (rw [hy332]; exact H) | exact H
     have Ny332 := am hy332
     clear hy332
     have H' := am H
     clear H
     go_wp2_with (first | ((with_reducible refine gate_builtin (b := .append) (xs := #[.tmp 56, .tmp 60]) rfl ?_); (try (refine gate_guard (by rfl) ?_; dsimp only)); at_builtin; refine Kd.R_append k81 (w0 := w) w.heap.size rfl (.tmp 56) (.tmp 60) 38 81 (.agg #[(.string ⟨#[]⟩), (.string ⟨#[]⟩)]) 32 rfl Tryz.underlying38 info81 rfl (by decide) (by omega) u10 x10_2 (⟨t328, t329⟩ : S81) [.string t328, .string t329] (fun _ => True) (fun _ => False) rfl rfl ?aP (fun _ hk => hk.elim) ?aF ?aO ?aB ?aS ?aL ?_; (case aP => exact k81_mkM _ _ _ (⟨t328, t329⟩ : S81)); (case aB => exact bl); (case aF => exact (fun _ _ => trivial)); (case aO => exact (ro HO_10)); (case aS => exact (below_size bl)); (case aL => have := LMc23.out; omega); intro v333 w24 ho hb hg hat; rw [← Ny332.out] at ho; have n0_ := am (Kd.R_over' (ro HO_9) (Kd.R_typed (ro HO_10)) (by decide) hg); have n1_ := am (hb); have n2_ := am ((show Kd.C Kd.string w24 (some ad327) y322.length y322 from by rw [Ny322.out, KA11.out]; exact Kd.C_drop (m := 1) (c := co12) ((Kd.R_reads' (Kd.R_over' (ro HO_9) (Kd.R_typed (ro HO_10)) (by decide) hg)).2.2) KL11.out ((Kd.R_reads' (Kd.R_over' (ro HO_9) (Kd.R_typed (ro HO_10)) (by decide) hg)).2.1))); have n3_ := am (ho); clear HO_9; clear HB; clear HR325; clear HO_10; have HO_9 := n0_; have HB := n1_; have HR325 := n2_; have HO334 := n3_; clear n0_ n1_ n2_ n3_; clear ho hb hg hat))
     go_roundg k2
     case measure => have := HJ3.out; have := HK2.out; omega
     case rel => exact ⟨(y332), (wrap64 (x34_2 + 1)), rs, H', ⟨by have := HJ3.out; have := HK2.out; omega⟩, ⟨by (with_reducible repeat (first | apply Kd.R_alloc | apply Kd.R_drewN | apply Kd.R_drew)); exact HO_9.out⟩, ⟨by (with_reducible repeat (first | apply Kd.R_alloc | apply Kd.R_drewN | apply Kd.R_drew)); exact HO334.out⟩, ⟨by repeat (first | (with_reducible exact HR325.out) | (with_reducible refine Kd.C_alloc ?_ _) | (with_reducible refine Kd.C_drewN ?_ _) | (with_reducible refine Kd.C_drew ?_) | exact HR325.out)⟩, ⟨u82HB⟩⟩

/-! ### impl_ReqRead: function 62 -/
theorem u62HB {p : Prop} (h : p := by repeat (first | (with_reducible first | exact HB.out | apply below_alloc | apply pw_below_drewN | apply below_drew1 | refine below_set ?_ GE338.out | refine below_set ?_ GE349.out) | exact HB.out)) : p := h
mutual
def impl_ReqRead.j0 : Nat → ByteArray → List (S81) → ByteArray → List ByteArray → Bool → Option (Int × ByteArray × (List (S81)) × ByteArray × Bool)
 | 0, _, _, _, _, _ => none
 | k + 1, x0, x5, x6, x8, x26 => if x26 = true then (some (0, (⟨#[]⟩ : ByteArray), ([] : List (S81)), (⟨#[]⟩ : ByteArray), false)) else (if 1 < (x8.length : Int) then (impl_ReqRead.l0 k x0 x8 1 0 (rdOf ByteArray.empty x8 1) x5 x6) else (none))
def impl_ReqRead.l0 : Nat → ByteArray → List ByteArray → Int → Int → ByteArray → List (S81) → ByteArray → Option (Int × ByteArray × (List (S81)) × ByteArray × Bool)
 | 0, _, _, _, _, _, _, _ => none
 | k + 1, x0, x8, x10, x350000, x350001, x350002, x350003 => if x10 ≤ 4 then ((impl_methodText.f x10).bind fun t350 => (if 0 < (x8.length : Int) then (if t350.toList = (rdOf ByteArray.empty x8 0).toList then (impl_ReqRead.l0 k x0 x8 (wrap64 (x10 + 1)) x10 x350001 x350002 x350003) else (impl_ReqRead.l0 k x0 x8 (wrap64 (x10 + 1)) x350000 x350001 x350002 x350003)) else (none))) else (if x0.toList = ([] : List UInt8) then (some (0, (⟨#[]⟩ : ByteArray), ([] : List (S81)), (⟨#[]⟩ : ByteArray), false)) else ((impl_ReqText.f k x350000 x350001 x350002 x350003).bind fun t352 => (if t352.toList = x0.toList then (some (x350000, x350001, x350002, x350003, true)) else (some (0, (⟨#[]⟩ : ByteArray), ([] : List (S81)), (⟨#[]⟩ : ByteArray), false)))))
end
def impl_ReqRead.f (k : Nat) (a0 : ByteArray) : Option (Int × ByteArray × (List (S81)) × ByteArray × Bool) := (impl_parts.f k a0).bind fun bt339 => ((strings_Split.f bt339.1 (⟨#[32]⟩ : ByteArray)).bind fun t345 => (if bt339.2.2.2 = true then (impl_ReqRead.j0 k a0 bt339.2.1 bt339.2.2.1 t345 ((t345.length : Int) != 3)) else (impl_ReqRead.j0 k a0 bt339.2.1 bt339.2.2.1 t345 true)))
set_option maxHeartbeats 8000000 in
set_option maxRecDepth 100000 in
theorem impl_ReqRead.calls (k : Nat) (a0 : ByteArray) (r1 : Int) (r2 : ByteArray) (r3 : List (S81)) (r4 : ByteArray) (r5 : Bool) (w : World) (hGM : GLOBM w) (hGT : GLOBT w) (h : impl_ReqRead.f k a0 = some (r1, r2, r3, r4, r5)) :
  Calls Tryz.prog 62 #[.string a0] w fun e w' => ∃ v2_ : Value, e = .returned (.tuple #[.agg #[.int .i64 r1, .string r2, v2_, .string r4], .bool r5]) ∧ Kd.R k81 81 w' w.heap.size (fun _ => True) v2_ r3 ∧ Below w.heap.size w w' := by
 have hu40 := Tryz.underlying40
 have HGM := am hGM
 clear hGM
 have HGT := am hGT
 clear hGT
 have HB := am (Below.refl w.heap.size w)
 unfold impl_ReqRead.f at h
 have H := h
 clear h
 revert H
 refine ok4 fun t339 t340 t341 t342 A2 H => ?_
 (try dsimp only at H)
 revert H
 refine ok1 fun t345 A3 H => ?_
 have HC4 := am H
 clear H
 go_enter Tryz.func62, Tryz.ntmps62
 go_upto_region 3 with (first | ((with_reducible refine gate_dst (N := 2) rfl ?_); (try (refine gate_guard (by rfl) ?_; dsimp only)); refine box_event ?hg (N := 2) ?hd (cs := #[.int .i64 0, .string (⟨#[]⟩ : ByteArray), .slice none 0 0, .string (⟨#[]⟩ : ByteArray)]) (t := 40) ?hr ?_; (case hd => rfl); (case hg => rfl); (case hr => first | (go_simp; done) | (go_simp; rfl)); intro gb338 hg w5 hbox hb; have BK338 := am (hbox); have GW338 := am (sz hg : w.heap.size ≤ gb338); have GE338 := am (sz hg : w.heap.size ≤ gb338); replace HB := am (below_step bl hb); clear hb hbox hg) | ((with_reducible refine gw ?_); first | (refine gl 13 Tryz.func82 #[.string a0] ?_; (with_reducible refine (impl_parts.calls k a0 t339 t340 t341 t342 _ ?side1 A2.out).mono ?_); (case side1 => exact GLOBM.below HGM.out bl); rintro e w6 ⟨v343, rfl, ho0, hb⟩; refine ⟨_, rfl, ?_⟩; have HO344 := am (Kd.R_lower ho0 (below_size bl)); replace BK338 := kb BK338 hb; replace HB := am (below_step bl hb); clear hb ho0) | (refine gl 19 Tryz.func79 #[.string t339, .string (⟨#[32]⟩ : ByteArray)] ?_; (with_reducible refine (strings_Split.calls t339 (⟨#[32]⟩ : ByteArray) t345 _ ?side1 A3.out).mono ?_); (case side1 => exact GLOBM.below HGM.out bl); rintro e w7 ⟨v346, rfl, ho0, hb⟩; refine ⟨_, rfl, ?_⟩; replace HO344 := kr HO344 hb; have HO347 := am (Kd.R_lower ho0 (below_size bl)); replace BK338 := kb BK338 hb; replace HB := am (below_step bl hb); clear hb ho0)))
 (try simp only [Act.put, List.setIfInBounds_toArray, List.set_cons_zero, List.set_cons_succ])
 go_cut [26] (fun v26 wc => ∃ (kq : Nat) (x26_3 : Bool), v26 = .bool x26_3 ∧ Aside0 (impl_ReqRead.j0 kq a0 t340 t341 t345 x26_3 = some (r1, r2, r3, r4, r5)) ∧ Aside0 (kq ≤ k) ∧ Aside0 (Kd.R k81 81 wc w.heap.size (fun _ => True) v343 t340) ∧ Aside0 (Kd.R Kd.string 9 wc w.heap.size (fun _ => True) v346 t345) ∧ Aside0 (wc.heap[gb338]? = some (.cells #[.int .i64 0, .string (⟨#[]⟩ : ByteArray), (.slice none 0 0), .string (⟨#[]⟩ : ByteArray)] 40 (0, 0))) ∧ Aside0 (Below w.heap.size w wc))
 case first =>
  have H := HC4.out
  clear HC4
  by_cases c8 : t342 = true
  rotate_left
  ·replace c8 := Bool.eq_false_iff.mpr c8
   subst c8
   rw [if_neg (show ¬ (false = true) by decide)] at H
   have H' := am H
   clear H
   go_wp2
   go_meet
   case rel => exact ⟨_, (true), rs, H', ⟨by first | omega | exact Nat.le_refl _⟩, ⟨by (with_reducible repeat (first | apply Kd.R_alloc | apply Kd.R_drewN | apply Kd.R_drew)); exact HO344.out⟩, ⟨by (with_reducible repeat (first | apply Kd.R_alloc | apply Kd.R_drewN | apply Kd.R_drew)); exact HO347.out⟩, ⟨by (with_reducible repeat (first | refine blk_drewN ?_ _ | refine blk_drew ?_ | refine blk_alloc ?_ _)); exact BK338.out⟩, ⟨u62HB⟩⟩
  subst c8
  rw [if_pos rfl] at H
  have H' := am H
  clear H
  obtain ⟨Ao9, co9, eo9⟩ := Kd.R_slice HO347.out
  subst eo9
  go_wp2
  go_meet
  case rel => exact ⟨_, (((t345.length : Int) != 3)), rs, H', ⟨by first | omega | exact Nat.le_refl _⟩, ⟨by (with_reducible repeat (first | apply Kd.R_alloc | apply Kd.R_drewN | apply Kd.R_drew)); exact HO344.out⟩, ⟨by (with_reducible repeat (first | apply Kd.R_alloc | apply Kd.R_drewN | apply Kd.R_drew)); exact HO347.out⟩, ⟨by (with_reducible repeat (first | refine blk_drewN ?_ _ | refine blk_drew ?_ | refine blk_alloc ?_ _)); exact BK338.out⟩, ⟨u62HB⟩⟩
 case rest =>
  clear HC4
  try clear p2
  try clear c6
  try clear c7
  try clear c8
  obtain ⟨kq, x26_3, rfl, HA, HJ3, HO_5, HO_8, BK338, HB⟩ := hcut
  cases kq with
  | zero => exact absurd HA.out (by simp [impl_ReqRead.j0])
  | succ kj3 =>
   have H := HA.out
   clear HA
   simp only [impl_ReqRead.j0] at H
   by_cases c10 : x26_3 = true
   ·subst c10
    rw [if_pos rfl] at H
    simp only [Option.some.injEq, Prod.mk.injEq] at H
    obtain ⟨rfl, rfl, rfl, rfl, rfl⟩ := H
    obtain ⟨z11_0, y11_0, z11_1, y11_1, z11_2, y11_2, z11_3, y11_3⟩ := cl4 BK338
    go_wp2
    refine bodyPost_ret (results_ct rfl _ _ gb338 40 #[.int .i64 0, .string (⟨#[]⟩ : ByteArray), .slice none 0 0, .string (⟨#[]⟩ : ByteArray)] (0, 0) _ rfl (pt0 BK338) Tryz.underlying40 rfl (by kernel_rfl)) rfl ?_
    exact ⟨_, rf, by first | exact Kd.R_nil _ _ _ _ _ | exact Kd.N_nil _ _ _ _ _ | exact Kd.V_nil _ _ _ _ _ | exact Kd.Q_nil _ _ _ _ _ | exact Kd.S_nil _ _ _ _ _, bl⟩
   replace c10 := Bool.eq_false_iff.mpr c10
   subst c10
   rw [if_neg (show ¬ (false = true) by decide)] at H
   revert H
   refine ifn fun c12 H => ?_
   have c12b0 := decide_eq_true c12
   have c12b1 : decide (1 < t345.length) = true := decide_eq_true (by omega)
   clear c12
   have H' := am H
   clear H
   obtain ⟨Ao13, co13, eo13⟩ := Kd.R_slice HO_8.out
   subst eo13
   have p348 : 0 ≤ (1 : Int) := (by omega)
   have q348 : 1 < (t345.length : Int) := od
   obtain ⟨ad348, e348, hx348_0⟩ := Kd.at_string (Kd.R_reads' HO_8.out).2.2 1 p348 q348
   cases e348
   (try simp only [show (1 : Int).toNat = 1 from rfl, Nat.reduceMul, Nat.reduceEqDiff, Go.Addr.add, ↓reduceIte] at hx348_0)
   have qi348 : (1 < t345.length) = True := eq_true (by omega)
   (try rw [show ((1 : Int)).toNat = 1 from rfl] at hx348_0)
   replace p348 := eq_true p348
   replace q348 := eq_true q348
   obtain ⟨Ao14, co14, eo14⟩ := Kd.R_slice HO_5.out
   subst eo14
   go_wp2_with (first | ((with_reducible refine gate_dst (N := 9) rfl ?_); (try (refine gate_guard (by rfl) ?_; dsimp only)); refine box_event ?hg (N := 9) ?hd (cs := #[.int .i64 0, .string (⟨#[]⟩ : ByteArray), .slice none 0 0, .string (⟨#[]⟩ : ByteArray)]) (t := 40) ?hr ?_; (case hd => rfl); (case hg => rfl); (case hr => first | (go_simp; done) | (go_simp; rfl)); intro gb349 hg w15 hbox hb; replace HO_5 := am (Kd.R_below (ro HO_5) hb); replace HO_8 := am (Kd.R_below (ro HO_8) hb); have BK349 := am (hbox); have GW349 := am (sz hg : w.heap.size ≤ gb349); have GE349 := am (sz hg : w.heap.size ≤ gb349); replace HB := am (below_step bl hb); have NB338_349 := am (nl hg BK338 : gb338 ≠ gb349); have NB349_338 := am (ng hg BK338 : gb349 ≠ gb338); replace BK338 := kb BK338 hb; clear hb hbox hg; have hnb16 := NB349_338.out; have hnc16 := NB338_349.out; obtain ⟨z17_0, y17_0, z17_1, y17_1, z17_2, y17_2, z17_3, y17_3⟩ := cl4 BK349))
   (try simp only [Act.put, List.setIfInBounds_toArray, List.set_cons_zero, List.set_cons_succ])
   go_loopg [10] kj3 (fun kq v10 w' => ∃ (x10_2 : Int) (x350000_2 : Int), v10 = .int .i64 x10_2 ∧ Aside0 (impl_ReqRead.l0 kq a0 t345 x10_2 x350000_2 (rdOf ByteArray.empty t345 1) t340 t341 = some (r1, r2, r3, r4, r5)) ∧ Aside0 (kq ≤ kj3) ∧ Aside0 (Kd.R Kd.string 9 w' w.heap.size (fun _ => True) (.slice (some ad348) t345.length co13) t345) ∧ Aside0 (Kd.R k81 81 w' w.heap.size (fun _ => True) (.slice Ao14 t340.length co14) t340) ∧ Aside0 (w'.heap[gb338]? = some (.cells #[.int .i64 0, .string (⟨#[]⟩ : ByteArray), (.slice none 0 0), .string (⟨#[]⟩ : ByteArray)] 40 (0, 0))) ∧ Aside0 (w'.heap[gb349]? = some (.cells #[.int .i64 x350000_2, .string (rdOf ByteArray.empty t345 1), (.slice Ao14 t340.length co14), .string t341] 40 (0, 0))) ∧ Aside0 (Below w.heap.size w w'))
   case atStart => exact ⟨(1), (0), rs, H', ⟨Nat.le_refl _⟩, ⟨rj (Kd.R_types HO_8.out BK349.out (by decide)) (fun _ hk => trivial)⟩, ⟨rj (Kd.R_types HO_5.out BK349.out (by decide)) (fun _ hk => trivial)⟩, ⟨by (with_reducible repeat (first | refine blk_drewN ?_ _ | refine blk_drew ?_ | refine blk_alloc ?_ _)); refine blk_far ?_ NB338_349.out _; (with_reducible repeat (first | refine blk_drewN ?_ _ | refine blk_drew ?_ | refine blk_alloc ?_ _)); refine blk_far ?_ NB338_349.out _; (with_reducible repeat (first | refine blk_drewN ?_ _ | refine blk_drew ?_ | refine blk_alloc ?_ _)); refine blk_far ?_ NB338_349.out _; (with_reducible repeat (first | refine blk_drewN ?_ _ | refine blk_drew ?_ | refine blk_alloc ?_ _)); refine blk_far ?_ NB338_349.out _; (with_reducible repeat (first | refine blk_drewN ?_ _ | refine blk_drew ?_ | refine blk_alloc ?_ _)); exact BK338.out⟩, ⟨pt0 BK349⟩, ⟨u62HB⟩⟩
   case round =>
    clear H'
    try clear c1
    try clear p2
    try clear p3
    try clear q3
    try clear hx3
    try clear qi3
    try clear c6
    try clear c7
    try clear c8
    try clear c10
    try clear c12
    try clear c12b0
    try clear c12b1
    try clear c16
    try clear z11_0
    try clear z11_1
    try clear z11_2
    try clear z11_3
    try clear z17_0
    try clear z17_1
    try clear z17_2
    try clear z17_3
    try clear y11_0
    try clear y11_1
    try clear y11_2
    try clear y11_3
    try clear y17_0
    try clear y17_1
    try clear y17_2
    try clear y17_3
    try clear hx348_0
    try clear p2
    try clear p348
    try clear q348
    obtain ⟨x10_2, x350000_2, rfl, HA, HK2, HO_8, HO_350002, BK338, BK349, HB⟩ := hrel
    cases gk with
    | zero => exact absurd HA.out (by simp [impl_ReqRead.l0])
    | succ k2 =>
     have H := HA.out
     clear HA
     simp only [impl_ReqRead.l0] at H
     by_cases c18 : x10_2 ≤ 4
     rotate_left
     ·rw [if_neg c18] at H
      have c18b0 := decide_eq_false c18
      clear c18
      by_cases c27 : a0.toList = ([] : List UInt8)
      ·rw [if_pos c27] at H
       have c27b0 : (a0.toList == ([] : List UInt8)) = true := beq_iff_eq.mpr c27
       have c27b1 : (a0.toList != ([] : List UInt8)) = false := bne_eq_false_iff_eq.mpr c27
       clear c27
       simp only [Option.some.injEq, Prod.mk.injEq] at H
       obtain ⟨rfl, rfl, rfl, rfl, rfl⟩ := H
       have hnb28 := NB338_349.out
       have hnc28 := NB349_338.out
       obtain ⟨z29_0, y29_0, z29_1, y29_1, z29_2, y29_2, z29_3, y29_3⟩ := cl4 BK338
       go_wp2
       refine bodyPost_ret (results_ct rfl _ _ gb338 40 #[.int .i64 0, .string (⟨#[]⟩ : ByteArray), .slice none 0 0, .string (⟨#[]⟩ : ByteArray)] (0, 0) _ rfl (pt0 BK338) Tryz.underlying40 rfl (by kernel_rfl)) rfl ?_
       exact ⟨_, rf, by first | exact Kd.R_nil _ _ _ _ _ | exact Kd.N_nil _ _ _ _ _ | exact Kd.V_nil _ _ _ _ _ | exact Kd.Q_nil _ _ _ _ _ | exact Kd.S_nil _ _ _ _ _, bl⟩
      rw [if_neg c27] at H
      have c27b0 : (a0.toList == ([] : List UInt8)) = false := beq_eq_false_iff_ne.mpr c27
      have c27b1 : (a0.toList != ([] : List UInt8)) = true := bne_iff_ne.mpr c27
      revert H
      refine ok1 fun t352 A30 H => ?_
      by_cases c31 : t352.toList = a0.toList
      rotate_left
      ·rw [if_neg c31] at H
       have c31b0 : (t352.toList == a0.toList) = false := beq_eq_false_iff_ne.mpr c31
       have c31b1 : (t352.toList != a0.toList) = true := bne_iff_ne.mpr c31
       simp only [Option.some.injEq, Prod.mk.injEq] at H
       obtain ⟨rfl, rfl, rfl, rfl, rfl⟩ := H
       have hnb37 := NB349_338.out
       have hnc37 := NB338_349.out
       obtain ⟨z38_0, y38_0, z38_1, y38_1, z38_2, y38_2, z38_3, y38_3⟩ := cl4 BK349
       go_wp2_with (first | (go_at_call 14; (with_reducible refine (impl_ReqText.calls k2 x350000_2 (rdOf ByteArray.empty t345 1) _ _ t340 t341 t352 _ ?side1 ?side2 ?side3 A30.out).mono ?_); (case side1 => exact GLOBT.below HGT.out bl); (case side2 => exact rc HO_350002); (case side3 => exact (Kd.R_reads' HO_350002.out).2.1); rintro e w39 ⟨rfl, hb⟩; replace HO_8 := kr HO_8 hb; replace HO_350002 := kr HO_350002 hb; replace BK338 := kb BK338 hb; replace BK349 := kb BK349 hb; replace HB := am (below_step bl hb); clear hb; obtain ⟨z40_0, y40_0, z40_1, y40_1, z40_2, y40_2, z40_3, y40_3⟩ := cl4 BK338))
       refine bodyPost_ret (results_ct rfl _ _ gb338 40 #[.int .i64 0, .string (⟨#[]⟩ : ByteArray), .slice none 0 0, .string (⟨#[]⟩ : ByteArray)] (0, 0) _ rfl (pt0 BK338) Tryz.underlying40 rfl (by kernel_rfl)) rfl ?_
       exact ⟨_, rf, by first | exact Kd.R_nil _ _ _ _ _ | exact Kd.N_nil _ _ _ _ _ | exact Kd.V_nil _ _ _ _ _ | exact Kd.Q_nil _ _ _ _ _ | exact Kd.S_nil _ _ _ _ _, bl⟩
      rw [if_pos c31] at H
      have c31b0 : (t352.toList == a0.toList) = true := beq_iff_eq.mpr c31
      have c31b1 : (t352.toList != a0.toList) = false := bne_eq_false_iff_eq.mpr c31
      clear c31
      simp only [Option.some.injEq, Prod.mk.injEq] at H
      obtain ⟨rfl, rfl, rfl, rfl, rfl⟩ := H
      have hnb32 := NB349_338.out
      have hnc32 := NB338_349.out
      obtain ⟨z33_0, y33_0, z33_1, y33_1, z33_2, y33_2, z33_3, y33_3⟩ := cl4 BK349
      go_wp2_with (first | (go_at_call 14; (with_reducible refine (impl_ReqText.calls k2 x350000_2 (rdOf ByteArray.empty t345 1) _ _ t340 t341 t352 _ ?side1 ?side2 ?side3 A30.out).mono ?_); (case side1 => exact GLOBT.below HGT.out bl); (case side2 => exact rc HO_350002); (case side3 => exact (Kd.R_reads' HO_350002.out).2.1); rintro e w34 ⟨rfl, hb⟩; replace HO_8 := kr HO_8 hb; replace HO_350002 := kr HO_350002 hb; replace BK338 := kb BK338 hb; replace BK349 := kb BK349 hb; replace HB := am (below_step bl hb); clear hb; obtain ⟨z35_0, y35_0, z35_1, y35_1, z35_2, y35_2, z35_3, y35_3⟩ := cl4 BK349; obtain ⟨z36_0, y36_0, z36_1, y36_1, z36_2, y36_2, z36_3, y36_3⟩ := cl4 BK338))
      refine bodyPost_ret (results_ct rfl _ _ gb338 40 #[.int .i64 x350000_2, .string (rdOf ByteArray.empty t345 1), .slice Ao14 t340.length co14, .string t341] (0, 0) _ rfl (pt0 BK338) Tryz.underlying40 rfl (by kernel_rfl)) rfl ?_
      exact ⟨_, rf, rj (Kd.R_types HO_350002.out BK338.out (by decide)) (fun _ hk => trivial), bl⟩
     rw [if_pos c18] at H
     have c18b0 := decide_eq_true c18
     clear c18
     revert H
     refine ok1 fun t350 A19 H => ?_
     revert H
     refine ifn fun c20 H => ?_
     have c20b0 := decide_eq_true c20
     have c20b1 : decide (0 < t345.length) = true := decide_eq_true (by omega)
     clear c20
     have HH21 := am H
     clear H
     try go_wp2
     replace HO_8 := am (Kd.R_drew HO_8.out)
     replace HO_350002 := am (Kd.R_drew HO_350002.out)
     replace BK338 := am (blk_drew BK338.out)
     replace BK349 := am (blk_drew BK349.out)
     replace HB := am (below_drew1 HB.out)
     have p351 : 0 ≤ (0 : Int) := (by omega)
     have q351 : 0 < (t345.length : Int) := od
     obtain ⟨ad351, e351, hx351_0⟩ := Kd.at_string (Kd.R_reads' HO_8.out).2.2 0 p351 q351
     obtain rfl : ad348 = ad351 := (by injection e351)
     have qi351 : (0 < t345.length) = True := eq_true (by omega)
     (try rw [show ((0 : Int)).toNat = 0 from rfl] at hx351_0)
     (try rw [Addr.add_zero'] at hx351_0)
     replace p351 := eq_true p351
     replace q351 := eq_true q351
     refine start_ (n := 6) (S := fun w' => w'.cell? ad348 = some (.string (rdOf ByteArray.empty t345 0))) (ds := []) ⟨br true [0, 6]⟩ (by kernel_rfl) rfl (by kernel_rfl) (hx351_0) (fun hHeld => ?_)
     generalize wr.drew = w22 at HO_8 HO_350002 BK338 BK349 HB hx351_0 hHeld ⊢
     refine pu 0 38 [1, 5] ?_
     refine pu 2 40 [1, 1, 1, 3] ?_
     refine pu 3 41 [1, 1, 2, 2] ?_
     refine take_ (i := 4) (N := some 42) (v := ?_) (a' := ?_) #[true, false, true, true, true, false] rfl rfl (by kernel_rfl) (fun _ _ _ h => h) (Or.inl ⟨by rfl, ?_⟩) hHeld ?_ ?_
     rotate_left
     ·intro w' s0
      go_simp
      with_reducible rfl
     rotate_left
     ·simp only [Act.put, List.setIfInBounds_toArray, List.set_cons_zero, List.set_cons_succ, i64_w, i32_w]
      rfl
     refine og 1 39 [5, 1] Tryz.func43 #[.int .i64 x10_2] (fun K hK => ?_)
     with_reducible refine (impl_methodText.calls x10_2 t350 _ A19.out).mono ?_
     rintro e w23 ⟨rfl, hb⟩
     have HS0_ := (hb.cell (World.block_lt_of_cell? _ _ (hHeld))).trans (hHeld)
     refine ⟨_, rfl, ?_⟩
     replace HO_8 := kr HO_8 hb
     replace HO_350002 := kr HO_350002 hb
     replace BK338 := kb BK338 hb
     replace BK349 := kb BK349 hb
     replace HB := am (below_step bl hb)
     clear hb
     refine hK.out _ _ (HS0_) (fun hHeld => ?_)
     clear hK K
     refine nm 39 ?_
     refine pu 5 43 [6] ?_
     refine done_ (by kernel_rfl) ?_
     go_upto_if 43 with (fail)
     have H := HH21.out
     clear HH21
     by_cases c24 : t350.toList = (rdOf ByteArray.empty t345 0).toList
     rotate_left
     ·rw [if_neg c24] at H
      have c24b0 : (t350.toList == (rdOf ByteArray.empty t345 0).toList) = false := beq_eq_false_iff_ne.mpr c24
      have c24b1 : (t350.toList != (rdOf ByteArray.empty t345 0).toList) = true := bne_iff_ne.mpr c24
      (first | rw [c24b0] | (simp only [i64_w, i32_w]; rw [c24b0]) | skip)
      have H' := am H
      clear H
      go_wp2
      go_roundg k2
      case measure => have := HJ3.out; have := HK2.out; omega
      case rel => exact ⟨(wrap64 (x10_2 + 1)), (x350000_2), rs, H', ⟨by have := HJ3.out; have := HK2.out; omega⟩, ⟨by (with_reducible repeat (first | apply Kd.R_alloc | apply Kd.R_drewN | apply Kd.R_drew)); exact HO_8.out⟩, ⟨by (with_reducible repeat (first | apply Kd.R_alloc | apply Kd.R_drewN | apply Kd.R_drew)); exact HO_350002.out⟩, ⟨by (with_reducible repeat (first | refine blk_drewN ?_ _ | refine blk_drew ?_ | refine blk_alloc ?_ _)); exact BK338.out⟩, ⟨by (with_reducible repeat (first | refine blk_drewN ?_ _ | refine blk_drew ?_ | refine blk_alloc ?_ _)); exact BK349.out⟩, ⟨u62HB⟩⟩
     rw [if_pos c24] at H
     have c24b0 : (t350.toList == (rdOf ByteArray.empty t345 0).toList) = true := beq_iff_eq.mpr c24
     have c24b1 : (t350.toList != (rdOf ByteArray.empty t345 0).toList) = false := bne_eq_false_iff_eq.mpr c24
     clear c24
     (first | rw [c24b0] | (simp only [i64_w, i32_w]; rw [c24b0]) | skip)
     have H' := am H
     clear H
     have hnb25 := NB349_338.out
     have hnc25 := NB338_349.out
     obtain ⟨z26_0, y26_0, z26_1, y26_1, z26_2, y26_2, z26_3, y26_3⟩ := cl4 BK349
     go_wp2
     go_roundg k2
     case measure => have := HJ3.out; have := HK2.out; omega
     case rel => exact ⟨(wrap64 (x10_2 + 1)), (x10_2), rs, H', ⟨by have := HJ3.out; have := HK2.out; omega⟩, ⟨rj (Kd.R_types HO_8.out BK349.out (by decide)) (fun _ hk => trivial)⟩, ⟨rj (Kd.R_types HO_350002.out BK349.out (by decide)) (fun _ hk => trivial)⟩, ⟨by (with_reducible repeat (first | refine blk_drewN ?_ _ | refine blk_drew ?_ | refine blk_alloc ?_ _)); refine blk_far ?_ NB338_349.out _; (with_reducible repeat (first | refine blk_drewN ?_ _ | refine blk_drew ?_ | refine blk_alloc ?_ _)); exact BK338.out⟩, ⟨pt0 BK349⟩, ⟨u62HB⟩⟩

/-- A state of type 25 at block g of W; what its slices lead to came in by w0. -/
def IsS25 (w0 W : World) (g : Nat) (f0 : ByteArray) (f1 : Bool) : Prop := W.heap[g]? = some (.cells #[.string f0, .bool f1] 25 (0, 0)) ∧ w0.heap.size ≤ g
theorem IsS25.grown {w0 W : World} {g : Nat} {f0 : ByteArray} {f1 : Bool} {W1 : World} {row : Option Nat} (h : IsS25 w0 W g f0 f1) (hw : W.grownBy W1 row) (hne : some g ≠ row) : IsS25 w0 W1 g f0 f1 := by
 obtain ⟨hb, hg⟩ := h
 exact ⟨blk_grown hb hw hne, hg⟩
theorem IsS25.fresh {w0 W : World} {g : Nat} {f0 : ByteArray} {f1 : Bool} (h : IsS25 w0 W g f0 f1) : ∀ k, W.heap.size ≤ k → k ≠ g := by
 obtain ⟨hb, hg⟩ := h
 exact Kd.freshB hb
theorem IsS25.kept {w0 W : World} {g : Nat} {f0 : ByteArray} {f1 : Bool} {W1 : World} {S : Nat → Prop} (h : IsS25 w0 W g f0 f1) (hk : Kept W W1 S) (hne : ¬ S g) : IsS25 w0 W1 g f0 f1 := by
 obtain ⟨hb, hg⟩ := h
 exact ⟨blk_kept hb hk hne, hg⟩
theorem IsS25.below {w0 W : World} {g : Nat} {f0 : ByteArray} {f1 : Bool} {W1 : World} (h : IsS25 w0 W g f0 f1) (hw : Below W.heap.size W W1) : IsS25 w0 W1 g f0 f1 := h.grown (grown_of_below hw none) (by simp)
theorem IsS25.alloc {w0 W : World} {g : Nat} {f0 : ByteArray} {f1 : Bool} (h : IsS25 w0 W g f0 f1) (o : Obj) : IsS25 w0 (W.alloc o) g f0 f1 := h.below (below_alloc (Below.refl _ _) o)
theorem IsS25.drewN {w0 W : World} {g : Nat} {f0 : ByteArray} {f1 : Bool} (h : IsS25 w0 W g f0 f1) (m : Nat) : IsS25 w0 (W.drewN m) g f0 f1 := h
theorem IsS25.drew {w0 W : World} {g : Nat} {f0 : ByteArray} {f1 : Bool} (h : IsS25 w0 W g f0 f1) : IsS25 w0 W.drew g f0 f1 := h
theorem IsS25.at_ {w0 W : World} {g : Nat} {f0 : ByteArray} {f1 : Bool} {w' : World} {m : Nat} (hq : W.drewN m = w') (h : IsS25 w0 W g f0 f1) : IsS25 w0 w' g f0 f1 := by subst hq; exact IsS25.drewN h m
theorem IsS25.apart {w0 W : World} {g : Nat} {f0 : ByteArray} {f1 : Bool} {α : Type} {d : Kd α} {e : Nat} {base : Nat} {ok : Nat → Prop} {v : Value} {xs : List α} (h : IsS25 w0 W g f0 f1) (ho : d.R e W base ok v xs) (ht : ∀ q, q ∈ e :: d.E → q ≠ 25) : d.R e W base (fun k => ok k ∧ k ≠ g) v xs := by
 obtain ⟨hb, hg⟩ := h
 exact Kd.R_types ho hb ht
theorem IsS25.own_ne {w0 W : World} {g : Nat} {f0 : ByteArray} {f1 : Bool} {α : Type} {d : Kd α} {e : Nat} {base : Nat} {ok : Nat → Prop} {v : Value} {xs : List α} (h : IsS25 w0 W g f0 f1) (ho : d.R e W base ok v xs) (ht : e ≠ 25) : some g ≠ v.ownBlock := by
 obtain ⟨hb, hg⟩ := h
 exact Kd.R_ne ho hb ht
theorem IsS25.apartS {w0 W : World} {g : Nat} {f0 : ByteArray} {f1 : Bool} {α : Type} {d : Kd α} {e : Nat} {base : Nat} {ok : Nat → Prop} {v : Value} {xs : List α} (h : IsS25 w0 W g f0 f1) (ho : d.S e W base ok v xs) (ht : ∀ q, q ∈ e :: d.E → q ≠ 25) : d.S e W base (fun k => ok k ∧ k ≠ g) v xs := by
 obtain ⟨hb, hg⟩ := h
 exact Kd.S_types ho hb ht
theorem IsS25.own_neS {w0 W : World} {g : Nat} {f0 : ByteArray} {f1 : Bool} {α : Type} {d : Kd α} {e : Nat} {base : Nat} {ok : Nat → Prop} {v : Value} {xs : List α} (h : IsS25 w0 W g f0 f1) (ho : d.S e W base ok v xs) (ht : e ≠ 25) : some g ≠ v.ownBlock := by
 obtain ⟨hb, hg⟩ := h
 exact Kd.S_ne ho hb ht
theorem IsS25.lt {w0 W : World} {g : Nat} {f0 : ByteArray} {f1 : Bool} (h : IsS25 w0 W g f0 f1) : g < W.heap.size := by
 obtain ⟨hb, hg⟩ := h
 exact blk_lt hb
theorem IsS25.ge {w0 W : World} {g : Nat} {f0 : ByteArray} {f1 : Bool} (h : IsS25 w0 W g f0 f1) : w0.heap.size ≤ g := by
 obtain ⟨hb, hg⟩ := h
 exact hg
theorem IsS25.ne_blk {w0 W : World} {g : Nat} {f0 : ByteArray} {f1 : Bool} {a : Nat} {cs : Array Value} {t : TypeId} {fr : Nat × Nat} (h : IsS25 w0 W g f0 f1) (hb2 : W.heap[a]? = some (.cells cs t fr)) (ht : t ≠ 25) : g ≠ a := by
 obtain ⟨hb, hg⟩ := h
 rintro rfl
 rw [hb] at hb2
 injection hb2 with hb2
 injection hb2 with _ ht2
 exact ht ht2.symm
theorem IsS25.far {w0 W : World} {g : Nat} {f0 : ByteArray} {f1 : Bool} {p : Addr} (h : IsS25 w0 W g f0 f1) (hne : g ≠ p.block) (u : Value) : IsS25 w0 (W.setCell p u) g f0 f1 := by
 obtain ⟨hb, hg⟩ := h
 exact ⟨blk_far hb hne u, hg⟩
theorem cellS25_0 {W : World} {g : Nat} {f0 : ByteArray} {f1 : Bool} (h : W.heap[g]? = some (.cells #[.string f0, .bool f1] 25 (0, 0))) : W.cell? ⟨g, 0, none⟩ = some (.string f0) := (blk_cell h 0).trans rfl
theorem IsS25.set_0 {w0 W : World} {g : Nat} {f0 : ByteArray} {f1 : Bool} (h : IsS25 w0 W g f0 f1) (x : ByteArray) : IsS25 w0 (W.setCell ⟨g, 0, none⟩ (.string x)) g x f1 := by
 obtain ⟨hb, hg⟩ := h
 exact ⟨by simpa using blk_set hb 0 (.string x), hg⟩
theorem cellS25_1 {W : World} {g : Nat} {f0 : ByteArray} {f1 : Bool} (h : W.heap[g]? = some (.cells #[.string f0, .bool f1] 25 (0, 0))) : W.cell? ⟨g, 1, none⟩ = some (.bool f1) := (blk_cell h 1).trans rfl
theorem IsS25.set_1 {w0 W : World} {g : Nat} {f0 : ByteArray} {f1 : Bool} (h : IsS25 w0 W g f0 f1) (x : Bool) : IsS25 w0 (W.setCell ⟨g, 1, none⟩ (.bool x)) g f0 x := by
 obtain ⟨hb, hg⟩ := h
 exact ⟨by simpa using blk_set hb 1 (.bool x), hg⟩
theorem IsS25.new (w0 W : World) (f0 : ByteArray) (f1 : Bool) (hB : Below w0.heap.size w0 W) : IsS25 w0 (W.alloc (.cells #[.string f0, .bool f1] 25)) W.heap.size f0 f1 := ⟨by simpa using heap_alloc_new W _, hB.size⟩

/-! ### impl_Stream_next: function 35 -/
theorem u35HI0 {p : Prop} (h : p := by repeat (first | (with_reducible first | exact HI0.out | apply IsS25.alloc | apply IsS25.drewN | apply IsS25.drew | apply IsS25.set_0 | apply IsS25.set_1 | apply IsS25.far (p := ⟨gb353, _, none⟩) (hne := NB0_353.out) | apply IsS25.far (p := ⟨gb363, _, none⟩) (hne := NB0_363.out)) | exact HI0.out)) : p := h
theorem u35HK {p : Prop} (h : p := by repeat (first | (with_reducible first | exact HK.out | apply KeepBut.set_ | apply keep_drewN | apply keep_drew | apply keep_alloc | refine keep_far ?_ GW353.out _ | refine keep_far ?_ GW363.out _) | exact HK.out)) : p := h
theorem u35HB {p : Prop} (h : p := by repeat (first | (with_reducible first | exact HB.out | apply below_alloc | apply pw_below_drewN | apply below_drew1 | refine below_set ?_ (IsS25.ge HI0.out) | refine below_set ?_ GE353.out | refine below_set ?_ GE363.out) | exact HB.out)) : p := h
def impl_Stream_next.j0 : Nat → Int → Int → ByteArray → Bool → Option (Int × ByteArray × (List (S81)) × ByteArray × Bool × ByteArray × Bool)
 | 0, _, _, _, _ => none
 | k + 1, x4, x5, x1000, x1001 => if x5 > 120 then (some (0, (⟨#[]⟩ : ByteArray), ([] : List (S81)), (⟨#[]⟩ : ByteArray), false, x1000, true)) else (if x4 < 0 then (some (0, (⟨#[]⟩ : ByteArray), ([] : List (S81)), (⟨#[]⟩ : ByteArray), false, x1000, decide ((x1000.size : Int) > 1200))) else (if (wrap64 ((wrap64 (x4 + 4)) + x5)) > (x1000.size : Int) then (some (0, (⟨#[]⟩ : ByteArray), ([] : List (S81)), (⟨#[]⟩ : ByteArray), false, x1000, decide ((x1000.size : Int) > 1200))) else (if 0 ≤ (wrap64 ((wrap64 (x4 + 4)) + x5)) then (if (wrap64 ((wrap64 (x4 + 4)) + x5)) ≤ (x1000.size : Int) then ((impl_ReqRead.f k (x1000.extract 0 ((wrap64 ((wrap64 (x4 + 4)) + x5)) : Int).toNat)).bind fun bt356 => (some (bt356.1, bt356.2.1, bt356.2.2.1, bt356.2.2.2.1, bt356.2.2.2.2, x1000.extract ((wrap64 ((wrap64 (x4 + 4)) + x5)) : Int).toNat x1000.size, !bt356.2.2.2.2))) else (none)) else (none))))
def impl_Stream_next.f (k : Nat) (s0_0 : ByteArray) (s0_1 : Bool) : Option (Int × ByteArray × (List (S81)) × ByteArray × Bool × ByteArray × Bool) := (strings_Index.f s0_0 (⟨#[13, 10, 13, 10]⟩ : ByteArray)).bind fun t354 => (if t354 ≥ 0 then (if 0 ≤ t354 then (if t354 ≤ (s0_0.size : Int) then ((impl_lengthOf.f k (s0_0.extract 0 (t354 : Int).toNat)).bind fun t355 => (impl_Stream_next.j0 k t354 t355 s0_0 s0_1)) else (none)) else (none)) else (impl_Stream_next.j0 k t354 0 s0_0 s0_1))
set_option maxHeartbeats 8000000 in
set_option maxRecDepth 100000 in
theorem impl_Stream_next.calls (k : Nat) (g : Nat) (s0_0 : ByteArray) (s0_1 : Bool) (r1 : Int) (r2 : ByteArray) (r3 : List (S81)) (r4 : ByteArray) (r5 : Bool) (r6 : ByteArray) (r7 : Bool) (w0 w : World) (hGE : GLOBE w0) (hGM : GLOBM w0) (hGT : GLOBT w0) (hI : IsS25 w0 w g s0_0 s0_1) (hB : Below w0.heap.size w0 w) (h : impl_Stream_next.f k s0_0 s0_1 = some (r1, r2, r3, r4, r5, r6, r7)) :
  Calls Tryz.prog 35 #[.pointer (some ⟨g, 0, none⟩)] w fun e w' => ∃ v2_ : Value, e = .returned (.tuple #[.agg #[.int .i64 r1, .string r2, v2_, .string r4], .bool r5]) ∧ Kd.R k81 81 w' w.heap.size (fun _ => True) v2_ r3 ∧ IsS25 w0 w' g r6 r7 ∧ Below w0.heap.size w0 w' ∧ KeepBut w w' g none := by
 have hu40 := Tryz.underlying40
 have HGE := am hGE
 clear hGE
 have HGM := am hGM
 clear hGM
 have HGT := am hGT
 clear hGT
 have HI0 := am hI
 have HK := am (KeepBut.refl w g none)
 have HL := am hB.size
 clear hI
 have HW0 := am hB.size
 have HB := am hB
 clear hB
 unfold impl_Stream_next.f at h
 have H := h
 clear h
 revert H
 refine ok1 fun t354 A2 H => ?_
 have HC3 := am H
 clear H
 go_enter Tryz.func35, Tryz.ntmps35
 go_upto_if 15 with (first | ((with_reducible refine gate_dst (N := 2) rfl ?_); (try (refine gate_guard (by rfl) ?_; dsimp only)); refine box_event ?hg (N := 2) ?hd (cs := #[.int .i64 0, .string (⟨#[]⟩ : ByteArray), .slice none 0 0, .string (⟨#[]⟩ : ByteArray)]) (t := 40) ?hr ?_; (case hd => rfl); (case hg => rfl); (case hr => first | (go_simp; done) | (go_simp; rfl)); intro gb353 hg w4 hbox hb; have n0_ := am (IsS25.below u35HI0 hb); have n1_ := am (KeepBut.trans u35HK (KeepBut.of_below hb g none) (.inl rfl)); have n2_ := am (below_step u35HB hb); have n3_ := am (hbox); have n4_ := am ((by rw [hg]; exact (keep_size (w := w) (g := g) (row := none) u35HK) : w.heap.size ≤ gb353)); have n5_ := am ((Nat.le_trans HW0.out (by rw [hg]; exact (keep_size (w := w) (g := g) (row := none) u35HK) : w.heap.size ≤ gb353) : w0.heap.size ≤ gb353)); have n6_ := am ((by rw [hg]; exact Nat.ne_of_lt (IsS25.lt (show IsS25 w0 _ g s0_0 s0_1 from u35HI0)) : g ≠ gb353)); have n7_ := am ((by rw [hg]; exact Nat.ne_of_gt (IsS25.lt (show IsS25 w0 _ g s0_0 s0_1 from u35HI0)) : gb353 ≠ g)); clear HI0; clear HK; clear HB; have HI0 := n0_; have HK := n1_; have HB := n2_; have BK353 := n3_; have GW353 := n4_; have GE353 := n5_; have NB0_353 := n6_; have NB353_0 := n7_; clear n0_ n1_ n2_ n3_ n4_ n5_ n6_ n7_; clear hb hbox hg; obtain ⟨HGz5, hgz5⟩ := HI0.out; have z5_0 := cellS25_0 HGz5; have z5_1 := cellS25_1 HGz5; have y5_0 := blk_frozen HGz5 0; have y5_1 := blk_frozen HGz5 1; clear HGz5 hgz5) | ((with_reducible refine gw ?_); first | (refine gl 13 Tryz.func60 #[.string s0_0, .string (⟨#[13, 10, 13, 10]⟩ : ByteArray)] ?_; (with_reducible refine (strings_Index.calls s0_0 (⟨#[13, 10, 13, 10]⟩ : ByteArray) t354 _ ?side1 A2.out).mono ?_); (case side1 => exact GLOBM.below HGM.out u35HB); rintro e w6 ⟨rfl, hb⟩; refine ⟨_, rfl, ?_⟩; replace BK353 := kb BK353 hb; replace HK := am (KeepBut.trans u35HK (KeepBut.of_below hb g none) (.inl rfl)); replace HB := am (below_step u35HB hb); replace HI0 := am (IsS25.below u35HI0 hb); clear hb)))
 (try simp only [Act.put, List.setIfInBounds_toArray, List.set_cons_zero, List.set_cons_succ])
 go_cut [5] (fun v5 wc => ∃ (kq : Nat) (x5_2 : Int), v5 = .int .i64 x5_2 ∧ Aside0 (impl_Stream_next.j0 kq t354 x5_2 s0_0 s0_1 = some (r1, r2, r3, r4, r5, r6, r7)) ∧ Aside0 (kq ≤ k) ∧ Aside0 (wc.heap[gb353]? = some (.cells #[.int .i64 0, .string (⟨#[]⟩ : ByteArray), (.slice none 0 0), .string (⟨#[]⟩ : ByteArray)] 40 (0, 0))) ∧ Aside0 (IsS25 w0 wc g s0_0 s0_1) ∧ Aside0 (KeepBut w wc g none) ∧ Aside0 (Below w0.heap.size w0 wc))
 case first =>
  have H := HC3.out
  clear HC3
  by_cases c7 : t354 ≥ 0
  rotate_left
  ·rw [if_neg c7] at H
   have c7b0 := decide_eq_false c7
   clear c7
   (first | rw [c7b0] | (simp only [i64_w, i32_w]; rw [c7b0]) | skip)
   have H' := am H
   clear H
   go_wp2
   go_meet
   case rel => exact ⟨_, (0), rs, H', ⟨by first | omega | exact Nat.le_refl _⟩, ⟨by (with_reducible repeat (first | refine blk_drewN ?_ _ | refine blk_drew ?_ | refine blk_alloc ?_ _)); exact BK353.out⟩, ⟨u35HI0⟩, ⟨u35HK⟩, ⟨u35HB⟩⟩
  rw [if_pos c7] at H
  have c7b0 := decide_eq_true c7
  clear c7
  (first | rw [c7b0] | (simp only [i64_w, i32_w]; rw [c7b0]) | skip)
  revert H
  refine ifn fun c8 H => ?_
  have c8b0 := eq_true c8
  have c8b1 := decide_eq_true c8
  clear c8
  revert H
  refine ifn fun c9 H => ?_
  have c9b0 := eq_true c9
  have c9b1 := decide_eq_true c9
  clear c9
  revert H
  refine ok1 fun t355 A10 H => ?_
  have H' := am H
  clear H
  obtain ⟨HGz11, hgz11⟩ := HI0.out
  have z11_0 := cellS25_0 HGz11
  have z11_1 := cellS25_1 HGz11
  have y11_0 := blk_frozen HGz11 0
  have y11_1 := blk_frozen HGz11 1
  clear HGz11 hgz11
  go_wp2_with ((with_reducible refine gw ?_); first | (refine gl 22 Tryz.func61 #[.string (s0_0.extract 0 (t354 : Int).toNat)] ?_; (with_reducible refine (impl_lengthOf.calls k (s0_0.extract 0 (t354 : Int).toNat) t355 _ ?side1 ?side2 ?side3 A10.out).mono ?_); (case side1 => exact GLOBE.below HGE.out u35HB); (case side2 => exact GLOBM.below HGM.out u35HB); (case side3 => exact GLOBT.below HGT.out u35HB); rintro e w12 ⟨rfl, hb⟩; refine ⟨_, rfl, ?_⟩; replace BK353 := kb BK353 hb; replace HK := am (KeepBut.trans u35HK (KeepBut.of_below hb g none) (.inl rfl)); replace HB := am (below_step u35HB hb); replace HI0 := am (IsS25.below u35HI0 hb); clear hb))
  go_meet
  case rel => exact ⟨_, (t355), rs, H', ⟨by first | omega | exact Nat.le_refl _⟩, ⟨by (with_reducible repeat (first | refine blk_drewN ?_ _ | refine blk_drew ?_ | refine blk_alloc ?_ _)); exact BK353.out⟩, ⟨u35HI0⟩, ⟨u35HK⟩, ⟨u35HB⟩⟩
 case rest =>
  clear HC3
  try clear p2
  try clear c3
  try clear c6
  try clear c7
  try clear c7b0
  try clear c8
  try clear c8b0
  try clear c8b1
  try clear c9
  try clear c9b0
  try clear c9b1
  try clear z11_0
  try clear z11_1
  try clear z5_0
  try clear z5_1
  try clear y11_0
  try clear y11_1
  try clear y5_0
  try clear y5_1
  obtain ⟨kq, x5_2, rfl, HA, HJ2, BK353, HI0, HK, HB⟩ := hcut
  cases kq with
  | zero => exact absurd HA.out (by simp [impl_Stream_next.j0])
  | succ kj2 =>
   have H := HA.out
   clear HA
   simp only [impl_Stream_next.j0] at H
   by_cases c13 : x5_2 > 120
   ·rw [if_pos c13] at H
    have c13b0 := decide_eq_true c13
    clear c13
    simp only [Option.some.injEq, Prod.mk.injEq] at H
    obtain ⟨rfl, rfl, rfl, rfl, rfl, rfl, rfl⟩ := H
    obtain ⟨HGz14, hgz14⟩ := HI0.out
    have z14_0 := cellS25_0 HGz14
    have z14_1 := cellS25_1 HGz14
    have y14_0 := blk_frozen HGz14 0
    have y14_1 := blk_frozen HGz14 1
    clear HGz14 hgz14
    have hnb15 := NB353_0.out
    have hnc15 := NB0_353.out
    obtain ⟨z16_0, y16_0, z16_1, y16_1, z16_2, y16_2, z16_3, y16_3⟩ := cl4 BK353
    go_wp2
    refine bodyPost_ret (results_ct rfl _ _ gb353 40 #[.int .i64 0, .string (⟨#[]⟩ : ByteArray), .slice none 0 0, .string (⟨#[]⟩ : ByteArray)] (0, 0) _ rfl (pt1 BK353 NB353_0) Tryz.underlying40 rfl (by kernel_rfl)) rfl ?_
    exact ⟨_, rf, by first | exact Kd.R_nil _ _ _ _ _ | exact Kd.N_nil _ _ _ _ _ | exact Kd.V_nil _ _ _ _ _ | exact Kd.Q_nil _ _ _ _ _ | exact Kd.S_nil _ _ _ _ _, u35HI0, u35HB, u35HK⟩
   rw [if_neg c13] at H
   have c13b0 := decide_eq_false c13
   clear c13
   by_cases c17 : t354 < 0
   ·rw [if_pos c17] at H
    have c17b0 := decide_eq_true c17
    clear c17
    simp only [Option.some.injEq, Prod.mk.injEq] at H
    obtain ⟨rfl, rfl, rfl, rfl, rfl, rfl, rfl⟩ := H
    obtain ⟨HGz18, hgz18⟩ := HI0.out
    have z18_0 := cellS25_0 HGz18
    have z18_1 := cellS25_1 HGz18
    have y18_0 := blk_frozen HGz18 0
    have y18_1 := blk_frozen HGz18 1
    clear HGz18 hgz18
    have hnb19 := NB353_0.out
    have hnc19 := NB0_353.out
    obtain ⟨z20_0, y20_0, z20_1, y20_1, z20_2, y20_2, z20_3, y20_3⟩ := cl4 BK353
    go_wp2
    refine bodyPost_ret (results_ct rfl _ _ gb353 40 #[.int .i64 0, .string (⟨#[]⟩ : ByteArray), .slice none 0 0, .string (⟨#[]⟩ : ByteArray)] (0, 0) _ rfl (pt1 BK353 NB353_0) Tryz.underlying40 rfl (by kernel_rfl)) rfl ?_
    exact ⟨_, rf, by first | exact Kd.R_nil _ _ _ _ _ | exact Kd.N_nil _ _ _ _ _ | exact Kd.V_nil _ _ _ _ _ | exact Kd.Q_nil _ _ _ _ _ | exact Kd.S_nil _ _ _ _ _, u35HI0, u35HB, u35HK⟩
   rw [if_neg c17] at H
   have c17b0 := decide_eq_false c17
   clear c17
   by_cases c21 : (wrap64 ((wrap64 (t354 + 4)) + x5_2)) > (s0_0.size : Int)
   ·rw [if_pos c21] at H
    have c21b0 := decide_eq_true c21
    clear c21
    simp only [Option.some.injEq, Prod.mk.injEq] at H
    obtain ⟨rfl, rfl, rfl, rfl, rfl, rfl, rfl⟩ := H
    obtain ⟨HGz22, hgz22⟩ := HI0.out
    have z22_0 := cellS25_0 HGz22
    have z22_1 := cellS25_1 HGz22
    have y22_0 := blk_frozen HGz22 0
    have y22_1 := blk_frozen HGz22 1
    clear HGz22 hgz22
    have hnb23 := NB353_0.out
    have hnc23 := NB0_353.out
    obtain ⟨z24_0, y24_0, z24_1, y24_1, z24_2, y24_2, z24_3, y24_3⟩ := cl4 BK353
    go_wp2
    refine bodyPost_ret (results_ct rfl _ _ gb353 40 #[.int .i64 0, .string (⟨#[]⟩ : ByteArray), .slice none 0 0, .string (⟨#[]⟩ : ByteArray)] (0, 0) _ rfl (pt1 BK353 NB353_0) Tryz.underlying40 rfl (by kernel_rfl)) rfl ?_
    exact ⟨_, rf, by first | exact Kd.R_nil _ _ _ _ _ | exact Kd.N_nil _ _ _ _ _ | exact Kd.V_nil _ _ _ _ _ | exact Kd.Q_nil _ _ _ _ _ | exact Kd.S_nil _ _ _ _ _, u35HI0, u35HB, u35HK⟩
   rw [if_neg c21] at H
   have c21b0 := decide_eq_false c21
   clear c21
   obtain ⟨ji25, hji25⟩ : ∃ j_ : Int, (wrap64 ((wrap64 (t354 + 4)) + x5_2)) = j_ := ⟨_, rfl⟩
   replace H : (if 0 ≤ (ji25) then (if (ji25) ≤ (s0_0.size : Int) then ((impl_ReqRead.f kj2 (s0_0.extract 0 ((ji25) : Int).toNat)).bind fun bt356 => (some (bt356.1, bt356.2.1, bt356.2.2.1, bt356.2.2.2.1, bt356.2.2.2.2, s0_0.extract ((ji25) : Int).toNat s0_0.size, !bt356.2.2.2.2))) else (none)) else (none)) = some (r1, r2, r3, r4, r5, r6, r7) := by first | (rw [hji25] at H; exact H) | (simp only [hji25] at H ⊢; exact H)
   (try rw [hji25] at c21b0)
   have hji25w : (IntKind.i64.wrap ((wrap64 (t354 + 4)) + x5_2)) = ji25 := (i64_w _).trans hji25
   revert H
   refine ifn fun c26 H => ?_
   have c26b0 := eq_true c26
   have c26b1 := decide_eq_true c26
   clear c26
   revert H
   refine ifn fun c27 H => ?_
   have c27b0 := eq_true c27
   have c27b1 := decide_eq_true c27
   clear c27
   revert H
   refine ok5 fun t356 t357 t358 t361 t362 A28 H => ?_
   (try dsimp only at H)
   have c29b0 := eq_true (od : 0 ≤ (ji25))
   have c30b0 := eq_true (od : (ji25) ≤ (s0_0.size : Int))
   simp only [Option.some.injEq, Prod.mk.injEq] at H
   obtain ⟨rfl, rfl, rfl, rfl, rfl, rfl, rfl⟩ := H
   obtain ⟨HGz31, hgz31⟩ := HI0.out
   have z31_0 := cellS25_0 HGz31
   have z31_1 := cellS25_1 HGz31
   have y31_0 := blk_frozen HGz31 0
   have y31_1 := blk_frozen HGz31 1
   clear HGz31 hgz31
   go_wp2_with (first | ((with_reducible refine gw ?_); first | (refine gl 61 Tryz.func62 #[.string (s0_0.extract 0 ((ji25) : Int).toNat)] ?_ (hargs := (by (try simp only [List.map_toArray, List.map_cons, List.map_nil]); first | done | (simp only [hji25]; rfl) | rfl | (simp only [List.length_drop, List.length_take]; rfl))); (with_reducible refine (impl_ReqRead.calls kj2 (s0_0.extract 0 ((ji25) : Int).toNat) t356 t357 t358 t361 t362 _ ?side1 ?side2 A28.out).mono ?_); (case side1 => exact GLOBM.below HGM.out u35HB); (case side2 => exact GLOBT.below HGT.out u35HB); rintro e w32 ⟨v359, rfl, ho0, hb⟩; refine ⟨_, rfl, ?_⟩; have HO360 := am (Kd.R_lower ho0 (keep_size (w := w) (g := g) (row := none) u35HK)); replace BK353 := kb BK353 hb; replace HK := am (KeepBut.trans u35HK (KeepBut.of_below hb g none) (.inl rfl)); replace HB := am (below_step u35HB hb); replace HI0 := am (IsS25.below u35HI0 hb); clear hb ho0)) | ((with_reducible refine gate_dst (N := 7) rfl ?_); (try (refine gate_guard (by rfl) ?_; dsimp only)); refine box_event ?hg (N := 7) ?hd (cs := #[.int .i64 0, .string (⟨#[]⟩ : ByteArray), .slice none 0 0, .string (⟨#[]⟩ : ByteArray)]) (t := 40) ?hr ?_; (case hd => rfl); (case hg => rfl); (case hr => first | (go_simp; done) | (go_simp; rfl)); intro gb363 hg w33 hbox hb; have n0_ := am (Kd.R_below (ro HO360) hb); have n1_ := kb BK353 hb; have n2_ := am (IsS25.below u35HI0 hb); have n3_ := am (KeepBut.trans u35HK (KeepBut.of_below hb g none) (.inl rfl)); have n4_ := am (below_step u35HB hb); have n5_ := am (hbox); have n6_ := am ((by rw [hg]; exact (keep_size (w := w) (g := g) (row := none) u35HK) : w.heap.size ≤ gb363)); have n7_ := am ((Nat.le_trans HW0.out (by rw [hg]; exact (keep_size (w := w) (g := g) (row := none) u35HK) : w.heap.size ≤ gb363) : w0.heap.size ≤ gb363)); have n8_ := am (nl hg BK353 : gb353 ≠ gb363); have n9_ := am (ng hg BK353 : gb363 ≠ gb353); have n10_ := am ((by rw [hg]; exact Nat.ne_of_lt (IsS25.lt (show IsS25 w0 _ g s0_0 s0_1 from u35HI0)) : g ≠ gb363)); have n11_ := am ((by rw [hg]; exact Nat.ne_of_gt (IsS25.lt (show IsS25 w0 _ g s0_0 s0_1 from u35HI0)) : gb363 ≠ g)); clear HO360; clear BK353; clear HI0; clear HK; clear HB; have HO360 := n0_; have BK353 := n1_; have HI0 := n2_; have HK := n3_; have HB := n4_; have BK363 := n5_; have GW363 := n6_; have GE363 := n7_; have NB353_363 := n8_; have NB363_353 := n9_; have NB0_363 := n10_; have NB363_0 := n11_; clear n0_ n1_ n2_ n3_ n4_ n5_ n6_ n7_ n8_ n9_ n10_ n11_; clear hb hbox hg; have hnb34 := NB363_353.out; have hnc34 := NB353_363.out; have hnb35 := NB363_0.out; have hnc35 := NB0_363.out; obtain ⟨z36_0, y36_0, z36_1, y36_1, z36_2, y36_2, z36_3, y36_3⟩ := cl4 BK363; obtain ⟨Ao37, co37, eo37⟩ := Kd.R_slice HO360.out; subst eo37; obtain ⟨HGz38, hgz38⟩ := HI0.out; have z38_0 := cellS25_0 HGz38; have z38_1 := cellS25_1 HGz38; have y38_0 := blk_frozen HGz38 0; have y38_1 := blk_frozen HGz38 1; clear HGz38 hgz38; have hnb39 := NB353_0.out; have hnc39 := NB0_353.out; obtain ⟨z40_0, y40_0, z40_1, y40_1, z40_2, y40_2, z40_3, y40_3⟩ := cl4 BK353))
   refine bodyPost_ret (results_ct rfl _ _ gb353 40 #[.int .i64 t356, .string t357, .slice Ao37 t358.length co37, .string t361] (0, 0) _ rfl (pt2 BK353 NB353_0 NB353_363) Tryz.underlying40 rfl (by kernel_rfl)) rfl ?_
   exact ⟨_, by first | rfl | (simp [errW_none, errW_some] <;> rfl) | (simp only [← hji25]; first | rfl | (simp [errW_none, errW_some] <;> rfl)) | (simp [*, errW_none, errW_some] <;> rfl), rj (Kd.R_types (IsS25.apart HI0.out (Kd.R_types HO360.out BK363.out (by decide)) (by decide)) BK353.out (by decide)) (fun _ hk => trivial), u35HI0, u35HB, u35HK⟩

end Go.Proofs.YtjckfmipegemcaaGreatDoor.All
