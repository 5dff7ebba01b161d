import Derived.Test.YtjlpjbkpmmpojaaGreatDoorKO16
namespace Go.Proofs.YtjlpjbkpmmpojaaGreatDoor.All
open Go.RowKit Go.Proofs.YtjlpjbkpmmpojaaGreatDoorW.PrintWords Go.Proofs.YtjlpjbkpmmpojaaGreatDoorW.PrintLast Go.Proofs.YtjlpjbkpmmpojaaGreatDoorW.PrintMore
set_option maxHeartbeats 8000000
set_option maxRecDepth 100000
attribute [local go_sem] min2_int min_two
set_option linter.unusedVariables false
set_option linter.unusedSimpArgs false
def spec_FieldsText.l0 : Nat → List (S116) → ByteArray → Int → Option (ByteArray)
 | 0, _, _, _ => none
 | k + 1, x0, x3, x4 => if x4 < (x0.length : Int) then (if 0 ≤ x4 then (if x3.size + ((rd_T116 x0 x4).f0).size ≤ 9223372036854775807 then (if (x3 ++ ((rd_T116 x0 x4).f0)).size + 2 ≤ 9223372036854775807 then (if ((x3 ++ ((rd_T116 x0 x4).f0)) ++ (⟨#[58, 32]⟩ : ByteArray)).size + ((rd_T116 x0 x4).f1).size ≤ 9223372036854775807 then (if (((x3 ++ ((rd_T116 x0 x4).f0)) ++ (⟨#[58, 32]⟩ : ByteArray)) ++ ((rd_T116 x0 x4).f1)).size + 2 ≤ 9223372036854775807 then (spec_FieldsText.l0 k x0 ((((x3 ++ ((rd_T116 x0 x4).f0)) ++ (⟨#[58, 32]⟩ : ByteArray)) ++ ((rd_T116 x0 x4).f1)) ++ (⟨#[13, 10]⟩ : ByteArray)) (wrap64 (x4 + 1))) else (none)) else (none)) else (none)) else (none)) else (none)) else (some x3)
def spec_FieldsText.f (k : Nat) (l0 : List (S116)) : Option (ByteArray) := spec_FieldsText.l0 k l0 (⟨#[]⟩ : ByteArray) 0
theorem spec_FieldsText.calls (k : Nat) (A0 : Option Addr) (c0 : Nat) (l0 : List (S116)) (r : ByteArray) (w : World) (hr0 : Kd.C k116 w A0 l0.length l0) (hc0 : l0.length ≤ c0) (h : spec_FieldsText.f k l0 = some r) :
  Calls Tryz.prog 167 #[.slice A0 l0.length c0] w fun e w' => e = .returned (.string r) ∧ Drawn0 w w' := by
 have HR0 := am hr0
 have HC0 := am hc0
 clear hr0 hc0
 unfold spec_FieldsText.f at h
 have H := h
 clear h
 have H' := am H
 clear H
 go_enter Tryz.func167, Tryz.ntmps167
 go_wp2
 repeat (go_quiet (fail); try go_wp2)
 (try simp only [Act.put, List.setIfInBounds_toArray, List.set_cons_zero, List.set_cons_succ])
 go_loopg [3, 4] k (fun kq v3 v4 w' => ∃ (x3_1 : ByteArray) (x4_1 : Int), v3 = .string x3_1 ∧ v4 = .int .i64 x4_1 ∧ Aside0 (spec_FieldsText.l0 kq l0 x3_1 x4_1 = some r) ∧ Aside0 (kq ≤ k) ∧ Drawn0 w w')
 case atStart => exact ⟨((⟨#[]⟩ : ByteArray)), (0), rs, rs, H', ⟨Nat.le_refl _⟩, dr⟩
 case round =>
  clear H'
  obtain ⟨x3_1, x4_1, rfl, rfl, HA, HK1, ⟨m1, rfl⟩⟩ := hrel
  cases gk with
  | zero => exact absurd HA.out (by simp [spec_FieldsText.l0])
  | succ k1 =>
   have H := HA.out
   clear HA
   simp only [spec_FieldsText.l0] at H
   by_cases c2 : x4_1 < (l0.length : Int)
   rotate_left
   ·rw [if_neg c2] at H
    have c2b0 := decide_eq_false c2
    clear c2
    obtain rfl := si_ H
    go_wp2
    repeat (go_quiet (fail); try go_wp2)
    go_ret
    exact ⟨rs, dr⟩
   rw [if_pos c2] at H
   have c2b0 := decide_eq_true c2
   clear c2
   revert H
   refine ifn fun c3 H => ?_
   have c3b0 := decide_eq_true c3
   clear c3
   revert H
   refine ifn fun c4 H => ?_
   have c4b0 := eq_true c4
   have c4b1 := decide_eq_true c4
   try have c4b2 := eq_false (Nat.not_lt.2 c4)
   revert H
   refine ifn fun c5 H => ?_
   have c5b0 := eq_true c5
   have c5b1 := decide_eq_true c5
   try have c5b2 := eq_false (Nat.not_lt.2 c5)
   have c5b3 : (9223372036854775807 < (x3_1).size + ((rd_T116 l0 x4_1).f0).size + 2) = False := b3 c5
   revert H
   refine ifn fun c6 H => ?_
   have c6b0 := eq_true c6
   have c6b1 := decide_eq_true c6
   try have c6b2 := eq_false (Nat.not_lt.2 c6)
   have c6b3 : (9223372036854775807 < (x3_1).size + ((rd_T116 l0 x4_1).f0).size + 2 + ((rd_T116 l0 x4_1).f1).size) = False := b3 c6
   revert H
   refine ifn fun c7 H => ?_
   have c7b0 := eq_true c7
   have c7b1 := decide_eq_true c7
   try have c7b2 := eq_false (Nat.not_lt.2 c7)
   have c7b3 : (9223372036854775807 < (x3_1).size + ((rd_T116 l0 x4_1).f0).size + 2 + ((rd_T116 l0 x4_1).f1).size + 2) = False := b3 c7
   have H' := am H
   clear H
   have p8 : 0 ≤ (x4_1 : Int) := od
   have q8 : x4_1 < (l0.length : Int) := od
   obtain ⟨ad8, e8, hx8_0, hx8_1⟩ := at_T116 HR0.out x4_1 p8 q8
   cases e8
   replace p8 := eq_true p8
   replace q8 := eq_true q8
   have p9 : 0 ≤ (x4_1 : Int) := od
   have q9 : x4_1 < (l0.length : Int) := od
   obtain ⟨ad9, e9, hx9_0, hx9_1⟩ := at_T116 HR0.out x4_1 p9 q9
   obtain rfl : ad8 = ad9 := (by injection e9)
   replace p9 := eq_true p9
   replace q9 := eq_true q9
   go_wp2
   repeat (go_quiet (fail); try go_wp2)
   go_roundg k1
   case measure => have := HK1.out; omega
   case rel => exact ⟨((((x3_1 ++ ((rd_T116 l0 x4_1).f0)) ++ (⟨#[58, 32]⟩ : ByteArray)) ++ ((rd_T116 l0 x4_1).f1)) ++ (⟨#[13, 10]⟩ : ByteArray)), (wrap64 (x4_1 + 1)), rs, rs, H', ⟨by have := HK1.out; omega⟩, dr⟩
def spec_RespText.f (k : Nat) (a0_0 : Int) (l0_1 : List (S116)) (a0_2 : ByteArray) : Option (ByteArray) := (spec_RespOk.f k a0_0 l0_1 a0_2).bind fun t24 => (if t24 = true then ((spec_NumText.f k a0_0).bind fun t21 => (if 9 + t21.size ≤ 9223372036854775807 then (if ((⟨#[72, 84, 84, 80, 47, 49, 46, 49, 32]⟩ : ByteArray) ++ t21).size + 4 ≤ 9223372036854775807 then ((spec_FieldsText.f k l0_1).bind fun t22 => (if (((⟨#[72, 84, 84, 80, 47, 49, 46, 49, 32]⟩ : ByteArray) ++ t21) ++ (⟨#[32, 46, 13, 10]⟩ : ByteArray)).size + t22.size ≤ 9223372036854775807 then (if ((((⟨#[72, 84, 84, 80, 47, 49, 46, 49, 32]⟩ : ByteArray) ++ t21) ++ (⟨#[32, 46, 13, 10]⟩ : ByteArray)) ++ t22).size + 16 ≤ 9223372036854775807 then ((spec_NumText.f k (a0_2.size : Int)).bind fun t23 => (if (((((⟨#[72, 84, 84, 80, 47, 49, 46, 49, 32]⟩ : ByteArray) ++ t21) ++ (⟨#[32, 46, 13, 10]⟩ : ByteArray)) ++ t22) ++ (⟨#[99, 111, 110, 116, 101, 110, 116, 45, 108, 101, 110, 103, 116, 104, 58, 32]⟩ : ByteArray)).size + t23.size ≤ 9223372036854775807 then (if ((((((⟨#[72, 84, 84, 80, 47, 49, 46, 49, 32]⟩ : ByteArray) ++ t21) ++ (⟨#[32, 46, 13, 10]⟩ : ByteArray)) ++ t22) ++ (⟨#[99, 111, 110, 116, 101, 110, 116, 45, 108, 101, 110, 103, 116, 104, 58, 32]⟩ : ByteArray)) ++ t23).size + 4 ≤ 9223372036854775807 then (if (((((((⟨#[72, 84, 84, 80, 47, 49, 46, 49, 32]⟩ : ByteArray) ++ t21) ++ (⟨#[32, 46, 13, 10]⟩ : ByteArray)) ++ t22) ++ (⟨#[99, 111, 110, 116, 101, 110, 116, 45, 108, 101, 110, 103, 116, 104, 58, 32]⟩ : ByteArray)) ++ t23) ++ (⟨#[13, 10, 13, 10]⟩ : ByteArray)).size + a0_2.size ≤ 9223372036854775807 then (some ((((((((⟨#[72, 84, 84, 80, 47, 49, 46, 49, 32]⟩ : ByteArray) ++ t21) ++ (⟨#[32, 46, 13, 10]⟩ : ByteArray)) ++ t22) ++ (⟨#[99, 111, 110, 116, 101, 110, 116, 45, 108, 101, 110, 103, 116, 104, 58, 32]⟩ : ByteArray)) ++ t23) ++ (⟨#[13, 10, 13, 10]⟩ : ByteArray)) ++ a0_2)) else (none)) else (none)) else (none))) else (none)) else (none))) else (none)) else (none))) else (some (⟨#[]⟩ : ByteArray)))
def spec_RespText.T3 : Bool × List (List Nat × List Nat) := (true, [([], []), ([0], [0]), ([1], [1]), ([2], [2]), ([3], [3]), ([], []), ([5], [5]), ([6, 2], [6]), ([4, 7], [4, 7]), ([8], [8]), ([], []), ([10], [10]), ([11], [11]), ([12, 7], [12]), ([9, 13], [9, 13]), ([14], [14]), ([], []), ([16], [16]), ([15, 17], [15, 17]), ([18, 13, 0, 1, 2, 3, 4, 5, 6, 7, 8, 9, 10, 11, 12, 13, 14, 15, 16, 17, 18], [18])])
def spec_RespText.B3 : List Nat := [0, 1, 3, 7, 15, 0, 32, 103, 255, 511, 0, 1024, 3072, 7399, 16383, 32767, 0, 65536, 262143, 524287]
theorem spec_RespText.tab3 : rtab .any (opsOf Tryz.f127 3) = spec_RespText.T3 := by kernel_rfl
theorem spec_RespText.bits3 : waitsOk spec_RespText.T3.2 spec_RespText.B3 = true := by kernel_rfl
theorem spec_RespText.calls (k : Nat) (a0_0 : Int) (A0_1 : Option Addr) (c0_1 : Nat) (l0_1 : List (S116)) (a0_2 : ByteArray) (r : ByteArray) (w : World) (hr0_1 : Kd.C k116 w A0_1 l0_1.length l0_1) (hc0_1 : l0_1.length ≤ c0_1) (h : spec_RespText.f k a0_0 l0_1 a0_2 = some r) :
  Calls Tryz.prog 127 #[.agg #[.int .i64 a0_0, .slice A0_1 l0_1.length c0_1, .string a0_2]] w fun e w' => e = .returned (.string r) ∧ Below w.heap.size w w' := by
 have hu29 := Tryz.underlying29
 have HR0_1 := am hr0_1
 have HC0_1 := am hc0_1
 clear hr0_1 hc0_1
 have HB := am (Below.refl w.heap.size w)
 unfold spec_RespText.f at h
 have H := h
 clear h
 revert H
 refine ok1 fun t24 A2 H => ?_
 have HH3 := am H
 clear H
 go_enter Tryz.func127, Tryz.ntmps127
 go_upto_if 5 with ((with_reducible refine gw ?_); first | (refine bx 1 #[.int .i64 a0_0, .slice A0_1 l0_1.length c0_1, .string a0_2] 29 ?_; intro gb5 hg w4 hbox hb; have BK5 := am (hbox); have GW5 := am (sz hg : w.heap.size ≤ gb5); have GE5 := am (sz hg : w.heap.size ≤ gb5); replace HB := am (below_step bl hb); clear hb hbox hg; obtain ⟨_, _, _, _, _, _⟩ := cl3 BK5) | (refine gl 4 Tryz.func92 #[.agg #[.int .i64 a0_0, .slice A0_1 l0_1.length c0_1, .string a0_2]] ?_; refine (spec_RespOk.calls k a0_0 _ _ l0_1 a0_2 t24 _ (cb HR0_1) HC0_1.out A2.out).mono ?_; rintro e w6 ⟨rfl, hb⟩; refine ⟨_, rfl, ?_⟩; replace BK5 := kb BK5 hb; replace HB := am (below_step bl hb); clear hb))
 have H := HH3.out
 clear HH3
 by_cases c7 : t24 = true
 rotate_left
 ·replace c7 := nb_ c7
  subst c7
  rw [if_neg ff_] at H
  obtain rfl := si_ H
  go_wp2
  go_ret
  exact ⟨rf, bl⟩
 subst c7
 rw [if_pos rfl] at H
 revert H
 refine ok1 fun t21 A8 H => ?_
 revert H
 refine ifn fun c9 H => ?_
 have c9b0 := eq_true c9
 have c9b1 := decide_eq_true c9
 try have c9b2 := eq_false (Nat.not_lt.2 c9)
 revert H
 refine ifn fun c10 H => ?_
 have c10b0 := eq_true c10
 have c10b1 := decide_eq_true c10
 try have c10b2 := eq_false (Nat.not_lt.2 c10)
 have c10b3 : (9223372036854775807 < 9 + (t21).size + 4) = False := b3 c10
 revert H
 refine ok1 fun t22 A11 H => ?_
 revert H
 refine ifn fun c12 H => ?_
 have c12b0 := eq_true c12
 have c12b1 := decide_eq_true c12
 try have c12b2 := eq_false (Nat.not_lt.2 c12)
 have c12b3 : (9223372036854775807 < 9 + (t21).size + 4 + (t22).size) = False := b3 c12
 revert H
 refine ifn fun c13 H => ?_
 have c13b0 := eq_true c13
 have c13b1 := decide_eq_true c13
 try have c13b2 := eq_false (Nat.not_lt.2 c13)
 have c13b3 : (9223372036854775807 < 9 + (t21).size + 4 + (t22).size + 16) = False := b3 c13
 revert H
 refine ok1 fun t23 A14 H => ?_
 revert H
 refine ifn fun c15 H => ?_
 have c15b0 := eq_true c15
 have c15b1 := decide_eq_true c15
 try have c15b2 := eq_false (Nat.not_lt.2 c15)
 have c15b3 : (9223372036854775807 < 9 + (t21).size + 4 + (t22).size + 16 + (t23).size) = False := b3 c15
 revert H
 refine ifn fun c16 H => ?_
 have c16b0 := eq_true c16
 have c16b1 := decide_eq_true c16
 try have c16b2 := eq_false (Nat.not_lt.2 c16)
 have c16b3 : (9223372036854775807 < 9 + (t21).size + 4 + (t22).size + 16 + (t23).size + 4) = False := b3 c16
 revert H
 refine ifn fun c17 H => ?_
 have c17b0 := eq_true c17
 have c17b1 := decide_eq_true c17
 try have c17b2 := eq_false (Nat.not_lt.2 c17)
 have c17b3 : (9223372036854775807 < 9 + (t21).size + 4 + (t22).size + 16 + (t23).size + 4 + (a0_2).size) = False := b3 c17
 obtain rfl := si_ H
 try go_wp2
 replace BK5 := am (blk_drew BK5.out)
 replace HB := am (below_drew1 HB.out)
 refine start_ (n := 20) (S := fun w' => w'.cell? ⟨gb5, 0, none⟩ = some (.int .i64 a0_0) ∧ w'.cell? ⟨gb5, 1, none⟩ = some (.slice A0_1 l0_1.length c0_1) ∧ w'.cell? ⟨gb5, 2, none⟩ = some (.string a0_2)) (ds := []) ⟨br true [0, 20]⟩ (by kernel_rfl) rfl (by kernel_rfl) ⟨bc BK5, bc BK5, bc BK5⟩ (fun hHeld => ?_); refine with_tabW spec_RespText.tab3 spec_RespText.bits3 (fun HT_ HW_ => ?_)
 generalize w6.drew = w18 at BK5 HB hHeld ⊢
 refine pu 0 6 [1, 19] ?_
 refine pu 5 11 [1, 4, 1, 14] ?_
 refine pu 10 16 [1, 4, 1, 4, 1, 9] ?_
 refine pu 16 22 [1, 4, 1, 4, 1, 5, 1, 3] ?_
 refine tk 1 7 [2, 3, 1, 4, 1, 5, 1, 3] ?_
 refine tk 6 12 [2, 3, 2, 3, 1, 5, 1, 3] ?_
 refine tk 11 17 [2, 3, 2, 3, 2, 4, 1, 3] ?_
 refine pu 12 18 [2, 3, 2, 3, 3, 3, 1, 3] ?_
 refine tk 17 23 [2, 3, 2, 3, 3, 3, 2, 2] ?_
 refine og 2 8 [3, 2, 2, 3, 3, 3, 2, 2] Tryz.func80 #[.int .i64 a0_0] (fun K hK => ?_)
 with_reducible refine (spec_NumText.calls k a0_0 t21 _ A8.out).mono ?_
 rintro e w19 ⟨rfl, hb⟩
 refine ⟨_, rfl, ?_⟩
 replace BK5 := kb BK5 hb
 replace HB := am (below_step bl hb)
 clear hb
 refine hK.out _ _ ⟨bc BK5, bc BK5, bc BK5⟩ (fun hHeld => ?_)
 clear hK K
 refine nm 8 ?_
 refine pu 3 9 [4, 1, 2, 3, 3, 3, 2, 2] ?_
 refine pu 4 10 [7, 3, 3, 3, 2, 2] ?_
 refine og 7 13 [8, 2, 3, 3, 2, 2] Tryz.func167 #[.slice A0_1 l0_1.length c0_1] (fun K hK => ?_)
 refine (spec_FieldsText.calls k _ _ l0_1 t22 _ (cb HR0_1) HC0_1.out A11.out).mono ?_
 rintro e w' ⟨rfl, ⟨nd, rfl⟩⟩
 refine ⟨_, rfl, ?_⟩
 refine hK.out _ _ ⟨bc BK5, bc BK5, bc BK5⟩ (fun hHeld => ?_)
 clear hK K
 refine nm 13 ?_
 refine pu 8 14 [9, 1, 3, 3, 2, 2] ?_
 refine pu 9 15 [13, 3, 2, 2] ?_
 refine og 13 19 [14, 2, 2, 2] Tryz.func80 #[.int .i64 (a0_2.size : Int)] (fun K hK => ?_)
 with_reducible refine (spec_NumText.calls k (a0_2.size : Int) t23 _ A14.out).mono ?_
 rintro e w20 ⟨rfl, hb⟩
 refine ⟨_, rfl, ?_⟩
 replace BK5 := kb BK5 hb
 replace HB := am (below_step bl hb)
 clear hb
 refine hK.out _ _ ⟨bc BK5, bc BK5, bc BK5⟩ (fun hHeld => ?_)
 clear hK K
 refine nm 19 ?_
 refine pu 14 20 [15, 1, 2, 2] ?_
 refine pu 15 21 [18, 2] ?_
 refine pu 18 24 [19, 1] ?_
 refine pu 19 2 [20] ?_
 refine done_ (done_of HT_.out (by kernel_rfl)) ?_
 try go_wp2
 go_ret
 exact ⟨rf, bl⟩
theorem u56HB {p : Prop} (h : p := by repeat (first | (with_reducible first | exact HB.out | apply below_alloc | apply pw_below_drewN | apply below_drew1 | refine below_set ?_ GE23.out) | exact HB.out)) : p := h
def spec_ObjText.l0 : Nat → ByteArray → Int → ByteArray → List ByteArray → List ByteArray → Int → List (S116) → ByteArray → Int → Option (ByteArray)
 | 0, _, _, _, _, _, _, _, _, _ => none
 | k + 1, x3, x4, x39, x40, x33, x36, x37, x38, x41 => if x4 < (x33.length : Int) then (if 0 ≤ x4 then (if x3.size + (rdOf ByteArray.empty x33 x4).size ≤ 9223372036854775807 then (if (x3 ++ (rdOf ByteArray.empty x33 x4)).size + 1 ≤ 9223372036854775807 then (spec_ObjText.l0 k ((x3 ++ (rdOf ByteArray.empty x33 x4)) ++ (⟨#[10]⟩ : ByteArray)) (wrap64 (x4 + 1)) x39 x40 x33 x36 x37 x38 x41) else (none)) else (none)) else (none)) else ((spec_RespText.f k x36 x37 x38).bind fun t34 => (if x3.size + t34.size ≤ 9223372036854775807 then (some (x3 ++ t34)) else (none)))
def spec_ObjText.f (k : Nat) (a0_0 : ByteArray) (l0_1 : List ByteArray) (l0_2 : List ByteArray) (a0_3 : Int) (l0_4 : List (S116)) (a0_5 : ByteArray) (a0_6 : Int) : Option (ByteArray) := (spec_ObjOk.f k a0_0 l0_1 l0_2 a0_3 l0_4 a0_5 a0_6).bind fun t35 => (if t35 = true then (if 4 + a0_0.size ≤ 9223372036854775807 then (if ((⟨#[111, 98, 106, 32]⟩ : ByteArray) ++ a0_0).size + 1 ≤ 9223372036854775807 then ((spec_NumText.f k a0_6).bind fun t28 => (if (((⟨#[111, 98, 106, 32]⟩ : ByteArray) ++ a0_0) ++ (⟨#[32]⟩ : ByteArray)).size + t28.size ≤ 9223372036854775807 then (if ((((⟨#[111, 98, 106, 32]⟩ : ByteArray) ++ a0_0) ++ (⟨#[32]⟩ : ByteArray)) ++ t28).size + 1 ≤ 9223372036854775807 then ((spec_NumText.f k (l0_2.length : Int)).bind fun t30 => (if (((((⟨#[111, 98, 106, 32]⟩ : ByteArray) ++ a0_0) ++ (⟨#[32]⟩ : ByteArray)) ++ t28) ++ (⟨#[32]⟩ : ByteArray)).size + t30.size ≤ 9223372036854775807 then (if ((((((⟨#[111, 98, 106, 32]⟩ : ByteArray) ++ a0_0) ++ (⟨#[32]⟩ : ByteArray)) ++ t28) ++ (⟨#[32]⟩ : ByteArray)) ++ t30).size + 1 ≤ 9223372036854775807 then (spec_ObjText.l0 k (((((((⟨#[111, 98, 106, 32]⟩ : ByteArray) ++ a0_0) ++ (⟨#[32]⟩ : ByteArray)) ++ t28) ++ (⟨#[32]⟩ : ByteArray)) ++ t30) ++ (⟨#[10]⟩ : ByteArray)) 0 a0_0 l0_1 l0_2 a0_3 l0_4 a0_5 a0_6) else (none)) else (none))) else (none)) else (none))) else (none)) else (none)) else (some (⟨#[]⟩ : ByteArray)))
def spec_ObjText.T3 : Bool × List (List Nat × List Nat) := (true, [([], []), ([0], [0]), ([1], [1]), ([2], [2]), ([], []), ([4], [4]), ([5], [5]), ([3, 6], [3, 6]), ([7], [7]), ([], []), ([9], [9]), ([10], [10]), ([11, 6], [11]), ([8, 12], [8, 12]), ([13], [13]), ([14, 12, 0, 1, 2, 3, 4, 5, 6, 7, 8, 9, 10, 11, 12, 13, 14], [14])])
def spec_ObjText.B3 : List Nat := [0, 1, 3, 7, 0, 16, 48, 127, 255, 0, 512, 1536, 3696, 8191, 16383, 32767]
theorem spec_ObjText.tab3 : rtab .any (opsOf Tryz.f56 3) = spec_ObjText.T3 := by kernel_rfl
theorem spec_ObjText.bits3 : waitsOk spec_ObjText.T3.2 spec_ObjText.B3 = true := by kernel_rfl
theorem spec_ObjText.calls (k : Nat) (a0_0 : ByteArray) (A0_1 : Option Addr) (c0_1 : Nat) (l0_1 : List ByteArray) (A0_2 : Option Addr) (c0_2 : Nat) (l0_2 : List ByteArray) (a0_3 : Int) (A0_4 : Option Addr) (c0_4 : Nat) (l0_4 : List (S116)) (a0_5 : ByteArray) (a0_6 : Int) (r : ByteArray) (w : World) (hr0_1 : Kd.C Kd.string w A0_1 l0_1.length l0_1) (hc0_1 : l0_1.length ≤ c0_1) (hr0_2 : Kd.C Kd.string w A0_2 l0_2.length l0_2) (hc0_2 : l0_2.length ≤ c0_2) (hr0_4 : Kd.C k116 w A0_4 l0_4.length l0_4) (hc0_4 : l0_4.length ≤ c0_4) (h : spec_ObjText.f k a0_0 l0_1 l0_2 a0_3 l0_4 a0_5 a0_6 = some r) :
  Calls Tryz.prog 56 #[.agg #[.string a0_0, .slice A0_1 l0_1.length c0_1, .slice A0_2 l0_2.length c0_2, .int .i64 a0_3, .slice A0_4 l0_4.length c0_4, .string a0_5, .int .i64 a0_6]] w fun e w' => e = .returned (.string r) ∧ Below w.heap.size w w' := by
 have hu31 := Tryz.underlying31
 have hu29 := Tryz.underlying29
 have HR0_1 := am hr0_1
 have HC0_1 := am hc0_1
 clear hr0_1 hc0_1
 have HR0_2 := am hr0_2
 have HC0_2 := am hc0_2
 clear hr0_2 hc0_2
 have HR0_4 := am hr0_4
 have HC0_4 := am hc0_4
 clear hr0_4 hc0_4
 have HB := am (Below.refl w.heap.size w)
 unfold spec_ObjText.f at h
 have H := h
 clear h
 revert H
 refine ok1 fun t35 A2 H => ?_
 have HH3 := am H
 clear H
 go_enter Tryz.func56, Tryz.ntmps56
 go_upto_if 7 with ((with_reducible refine gw ?_); first | (refine bx 1 #[.string a0_0, .slice A0_1 l0_1.length c0_1, .slice A0_2 l0_2.length c0_2, .int .i64 a0_3, .slice A0_4 l0_4.length c0_4, .string a0_5, .int .i64 a0_6] 31 ?_; intro gb23 hg w4 hbox hb; have BK23 := am (hbox); have GW23 := am (sz hg : w.heap.size ≤ gb23); have GE23 := am (sz hg : w.heap.size ≤ gb23); replace HB := am (below_step bl hb); clear hb hbox hg; obtain ⟨_, _, _, _, _, _, _, _, _, _, _, _, _, _⟩ := cl7 BK23) | (refine gl 6 Tryz.func65 #[.agg #[.string a0_0, .slice A0_1 l0_1.length c0_1, .slice A0_2 l0_2.length c0_2, .int .i64 a0_3, .slice A0_4 l0_4.length c0_4, .string a0_5, .int .i64 a0_6]] ?_; refine (spec_ObjOk.calls k a0_0 _ _ l0_1 _ _ l0_2 a0_3 _ _ l0_4 a0_5 a0_6 t35 _ (cb HR0_1) HC0_1.out (cb HR0_2) HC0_2.out (cb HR0_4) HC0_4.out A2.out).mono ?_; rintro e w6 ⟨rfl, hb⟩; refine ⟨_, rfl, ?_⟩; replace BK23 := kb BK23 hb; replace HB := am (below_step bl hb); clear hb))
 have H := HH3.out
 clear HH3
 by_cases c7 : t35 = true
 rotate_left
 ·replace c7 := nb_ c7
  subst c7
  rw [if_neg ff_] at H
  obtain rfl := si_ H
  go_wp2
  go_ret
  exact ⟨rf, bl⟩
 subst c7
 rw [if_pos rfl] at H
 revert H
 refine ifn fun c8 H => ?_
 have c8b0 := eq_true c8
 have c8b1 := decide_eq_true c8
 try have c8b2 := eq_false (Nat.not_lt.2 c8)
 revert H
 refine ifn fun c9 H => ?_
 have c9b0 := eq_true c9
 have c9b1 := decide_eq_true c9
 try have c9b2 := eq_false (Nat.not_lt.2 c9)
 have c9b3 : (9223372036854775807 < 4 + (a0_0).size + 1) = False := b3 c9
 revert H
 refine ok1 fun t28 A10 H => ?_
 revert H
 refine ifn fun c11 H => ?_
 have c11b0 := eq_true c11
 have c11b1 := decide_eq_true c11
 try have c11b2 := eq_false (Nat.not_lt.2 c11)
 have c11b3 : (9223372036854775807 < 4 + (a0_0).size + 1 + (t28).size) = False := b3 c11
 revert H
 refine ifn fun c12 H => ?_
 have c12b0 := eq_true c12
 have c12b1 := decide_eq_true c12
 try have c12b2 := eq_false (Nat.not_lt.2 c12)
 have c12b3 : (9223372036854775807 < 4 + (a0_0).size + 1 + (t28).size + 1) = False := b3 c12
 revert H
 refine ok1 fun t30 A13 H => ?_
 revert H
 refine ifn fun c14 H => ?_
 have c14b0 := eq_true c14
 have c14b1 := decide_eq_true c14
 try have c14b2 := eq_false (Nat.not_lt.2 c14)
 have c14b3 : (9223372036854775807 < 4 + (a0_0).size + 1 + (t28).size + 1 + (t30).size) = False := b3 c14
 revert H
 refine ifn fun c15 H => ?_
 have c15b0 := eq_true c15
 have c15b1 := decide_eq_true c15
 try have c15b2 := eq_false (Nat.not_lt.2 c15)
 have c15b3 : (9223372036854775807 < 4 + (a0_0).size + 1 + (t28).size + 1 + (t30).size + 1) = False := b3 c15
 have H' := am H
 clear H
 try go_wp2
 replace BK23 := am (blk_drew BK23.out)
 replace HB := am (below_drew1 HB.out)
 refine start_ (n := 16) (S := fun w' => w'.cell? ⟨gb23, 0, none⟩ = some (.string a0_0) ∧ w'.cell? ⟨gb23, 1, none⟩ = some (.slice A0_1 l0_1.length c0_1) ∧ w'.cell? ⟨gb23, 2, none⟩ = some (.slice A0_2 l0_2.length c0_2) ∧ w'.cell? ⟨gb23, 3, none⟩ = some (.int .i64 a0_3) ∧ w'.cell? ⟨gb23, 4, none⟩ = some (.slice A0_4 l0_4.length c0_4) ∧ w'.cell? ⟨gb23, 5, none⟩ = some (.string a0_5) ∧ w'.cell? ⟨gb23, 6, none⟩ = some (.int .i64 a0_6)) (ds := []) ⟨br true [0, 16]⟩ (by kernel_rfl) rfl (by kernel_rfl) ⟨bc BK23, bc BK23, bc BK23, bc BK23, bc BK23, bc BK23, bc BK23⟩ (fun hHeld => ?_); refine with_tabW spec_ObjText.tab3 spec_ObjText.bits3 (fun HT_ HW_ => ?_)
 generalize w6.drew = w16 at BK23 HB hHeld ⊢
 refine pu 0 8 [1, 15] ?_
 refine pu 4 12 [1, 3, 1, 11] ?_
 refine pu 9 17 [1, 3, 1, 4, 1, 6] ?_
 refine tk 1 9 [2, 2, 1, 4, 1, 6] ?_
 refine pu 2 10 [3, 1, 1, 4, 1, 6] ?_
 refine pu 3 11 [5, 4, 1, 6] ?_
 refine tk 5 13 [6, 3, 1, 6] ?_
 refine tk 10 18 [6, 3, 2, 5] ?_
 refine pu 11 19 [6, 3, 3, 4] ?_
 refine og 6 14 [7, 2, 3, 4] Tryz.func80 #[.int .i64 a0_6] (fun K hK => ?_)
 with_reducible refine (spec_NumText.calls k a0_6 t28 _ A10.out).mono ?_
 rintro e w17 ⟨rfl, hb⟩
 refine ⟨_, rfl, ?_⟩
 replace BK23 := kb BK23 hb
 replace HB := am (below_step bl hb)
 clear hb
 refine hK.out _ _ ⟨bc BK23, bc BK23, bc BK23, bc BK23, bc BK23, bc BK23, bc BK23⟩ (fun hHeld => ?_)
 clear hK K
 refine nm 14 ?_
 refine pu 7 15 [8, 1, 3, 4] ?_
 refine pu 8 16 [12, 4] ?_
 refine og 12 20 [13, 3] Tryz.func80 #[.int .i64 (l0_2.length : Int)] (fun K hK => ?_)
 with_reducible refine (spec_NumText.calls k (l0_2.length : Int) t30 _ A13.out).mono ?_
 rintro e w18 ⟨rfl, hb⟩
 refine ⟨_, rfl, ?_⟩
 replace BK23 := kb BK23 hb
 replace HB := am (below_step bl hb)
 clear hb
 refine hK.out _ _ ⟨bc BK23, bc BK23, bc BK23, bc BK23, bc BK23, bc BK23, bc BK23⟩ (fun hHeld => ?_)
 clear hK K
 refine nm 20 ?_
 refine pu 13 21 [14, 2] ?_
 refine pu 14 22 [15, 1] ?_
 refine pu 15 3 [16] ?_
 refine done_ (done_of HT_.out (by kernel_rfl)) ?_
 try go_wp2
 (try simp only [Act.put, List.setIfInBounds_toArray, List.set_cons_zero, List.set_cons_succ])
 go_loopg [3, 4] k (fun kq v3 v4 w' => ∃ (x3_1 : ByteArray) (x4_1 : Int), v3 = .string x3_1 ∧ v4 = .int .i64 x4_1 ∧ Aside0 (spec_ObjText.l0 kq x3_1 x4_1 a0_0 l0_1 l0_2 a0_3 l0_4 a0_5 a0_6 = some r) ∧ Aside0 (kq ≤ k) ∧ Aside0 (w'.heap[gb23]? = some (.cells #[.string a0_0, (.slice A0_1 l0_1.length c0_1), (.slice A0_2 l0_2.length c0_2), .int .i64 a0_3, (.slice A0_4 l0_4.length c0_4), .string a0_5, .int .i64 a0_6] 31 (0, 0))) ∧ Aside0 (Below w.heap.size w w'))
 case atStart => exact ⟨(((((((⟨#[111, 98, 106, 32]⟩ : ByteArray) ++ a0_0) ++ (⟨#[32]⟩ : ByteArray)) ++ t28) ++ (⟨#[32]⟩ : ByteArray)) ++ t30) ++ (⟨#[10]⟩ : ByteArray)), (0), rs, rs, H', ⟨Nat.le_refl _⟩, ⟨bk BK23⟩, ⟨u56HB⟩⟩
 case round =>
  clear H'
  obtain ⟨x3_1, x4_1, rfl, rfl, HA, HK1, BK23, HB⟩ := hrel
  cases gk with
  | zero => exact absurd HA.out (by simp [spec_ObjText.l0])
  | succ k1 =>
   have H := HA.out
   clear HA
   simp only [spec_ObjText.l0] at H
   by_cases c19 : x4_1 < (l0_2.length : Int)
   rotate_left
   ·rw [if_neg c19] at H
    have c19b0 := decide_eq_false c19
    clear c19
    (first | rw [c19b0] | (simp only [i64_w, i32_w]; rw [c19b0]) | skip)
    revert H
    refine ok1 fun t34 A24 H => ?_
    revert H
    refine ifn fun c25 H => ?_
    have c25b0 := eq_true c25
    have c25b1 := decide_eq_true c25
    try have c25b2 := eq_false (Nat.not_lt.2 c25)
    obtain rfl := si_ H
    obtain ⟨_, _, _, _, _, _, _, _, _, _, _, _, _, _⟩ := cl7 BK23
    go_wp2_with ((with_reducible refine gw ?_); first | (refine gl 41 Tryz.func127 #[.agg #[.int .i64 a0_3, .slice A0_4 l0_4.length c0_4, .string a0_5]] ?_; refine (spec_RespText.calls k1 a0_3 _ _ l0_4 a0_5 t34 _ (cb HR0_4) HC0_4.out A24.out).mono ?_; rintro e w27 ⟨rfl, hb⟩; refine ⟨_, rfl, ?_⟩; replace BK23 := kb BK23 hb; replace HB := am (below_step bl hb); clear hb))
    go_ret
    exact ⟨rf, bl⟩
   rw [if_pos c19] at H
   have c19b0 := decide_eq_true c19
   clear c19
   (first | rw [c19b0] | (simp only [i64_w, i32_w]; rw [c19b0]) | skip)
   revert H
   refine ifn fun c20 H => ?_
   have c20b0 := decide_eq_true c20
   clear c20
   revert H
   refine ifn fun c21 H => ?_
   have c21b0 := eq_true c21
   have c21b1 := decide_eq_true c21
   try have c21b2 := eq_false (Nat.not_lt.2 c21)
   revert H
   refine ifn fun c22 H => ?_
   have c22b0 := eq_true c22
   have c22b1 := decide_eq_true c22
   try have c22b2 := eq_false (Nat.not_lt.2 c22)
   have c22b3 : (9223372036854775807 < (x3_1).size + (rdOf ByteArray.empty l0_2 x4_1).size + 1) = False := b3 c22
   have H' := am H
   clear H
   obtain ⟨_, _, _, _, _, _, _, _, _, _, _, _, _, _⟩ := cl7 BK23
   have p26 : 0 ≤ (x4_1 : Int) := od
   have q26 : x4_1 < (l0_2.length : Int) := od
   obtain ⟨ad26, e26, hx26_0⟩ := Kd.at_string HR0_2.out x4_1 p26 q26
   cases e26
   replace hx26_0 := hcw hx26_0
   replace p26 := eq_true p26
   replace q26 := eq_true q26
   go_wp2
   go_roundg k1
   case measure => have := HK1.out; omega
   case rel => exact ⟨((x3_1 ++ (rdOf ByteArray.empty l0_2 x4_1)) ++ (⟨#[10]⟩ : ByteArray)), (wrap64 (x4_1 + 1)), rs, rs, H', ⟨by have := HK1.out; omega⟩, ⟨bk BK23⟩, ⟨u56HB⟩⟩
def spec_l10Line.l0 : Nat → ByteArray → Int → Int → Option (ByteArray × Int)
 | 0, _, _, _ => none
 | k + 1, x0, x1, x6 => if x6 < (x0.size : Int) then (if 0 ≤ x6 then (if (bt x0 x6) = 10 then (if 0 ≤ x1 then (if x1 ≤ x6 then (if x6 ≤ (x0.size : Int) then (some (x0.extract (x1 : Int).toNat (x6 : Int).toNat, wrap64 (x6 + 1))) else (none)) else (none)) else (none)) else (spec_l10Line.l0 k x0 x1 (wrap64 (x6 + 1)))) else (none)) else (some ((⟨#[]⟩ : ByteArray), (-1)))
def spec_l10Line.f (k : Nat) (a0 : ByteArray) (a1 : Int) : Option (ByteArray × Int) := spec_l10Line.l0 k a0 a1 a1
theorem spec_l10Line.calls (k : Nat) (a0 : ByteArray) (a1 : Int) (r1 : ByteArray) (r2 : Int) (w : World) (h : spec_l10Line.f k a0 a1 = some (r1, r2)) :
  Calls Tryz.prog 104 #[.string a0, .int .i64 a1] w fun e w' => e = .returned (.tuple #[.string r1, .int .i64 r2]) ∧ Drawn0 w w' := by
 unfold spec_l10Line.f at h
 have H := h
 clear h
 have H' := am H
 clear H
 go_enter Tryz.func104, Tryz.ntmps104
 go_wp2
 (try simp only [Act.put, List.setIfInBounds_toArray, List.set_cons_zero, List.set_cons_succ])
 go_loopg [6] k (fun kq v6 w' => ∃ (x6_1 : Int), v6 = .int .i64 x6_1 ∧ Aside0 (spec_l10Line.l0 kq a0 a1 x6_1 = some (r1, r2)) ∧ Aside0 (kq ≤ k) ∧ Drawn0 w w')
 case atStart => exact ⟨(a1), rs, H', ⟨Nat.le_refl _⟩, dr⟩
 case round =>
  clear H'
  obtain ⟨x6_1, rfl, HA, HK1, ⟨m1, rfl⟩⟩ := hrel
  cases gk with
  | zero => exact absurd HA.out (by simp [spec_l10Line.l0])
  | succ k1 =>
   have H := HA.out
   clear HA
   simp only [spec_l10Line.l0] at H
   by_cases c3 : x6_1 < (a0.size : Int)
   rotate_left
   ·rw [if_neg c3] at H
    have c3b0 := decide_eq_false c3
    clear c3
    simp only [Option.some.injEq, Prod.mk.injEq] at H
    obtain ⟨rfl, rfl⟩ := H
    go_wp2
    go_ret2
    exact ⟨rs, dr⟩
   rw [if_pos c3] at H
   have c3b0 := decide_eq_true c3
   clear c3
   revert H
   refine ifn fun c4 H => ?_
   have c4b0 := decide_eq_true c4
   clear c4
   by_cases c6 : (bt a0 x6_1) = 10
   rotate_left
   ·rw [if_neg c6] at H
    have c6b0 := eqf c6
    have c6b1 := net c6
    have H' := am H
    clear H
    have p5 : 0 ≤ (x6_1 : Int) := od
    have q5 : x6_1 < (a0.size : Int) := od
    have hx5 := bt_at a0 x6_1
    replace p5 := eq_true p5
    replace q5 := eq_true q5
    go_wp2
    go_roundg k1
    case measure => have := HK1.out; omega
    case rel => exact ⟨(wrap64 (x6_1 + 1)), rs, H', ⟨by have := HK1.out; omega⟩, dr⟩
   rw [if_pos c6] at H
   have c6b0 := eqt c6
   have c6b1 := nef c6
   clear c6
   revert H
   refine ifn fun c7 H => ?_
   have c7b0 := eq_true c7
   have c7b1 := decide_eq_true c7
   clear c7
   revert H
   refine ifn fun c8 H => ?_
   have c8b0 := eq_true c8
   have c8b1 := decide_eq_true c8
   clear c8
   revert H
   refine ifn fun c9 H => ?_
   have c9b0 := eq_true c9
   have c9b1 := decide_eq_true c9
   clear c9
   simp only [Option.some.injEq, Prod.mk.injEq] at H
   obtain ⟨rfl, rfl⟩ := H
   have p5 : 0 ≤ (x6_1 : Int) := od
   have q5 : x6_1 < (a0.size : Int) := od
   have hx5 := bt_at a0 x6_1
   replace p5 := eq_true p5
   replace q5 := eq_true q5
   go_wp2
   go_ret2
   exact ⟨rs, dr⟩
theorem u105HB {p : Prop} (h : p := by repeat (first | (with_reducible first | exact HB.out | apply below_alloc | apply pw_below_drewN | apply below_drew1) | exact HB.out)) : p := h
def spec_l3Words.l0 : Nat → ByteArray → List ByteArray → Int → Int → Option (List ByteArray)
 | 0, _, _, _, _ => none
 | k + 1, x0, x3, x4, x5 => if x5 ≤ (x0.size : Int) then (if x5 = (x0.size : Int) then (if 0 ≤ x4 then (if x4 ≤ x5 then (if x3.length < 8796093022208 then (spec_l3Words.l0 k x0 (x3 ++ [x0.extract (x4 : Int).toNat (x5 : Int).toNat]) (wrap64 (x5 + 1)) (wrap64 (x5 + 1))) else (none)) else (none)) else (none)) else (if 0 ≤ x5 then (if x5 < (x0.size : Int) then (if (bt x0 x5) = 32 then (if 0 ≤ x4 then (if x4 ≤ x5 then (if x3.length < 8796093022208 then (spec_l3Words.l0 k x0 (x3 ++ [x0.extract (x4 : Int).toNat (x5 : Int).toNat]) (wrap64 (x5 + 1)) (wrap64 (x5 + 1))) else (none)) else (none)) else (none)) else (spec_l3Words.l0 k x0 x3 x4 (wrap64 (x5 + 1)))) else (none)) else (none))) else (some x3)
def spec_l3Words.f (k : Nat) (a0 : ByteArray) : Option (List ByteArray) := spec_l3Words.l0 k a0 (([] : List ByteArray)) 0 0
theorem spec_l3Words.calls (k : Nat) (a0 : ByteArray) (r : List ByteArray) (w : World) (h : spec_l3Words.f k a0 = some r) :
  Calls Tryz.prog 105 #[.string a0] w fun e w' => ∃ v0_ : Value, e = .returned (v0_) ∧ Kd.R Kd.string 9 w' w.heap.size (fun _ => True) v0_ r ∧ Below w.heap.size w w' := by
 have HB := am (Below.refl w.heap.size w)
 unfold spec_l3Words.f at h
 have H := h
 clear h
 obtain ⟨y22, hy22⟩ : ∃ y_, y_ = (([] : List ByteArray)) := ⟨_, rfl⟩
 (try with_reducible replace H := bs_ H)
 rw [← hy22] at H
 have Ny22 := am hy22
 clear hy22
 have H' := am H
 clear H
 go_enter Tryz.func105, Tryz.ntmps105
 go_wp2_with (first | ((with_reducible refine gate_dst (N := 6) rfl ?_); refine Kd.R_lit Kd.string _ 9 ?hg (N := 6) ?hd (xs := ([] : List ByteArray)) (inner := []) (ok := fun _ => True) (okp := fun _ => True) ?hr ?hp (fun _ hk => hk) trivial (Below.refl _ _) (Nat.le_refl _) (by simp) ?_; (case hd => rfl); (case hg => rfl); (case hr => first | (go_simp; done) | (go_simp; rfl)); (case hp => exact (Reps.none _ _)); intro v27 w2 ho3 hb hg_ hnew_; clear hg_ hnew_; (first | rw [← Ny22.out] at ho3 | (simp only [Int.reduceToNat] at ho3; rw [← Ny22.out] at ho3)); have HO23 := am (Kd.R_lower ho3 (below_size bl)); replace HB := am (below_step bl hb); clear hb ho3))
 (try simp only [Act.put, List.setIfInBounds_toArray, List.set_cons_zero, List.set_cons_succ])
 go_loopg [3, 4, 5] k (fun kq v3 v4 v5 w' => ∃ (x3_1 : List ByteArray) (x4_1 : Int) (x5_1 : Int), v4 = .int .i64 x4_1 ∧ v5 = .int .i64 x5_1 ∧ Aside0 (spec_l3Words.l0 kq a0 x3_1 x4_1 x5_1 = some r) ∧ Aside0 (kq ≤ k) ∧ Aside0 (Kd.R Kd.string 9 w' w.heap.size (fun _ => True) v3 x3_1) ∧ Aside0 (Below w.heap.size w w'))
 case atStart => exact ⟨(y22), (0), (0), rs, rs, H', ⟨Nat.le_refl _⟩, ⟨ro HO23⟩, ⟨u105HB⟩⟩
 case round =>
  clear H'
  obtain ⟨x3_1, x4_1, x5_1, rfl, rfl, HA, HK1, HO_3, HB⟩ := hrel
  cases gk with
  | zero => exact absurd HA.out (by simp [spec_l3Words.l0])
  | succ k1 =>
   have H := HA.out
   clear HA
   simp only [spec_l3Words.l0] at H
   by_cases c4 : x5_1 ≤ (a0.size : Int)
   rotate_left
   ·rw [if_neg c4] at H
    have c4b0 := decide_eq_false c4
    clear c4
    obtain rfl := si_ H
    go_wp2
    go_ret
    exact ⟨_, rf, by (with_reducible repeat (first | apply Kd.R_alloc | apply Kd.R_drewN | apply Kd.R_drew)); exact HO_3.out, bl⟩
   rw [if_pos c4] at H
   have c4b0 := decide_eq_true c4
   clear c4
   by_cases c5 : x5_1 = (a0.size : Int)
   ·rw [if_pos c5] at H
    have c5b0 := eqt c5
    have c5b1 := nef c5
    clear c5
    revert H
    refine ifn fun c6 H => ?_
    have c6b0 := eq_true c6
    have c6b1 := decide_eq_true c6
    clear c6
    revert H
    refine ifn fun c7 H => ?_
    have c7b0 := eq_true c7
    have c7b1 := decide_eq_true c7
    clear c7
    have c8b0 := eq_true (od : x5_1 ≤ (a0.size : Int))
    revert H
    refine ifn fun c9 H => ?_
    have LMc9 := am c9
    clear c9
    obtain ⟨y20, hy20⟩ : ∃ y_ : List ByteArray, y_ = (x3_1 ++ [a0.extract (x4_1 : Int).toNat (x5_1 : Int).toNat]) := ⟨_, rfl⟩
    replace H : (spec_l3Words.l0 k1 a0 y20 (wrap64 (x5_1 + 1)) (wrap64 (x5_1 + 1))) = some r := by first | (rw [hy20]; with_reducible exact H) | (have H2_ := (Option.bind_some _ _).symm.trans H; rw [hy20]; with_reducible exact H2_) | (have H2_ := (Option.bind_some _ _).symm.trans H; with_reducible exact H2_) | with_reducible exact H | (rw [hy20]; exact H) | exact H
    have Ny20 := am hy20
    clear hy20
    have H' := am H
    clear H
    go_wp2_with (first | ((with_reducible refine gate_builtin (b := .append) (xs := #[.tmp 23, .tmp 28]) rfl ?_); at_builtin; refine Kd.R_append Kd.string (w0 := w) w.heap.size rfl (.tmp 23) (.tmp 28) 26 9 (.string ⟨#[]⟩) 16 rfl Tryz.underlying26 info9 rfl (by decide) (by omega) u3 x3_1 (a0.extract (x4_1 : Int).toNat (x5_1 : Int).toNat) [.string (a0.extract (x4_1 : Int).toNat (x5_1 : Int).toNat)] (fun _ => True) (fun _ => False) rfl rfl ?aP (fun _ hk => hk.elim) ?aF ?aO ?aB ?aS ?aL ?_; (case aP => exact rfl); (case aB => exact bl); (case aF => exact (fun _ _ => trivial)); (case aO => exact (ro HO_3)); (case aS => exact (below_size bl)); (case aL => have := LMc9.out; omega); intro v28 w10 ho hb hg hat; rw [← Ny20.out] at ho; have n0_ := am (hb); have n1_ := am (ho); clear HB; clear HO_3; have HB := n0_; have HO24 := n1_; clear n0_ n1_; clear ho hb hg hat))
    go_roundg k1
    case measure => have := HK1.out; omega
    case rel => exact ⟨(y20), (wrap64 (x5_1 + 1)), (wrap64 (x5_1 + 1)), rs, rs, H', ⟨by have := HK1.out; omega⟩, ⟨ro HO24⟩, ⟨u105HB⟩⟩
   rw [if_neg c5] at H
   have c5b0 := eqf c5
   have c5b1 := net c5
   revert H
   refine ifn fun c11 H => ?_
   have c11b0 := decide_eq_true c11
   clear c11
   revert H
   refine ifn fun c12 H => ?_
   have c12b0 := decide_eq_true c12
   clear c12
   by_cases c14 : (bt a0 x5_1) = 32
   rotate_left
   ·rw [if_neg c14] at H
    have c14b0 := eqf c14
    have c14b1 := net c14
    have H' := am H
    clear H
    have p13 : 0 ≤ (x5_1 : Int) := od
    have q13 : x5_1 < (a0.size : Int) := od
    have hx13 := bt_at a0 x5_1
    replace p13 := eq_true p13
    replace q13 := eq_true q13
    go_wp2
    go_roundg k1
    case measure => have := HK1.out; omega
    case rel => exact ⟨(x3_1), (x4_1), (wrap64 (x5_1 + 1)), rs, rs, H', ⟨by have := HK1.out; omega⟩, ⟨ro HO_3⟩, ⟨u105HB⟩⟩
   rw [if_pos c14] at H
   have c14b0 := eqt c14
   have c14b1 := nef c14
   clear c14
   revert H
   refine ifn fun c15 H => ?_
   have c15b0 := eq_true c15
   have c15b1 := decide_eq_true c15
   clear c15
   revert H
   refine ifn fun c16 H => ?_
   have c16b0 := eq_true c16
   have c16b1 := decide_eq_true c16
   clear c16
   have c17b0 := eq_true (od : x5_1 ≤ (a0.size : Int))
   revert H
   refine ifn fun c18 H => ?_
   have LMc18 := am c18
   clear c18
   obtain ⟨y21, hy21⟩ : ∃ y_ : List ByteArray, y_ = (x3_1 ++ [a0.extract (x4_1 : Int).toNat (x5_1 : Int).toNat]) := ⟨_, rfl⟩
   replace H : (spec_l3Words.l0 k1 a0 y21 (wrap64 (x5_1 + 1)) (wrap64 (x5_1 + 1))) = some r := by first | (rw [hy21]; with_reducible exact H) | (have H2_ := (Option.bind_some _ _).symm.trans H; rw [hy21]; with_reducible exact H2_) | (have H2_ := (Option.bind_some _ _).symm.trans H; with_reducible exact H2_) | with_reducible exact H | (rw [hy21]; exact H) | exact H
   have Ny21 := am hy21
   clear hy21
   have H' := am H
   clear H
   have p13 : 0 ≤ (x5_1 : Int) := od
   have q13 : x5_1 < (a0.size : Int) := od
   have hx13 := bt_at a0 x5_1
   replace p13 := eq_true p13
   replace q13 := eq_true q13
   go_wp2_with (first | ((with_reducible refine gate_builtin (b := .append) (xs := #[.tmp 23, .tmp 28]) rfl ?_); at_builtin; refine Kd.R_append Kd.string (w0 := w) w.heap.size rfl (.tmp 23) (.tmp 28) 26 9 (.string ⟨#[]⟩) 16 rfl Tryz.underlying26 info9 rfl (by decide) (by omega) u3 x3_1 (a0.extract (x4_1 : Int).toNat (x5_1 : Int).toNat) [.string (a0.extract (x4_1 : Int).toNat (x5_1 : Int).toNat)] (fun _ => True) (fun _ => False) rfl rfl ?aP (fun _ hk => hk.elim) ?aF ?aO ?aB ?aS ?aL ?_; (case aP => exact rfl); (case aB => exact bl); (case aF => exact (fun _ _ => trivial)); (case aO => exact (ro HO_3)); (case aS => exact (below_size bl)); (case aL => have := LMc18.out; omega); intro v29 w19 ho hb hg hat; rw [← Ny21.out] at ho; have n0_ := am (hb); have n1_ := am (ho); clear HB; clear HO_3; have HB := n0_; have HO25 := n1_; clear n0_ n1_; clear ho hb hg hat))
   go_roundg k1
   case measure => have := HK1.out; omega
   case rel => exact ⟨(y21), (wrap64 (x5_1 + 1)), (wrap64 (x5_1 + 1)), rs, rs, H', ⟨by have := HK1.out; omega⟩, ⟨ro HO25⟩, ⟨u105HB⟩⟩
theorem u153HB {p : Prop} (h : p := by repeat (first | (with_reducible first | exact HB.out | apply below_alloc | apply pw_below_drewN | apply below_drew1) | exact HB.out)) : p := h
mutual
def spec_l3Head.l0 : Nat → ByteArray → List ByteArray → Int → Int → Option (List ByteArray × Int)
 | 0, _, _, _, _ => none
 | k + 1, x0, x4, x5, x6 => if x6 < (x0.size : Int) then (if 0 ≤ x6 then (if (bt x0 x6) = 10 then (if 0 ≤ (wrap64 (x6 - 1)) then (if (wrap64 (x6 - 1)) < (x0.size : Int) then (if (bt x0 (wrap64 (x6 - 1))) = 13 then (spec_l3Head.j1 k x0 x4 x5 x6 (decide ((wrap64 (x6 - 1)) < x5))) else (spec_l3Head.j1 k x0 x4 x5 x6 true)) else (none)) else (none)) else (spec_l3Head.j1 k x0 x4 x5 x6 true)) else (none)) else (some (x4, (-1)))
def spec_l3Head.j1 : Nat → ByteArray → List ByteArray → Int → Int → Bool → Option (List ByteArray × Int)
 | 0, _, _, _, _, _ => none
 | k + 1, x0, x4, x5, x6, x31 => if x31 = true then (spec_l3Head.l0 k x0 x4 x5 (wrap64 (x6 + 1))) else (if 0 ≤ x5 then (if x5 ≤ (wrap64 (x6 - 1)) then (if (wrap64 (x6 - 1)) ≤ (x0.size : Int) then (if (x0.extract (x5 : Int).toNat ((wrap64 (x6 - 1)) : Int).toNat).toList = ([] : List UInt8) then (some (x4, wrap64 (x6 + 1))) else (if x4.length < 8796093022208 then (spec_l3Head.l0 k x0 (x4 ++ [x0.extract (x5 : Int).toNat ((wrap64 (x6 - 1)) : Int).toNat]) (wrap64 (x6 + 1)) (wrap64 (x6 + 1))) else (none))) else (none)) else (none)) else (none))
end
def spec_l3Head.f (k : Nat) (a0 : ByteArray) : Option (List ByteArray × Int) := spec_l3Head.l0 k a0 (([] : List ByteArray)) 0 1
theorem spec_l3Head.calls (k : Nat) (a0 : ByteArray) (r1 : List ByteArray) (r2 : Int) (w : World) (h : spec_l3Head.f k a0 = some (r1, r2)) :
  Calls Tryz.prog 153 #[.string a0] w fun e w' => ∃ v0_ : Value, e = .returned (.tuple #[v0_, .int .i64 r2]) ∧ Kd.R Kd.string 9 w' w.heap.size (fun _ => True) v0_ r1 ∧ Below w.heap.size w w' := by
 have HB := am (Below.refl w.heap.size w)
 unfold spec_l3Head.f at h
 have H := h
 clear h
 obtain ⟨y22, hy22⟩ : ∃ y_, y_ = (([] : List ByteArray)) := ⟨_, rfl⟩
 (try with_reducible replace H := bs_ H)
 rw [← hy22] at H
 have Ny22 := am hy22
 clear hy22
 have H' := am H
 clear H
 go_enter Tryz.func153, Tryz.ntmps153
 go_wp2_with (first | ((with_reducible refine gate_dst (N := 8) rfl ?_); refine Kd.R_lit Kd.string _ 9 ?hg (N := 8) ?hd (xs := ([] : List ByteArray)) (inner := []) (ok := fun _ => True) (okp := fun _ => True) ?hr ?hp (fun _ hk => hk) trivial (Below.refl _ _) (Nat.le_refl _) (by simp) ?_; (case hd => rfl); (case hg => rfl); (case hr => first | (go_simp; done) | (go_simp; rfl)); (case hp => exact (Reps.none _ _)); intro v25 w2 ho3 hb hg_ hnew_; clear hg_ hnew_; (first | rw [← Ny22.out] at ho3 | (simp only [Int.reduceToNat] at ho3; rw [← Ny22.out] at ho3)); have HO23 := am (Kd.R_lower ho3 (below_size bl)); replace HB := am (below_step bl hb); clear hb ho3))
 (try simp only [Act.put, List.setIfInBounds_toArray, List.set_cons_zero, List.set_cons_succ])
 go_loopg [4, 5, 6] k (fun kq v4 v5 v6 w' => ∃ (x4_1 : List ByteArray) (x5_1 : Int) (x6_1 : Int), v5 = .int .i64 x5_1 ∧ v6 = .int .i64 x6_1 ∧ Aside0 (spec_l3Head.l0 kq a0 x4_1 x5_1 x6_1 = some (r1, r2)) ∧ Aside0 (kq ≤ k) ∧ Aside0 (Kd.R Kd.string 9 w' w.heap.size (fun _ => True) v4 x4_1) ∧ Aside0 (Below w.heap.size w w'))
 case atStart => exact ⟨(y22), (0), (1), rs, rs, H', ⟨Nat.le_refl _⟩, ⟨ro HO23⟩, ⟨u153HB⟩⟩
 case round =>
  clear H'
  obtain ⟨x4_1, x5_1, x6_1, rfl, rfl, HA, HK1, HO_4, HB⟩ := hrel
  cases gk with
  | zero => exact absurd HA.out (by simp [spec_l3Head.l0])
  | succ k1 =>
   have H := HA.out
   clear HA
   simp only [spec_l3Head.l0] at H
   by_cases c4 : x6_1 < (a0.size : Int)
   rotate_left
   ·rw [if_neg c4] at H
    have c4b0 := decide_eq_false c4
    clear c4
    simp only [Option.some.injEq, Prod.mk.injEq] at H
    obtain ⟨rfl, rfl⟩ := H
    go_wp2
    go_ret2
    exact ⟨_, rf, by (with_reducible repeat (first | apply Kd.R_alloc | apply Kd.R_drewN | apply Kd.R_drew)); exact HO_4.out, bl⟩
   rw [if_pos c4] at H
   have c4b0 := decide_eq_true c4
   clear c4
   have HC5 := am H
   clear H
   go_upto_region 6 with (fail)
   go_cut [31] (fun v31 wc => ∃ (kq : Nat) (x31_4 : Bool), v31 = .bool x31_4 ∧ Aside0 (spec_l3Head.j1 kq a0 x4_1 x5_1 x6_1 x31_4 = some (r1, r2)) ∧ Aside0 (kq ≤ k1) ∧ Aside0 (Kd.R Kd.string 9 wc w.heap.size (fun _ => True) u4 x4_1) ∧ Aside0 (Below w.heap.size w wc))
   case first =>
    have H := HC5.out
    clear HC5
    revert H
    refine ifn fun c6 H => ?_
    have c6b0 := decide_eq_true c6
    clear c6
    (first | rw [c6b0] | (simp only [i64_w, i32_w]; rw [c6b0]) | skip)
    by_cases c8 : (bt a0 x6_1) = 10
    rotate_left
    ·rw [if_neg c8] at H
     have c8b0 := eqf c8
     have c8b1 := net c8
     have H' := am H
     clear H
     have p7 : 0 ≤ (x6_1 : Int) := od
     have q7 : x6_1 < (a0.size : Int) := od
     have hx7 := bt_at a0 x6_1
     replace p7 := eq_true p7
     replace q7 := eq_true q7
     go_wp2
     go_meet
     case rel => exact ⟨_, (true), rs, H', ⟨by have := HK1.out; first | omega | exact Nat.le_refl _⟩, ⟨ro HO_4⟩, ⟨u153HB⟩⟩
    rw [if_pos c8] at H
    have c8b0 := eqt c8
    have c8b1 := nef c8
    clear c8
    obtain ⟨ji9, hji9⟩ : ∃ j_ : Int, (wrap64 (x6_1 - 1)) = j_ := ⟨_, rfl⟩
    replace H : (if 0 ≤ (ji9) then (if (ji9) < (a0.size : Int) then (if (bt a0 (ji9)) = 13 then (spec_l3Head.j1 k1 a0 x4_1 x5_1 x6_1 (decide ((ji9) < x5_1))) else (spec_l3Head.j1 k1 a0 x4_1 x5_1 x6_1 true)) else (none)) else (none)) = some (r1, r2) := by first | (rw [hji9] at H; exact H) | (simp only [hji9] at H ⊢; exact H)
    have hji9w : (IntKind.i64.wrap (x6_1 - 1)) = ji9 := (i64_w _).trans hji9
    revert H
    refine ifn fun c10 H => ?_
    have c10b0 := decide_eq_true c10
    clear c10
    revert H
    refine ifn fun c11 H => ?_
    have c11b0 := decide_eq_true c11
    clear c11
    by_cases c13 : (bt a0 (ji9)) = 13
    rotate_left
    ·rw [if_neg c13] at H
     have c13b0 := eqf c13
     have c13b1 := net c13
     have H' := am H
     clear H
     have p7 : 0 ≤ (x6_1 : Int) := od
     have q7 : x6_1 < (a0.size : Int) := od
     have hx7 := bt_at a0 x6_1
     replace p7 := eq_true p7
     replace q7 := eq_true q7
     have p12 : 0 ≤ ((ji9) : Int) := od
     have q12 : (ji9) < (a0.size : Int) := od
     have hx12 := bt_at a0 (ji9)
     replace p12 := eq_true p12
     replace q12 := eq_true q12
     go_wp2
     go_meet
     case rel => exact ⟨_, (true), rs, H', ⟨by have := HK1.out; first | omega | exact Nat.le_refl _⟩, ⟨ro HO_4⟩, ⟨u153HB⟩⟩
    rw [if_pos c13] at H
    have c13b0 := eqt c13
    have c13b1 := nef c13
    clear c13
    have H' := am H
    clear H
    have p7 : 0 ≤ (x6_1 : Int) := od
    have q7 : x6_1 < (a0.size : Int) := od
    have hx7 := bt_at a0 x6_1
    replace p7 := eq_true p7
    replace q7 := eq_true q7
    have p12 : 0 ≤ ((ji9) : Int) := od
    have q12 : (ji9) < (a0.size : Int) := od
    have hx12 := bt_at a0 (ji9)
    replace p12 := eq_true p12
    replace q12 := eq_true q12
    go_wp2
    go_meet
    case rel => exact ⟨_, (decide ((ji9) < x5_1)), (by first | rfl | (simp; done) | (simp only [← hji9] <;> (first | rfl | simp)) | (simp [*]; done)), H', ⟨by have := HK1.out; first | omega | exact Nat.le_refl _⟩, ⟨ro HO_4⟩, ⟨u153HB⟩⟩
   case rest =>
    clear HC5
    obtain ⟨kq, x31_4, rfl, HA, HJ4, HO_4, HB⟩ := hcut
    cases kq with
    | zero => exact absurd HA.out (by simp [spec_l3Head.j1])
    | succ kj4 =>
     have H := HA.out
     clear HA
     simp only [spec_l3Head.j1] at H
     by_cases c14 : x31_4 = true
     ·subst c14
      rw [if_pos rfl] at H
      have H' := am H
      clear H
      go_wp2
      go_roundg kj4
      case measure => have := HK1.out; have := HJ4.out; omega
      case rel => exact ⟨(x4_1), (x5_1), (wrap64 (x6_1 + 1)), rs, rs, H', ⟨by have := HK1.out; have := HJ4.out; omega⟩, ⟨ro HO_4⟩, ⟨u153HB⟩⟩
     replace c14 := nb_ c14
     subst c14
     rw [if_neg ff_] at H
     revert H
     refine ifn fun c15 H => ?_
     have c15b0 := eq_true c15
     have c15b1 := decide_eq_true c15
     clear c15
     revert H
     refine ifn fun c16 H => ?_
     have c16b0 := eq_true c16
     have c16b1 := decide_eq_true c16
     clear c16
     revert H
     refine ifn fun c17 H => ?_
     have c17b0 := eq_true c17
     have c17b1 := decide_eq_true c17
     clear c17
     by_cases c18 : (a0.extract (x5_1 : Int).toNat ((wrap64 (x6_1 - 1)) : Int).toNat).toList = ([] : List UInt8)
     ·rw [if_pos c18] at H
      have c18b0 := eqt c18
      have c18b1 := nef c18
      clear c18
      simp only [Option.some.injEq, Prod.mk.injEq] at H
      obtain ⟨rfl, rfl⟩ := H
      go_wp2
      go_ret2
      exact ⟨_, rf, by (with_reducible repeat (first | apply Kd.R_alloc | apply Kd.R_drewN | apply Kd.R_drew)); exact HO_4.out, bl⟩
     rw [if_neg c18] at H
     have c18b0 := eqf c18
     have c18b1 := net c18
     revert H
     refine ifn fun c19 H => ?_
     have LMc19 := am c19
     clear c19
     obtain ⟨y21, hy21⟩ : ∃ y_ : List ByteArray, y_ = (x4_1 ++ [a0.extract (x5_1 : Int).toNat ((wrap64 (x6_1 - 1)) : Int).toNat]) := ⟨_, rfl⟩
     replace H : (spec_l3Head.l0 kj4 a0 y21 (wrap64 (x6_1 + 1)) (wrap64 (x6_1 + 1))) = some (r1, r2) := by first | (rw [hy21]; with_reducible exact H) | (have H2_ := (Option.bind_some _ _).symm.trans H; rw [hy21]; with_reducible exact H2_) | (have H2_ := (Option.bind_some _ _).symm.trans H; with_reducible exact H2_) | with_reducible exact H | (rw [hy21]; exact H) | exact H
     have Ny21 := am hy21
     clear hy21
     have H' := am H
     clear H
     go_wp2_with (first | ((with_reducible refine gate_builtin (b := .append) (xs := #[.tmp 43, .tmp 45]) rfl ?_); at_builtin; refine Kd.R_append Kd.string (w0 := w) w.heap.size rfl (.tmp 43) (.tmp 45) 26 9 (.string ⟨#[]⟩) 16 rfl Tryz.underlying26 info9 rfl (by decide) (by omega) u4 x4_1 (a0.extract (x5_1 : Int).toNat ((wrap64 (x6_1 - 1)) : Int).toNat) [.string (a0.extract (x5_1 : Int).toNat ((wrap64 (x6_1 - 1)) : Int).toNat)] (fun _ => True) (fun _ => False) rfl rfl ?aP (fun _ hk => hk.elim) ?aF ?aO ?aB ?aS ?aL ?_; (case aP => exact rfl); (case aB => exact bl); (case aF => exact (fun _ _ => trivial)); (case aO => exact (ro HO_4)); (case aS => exact (below_size bl)); (case aL => have := LMc19.out; omega); intro v27 w20 ho hb hg hat; rw [← Ny21.out] at ho; have n0_ := am (hb); have n1_ := am (ho); clear HB; clear HO_4; have HB := n0_; have HO24 := n1_; clear n0_ n1_; clear ho hb hg hat))
     go_roundg kj4
     case measure => have := HK1.out; have := HJ4.out; omega
     case rel => exact ⟨(y21), (wrap64 (x6_1 + 1)), (wrap64 (x6_1 + 1)), rs, rs, H', ⟨by have := HK1.out; have := HJ4.out; omega⟩, ⟨ro HO24⟩, ⟨u153HB⟩⟩
theorem u154HB {p : Prop} (h : p := by repeat (first | (with_reducible first | exact HB.out | apply below_alloc | apply pw_below_drewN | apply below_drew1 | refine below_set ?_ GE29.out) | exact HB.out)) : p := h
mutual
def spec_l3Fields.l0 : Nat → List ByteArray → List (S116) → Int → Option ((List (S116)))
 | 0, _, _, _ => none
 | k + 1, x0, x3, x4 => if x4 < (x0.length : Int) then (spec_l3Fields.l1 k x0 x3 x4 0) else (some x3)
def spec_l3Fields.l1 : Nat → List ByteArray → List (S116) → Int → Int → Option ((List (S116)))
 | 0, _, _, _, _ => none
 | k + 1, x0, x3, x4, x5 => if 0 ≤ x4 then (if x4 < (x0.length : Int) then (if (wrap64 (x5 + 1)) < ((rdOf ByteArray.empty x0 x4).size : Int) then (if 0 ≤ x5 then (if x5 < ((rdOf ByteArray.empty x0 x4).size : Int) then (if (bt (rdOf ByteArray.empty x0 x4) x5) = 58 then (if 0 ≤ (wrap64 (x5 + 1)) then (spec_l3Fields.j2 k x0 x3 x4 x5 ((bt (rdOf ByteArray.empty x0 x4) (wrap64 (x5 + 1))) == 32)) else (none)) else (spec_l3Fields.j2 k x0 x3 x4 x5 false)) else (none)) else (none)) else (spec_l3Fields.l0 k x0 x3 (wrap64 (x4 + 1)))) else (none)) else (none)
def spec_l3Fields.j2 : Nat → List ByteArray → List (S116) → Int → Int → Bool → Option ((List (S116)))
 | 0, _, _, _, _, _ => none
 | k + 1, x0, x3, x4, x5, x40 => if x40 = true then (if 0 ≤ x4 then (if x4 < (x0.length : Int) then (if 0 ≤ x5 then (if x5 ≤ ((rdOf ByteArray.empty x0 x4).size : Int) then (if 0 ≤ (wrap64 (x5 + 2)) then (if (wrap64 (x5 + 2)) ≤ ((rdOf ByteArray.empty x0 x4).size : Int) then (if ((rdOf ByteArray.empty x0 x4).extract 0 (x5 : Int).toNat).toList = ([99, 111, 110, 116, 101, 110, 116, 45, 108, 101, 110, 103, 116, 104] : List UInt8) then (spec_l3Fields.l0 k x0 x3 (wrap64 (x4 + 1))) else (if x3.length < 4398046511104 then (spec_l3Fields.l0 k x0 (x3 ++ [(⟨(rdOf ByteArray.empty x0 x4).extract 0 (x5 : Int).toNat, (rdOf ByteArray.empty x0 x4).extract ((wrap64 (x5 + 2)) : Int).toNat (rdOf ByteArray.empty x0 x4).size⟩ : S116)]) (wrap64 (x4 + 1))) else (none))) else (none)) else (none)) else (none)) else (none)) else (none)) else (none)) else (spec_l3Fields.l1 k x0 x3 x4 (wrap64 (x5 + 1)))
end
def spec_l3Fields.f (k : Nat) (l0 : List ByteArray) : Option ((List (S116))) := spec_l3Fields.l0 k l0 (([] : List (S116))) 0
def spec_l3Fields.T9 : Bool × List (List Nat × List Nat) := (true, [([], []), ([], []), ([0, 1], [0, 1]), ([2], [2]), ([], []), ([3, 4], [3, 4]), ([], []), ([], []), ([6, 7], [6, 7]), ([8], [8]), ([], []), ([10], [10]), ([9, 11], [9, 11]), ([5, 12], [5, 12]), ([], []), ([14, 13, 0, 1, 2, 3, 4, 5, 6, 7, 8, 9, 10, 11, 12, 13, 14], [13, 14])])
def spec_l3Fields.B9 : List Nat := [0, 0, 3, 7, 0, 31, 0, 0, 192, 448, 0, 1024, 4032, 8191, 0, 32767]
theorem spec_l3Fields.tab9 : rtab .any (opsOf Tryz.f154 9) = spec_l3Fields.T9 := by kernel_rfl
theorem spec_l3Fields.bits9 : waitsOk spec_l3Fields.T9.2 spec_l3Fields.B9 = true := by kernel_rfl
theorem spec_l3Fields.calls (k : Nat) (A0 : Option Addr) (c0 : Nat) (l0 : List ByteArray) (r : List (S116)) (w : World) (hr0 : Kd.C Kd.string w A0 l0.length l0) (hc0 : l0.length ≤ c0) (h : spec_l3Fields.f k l0 = some r) :
  Calls Tryz.prog 154 #[.slice A0 l0.length c0] w fun e w' => ∃ v0_ : Value, e = .returned (v0_) ∧ Kd.R k116 116 w' w.heap.size (fun _ => True) v0_ r ∧ Below w.heap.size w w' := by
 have hu116 := Tryz.underlying116
 have HR0 := am hr0
 have HC0 := am hc0
 clear hr0 hc0
 have HB := am (Below.refl w.heap.size w)
 unfold spec_l3Fields.f at h
 have H := h
 clear h
 obtain ⟨y43, hy43⟩ : ∃ y_, y_ = (([] : List (S116))) := ⟨_, rfl⟩
 (try with_reducible replace H := bs_ H)
 rw [← hy43] at H
 have Ny43 := am hy43
 clear hy43
 have H' := am H
 clear H
 go_enter Tryz.func154, Tryz.ntmps154
 go_wp2_with (first | ((with_reducible refine gate_dst (N := 7) rfl ?_); refine Kd.R_lit k116 _ 116 ?hg (N := 7) ?hd (xs := ([] : List (S116))) (inner := []) (ok := fun _ => True) (okp := fun _ => True) ?hr ?hp (fun _ hk => hk) trivial (Below.refl _ _) (Nat.le_refl _) (by simp) ?_; (case hd => rfl); (case hg => rfl); (case hr => first | (go_simp; done) | (go_simp; rfl)); (case hp => exact (Reps.none _ _)); intro v46 w2 ho3 hb hg_ hnew_; clear hg_ hnew_; (first | rw [← Ny43.out] at ho3 | (simp only [Int.reduceToNat] at ho3; rw [← Ny43.out] at ho3)); have HO44 := am (Kd.R_lower ho3 (below_size bl)); replace HB := am (below_step bl hb); clear hb ho3))
 (try simp only [Act.put, List.setIfInBounds_toArray, List.set_cons_zero, List.set_cons_succ])
 go_loopg [3, 4] k (fun kq v3 v4 w' => ∃ (x3_1 : List (S116)) (x4_1 : Int), v4 = .int .i64 x4_1 ∧ Aside0 (spec_l3Fields.l0 kq l0 x3_1 x4_1 = some r) ∧ Aside0 (kq ≤ k) ∧ Aside0 (Kd.R k116 116 w' w.heap.size (fun _ => True) v3 x3_1) ∧ Aside0 (Below w.heap.size w w'))
 case atStart => exact ⟨(y43), (0), rs, H', ⟨Nat.le_refl _⟩, ⟨ro HO44⟩, ⟨u154HB⟩⟩
 case round =>
  clear H'
  obtain ⟨x3_1, x4_1, rfl, HA, HK1, HO_3, HB⟩ := hrel
  cases gk with
  | zero => exact absurd HA.out (by simp [spec_l3Fields.l0])
  | succ k1 =>
   have H := HA.out
   clear HA
   simp only [spec_l3Fields.l0] at H
   by_cases c4 : x4_1 < (l0.length : Int)
   rotate_left
   ·rw [if_neg c4] at H
    have c4b0 := decide_eq_false c4
    clear c4
    obtain rfl := si_ H
    go_wp2
    go_ret
    exact ⟨_, rf, by (with_reducible repeat (first | apply Kd.R_alloc | apply Kd.R_drewN | apply Kd.R_drew)); exact HO_3.out, bl⟩
   rw [if_pos c4] at H
   have c4b0 := decide_eq_true c4
   clear c4
   have H' := am H
   clear H
   go_wp2
   (try simp only [Act.put, List.setIfInBounds_toArray, List.set_cons_zero, List.set_cons_succ])
   go_loopg [3, 5] k1 (fun kq v3 v5 w' => ∃ (x3_2 : List (S116)) (x5_2 : Int), v5 = .int .i64 x5_2 ∧ Aside0 (spec_l3Fields.l1 kq l0 x3_2 x4_1 x5_2 = some r) ∧ Aside0 (kq ≤ k1) ∧ Aside0 (Kd.R k116 116 w' w.heap.size (fun _ => True) v3 x3_2) ∧ Aside0 (Below w.heap.size w w'))
   case atStart => exact ⟨(x3_1), (0), rs, H', ⟨Nat.le_refl _⟩, ⟨ro HO_3⟩, ⟨u154HB⟩⟩
   case round =>
    clear H'
    obtain ⟨x3_2, x5_2, rfl, HA, HK2, HO_3, HB⟩ := hrel
    cases gk with
    | zero => exact absurd HA.out (by simp [spec_l3Fields.l1])
    | succ k2 =>
     have H := HA.out
     clear HA
     simp only [spec_l3Fields.l1] at H
     revert H
     refine ifn fun c5 H => ?_
     have c5b0 := decide_eq_true c5
     clear c5
     revert H
     refine ifn fun c6 H => ?_
     have c6b0 := decide_eq_true c6
     clear c6
     by_cases c7 : (wrap64 (x5_2 + 1)) < ((rdOf ByteArray.empty l0 x4_1).size : Int)
     rotate_left
     ·rw [if_neg c7] at H
      have c7b0 := decide_eq_false c7
      clear c7
      have H' := am H
      clear H
      have p35 : 0 ≤ (x4_1 : Int) := od
      have q35 : x4_1 < (l0.length : Int) := od
      obtain ⟨ad35, e35, hx35_0⟩ := Kd.at_string HR0.out x4_1 p35 q35
      cases e35
      replace hx35_0 := hcw hx35_0
      replace p35 := eq_true p35
      replace q35 := eq_true q35
      go_wp2
      go_roundg k2
      case measure => have := HK1.out; have := HK2.out; omega
      case rel => exact ⟨(x3_2), (wrap64 (x4_1 + 1)), rs, H', ⟨by have := HK1.out; have := HK2.out; omega⟩, ⟨ro HO_3⟩, ⟨u154HB⟩⟩
     rw [if_pos c7] at H
     have c7b0 := decide_eq_true c7
     clear c7
     have HC8 := am H
     clear H
     have p35 : 0 ≤ (x4_1 : Int) := od
     have q35 : x4_1 < (l0.length : Int) := od
     obtain ⟨ad35, e35, hx35_0⟩ := Kd.at_string HR0.out x4_1 p35 q35
     cases e35
     replace hx35_0 := hcw hx35_0
     replace p35 := eq_true p35
     replace q35 := eq_true q35
     go_upto_region 8 with (fail)
     go_cut [40] (fun v40 wc => ∃ (kq : Nat) (x40_7 : Bool), v40 = .bool x40_7 ∧ Aside0 (spec_l3Fields.j2 kq l0 x3_2 x4_1 x5_2 x40_7 = some r) ∧ Aside0 (kq ≤ k2) ∧ Aside0 (Kd.R k116 116 wc w.heap.size (fun _ => True) u3 x3_2) ∧ Aside0 (Below w.heap.size w wc))
     case first =>
      have H := HC8.out
      clear HC8
      revert H
      refine ifn fun c9 H => ?_
      have c9b0 := decide_eq_true c9
      clear c9
      (first | rw [c9b0] | (simp only [i64_w, i32_w]; rw [c9b0]) | skip)
      revert H
      refine ifn fun c10 H => ?_
      have c10b0 := decide_eq_true c10
      clear c10
      by_cases c12 : (bt (rdOf ByteArray.empty l0 x4_1) x5_2) = 58
      rotate_left
      ·rw [if_neg c12] at H
       have c12b0 := eqf c12
       have c12b1 := net c12
       have H' := am H
       clear H
       have p39 : 0 ≤ (x4_1 : Int) := od
       have q39 : x4_1 < (l0.length : Int) := od
       obtain ⟨ad39, e39, hx39_0⟩ := Kd.at_string HR0.out x4_1 p39 q39
       obtain rfl : ad35 = ad39 := (by injection e39)
       replace hx39_0 := hcw hx39_0
       replace p39 := eq_true p39
       replace q39 := eq_true q39
       have p11 : 0 ≤ (x5_2 : Int) := od
       have q11 : x5_2 < ((rdOf ByteArray.empty l0 x4_1).size : Int) := od
       have hx11 := bt_at (rdOf ByteArray.empty l0 x4_1) x5_2
       replace p11 := eq_true p11
       replace q11 := eq_true q11
       go_wp2
       go_meet
       case rel => exact ⟨_, (false), rs, H', ⟨by have := HK1.out; have := HK2.out; first | omega | exact Nat.le_refl _⟩, ⟨ro HO_3⟩, ⟨u154HB⟩⟩
      rw [if_pos c12] at H
      have c12b0 := eqt c12
      have c12b1 := nef c12
      clear c12
      obtain ⟨ji13, hji13⟩ : ∃ j_ : Int, (wrap64 (x5_2 + 1)) = j_ := ⟨_, rfl⟩
      replace H : (if 0 ≤ (ji13) then (spec_l3Fields.j2 k2 l0 x3_2 x4_1 x5_2 ((bt (rdOf ByteArray.empty l0 x4_1) (ji13)) == 32)) else (none)) = some r := by first | (rw [hji13] at H; exact H) | (simp only [hji13] at H ⊢; exact H)
      (try rw [hji13] at c7b0)
      have hji13w : (IntKind.i64.wrap (x5_2 + 1)) = ji13 := (i64_w _).trans hji13
      revert H
      refine ifn fun c14 H => ?_
      have c14b0 := decide_eq_true c14
      clear c14
      have H' := am H
      clear H
      have p39 : 0 ≤ (x4_1 : Int) := od
      have q39 : x4_1 < (l0.length : Int) := od
      obtain ⟨ad39, e39, hx39_0⟩ := Kd.at_string HR0.out x4_1 p39 q39
      obtain rfl : ad35 = ad39 := (by injection e39)
      replace hx39_0 := hcw hx39_0
      replace p39 := eq_true p39
      replace q39 := eq_true q39
      have p11 : 0 ≤ (x5_2 : Int) := od
      have q11 : x5_2 < ((rdOf ByteArray.empty l0 x4_1).size : Int) := od
      have hx11 := bt_at (rdOf ByteArray.empty l0 x4_1) x5_2
      replace p11 := eq_true p11
      replace q11 := eq_true q11
      have p41 : 0 ≤ (x4_1 : Int) := od
      have q41 : x4_1 < (l0.length : Int) := od
      obtain ⟨ad41, e41, hx41_0⟩ := Kd.at_string HR0.out x4_1 p41 q41
      obtain rfl : ad35 = ad41 := (by injection e41)
      replace hx41_0 := hcw hx41_0
      replace p41 := eq_true p41
      replace q41 := eq_true q41
      have p15 : 0 ≤ ((ji13) : Int) := od
      have q15 : (ji13) < ((rdOf ByteArray.empty l0 x4_1).size : Int) := od
      have hx15 := bt_at (rdOf ByteArray.empty l0 x4_1) (ji13)
      replace p15 := eq_true p15
      replace q15 := eq_true q15
      go_wp2
      go_meet
      case rel => exact ⟨_, (((bt (rdOf ByteArray.empty l0 x4_1) (ji13)) == 32)), (by first | rfl | (simp; done) | (simp only [← hji13] <;> (first | rfl | simp)) | (simp [*]; done)), H', ⟨by have := HK1.out; have := HK2.out; first | omega | exact Nat.le_refl _⟩, ⟨ro HO_3⟩, ⟨u154HB⟩⟩
     case rest =>
      clear HC8
      obtain ⟨kq, x40_7, rfl, HA, HJ7, HO_3, HB⟩ := hcut
      cases kq with
      | zero => exact absurd HA.out (by simp [spec_l3Fields.j2])
      | succ kj7 =>
       have H := HA.out
       clear HA
       simp only [spec_l3Fields.j2] at H
       by_cases c16 : x40_7 = true
       rotate_left
       ·replace c16 := nb_ c16
        subst c16
        rw [if_neg ff_] at H
        have H' := am H
        clear H
        go_wp2
        go_roundg kj7
        case measure => have := HK1.out; have := HK2.out; have := HJ7.out; omega
        case rel => exact ⟨(x3_2), (wrap64 (x5_2 + 1)), rs, H', ⟨by have := HK1.out; have := HK2.out; have := HJ7.out; omega⟩, ⟨ro HO_3⟩, ⟨u154HB⟩⟩
       subst c16
       rw [if_pos rfl] at H
       revert H
       refine ifn fun c17 H => ?_
       have c17b0 := decide_eq_true c17
       clear c17
       revert H
       refine ifn fun c18 H => ?_
       have c18b0 := decide_eq_true c18
       clear c18
       revert H
       refine ifn fun c19 H => ?_
       have c19b0 := eq_true c19
       have c19b1 := decide_eq_true c19
       clear c19
       revert H
       refine ifn fun c20 H => ?_
       have c20b0 := eq_true c20
       have c20b1 := decide_eq_true c20
       clear c20
       obtain ⟨ji21, hji21⟩ : ∃ j_ : Int, (wrap64 (x5_2 + 2)) = j_ := ⟨_, rfl⟩
       replace H : (if 0 ≤ (ji21) then (if (ji21) ≤ ((rdOf ByteArray.empty l0 x4_1).size : Int) then (if ((rdOf ByteArray.empty l0 x4_1).extract 0 (x5_2 : Int).toNat).toList = ([99, 111, 110, 116, 101, 110, 116, 45, 108, 101, 110, 103, 116, 104] : List UInt8) then (spec_l3Fields.l0 kj7 l0 x3_2 (wrap64 (x4_1 + 1))) else (if x3_2.length < 4398046511104 then (spec_l3Fields.l0 kj7 l0 (x3_2 ++ [(⟨(rdOf ByteArray.empty l0 x4_1).extract 0 (x5_2 : Int).toNat, (rdOf ByteArray.empty l0 x4_1).extract ((ji21) : Int).toNat (rdOf ByteArray.empty l0 x4_1).size⟩ : S116)]) (wrap64 (x4_1 + 1))) else (none))) else (none)) else (none)) = some r := by first | (rw [hji21] at H; exact H) | (simp only [hji21] at H ⊢; exact H)
       have hji21w : (IntKind.i64.wrap (x5_2 + 2)) = ji21 := (i64_w _).trans hji21
       revert H
       refine ifn fun c22 H => ?_
       have c22b0 := eq_true c22
       have c22b1 := decide_eq_true c22
       clear c22
       revert H
       refine ifn fun c23 H => ?_
       have c23b0 := eq_true c23
       have c23b1 := decide_eq_true c23
       clear c23
       by_cases c24 : ((rdOf ByteArray.empty l0 x4_1).extract 0 (x5_2 : Int).toNat).toList = ([99, 111, 110, 116, 101, 110, 116, 45, 108, 101, 110, 103, 116, 104] : List UInt8)
       ·rw [if_pos c24] at H
        have c24b0 := eqt c24
        have c24b1 := nef c24
        clear c24
        have H' := am H
        clear H
        try go_wp2
        replace HO_3 := am (Kd.R_drew HO_3.out)
        replace HB := am (below_drew1 HB.out)
        have p37 : 0 ≤ (x4_1 : Int) := od
        have q37 : x4_1 < (l0.length : Int) := od
        obtain ⟨ad37, e37, hx37_0⟩ := Kd.at_string HR0.out x4_1 p37 q37
        have hw1331_0 := hx37_0
        obtain rfl : ad35 = ad37 := (by injection e37)
        replace hx37_0 := hcw hx37_0
        replace p37 := eq_true p37
        replace q37 := eq_true q37
        have p38 : 0 ≤ (x4_1 : Int) := od
        have q38 : x4_1 < (l0.length : Int) := od
        obtain ⟨ad38, e38, hx38_0⟩ := Kd.at_string HR0.out x4_1 p38 q38
        have hw1332_0 := hx38_0
        obtain rfl : ad35 = ad38 := (by injection e38)
        replace hx38_0 := hcw hx38_0
        replace p38 := eq_true p38
        replace q38 := eq_true q38
        refine start_ (n := 16) (S := fun w' => w'.cell? (ad35.add (x4_1).toNat) = some (.string (rdOf ByteArray.empty l0 x4_1)) ∧ w'.cell? (ad35.add (x4_1).toNat) = some (.string (rdOf ByteArray.empty l0 x4_1))) (ds := []) ⟨br true [0, 16]⟩ (by kernel_rfl) rfl (by kernel_rfl) ⟨(hcw hw1331_0), (hcw hw1332_0)⟩ (fun hHeld => ?_); refine with_tabW spec_l3Fields.tab9 spec_l3Fields.bits9 (fun HT_ HW_ => ?_)
        generalize wc.drew = w25 at HO_3 HB hx37_0 hx38_0 hHeld ⊢
        refine pu 0 41 [1, 15] ?_
        refine pu 1 42 [2, 14] ?_
        refine pu 2 43 [3, 13] ?_
        refine pu 4 45 [3, 1, 1, 11] ?_
        refine pu 6 47 [3, 1, 1, 1, 1, 9] ?_
        refine pu 7 48 [3, 1, 1, 1, 2, 8] ?_
        refine pu 8 49 [3, 1, 1, 1, 3, 7] ?_
        refine pu 10 51 [3, 1, 1, 1, 3, 1, 1, 5] ?_
        refine pu 11 52 [3, 1, 1, 1, 3, 1, 2, 4] ?_
        refine tk 3 44 [5, 1, 3, 1, 2, 4] ?_
        refine pu 5 46 [9, 1, 2, 4] ?_
        refine tk 9 50 [12, 4] ?_
        refine pu 12 53 [13, 3] ?_
        refine pu 13 54 [14, 2] ?_
        refine one_ (i := 14) (N := some 6) #[true, true, true, true, true, true, true, true, true, true, true, true, true, true, true, false] rfl rfl (one_of HT_.out (by kernel_rfl)) (by decide) (fun K hK => ?_)
        refine box_step ?hg (N := 6) ?hd (cs := #[.string (⟨#[]⟩ : ByteArray), .string (⟨#[]⟩ : ByteArray)]) (t := 116) ?hr ?_; (case hd => rfl); (case hg => rfl); (case hr => first | (go_simp; done) | (go_simp; rfl))
        intro gb29 hg w26 hbox hb
        replace HO_3 := am (Kd.R_below (Kd.R_elderB (ro HO_3) gb29 (Nat.le_of_eq hg.symm)) hb)
        have BK29 := am (hbox)
        have GW29 := am (sz hg : w.heap.size ≤ gb29)
        have GE29 := am (sz hg : w.heap.size ≤ gb29)
        replace HB := am (below_step bl hb)
        clear hb hbox hg
        refine hK.out _ _ ⟨(hcw hw1331_0), (hcw hw1332_0)⟩ (fun hHeld => ?_)
        clear hK K
        refine nm 6 ?_
        refine one_ (i := 15) (N := none) #[true, true, true, true, true, true, true, true, true, true, true, true, true, true, true, true] rfl rfl (one_of HT_.out (by kernel_rfl)) (by decide) (fun K hK => ?_)
        have hs27 : w26.cell? ⟨gb29, 0, none⟩ = some (.string (⟨#[]⟩ : ByteArray)) := bc BK29
        have hfs27 := blk_frozen BK29.out 0
        have hs28 : w26.cell? ⟨gb29, 1, none⟩ = some (.string (⟨#[]⟩ : ByteArray)) := bc BK29
        have hfs28 := blk_frozen BK29.out 1
        refine skip_ (w1 := ?_) (by rfl) rfl ?_ ?_
        rotate_left
        ·go_simp
         rfl
        refine hK.out _ _ ⟨((cell_far (p := ⟨gb29, _, none⟩) (by first | exact Nat.ne_of_lt (Nat.lt_of_lt_of_le (by have := World.block_lt_of_cell? _ _ hw1331_0; first | rwa [add_block] at this | exact this) GW29.out) | (rw [add_block]; exact Nat.ne_of_lt (Nat.lt_of_lt_of_le (by have := World.block_lt_of_cell? _ _ hw1331_0; first | rwa [add_block] at this | exact this) GW29.out)) | (show (Addr.add _ _).block ≠ _; rw [add_block]; exact Nat.ne_of_lt (Nat.lt_of_lt_of_le (by have := World.block_lt_of_cell? _ _ hw1331_0; first | rwa [add_block] at this | exact this) GW29.out)) | (dsimp only; exact Nat.ne_of_lt (Nat.lt_of_lt_of_le (by have := World.block_lt_of_cell? _ _ hw1331_0; first | rwa [add_block] at this | exact this) GW29.out))) _).trans (((cell_far (p := ⟨gb29, _, none⟩) (by first | exact Nat.ne_of_lt (Nat.lt_of_lt_of_le (by have := World.block_lt_of_cell? _ _ hw1331_0; first | rwa [add_block] at this | exact this) GW29.out) | (rw [add_block]; exact Nat.ne_of_lt (Nat.lt_of_lt_of_le (by have := World.block_lt_of_cell? _ _ hw1331_0; first | rwa [add_block] at this | exact this) GW29.out)) | (show (Addr.add _ _).block ≠ _; rw [add_block]; exact Nat.ne_of_lt (Nat.lt_of_lt_of_le (by have := World.block_lt_of_cell? _ _ hw1331_0; first | rwa [add_block] at this | exact this) GW29.out)) | (dsimp only; exact Nat.ne_of_lt (Nat.lt_of_lt_of_le (by have := World.block_lt_of_cell? _ _ hw1331_0; first | rwa [add_block] at this | exact this) GW29.out))) _).trans (hHeld.1)))), ((cell_far (p := ⟨gb29, _, none⟩) (by first | exact Nat.ne_of_lt (Nat.lt_of_lt_of_le (by have := World.block_lt_of_cell? _ _ hw1332_0; first | rwa [add_block] at this | exact this) GW29.out) | (rw [add_block]; exact Nat.ne_of_lt (Nat.lt_of_lt_of_le (by have := World.block_lt_of_cell? _ _ hw1332_0; first | rwa [add_block] at this | exact this) GW29.out)) | (show (Addr.add _ _).block ≠ _; rw [add_block]; exact Nat.ne_of_lt (Nat.lt_of_lt_of_le (by have := World.block_lt_of_cell? _ _ hw1332_0; first | rwa [add_block] at this | exact this) GW29.out)) | (dsimp only; exact Nat.ne_of_lt (Nat.lt_of_lt_of_le (by have := World.block_lt_of_cell? _ _ hw1332_0; first | rwa [add_block] at this | exact this) GW29.out))) _).trans (((cell_far (p := ⟨gb29, _, none⟩) (by first | exact Nat.ne_of_lt (Nat.lt_of_lt_of_le (by have := World.block_lt_of_cell? _ _ hw1332_0; first | rwa [add_block] at this | exact this) GW29.out) | (rw [add_block]; exact Nat.ne_of_lt (Nat.lt_of_lt_of_le (by have := World.block_lt_of_cell? _ _ hw1332_0; first | rwa [add_block] at this | exact this) GW29.out)) | (show (Addr.add _ _).block ≠ _; rw [add_block]; exact Nat.ne_of_lt (Nat.lt_of_lt_of_le (by have := World.block_lt_of_cell? _ _ hw1332_0; first | rwa [add_block] at this | exact this) GW29.out)) | (dsimp only; exact Nat.ne_of_lt (Nat.lt_of_lt_of_le (by have := World.block_lt_of_cell? _ _ hw1332_0; first | rwa [add_block] at this | exact this) GW29.out))) _).trans (hHeld.2))))⟩ (fun hHeld => ?_)
        clear hK K
        refine done_ (done_of HT_.out (by kernel_rfl)) ?_
        obtain ⟨_, _, _, _⟩ := cl2 BK29
        try go_wp2
        go_roundg kj7
        case measure => have := HK1.out; have := HK2.out; have := HJ7.out; omega
        case rel => exact ⟨(x3_2), (wrap64 (x4_1 + 1)), rs, H', ⟨by have := HK1.out; have := HK2.out; have := HJ7.out; omega⟩, ⟨by (with_reducible repeat (first | apply Kd.R_alloc | apply Kd.R_drewN | apply Kd.R_drew)); exact Kd.R_mono (Kd.R_far (p := ⟨gb29, 1, none⟩) (Kd.R_far (p := ⟨gb29, 0, none⟩) (Kd.R_mono HO_3.out (fun k_ hk => (⟨hk, hk.2⟩ : _ ∧ k_ ≠ gb29))) (fun _ hk => hk.2) (.string ((rdOf ByteArray.empty l0 x4_1).extract 0 (x5_2 : Int).toNat))) (fun _ hk => hk.2) (.string ((rdOf ByteArray.empty l0 x4_1).extract ((ji21) : Int).toNat (rdOf ByteArray.empty l0 x4_1).size))) (fun _ hk => trivial)⟩, ⟨u154HB⟩⟩
       rw [if_neg c24] at H
       have c24b0 := eqf c24
       have c24b1 := net c24
       revert H
       refine ifn fun c30 H => ?_
       have LMc30 := am c30
       clear c30
       obtain ⟨y42, hy42⟩ : ∃ y_ : List (S116), y_ = (x3_2 ++ [(⟨(rdOf ByteArray.empty l0 x4_1).extract 0 (x5_2 : Int).toNat, (rdOf ByteArray.empty l0 x4_1).extract ((ji21) : Int).toNat (rdOf ByteArray.empty l0 x4_1).size⟩ : S116)]) := ⟨_, rfl⟩
       replace H : (spec_l3Fields.l0 kj7 l0 y42 (wrap64 (x4_1 + 1))) = some r := by first | (rw [hy42]; with_reducible exact H) | (have H2_ := (Option.bind_some _ _).symm.trans H; rw [hy42]; with_reducible exact H2_) | (have H2_ := (Option.bind_some _ _).symm.trans H; with_reducible exact H2_) | with_reducible exact H | (rw [hy42]; exact H) | exact H
       have Ny42 := am hy42
       clear hy42
       have H' := am H
       clear H
       try go_wp2
       replace HO_3 := am (Kd.R_drew HO_3.out)
       replace HB := am (below_drew1 HB.out)
       have p37 : 0 ≤ (x4_1 : Int) := od
       have q37 : x4_1 < (l0.length : Int) := od
       obtain ⟨ad37, e37, hx37_0⟩ := Kd.at_string HR0.out x4_1 p37 q37
       have hw1331_0 := hx37_0
       obtain rfl : ad35 = ad37 := (by injection e37)
       replace hx37_0 := hcw hx37_0
       replace p37 := eq_true p37
       replace q37 := eq_true q37
       have p38 : 0 ≤ (x4_1 : Int) := od
       have q38 : x4_1 < (l0.length : Int) := od
       obtain ⟨ad38, e38, hx38_0⟩ := Kd.at_string HR0.out x4_1 p38 q38
       have hw1332_0 := hx38_0
       obtain rfl : ad35 = ad38 := (by injection e38)
       replace hx38_0 := hcw hx38_0
       replace p38 := eq_true p38
       replace q38 := eq_true q38
       refine start_ (n := 16) (S := fun w' => w'.cell? (ad35.add (x4_1).toNat) = some (.string (rdOf ByteArray.empty l0 x4_1)) ∧ w'.cell? (ad35.add (x4_1).toNat) = some (.string (rdOf ByteArray.empty l0 x4_1))) (ds := []) ⟨br true [0, 16]⟩ (by kernel_rfl) rfl (by kernel_rfl) ⟨(hcw hw1331_0), (hcw hw1332_0)⟩ (fun hHeld => ?_); refine with_tabW spec_l3Fields.tab9 spec_l3Fields.bits9 (fun HT_ HW_ => ?_)
       generalize wc.drew = w31 at HO_3 HB hx37_0 hx38_0 hHeld ⊢
       refine pu 0 41 [1, 15] ?_
       refine pu 1 42 [2, 14] ?_
       refine pu 2 43 [3, 13] ?_
       refine pu 4 45 [3, 1, 1, 11] ?_
       refine pu 6 47 [3, 1, 1, 1, 1, 9] ?_
       refine pu 7 48 [3, 1, 1, 1, 2, 8] ?_
       refine pu 8 49 [3, 1, 1, 1, 3, 7] ?_
       refine pu 10 51 [3, 1, 1, 1, 3, 1, 1, 5] ?_
       refine pu 11 52 [3, 1, 1, 1, 3, 1, 2, 4] ?_
       refine tk 3 44 [5, 1, 3, 1, 2, 4] ?_
       refine pu 5 46 [9, 1, 2, 4] ?_
       refine tk 9 50 [12, 4] ?_
       refine pu 12 53 [13, 3] ?_
       refine pu 13 54 [14, 2] ?_
       refine one_ (i := 14) (N := some 6) #[true, true, true, true, true, true, true, true, true, true, true, true, true, true, true, false] rfl rfl (one_of HT_.out (by kernel_rfl)) (by decide) (fun K hK => ?_)
       refine box_step ?hg (N := 6) ?hd (cs := #[.string (⟨#[]⟩ : ByteArray), .string (⟨#[]⟩ : ByteArray)]) (t := 116) ?hr ?_; (case hd => rfl); (case hg => rfl); (case hr => first | (go_simp; done) | (go_simp; rfl))
       intro gb29 hg w32 hbox hb
       replace HO_3 := am (Kd.R_below (Kd.R_elderB (ro HO_3) gb29 (Nat.le_of_eq hg.symm)) hb)
       have BK29 := am (hbox)
       have GW29 := am (sz hg : w.heap.size ≤ gb29)
       have GE29 := am (sz hg : w.heap.size ≤ gb29)
       replace HB := am (below_step bl hb)
       clear hb hbox hg
       refine hK.out _ _ ⟨(hcw hw1331_0), (hcw hw1332_0)⟩ (fun hHeld => ?_)
       clear hK K
       refine nm 6 ?_
       refine one_ (i := 15) (N := none) #[true, true, true, true, true, true, true, true, true, true, true, true, true, true, true, true] rfl rfl (one_of HT_.out (by kernel_rfl)) (by decide) (fun K hK => ?_)
       have hs33 : w32.cell? ⟨gb29, 0, none⟩ = some (.string (⟨#[]⟩ : ByteArray)) := bc BK29
       have hfs33 := blk_frozen BK29.out 0
       have hs34 : w32.cell? ⟨gb29, 1, none⟩ = some (.string (⟨#[]⟩ : ByteArray)) := bc BK29
       have hfs34 := blk_frozen BK29.out 1
       refine skip_ (w1 := ?_) (by rfl) rfl ?_ ?_
       rotate_left
       ·go_simp
        rfl
       refine hK.out _ _ ⟨((cell_far (p := ⟨gb29, _, none⟩) (by first | exact Nat.ne_of_lt (Nat.lt_of_lt_of_le (by have := World.block_lt_of_cell? _ _ hw1331_0; first | rwa [add_block] at this | exact this) GW29.out) | (rw [add_block]; exact Nat.ne_of_lt (Nat.lt_of_lt_of_le (by have := World.block_lt_of_cell? _ _ hw1331_0; first | rwa [add_block] at this | exact this) GW29.out)) | (show (Addr.add _ _).block ≠ _; rw [add_block]; exact Nat.ne_of_lt (Nat.lt_of_lt_of_le (by have := World.block_lt_of_cell? _ _ hw1331_0; first | rwa [add_block] at this | exact this) GW29.out)) | (dsimp only; exact Nat.ne_of_lt (Nat.lt_of_lt_of_le (by have := World.block_lt_of_cell? _ _ hw1331_0; first | rwa [add_block] at this | exact this) GW29.out))) _).trans (((cell_far (p := ⟨gb29, _, none⟩) (by first | exact Nat.ne_of_lt (Nat.lt_of_lt_of_le (by have := World.block_lt_of_cell? _ _ hw1331_0; first | rwa [add_block] at this | exact this) GW29.out) | (rw [add_block]; exact Nat.ne_of_lt (Nat.lt_of_lt_of_le (by have := World.block_lt_of_cell? _ _ hw1331_0; first | rwa [add_block] at this | exact this) GW29.out)) | (show (Addr.add _ _).block ≠ _; rw [add_block]; exact Nat.ne_of_lt (Nat.lt_of_lt_of_le (by have := World.block_lt_of_cell? _ _ hw1331_0; first | rwa [add_block] at this | exact this) GW29.out)) | (dsimp only; exact Nat.ne_of_lt (Nat.lt_of_lt_of_le (by have := World.block_lt_of_cell? _ _ hw1331_0; first | rwa [add_block] at this | exact this) GW29.out))) _).trans (hHeld.1)))), ((cell_far (p := ⟨gb29, _, none⟩) (by first | exact Nat.ne_of_lt (Nat.lt_of_lt_of_le (by have := World.block_lt_of_cell? _ _ hw1332_0; first | rwa [add_block] at this | exact this) GW29.out) | (rw [add_block]; exact Nat.ne_of_lt (Nat.lt_of_lt_of_le (by have := World.block_lt_of_cell? _ _ hw1332_0; first | rwa [add_block] at this | exact this) GW29.out)) | (show (Addr.add _ _).block ≠ _; rw [add_block]; exact Nat.ne_of_lt (Nat.lt_of_lt_of_le (by have := World.block_lt_of_cell? _ _ hw1332_0; first | rwa [add_block] at this | exact this) GW29.out)) | (dsimp only; exact Nat.ne_of_lt (Nat.lt_of_lt_of_le (by have := World.block_lt_of_cell? _ _ hw1332_0; first | rwa [add_block] at this | exact this) GW29.out))) _).trans (((cell_far (p := ⟨gb29, _, none⟩) (by first | exact Nat.ne_of_lt (Nat.lt_of_lt_of_le (by have := World.block_lt_of_cell? _ _ hw1332_0; first | rwa [add_block] at this | exact this) GW29.out) | (rw [add_block]; exact Nat.ne_of_lt (Nat.lt_of_lt_of_le (by have := World.block_lt_of_cell? _ _ hw1332_0; first | rwa [add_block] at this | exact this) GW29.out)) | (show (Addr.add _ _).block ≠ _; rw [add_block]; exact Nat.ne_of_lt (Nat.lt_of_lt_of_le (by have := World.block_lt_of_cell? _ _ hw1332_0; first | rwa [add_block] at this | exact this) GW29.out)) | (dsimp only; exact Nat.ne_of_lt (Nat.lt_of_lt_of_le (by have := World.block_lt_of_cell? _ _ hw1332_0; first | rwa [add_block] at this | exact this) GW29.out))) _).trans (hHeld.2))))⟩ (fun hHeld => ?_)
       clear hK K
       refine done_ (done_of HT_.out (by kernel_rfl)) ?_
       obtain ⟨_, _, _, _⟩ := cl2 BK29
       try go_wp2_with (first | ((with_reducible refine gate_builtin (b := .append) (xs := #[.tmp 58, .tmp 60]) rfl ?_); at_builtin; refine Kd.R_append k116 (w0 := w) w.heap.size rfl (.tmp 58) (.tmp 60) 27 116 (.agg #[(.string ⟨#[]⟩), (.string ⟨#[]⟩)]) 32 rfl Tryz.underlying27 info116 rfl (by decide) (by omega) u3 x3_2 (⟨(rdOf ByteArray.empty l0 x4_1).extract 0 (x5_2 : Int).toNat, (rdOf ByteArray.empty l0 x4_1).extract ((ji21) : Int).toNat (rdOf ByteArray.empty l0 x4_1).size⟩ : S116) [.string ((rdOf ByteArray.empty l0 x4_1).extract 0 (x5_2 : Int).toNat), .string ((rdOf ByteArray.empty l0 x4_1).extract ((ji21) : Int).toNat (rdOf ByteArray.empty l0 x4_1).size)] (fun k_ => k_ ≠ gb29) (fun _ => False) rfl (by first | (go_simp; done) | (go_simp; rfl)) ?aP (fun _ hk => hk.elim) ?aF ?aO ?aB ?aS ?aL ?_; (case aP => exact k116_mkM _ _ _ (⟨(rdOf ByteArray.empty l0 x4_1).extract 0 (x5_2 : Int).toNat, (rdOf ByteArray.empty l0 x4_1).extract ((ji21) : Int).toNat (rdOf ByteArray.empty l0 x4_1).size⟩ : S116)); (case aB => exact bl); (case aF => exact (fun k_ hk => Kd.freshB (g := gb29) (o := .cells #[.string ((rdOf ByteArray.empty l0 x4_1).extract 0 (x5_2 : Int).toNat), .string ((rdOf ByteArray.empty l0 x4_1).extract ((ji21) : Int).toNat (rdOf ByteArray.empty l0 x4_1).size)] 116 (0, 0)) (pt0 BK29) k_ hk)); (case aO => exact (by (with_reducible repeat (first | apply Kd.R_alloc | apply Kd.R_drewN | apply Kd.R_drew)); exact Kd.R_mono (Kd.R_far (p := ⟨gb29, 1, none⟩) (Kd.R_far (p := ⟨gb29, 0, none⟩) (Kd.R_mono HO_3.out (fun k_ hk => (⟨hk, hk.2⟩ : _ ∧ k_ ≠ gb29))) (fun _ hk => hk.2) (.string ((rdOf ByteArray.empty l0 x4_1).extract 0 (x5_2 : Int).toNat))) (fun _ hk => hk.2) (.string ((rdOf ByteArray.empty l0 x4_1).extract ((ji21) : Int).toNat (rdOf ByteArray.empty l0 x4_1).size))) (fun _ hk => hk.1.2))); (case aS => exact (below_size bl)); (case aL => have := LMc30.out; omega); intro v47 w36 ho hb hg hat; rw [← Ny42.out] at ho; have n0_ := am (blk_grown (g := gb29) (o := .cells #[.string ((rdOf ByteArray.empty l0 x4_1).extract 0 (x5_2 : Int).toNat), .string ((rdOf ByteArray.empty l0 x4_1).extract ((ji21) : Int).toNat (rdOf ByteArray.empty l0 x4_1).size)] 116 (0, 0)) (pt0 BK29) hg (Kd.R_away HO_3.out (fun _ hk => hk.2))); have n1_ := am (hb); have n2_ := am (ho); clear BK29; clear HB; clear HO_3; have BK29 := n0_; have HB := n1_; have HO45 := n2_; clear n0_ n1_ n2_; clear ho hb hg hat))
       go_roundg kj7
       case measure => have := HK1.out; have := HK2.out; have := HJ7.out; omega
       case rel => exact ⟨(y42), (wrap64 (x4_1 + 1)), rs, H', ⟨by have := HK1.out; have := HK2.out; have := HJ7.out; omega⟩, ⟨rm HO45 (fun _ hk => trivial)⟩, ⟨u154HB⟩⟩
end Go.Proofs.YtjlpjbkpmmpojaaGreatDoor.All
