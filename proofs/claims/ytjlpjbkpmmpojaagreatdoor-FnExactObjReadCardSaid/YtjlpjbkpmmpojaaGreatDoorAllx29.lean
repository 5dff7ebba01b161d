-- Written by a program of this session (wip/tools/hprint.py) out of the translation. Lean checks it.
import Derived.Test.YtjlpjbkpmmpojaaGreatDoorAllx0
import Derived.Test.YtjlpjbkpmmpojaaGreatDoorAllx1
import Derived.Test.YtjlpjbkpmmpojaaGreatDoorAllx7
import Derived.Test.YtjlpjbkpmmpojaaGreatDoorAllx12
namespace Go.Proofs.YtjlpjbkpmmpojaaGreatDoor.All
open Go.RowKit Go.Proofs.YtjlpjbkpmmpojaaGreatDoorW.PrintWords Go.Proofs.YtjlpjbkpmmpojaaGreatDoorW.PrintLast Go.Proofs.YtjlpjbkpmmpojaaGreatDoorW.PrintMore
attribute [local go_sem] max2_int min2_int max_two min_two max_three min_three max_four min_four   -- for this text's walks alone
set_option linter.unusedVariables false
set_option linter.unusedSimpArgs false

/-! ### spec_FieldsText: function 167 -/
def spec_FieldsText.l0 : Nat → List (S116) → ByteArray → Int → Option (ByteArray)
 | 0, _, _, _ => none
 | k + 1, x0, x3, x4 => if x4 < (x0.length : Int) then (if 0 ≤ x4 then (if x3.size + ((rd_T116 x0 x4).f0).size ≤ 9223372036854775807 then (if (x3 ++ ((rd_T116 x0 x4).f0)).size + 2 ≤ 9223372036854775807 then (if ((x3 ++ ((rd_T116 x0 x4).f0)) ++ (⟨#[58, 32]⟩ : ByteArray)).size + ((rd_T116 x0 x4).f1).size ≤ 9223372036854775807 then (if (((x3 ++ ((rd_T116 x0 x4).f0)) ++ (⟨#[58, 32]⟩ : ByteArray)) ++ ((rd_T116 x0 x4).f1)).size + 2 ≤ 9223372036854775807 then (spec_FieldsText.l0 k x0 ((((x3 ++ ((rd_T116 x0 x4).f0)) ++ (⟨#[58, 32]⟩ : ByteArray)) ++ ((rd_T116 x0 x4).f1)) ++ (⟨#[13, 10]⟩ : ByteArray)) (wrap64 (x4 + 1))) else (none)) else (none)) else (none)) else (none)) else (none)) else (some x3)
def spec_FieldsText.f (k : Nat) (l0 : List (S116)) : Option (ByteArray) := spec_FieldsText.l0 k l0 (⟨#[]⟩ : ByteArray) 0
theorem spec_FieldsText.mono_l : ∀ k, (∀ y0 y1 y2, LeO (spec_FieldsText.l0 k y0 y1 y2) (spec_FieldsText.l0 (k + 1) y0 y1 y2))
 | 0 => fun _ _ _ r h => by simp [spec_FieldsText.l0] at h
 | k + 1 => by
  have ih0 := spec_FieldsText.mono_l k
  ·intro y0 y1 y2
   unfold spec_FieldsText.l0
   exact mo
theorem spec_FieldsText.mono : ∀ a0 k, LeO (spec_FieldsText.f k a0) (spec_FieldsText.f (k + 1) a0) := by
 intro a0 k
 have ih0 := spec_FieldsText.mono_l k
 unfold spec_FieldsText.f
 exact mo
set_option maxHeartbeats 8000000 in
set_option maxRecDepth 100000 in
theorem spec_FieldsText.calls (k : Nat) (A0 : Option Addr) (c0 : Nat) (l0 : List (S116)) (r : ByteArray) (w : World) (hr0 : Kd.C k116 w A0 l0.length l0) (hc0 : l0.length ≤ c0) (h : spec_FieldsText.f k l0 = some r) :
  Calls Tryz.prog 167 #[.slice A0 l0.length c0] w fun e w' => e = .returned (.string r) ∧ Drawn0 w w' := by
 have HR0 := am hr0
 have HC0 := am hc0
 clear hr0 hc0
 unfold spec_FieldsText.f at h
 have H := h
 clear h
 have H' := am H
 clear H
 go_enter Tryz.func167, Tryz.ntmps167
 go_wp2
 repeat (go_quiet (fail); try go_wp2)
 (try simp only [Act.put, List.setIfInBounds_toArray, List.set_cons_zero, List.set_cons_succ])
 go_loopg [3, 4] k (fun kq v3 v4 w' => ∃ (x3_1 : ByteArray) (x4_1 : Int), v3 = .string x3_1 ∧ v4 = .int .i64 x4_1 ∧ Aside0 (spec_FieldsText.l0 kq l0 x3_1 x4_1 = some r) ∧ Aside0 (kq ≤ k) ∧ Drawn0 w w')
 case atStart => exact ⟨((⟨#[]⟩ : ByteArray)), (0), rs, rs, H', ⟨Nat.le_refl _⟩, dr⟩
 case round =>
  clear H'
  try clear c1
  obtain ⟨x3_1, x4_1, rfl, rfl, HA, HK1, ⟨m1, rfl⟩⟩ := hrel
  cases gk with
  | zero => exact absurd HA.out (by simp [spec_FieldsText.l0])
  | succ k1 =>
   have H := HA.out
   clear HA
   simp only [spec_FieldsText.l0] at H
   by_cases c2 : x4_1 < (l0.length : Int)
   rotate_left
   ·rw [if_neg c2] at H
    have c2b0 := decide_eq_false c2
    clear c2
    obtain rfl := Option.some.inj H
    go_wp2
    repeat (go_quiet (fail); try go_wp2)
    go_ret
    exact ⟨rs, dr⟩
   rw [if_pos c2] at H
   have c2b0 := decide_eq_true c2
   clear c2
   revert H
   refine ifn fun c3 H => ?_
   have c3b0 := decide_eq_true c3
   clear c3
   revert H
   refine ifn fun c4 H => ?_
   have c4b0 := eq_true c4
   have c4b1 := decide_eq_true c4
   try have c4b2 := eq_false (Nat.not_lt.2 c4)
   revert H
   refine ifn fun c5 H => ?_
   have c5b0 := eq_true c5
   have c5b1 := decide_eq_true c5
   try have c5b2 := eq_false (Nat.not_lt.2 c5)
   have c5b3 : (9223372036854775807 < (x3_1).size + ((rd_T116 l0 x4_1).f0).size + 2) = False := b3 c5
   revert H
   refine ifn fun c6 H => ?_
   have c6b0 := eq_true c6
   have c6b1 := decide_eq_true c6
   try have c6b2 := eq_false (Nat.not_lt.2 c6)
   have c6b3 : (9223372036854775807 < (x3_1).size + ((rd_T116 l0 x4_1).f0).size + 2 + ((rd_T116 l0 x4_1).f1).size) = False := b3 c6
   revert H
   refine ifn fun c7 H => ?_
   have c7b0 := eq_true c7
   have c7b1 := decide_eq_true c7
   try have c7b2 := eq_false (Nat.not_lt.2 c7)
   have c7b3 : (9223372036854775807 < (x3_1).size + ((rd_T116 l0 x4_1).f0).size + 2 + ((rd_T116 l0 x4_1).f1).size + 2) = False := b3 c7
   have H' := am H
   clear H
   have p1297 : 0 ≤ (x4_1 : Int) := od
   have q1297 : x4_1 < (l0.length : Int) := od
   obtain ⟨ad1297, e1297, hx1297_0, hx1297_1⟩ := at_T116 HR0.out x4_1 p1297 q1297
   cases e1297
   replace p1297 := eq_true p1297
   replace q1297 := eq_true q1297
   have p1298 : 0 ≤ (x4_1 : Int) := od
   have q1298 : x4_1 < (l0.length : Int) := od
   obtain ⟨ad1298, e1298, hx1298_0, hx1298_1⟩ := at_T116 HR0.out x4_1 p1298 q1298
   obtain rfl : ad1297 = ad1298 := (by injection e1298)
   replace p1298 := eq_true p1298
   replace q1298 := eq_true q1298
   go_wp2
   repeat (go_quiet (fail); try go_wp2)
   go_roundg k1
   case measure => have := HK1.out; omega
   case rel => exact ⟨((((x3_1 ++ ((rd_T116 l0 x4_1).f0)) ++ (⟨#[58, 32]⟩ : ByteArray)) ++ ((rd_T116 l0 x4_1).f1)) ++ (⟨#[13, 10]⟩ : ByteArray)), (wrap64 (x4_1 + 1)), rs, rs, H', ⟨by have := HK1.out; omega⟩, dr⟩

/-! ### spec_RespText: function 127 -/
def spec_RespText.f (k : Nat) (a0_0 : Int) (l0_1 : List (S116)) (a0_2 : ByteArray) : Option (ByteArray) := (spec_RespOk.f k a0_0 l0_1 a0_2).bind fun t1300 => (if t1300 = true then ((spec_NumText.f k a0_0).bind fun t1301 => (if 9 + t1301.size ≤ 9223372036854775807 then (if ((⟨#[72, 84, 84, 80, 47, 49, 46, 49, 32]⟩ : ByteArray) ++ t1301).size + 4 ≤ 9223372036854775807 then ((spec_FieldsText.f k l0_1).bind fun t1302 => (if (((⟨#[72, 84, 84, 80, 47, 49, 46, 49, 32]⟩ : ByteArray) ++ t1301) ++ (⟨#[32, 46, 13, 10]⟩ : ByteArray)).size + t1302.size ≤ 9223372036854775807 then (if ((((⟨#[72, 84, 84, 80, 47, 49, 46, 49, 32]⟩ : ByteArray) ++ t1301) ++ (⟨#[32, 46, 13, 10]⟩ : ByteArray)) ++ t1302).size + 16 ≤ 9223372036854775807 then ((spec_NumText.f k (a0_2.size : Int)).bind fun t1303 => (if (((((⟨#[72, 84, 84, 80, 47, 49, 46, 49, 32]⟩ : ByteArray) ++ t1301) ++ (⟨#[32, 46, 13, 10]⟩ : ByteArray)) ++ t1302) ++ (⟨#[99, 111, 110, 116, 101, 110, 116, 45, 108, 101, 110, 103, 116, 104, 58, 32]⟩ : ByteArray)).size + t1303.size ≤ 9223372036854775807 then (if ((((((⟨#[72, 84, 84, 80, 47, 49, 46, 49, 32]⟩ : ByteArray) ++ t1301) ++ (⟨#[32, 46, 13, 10]⟩ : ByteArray)) ++ t1302) ++ (⟨#[99, 111, 110, 116, 101, 110, 116, 45, 108, 101, 110, 103, 116, 104, 58, 32]⟩ : ByteArray)) ++ t1303).size + 4 ≤ 9223372036854775807 then (if (((((((⟨#[72, 84, 84, 80, 47, 49, 46, 49, 32]⟩ : ByteArray) ++ t1301) ++ (⟨#[32, 46, 13, 10]⟩ : ByteArray)) ++ t1302) ++ (⟨#[99, 111, 110, 116, 101, 110, 116, 45, 108, 101, 110, 103, 116, 104, 58, 32]⟩ : ByteArray)) ++ t1303) ++ (⟨#[13, 10, 13, 10]⟩ : ByteArray)).size + a0_2.size ≤ 9223372036854775807 then (some ((((((((⟨#[72, 84, 84, 80, 47, 49, 46, 49, 32]⟩ : ByteArray) ++ t1301) ++ (⟨#[32, 46, 13, 10]⟩ : ByteArray)) ++ t1302) ++ (⟨#[99, 111, 110, 116, 101, 110, 116, 45, 108, 101, 110, 103, 116, 104, 58, 32]⟩ : ByteArray)) ++ t1303) ++ (⟨#[13, 10, 13, 10]⟩ : ByteArray)) ++ a0_2)) else (none)) else (none)) else (none))) else (none)) else (none))) else (none)) else (none))) else (some (⟨#[]⟩ : ByteArray)))
theorem spec_RespText.mono : ∀ a0 a1 a2 k, LeO (spec_RespText.f k a0 a1 a2) (spec_RespText.f (k + 1) a0 a1 a2) := by
 intro a0 a1 a2 k
 unfold spec_RespText.f
 have m0 := @spec_FieldsText.mono
 have m1 := @spec_NumText.mono
 have m2 := @spec_RespOk.mono
 exact mo
def spec_RespText.T3 : Bool × List (List Nat × List Nat) := (true, [([], []), ([0], [0]), ([1], [1]), ([2], [2]), ([3], [3]), ([], []), ([5], [5]), ([6, 2], [6]), ([4, 7], [4, 7]), ([8], [8]), ([], []), ([10], [10]), ([11], [11]), ([12, 7], [12]), ([9, 13], [9, 13]), ([14], [14]), ([], []), ([16], [16]), ([15, 17], [15, 17]), ([18, 13, 0, 1, 2, 3, 4, 5, 6, 7, 8, 9, 10, 11, 12, 13, 14, 15, 16, 17, 18], [18])])
def spec_RespText.B3 : List Nat := [0, 1, 3, 7, 15, 0, 32, 103, 255, 511, 0, 1024, 3072, 7399, 16383, 32767, 0, 65536, 262143, 524287]
theorem spec_RespText.tab3 : rtab .any (opsOf Tryz.f127 3) = spec_RespText.T3 := by kernel_rfl
theorem spec_RespText.bits3 : waitsOk spec_RespText.T3.2 spec_RespText.B3 = true := by kernel_rfl
set_option maxHeartbeats 8000000 in
set_option maxRecDepth 100000 in
theorem spec_RespText.calls (k : Nat) (a0_0 : Int) (A0_1 : Option Addr) (c0_1 : Nat) (l0_1 : List (S116)) (a0_2 : ByteArray) (r : ByteArray) (w : World) (hr0_1 : Kd.C k116 w A0_1 l0_1.length l0_1) (hc0_1 : l0_1.length ≤ c0_1) (h : spec_RespText.f k a0_0 l0_1 a0_2 = some r) :
  Calls Tryz.prog 127 #[.agg #[.int .i64 a0_0, .slice A0_1 l0_1.length c0_1, .string a0_2]] w fun e w' => e = .returned (.string r) ∧ Below w.heap.size w w' := by
 have hu29 := Tryz.underlying29
 have HR0_1 := am hr0_1
 have HC0_1 := am hc0_1
 clear hr0_1 hc0_1
 have HB := am (Below.refl w.heap.size w)
 unfold spec_RespText.f at h
 have H := h
 clear h
 revert H
 refine ok1 fun t1300 A2 H => ?_
 have HH3 := am H
 clear H
 go_enter Tryz.func127, Tryz.ntmps127
 go_upto_if 5 with ((with_reducible refine gw ?_); first | (refine bx 1 #[.int .i64 a0_0, .slice A0_1 l0_1.length c0_1, .string a0_2] 29 ?_; intro gb1299 hg w4 hbox hb; have BK1299 := am (hbox); have GW1299 := am (sz hg : w.heap.size ≤ gb1299); have GE1299 := am (sz hg : w.heap.size ≤ gb1299); replace HB := am (below_step bl hb); clear hb hbox hg; obtain ⟨z5_0, y5_0, z5_1, y5_1, z5_2, y5_2⟩ := cl3 BK1299) | (refine gl 4 Tryz.func92 #[.agg #[.int .i64 a0_0, .slice A0_1 l0_1.length c0_1, .string a0_2]] ?_; (with_reducible refine (spec_RespOk.calls k a0_0 _ _ l0_1 a0_2 t1300 _ ?side1 ?side2 A2.out).mono ?_); (case side1 => exact cb HR0_1); (case side2 => exact HC0_1.out); rintro e w6 ⟨rfl, hb⟩; refine ⟨_, rfl, ?_⟩; replace BK1299 := kb BK1299 hb; replace HB := am (below_step bl hb); clear hb))
 have H := HH3.out
 clear HH3
 by_cases c7 : t1300 = true
 rotate_left
 ·replace c7 := Bool.eq_false_iff.mpr c7
  subst c7
  rw [if_neg (show ¬ (false = true) by decide)] at H
  obtain rfl := Option.some.inj H
  go_wp2
  go_ret
  exact ⟨rf, bl⟩
 subst c7
 rw [if_pos rfl] at H
 revert H
 refine ok1 fun t1301 A8 H => ?_
 revert H
 refine ifn fun c9 H => ?_
 have c9b0 := eq_true c9
 have c9b1 := decide_eq_true c9
 try have c9b2 := eq_false (Nat.not_lt.2 c9)
 revert H
 refine ifn fun c10 H => ?_
 have c10b0 := eq_true c10
 have c10b1 := decide_eq_true c10
 try have c10b2 := eq_false (Nat.not_lt.2 c10)
 have c10b3 : (9223372036854775807 < 9 + (t1301).size + 4) = False := b3 c10
 revert H
 refine ok1 fun t1302 A11 H => ?_
 revert H
 refine ifn fun c12 H => ?_
 have c12b0 := eq_true c12
 have c12b1 := decide_eq_true c12
 try have c12b2 := eq_false (Nat.not_lt.2 c12)
 have c12b3 : (9223372036854775807 < 9 + (t1301).size + 4 + (t1302).size) = False := b3 c12
 revert H
 refine ifn fun c13 H => ?_
 have c13b0 := eq_true c13
 have c13b1 := decide_eq_true c13
 try have c13b2 := eq_false (Nat.not_lt.2 c13)
 have c13b3 : (9223372036854775807 < 9 + (t1301).size + 4 + (t1302).size + 16) = False := b3 c13
 revert H
 refine ok1 fun t1303 A14 H => ?_
 revert H
 refine ifn fun c15 H => ?_
 have c15b0 := eq_true c15
 have c15b1 := decide_eq_true c15
 try have c15b2 := eq_false (Nat.not_lt.2 c15)
 have c15b3 : (9223372036854775807 < 9 + (t1301).size + 4 + (t1302).size + 16 + (t1303).size) = False := b3 c15
 revert H
 refine ifn fun c16 H => ?_
 have c16b0 := eq_true c16
 have c16b1 := decide_eq_true c16
 try have c16b2 := eq_false (Nat.not_lt.2 c16)
 have c16b3 : (9223372036854775807 < 9 + (t1301).size + 4 + (t1302).size + 16 + (t1303).size + 4) = False := b3 c16
 revert H
 refine ifn fun c17 H => ?_
 have c17b0 := eq_true c17
 have c17b1 := decide_eq_true c17
 try have c17b2 := eq_false (Nat.not_lt.2 c17)
 have c17b3 : (9223372036854775807 < 9 + (t1301).size + 4 + (t1302).size + 16 + (t1303).size + 4 + (a0_2).size) = False := b3 c17
 obtain rfl := Option.some.inj H
 try go_wp2
 replace BK1299 := am (blk_drew BK1299.out)
 replace HB := am (below_drew1 HB.out)
 refine start_ (n := 20) (S := fun w' => w'.cell? ⟨gb1299, 0, none⟩ = some (.int .i64 a0_0) ∧ w'.cell? ⟨gb1299, 1, none⟩ = some (.slice A0_1 l0_1.length c0_1) ∧ w'.cell? ⟨gb1299, 2, none⟩ = some (.string a0_2)) (ds := []) ⟨br true [0, 20]⟩ (by kernel_rfl) rfl (by kernel_rfl) ⟨bc BK1299, bc BK1299, bc BK1299⟩ (fun hHeld => ?_); refine with_tabW spec_RespText.tab3 spec_RespText.bits3 (fun HT_ HW_ => ?_)
 generalize w6.drew = w18 at BK1299 HB hHeld ⊢
 refine pu 0 6 [1, 19] ?_
 refine pu 5 11 [1, 4, 1, 14] ?_
 refine pu 10 16 [1, 4, 1, 4, 1, 9] ?_
 refine pu 16 22 [1, 4, 1, 4, 1, 5, 1, 3] ?_
 refine tk 1 7 [2, 3, 1, 4, 1, 5, 1, 3] ?_
 refine tk 6 12 [2, 3, 2, 3, 1, 5, 1, 3] ?_
 refine tk 11 17 [2, 3, 2, 3, 2, 4, 1, 3] ?_
 refine pu 12 18 [2, 3, 2, 3, 3, 3, 1, 3] ?_
 refine tk 17 23 [2, 3, 2, 3, 3, 3, 2, 2] ?_
 refine og 2 8 [3, 2, 2, 3, 3, 3, 2, 2] Tryz.func80 #[.int .i64 a0_0] (fun K hK => ?_)
 with_reducible refine (spec_NumText.calls k a0_0 t1301 _ A8.out).mono ?_
 rintro e w19 ⟨rfl, hb⟩
 refine ⟨_, rfl, ?_⟩
 replace BK1299 := kb BK1299 hb
 replace HB := am (below_step bl hb)
 clear hb
 refine hK.out _ _ ⟨bc BK1299, bc BK1299, bc BK1299⟩ (fun hHeld => ?_)
 clear hK K
 refine nm 8 ?_
 refine pu 3 9 [4, 1, 2, 3, 3, 3, 2, 2] ?_
 refine pu 4 10 [7, 3, 3, 3, 2, 2] ?_
 refine og 7 13 [8, 2, 3, 3, 2, 2] Tryz.func167 #[.slice A0_1 l0_1.length c0_1] (fun K hK => ?_)
 with_reducible refine (spec_FieldsText.calls k _ _ l0_1 t1302 _ ?side1 ?side2 A11.out).mono ?_
 (case side1 => exact cb HR0_1)
 (case side2 => exact HC0_1.out)
 rintro e w' ⟨rfl, ⟨nd, rfl⟩⟩
 refine ⟨_, rfl, ?_⟩
 refine hK.out _ _ ⟨bc BK1299, bc BK1299, bc BK1299⟩ (fun hHeld => ?_)
 clear hK K
 refine nm 13 ?_
 refine pu 8 14 [9, 1, 3, 3, 2, 2] ?_
 refine pu 9 15 [13, 3, 2, 2] ?_
 refine og 13 19 [14, 2, 2, 2] Tryz.func80 #[.int .i64 (a0_2.size : Int)] (fun K hK => ?_)
 with_reducible refine (spec_NumText.calls k (a0_2.size : Int) t1303 _ A14.out).mono ?_
 rintro e w20 ⟨rfl, hb⟩
 refine ⟨_, rfl, ?_⟩
 replace BK1299 := kb BK1299 hb
 replace HB := am (below_step bl hb)
 clear hb
 refine hK.out _ _ ⟨bc BK1299, bc BK1299, bc BK1299⟩ (fun hHeld => ?_)
 clear hK K
 refine nm 19 ?_
 refine pu 14 20 [15, 1, 2, 2] ?_
 refine pu 15 21 [18, 2] ?_
 refine pu 18 24 [19, 1] ?_
 refine pu 19 2 [20] ?_
 refine done_ (done_of HT_.out (by kernel_rfl)) ?_
 try go_wp2
 go_ret
 exact ⟨rf, bl⟩

/-! ### spec_ObjText: function 56 -/
theorem u56HB {p : Prop} (h : p := by repeat (first | (with_reducible first | exact HB.out | apply below_alloc | apply pw_below_drewN | apply below_drew1 | refine below_set ?_ GE1304.out) | exact HB.out)) : p := h
def spec_ObjText.l0 : Nat → ByteArray → Int → ByteArray → List ByteArray → List ByteArray → Int → List (S116) → ByteArray → Int → Option (ByteArray)
 | 0, _, _, _, _, _, _, _, _, _ => none
 | k + 1, x3, x4, x1305000, x1305001, x1305002, x1305003, x1305004, x1305005, x1305006 => if x4 < (x1305002.length : Int) then (if 0 ≤ x4 then (if x3.size + (rdOf ByteArray.empty x1305002 x4).size ≤ 9223372036854775807 then (if (x3 ++ (rdOf ByteArray.empty x1305002 x4)).size + 1 ≤ 9223372036854775807 then (spec_ObjText.l0 k ((x3 ++ (rdOf ByteArray.empty x1305002 x4)) ++ (⟨#[10]⟩ : ByteArray)) (wrap64 (x4 + 1)) x1305000 x1305001 x1305002 x1305003 x1305004 x1305005 x1305006) else (none)) else (none)) else (none)) else ((spec_RespText.f k x1305003 x1305004 x1305005).bind fun t1309 => (if x3.size + t1309.size ≤ 9223372036854775807 then (some (x3 ++ t1309)) else (none)))
def spec_ObjText.f (k : Nat) (a0_0 : ByteArray) (l0_1 : List ByteArray) (l0_2 : List ByteArray) (a0_3 : Int) (l0_4 : List (S116)) (a0_5 : ByteArray) (a0_6 : Int) : Option (ByteArray) := (spec_ObjOk.f k a0_0 l0_1 l0_2 a0_3 l0_4 a0_5 a0_6).bind fun t1305 => (if t1305 = true then (if 4 + a0_0.size ≤ 9223372036854775807 then (if ((⟨#[111, 98, 106, 32]⟩ : ByteArray) ++ a0_0).size + 1 ≤ 9223372036854775807 then ((spec_NumText.f k a0_6).bind fun t1306 => (if (((⟨#[111, 98, 106, 32]⟩ : ByteArray) ++ a0_0) ++ (⟨#[32]⟩ : ByteArray)).size + t1306.size ≤ 9223372036854775807 then (if ((((⟨#[111, 98, 106, 32]⟩ : ByteArray) ++ a0_0) ++ (⟨#[32]⟩ : ByteArray)) ++ t1306).size + 1 ≤ 9223372036854775807 then ((spec_NumText.f k (l0_2.length : Int)).bind fun t1307 => (if (((((⟨#[111, 98, 106, 32]⟩ : ByteArray) ++ a0_0) ++ (⟨#[32]⟩ : ByteArray)) ++ t1306) ++ (⟨#[32]⟩ : ByteArray)).size + t1307.size ≤ 9223372036854775807 then (if ((((((⟨#[111, 98, 106, 32]⟩ : ByteArray) ++ a0_0) ++ (⟨#[32]⟩ : ByteArray)) ++ t1306) ++ (⟨#[32]⟩ : ByteArray)) ++ t1307).size + 1 ≤ 9223372036854775807 then (spec_ObjText.l0 k (((((((⟨#[111, 98, 106, 32]⟩ : ByteArray) ++ a0_0) ++ (⟨#[32]⟩ : ByteArray)) ++ t1306) ++ (⟨#[32]⟩ : ByteArray)) ++ t1307) ++ (⟨#[10]⟩ : ByteArray)) 0 a0_0 l0_1 l0_2 a0_3 l0_4 a0_5 a0_6) else (none)) else (none))) else (none)) else (none))) else (none)) else (none)) else (some (⟨#[]⟩ : ByteArray)))
theorem spec_ObjText.mono_l : ∀ k, (∀ y0 y1 y2 y3 y4 y5 y6 y7 y8, LeO (spec_ObjText.l0 k y0 y1 y2 y3 y4 y5 y6 y7 y8) (spec_ObjText.l0 (k + 1) y0 y1 y2 y3 y4 y5 y6 y7 y8))
 | 0 => fun _ _ _ _ _ _ _ _ _ r h => by simp [spec_ObjText.l0] at h
 | k + 1 => by
  have ih0 := spec_ObjText.mono_l k
  ·intro y0 y1 y2 y3 y4 y5 y6 y7 y8
   unfold spec_ObjText.l0
   have m0 := @spec_NumText.mono
   have m1 := @spec_ObjOk.mono
   have m2 := @spec_RespText.mono
   exact mo
theorem spec_ObjText.mono : ∀ a0 a1 a2 a3 a4 a5 a6 k, LeO (spec_ObjText.f k a0 a1 a2 a3 a4 a5 a6) (spec_ObjText.f (k + 1) a0 a1 a2 a3 a4 a5 a6) := by
 intro a0 a1 a2 a3 a4 a5 a6 k
 have ih0 := spec_ObjText.mono_l k
 unfold spec_ObjText.f
 have m0 := @spec_NumText.mono
 have m1 := @spec_ObjOk.mono
 have m2 := @spec_RespText.mono
 exact mo
def spec_ObjText.T3 : Bool × List (List Nat × List Nat) := (true, [([], []), ([0], [0]), ([1], [1]), ([2], [2]), ([], []), ([4], [4]), ([5], [5]), ([3, 6], [3, 6]), ([7], [7]), ([], []), ([9], [9]), ([10], [10]), ([11, 6], [11]), ([8, 12], [8, 12]), ([13], [13]), ([14, 12, 0, 1, 2, 3, 4, 5, 6, 7, 8, 9, 10, 11, 12, 13, 14], [14])])
def spec_ObjText.B3 : List Nat := [0, 1, 3, 7, 0, 16, 48, 127, 255, 0, 512, 1536, 3696, 8191, 16383, 32767]
theorem spec_ObjText.tab3 : rtab .any (opsOf Tryz.f56 3) = spec_ObjText.T3 := by kernel_rfl
theorem spec_ObjText.bits3 : waitsOk spec_ObjText.T3.2 spec_ObjText.B3 = true := by kernel_rfl
set_option maxHeartbeats 8000000 in
set_option maxRecDepth 100000 in
theorem spec_ObjText.calls (k : Nat) (a0_0 : ByteArray) (A0_1 : Option Addr) (c0_1 : Nat) (l0_1 : List ByteArray) (A0_2 : Option Addr) (c0_2 : Nat) (l0_2 : List ByteArray) (a0_3 : Int) (A0_4 : Option Addr) (c0_4 : Nat) (l0_4 : List (S116)) (a0_5 : ByteArray) (a0_6 : Int) (r : ByteArray) (w : World) (hr0_1 : Kd.C Kd.string w A0_1 l0_1.length l0_1) (hc0_1 : l0_1.length ≤ c0_1) (hr0_2 : Kd.C Kd.string w A0_2 l0_2.length l0_2) (hc0_2 : l0_2.length ≤ c0_2) (hr0_4 : Kd.C k116 w A0_4 l0_4.length l0_4) (hc0_4 : l0_4.length ≤ c0_4) (h : spec_ObjText.f k a0_0 l0_1 l0_2 a0_3 l0_4 a0_5 a0_6 = some r) :
  Calls Tryz.prog 56 #[.agg #[.string a0_0, .slice A0_1 l0_1.length c0_1, .slice A0_2 l0_2.length c0_2, .int .i64 a0_3, .slice A0_4 l0_4.length c0_4, .string a0_5, .int .i64 a0_6]] w fun e w' => e = .returned (.string r) ∧ Below w.heap.size w w' := by
 have hu31 := Tryz.underlying31
 have hu29 := Tryz.underlying29
 have HR0_1 := am hr0_1
 have HC0_1 := am hc0_1
 clear hr0_1 hc0_1
 have HR0_2 := am hr0_2
 have HC0_2 := am hc0_2
 clear hr0_2 hc0_2
 have HR0_4 := am hr0_4
 have HC0_4 := am hc0_4
 clear hr0_4 hc0_4
 have HB := am (Below.refl w.heap.size w)
 unfold spec_ObjText.f at h
 have H := h
 clear h
 revert H
 refine ok1 fun t1305 A2 H => ?_
 have HH3 := am H
 clear H
 go_enter Tryz.func56, Tryz.ntmps56
 go_upto_if 7 with ((with_reducible refine gw ?_); first | (refine bx 1 #[.string a0_0, .slice A0_1 l0_1.length c0_1, .slice A0_2 l0_2.length c0_2, .int .i64 a0_3, .slice A0_4 l0_4.length c0_4, .string a0_5, .int .i64 a0_6] 31 ?_; intro gb1304 hg w4 hbox hb; have BK1304 := am (hbox); have GW1304 := am (sz hg : w.heap.size ≤ gb1304); have GE1304 := am (sz hg : w.heap.size ≤ gb1304); replace HB := am (below_step bl hb); clear hb hbox hg; obtain ⟨z5_0, y5_0, z5_1, y5_1, z5_2, y5_2, z5_3, y5_3, z5_4, y5_4, z5_5, y5_5, z5_6, y5_6⟩ := cl7 BK1304) | (refine gl 6 Tryz.func65 #[.agg #[.string a0_0, .slice A0_1 l0_1.length c0_1, .slice A0_2 l0_2.length c0_2, .int .i64 a0_3, .slice A0_4 l0_4.length c0_4, .string a0_5, .int .i64 a0_6]] ?_; (with_reducible refine (spec_ObjOk.calls k a0_0 _ _ l0_1 _ _ l0_2 a0_3 _ _ l0_4 a0_5 a0_6 t1305 _ ?side1 ?side2 ?side3 ?side4 ?side5 ?side6 A2.out).mono ?_); (case side1 => exact cb HR0_1); (case side2 => exact HC0_1.out); (case side3 => exact cb HR0_2); (case side4 => exact HC0_2.out); (case side5 => exact cb HR0_4); (case side6 => exact HC0_4.out); rintro e w6 ⟨rfl, hb⟩; refine ⟨_, rfl, ?_⟩; replace BK1304 := kb BK1304 hb; replace HB := am (below_step bl hb); clear hb))
 have H := HH3.out
 clear HH3
 by_cases c7 : t1305 = true
 rotate_left
 ·replace c7 := Bool.eq_false_iff.mpr c7
  subst c7
  rw [if_neg (show ¬ (false = true) by decide)] at H
  obtain rfl := Option.some.inj H
  go_wp2
  go_ret
  exact ⟨rf, bl⟩
 subst c7
 rw [if_pos rfl] at H
 revert H
 refine ifn fun c8 H => ?_
 have c8b0 := eq_true c8
 have c8b1 := decide_eq_true c8
 try have c8b2 := eq_false (Nat.not_lt.2 c8)
 revert H
 refine ifn fun c9 H => ?_
 have c9b0 := eq_true c9
 have c9b1 := decide_eq_true c9
 try have c9b2 := eq_false (Nat.not_lt.2 c9)
 have c9b3 : (9223372036854775807 < 4 + (a0_0).size + 1) = False := b3 c9
 revert H
 refine ok1 fun t1306 A10 H => ?_
 revert H
 refine ifn fun c11 H => ?_
 have c11b0 := eq_true c11
 have c11b1 := decide_eq_true c11
 try have c11b2 := eq_false (Nat.not_lt.2 c11)
 have c11b3 : (9223372036854775807 < 4 + (a0_0).size + 1 + (t1306).size) = False := b3 c11
 revert H
 refine ifn fun c12 H => ?_
 have c12b0 := eq_true c12
 have c12b1 := decide_eq_true c12
 try have c12b2 := eq_false (Nat.not_lt.2 c12)
 have c12b3 : (9223372036854775807 < 4 + (a0_0).size + 1 + (t1306).size + 1) = False := b3 c12
 revert H
 refine ok1 fun t1307 A13 H => ?_
 revert H
 refine ifn fun c14 H => ?_
 have c14b0 := eq_true c14
 have c14b1 := decide_eq_true c14
 try have c14b2 := eq_false (Nat.not_lt.2 c14)
 have c14b3 : (9223372036854775807 < 4 + (a0_0).size + 1 + (t1306).size + 1 + (t1307).size) = False := b3 c14
 revert H
 refine ifn fun c15 H => ?_
 have c15b0 := eq_true c15
 have c15b1 := decide_eq_true c15
 try have c15b2 := eq_false (Nat.not_lt.2 c15)
 have c15b3 : (9223372036854775807 < 4 + (a0_0).size + 1 + (t1306).size + 1 + (t1307).size + 1) = False := b3 c15
 have H' := am H
 clear H
 try go_wp2
 replace BK1304 := am (blk_drew BK1304.out)
 replace HB := am (below_drew1 HB.out)
 refine start_ (n := 16) (S := fun w' => w'.cell? ⟨gb1304, 0, none⟩ = some (.string a0_0) ∧ w'.cell? ⟨gb1304, 1, none⟩ = some (.slice A0_1 l0_1.length c0_1) ∧ w'.cell? ⟨gb1304, 2, none⟩ = some (.slice A0_2 l0_2.length c0_2) ∧ w'.cell? ⟨gb1304, 3, none⟩ = some (.int .i64 a0_3) ∧ w'.cell? ⟨gb1304, 4, none⟩ = some (.slice A0_4 l0_4.length c0_4) ∧ w'.cell? ⟨gb1304, 5, none⟩ = some (.string a0_5) ∧ w'.cell? ⟨gb1304, 6, none⟩ = some (.int .i64 a0_6)) (ds := []) ⟨br true [0, 16]⟩ (by kernel_rfl) rfl (by kernel_rfl) ⟨bc BK1304, bc BK1304, bc BK1304, bc BK1304, bc BK1304, bc BK1304, bc BK1304⟩ (fun hHeld => ?_); refine with_tabW spec_ObjText.tab3 spec_ObjText.bits3 (fun HT_ HW_ => ?_)
 generalize w6.drew = w16 at BK1304 HB hHeld ⊢
 refine pu 0 8 [1, 15] ?_
 refine pu 4 12 [1, 3, 1, 11] ?_
 refine pu 9 17 [1, 3, 1, 4, 1, 6] ?_
 refine tk 1 9 [2, 2, 1, 4, 1, 6] ?_
 refine pu 2 10 [3, 1, 1, 4, 1, 6] ?_
 refine pu 3 11 [5, 4, 1, 6] ?_
 refine tk 5 13 [6, 3, 1, 6] ?_
 refine tk 10 18 [6, 3, 2, 5] ?_
 refine pu 11 19 [6, 3, 3, 4] ?_
 refine og 6 14 [7, 2, 3, 4] Tryz.func80 #[.int .i64 a0_6] (fun K hK => ?_)
 with_reducible refine (spec_NumText.calls k a0_6 t1306 _ A10.out).mono ?_
 rintro e w17 ⟨rfl, hb⟩
 refine ⟨_, rfl, ?_⟩
 replace BK1304 := kb BK1304 hb
 replace HB := am (below_step bl hb)
 clear hb
 refine hK.out _ _ ⟨bc BK1304, bc BK1304, bc BK1304, bc BK1304, bc BK1304, bc BK1304, bc BK1304⟩ (fun hHeld => ?_)
 clear hK K
 refine nm 14 ?_
 refine pu 7 15 [8, 1, 3, 4] ?_
 refine pu 8 16 [12, 4] ?_
 refine og 12 20 [13, 3] Tryz.func80 #[.int .i64 (l0_2.length : Int)] (fun K hK => ?_)
 with_reducible refine (spec_NumText.calls k (l0_2.length : Int) t1307 _ A13.out).mono ?_
 rintro e w18 ⟨rfl, hb⟩
 refine ⟨_, rfl, ?_⟩
 replace BK1304 := kb BK1304 hb
 replace HB := am (below_step bl hb)
 clear hb
 refine hK.out _ _ ⟨bc BK1304, bc BK1304, bc BK1304, bc BK1304, bc BK1304, bc BK1304, bc BK1304⟩ (fun hHeld => ?_)
 clear hK K
 refine nm 20 ?_
 refine pu 13 21 [14, 2] ?_
 refine pu 14 22 [15, 1] ?_
 refine pu 15 3 [16] ?_
 refine done_ (done_of HT_.out (by kernel_rfl)) ?_
 try go_wp2
 (try simp only [Act.put, List.setIfInBounds_toArray, List.set_cons_zero, List.set_cons_succ])
 go_loopg [3, 4] k (fun kq v3 v4 w' => ∃ (x3_1 : ByteArray) (x4_1 : Int), v3 = .string x3_1 ∧ v4 = .int .i64 x4_1 ∧ Aside0 (spec_ObjText.l0 kq x3_1 x4_1 a0_0 l0_1 l0_2 a0_3 l0_4 a0_5 a0_6 = some r) ∧ Aside0 (kq ≤ k) ∧ Aside0 (w'.heap[gb1304]? = some (.cells #[.string a0_0, (.slice A0_1 l0_1.length c0_1), (.slice A0_2 l0_2.length c0_2), .int .i64 a0_3, (.slice A0_4 l0_4.length c0_4), .string a0_5, .int .i64 a0_6] 31 (0, 0))) ∧ Aside0 (Below w.heap.size w w'))
 case atStart => exact ⟨(((((((⟨#[111, 98, 106, 32]⟩ : ByteArray) ++ a0_0) ++ (⟨#[32]⟩ : ByteArray)) ++ t1306) ++ (⟨#[32]⟩ : ByteArray)) ++ t1307) ++ (⟨#[10]⟩ : ByteArray)), (0), rs, rs, H', ⟨Nat.le_refl _⟩, ⟨by (with_reducible repeat (first | refine blk_drewN ?_ _ | refine blk_drew ?_ | refine blk_alloc ?_ _)); exact BK1304.out⟩, ⟨u56HB⟩⟩
 case round =>
  clear H'
  try clear c1
  try clear p2
  try clear c5
  try clear c6
  try clear c7
  try clear c8
  try clear c8b0
  try clear c8b1
  try clear c8b2
  try clear c9
  try clear c9b0
  try clear c9b1
  try clear c9b2
  try clear c11
  try clear c11b0
  try clear c11b1
  try clear c11b2
  try clear c12
  try clear c12b0
  try clear c12b1
  try clear c12b2
  try clear c14
  try clear c14b0
  try clear c14b1
  try clear c14b2
  try clear c15
  try clear c15b0
  try clear c15b1
  try clear c15b2
  try clear z5_0
  try clear z5_1
  try clear z5_2
  try clear z5_3
  try clear z5_4
  try clear z5_5
  try clear z5_6
  try clear y5_0
  try clear y5_1
  try clear y5_2
  try clear y5_3
  try clear y5_4
  try clear y5_5
  try clear y5_6
  obtain ⟨x3_1, x4_1, rfl, rfl, HA, HK1, BK1304, HB⟩ := hrel
  cases gk with
  | zero => exact absurd HA.out (by simp [spec_ObjText.l0])
  | succ k1 =>
   have H := HA.out
   clear HA
   simp only [spec_ObjText.l0] at H
   by_cases c19 : x4_1 < (l0_2.length : Int)
   rotate_left
   ·rw [if_neg c19] at H
    have c19b0 := decide_eq_false c19
    clear c19
    (first | rw [c19b0] | (simp only [i64_w, i32_w]; rw [c19b0]) | skip)
    revert H
    refine ok1 fun t1309 A24 H => ?_
    revert H
    refine ifn fun c25 H => ?_
    have c25b0 := eq_true c25
    have c25b1 := decide_eq_true c25
    try have c25b2 := eq_false (Nat.not_lt.2 c25)
    obtain rfl := Option.some.inj H
    obtain ⟨z26_0, y26_0, z26_1, y26_1, z26_2, y26_2, z26_3, y26_3, z26_4, y26_4, z26_5, y26_5, z26_6, y26_6⟩ := cl7 BK1304
    go_wp2_with ((with_reducible refine gw ?_); first | (refine gl 41 Tryz.func127 #[.agg #[.int .i64 a0_3, .slice A0_4 l0_4.length c0_4, .string a0_5]] ?_; (with_reducible refine (spec_RespText.calls k1 a0_3 _ _ l0_4 a0_5 t1309 _ ?side1 ?side2 A24.out).mono ?_); (case side1 => exact cb HR0_4); (case side2 => exact HC0_4.out); rintro e w27 ⟨rfl, hb⟩; refine ⟨_, rfl, ?_⟩; replace BK1304 := kb BK1304 hb; replace HB := am (below_step bl hb); clear hb))
    go_ret
    exact ⟨rf, bl⟩
   rw [if_pos c19] at H
   have c19b0 := decide_eq_true c19
   clear c19
   (first | rw [c19b0] | (simp only [i64_w, i32_w]; rw [c19b0]) | skip)
   revert H
   refine ifn fun c20 H => ?_
   have c20b0 := decide_eq_true c20
   clear c20
   revert H
   refine ifn fun c21 H => ?_
   have c21b0 := eq_true c21
   have c21b1 := decide_eq_true c21
   try have c21b2 := eq_false (Nat.not_lt.2 c21)
   revert H
   refine ifn fun c22 H => ?_
   have c22b0 := eq_true c22
   have c22b1 := decide_eq_true c22
   try have c22b2 := eq_false (Nat.not_lt.2 c22)
   have c22b3 : (9223372036854775807 < (x3_1).size + (rdOf ByteArray.empty l0_2 x4_1).size + 1) = False := b3 c22
   have H' := am H
   clear H
   obtain ⟨z23_0, y23_0, z23_1, y23_1, z23_2, y23_2, z23_3, y23_3, z23_4, y23_4, z23_5, y23_5, z23_6, y23_6⟩ := cl7 BK1304
   have p1308 : 0 ≤ (x4_1 : Int) := od
   have q1308 : x4_1 < (l0_2.length : Int) := od
   obtain ⟨ad1308, e1308, hx1308_0⟩ := Kd.at_string HR0_2.out x4_1 p1308 q1308
   cases e1308
   replace hx1308_0 := hcw hx1308_0
   replace p1308 := eq_true p1308
   replace q1308 := eq_true q1308
   go_wp2
   go_roundg k1
   case measure => have := HK1.out; omega
   case rel => exact ⟨((x3_1 ++ (rdOf ByteArray.empty l0_2 x4_1)) ++ (⟨#[10]⟩ : ByteArray)), (wrap64 (x4_1 + 1)), rs, rs, H', ⟨by have := HK1.out; omega⟩, ⟨by (with_reducible repeat (first | refine blk_drewN ?_ _ | refine blk_drew ?_ | refine blk_alloc ?_ _)); exact BK1304.out⟩, ⟨u56HB⟩⟩

/-! ### spec_l10Line: function 104 -/
def spec_l10Line.l0 : Nat → ByteArray → Int → Int → Option (ByteArray × Int)
 | 0, _, _, _ => none
 | k + 1, x0, x1, x6 => if x6 < (x0.size : Int) then (if 0 ≤ x6 then (if (bt x0 x6) = 10 then (if 0 ≤ x1 then (if x1 ≤ x6 then (if x6 ≤ (x0.size : Int) then (some (x0.extract (x1 : Int).toNat (x6 : Int).toNat, wrap64 (x6 + 1))) else (none)) else (none)) else (none)) else (spec_l10Line.l0 k x0 x1 (wrap64 (x6 + 1)))) else (none)) else (some ((⟨#[]⟩ : ByteArray), (-1)))
def spec_l10Line.f (k : Nat) (a0 : ByteArray) (a1 : Int) : Option (ByteArray × Int) := spec_l10Line.l0 k a0 a1 a1
theorem spec_l10Line.mono_l : ∀ k, (∀ y0 y1 y2, LeO (spec_l10Line.l0 k y0 y1 y2) (spec_l10Line.l0 (k + 1) y0 y1 y2))
 | 0 => fun _ _ _ r h => by simp [spec_l10Line.l0] at h
 | k + 1 => by
  have ih0 := spec_l10Line.mono_l k
  ·intro y0 y1 y2
   unfold spec_l10Line.l0
   exact mo
theorem spec_l10Line.mono : ∀ a0 a1 k, LeO (spec_l10Line.f k a0 a1) (spec_l10Line.f (k + 1) a0 a1) := by
 intro a0 a1 k
 have ih0 := spec_l10Line.mono_l k
 unfold spec_l10Line.f
 exact mo
set_option maxHeartbeats 8000000 in
set_option maxRecDepth 100000 in
theorem spec_l10Line.calls (k : Nat) (a0 : ByteArray) (a1 : Int) (r1 : ByteArray) (r2 : Int) (w : World) (h : spec_l10Line.f k a0 a1 = some (r1, r2)) :
  Calls Tryz.prog 104 #[.string a0, .int .i64 a1] w fun e w' => e = .returned (.tuple #[.string r1, .int .i64 r2]) ∧ Drawn0 w w' := by
 unfold spec_l10Line.f at h
 have H := h
 clear h
 have H' := am H
 clear H
 go_enter Tryz.func104, Tryz.ntmps104
 go_wp2
 (try simp only [Act.put, List.setIfInBounds_toArray, List.set_cons_zero, List.set_cons_succ])
 go_loopg [6] k (fun kq v6 w' => ∃ (x6_1 : Int), v6 = .int .i64 x6_1 ∧ Aside0 (spec_l10Line.l0 kq a0 a1 x6_1 = some (r1, r2)) ∧ Aside0 (kq ≤ k) ∧ Drawn0 w w')
 case atStart => exact ⟨(a1), rs, H', ⟨Nat.le_refl _⟩, dr⟩
 case round =>
  clear H'
  try clear c1
  try clear p2
  obtain ⟨x6_1, rfl, HA, HK1, ⟨m1, rfl⟩⟩ := hrel
  cases gk with
  | zero => exact absurd HA.out (by simp [spec_l10Line.l0])
  | succ k1 =>
   have H := HA.out
   clear HA
   simp only [spec_l10Line.l0] at H
   by_cases c3 : x6_1 < (a0.size : Int)
   rotate_left
   ·rw [if_neg c3] at H
    have c3b0 := decide_eq_false c3
    clear c3
    simp only [Option.some.injEq, Prod.mk.injEq] at H
    obtain ⟨rfl, rfl⟩ := H
    go_wp2
    go_ret2
    exact ⟨rs, dr⟩
   rw [if_pos c3] at H
   have c3b0 := decide_eq_true c3
   clear c3
   revert H
   refine ifn fun c4 H => ?_
   have c4b0 := decide_eq_true c4
   clear c4
   by_cases c6 : (bt a0 x6_1) = 10
   rotate_left
   ·rw [if_neg c6] at H
    have c6b0 : ((bt a0 x6_1) == 10) = false := beq_eq_false_iff_ne.mpr c6
    have c6b1 : ((bt a0 x6_1) != 10) = true := bne_iff_ne.mpr c6
    have H' := am H
    clear H
    have p5 : 0 ≤ (x6_1 : Int) := od
    have q5 : x6_1 < (a0.size : Int) := od
    have hx5 := bt_at a0 x6_1
    replace p5 := eq_true p5
    replace q5 := eq_true q5
    go_wp2
    go_roundg k1
    case measure => have := HK1.out; omega
    case rel => exact ⟨(wrap64 (x6_1 + 1)), rs, H', ⟨by have := HK1.out; omega⟩, dr⟩
   rw [if_pos c6] at H
   have c6b0 : ((bt a0 x6_1) == 10) = true := beq_iff_eq.mpr c6
   have c6b1 : ((bt a0 x6_1) != 10) = false := bne_eq_false_iff_eq.mpr c6
   clear c6
   revert H
   refine ifn fun c7 H => ?_
   have c7b0 := eq_true c7
   have c7b1 := decide_eq_true c7
   clear c7
   revert H
   refine ifn fun c8 H => ?_
   have c8b0 := eq_true c8
   have c8b1 := decide_eq_true c8
   clear c8
   revert H
   refine ifn fun c9 H => ?_
   have c9b0 := eq_true c9
   have c9b1 := decide_eq_true c9
   clear c9
   simp only [Option.some.injEq, Prod.mk.injEq] at H
   obtain ⟨rfl, rfl⟩ := H
   have p5 : 0 ≤ (x6_1 : Int) := od
   have q5 : x6_1 < (a0.size : Int) := od
   have hx5 := bt_at a0 x6_1
   replace p5 := eq_true p5
   replace q5 := eq_true q5
   go_wp2
   go_ret2
   exact ⟨rs, dr⟩

/-! ### spec_l3Words: function 105 -/
theorem u105HB {p : Prop} (h : p := by repeat (first | (with_reducible first | exact HB.out | apply below_alloc | apply pw_below_drewN | apply below_drew1) | exact HB.out)) : p := h
def spec_l3Words.l0 : Nat → ByteArray → List ByteArray → Int → Int → Option (List ByteArray)
 | 0, _, _, _, _ => none
 | k + 1, x0, x3, x4, x5 => if x5 ≤ (x0.size : Int) then (if x5 = (x0.size : Int) then (if 0 ≤ x4 then (if x4 ≤ x5 then (if x3.length < 8796093022208 then (spec_l3Words.l0 k x0 (x3 ++ [x0.extract (x4 : Int).toNat (x5 : Int).toNat]) (wrap64 (x5 + 1)) (wrap64 (x5 + 1))) else (none)) else (none)) else (none)) else (if 0 ≤ x5 then (if x5 < (x0.size : Int) then (if (bt x0 x5) = 32 then (if 0 ≤ x4 then (if x4 ≤ x5 then (if x3.length < 8796093022208 then (spec_l3Words.l0 k x0 (x3 ++ [x0.extract (x4 : Int).toNat (x5 : Int).toNat]) (wrap64 (x5 + 1)) (wrap64 (x5 + 1))) else (none)) else (none)) else (none)) else (spec_l3Words.l0 k x0 x3 x4 (wrap64 (x5 + 1)))) else (none)) else (none))) else (some x3)
def spec_l3Words.f (k : Nat) (a0 : ByteArray) : Option (List ByteArray) := spec_l3Words.l0 k a0 (([] : List ByteArray)) 0 0
theorem spec_l3Words.mono_l : ∀ k, (∀ y0 y1 y2 y3, LeO (spec_l3Words.l0 k y0 y1 y2 y3) (spec_l3Words.l0 (k + 1) y0 y1 y2 y3))
 | 0 => fun _ _ _ _ r h => by simp [spec_l3Words.l0] at h
 | k + 1 => by
  have ih0 := spec_l3Words.mono_l k
  ·intro y0 y1 y2 y3
   unfold spec_l3Words.l0
   exact mo
theorem spec_l3Words.mono : ∀ a0 k, LeO (spec_l3Words.f k a0) (spec_l3Words.f (k + 1) a0) := by
 intro a0 k
 have ih0 := spec_l3Words.mono_l k
 unfold spec_l3Words.f
 exact mo
set_option maxHeartbeats 8000000 in
set_option maxRecDepth 100000 in
theorem spec_l3Words.calls (k : Nat) (a0 : ByteArray) (r : List ByteArray) (w : World) (h : spec_l3Words.f k a0 = some r) :
  Calls Tryz.prog 105 #[.string a0] w fun e w' => ∃ v0_ : Value, e = .returned (v0_) ∧ Kd.R Kd.string 9 w' w.heap.size (fun _ => True) v0_ r ∧ Below w.heap.size w w' := by
 have HB := am (Below.refl w.heap.size w)
 unfold spec_l3Words.f at h
 have H := h
 clear h
 obtain ⟨y1310, hy1310⟩ : ∃ y_ : List ByteArray, y_ = (([] : List ByteArray)) := ⟨_, rfl⟩
 replace H : (spec_l3Words.l0 k a0 y1310 0 0) = some r := by first | (rw [hy1310]; with_reducible exact H) | (have H2_ := (Option.bind_some _ _).symm.trans H; rw [hy1310]; with_reducible exact H2_) | (have H2_ := (Option.bind_some _ _).symm.trans H; with_reducible exact H2_) | with_reducible exact H | (rw [hy1310]; exact H) | exact H
 have Ny1310 := am hy1310
 clear hy1310
 have H' := am H
 clear H
 go_enter Tryz.func105, Tryz.ntmps105
 go_wp2_with (first | ((with_reducible refine gate_dst (N := 6) rfl ?_); refine Kd.R_lit Kd.string _ 9 ?hg (N := 6) ?hd (xs := ([] : List ByteArray)) (inner := []) (ok := fun _ => True) (okp := fun _ => True) ?hr ?hp (fun _ hk => hk) trivial (Below.refl _ _) (Nat.le_refl _) (by simp) ?_; (case hd => rfl); (case hg => rfl); (case hr => first | (go_simp; done) | (go_simp; rfl)); (case hp => exact (Reps.none _ _)); intro v1311 w2 ho3 hb hg_ hnew_; clear hg_ hnew_; (first | rw [← Ny1310.out] at ho3 | (simp only [Int.reduceToNat] at ho3; rw [← Ny1310.out] at ho3)); have HO1312 := am (Kd.R_lower ho3 (below_size bl)); replace HB := am (below_step bl hb); clear hb ho3))
 (try simp only [Act.put, List.setIfInBounds_toArray, List.set_cons_zero, List.set_cons_succ])
 go_loopg [3, 4, 5] k (fun kq v3 v4 v5 w' => ∃ (x3_1 : List ByteArray) (x4_1 : Int) (x5_1 : Int), v4 = .int .i64 x4_1 ∧ v5 = .int .i64 x5_1 ∧ Aside0 (spec_l3Words.l0 kq a0 x3_1 x4_1 x5_1 = some r) ∧ Aside0 (kq ≤ k) ∧ Aside0 (Kd.R Kd.string 9 w' w.heap.size (fun _ => True) v3 x3_1) ∧ Aside0 (Below w.heap.size w w'))
 case atStart => exact ⟨(y1310), (0), (0), rs, rs, H', ⟨Nat.le_refl _⟩, ⟨by (with_reducible repeat (first | apply Kd.R_alloc | apply Kd.R_drewN | apply Kd.R_drew)); exact HO1312.out⟩, ⟨u105HB⟩⟩
 case round =>
  clear H'
  try clear c1
  try clear p2
  obtain ⟨x3_1, x4_1, x5_1, rfl, rfl, HA, HK1, HO_3, HB⟩ := hrel
  cases gk with
  | zero => exact absurd HA.out (by simp [spec_l3Words.l0])
  | succ k1 =>
   have H := HA.out
   clear HA
   simp only [spec_l3Words.l0] at H
   by_cases c4 : x5_1 ≤ (a0.size : Int)
   rotate_left
   ·rw [if_neg c4] at H
    have c4b0 := decide_eq_false c4
    clear c4
    obtain rfl := Option.some.inj H
    go_wp2
    go_ret
    exact ⟨_, rf, by (with_reducible repeat (first | apply Kd.R_alloc | apply Kd.R_drewN | apply Kd.R_drew)); exact HO_3.out, bl⟩
   rw [if_pos c4] at H
   have c4b0 := decide_eq_true c4
   clear c4
   by_cases c5 : x5_1 = (a0.size : Int)
   ·rw [if_pos c5] at H
    have c5b0 : (x5_1 == (a0.size : Int)) = true := beq_iff_eq.mpr c5
    have c5b1 : (x5_1 != (a0.size : Int)) = false := bne_eq_false_iff_eq.mpr c5
    clear c5
    revert H
    refine ifn fun c6 H => ?_
    have c6b0 := eq_true c6
    have c6b1 := decide_eq_true c6
    clear c6
    revert H
    refine ifn fun c7 H => ?_
    have c7b0 := eq_true c7
    have c7b1 := decide_eq_true c7
    clear c7
    have c8b0 := eq_true (od : x5_1 ≤ (a0.size : Int))
    revert H
    refine ifn fun c9 H => ?_
    have LMc9 := am c9
    clear c9
    obtain ⟨y1313, hy1313⟩ : ∃ y_ : List ByteArray, y_ = (x3_1 ++ [a0.extract (x4_1 : Int).toNat (x5_1 : Int).toNat]) := ⟨_, rfl⟩
    replace H : (spec_l3Words.l0 k1 a0 y1313 (wrap64 (x5_1 + 1)) (wrap64 (x5_1 + 1))) = some r := by first | (rw [hy1313]; with_reducible exact H) | (have H2_ := (Option.bind_some _ _).symm.trans H; rw [hy1313]; with_reducible exact H2_) | (have H2_ := (Option.bind_some _ _).symm.trans H; with_reducible exact H2_) | with_reducible exact H | (rw [hy1313]; exact H) | exact H
    have Ny1313 := am hy1313
    clear hy1313
    have H' := am H
    clear H
    go_wp2_with (first | ((with_reducible refine gate_builtin (b := .append) (xs := #[.tmp 23, .tmp 28]) rfl ?_); at_builtin; refine Kd.R_append Kd.string (w0 := w) w.heap.size rfl (.tmp 23) (.tmp 28) 26 9 (.string ⟨#[]⟩) 16 rfl Tryz.underlying26 info9 rfl (by decide) (by omega) u3 x3_1 (a0.extract (x4_1 : Int).toNat (x5_1 : Int).toNat) [.string (a0.extract (x4_1 : Int).toNat (x5_1 : Int).toNat)] (fun _ => True) (fun _ => False) rfl rfl ?aP (fun _ hk => hk.elim) ?aF ?aO ?aB ?aS ?aL ?_; (case aP => exact rfl); (case aB => exact bl); (case aF => exact (fun _ _ => trivial)); (case aO => exact (ro HO_3)); (case aS => exact (below_size bl)); (case aL => have := LMc9.out; omega); intro v1314 w10 ho hb hg hat; rw [← Ny1313.out] at ho; have n0_ := am (hb); have n1_ := am (ho); clear HB; clear HO_3; have HB := n0_; have HO1315 := n1_; clear n0_ n1_; clear ho hb hg hat))
    go_roundg k1
    case measure => have := HK1.out; omega
    case rel => exact ⟨(y1313), (wrap64 (x5_1 + 1)), (wrap64 (x5_1 + 1)), rs, rs, H', ⟨by have := HK1.out; omega⟩, ⟨by (with_reducible repeat (first | apply Kd.R_alloc | apply Kd.R_drewN | apply Kd.R_drew)); exact HO1315.out⟩, ⟨u105HB⟩⟩
   rw [if_neg c5] at H
   have c5b0 : (x5_1 == (a0.size : Int)) = false := beq_eq_false_iff_ne.mpr c5
   have c5b1 : (x5_1 != (a0.size : Int)) = true := bne_iff_ne.mpr c5
   revert H
   refine ifn fun c11 H => ?_
   have c11b0 := decide_eq_true c11
   clear c11
   revert H
   refine ifn fun c12 H => ?_
   have c12b0 := decide_eq_true c12
   clear c12
   by_cases c14 : (bt a0 x5_1) = 32
   rotate_left
   ·rw [if_neg c14] at H
    have c14b0 : ((bt a0 x5_1) == 32) = false := beq_eq_false_iff_ne.mpr c14
    have c14b1 : ((bt a0 x5_1) != 32) = true := bne_iff_ne.mpr c14
    have H' := am H
    clear H
    have p13 : 0 ≤ (x5_1 : Int) := od
    have q13 : x5_1 < (a0.size : Int) := od
    have hx13 := bt_at a0 x5_1
    replace p13 := eq_true p13
    replace q13 := eq_true q13
    go_wp2
    go_roundg k1
    case measure => have := HK1.out; omega
    case rel => exact ⟨(x3_1), (x4_1), (wrap64 (x5_1 + 1)), rs, rs, H', ⟨by have := HK1.out; omega⟩, ⟨by (with_reducible repeat (first | apply Kd.R_alloc | apply Kd.R_drewN | apply Kd.R_drew)); exact HO_3.out⟩, ⟨u105HB⟩⟩
   rw [if_pos c14] at H
   have c14b0 : ((bt a0 x5_1) == 32) = true := beq_iff_eq.mpr c14
   have c14b1 : ((bt a0 x5_1) != 32) = false := bne_eq_false_iff_eq.mpr c14
   clear c14
   revert H
   refine ifn fun c15 H => ?_
   have c15b0 := eq_true c15
   have c15b1 := decide_eq_true c15
   clear c15
   revert H
   refine ifn fun c16 H => ?_
   have c16b0 := eq_true c16
   have c16b1 := decide_eq_true c16
   clear c16
   have c17b0 := eq_true (od : x5_1 ≤ (a0.size : Int))
   revert H
   refine ifn fun c18 H => ?_
   have LMc18 := am c18
   clear c18
   obtain ⟨y1316, hy1316⟩ : ∃ y_ : List ByteArray, y_ = (x3_1 ++ [a0.extract (x4_1 : Int).toNat (x5_1 : Int).toNat]) := ⟨_, rfl⟩
   replace H : (spec_l3Words.l0 k1 a0 y1316 (wrap64 (x5_1 + 1)) (wrap64 (x5_1 + 1))) = some r := by first | (rw [hy1316]; with_reducible exact H) | (have H2_ := (Option.bind_some _ _).symm.trans H; rw [hy1316]; with_reducible exact H2_) | (have H2_ := (Option.bind_some _ _).symm.trans H; with_reducible exact H2_) | with_reducible exact H | (rw [hy1316]; exact H) | exact H
   have Ny1316 := am hy1316
   clear hy1316
   have H' := am H
   clear H
   have p13 : 0 ≤ (x5_1 : Int) := od
   have q13 : x5_1 < (a0.size : Int) := od
   have hx13 := bt_at a0 x5_1
   replace p13 := eq_true p13
   replace q13 := eq_true q13
   go_wp2_with (first | ((with_reducible refine gate_builtin (b := .append) (xs := #[.tmp 23, .tmp 28]) rfl ?_); at_builtin; refine Kd.R_append Kd.string (w0 := w) w.heap.size rfl (.tmp 23) (.tmp 28) 26 9 (.string ⟨#[]⟩) 16 rfl Tryz.underlying26 info9 rfl (by decide) (by omega) u3 x3_1 (a0.extract (x4_1 : Int).toNat (x5_1 : Int).toNat) [.string (a0.extract (x4_1 : Int).toNat (x5_1 : Int).toNat)] (fun _ => True) (fun _ => False) rfl rfl ?aP (fun _ hk => hk.elim) ?aF ?aO ?aB ?aS ?aL ?_; (case aP => exact rfl); (case aB => exact bl); (case aF => exact (fun _ _ => trivial)); (case aO => exact (ro HO_3)); (case aS => exact (below_size bl)); (case aL => have := LMc18.out; omega); intro v1317 w19 ho hb hg hat; rw [← Ny1316.out] at ho; have n0_ := am (hb); have n1_ := am (ho); clear HB; clear HO_3; have HB := n0_; have HO1318 := n1_; clear n0_ n1_; clear ho hb hg hat))
   go_roundg k1
   case measure => have := HK1.out; omega
   case rel => exact ⟨(y1316), (wrap64 (x5_1 + 1)), (wrap64 (x5_1 + 1)), rs, rs, H', ⟨by have := HK1.out; omega⟩, ⟨by (with_reducible repeat (first | apply Kd.R_alloc | apply Kd.R_drewN | apply Kd.R_drew)); exact HO1318.out⟩, ⟨u105HB⟩⟩

/-! ### spec_l3Head: function 153 -/
theorem u153HB {p : Prop} (h : p := by repeat (first | (with_reducible first | exact HB.out | apply below_alloc | apply pw_below_drewN | apply below_drew1) | exact HB.out)) : p := h
mutual
def spec_l3Head.l0 : Nat → ByteArray → List ByteArray → Int → Int → Option (List ByteArray × Int)
 | 0, _, _, _, _ => none
 | k + 1, x0, x4, x5, x6 => if x6 < (x0.size : Int) then (if 0 ≤ x6 then (if (bt x0 x6) = 10 then (if 0 ≤ (wrap64 (x6 - 1)) then (if (wrap64 (x6 - 1)) < (x0.size : Int) then (if (bt x0 (wrap64 (x6 - 1))) = 13 then (spec_l3Head.j1 k x0 x4 x5 x6 (decide ((wrap64 (x6 - 1)) < x5))) else (spec_l3Head.j1 k x0 x4 x5 x6 true)) else (none)) else (none)) else (spec_l3Head.j1 k x0 x4 x5 x6 true)) else (none)) else (some (x4, (-1)))
def spec_l3Head.j1 : Nat → ByteArray → List ByteArray → Int → Int → Bool → Option (List ByteArray × Int)
 | 0, _, _, _, _, _ => none
 | k + 1, x0, x4, x5, x6, x31 => if x31 = true then (spec_l3Head.l0 k x0 x4 x5 (wrap64 (x6 + 1))) else (if 0 ≤ x5 then (if x5 ≤ (wrap64 (x6 - 1)) then (if (wrap64 (x6 - 1)) ≤ (x0.size : Int) then (if (x0.extract (x5 : Int).toNat ((wrap64 (x6 - 1)) : Int).toNat).toList = ([] : List UInt8) then (some (x4, wrap64 (x6 + 1))) else (if x4.length < 8796093022208 then (spec_l3Head.l0 k x0 (x4 ++ [x0.extract (x5 : Int).toNat ((wrap64 (x6 - 1)) : Int).toNat]) (wrap64 (x6 + 1)) (wrap64 (x6 + 1))) else (none))) else (none)) else (none)) else (none))
end
def spec_l3Head.f (k : Nat) (a0 : ByteArray) : Option (List ByteArray × Int) := spec_l3Head.l0 k a0 (([] : List ByteArray)) 0 1
theorem spec_l3Head.mono_l : ∀ k, (∀ y0 y1 y2 y3, LeO (spec_l3Head.l0 k y0 y1 y2 y3) (spec_l3Head.l0 (k + 1) y0 y1 y2 y3)) ∧ (∀ y0 y1 y2 y3 y4, LeO (spec_l3Head.j1 k y0 y1 y2 y3 y4) (spec_l3Head.j1 (k + 1) y0 y1 y2 y3 y4))
 | 0 => ⟨fun _ _ _ _ r h => by simp [spec_l3Head.l0] at h, fun _ _ _ _ _ r h => by simp [spec_l3Head.j1] at h⟩
 | k + 1 => by
  obtain ⟨ih0, ih1⟩ := spec_l3Head.mono_l k
  refine ⟨?_, ?_⟩
  ·intro y0 y1 y2 y3
   unfold spec_l3Head.l0
   exact mo
  ·intro y0 y1 y2 y3 y4
   unfold spec_l3Head.j1
   exact mo
theorem spec_l3Head.mono : ∀ a0 k, LeO (spec_l3Head.f k a0) (spec_l3Head.f (k + 1) a0) := by
 intro a0 k
 obtain ⟨ih0, ih1⟩ := spec_l3Head.mono_l k
 unfold spec_l3Head.f
 exact mo
set_option maxHeartbeats 8000000 in
set_option maxRecDepth 100000 in
theorem spec_l3Head.calls (k : Nat) (a0 : ByteArray) (r1 : List ByteArray) (r2 : Int) (w : World) (h : spec_l3Head.f k a0 = some (r1, r2)) :
  Calls Tryz.prog 153 #[.string a0] w fun e w' => ∃ v0_ : Value, e = .returned (.tuple #[v0_, .int .i64 r2]) ∧ Kd.R Kd.string 9 w' w.heap.size (fun _ => True) v0_ r1 ∧ Below w.heap.size w w' := by
 have HB := am (Below.refl w.heap.size w)
 unfold spec_l3Head.f at h
 have H := h
 clear h
 obtain ⟨y1319, hy1319⟩ : ∃ y_ : List ByteArray, y_ = (([] : List ByteArray)) := ⟨_, rfl⟩
 replace H : (spec_l3Head.l0 k a0 y1319 0 1) = some (r1, r2) := by first | (rw [hy1319]; with_reducible exact H) | (have H2_ := (Option.bind_some _ _).symm.trans H; rw [hy1319]; with_reducible exact H2_) | (have H2_ := (Option.bind_some _ _).symm.trans H; with_reducible exact H2_) | with_reducible exact H | (rw [hy1319]; exact H) | exact H
 have Ny1319 := am hy1319
 clear hy1319
 have H' := am H
 clear H
 go_enter Tryz.func153, Tryz.ntmps153
 go_wp2_with (first | ((with_reducible refine gate_dst (N := 8) rfl ?_); refine Kd.R_lit Kd.string _ 9 ?hg (N := 8) ?hd (xs := ([] : List ByteArray)) (inner := []) (ok := fun _ => True) (okp := fun _ => True) ?hr ?hp (fun _ hk => hk) trivial (Below.refl _ _) (Nat.le_refl _) (by simp) ?_; (case hd => rfl); (case hg => rfl); (case hr => first | (go_simp; done) | (go_simp; rfl)); (case hp => exact (Reps.none _ _)); intro v1320 w2 ho3 hb hg_ hnew_; clear hg_ hnew_; (first | rw [← Ny1319.out] at ho3 | (simp only [Int.reduceToNat] at ho3; rw [← Ny1319.out] at ho3)); have HO1321 := am (Kd.R_lower ho3 (below_size bl)); replace HB := am (below_step bl hb); clear hb ho3))
 (try simp only [Act.put, List.setIfInBounds_toArray, List.set_cons_zero, List.set_cons_succ])
 go_loopg [4, 5, 6] k (fun kq v4 v5 v6 w' => ∃ (x4_1 : List ByteArray) (x5_1 : Int) (x6_1 : Int), v5 = .int .i64 x5_1 ∧ v6 = .int .i64 x6_1 ∧ Aside0 (spec_l3Head.l0 kq a0 x4_1 x5_1 x6_1 = some (r1, r2)) ∧ Aside0 (kq ≤ k) ∧ Aside0 (Kd.R Kd.string 9 w' w.heap.size (fun _ => True) v4 x4_1) ∧ Aside0 (Below w.heap.size w w'))
 case atStart => exact ⟨(y1319), (0), (1), rs, rs, H', ⟨Nat.le_refl _⟩, ⟨by (with_reducible repeat (first | apply Kd.R_alloc | apply Kd.R_drewN | apply Kd.R_drew)); exact HO1321.out⟩, ⟨u153HB⟩⟩
 case round =>
  clear H'
  try clear c1
  try clear p2
  obtain ⟨x4_1, x5_1, x6_1, rfl, rfl, HA, HK1, HO_4, HB⟩ := hrel
  cases gk with
  | zero => exact absurd HA.out (by simp [spec_l3Head.l0])
  | succ k1 =>
   have H := HA.out
   clear HA
   simp only [spec_l3Head.l0] at H
   by_cases c4 : x6_1 < (a0.size : Int)
   rotate_left
   ·rw [if_neg c4] at H
    have c4b0 := decide_eq_false c4
    clear c4
    simp only [Option.some.injEq, Prod.mk.injEq] at H
    obtain ⟨rfl, rfl⟩ := H
    go_wp2
    go_ret2
    exact ⟨_, rf, by (with_reducible repeat (first | apply Kd.R_alloc | apply Kd.R_drewN | apply Kd.R_drew)); exact HO_4.out, bl⟩
   rw [if_pos c4] at H
   have c4b0 := decide_eq_true c4
   clear c4
   have HC5 := am H
   clear H
   go_upto_region 6 with (fail)
   go_cut [31] (fun v31 wc => ∃ (kq : Nat) (x31_4 : Bool), v31 = .bool x31_4 ∧ Aside0 (spec_l3Head.j1 kq a0 x4_1 x5_1 x6_1 x31_4 = some (r1, r2)) ∧ Aside0 (kq ≤ k1) ∧ Aside0 (Kd.R Kd.string 9 wc w.heap.size (fun _ => True) u4 x4_1) ∧ Aside0 (Below w.heap.size w wc))
   case first =>
    have H := HC5.out
    clear HC5
    revert H
    refine ifn fun c6 H => ?_
    have c6b0 := decide_eq_true c6
    clear c6
    (first | rw [c6b0] | (simp only [i64_w, i32_w]; rw [c6b0]) | skip)
    by_cases c8 : (bt a0 x6_1) = 10
    rotate_left
    ·rw [if_neg c8] at H
     have c8b0 : ((bt a0 x6_1) == 10) = false := beq_eq_false_iff_ne.mpr c8
     have c8b1 : ((bt a0 x6_1) != 10) = true := bne_iff_ne.mpr c8
     have H' := am H
     clear H
     have p7 : 0 ≤ (x6_1 : Int) := od
     have q7 : x6_1 < (a0.size : Int) := od
     have hx7 := bt_at a0 x6_1
     replace p7 := eq_true p7
     replace q7 := eq_true q7
     go_wp2
     go_meet
     case rel => exact ⟨_, (true), rs, H', ⟨by have := HK1.out; first | omega | exact Nat.le_refl _⟩, ⟨by (with_reducible repeat (first | apply Kd.R_alloc | apply Kd.R_drewN | apply Kd.R_drew)); exact HO_4.out⟩, ⟨u153HB⟩⟩
    rw [if_pos c8] at H
    have c8b0 : ((bt a0 x6_1) == 10) = true := beq_iff_eq.mpr c8
    have c8b1 : ((bt a0 x6_1) != 10) = false := bne_eq_false_iff_eq.mpr c8
    clear c8
    obtain ⟨ji9, hji9⟩ : ∃ j_ : Int, (wrap64 (x6_1 - 1)) = j_ := ⟨_, rfl⟩
    replace H : (if 0 ≤ (ji9) then (if (ji9) < (a0.size : Int) then (if (bt a0 (ji9)) = 13 then (spec_l3Head.j1 k1 a0 x4_1 x5_1 x6_1 (decide ((ji9) < x5_1))) else (spec_l3Head.j1 k1 a0 x4_1 x5_1 x6_1 true)) else (none)) else (none)) = some (r1, r2) := by first | (rw [hji9] at H; exact H) | (simp only [hji9] at H ⊢; exact H)
    have hji9w : (IntKind.i64.wrap (x6_1 - 1)) = ji9 := (i64_w _).trans hji9
    revert H
    refine ifn fun c10 H => ?_
    have c10b0 := decide_eq_true c10
    clear c10
    revert H
    refine ifn fun c11 H => ?_
    have c11b0 := decide_eq_true c11
    clear c11
    by_cases c13 : (bt a0 (ji9)) = 13
    rotate_left
    ·rw [if_neg c13] at H
     have c13b0 : ((bt a0 (ji9)) == 13) = false := beq_eq_false_iff_ne.mpr c13
     have c13b1 : ((bt a0 (ji9)) != 13) = true := bne_iff_ne.mpr c13
     have H' := am H
     clear H
     have p7 : 0 ≤ (x6_1 : Int) := od
     have q7 : x6_1 < (a0.size : Int) := od
     have hx7 := bt_at a0 x6_1
     replace p7 := eq_true p7
     replace q7 := eq_true q7
     have p12 : 0 ≤ ((ji9) : Int) := od
     have q12 : (ji9) < (a0.size : Int) := od
     have hx12 := bt_at a0 (ji9)
     replace p12 := eq_true p12
     replace q12 := eq_true q12
     go_wp2
     go_meet
     case rel => exact ⟨_, (true), rs, H', ⟨by have := HK1.out; first | omega | exact Nat.le_refl _⟩, ⟨by (with_reducible repeat (first | apply Kd.R_alloc | apply Kd.R_drewN | apply Kd.R_drew)); exact HO_4.out⟩, ⟨u153HB⟩⟩
    rw [if_pos c13] at H
    have c13b0 : ((bt a0 (ji9)) == 13) = true := beq_iff_eq.mpr c13
    have c13b1 : ((bt a0 (ji9)) != 13) = false := bne_eq_false_iff_eq.mpr c13
    clear c13
    have H' := am H
    clear H
    have p7 : 0 ≤ (x6_1 : Int) := od
    have q7 : x6_1 < (a0.size : Int) := od
    have hx7 := bt_at a0 x6_1
    replace p7 := eq_true p7
    replace q7 := eq_true q7
    have p12 : 0 ≤ ((ji9) : Int) := od
    have q12 : (ji9) < (a0.size : Int) := od
    have hx12 := bt_at a0 (ji9)
    replace p12 := eq_true p12
    replace q12 := eq_true q12
    go_wp2
    go_meet
    case rel => exact ⟨_, (decide ((ji9) < x5_1)), (by first | rfl | (simp; done) | (simp only [← hji9] <;> (first | rfl | simp)) | (simp [*]; done)), H', ⟨by have := HK1.out; first | omega | exact Nat.le_refl _⟩, ⟨by (with_reducible repeat (first | apply Kd.R_alloc | apply Kd.R_drewN | apply Kd.R_drew)); exact HO_4.out⟩, ⟨u153HB⟩⟩
   case rest =>
    clear HC5
    try clear c1
    try clear p1
    try clear q1
    try clear hx1
    try clear p2
    try clear c4
    try clear c4b0
    try clear c6
    try clear c6b0
    try clear p6
    try clear p7
    try clear q7
    try clear hx7
    try clear c8
    try clear c8b0
    try clear c8b1
    try clear c10
    try clear c10b0
    try clear c11
    try clear c11b0
    try clear p12
    try clear q12
    try clear hx12
    try clear c13
    try clear c13b0
    try clear c13b1
    try clear p12
    try clear p2
    try clear p7
    try clear q12
    try clear q7
    obtain ⟨kq, x31_4, rfl, HA, HJ4, HO_4, HB⟩ := hcut
    cases kq with
    | zero => exact absurd HA.out (by simp [spec_l3Head.j1])
    | succ kj4 =>
     have H := HA.out
     clear HA
     simp only [spec_l3Head.j1] at H
     by_cases c14 : x31_4 = true
     ·subst c14
      rw [if_pos rfl] at H
      have H' := am H
      clear H
      go_wp2
      go_roundg kj4
      case measure => have := HK1.out; have := HJ4.out; omega
      case rel => exact ⟨(x4_1), (x5_1), (wrap64 (x6_1 + 1)), rs, rs, H', ⟨by have := HK1.out; have := HJ4.out; omega⟩, ⟨by (with_reducible repeat (first | apply Kd.R_alloc | apply Kd.R_drewN | apply Kd.R_drew)); exact HO_4.out⟩, ⟨u153HB⟩⟩
     replace c14 := Bool.eq_false_iff.mpr c14
     subst c14
     rw [if_neg (show ¬ (false = true) by decide)] at H
     revert H
     refine ifn fun c15 H => ?_
     have c15b0 := eq_true c15
     have c15b1 := decide_eq_true c15
     clear c15
     revert H
     refine ifn fun c16 H => ?_
     have c16b0 := eq_true c16
     have c16b1 := decide_eq_true c16
     clear c16
     revert H
     refine ifn fun c17 H => ?_
     have c17b0 := eq_true c17
     have c17b1 := decide_eq_true c17
     clear c17
     by_cases c18 : (a0.extract (x5_1 : Int).toNat ((wrap64 (x6_1 - 1)) : Int).toNat).toList = ([] : List UInt8)
     ·rw [if_pos c18] at H
      have c18b0 : ((a0.extract (x5_1 : Int).toNat ((wrap64 (x6_1 - 1)) : Int).toNat).toList == ([] : List UInt8)) = true := beq_iff_eq.mpr c18
      have c18b1 : ((a0.extract (x5_1 : Int).toNat ((wrap64 (x6_1 - 1)) : Int).toNat).toList != ([] : List UInt8)) = false := bne_eq_false_iff_eq.mpr c18
      clear c18
      simp only [Option.some.injEq, Prod.mk.injEq] at H
      obtain ⟨rfl, rfl⟩ := H
      go_wp2
      go_ret2
      exact ⟨_, rf, by (with_reducible repeat (first | apply Kd.R_alloc | apply Kd.R_drewN | apply Kd.R_drew)); exact HO_4.out, bl⟩
     rw [if_neg c18] at H
     have c18b0 : ((a0.extract (x5_1 : Int).toNat ((wrap64 (x6_1 - 1)) : Int).toNat).toList == ([] : List UInt8)) = false := beq_eq_false_iff_ne.mpr c18
     have c18b1 : ((a0.extract (x5_1 : Int).toNat ((wrap64 (x6_1 - 1)) : Int).toNat).toList != ([] : List UInt8)) = true := bne_iff_ne.mpr c18
     revert H
     refine ifn fun c19 H => ?_
     have LMc19 := am c19
     clear c19
     obtain ⟨y1322, hy1322⟩ : ∃ y_ : List ByteArray, y_ = (x4_1 ++ [a0.extract (x5_1 : Int).toNat ((wrap64 (x6_1 - 1)) : Int).toNat]) := ⟨_, rfl⟩
     replace H : (spec_l3Head.l0 kj4 a0 y1322 (wrap64 (x6_1 + 1)) (wrap64 (x6_1 + 1))) = some (r1, r2) := by first | (rw [hy1322]; with_reducible exact H) | (have H2_ := (Option.bind_some _ _).symm.trans H; rw [hy1322]; with_reducible exact H2_) | (have H2_ := (Option.bind_some _ _).symm.trans H; with_reducible exact H2_) | with_reducible exact H | (rw [hy1322]; exact H) | exact H
     have Ny1322 := am hy1322
     clear hy1322
     have H' := am H
     clear H
     go_wp2_with (first | ((with_reducible refine gate_builtin (b := .append) (xs := #[.tmp 43, .tmp 45]) rfl ?_); at_builtin; refine Kd.R_append Kd.string (w0 := w) w.heap.size rfl (.tmp 43) (.tmp 45) 26 9 (.string ⟨#[]⟩) 16 rfl Tryz.underlying26 info9 rfl (by decide) (by omega) u4 x4_1 (a0.extract (x5_1 : Int).toNat ((wrap64 (x6_1 - 1)) : Int).toNat) [.string (a0.extract (x5_1 : Int).toNat ((wrap64 (x6_1 - 1)) : Int).toNat)] (fun _ => True) (fun _ => False) rfl rfl ?aP (fun _ hk => hk.elim) ?aF ?aO ?aB ?aS ?aL ?_; (case aP => exact rfl); (case aB => exact bl); (case aF => exact (fun _ _ => trivial)); (case aO => exact (ro HO_4)); (case aS => exact (below_size bl)); (case aL => have := LMc19.out; omega); intro v1323 w20 ho hb hg hat; rw [← Ny1322.out] at ho; have n0_ := am (hb); have n1_ := am (ho); clear HB; clear HO_4; have HB := n0_; have HO1324 := n1_; clear n0_ n1_; clear ho hb hg hat))
     go_roundg kj4
     case measure => have := HK1.out; have := HJ4.out; omega
     case rel => exact ⟨(y1322), (wrap64 (x6_1 + 1)), (wrap64 (x6_1 + 1)), rs, rs, H', ⟨by have := HK1.out; have := HJ4.out; omega⟩, ⟨by (with_reducible repeat (first | apply Kd.R_alloc | apply Kd.R_drewN | apply Kd.R_drew)); exact HO1324.out⟩, ⟨u153HB⟩⟩

end Go.Proofs.YtjlpjbkpmmpojaaGreatDoor.All
