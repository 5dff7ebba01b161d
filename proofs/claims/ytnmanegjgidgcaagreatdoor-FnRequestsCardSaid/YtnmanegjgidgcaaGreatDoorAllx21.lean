-- Written by a program of this session (wip/tools/hprint.py) out of the translation. Lean checks it.
import Derived.Test.YtnmanegjgidgcaaGreatDoorAllx0
import Derived.Test.YtnmanegjgidgcaaGreatDoorAllx2
import Derived.Test.YtnmanegjgidgcaaGreatDoorAllx3
import Derived.Test.YtnmanegjgidgcaaGreatDoorAllx14
import Derived.Test.YtnmanegjgidgcaaGreatDoorAllx20
namespace Go.Proofs.YtnmanegjgidgcaaGreatDoor.All
open Go.RowKit Go.Proofs.YtnmanegjgidgcaaGreatDoorW.PrintWords Go.Proofs.YtnmanegjgidgcaaGreatDoorW.PrintLast Go.Proofs.YtnmanegjgidgcaaGreatDoorW.PrintMore
attribute [local go_sem] max2_int min2_int max_two min_two max_three min_three max_four min_four   -- for this text's walks alone
set_option linter.unusedVariables false
set_option linter.unusedSimpArgs false

/-! ### spec_ObjText: function 58 -/
theorem u58HB {p : Prop} (h : p := by repeat (first | (with_reducible first | exact HB.out | apply below_alloc | apply pw_below_drewN | apply below_drew1 | refine below_set ?_ GE1103.out) | exact HB.out)) : p := h
def spec_ObjText.l0 : Nat → ByteArray → Int → ByteArray → List ByteArray → List ByteArray → Int → List (S100) → ByteArray → Int → Option (ByteArray)
 | 0, _, _, _, _, _, _, _, _, _ => none
 | k + 1, x3, x4, x1104000, x1104001, x1104002, x1104003, x1104004, x1104005, x1104006 => if x4 < (x1104002.length : Int) then (if 0 ≤ x4 then (if x3.size + (rdOf ByteArray.empty x1104002 x4).size ≤ 9223372036854775807 then (if (x3 ++ (rdOf ByteArray.empty x1104002 x4)).size + 1 ≤ 9223372036854775807 then (spec_ObjText.l0 k ((x3 ++ (rdOf ByteArray.empty x1104002 x4)) ++ (⟨#[10]⟩ : ByteArray)) (wrap64 (x4 + 1)) x1104000 x1104001 x1104002 x1104003 x1104004 x1104005 x1104006) else (none)) else (none)) else (none)) else ((spec_RespText.f k x1104003 x1104004 x1104005).bind fun t1108 => (if x3.size + t1108.size ≤ 9223372036854775807 then (some (x3 ++ t1108)) else (none)))
def spec_ObjText.f (k : Nat) (a0_0 : ByteArray) (l0_1 : List ByteArray) (l0_2 : List ByteArray) (a0_3 : Int) (l0_4 : List (S100)) (a0_5 : ByteArray) (a0_6 : Int) : Option (ByteArray) := (spec_ObjOk.f k a0_0 l0_1 l0_2 a0_3 l0_4 a0_5 a0_6).bind fun t1104 => (if t1104 = true then (if 4 + a0_0.size ≤ 9223372036854775807 then (if ((⟨#[111, 98, 106, 32]⟩ : ByteArray) ++ a0_0).size + 1 ≤ 9223372036854775807 then ((spec_NumText.f k a0_6).bind fun t1105 => (if (((⟨#[111, 98, 106, 32]⟩ : ByteArray) ++ a0_0) ++ (⟨#[32]⟩ : ByteArray)).size + t1105.size ≤ 9223372036854775807 then (if ((((⟨#[111, 98, 106, 32]⟩ : ByteArray) ++ a0_0) ++ (⟨#[32]⟩ : ByteArray)) ++ t1105).size + 1 ≤ 9223372036854775807 then ((spec_NumText.f k (l0_2.length : Int)).bind fun t1106 => (if (((((⟨#[111, 98, 106, 32]⟩ : ByteArray) ++ a0_0) ++ (⟨#[32]⟩ : ByteArray)) ++ t1105) ++ (⟨#[32]⟩ : ByteArray)).size + t1106.size ≤ 9223372036854775807 then (if ((((((⟨#[111, 98, 106, 32]⟩ : ByteArray) ++ a0_0) ++ (⟨#[32]⟩ : ByteArray)) ++ t1105) ++ (⟨#[32]⟩ : ByteArray)) ++ t1106).size + 1 ≤ 9223372036854775807 then (spec_ObjText.l0 k (((((((⟨#[111, 98, 106, 32]⟩ : ByteArray) ++ a0_0) ++ (⟨#[32]⟩ : ByteArray)) ++ t1105) ++ (⟨#[32]⟩ : ByteArray)) ++ t1106) ++ (⟨#[10]⟩ : ByteArray)) 0 a0_0 l0_1 l0_2 a0_3 l0_4 a0_5 a0_6) else (none)) else (none))) else (none)) else (none))) else (none)) else (none)) else (some (⟨#[]⟩ : ByteArray)))
theorem spec_ObjText.mono_l : ∀ k, (∀ y0 y1 y2 y3 y4 y5 y6 y7 y8, LeO (spec_ObjText.l0 k y0 y1 y2 y3 y4 y5 y6 y7 y8) (spec_ObjText.l0 (k + 1) y0 y1 y2 y3 y4 y5 y6 y7 y8))
 | 0 => fun _ _ _ _ _ _ _ _ _ r h => by simp [spec_ObjText.l0] at h
 | k + 1 => by
  have ih0 := spec_ObjText.mono_l k
  ·intro y0 y1 y2 y3 y4 y5 y6 y7 y8
   unfold spec_ObjText.l0
   have m0 := @spec_NumText.mono
   have m1 := @spec_ObjOk.mono
   have m2 := @spec_RespText.mono
   exact mo
theorem spec_ObjText.mono : ∀ a0 a1 a2 a3 a4 a5 a6 k, LeO (spec_ObjText.f k a0 a1 a2 a3 a4 a5 a6) (spec_ObjText.f (k + 1) a0 a1 a2 a3 a4 a5 a6) := by
 intro a0 a1 a2 a3 a4 a5 a6 k
 have ih0 := spec_ObjText.mono_l k
 unfold spec_ObjText.f
 have m0 := @spec_NumText.mono
 have m1 := @spec_ObjOk.mono
 have m2 := @spec_RespText.mono
 exact mo
def spec_ObjText.T3 : Bool × List (List Nat × List Nat) := (true, [([], []), ([0], [0]), ([1], [1]), ([2], [2]), ([], []), ([4], [4]), ([5], [5]), ([3, 6], [3, 6]), ([7], [7]), ([], []), ([9], [9]), ([10], [10]), ([11, 6], [11]), ([8, 12], [8, 12]), ([13], [13]), ([14, 12, 0, 1, 2, 3, 4, 5, 6, 7, 8, 9, 10, 11, 12, 13, 14], [14])])
def spec_ObjText.B3 : List Nat := [0, 1, 3, 7, 0, 16, 48, 127, 255, 0, 512, 1536, 3696, 8191, 16383, 32767]
theorem spec_ObjText.tab3 : rtab .any (opsOf Tryz.f58 3) = spec_ObjText.T3 := by kernel_rfl
theorem spec_ObjText.bits3 : waitsOk spec_ObjText.T3.2 spec_ObjText.B3 = true := by kernel_rfl
set_option maxHeartbeats 8000000 in
set_option maxRecDepth 100000 in
theorem spec_ObjText.calls (k : Nat) (a0_0 : ByteArray) (A0_1 : Option Addr) (c0_1 : Nat) (l0_1 : List ByteArray) (A0_2 : Option Addr) (c0_2 : Nat) (l0_2 : List ByteArray) (a0_3 : Int) (A0_4 : Option Addr) (c0_4 : Nat) (l0_4 : List (S100)) (a0_5 : ByteArray) (a0_6 : Int) (r : ByteArray) (w : World) (hr0_1 : Kd.C Kd.string w A0_1 l0_1.length l0_1) (hc0_1 : l0_1.length ≤ c0_1) (hr0_2 : Kd.C Kd.string w A0_2 l0_2.length l0_2) (hc0_2 : l0_2.length ≤ c0_2) (hr0_4 : Kd.C k100 w A0_4 l0_4.length l0_4) (hc0_4 : l0_4.length ≤ c0_4) (h : spec_ObjText.f k a0_0 l0_1 l0_2 a0_3 l0_4 a0_5 a0_6 = some r) :
  Calls Tryz.prog 58 #[.agg #[.string a0_0, .slice A0_1 l0_1.length c0_1, .slice A0_2 l0_2.length c0_2, .int .i64 a0_3, .slice A0_4 l0_4.length c0_4, .string a0_5, .int .i64 a0_6]] w fun e w' => e = .returned (.string r) ∧ Below w.heap.size w w' := by
 have hu71 := Tryz.underlying71
 have hu48 := Tryz.underlying48
 have HR0_1 := am hr0_1
 have HC0_1 := am hc0_1
 clear hr0_1 hc0_1
 have HR0_2 := am hr0_2
 have HC0_2 := am hc0_2
 clear hr0_2 hc0_2
 have HR0_4 := am hr0_4
 have HC0_4 := am hc0_4
 clear hr0_4 hc0_4
 have HB := am (Below.refl w.heap.size w)
 unfold spec_ObjText.f at h
 have H := h
 clear h
 revert H
 refine ok1 fun t1104 A2 H => ?_
 by_cases c3 : t1104 = true
 rotate_left
 ·replace c3 := Bool.eq_false_iff.mpr c3
  subst c3
  rw [if_neg (show ¬ (false = true) by decide)] at H
  obtain rfl := Option.some.inj H
  go_enter Tryz.func58, Tryz.ntmps58
  go_wp2_with (first | (refine bx 1 #[.string a0_0, .slice A0_1 l0_1.length c0_1, .slice A0_2 l0_2.length c0_2, .int .i64 a0_3, .slice A0_4 l0_4.length c0_4, .string a0_5, .int .i64 a0_6] 71 ?_; intro gb1103 hg w27 hbox hb; have BK1103 := am (hbox); have GW1103 := am (sz hg : w.heap.size ≤ gb1103); have GE1103 := am (sz hg : w.heap.size ≤ gb1103); replace HB := am (below_step bl hb); clear hb hbox hg; obtain ⟨z28_0, y28_0, z28_1, y28_1, z28_2, y28_2, z28_3, y28_3, z28_4, y28_4, z28_5, y28_5, z28_6, y28_6⟩ := cl7 BK1103) | (refine gl 6 Tryz.func109 #[.agg #[.string a0_0, .slice A0_1 l0_1.length c0_1, .slice A0_2 l0_2.length c0_2, .int .i64 a0_3, .slice A0_4 l0_4.length c0_4, .string a0_5, .int .i64 a0_6]] ?_; (with_reducible refine (spec_ObjOk.calls k a0_0 _ _ l0_1 _ _ l0_2 a0_3 _ _ l0_4 a0_5 a0_6 false _ ?side1 ?side2 ?side3 ?side4 ?side5 ?side6 A2.out).mono ?_); (case side1 => exact cb HR0_1); (case side2 => exact HC0_1.out); (case side3 => exact cb HR0_2); (case side4 => exact HC0_2.out); (case side5 => exact cb HR0_4); (case side6 => exact HC0_4.out); rintro e w29 ⟨rfl, hb⟩; refine ⟨_, rfl, ?_⟩; replace BK1103 := kb BK1103 hb; replace HB := am (below_step bl hb); clear hb))
  go_ret
  exact ⟨rf, bl⟩
 subst c3
 rw [if_pos rfl] at H
 revert H
 refine ifn fun c4 H => ?_
 have c4b0 := eq_true c4
 have c4b1 := decide_eq_true c4
 try have c4b2 := eq_false (Nat.not_lt.2 c4)
 revert H
 refine ifn fun c5 H => ?_
 have c5b0 := eq_true c5
 have c5b1 := decide_eq_true c5
 try have c5b2 := eq_false (Nat.not_lt.2 c5)
 have c5b3 : (9223372036854775807 < 4 + (a0_0).size + 1) = False := b3 c5
 revert H
 refine ok1 fun t1105 A6 H => ?_
 revert H
 refine ifn fun c7 H => ?_
 have c7b0 := eq_true c7
 have c7b1 := decide_eq_true c7
 try have c7b2 := eq_false (Nat.not_lt.2 c7)
 have c7b3 : (9223372036854775807 < 4 + (a0_0).size + 1 + (t1105).size) = False := b3 c7
 revert H
 refine ifn fun c8 H => ?_
 have c8b0 := eq_true c8
 have c8b1 := decide_eq_true c8
 try have c8b2 := eq_false (Nat.not_lt.2 c8)
 have c8b3 : (9223372036854775807 < 4 + (a0_0).size + 1 + (t1105).size + 1) = False := b3 c8
 revert H
 refine ok1 fun t1106 A9 H => ?_
 revert H
 refine ifn fun c10 H => ?_
 have c10b0 := eq_true c10
 have c10b1 := decide_eq_true c10
 try have c10b2 := eq_false (Nat.not_lt.2 c10)
 have c10b3 : (9223372036854775807 < 4 + (a0_0).size + 1 + (t1105).size + 1 + (t1106).size) = False := b3 c10
 revert H
 refine ifn fun c11 H => ?_
 have c11b0 := eq_true c11
 have c11b1 := decide_eq_true c11
 try have c11b2 := eq_false (Nat.not_lt.2 c11)
 have c11b3 : (9223372036854775807 < 4 + (a0_0).size + 1 + (t1105).size + 1 + (t1106).size + 1) = False := b3 c11
 have H' := am H
 clear H
 go_enter Tryz.func58, Tryz.ntmps58
 try go_wp2_with (first | (refine bx 1 #[.string a0_0, .slice A0_1 l0_1.length c0_1, .slice A0_2 l0_2.length c0_2, .int .i64 a0_3, .slice A0_4 l0_4.length c0_4, .string a0_5, .int .i64 a0_6] 71 ?_; intro gb1103 hg w12 hbox hb; have BK1103 := am (hbox); have GW1103 := am (sz hg : w.heap.size ≤ gb1103); have GE1103 := am (sz hg : w.heap.size ≤ gb1103); replace HB := am (below_step bl hb); clear hb hbox hg; obtain ⟨z13_0, y13_0, z13_1, y13_1, z13_2, y13_2, z13_3, y13_3, z13_4, y13_4, z13_5, y13_5, z13_6, y13_6⟩ := cl7 BK1103) | (refine gl 6 Tryz.func109 #[.agg #[.string a0_0, .slice A0_1 l0_1.length c0_1, .slice A0_2 l0_2.length c0_2, .int .i64 a0_3, .slice A0_4 l0_4.length c0_4, .string a0_5, .int .i64 a0_6]] ?_; (with_reducible refine (spec_ObjOk.calls k a0_0 _ _ l0_1 _ _ l0_2 a0_3 _ _ l0_4 a0_5 a0_6 true _ ?side1 ?side2 ?side3 ?side4 ?side5 ?side6 A2.out).mono ?_); (case side1 => exact cb HR0_1); (case side2 => exact HC0_1.out); (case side3 => exact cb HR0_2); (case side4 => exact HC0_2.out); (case side5 => exact cb HR0_4); (case side6 => exact HC0_4.out); rintro e w14 ⟨rfl, hb⟩; refine ⟨_, rfl, ?_⟩; replace BK1103 := kb BK1103 hb; replace HB := am (below_step bl hb); clear hb))
 replace BK1103 := am (blk_drew BK1103.out)
 replace HB := am (below_drew1 HB.out)
 refine start_ (n := 16) (S := fun w' => w'.cell? ⟨gb1103, 0, none⟩ = some (.string a0_0) ∧ w'.cell? ⟨gb1103, 1, none⟩ = some (.slice A0_1 l0_1.length c0_1) ∧ w'.cell? ⟨gb1103, 2, none⟩ = some (.slice A0_2 l0_2.length c0_2) ∧ w'.cell? ⟨gb1103, 3, none⟩ = some (.int .i64 a0_3) ∧ w'.cell? ⟨gb1103, 4, none⟩ = some (.slice A0_4 l0_4.length c0_4) ∧ w'.cell? ⟨gb1103, 5, none⟩ = some (.string a0_5) ∧ w'.cell? ⟨gb1103, 6, none⟩ = some (.int .i64 a0_6)) (ds := []) ⟨br true [0, 16]⟩ (by kernel_rfl) rfl (by kernel_rfl) ⟨bc BK1103, bc BK1103, bc BK1103, bc BK1103, bc BK1103, bc BK1103, bc BK1103⟩ (fun hHeld => ?_); refine with_tabW spec_ObjText.tab3 spec_ObjText.bits3 (fun HT_ HW_ => ?_)
 generalize w14.drew = w15 at BK1103 HB hHeld ⊢
 refine pu 0 8 [1, 15] ?_
 refine pu 4 12 [1, 3, 1, 11] ?_
 refine pu 9 17 [1, 3, 1, 4, 1, 6] ?_
 refine tk 1 9 [2, 2, 1, 4, 1, 6] ?_
 refine pu 2 10 [3, 1, 1, 4, 1, 6] ?_
 refine pu 3 11 [5, 4, 1, 6] ?_
 refine tk 5 13 [6, 3, 1, 6] ?_
 refine tk 10 18 [6, 3, 2, 5] ?_
 refine pu 11 19 [6, 3, 3, 4] ?_
 refine og 6 14 [7, 2, 3, 4] Tryz.func79 #[.int .i64 a0_6] (fun K hK => ?_)
 with_reducible refine (spec_NumText.calls k a0_6 t1105 _ A6.out).mono ?_
 rintro e w16 ⟨rfl, hb⟩
 refine ⟨_, rfl, ?_⟩
 replace BK1103 := kb BK1103 hb
 replace HB := am (below_step bl hb)
 clear hb
 refine hK.out _ _ ⟨bc BK1103, bc BK1103, bc BK1103, bc BK1103, bc BK1103, bc BK1103, bc BK1103⟩ (fun hHeld => ?_)
 clear hK K
 refine nm 14 ?_
 refine pu 7 15 [8, 1, 3, 4] ?_
 refine pu 8 16 [12, 4] ?_
 refine og 12 20 [13, 3] Tryz.func79 #[.int .i64 (l0_2.length : Int)] (fun K hK => ?_)
 with_reducible refine (spec_NumText.calls k (l0_2.length : Int) t1106 _ A9.out).mono ?_
 rintro e w17 ⟨rfl, hb⟩
 refine ⟨_, rfl, ?_⟩
 replace BK1103 := kb BK1103 hb
 replace HB := am (below_step bl hb)
 clear hb
 refine hK.out _ _ ⟨bc BK1103, bc BK1103, bc BK1103, bc BK1103, bc BK1103, bc BK1103, bc BK1103⟩ (fun hHeld => ?_)
 clear hK K
 refine nm 20 ?_
 refine pu 13 21 [14, 2] ?_
 refine pu 14 22 [15, 1] ?_
 refine pu 15 3 [16] ?_
 refine done_ (done_of HT_.out (by kernel_rfl)) ?_
 try go_wp2
 (try simp only [Act.put, List.setIfInBounds_toArray, List.set_cons_zero, List.set_cons_succ])
 go_loopg [3, 4] k (fun kq v3 v4 w' => ∃ (x3_1 : ByteArray) (x4_1 : Int), v3 = .string x3_1 ∧ v4 = .int .i64 x4_1 ∧ Aside0 (spec_ObjText.l0 kq x3_1 x4_1 a0_0 l0_1 l0_2 a0_3 l0_4 a0_5 a0_6 = some r) ∧ Aside0 (kq ≤ k) ∧ Aside0 (w'.heap[gb1103]? = some (.cells #[.string a0_0, (.slice A0_1 l0_1.length c0_1), (.slice A0_2 l0_2.length c0_2), .int .i64 a0_3, (.slice A0_4 l0_4.length c0_4), .string a0_5, .int .i64 a0_6] 71 (0, 0))) ∧ Aside0 (Below w.heap.size w w'))
 case atStart => exact ⟨(((((((⟨#[111, 98, 106, 32]⟩ : ByteArray) ++ a0_0) ++ (⟨#[32]⟩ : ByteArray)) ++ t1105) ++ (⟨#[32]⟩ : ByteArray)) ++ t1106) ++ (⟨#[10]⟩ : ByteArray)), (0), rs, rs, H', ⟨Nat.le_refl _⟩, ⟨by (with_reducible repeat (first | refine blk_drewN ?_ _ | refine blk_drew ?_ | refine blk_alloc ?_ _)); exact BK1103.out⟩, ⟨u58HB⟩⟩
 case round =>
  clear H'
  try clear c1
  try clear p2
  try clear c3
  try clear c4
  try clear c4b0
  try clear c4b1
  try clear c4b2
  try clear c5
  try clear c5b0
  try clear c5b1
  try clear c5b2
  try clear c7
  try clear c7b0
  try clear c7b1
  try clear c7b2
  try clear c8
  try clear c8b0
  try clear c8b1
  try clear c8b2
  try clear c10
  try clear c10b0
  try clear c10b1
  try clear c10b2
  try clear c11
  try clear c11b0
  try clear c11b1
  try clear c11b2
  try clear z13_0
  try clear z13_1
  try clear z13_2
  try clear z13_3
  try clear z13_4
  try clear z13_5
  try clear z13_6
  try clear y13_0
  try clear y13_1
  try clear y13_2
  try clear y13_3
  try clear y13_4
  try clear y13_5
  try clear y13_6
  obtain ⟨x3_1, x4_1, rfl, rfl, HA, HK1, BK1103, HB⟩ := hrel
  cases gk with
  | zero => exact absurd HA.out (by simp [spec_ObjText.l0])
  | succ k1 =>
   have H := HA.out
   clear HA
   simp only [spec_ObjText.l0] at H
   by_cases c18 : x4_1 < (l0_2.length : Int)
   rotate_left
   ·rw [if_neg c18] at H
    have c18b0 := decide_eq_false c18
    clear c18
    revert H
    refine ok1 fun t1108 A23 H => ?_
    revert H
    refine ifn fun c24 H => ?_
    have c24b0 := eq_true c24
    have c24b1 := decide_eq_true c24
    try have c24b2 := eq_false (Nat.not_lt.2 c24)
    obtain rfl := Option.some.inj H
    obtain ⟨z25_0, y25_0, z25_1, y25_1, z25_2, y25_2, z25_3, y25_3, z25_4, y25_4, z25_5, y25_5, z25_6, y25_6⟩ := cl7 BK1103
    go_wp2_with (first | (refine gl 41 Tryz.func34 #[.agg #[.int .i64 a0_3, .slice A0_4 l0_4.length c0_4, .string a0_5]] ?_; (with_reducible refine (spec_RespText.calls k1 a0_3 _ _ l0_4 a0_5 t1108 _ ?side1 ?side2 A23.out).mono ?_); (case side1 => exact cb HR0_4); (case side2 => exact HC0_4.out); rintro e w26 ⟨rfl, hb⟩; refine ⟨_, rfl, ?_⟩; replace BK1103 := kb BK1103 hb; replace HB := am (below_step bl hb); clear hb))
    go_ret
    exact ⟨rf, bl⟩
   rw [if_pos c18] at H
   have c18b0 := decide_eq_true c18
   clear c18
   revert H
   refine ifn fun c19 H => ?_
   have c19b0 := decide_eq_true c19
   clear c19
   revert H
   refine ifn fun c20 H => ?_
   have c20b0 := eq_true c20
   have c20b1 := decide_eq_true c20
   try have c20b2 := eq_false (Nat.not_lt.2 c20)
   revert H
   refine ifn fun c21 H => ?_
   have c21b0 := eq_true c21
   have c21b1 := decide_eq_true c21
   try have c21b2 := eq_false (Nat.not_lt.2 c21)
   have c21b3 : (9223372036854775807 < (x3_1).size + (rdOf ByteArray.empty l0_2 x4_1).size + 1) = False := b3 c21
   have H' := am H
   clear H
   obtain ⟨z22_0, y22_0, z22_1, y22_1, z22_2, y22_2, z22_3, y22_3, z22_4, y22_4, z22_5, y22_5, z22_6, y22_6⟩ := cl7 BK1103
   have p1107 : 0 ≤ (x4_1 : Int) := od
   have q1107 : x4_1 < (l0_2.length : Int) := od
   obtain ⟨ad1107, e1107, hx1107_0⟩ := Kd.at_string HR0_2.out x4_1 p1107 q1107
   cases e1107
   replace hx1107_0 := hcw hx1107_0
   replace p1107 := eq_true p1107
   replace q1107 := eq_true q1107
   go_wp2
   go_roundg k1
   case measure => have := HK1.out; omega
   case rel => exact ⟨((x3_1 ++ (rdOf ByteArray.empty l0_2 x4_1)) ++ (⟨#[10]⟩ : ByteArray)), (wrap64 (x4_1 + 1)), rs, rs, H', ⟨by have := HK1.out; omega⟩, ⟨by (with_reducible repeat (first | refine blk_drewN ?_ _ | refine blk_drew ?_ | refine blk_alloc ?_ _)); exact BK1103.out⟩, ⟨u58HB⟩⟩

/-! ### spec_l10Line: function 102 -/
def spec_l10Line.l0 : Nat → ByteArray → Int → Int → Option (ByteArray × Int)
 | 0, _, _, _ => none
 | k + 1, x0, x1, x6 => if x6 < (x0.size : Int) then (if 0 ≤ x6 then (if (bt x0 x6) = 10 then (if 0 ≤ x1 then (if x1 ≤ x6 then (if x6 ≤ (x0.size : Int) then (some (x0.extract (x1 : Int).toNat (x6 : Int).toNat, wrap64 (x6 + 1))) else (none)) else (none)) else (none)) else (spec_l10Line.l0 k x0 x1 (wrap64 (x6 + 1)))) else (none)) else (some ((⟨#[]⟩ : ByteArray), (-1)))
def spec_l10Line.f (k : Nat) (a0 : ByteArray) (a1 : Int) : Option (ByteArray × Int) := spec_l10Line.l0 k a0 a1 a1
theorem spec_l10Line.mono_l : ∀ k, (∀ y0 y1 y2, LeO (spec_l10Line.l0 k y0 y1 y2) (spec_l10Line.l0 (k + 1) y0 y1 y2))
 | 0 => fun _ _ _ r h => by simp [spec_l10Line.l0] at h
 | k + 1 => by
  have ih0 := spec_l10Line.mono_l k
  ·intro y0 y1 y2
   unfold spec_l10Line.l0
   exact mo
theorem spec_l10Line.mono : ∀ a0 a1 k, LeO (spec_l10Line.f k a0 a1) (spec_l10Line.f (k + 1) a0 a1) := by
 intro a0 a1 k
 have ih0 := spec_l10Line.mono_l k
 unfold spec_l10Line.f
 exact mo
set_option maxHeartbeats 8000000 in
set_option maxRecDepth 100000 in
theorem spec_l10Line.calls (k : Nat) (a0 : ByteArray) (a1 : Int) (r1 : ByteArray) (r2 : Int) (w : World) (h : spec_l10Line.f k a0 a1 = some (r1, r2)) :
  Calls Tryz.prog 102 #[.string a0, .int .i64 a1] w fun e w' => e = .returned (.tuple #[.string r1, .int .i64 r2]) ∧ Drawn0 w w' := by
 unfold spec_l10Line.f at h
 have H := h
 clear h
 have H' := am H
 clear H
 go_enter Tryz.func102, Tryz.ntmps102
 go_wp2
 (try simp only [Act.put, List.setIfInBounds_toArray, List.set_cons_zero, List.set_cons_succ])
 go_loopg [6] k (fun kq v6 w' => ∃ (x6_1 : Int), v6 = .int .i64 x6_1 ∧ Aside0 (spec_l10Line.l0 kq a0 a1 x6_1 = some (r1, r2)) ∧ Aside0 (kq ≤ k) ∧ Drawn0 w w')
 case atStart => exact ⟨(a1), rs, H', ⟨Nat.le_refl _⟩, dr⟩
 case round =>
  clear H'
  try clear c1
  try clear p2
  obtain ⟨x6_1, rfl, HA, HK1, ⟨m1, rfl⟩⟩ := hrel
  cases gk with
  | zero => exact absurd HA.out (by simp [spec_l10Line.l0])
  | succ k1 =>
   have H := HA.out
   clear HA
   simp only [spec_l10Line.l0] at H
   by_cases c3 : x6_1 < (a0.size : Int)
   rotate_left
   ·rw [if_neg c3] at H
    have c3b0 := decide_eq_false c3
    clear c3
    simp only [Option.some.injEq, Prod.mk.injEq] at H
    obtain ⟨rfl, rfl⟩ := H
    go_wp2
    go_ret2
    exact ⟨rs, dr⟩
   rw [if_pos c3] at H
   have c3b0 := decide_eq_true c3
   clear c3
   revert H
   refine ifn fun c4 H => ?_
   have c4b0 := decide_eq_true c4
   clear c4
   by_cases c6 : (bt a0 x6_1) = 10
   rotate_left
   ·rw [if_neg c6] at H
    have c6b0 : ((bt a0 x6_1) == 10) = false := beq_eq_false_iff_ne.mpr c6
    have c6b1 : ((bt a0 x6_1) != 10) = true := bne_iff_ne.mpr c6
    have H' := am H
    clear H
    have p5 : 0 ≤ (x6_1 : Int) := od
    have q5 : x6_1 < (a0.size : Int) := od
    have hx5 := bt_at a0 x6_1
    replace p5 := eq_true p5
    replace q5 := eq_true q5
    go_wp2
    go_roundg k1
    case measure => have := HK1.out; omega
    case rel => exact ⟨(wrap64 (x6_1 + 1)), rs, H', ⟨by have := HK1.out; omega⟩, dr⟩
   rw [if_pos c6] at H
   have c6b0 : ((bt a0 x6_1) == 10) = true := beq_iff_eq.mpr c6
   have c6b1 : ((bt a0 x6_1) != 10) = false := bne_eq_false_iff_eq.mpr c6
   clear c6
   revert H
   refine ifn fun c7 H => ?_
   have c7b0 := eq_true c7
   have c7b1 := decide_eq_true c7
   clear c7
   revert H
   refine ifn fun c8 H => ?_
   have c8b0 := eq_true c8
   have c8b1 := decide_eq_true c8
   clear c8
   revert H
   refine ifn fun c9 H => ?_
   have c9b0 := eq_true c9
   have c9b1 := decide_eq_true c9
   clear c9
   simp only [Option.some.injEq, Prod.mk.injEq] at H
   obtain ⟨rfl, rfl⟩ := H
   have p5 : 0 ≤ (x6_1 : Int) := od
   have q5 : x6_1 < (a0.size : Int) := od
   have hx5 := bt_at a0 x6_1
   replace p5 := eq_true p5
   replace q5 := eq_true q5
   go_wp2
   go_ret2
   exact ⟨rs, dr⟩

/-! ### spec_ObjRead: function 51 -/
theorem u51HB {p : Prop} (h : p := by repeat (first | (with_reducible first | exact HB.out | apply below_alloc | apply pw_below_drewN | apply below_drew1 | refine below_set ?_ GE1109.out | refine below_set ?_ GE1122.out) | exact HB.out)) : p := h
mutual
def spec_ObjRead.j0 : Nat → ByteArray → Int → List ByteArray → Bool → Option (ByteArray × List ByteArray × List ByteArray × Int × (List (S100)) × ByteArray × Int × Bool)
 | 0, _, _, _, _ => none
 | k + 1, x0, x5, x6, x28 => if x28 = true then (some ((⟨#[]⟩ : ByteArray), ([] : List ByteArray), ([] : List ByteArray), 0, ([] : List (S100)), (⟨#[]⟩ : ByteArray), 0, false)) else (if 2 < (x6.length : Int) then ((spec_NumRead.f k (rdOf ByteArray.empty x6 2)).bind fun bt1116 => (if 3 < (x6.length : Int) then ((spec_NumRead.f k (rdOf ByteArray.empty x6 3)).bind fun bt1119 => (if 1 < (x6.length : Int) then (spec_ObjRead.l0 k x0 x5 bt1119.1 0 (rdOf ByteArray.empty x6 1) ([] : List ByteArray) 0 (⟨#[]⟩ : ByteArray) bt1116.1) else (none))) else (none))) else (none))
def spec_ObjRead.j2 : Nat → ByteArray → Int → ByteArray → List ByteArray → Int → ByteArray → Int → Option (ByteArray × List ByteArray × List ByteArray × Int × (List (S100)) × ByteArray × Int × Bool)
 | 0, _, _, _, _, _, _, _ => none
 | k + 1, x0, x5, x1123000, x1123002, x1123003, x1123005, x1123006 => if x5 < 0 then (some ((⟨#[]⟩ : ByteArray), ([] : List ByteArray), ([] : List ByteArray), 0, ([] : List (S100)), (⟨#[]⟩ : ByteArray), 0, false)) else (if 0 ≤ x5 then (if x5 ≤ (x0.size : Int) then ((spec_RespRead.f k (x0.extract (x5 : Int).toNat x0.size)).bind fun bt1128 => ((spec_VaryOf.f k bt1128.2.1).bind fun t1134 => ((spec_ObjText.f k x1123000 t1134 x1123002 bt1128.1 bt1128.2.1 bt1128.2.2.1 x1123006).bind fun t1137 => (if t1137.toList = x0.toList then (some (x1123000, t1134, x1123002, bt1128.1, bt1128.2.1, bt1128.2.2.1, x1123006, true)) else (some ((⟨#[]⟩ : ByteArray), ([] : List ByteArray), ([] : List ByteArray), 0, ([] : List (S100)), (⟨#[]⟩ : ByteArray), 0, false)))))) else (none)) else (none))
def spec_ObjRead.l0 : Nat → ByteArray → Int → Int → Int → ByteArray → List ByteArray → Int → ByteArray → Int → Option (ByteArray × List ByteArray × List ByteArray × Int × (List (S100)) × ByteArray × Int × Bool)
 | 0, _, _, _, _, _, _, _, _, _ => none
 | k + 1, x0, x5, x9, x12, x1123000, x1123002, x1123003, x1123005, x1123006 => if x12 < x9 then (if x12 < 4 then (if x5 ≥ 0 then ((spec_l10Line.f k x0 x5).bind fun bt1123 => (if x1123002.length < 8796093022208 then (spec_ObjRead.l0 k x0 bt1123.2 x9 (wrap64 (x12 + 1)) x1123000 (x1123002 ++ [bt1123.1]) x1123003 x1123005 x1123006) else (none))) else (spec_ObjRead.j2 k x0 x5 x1123000 x1123002 x1123003 x1123005 x1123006)) else (spec_ObjRead.j2 k x0 x5 x1123000 x1123002 x1123003 x1123005 x1123006)) else (spec_ObjRead.j2 k x0 x5 x1123000 x1123002 x1123003 x1123005 x1123006)
end
def spec_ObjRead.f (k : Nat) (a0 : ByteArray) : Option (ByteArray × List ByteArray × List ByteArray × Int × (List (S100)) × ByteArray × Int × Bool) := (spec_l10Line.f k a0 0).bind fun bt1110 => ((spec_l3Words.f k bt1110.1).bind fun t1112 => (if bt1110.2 < 0 then (spec_ObjRead.j0 k a0 bt1110.2 t1112 true) else (spec_ObjRead.j0 k a0 bt1110.2 t1112 ((t1112.length : Int) != 4))))
theorem spec_ObjRead.mono_l : ∀ k, (∀ y0 y1 y2 y3, LeO (spec_ObjRead.j0 k y0 y1 y2 y3) (spec_ObjRead.j0 (k + 1) y0 y1 y2 y3)) ∧ (∀ y0 y1 y2 y3 y4 y5 y6, LeO (spec_ObjRead.j2 k y0 y1 y2 y3 y4 y5 y6) (spec_ObjRead.j2 (k + 1) y0 y1 y2 y3 y4 y5 y6)) ∧ (∀ y0 y1 y2 y3 y4 y5 y6 y7 y8, LeO (spec_ObjRead.l0 k y0 y1 y2 y3 y4 y5 y6 y7 y8) (spec_ObjRead.l0 (k + 1) y0 y1 y2 y3 y4 y5 y6 y7 y8))
 | 0 => ⟨fun _ _ _ _ r h => by simp [spec_ObjRead.j0] at h, fun _ _ _ _ _ _ _ r h => by simp [spec_ObjRead.j2] at h, fun _ _ _ _ _ _ _ _ _ r h => by simp [spec_ObjRead.l0] at h⟩
 | k + 1 => by
  obtain ⟨ih0, ih1, ih2⟩ := spec_ObjRead.mono_l k
  refine ⟨?_, ?_, ?_⟩
  ·intro y0 y1 y2 y3
   unfold spec_ObjRead.j0
   have m0 := @spec_NumRead.mono
   have m1 := @spec_ObjText.mono
   have m2 := @spec_RespRead.mono
   have m3 := @spec_VaryOf.mono
   have m4 := @spec_l10Line.mono
   have m5 := @spec_l3Words.mono
   exact mo
  ·intro y0 y1 y2 y3 y4 y5 y6
   unfold spec_ObjRead.j2
   have m0 := @spec_NumRead.mono
   have m1 := @spec_ObjText.mono
   have m2 := @spec_RespRead.mono
   have m3 := @spec_VaryOf.mono
   have m4 := @spec_l10Line.mono
   have m5 := @spec_l3Words.mono
   exact mo
  ·intro y0 y1 y2 y3 y4 y5 y6 y7 y8
   unfold spec_ObjRead.l0
   have m0 := @spec_NumRead.mono
   have m1 := @spec_ObjText.mono
   have m2 := @spec_RespRead.mono
   have m3 := @spec_VaryOf.mono
   have m4 := @spec_l10Line.mono
   have m5 := @spec_l3Words.mono
   exact mo
theorem spec_ObjRead.mono : ∀ a0 k, LeO (spec_ObjRead.f k a0) (spec_ObjRead.f (k + 1) a0) := by
 intro a0 k
 obtain ⟨ih0, ih1, ih2⟩ := spec_ObjRead.mono_l k
 unfold spec_ObjRead.f
 have m0 := @spec_NumRead.mono
 have m1 := @spec_ObjText.mono
 have m2 := @spec_RespRead.mono
 have m3 := @spec_VaryOf.mono
 have m4 := @spec_l10Line.mono
 have m5 := @spec_l3Words.mono
 exact mo
set_option maxHeartbeats 8000000 in
set_option maxRecDepth 100000 in
theorem spec_ObjRead.calls (k : Nat) (a0 : ByteArray) (r1 : ByteArray) (r2 : List ByteArray) (r3 : List ByteArray) (r4 : Int) (r5 : List (S100)) (r6 : ByteArray) (r7 : Int) (r8 : Bool) (w : World) (h : spec_ObjRead.f k a0 = some (r1, r2, r3, r4, r5, r6, r7, r8)) :
  Calls Tryz.prog 51 #[.string a0] w fun e w' => ∃ v1_ v2_ v4_ : Value, e = .returned (.tuple #[.agg #[.string r1, v1_, v2_, .int .i64 r4, v4_, .string r6, .int .i64 r7], .bool r8]) ∧ Kd.R Kd.string 9 w' w.heap.size (fun k_ => some k_ ≠ (v2_ : Value).ownBlock) v1_ r2 ∧ Kd.R Kd.string 9 w' w.heap.size (fun k_ => some k_ ≠ (v1_ : Value).ownBlock) v2_ r3 ∧ Kd.R k100 100 w' w.heap.size (fun _ => True) v4_ r5 ∧ Below w.heap.size w w' := by
 have hu71 := Tryz.underlying71
 have hu48 := Tryz.underlying48
 have HB := am (Below.refl w.heap.size w)
 unfold spec_ObjRead.f at h
 have H := h
 clear h
 revert H
 refine ok2 fun t1110 t1111 A2 H => ?_
 (try dsimp only at H)
 revert H
 refine ok1 fun t1112 A3 H => ?_
 have HC4 := am H
 clear H
 go_enter Tryz.func51, Tryz.ntmps51
 go_upto_region 3 with (first | ((with_reducible refine gate_dst (N := 2) rfl ?_); (try (refine gate_guard (by rfl) ?_; dsimp only)); refine box_event ?hg (N := 2) ?hd (cs := #[.string (⟨#[]⟩ : ByteArray), .slice none 0 0, .slice none 0 0, .int .i64 0, .slice none 0 0, .string (⟨#[]⟩ : ByteArray), .int .i64 0]) (t := 71) ?hr ?_; (case hd => rfl); (case hg => rfl); (case hr => first | (go_simp; done) | (go_simp; rfl)); intro gb1109 hg w5 hbox hb; have BK1109 := am (hbox); have GW1109 := am (sz hg : w.heap.size ≤ gb1109); have GE1109 := am (sz hg : w.heap.size ≤ gb1109); replace HB := am (below_step bl hb); clear hb hbox hg) | (refine gl 17 Tryz.func102 #[.string a0, .int .i64 0] ?_; (with_reducible refine (spec_l10Line.calls k a0 0 t1110 t1111 _ A2.out).mono ?_); rintro e w' ⟨rfl, ⟨nd, rfl⟩⟩; refine ⟨_, rfl, ?_⟩) | (refine gl 21 Tryz.func87 #[.string t1110] ?_; (with_reducible refine (spec_l3Words.calls k t1110 t1112 _ A3.out).mono ?_); rintro e w6 ⟨v1113, rfl, ho0, hb⟩; refine ⟨_, rfl, ?_⟩; have HO1114 := am (Kd.R_lower ho0 (below_size bl)); replace BK1109 := kb BK1109 hb; replace HB := am (below_step bl hb); clear hb ho0))
 (try simp only [Act.put, List.setIfInBounds_toArray, List.set_cons_zero, List.set_cons_succ])
 go_cut [28] (fun v28 wc => ∃ (kq : Nat) (x28_3 : Bool), v28 = .bool x28_3 ∧ Aside0 (spec_ObjRead.j0 kq a0 t1111 t1112 x28_3 = some (r1, r2, r3, r4, r5, r6, r7, r8)) ∧ Aside0 (kq ≤ k) ∧ Aside0 (Kd.R Kd.string 9 wc w.heap.size (fun _ => True) v1113 t1112) ∧ Aside0 (wc.heap[gb1109]? = some (.cells #[.string (⟨#[]⟩ : ByteArray), (.slice none 0 0), (.slice none 0 0), .int .i64 0, (.slice none 0 0), .string (⟨#[]⟩ : ByteArray), .int .i64 0] 71 (0, 0))) ∧ Aside0 (Below w.heap.size w wc))
 case first =>
  have H := HC4.out
  clear HC4
  by_cases c7 : t1111 < 0
  ·rw [if_pos c7] at H
   have c7b0 := decide_eq_true c7
   clear c7
   (first | rw [c7b0] | (simp only [i64_w, i32_w]; rw [c7b0]) | skip)
   have H' := am H
   clear H
   go_wp2
   go_meet
   case rel => exact ⟨_, (true), rs, H', ⟨by first | omega | exact Nat.le_refl _⟩, ⟨by (with_reducible repeat (first | apply Kd.R_alloc | apply Kd.R_drewN | apply Kd.R_drew)); exact HO1114.out⟩, ⟨by (with_reducible repeat (first | refine blk_drewN ?_ _ | refine blk_drew ?_ | refine blk_alloc ?_ _)); exact BK1109.out⟩, ⟨u51HB⟩⟩
  rw [if_neg c7] at H
  have c7b0 := decide_eq_false c7
  clear c7
  (first | rw [c7b0] | (simp only [i64_w, i32_w]; rw [c7b0]) | skip)
  have H' := am H
  clear H
  obtain ⟨Ao8, co8, eo8⟩ := Kd.R_slice HO1114.out
  subst eo8
  go_wp2
  go_meet
  case rel => exact ⟨_, (((t1112.length : Int) != 4)), rs, H', ⟨by first | omega | exact Nat.le_refl _⟩, ⟨by (with_reducible repeat (first | apply Kd.R_alloc | apply Kd.R_drewN | apply Kd.R_drew)); exact HO1114.out⟩, ⟨by (with_reducible repeat (first | refine blk_drewN ?_ _ | refine blk_drew ?_ | refine blk_alloc ?_ _)); exact BK1109.out⟩, ⟨u51HB⟩⟩
 case rest =>
  clear HC4
  try clear c1
  try clear p2
  try clear c5
  try clear c7
  try clear c7b0
  try clear c8
  obtain ⟨kq, x28_3, rfl, HA, HJ3, HO_6, BK1109, HB⟩ := hcut
  cases kq with
  | zero => exact absurd HA.out (by simp [spec_ObjRead.j0])
  | succ kj3 =>
   have H := HA.out
   clear HA
   simp only [spec_ObjRead.j0] at H
   by_cases c9 : x28_3 = true
   ·subst c9
    rw [if_pos rfl] at H
    simp only [Option.some.injEq, Prod.mk.injEq] at H
    obtain ⟨rfl, rfl, rfl, rfl, rfl, rfl, rfl, rfl⟩ := H
    obtain ⟨z10_0, y10_0, z10_1, y10_1, z10_2, y10_2, z10_3, y10_3, z10_4, y10_4, z10_5, y10_5, z10_6, y10_6⟩ := cl7 BK1109
    go_wp2
    refine bodyPost_ret (results_ct rfl _ _ gb1109 71 #[.string (⟨#[]⟩ : ByteArray), .slice none 0 0, .slice none 0 0, .int .i64 0, .slice none 0 0, .string (⟨#[]⟩ : ByteArray), .int .i64 0] (0, 0) _ rfl (pt0 BK1109) Tryz.underlying71 rfl (by kernel_rfl)) rfl ?_
    exact ⟨_, _, _, rf, by first | exact Kd.R_nil _ _ _ _ _ | exact Kd.N_nil _ _ _ _ _ | exact Kd.V_nil _ _ _ _ _ | exact Kd.Q_nil _ _ _ _ _ | exact Kd.S_nil _ _ _ _ _, by first | exact Kd.R_nil _ _ _ _ _ | exact Kd.N_nil _ _ _ _ _ | exact Kd.V_nil _ _ _ _ _ | exact Kd.Q_nil _ _ _ _ _ | exact Kd.S_nil _ _ _ _ _, by first | exact Kd.R_nil _ _ _ _ _ | exact Kd.N_nil _ _ _ _ _ | exact Kd.V_nil _ _ _ _ _ | exact Kd.Q_nil _ _ _ _ _ | exact Kd.S_nil _ _ _ _ _, bl⟩
   replace c9 := Bool.eq_false_iff.mpr c9
   subst c9
   rw [if_neg (show ¬ (false = true) by decide)] at H
   revert H
   refine ifn fun c11 H => ?_
   have c11b0 := decide_eq_true c11
   have c11b1 : decide (2 < t1112.length) = true := decide_eq_true (by omega)
   clear c11
   revert H
   refine ok2 fun t1116 t1117 A12 H => ?_
   (try dsimp only at H)
   revert H
   refine ifn fun c13 H => ?_
   have c13b0 := decide_eq_true c13
   have c13b1 : decide (3 < t1112.length) = true := decide_eq_true (by omega)
   clear c13
   revert H
   refine ok2 fun t1119 t1120 A14 H => ?_
   (try dsimp only at H)
   revert H
   refine ifn fun c15 H => ?_
   have c15b0 := decide_eq_true c15
   have c15b1 : decide (1 < t1112.length) = true := decide_eq_true (by omega)
   clear c15
   have HC16 := am H
   clear H
   obtain ⟨Ao17, co17, eo17⟩ := Kd.R_slice HO_6.out
   subst eo17
   have p1115 : 0 ≤ (2 : Int) := (by omega)
   have q1115 : 2 < (t1112.length : Int) := od
   obtain ⟨ad1115, e1115, hx1115_0⟩ := Kd.at_string (Kd.R_reads' HO_6.out).2.2 2 p1115 q1115
   cases e1115
   (try simp only [show (2 : Int).toNat = 2 from rfl, Nat.reduceMul, Nat.reduceEqDiff, Go.Addr.add, ↓reduceIte] at hx1115_0)
   have qi1115 : (2 < t1112.length) = True := eq_true (by omega)
   (try rw [show ((2 : Int)).toNat = 2 from rfl] at hx1115_0)
   replace p1115 := eq_true p1115
   replace q1115 := eq_true q1115
   go_upto_block 0 with (first | (refine gl 34 Tryz.func89 #[.string (rdOf ByteArray.empty t1112 2)] ?_; (with_reducible refine (spec_NumRead.calls kj3 (rdOf ByteArray.empty t1112 2) t1116 t1117 _ A12.out).mono ?_); rintro e w18 ⟨rfl, hb⟩; refine ⟨_, rfl, ?_⟩; replace HO_6 := kr HO_6 hb; replace BK1109 := kb BK1109 hb; replace HB := am (below_step bl hb); clear hb; have p1118 : 0 ≤ (3 : Int) := (by omega); have q1118 : 3 < (t1112.length : Int) := od; obtain ⟨ad1118, e1118, hx1118_0⟩ := Kd.at_string (Kd.R_reads' HO_6.out).2.2 3 p1118 q1118; obtain rfl : ad1115 = ad1118 := (by injection e1118); (try simp only [show (3 : Int).toNat = 3 from rfl, Nat.reduceMul, Nat.reduceEqDiff, Go.Addr.add, ↓reduceIte] at hx1118_0); have qi1118 : (3 < t1112.length) = True := eq_true (by omega); (try rw [show ((3 : Int)).toNat = 3 from rfl] at hx1118_0); replace p1118 := eq_true p1118; replace q1118 := eq_true q1118) | (refine gl 41 Tryz.func89 #[.string (rdOf ByteArray.empty t1112 3)] ?_; (with_reducible refine (spec_NumRead.calls kj3 (rdOf ByteArray.empty t1112 3) t1119 t1120 _ A14.out).mono ?_); rintro e w19 ⟨rfl, hb⟩; refine ⟨_, rfl, ?_⟩; replace HO_6 := kr HO_6 hb; replace BK1109 := kb BK1109 hb; replace HB := am (below_step bl hb); clear hb; have p1121 : 0 ≤ (1 : Int) := (by omega); have q1121 : 1 < (t1112.length : Int) := od; obtain ⟨ad1121, e1121, hx1121_0⟩ := Kd.at_string (Kd.R_reads' HO_6.out).2.2 1 p1121 q1121; obtain rfl : ad1115 = ad1121 := (by injection e1121); (try simp only [show (1 : Int).toNat = 1 from rfl, Nat.reduceMul, Nat.reduceEqDiff, Go.Addr.add, ↓reduceIte] at hx1121_0); have qi1121 : (1 < t1112.length) = True := eq_true (by omega); (try rw [show ((1 : Int)).toNat = 1 from rfl] at hx1121_0); replace p1121 := eq_true p1121; replace q1121 := eq_true q1121) | ((with_reducible refine gate_dst (N := 11) rfl ?_); (try (refine gate_guard (by rfl) ?_; dsimp only)); refine box_event ?hg (N := 11) ?hd (cs := #[.string (⟨#[]⟩ : ByteArray), .slice none 0 0, .slice none 0 0, .int .i64 0, .slice none 0 0, .string (⟨#[]⟩ : ByteArray), .int .i64 0]) (t := 71) ?hr ?_; (case hd => rfl); (case hg => rfl); (case hr => first | (go_simp; done) | (go_simp; rfl)); intro gb1122 hg w20 hbox hb; replace HO_6 := am (Kd.R_below (ro HO_6) hb); have BK1122 := am (hbox); have GW1122 := am (sz hg : w.heap.size ≤ gb1122); have GE1122 := am (sz hg : w.heap.size ≤ gb1122); replace HB := am (below_step bl hb); have NB1109_1122 := am (nl hg BK1109 : gb1109 ≠ gb1122); have NB1122_1109 := am (ng hg BK1109 : gb1122 ≠ gb1109); replace BK1109 := kb BK1109 hb; clear hb hbox hg; have hnb21 := NB1122_1109.out; have hnc21 := NB1109_1122.out; obtain ⟨z22_0, y22_0, z22_1, y22_1, z22_2, y22_2, z22_3, y22_3, z22_4, y22_4, z22_5, y22_5, z22_6, y22_6⟩ := cl7 BK1122))
   (try simp only [Act.put, List.setIfInBounds_toArray, List.set_cons_zero, List.set_cons_succ])
   go_cut [5] (fun v5 wc => ∃ (kq : Nat) (x5_15 : Int) (x1123002_15 : List ByteArray) (u1123002 : Value), v5 = .int .i64 x5_15 ∧ Aside0 (spec_ObjRead.j2 kq a0 x5_15 (rdOf ByteArray.empty t1112 1) x1123002_15 0 (⟨#[]⟩ : ByteArray) t1116 = some (r1, r2, r3, r4, r5, r6, r7, r8)) ∧ Aside0 (kq ≤ kj3) ∧ Aside0 (Kd.R Kd.string 9 wc w.heap.size (fun _ => True) u1123002 x1123002_15) ∧ Aside0 (wc.heap[gb1109]? = some (.cells #[.string (⟨#[]⟩ : ByteArray), (.slice none 0 0), (.slice none 0 0), .int .i64 0, (.slice none 0 0), .string (⟨#[]⟩ : ByteArray), .int .i64 0] 71 (0, 0))) ∧ Aside0 (wc.heap[gb1122]? = some (.cells #[.string (rdOf ByteArray.empty t1112 1), (.slice none 0 0), u1123002, .int .i64 0, (.slice none 0 0), .string (⟨#[]⟩ : ByteArray), .int .i64 t1116] 71 (0, 0))) ∧ Aside0 (Below w.heap.size w wc))
   case first =>
    have H := HC16.out
    clear HC16
    have H' := am H
    clear H
    go_wp2
    (try simp only [Act.put, List.setIfInBounds_toArray, List.set_cons_zero, List.set_cons_succ])
    go_loopg [5, 12] kj3 (fun kq v5 v12 w' => ∃ (x5_2 : Int) (x12_2 : Int) (x1123002_2 : List ByteArray) (u1123002 : Value), v5 = .int .i64 x5_2 ∧ v12 = .int .i64 x12_2 ∧ Aside0 (spec_ObjRead.l0 kq a0 x5_2 t1119 x12_2 (rdOf ByteArray.empty t1112 1) x1123002_2 0 (⟨#[]⟩ : ByteArray) t1116 = some (r1, r2, r3, r4, r5, r6, r7, r8)) ∧ Aside0 (kq ≤ kj3) ∧ Aside0 (Kd.R Kd.string 9 w' w.heap.size (fun _ => True) u1123002 x1123002_2) ∧ Aside0 (w'.heap[gb1109]? = some (.cells #[.string (⟨#[]⟩ : ByteArray), (.slice none 0 0), (.slice none 0 0), .int .i64 0, (.slice none 0 0), .string (⟨#[]⟩ : ByteArray), .int .i64 0] 71 (0, 0))) ∧ Aside0 (w'.heap[gb1122]? = some (.cells #[.string (rdOf ByteArray.empty t1112 1), (.slice none 0 0), u1123002, .int .i64 0, (.slice none 0 0), .string (⟨#[]⟩ : ByteArray), .int .i64 t1116] 71 (0, 0))) ∧ Aside0 (Below w.heap.size w w'))
    case atStart => exact ⟨(t1111), (0), (([] : List ByteArray)), (.slice none 0 0), rs, rs, H', ⟨Nat.le_refl _⟩, ⟨by first | exact Kd.R_nil _ _ _ _ _ | exact Kd.N_nil _ _ _ _ _ | exact Kd.V_nil _ _ _ _ _ | exact Kd.Q_nil _ _ _ _ _ | exact Kd.S_nil _ _ _ _ _⟩, ⟨by (with_reducible repeat (first | refine blk_drewN ?_ _ | refine blk_drew ?_ | refine blk_alloc ?_ _)); refine blk_far ?_ NB1109_1122.out _; (with_reducible repeat (first | refine blk_drewN ?_ _ | refine blk_drew ?_ | refine blk_alloc ?_ _)); refine blk_far ?_ NB1109_1122.out _; (with_reducible repeat (first | refine blk_drewN ?_ _ | refine blk_drew ?_ | refine blk_alloc ?_ _)); refine blk_far ?_ NB1109_1122.out _; (with_reducible repeat (first | refine blk_drewN ?_ _ | refine blk_drew ?_ | refine blk_alloc ?_ _)); refine blk_far ?_ NB1109_1122.out _; (with_reducible repeat (first | refine blk_drewN ?_ _ | refine blk_drew ?_ | refine blk_alloc ?_ _)); refine blk_far ?_ NB1109_1122.out _; (with_reducible repeat (first | refine blk_drewN ?_ _ | refine blk_drew ?_ | refine blk_alloc ?_ _)); refine blk_far ?_ NB1109_1122.out _; (with_reducible repeat (first | refine blk_drewN ?_ _ | refine blk_drew ?_ | refine blk_alloc ?_ _)); refine blk_far ?_ NB1109_1122.out _; (with_reducible repeat (first | refine blk_drewN ?_ _ | refine blk_drew ?_ | refine blk_alloc ?_ _)); exact BK1109.out⟩, ⟨pt0 BK1122⟩, ⟨u51HB⟩⟩
    case round =>
     clear H'
     try clear c1
     try clear p1
     try clear q1
     try clear hx1
     try clear qi1
     try clear c2
     try clear p2
     try clear c5
     try clear c7
     try clear c7b0
     try clear c8
     try clear c9
     try clear c10
     try clear c11
     try clear c11b0
     try clear c11b1
     try clear p11
     try clear q11
     try clear hx11
     try clear qi11
     try clear c13
     try clear c13b0
     try clear c13b1
     try clear c15
     try clear c15b0
     try clear c15b1
     try clear c21
     try clear z10_0
     try clear z10_1
     try clear z10_2
     try clear z10_3
     try clear z10_4
     try clear z10_5
     try clear z10_6
     try clear z22_0
     try clear z22_1
     try clear z22_2
     try clear z22_3
     try clear z22_4
     try clear z22_5
     try clear z22_6
     try clear y10_0
     try clear y10_1
     try clear y10_2
     try clear y10_3
     try clear y10_4
     try clear y10_5
     try clear y10_6
     try clear y22_0
     try clear y22_1
     try clear y22_2
     try clear y22_3
     try clear y22_4
     try clear y22_5
     try clear y22_6
     try clear hx1115_0
     try clear hx1118_0
     try clear hx1121_0
     try clear p1115
     try clear p1118
     try clear p1121
     try clear p2
     try clear q1115
     try clear q1118
     try clear q1121
     obtain ⟨x5_2, x12_2, x1123002_2, u1123002, rfl, rfl, HA, HK2, HO_1123002, BK1109, BK1122, HB⟩ := hrel
     cases gk with
     | zero => exact absurd HA.out (by simp [spec_ObjRead.l0])
     | succ k2 =>
      have H := HA.out
      clear HA
      simp only [spec_ObjRead.l0] at H
      by_cases c23 : x12_2 < t1119
      rotate_left
      ·rw [if_neg c23] at H
       have c23b0 := decide_eq_false c23
       clear c23
       (first | rw [c23b0] | (simp only [i64_w, i32_w]; rw [c23b0]) | skip)
       have H' := am H
       clear H
       go_wp2
       go_meet
       case rel => exact ⟨_, (x5_2), (x1123002_2), (u1123002), rs, H', ⟨by have := HJ3.out; have := HK2.out; first | omega | exact Nat.le_refl _⟩, ⟨by (with_reducible repeat (first | apply Kd.R_alloc | apply Kd.R_drewN | apply Kd.R_drew)); exact HO_1123002.out⟩, ⟨by (with_reducible repeat (first | refine blk_drewN ?_ _ | refine blk_drew ?_ | refine blk_alloc ?_ _)); exact BK1109.out⟩, ⟨by (with_reducible repeat (first | refine blk_drewN ?_ _ | refine blk_drew ?_ | refine blk_alloc ?_ _)); exact BK1122.out⟩, ⟨u51HB⟩⟩
      rw [if_pos c23] at H
      have c23b0 := decide_eq_true c23
      clear c23
      (first | rw [c23b0] | (simp only [i64_w, i32_w]; rw [c23b0]) | skip)
      by_cases c24 : x12_2 < 4
      rotate_left
      ·rw [if_neg c24] at H
       have c24b0 := decide_eq_false c24
       clear c24
       have H' := am H
       clear H
       go_wp2
       go_meet
       case rel => exact ⟨_, (x5_2), (x1123002_2), (u1123002), rs, H', ⟨by have := HJ3.out; have := HK2.out; first | omega | exact Nat.le_refl _⟩, ⟨by (with_reducible repeat (first | apply Kd.R_alloc | apply Kd.R_drewN | apply Kd.R_drew)); exact HO_1123002.out⟩, ⟨by (with_reducible repeat (first | refine blk_drewN ?_ _ | refine blk_drew ?_ | refine blk_alloc ?_ _)); exact BK1109.out⟩, ⟨by (with_reducible repeat (first | refine blk_drewN ?_ _ | refine blk_drew ?_ | refine blk_alloc ?_ _)); exact BK1122.out⟩, ⟨u51HB⟩⟩
      rw [if_pos c24] at H
      have c24b0 := decide_eq_true c24
      clear c24
      by_cases c25 : x5_2 ≥ 0
      rotate_left
      ·rw [if_neg c25] at H
       have c25b0 := decide_eq_false c25
       clear c25
       have H' := am H
       clear H
       go_wp2
       go_meet
       case rel => exact ⟨_, (x5_2), (x1123002_2), (u1123002), rs, H', ⟨by have := HJ3.out; have := HK2.out; first | omega | exact Nat.le_refl _⟩, ⟨by (with_reducible repeat (first | apply Kd.R_alloc | apply Kd.R_drewN | apply Kd.R_drew)); exact HO_1123002.out⟩, ⟨by (with_reducible repeat (first | refine blk_drewN ?_ _ | refine blk_drew ?_ | refine blk_alloc ?_ _)); exact BK1109.out⟩, ⟨by (with_reducible repeat (first | refine blk_drewN ?_ _ | refine blk_drew ?_ | refine blk_alloc ?_ _)); exact BK1122.out⟩, ⟨u51HB⟩⟩
      rw [if_pos c25] at H
      have c25b0 := decide_eq_true c25
      clear c25
      revert H
      refine ok2 fun t1123 t1124 A26 H => ?_
      (try dsimp only at H)
      revert H
      refine ifn fun c27 H => ?_
      have LMc27 := am c27
      clear c27
      obtain ⟨y1125, hy1125⟩ : ∃ y_ : List ByteArray, y_ = (x1123002_2 ++ [t1123]) := ⟨_, rfl⟩
      replace H : (spec_ObjRead.l0 k2 a0 t1124 t1119 (wrap64 (x12_2 + 1)) (rdOf ByteArray.empty t1112 1) y1125 0 (⟨#[]⟩ : ByteArray) t1116) = some (r1, r2, r3, r4, r5, r6, r7, r8) := by first | (rw [hy1125]; with_reducible exact H) | (have H2_ := (Option.bind_some _ _).symm.trans H; rw [hy1125]; with_reducible exact H2_) | (have H2_ := (Option.bind_some _ _).symm.trans H; with_reducible exact H2_) | with_reducible exact H | (rw [hy1125]; exact H) | exact H
      have Ny1125 := am hy1125
      clear hy1125
      have H' := am H
      clear H
      go_wp2_with (first | (refine gl 65 Tryz.func102 #[.string a0, .int .i64 x5_2] ?_; (with_reducible refine (spec_l10Line.calls k2 a0 x5_2 t1123 t1124 _ A26.out).mono ?_); rintro e w' ⟨rfl, ⟨nd, rfl⟩⟩; refine ⟨_, rfl, ?_⟩; (try (rw [drewN_self wr]; generalize hq_ : World.drewN wr _ = wr; have n0_ : Aside0 (Kd.R Kd.string 9 wr w.heap.size (fun _ => True) u1123002 x1123002_2) := ⟨by rw [← hq_]; exact (ro HO_1123002)⟩; have n1_ : Aside0 (wr.heap[gb1109]? = some (.cells #[.string (⟨#[]⟩ : ByteArray), .slice none 0 0, .slice none 0 0, .int .i64 0, .slice none 0 0, .string (⟨#[]⟩ : ByteArray), .int .i64 0] 71 (0, 0))) := ⟨by rw [← hq_]; exact (bk BK1109)⟩; have n2_ : Aside0 (wr.heap[gb1122]? = some (.cells #[.string (rdOf ByteArray.empty t1112 1), .slice none 0 0, u1123002, .int .i64 0, .slice none 0 0, .string (⟨#[]⟩ : ByteArray), .int .i64 t1116] 71 (0, 0))) := ⟨by rw [← hq_]; exact (bk BK1122)⟩; have n3_ : Aside0 (Below w.heap.size w wr) := ⟨by rw [← hq_]; exact bl⟩; clear HO_1123002 BK1109 BK1122 HB hq_; have HO_1123002 := n0_; have BK1109 := n1_; have BK1122 := n2_; have HB := n3_; clear n0_ n1_ n2_ n3_)); have hnb28 := NB1122_1109.out; have hnc28 := NB1109_1122.out; obtain ⟨z29_0, y29_0, z29_1, y29_1, z29_2, y29_2, z29_3, y29_3, z29_4, y29_4, z29_5, y29_5, z29_6, y29_6⟩ := cl7 BK1122) | ((with_reducible refine gate_builtin (b := .append) (xs := #[.tmp 69, .tmp 71]) rfl ?_); (try (refine gate_guard (by rfl) ?_; dsimp only)); at_builtin; refine Kd.R_append Kd.string (w0 := w) w.heap.size rfl (.tmp 69) (.tmp 71) 35 9 (.string ⟨#[]⟩) 16 rfl Tryz.underlying35 info9 rfl (by decide) (by omega) u1123002 x1123002_2 t1123 [.string t1123] (fun _ => True) (fun _ => False) rfl rfl ?aP (fun _ hk => hk.elim) ?aF ?aO ?aB ?aS ?aL ?_; (case aP => exact rfl); (case aB => exact bl); (case aF => exact (fun _ _ => trivial)); (case aO => exact (ro HO_1123002)); (case aS => exact (below_size bl)); (case aL => have := LMc27.out; omega); intro v1126 w30 ho hb hg hat; rw [← Ny1125.out] at ho; have n0_ := am (blk_grown (g := gb1109) (o := .cells #[.string (⟨#[]⟩ : ByteArray), .slice none 0 0, .slice none 0 0, .int .i64 0, .slice none 0 0, .string (⟨#[]⟩ : ByteArray), .int .i64 0] 71 (0, 0)) (bk BK1109) hg (Kd.R_ne HO_1123002.out BK1109.out (by decide))); have n1_ := am (blk_grown (g := gb1122) (o := .cells #[.string (rdOf ByteArray.empty t1112 1), .slice none 0 0, u1123002, .int .i64 0, .slice none 0 0, .string (⟨#[]⟩ : ByteArray), .int .i64 t1116] 71 (0, 0)) (bk BK1122) hg (Kd.R_ne HO_1123002.out BK1122.out (by decide))); have n2_ := am (hb); have n3_ := am (ho); clear BK1109; clear BK1122; clear HB; clear HO_1123002; have BK1109 := n0_; have BK1122 := n1_; have HB := n2_; have HO1127 := n3_; clear n0_ n1_ n2_ n3_; clear ho hb hg hat; obtain ⟨Ao31, co31, eo31⟩ := Kd.R_slice HO1127.out; subst eo31; obtain ⟨z32_0, y32_0, z32_1, y32_1, z32_2, y32_2, z32_3, y32_3, z32_4, y32_4, z32_5, y32_5, z32_6, y32_6⟩ := cl7 BK1122))
      go_roundg k2
      case measure => have := HJ3.out; have := HK2.out; omega
      case rel => exact ⟨(t1124), (wrap64 (x12_2 + 1)), (y1125), (.slice Ao31 y1125.length co31), rs, rs, H', ⟨by have := HJ3.out; have := HK2.out; omega⟩, ⟨rg (Kd.R_types HO1127.out BK1122.out (by decide))⟩, ⟨by (with_reducible repeat (first | refine blk_drewN ?_ _ | refine blk_drew ?_ | refine blk_alloc ?_ _)); refine blk_far ?_ NB1109_1122.out _; (with_reducible repeat (first | refine blk_drewN ?_ _ | refine blk_drew ?_ | refine blk_alloc ?_ _)); exact BK1109.out⟩, ⟨pt0 BK1122⟩, ⟨u51HB⟩⟩
   case rest =>
    clear HC16
    try clear c1
    try clear p1
    try clear q1
    try clear hx1
    try clear qi1
    try clear c2
    try clear p2
    try clear c5
    try clear p6
    try clear c7
    try clear c7b0
    try clear c8
    try clear c9
    try clear c10
    try clear c11
    try clear c11b0
    try clear c11b1
    try clear p11
    try clear q11
    try clear hx11
    try clear qi11
    try clear c13
    try clear c13b0
    try clear c13b1
    try clear c15
    try clear c15b0
    try clear c15b1
    try clear c21
    try clear c23
    try clear c23b0
    try clear c24
    try clear c24b0
    try clear c25
    try clear c25b0
    try clear c27
    try clear c28
    try clear z10_0
    try clear z10_1
    try clear z10_2
    try clear z10_3
    try clear z10_4
    try clear z10_5
    try clear z10_6
    try clear z22_0
    try clear z22_1
    try clear z22_2
    try clear z22_3
    try clear z22_4
    try clear z22_5
    try clear z22_6
    try clear z29_0
    try clear z29_1
    try clear z29_2
    try clear z29_3
    try clear z29_4
    try clear z29_5
    try clear z29_6
    try clear z32_0
    try clear z32_1
    try clear z32_2
    try clear z32_3
    try clear z32_4
    try clear z32_5
    try clear z32_6
    try clear y10_0
    try clear y10_1
    try clear y10_2
    try clear y10_3
    try clear y10_4
    try clear y10_5
    try clear y10_6
    try clear y22_0
    try clear y22_1
    try clear y22_2
    try clear y22_3
    try clear y22_4
    try clear y22_5
    try clear y22_6
    try clear y29_0
    try clear y29_1
    try clear y29_2
    try clear y29_3
    try clear y29_4
    try clear y29_5
    try clear y29_6
    try clear y32_0
    try clear y32_1
    try clear y32_2
    try clear y32_3
    try clear y32_4
    try clear y32_5
    try clear y32_6
    try clear hx1115_0
    try clear hx1118_0
    try clear hx1121_0
    try clear p1
    try clear p11
    try clear p1115
    try clear p1118
    try clear p1121
    try clear p2
    try clear q1
    try clear q11
    try clear q1115
    try clear q1118
    try clear q1121
    obtain ⟨kq, x5_15, x1123002_15, u1123002, rfl, HA, HJ15, HO_1123002, BK1109, BK1122, HB⟩ := hcut
    cases kq with
    | zero => exact absurd HA.out (by simp [spec_ObjRead.j2])
    | succ kj15 =>
     have H := HA.out
     clear HA
     simp only [spec_ObjRead.j2] at H
     by_cases c33 : x5_15 < 0
     ·rw [if_pos c33] at H
      have c33b0 := decide_eq_true c33
      clear c33
      simp only [Option.some.injEq, Prod.mk.injEq] at H
      obtain ⟨rfl, rfl, rfl, rfl, rfl, rfl, rfl, rfl⟩ := H
      have hnb34 := NB1109_1122.out
      have hnc34 := NB1122_1109.out
      obtain ⟨z35_0, y35_0, z35_1, y35_1, z35_2, y35_2, z35_3, y35_3, z35_4, y35_4, z35_5, y35_5, z35_6, y35_6⟩ := cl7 BK1109
      go_wp2
      refine bodyPost_ret (results_ct rfl _ _ gb1109 71 #[.string (⟨#[]⟩ : ByteArray), .slice none 0 0, .slice none 0 0, .int .i64 0, .slice none 0 0, .string (⟨#[]⟩ : ByteArray), .int .i64 0] (0, 0) _ rfl (pt0 BK1109) Tryz.underlying71 rfl (by kernel_rfl)) rfl ?_
      exact ⟨_, _, _, rf, by first | exact Kd.R_nil _ _ _ _ _ | exact Kd.N_nil _ _ _ _ _ | exact Kd.V_nil _ _ _ _ _ | exact Kd.Q_nil _ _ _ _ _ | exact Kd.S_nil _ _ _ _ _, by first | exact Kd.R_nil _ _ _ _ _ | exact Kd.N_nil _ _ _ _ _ | exact Kd.V_nil _ _ _ _ _ | exact Kd.Q_nil _ _ _ _ _ | exact Kd.S_nil _ _ _ _ _, by first | exact Kd.R_nil _ _ _ _ _ | exact Kd.N_nil _ _ _ _ _ | exact Kd.V_nil _ _ _ _ _ | exact Kd.Q_nil _ _ _ _ _ | exact Kd.S_nil _ _ _ _ _, bl⟩
     rw [if_neg c33] at H
     have c33b0 := decide_eq_false c33
     clear c33
     revert H
     refine ifn fun c36 H => ?_
     have c36b0 := eq_true c36
     have c36b1 := decide_eq_true c36
     clear c36
     revert H
     refine ifn fun c37 H => ?_
     have c37b0 := eq_true c37
     have c37b1 := decide_eq_true c37
     clear c37
     revert H
     refine ok4 fun t1128 t1129 t1132 t1133 A38 H => ?_
     (try dsimp only at H)
     revert H
     refine ok1 fun t1134 A39 H => ?_
     revert H
     refine ok1 fun t1137 A40 H => ?_
     by_cases c41 : t1137.toList = a0.toList
     ·rw [if_pos c41] at H
      have c41b0 : (t1137.toList == a0.toList) = true := beq_iff_eq.mpr c41
      have c41b1 : (t1137.toList != a0.toList) = false := bne_eq_false_iff_eq.mpr c41
      clear c41
      simp only [Option.some.injEq, Prod.mk.injEq] at H
      obtain ⟨rfl, rfl, rfl, rfl, rfl, rfl, rfl, rfl⟩ := H
      go_wp2_with (first | (refine gl 82 Tryz.func27 #[.string (a0.extract (x5_15 : Int).toNat a0.size)] ?_; (with_reducible refine (spec_RespRead.calls kj15 (a0.extract (x5_15 : Int).toNat a0.size) t1128 t1129 t1132 t1133 _ A38.out).mono ?_); rintro e w42 ⟨v1130, rfl, ho0, hb⟩; refine ⟨_, rfl, ?_⟩; replace HO_1123002 := kr HO_1123002 hb; have HO1131 := am (Kd.R_lower ho0 (below_size bl)); replace BK1109 := kb BK1109 hb; replace BK1122 := kb BK1122 hb; replace HB := am (below_step bl hb); clear hb ho0; have hnb43 := NB1122_1109.out; have hnc43 := NB1109_1122.out; obtain ⟨z44_0, y44_0, z44_1, y44_1, z44_2, y44_2, z44_3, y44_3, z44_4, y44_4, z44_5, y44_5, z44_6, y44_6⟩ := cl7 BK1122; obtain ⟨Ao45, co45, eo45⟩ := Kd.R_slice HO1131.out; subst eo45) | (refine gl 89 Tryz.func103 #[.slice Ao45 t1129.length co45] ?_; (with_reducible refine (spec_VaryOf.calls kj15 _ _ t1129 t1134 _ ?side1 ?side2 A39.out).mono ?_); (case side1 => refine (Kd.R_reads' (e := 100) (base := w.heap.size) (ok := fun k_ => True) (n := t1129.length) (c := co45) ?_).2.2; exact (by (with_reducible repeat (first | apply Kd.R_alloc | apply Kd.R_drewN | apply Kd.R_drew)); exact (Kd.R_mono (Kd.R_far (p := ⟨gb1122, 5, none⟩) (Kd.R_far (p := ⟨gb1122, 4, none⟩) (Kd.R_far (p := ⟨gb1122, 3, none⟩) (Kd.R_types HO1131.out BK1122.out (by decide)) (fun _ hk => hk.2) (.int .i64 t1128)) (fun _ hk => hk.2) (.slice Ao45 t1129.length co45)) (fun _ hk => hk.2) (.string t1132)) (fun _ h_ => h_.1)))); (case side2 => exact (Kd.R_reads' HO1131.out).2.1); rintro e w46 ⟨v1135, rfl, ho0, hb⟩; refine ⟨_, rfl, ?_⟩; have n0_ := am (Kd.R_elder' (by (with_reducible repeat (first | apply Kd.R_alloc | apply Kd.R_drewN | apply Kd.R_drew)); exact (Kd.R_mono (Kd.R_far (p := ⟨gb1122, 5, none⟩) (Kd.R_far (p := ⟨gb1122, 4, none⟩) (Kd.R_far (p := ⟨gb1122, 3, none⟩) (Kd.R_types HO_1123002.out BK1122.out (by decide)) (fun _ hk => hk.2) (.int .i64 t1128)) (fun _ hk => hk.2) (.slice Ao45 t1129.length co45)) (fun _ hk => hk.2) (.string t1132)) (fun _ h_ => h_.1))) (Kd.R_base ho0) hb); have n1_ := am (Kd.R_below (by (with_reducible repeat (first | apply Kd.R_alloc | apply Kd.R_drewN | apply Kd.R_drew)); exact (Kd.R_mono (Kd.R_far (p := ⟨gb1122, 5, none⟩) (Kd.R_far (p := ⟨gb1122, 4, none⟩) (Kd.R_far (p := ⟨gb1122, 3, none⟩) (Kd.R_types HO1131.out BK1122.out (by decide)) (fun _ hk => hk.2) (.int .i64 t1128)) (fun _ hk => hk.2) (.slice Ao45 t1129.length co45)) (fun _ hk => hk.2) (.string t1132)) (fun _ h_ => h_.1))) hb); have n2_ := am (Kd.R_lower (Kd.R_new' ho0 (Kd.R_lt (by (with_reducible repeat (first | apply Kd.R_alloc | apply Kd.R_drewN | apply Kd.R_drew)); exact (Kd.R_mono (Kd.R_far (p := ⟨gb1122, 5, none⟩) (Kd.R_far (p := ⟨gb1122, 4, none⟩) (Kd.R_far (p := ⟨gb1122, 3, none⟩) (Kd.R_types HO_1123002.out BK1122.out (by decide)) (fun _ hk => hk.2) (.int .i64 t1128)) (fun _ hk => hk.2) (.slice Ao45 t1129.length co45)) (fun _ hk => hk.2) (.string t1132)) (fun _ h_ => h_.1))))) (below_size bl)); have n3_ := kg1 BK1109 NB1109_1122 hb; have n4_ := am (blk_below (g := gb1122) (o := .cells #[.string (rdOf ByteArray.empty t1112 1), .slice none 0 0, u1123002, .int .i64 t1128, .slice Ao45 t1129.length co45, .string t1132, .int .i64 t1116] 71 (0, 0)) (pt0 BK1122) hb); have n5_ := am (below_step bl hb); clear HO_1123002; clear HO1131; clear BK1109; clear BK1122; clear HB; have HO_1123002 := n0_; have HO1131 := n1_; have HO1136 := n2_; have BK1109 := n3_; have BK1122 := n4_; have HB := n5_; clear n0_ n1_ n2_ n3_ n4_ n5_; clear hb ho0; obtain ⟨Ao47, co47, eo47⟩ := Kd.R_slice HO1136.out; subst eo47; obtain ⟨z48_0, y48_0, z48_1, y48_1, z48_2, y48_2, z48_3, y48_3, z48_4, y48_4, z48_5, y48_5, z48_6, y48_6⟩ := cl7 BK1122; obtain ⟨Ao49, co49, eo49⟩ := Kd.R_slice HO_1123002.out; subst eo49) | (refine gl 92 Tryz.func58 #[.agg #[.string (rdOf ByteArray.empty t1112 1), .slice Ao47 t1134.length co47, .slice Ao49 x1123002_15.length co49, .int .i64 t1128, .slice Ao45 t1129.length co45, .string t1132, .int .i64 t1116]] ?_; (with_reducible refine (spec_ObjText.calls kj15 (rdOf ByteArray.empty t1112 1) _ _ t1134 _ _ x1123002_15 t1128 _ _ t1129 t1132 t1116 t1137 _ ?side1 ?side2 ?side3 ?side4 ?side5 ?side6 A40.out).mono ?_); (case side1 => refine (Kd.R_reads' (e := 9) (base := w.heap.size) (ok := fun k_ => (True ∧ some k_ ≠ (.slice Ao49 x1123002_15.length co49 : Value).ownBlock)) (n := t1134.length) (c := co47) ?_).2.2; exact (by (with_reducible repeat (first | apply Kd.R_alloc | apply Kd.R_drewN | apply Kd.R_drew)); exact (Kd.R_mono (Kd.R_far (p := ⟨gb1122, 1, none⟩) (Kd.R_types HO1136.out BK1122.out (by decide)) (fun _ hk => hk.2) (.slice Ao47 t1134.length co47)) (fun _ h_ => h_.1)))); (case side2 => exact (Kd.R_reads' HO1136.out).2.1); (case side3 => refine (Kd.R_reads' (e := 9) (base := w.heap.size) (ok := fun k_ => (True ∧ some k_ ≠ (.slice Ao47 t1134.length co47 : Value).ownBlock)) (n := x1123002_15.length) (c := co49) ?_).2.2; exact (by (with_reducible repeat (first | apply Kd.R_alloc | apply Kd.R_drewN | apply Kd.R_drew)); exact (Kd.R_mono (Kd.R_far (p := ⟨gb1122, 1, none⟩) (Kd.R_types HO_1123002.out BK1122.out (by decide)) (fun _ hk => hk.2) (.slice Ao47 t1134.length co47)) (fun _ h_ => h_.1)))); (case side4 => exact (Kd.R_reads' HO_1123002.out).2.1); (case side5 => refine (Kd.R_reads' (e := 100) (base := w.heap.size) (ok := fun k_ => True) (n := t1129.length) (c := co45) ?_).2.2; exact (by (with_reducible repeat (first | apply Kd.R_alloc | apply Kd.R_drewN | apply Kd.R_drew)); exact (Kd.R_mono (Kd.R_far (p := ⟨gb1122, 1, none⟩) (Kd.R_types HO1131.out BK1122.out (by decide)) (fun _ hk => hk.2) (.slice Ao47 t1134.length co47)) (fun _ h_ => h_.1)))); (case side6 => exact (Kd.R_reads' HO1131.out).2.1); rintro e w50 ⟨rfl, hb⟩; refine ⟨_, rfl, ?_⟩; have n0_ := am (Kd.R_below (by (with_reducible repeat (first | apply Kd.R_alloc | apply Kd.R_drewN | apply Kd.R_drew)); exact (Kd.R_mono (Kd.R_far (p := ⟨gb1122, 1, none⟩) (Kd.R_types HO_1123002.out BK1122.out (by decide)) (fun _ hk => hk.2) (.slice Ao47 t1134.length co47)) (fun _ h_ => h_.1))) hb); have n1_ := am (Kd.R_below (by (with_reducible repeat (first | apply Kd.R_alloc | apply Kd.R_drewN | apply Kd.R_drew)); exact (Kd.R_mono (Kd.R_far (p := ⟨gb1122, 1, none⟩) (Kd.R_types HO1131.out BK1122.out (by decide)) (fun _ hk => hk.2) (.slice Ao47 t1134.length co47)) (fun _ h_ => h_.1))) hb); have n2_ := am (Kd.R_below (by (with_reducible repeat (first | apply Kd.R_alloc | apply Kd.R_drewN | apply Kd.R_drew)); exact (Kd.R_mono (Kd.R_far (p := ⟨gb1122, 1, none⟩) (Kd.R_types HO1136.out BK1122.out (by decide)) (fun _ hk => hk.2) (.slice Ao47 t1134.length co47)) (fun _ h_ => h_.1))) hb); have n3_ := kg1 BK1109 NB1109_1122 hb; have n4_ := am (blk_below (g := gb1122) (o := .cells #[.string (rdOf ByteArray.empty t1112 1), .slice Ao47 t1134.length co47, .slice Ao49 x1123002_15.length co49, .int .i64 t1128, .slice Ao45 t1129.length co45, .string t1132, .int .i64 t1116] 71 (0, 0)) (pt0 BK1122) hb); have n5_ := am (below_step bl hb); clear HO_1123002; clear HO1131; clear HO1136; clear BK1109; clear BK1122; clear HB; have HO_1123002 := n0_; have HO1131 := n1_; have HO1136 := n2_; have BK1109 := n3_; have BK1122 := n4_; have HB := n5_; clear n0_ n1_ n2_ n3_ n4_ n5_; clear hb; obtain ⟨z51_0, y51_0, z51_1, y51_1, z51_2, y51_2, z51_3, y51_3, z51_4, y51_4, z51_5, y51_5, z51_6, y51_6⟩ := cl7 BK1122; obtain ⟨z52_0, y52_0, z52_1, y52_1, z52_2, y52_2, z52_3, y52_3, z52_4, y52_4, z52_5, y52_5, z52_6, y52_6⟩ := cl7 BK1109))
      refine bodyPost_ret (results_ct rfl _ _ gb1109 71 #[.string (rdOf ByteArray.empty t1112 1), .slice Ao47 t1134.length co47, .slice Ao49 x1123002_15.length co49, .int .i64 t1128, .slice Ao45 t1129.length co45, .string t1132, .int .i64 t1116] (0, 0) _ rfl (pt0 BK1109) Tryz.underlying71 rfl (by kernel_rfl)) rfl ?_
      exact ⟨_, _, _, rf, rg (Kd.R_types HO1136.out BK1109.out (by decide)), rg (Kd.R_types HO_1123002.out BK1109.out (by decide)), rg (Kd.R_types HO1131.out BK1109.out (by decide)), bl⟩
     rw [if_neg c41] at H
     have c41b0 : (t1137.toList == a0.toList) = false := beq_eq_false_iff_ne.mpr c41
     have c41b1 : (t1137.toList != a0.toList) = true := bne_iff_ne.mpr c41
     simp only [Option.some.injEq, Prod.mk.injEq] at H
     obtain ⟨rfl, rfl, rfl, rfl, rfl, rfl, rfl, rfl⟩ := H
     go_wp2_with (first | (refine gl 82 Tryz.func27 #[.string (a0.extract (x5_15 : Int).toNat a0.size)] ?_; (with_reducible refine (spec_RespRead.calls kj15 (a0.extract (x5_15 : Int).toNat a0.size) t1128 t1129 t1132 t1133 _ A38.out).mono ?_); rintro e w53 ⟨v1130, rfl, ho0, hb⟩; refine ⟨_, rfl, ?_⟩; replace HO_1123002 := kr HO_1123002 hb; have HO1131 := am (Kd.R_lower ho0 (below_size bl)); replace BK1109 := kb BK1109 hb; replace BK1122 := kb BK1122 hb; replace HB := am (below_step bl hb); clear hb ho0; have hnb54 := NB1122_1109.out; have hnc54 := NB1109_1122.out; obtain ⟨z55_0, y55_0, z55_1, y55_1, z55_2, y55_2, z55_3, y55_3, z55_4, y55_4, z55_5, y55_5, z55_6, y55_6⟩ := cl7 BK1122; obtain ⟨Ao56, co56, eo56⟩ := Kd.R_slice HO1131.out; subst eo56) | (refine gl 89 Tryz.func103 #[.slice Ao56 t1129.length co56] ?_; (with_reducible refine (spec_VaryOf.calls kj15 _ _ t1129 t1134 _ ?side1 ?side2 A39.out).mono ?_); (case side1 => refine (Kd.R_reads' (e := 100) (base := w.heap.size) (ok := fun k_ => True) (n := t1129.length) (c := co56) ?_).2.2; exact (by (with_reducible repeat (first | apply Kd.R_alloc | apply Kd.R_drewN | apply Kd.R_drew)); exact (Kd.R_mono (Kd.R_far (p := ⟨gb1122, 5, none⟩) (Kd.R_far (p := ⟨gb1122, 4, none⟩) (Kd.R_far (p := ⟨gb1122, 3, none⟩) (Kd.R_types HO1131.out BK1122.out (by decide)) (fun _ hk => hk.2) (.int .i64 t1128)) (fun _ hk => hk.2) (.slice Ao56 t1129.length co56)) (fun _ hk => hk.2) (.string t1132)) (fun _ h_ => h_.1)))); (case side2 => exact (Kd.R_reads' HO1131.out).2.1); rintro e w57 ⟨v1135, rfl, ho0, hb⟩; refine ⟨_, rfl, ?_⟩; have n0_ := am (Kd.R_elder' (by (with_reducible repeat (first | apply Kd.R_alloc | apply Kd.R_drewN | apply Kd.R_drew)); exact (Kd.R_mono (Kd.R_far (p := ⟨gb1122, 5, none⟩) (Kd.R_far (p := ⟨gb1122, 4, none⟩) (Kd.R_far (p := ⟨gb1122, 3, none⟩) (Kd.R_types HO_1123002.out BK1122.out (by decide)) (fun _ hk => hk.2) (.int .i64 t1128)) (fun _ hk => hk.2) (.slice Ao56 t1129.length co56)) (fun _ hk => hk.2) (.string t1132)) (fun _ h_ => h_.1))) (Kd.R_base ho0) hb); have n1_ := am (Kd.R_below (by (with_reducible repeat (first | apply Kd.R_alloc | apply Kd.R_drewN | apply Kd.R_drew)); exact (Kd.R_mono (Kd.R_far (p := ⟨gb1122, 5, none⟩) (Kd.R_far (p := ⟨gb1122, 4, none⟩) (Kd.R_far (p := ⟨gb1122, 3, none⟩) (Kd.R_types HO1131.out BK1122.out (by decide)) (fun _ hk => hk.2) (.int .i64 t1128)) (fun _ hk => hk.2) (.slice Ao56 t1129.length co56)) (fun _ hk => hk.2) (.string t1132)) (fun _ h_ => h_.1))) hb); have n2_ := am (Kd.R_lower (Kd.R_new' ho0 (Kd.R_lt (by (with_reducible repeat (first | apply Kd.R_alloc | apply Kd.R_drewN | apply Kd.R_drew)); exact (Kd.R_mono (Kd.R_far (p := ⟨gb1122, 5, none⟩) (Kd.R_far (p := ⟨gb1122, 4, none⟩) (Kd.R_far (p := ⟨gb1122, 3, none⟩) (Kd.R_types HO_1123002.out BK1122.out (by decide)) (fun _ hk => hk.2) (.int .i64 t1128)) (fun _ hk => hk.2) (.slice Ao56 t1129.length co56)) (fun _ hk => hk.2) (.string t1132)) (fun _ h_ => h_.1))))) (below_size bl)); have n3_ := kg1 BK1109 NB1109_1122 hb; have n4_ := am (blk_below (g := gb1122) (o := .cells #[.string (rdOf ByteArray.empty t1112 1), .slice none 0 0, u1123002, .int .i64 t1128, .slice Ao56 t1129.length co56, .string t1132, .int .i64 t1116] 71 (0, 0)) (pt0 BK1122) hb); have n5_ := am (below_step bl hb); clear HO_1123002; clear HO1131; clear BK1109; clear BK1122; clear HB; have HO_1123002 := n0_; have HO1131 := n1_; have HO1136 := n2_; have BK1109 := n3_; have BK1122 := n4_; have HB := n5_; clear n0_ n1_ n2_ n3_ n4_ n5_; clear hb ho0; obtain ⟨Ao58, co58, eo58⟩ := Kd.R_slice HO1136.out; subst eo58; obtain ⟨z59_0, y59_0, z59_1, y59_1, z59_2, y59_2, z59_3, y59_3, z59_4, y59_4, z59_5, y59_5, z59_6, y59_6⟩ := cl7 BK1122; obtain ⟨Ao60, co60, eo60⟩ := Kd.R_slice HO_1123002.out; subst eo60) | (refine gl 92 Tryz.func58 #[.agg #[.string (rdOf ByteArray.empty t1112 1), .slice Ao58 t1134.length co58, .slice Ao60 x1123002_15.length co60, .int .i64 t1128, .slice Ao56 t1129.length co56, .string t1132, .int .i64 t1116]] ?_; (with_reducible refine (spec_ObjText.calls kj15 (rdOf ByteArray.empty t1112 1) _ _ t1134 _ _ x1123002_15 t1128 _ _ t1129 t1132 t1116 t1137 _ ?side1 ?side2 ?side3 ?side4 ?side5 ?side6 A40.out).mono ?_); (case side1 => refine (Kd.R_reads' (e := 9) (base := w.heap.size) (ok := fun k_ => (True ∧ some k_ ≠ (.slice Ao60 x1123002_15.length co60 : Value).ownBlock)) (n := t1134.length) (c := co58) ?_).2.2; exact (by (with_reducible repeat (first | apply Kd.R_alloc | apply Kd.R_drewN | apply Kd.R_drew)); exact (Kd.R_mono (Kd.R_far (p := ⟨gb1122, 1, none⟩) (Kd.R_types HO1136.out BK1122.out (by decide)) (fun _ hk => hk.2) (.slice Ao58 t1134.length co58)) (fun _ h_ => h_.1)))); (case side2 => exact (Kd.R_reads' HO1136.out).2.1); (case side3 => refine (Kd.R_reads' (e := 9) (base := w.heap.size) (ok := fun k_ => (True ∧ some k_ ≠ (.slice Ao58 t1134.length co58 : Value).ownBlock)) (n := x1123002_15.length) (c := co60) ?_).2.2; exact (by (with_reducible repeat (first | apply Kd.R_alloc | apply Kd.R_drewN | apply Kd.R_drew)); exact (Kd.R_mono (Kd.R_far (p := ⟨gb1122, 1, none⟩) (Kd.R_types HO_1123002.out BK1122.out (by decide)) (fun _ hk => hk.2) (.slice Ao58 t1134.length co58)) (fun _ h_ => h_.1)))); (case side4 => exact (Kd.R_reads' HO_1123002.out).2.1); (case side5 => refine (Kd.R_reads' (e := 100) (base := w.heap.size) (ok := fun k_ => True) (n := t1129.length) (c := co56) ?_).2.2; exact (by (with_reducible repeat (first | apply Kd.R_alloc | apply Kd.R_drewN | apply Kd.R_drew)); exact (Kd.R_mono (Kd.R_far (p := ⟨gb1122, 1, none⟩) (Kd.R_types HO1131.out BK1122.out (by decide)) (fun _ hk => hk.2) (.slice Ao58 t1134.length co58)) (fun _ h_ => h_.1)))); (case side6 => exact (Kd.R_reads' HO1131.out).2.1); rintro e w61 ⟨rfl, hb⟩; refine ⟨_, rfl, ?_⟩; have n0_ := am (Kd.R_below (by (with_reducible repeat (first | apply Kd.R_alloc | apply Kd.R_drewN | apply Kd.R_drew)); exact (Kd.R_mono (Kd.R_far (p := ⟨gb1122, 1, none⟩) (Kd.R_types HO_1123002.out BK1122.out (by decide)) (fun _ hk => hk.2) (.slice Ao58 t1134.length co58)) (fun _ h_ => h_.1))) hb); have n1_ := am (Kd.R_below (by (with_reducible repeat (first | apply Kd.R_alloc | apply Kd.R_drewN | apply Kd.R_drew)); exact (Kd.R_mono (Kd.R_far (p := ⟨gb1122, 1, none⟩) (Kd.R_types HO1131.out BK1122.out (by decide)) (fun _ hk => hk.2) (.slice Ao58 t1134.length co58)) (fun _ h_ => h_.1))) hb); have n2_ := am (Kd.R_below (by (with_reducible repeat (first | apply Kd.R_alloc | apply Kd.R_drewN | apply Kd.R_drew)); exact (Kd.R_mono (Kd.R_far (p := ⟨gb1122, 1, none⟩) (Kd.R_types HO1136.out BK1122.out (by decide)) (fun _ hk => hk.2) (.slice Ao58 t1134.length co58)) (fun _ h_ => h_.1))) hb); have n3_ := kg1 BK1109 NB1109_1122 hb; have n4_ := am (blk_below (g := gb1122) (o := .cells #[.string (rdOf ByteArray.empty t1112 1), .slice Ao58 t1134.length co58, .slice Ao60 x1123002_15.length co60, .int .i64 t1128, .slice Ao56 t1129.length co56, .string t1132, .int .i64 t1116] 71 (0, 0)) (pt0 BK1122) hb); have n5_ := am (below_step bl hb); clear HO_1123002; clear HO1131; clear HO1136; clear BK1109; clear BK1122; clear HB; have HO_1123002 := n0_; have HO1131 := n1_; have HO1136 := n2_; have BK1109 := n3_; have BK1122 := n4_; have HB := n5_; clear n0_ n1_ n2_ n3_ n4_ n5_; clear hb; obtain ⟨z62_0, y62_0, z62_1, y62_1, z62_2, y62_2, z62_3, y62_3, z62_4, y62_4, z62_5, y62_5, z62_6, y62_6⟩ := cl7 BK1109))
     refine bodyPost_ret (results_ct rfl _ _ gb1109 71 #[.string (⟨#[]⟩ : ByteArray), .slice none 0 0, .slice none 0 0, .int .i64 0, .slice none 0 0, .string (⟨#[]⟩ : ByteArray), .int .i64 0] (0, 0) _ rfl (pt0 BK1109) Tryz.underlying71 rfl (by kernel_rfl)) rfl ?_
     exact ⟨_, _, _, rf, by first | exact Kd.R_nil _ _ _ _ _ | exact Kd.N_nil _ _ _ _ _ | exact Kd.V_nil _ _ _ _ _ | exact Kd.Q_nil _ _ _ _ _ | exact Kd.S_nil _ _ _ _ _, by first | exact Kd.R_nil _ _ _ _ _ | exact Kd.N_nil _ _ _ _ _ | exact Kd.V_nil _ _ _ _ _ | exact Kd.Q_nil _ _ _ _ _ | exact Kd.S_nil _ _ _ _ _, by first | exact Kd.R_nil _ _ _ _ _ | exact Kd.N_nil _ _ _ _ _ | exact Kd.V_nil _ _ _ _ _ | exact Kd.Q_nil _ _ _ _ _ | exact Kd.S_nil _ _ _ _ _, bl⟩

/-! ### impl_Get: function 141 -/
def impl_Get.f (l0 : List (S100)) (a1 : ByteArray) : Option (ByteArray × Bool) := (impl_fieldAt.f l0 a1).bind fun t1138 => (if t1138 < 0 then (some ((⟨#[]⟩ : ByteArray), false)) else (if 0 ≤ t1138 then (if t1138 < (l0.length : Int) then (some ((rd_T100 l0 t1138).f1, true)) else (none)) else (none)))
set_option maxHeartbeats 8000000 in
set_option maxRecDepth 100000 in
theorem impl_Get.calls (A0 : Option Addr) (c0 : Nat) (l0 : List (S100)) (a1 : ByteArray) (r1 : ByteArray) (r2 : Bool) (w : World) (hr0 : Kd.C k100 w A0 l0.length l0) (hc0 : l0.length ≤ c0) (h : impl_Get.f l0 a1 = some (r1, r2)) :
  Calls Tryz.prog 141 #[.slice A0 l0.length c0, .string a1] w fun e w' => e = .returned (.tuple #[.string r1, .bool r2]) ∧ Below w.heap.size w w' := by
 have HR0 := am hr0
 have HC0 := am hc0
 clear hr0 hc0
 have HB := am (Below.refl w.heap.size w)
 unfold impl_Get.f at h
 have H := h
 clear h
 revert H
 refine ok1 fun t1138 A3 H => ?_
 by_cases c4 : t1138 < 0
 ·rw [if_pos c4] at H
  have c4b0 := decide_eq_true c4
  clear c4
  simp only [Option.some.injEq, Prod.mk.injEq] at H
  obtain ⟨rfl, rfl⟩ := H
  go_enter Tryz.func141, Tryz.ntmps141
  go_wp2_with (first | (refine gl 9 Tryz.func130 #[.slice A0 l0.length c0, .string a1] ?_; (with_reducible refine (impl_fieldAt.calls _ _ l0 a1 t1138 _ ?side1 ?side2 A3.out).mono ?_); (case side1 => exact cc HR0); (case side2 => exact HC0.out); rintro e w5 ⟨rfl, hb⟩; refine ⟨_, rfl, ?_⟩; replace HB := am (below_step bl hb); clear hb))
  go_ret2
  exact ⟨rf, bl⟩
 rw [if_neg c4] at H
 have c4b0 := decide_eq_false c4
 clear c4
 revert H
 refine ifn fun c6 H => ?_
 have c6b0 := decide_eq_true c6
 clear c6
 revert H
 refine ifn fun c7 H => ?_
 have c7b0 := decide_eq_true c7
 clear c7
 simp only [Option.some.injEq, Prod.mk.injEq] at H
 obtain ⟨rfl, rfl⟩ := H
 go_enter Tryz.func141, Tryz.ntmps141
 go_wp2_with (first | (refine gl 9 Tryz.func130 #[.slice A0 l0.length c0, .string a1] ?_; (with_reducible refine (impl_fieldAt.calls _ _ l0 a1 t1138 _ ?side1 ?side2 A3.out).mono ?_); (case side1 => exact cc HR0); (case side2 => exact HC0.out); rintro e w8 ⟨rfl, hb⟩; refine ⟨_, rfl, ?_⟩; replace HB := am (below_step bl hb); clear hb; have p1139 : 0 ≤ (t1138 : Int) := od; have q1139 : t1138 < (l0.length : Int) := od; obtain ⟨ad1139, e1139, hx1139_0, hx1139_1⟩ := at_T100 HR0.out t1138 p1139 q1139; cases e1139; replace hx1139_0 := hcw hx1139_0; replace hx1139_1 := hcw hx1139_1; replace p1139 := eq_true p1139; replace q1139 := eq_true q1139))
 go_ret2
 exact ⟨rf, bl⟩

/-! ### impl_Split: function 142 -/
theorem u142HB {p : Prop} (h : p := by repeat (first | (with_reducible first | exact HB.out | apply below_alloc | apply pw_below_drewN | apply below_drew1) | exact HB.out)) : p := h
def impl_Split.l0 : Nat → List ByteArray → List ByteArray → Int → Int → Option (List ByteArray)
 | 0, _, _, _, _ => none
 | k + 1, x3, x8, x9, x10 => if x10 < x9 then (if 0 ≤ x10 then (if x10 < (x8.length : Int) then ((impl_Trim.f (rdOf ByteArray.empty x8 x10)).bind fun t1144 => (if t1144.toList = ([] : List UInt8) then (impl_Split.l0 k x3 x8 x9 (wrap64 (x10 + 1))) else (if x3.length < 8796093022208 then (impl_Split.l0 k (x3 ++ [t1144]) x8 x9 (wrap64 (x10 + 1))) else (none)))) else (none)) else (none)) else (some x3)
def impl_Split.f (k : Nat) (a0 : ByteArray) : Option (List ByteArray) := (strings_Split.f a0 (⟨#[44]⟩ : ByteArray)).bind fun t1140 => (impl_Split.l0 k ([] : List ByteArray) t1140 (t1140.length : Int) 0)
theorem impl_Split.mono_l : ∀ k, (∀ y0 y1 y2 y3, LeO (impl_Split.l0 k y0 y1 y2 y3) (impl_Split.l0 (k + 1) y0 y1 y2 y3))
 | 0 => fun _ _ _ _ r h => by simp [impl_Split.l0] at h
 | k + 1 => by
  have ih0 := impl_Split.mono_l k
  ·intro y0 y1 y2 y3
   unfold impl_Split.l0
   exact mo
theorem impl_Split.mono : ∀ a0 k, LeO (impl_Split.f k a0) (impl_Split.f (k + 1) a0) := by
 intro a0 k
 have ih0 := impl_Split.mono_l k
 unfold impl_Split.f
 exact mo
set_option maxHeartbeats 8000000 in
set_option maxRecDepth 100000 in
theorem impl_Split.calls (k : Nat) (a0 : ByteArray) (r : List ByteArray) (w : World) (hGM : GLOBM w) (h : impl_Split.f k a0 = some r) :
  Calls Tryz.prog 142 #[.string a0] w fun e w' => ∃ v0_ : Value, e = .returned (v0_) ∧ Kd.R Kd.string 9 w' w.heap.size (fun _ => True) v0_ r ∧ Below w.heap.size w w' := by
 have HGM := am hGM
 clear hGM
 have HB := am (Below.refl w.heap.size w)
 unfold impl_Split.f at h
 have H := h
 clear h
 revert H
 refine ok1 fun t1140 A2 H => ?_
 have H' := am H
 clear H
 go_enter Tryz.func142, Tryz.ntmps142
 go_wp2_with (first | (refine gl 8 Tryz.func84 #[.string a0, .string (⟨#[44]⟩ : ByteArray)] ?_; (with_reducible refine (strings_Split.calls a0 (⟨#[44]⟩ : ByteArray) t1140 _ ?side1 A2.out).mono ?_); (case side1 => exact GLOBM.below HGM.out bl); rintro e w3 ⟨v1141, rfl, ho0, hb⟩; refine ⟨_, rfl, ?_⟩; have HO1142 := am (Kd.R_lower ho0 (below_size bl)); replace HB := am (below_step bl hb); clear hb ho0; obtain ⟨Ao4, co4, eo4⟩ := Kd.R_slice HO1142.out; subst eo4))
 (try simp only [Act.put, List.setIfInBounds_toArray, List.set_cons_zero, List.set_cons_succ])
 go_loopg [3, 10] k (fun kq v3 v10 w' => ∃ (x3_1 : List ByteArray) (x10_1 : Int), v10 = .int .i64 x10_1 ∧ Aside0 (impl_Split.l0 kq x3_1 t1140 (t1140.length : Int) x10_1 = some r) ∧ Aside0 (kq ≤ k) ∧ Aside0 (Kd.R Kd.string 9 w' w.heap.size (fun k_ => some k_ ≠ ((.slice Ao4 t1140.length co4) : Value).ownBlock) v3 x3_1) ∧ Aside0 (Kd.R Kd.string 9 w' w.heap.size (fun k_ => some k_ ≠ (v3 : Value).ownBlock) (.slice Ao4 t1140.length co4) t1140) ∧ Aside0 (Below w.heap.size w w'))
 case atStart => exact ⟨(([] : List ByteArray)), (0), rs, H', ⟨Nat.le_refl _⟩, ⟨by first | exact Kd.R_nil _ _ _ _ _ | exact Kd.N_nil _ _ _ _ _ | exact Kd.V_nil _ _ _ _ _ | exact Kd.Q_nil _ _ _ _ _ | exact Kd.S_nil _ _ _ _ _⟩, ⟨by (with_reducible repeat (first | apply Kd.R_alloc | apply Kd.R_drewN | apply Kd.R_drew)); exact Kd.R_mono HO1142.out (fun _ hk => (by simp [Value.ownBlock]))⟩, ⟨u142HB⟩⟩
 case round =>
  clear H'
  try clear c1
  try clear p2
  obtain ⟨x3_1, x10_1, rfl, HA, HK1, HO_3, HO_8, HB⟩ := hrel
  cases gk with
  | zero => exact absurd HA.out (by simp [impl_Split.l0])
  | succ k1 =>
   have H := HA.out
   clear HA
   simp only [impl_Split.l0] at H
   by_cases c5 : x10_1 < (t1140.length : Int)
   rotate_left
   ·rw [if_neg c5] at H
    have c5b0 := decide_eq_false c5
    clear c5
    obtain rfl := Option.some.inj H
    go_wp2
    go_ret
    exact ⟨_, rf, by (with_reducible repeat (first | apply Kd.R_alloc | apply Kd.R_drewN | apply Kd.R_drew)); exact Kd.R_mono HO_3.out (fun _ hk => trivial), bl⟩
   rw [if_pos c5] at H
   have c5b0 := decide_eq_true c5
   clear c5
   revert H
   refine ifn fun c6 H => ?_
   have c6b0 := decide_eq_true c6
   clear c6
   revert H
   refine ifn fun c7 H => ?_
   have c7b0 := decide_eq_true c7
   clear c7
   revert H
   refine ok1 fun t1144 A8 H => ?_
   by_cases c9 : t1144.toList = ([] : List UInt8)
   ·rw [if_pos c9] at H
    have c9b0 : (t1144.toList == ([] : List UInt8)) = true := beq_iff_eq.mpr c9
    have c9b1 : (t1144.toList != ([] : List UInt8)) = false := bne_eq_false_iff_eq.mpr c9
    clear c9
    have H' := am H
    clear H
    have p1143 : 0 ≤ (x10_1 : Int) := od
    have q1143 : x10_1 < (t1140.length : Int) := od
    obtain ⟨ad1143, e1143, hx1143_0⟩ := Kd.at_string (Kd.R_reads' HO_8.out).2.2 x10_1 p1143 q1143
    cases e1143
    replace p1143 := eq_true p1143
    replace q1143 := eq_true q1143
    go_wp2_with (first | (refine gl 15 Tryz.func148 #[.string (rdOf ByteArray.empty t1140 x10_1)] ?_; (with_reducible refine (impl_Trim.calls (rdOf ByteArray.empty t1140 x10_1) t1144 _ A8.out).mono ?_); rintro e w10 ⟨rfl, hb⟩; refine ⟨_, rfl, ?_⟩; replace HO_3 := kr HO_3 hb; replace HO_8 := kr HO_8 hb; replace HB := am (below_step bl hb); clear hb))
    go_roundg k1
    case measure => have := HK1.out; omega
    case rel => exact ⟨(x3_1), (wrap64 (x10_1 + 1)), rs, H', ⟨by have := HK1.out; omega⟩, ⟨by (with_reducible repeat (first | apply Kd.R_alloc | apply Kd.R_drewN | apply Kd.R_drew)); exact HO_3.out⟩, ⟨by (with_reducible repeat (first | apply Kd.R_alloc | apply Kd.R_drewN | apply Kd.R_drew)); exact HO_8.out⟩, ⟨u142HB⟩⟩
   rw [if_neg c9] at H
   have c9b0 : (t1144.toList == ([] : List UInt8)) = false := beq_eq_false_iff_ne.mpr c9
   have c9b1 : (t1144.toList != ([] : List UInt8)) = true := bne_iff_ne.mpr c9
   revert H
   refine ifn fun c11 H => ?_
   have LMc11 := am c11
   clear c11
   obtain ⟨y1145, hy1145⟩ : ∃ y_ : List ByteArray, y_ = (x3_1 ++ [t1144]) := ⟨_, rfl⟩
   replace H : (impl_Split.l0 k1 y1145 t1140 (t1140.length : Int) (wrap64 (x10_1 + 1))) = some r := by first | (rw [hy1145]; with_reducible exact H) | (have H2_ := (Option.bind_some _ _).symm.trans H; rw [hy1145]; with_reducible exact H2_) | (have H2_ := (Option.bind_some _ _).symm.trans H; with_reducible exact H2_) | with_reducible exact H | (rw [hy1145]; exact H) | exact H
   have Ny1145 := am hy1145
   clear hy1145
   have H' := am H
   clear H
   have p1143 : 0 ≤ (x10_1 : Int) := od
   have q1143 : x10_1 < (t1140.length : Int) := od
   obtain ⟨ad1143, e1143, hx1143_0⟩ := Kd.at_string (Kd.R_reads' HO_8.out).2.2 x10_1 p1143 q1143
   cases e1143
   replace p1143 := eq_true p1143
   replace q1143 := eq_true q1143
   go_wp2_with (first | (refine gl 15 Tryz.func148 #[.string (rdOf ByteArray.empty t1140 x10_1)] ?_; (with_reducible refine (impl_Trim.calls (rdOf ByteArray.empty t1140 x10_1) t1144 _ A8.out).mono ?_); rintro e w12 ⟨rfl, hb⟩; refine ⟨_, rfl, ?_⟩; replace HO_3 := kr HO_3 hb; replace HO_8 := kr HO_8 hb; replace HB := am (below_step bl hb); clear hb) | ((with_reducible refine gate_builtin (b := .append) (xs := #[.tmp 18, .tmp 20]) rfl ?_); at_builtin; refine Kd.R_append Kd.string (w0 := w) w.heap.size rfl (.tmp 18) (.tmp 20) 35 9 (.string ⟨#[]⟩) 16 rfl Tryz.underlying35 info9 rfl (by decide) (by omega) u3 x3_1 t1144 [.string t1144] (fun k_ => some k_ ≠ (.slice (some ad1143) t1140.length co4 : Value).ownBlock) (fun _ => False) rfl rfl ?aP (fun _ hk => hk.elim) ?aF ?aO ?aB ?aS ?aL ?_; (case aP => exact rfl); (case aB => exact bl); (case aF => exact (fun k_ hk => Kd.fresh' (Kd.R_lt (ro HO_8)) k_ hk)); (case aO => exact (ro HO_3)); (case aS => exact (below_size bl)); (case aL => have := LMc11.out; omega); intro v1146 w13 ho hb hg hat; rw [← Ny1145.out] at ho; have n0_ := am (Kd.R_after (ok := (fun _ => True)) (by (with_reducible repeat (first | apply Kd.R_alloc | apply Kd.R_drewN | apply Kd.R_drew)); exact Kd.R_mono HO_8.out (fun _ hk => ⟨trivial, hk⟩)) hg hat); have n1_ := am (hb); have n2_ := am (ho); clear HO_8; clear HB; clear HO_3; have HO_8 := n0_; have HB := n1_; have HO1147 := n2_; clear n0_ n1_ n2_; clear ho hb hg hat))
   go_roundg k1
   case measure => have := HK1.out; omega
   case rel => exact ⟨(y1145), (wrap64 (x10_1 + 1)), rs, H', ⟨by have := HK1.out; omega⟩, ⟨by (with_reducible repeat (first | apply Kd.R_alloc | apply Kd.R_drewN | apply Kd.R_drew)); exact HO1147.out⟩, ⟨by (with_reducible repeat (first | apply Kd.R_alloc | apply Kd.R_drewN | apply Kd.R_drew)); exact Kd.R_mono HO_8.out (fun _ hk => hk.2)⟩, ⟨u142HB⟩⟩

/-! ### impl.Lower -/
def impl_Lower.f (a0 : ByteArray) : Option ByteArray := if a0.size ≤ 4611686018427387904 then some ⟨(a0.data.toList.map low1).toArray⟩ else none
set_option maxHeartbeats 4000000 in
theorem impl_Lower.calls (a0 : ByteArray) (r : ByteArray) (w : World) (h : impl_Lower.f a0 = some r) :
  Calls Tryz.prog 143 #[.string a0] w fun e w' => e = .returned (.string r) ∧ Below w.heap.size w w' := by
 unfold impl_Lower.f at h
 split at h
 case isFalse => cases h
 rename_i hl
 obtain rfl := Option.some.inj h
 obtain ⟨m, hm⟩ := low_start w a0
 have HL := am hm
 have HN := am hl
 have hlen : a0.data.toList.length = a0.size := data_length a0
 have HB0 := am (bytes_below (Below.refl w.heap.size w) (Nat.le_refl _) 5 a0)
 have kb := print_bytes (P := Tryz.prog) 9 22 5 Tryz.underlying9 Tryz.underlying22 Tryz.underlying5 a0 w
 have HLEN := am hlen
 clear hm hlen h hl
 go_enter Tryz.func143, Tryz.ntmps143
 go_wp2
 clear kb
 go_loopw [10] (fun i wr => ∃ k : Nat, k ≤ a0.size ∧ i = .int .i64 k ∧ Aside0 (LowRow w.heap.size k m a0.data.toList wr) ∧ Below w.heap.size w wr) (fun i _ => a0.size - (intOf i).toNat)
 case atStart => exact ⟨0, Nat.zero_le _, rfl, HL, HB0.out⟩
 case round =>
  obtain ⟨k, hk, rfl, hr, hb⟩ := hrel
  have hk2 : ((k : Nat) : Int) ≤ 4611686018427387904 := by have := HN.out; omega
  by_cases hlt : k < a0.size
  ·have hkl : k < a0.data.toList.length := by have := HLEN.out; omega
   have hc := low_cell hr.out k hkl
   have hf := low_free hr.out k hkl
   rw [if_neg (Nat.lt_irrefl k)] at hc
   have HR := am hr.out
   obtain ⟨c, hcc⟩ : ∃ c, c = a0.data.toList[k] := ⟨_, rfl⟩
   rw [← hcc] at hc
   have HC := am hcc
   clear hcc hr
   have hc0 : c.toNat < 256 := c.toNat_lt
   go_wp2
   ·have h1 : 65 ≤ (c.toNat : Int) := by assumption
    have h2 : (c.toNat : Int) ≤ 90 := by assumption
    go_roundw
    case rel => exact ⟨k + 1, by omega, by go_num, ⟨low_set HR.out hkl (by rw [← HC.out]; unfold low1; rw [if_pos ⟨by omega, by omega⟩]; simp; omega)⟩, hb.setCell (by simp) _⟩
    case measure => simp [intOf]; omega
   all_goals
    go_roundw
    case rel => exact ⟨k + 1, by omega, by go_num, ⟨low_keep HR.out hkl (by rw [← HC.out]; unfold low1; rw [if_neg (by omega)])⟩, hb⟩
    case measure => simp [intOf]; omega
  ·have kc : (convert 22 9 (.slice (some ⟨w.heap.size, 0, none⟩) a0.size (grownCap w a0.size 0 5))).run Tryz.prog wr = .ok (.string ⟨(a0.data.toList.map low1).toArray⟩) wr := by
    have := run_convert_bytes_back (P := Tryz.prog) wr 22 9 5 ⟨w.heap.size, 0, none⟩ (grownCap w a0.size 0 5) (a0.data.toList.map low1) Tryz.underlying22 Tryz.underlying5 Tryz.underlying9 (fun j hj => by
     rw [add_plain]
     have hj2 : j < a0.data.toList.length := by simpa using hj
     have hjk : j < k := by have := HLEN.out; omega
     rw [low_cell hr.out j hj2, if_pos hjk]; simp)
    rw [List.length_map, data_length] at this
    exact this
   go_wp2
   go_ret
   exact ⟨rfl, hb⟩

end Go.Proofs.YtnmanegjgidgcaaGreatDoor.All
