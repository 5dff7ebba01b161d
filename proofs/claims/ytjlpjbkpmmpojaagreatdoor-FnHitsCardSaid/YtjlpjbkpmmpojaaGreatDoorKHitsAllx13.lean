-- Written by a program of this session (wip/tools/hprint.py) out of the translation. Lean checks it.
import Derived.Test.YtjlpjbkpmmpojaaGreatDoorKHitsAllx0
import Derived.Test.YtjlpjbkpmmpojaaGreatDoorKHitsAllx1
import Derived.Test.YtjlpjbkpmmpojaaGreatDoorKHitsAllx8
import Derived.Test.YtjlpjbkpmmpojaaGreatDoorKHitsAllx9
namespace Go.Proofs.YtjlpjbkpmmpojaaGreatDoor.All
open Go.RowKit Go.Proofs.YtjlpjbkpmmpojaaGreatDoorW.PrintWords Go.Proofs.YtjlpjbkpmmpojaaGreatDoorW.PrintLast Go.Proofs.YtjlpjbkpmmpojaaGreatDoorW.PrintMore
attribute [local go_sem] max2_int min2_int max_two min_two max_three min_three max_four min_four  -- for this text's walks alone
set_option linter.unusedVariables false
set_option linter.unusedSimpArgs false

/-! ### spec_l8Texts: function 136 -/
mutual
def spec_l8Texts.l0 : Nat → List ByteArray → List ByteArray → Int → Option (Bool)
 | 0, _, _, _ => none
 | k + 1, x0, x1, x5 => if x5 < (x0.length : Int) then (spec_l8Texts.j1 k x0 x1 x5 (decide (x5 < (x1.length : Int)))) else (spec_l8Texts.j1 k x0 x1 x5 false)
def spec_l8Texts.j1 : Nat → List ByteArray → List ByteArray → Int → Bool → Option (Bool)
 | 0, _, _, _, _ => none
 | k + 1, x0, x1, x5, x15 => if x15 = true then (if 0 ≤ x5 then (if x5 < (x0.length : Int) then (if x5 < (x1.length : Int) then (if (rdOf ByteArray.empty x0 x5).toList = (rdOf ByteArray.empty x1 x5).toList then (spec_l8Texts.l0 k x0 x1 (wrap64 (x5 + 1))) else (some false)) else (none)) else (none)) else (none)) else (some ((x0.length : Int) == (x1.length : Int)))
end
def spec_l8Texts.f (k : Nat) (l0 : List ByteArray) (l1 : List ByteArray) : Option (Bool) := spec_l8Texts.l0 k l0 l1 0
set_option maxHeartbeats 8000000 in
set_option maxRecDepth 100000 in
theorem spec_l8Texts.calls (k : Nat) (A0 : Option Addr) (c0 : Nat) (l0 : List ByteArray) (A1 : Option Addr) (c1 : Nat) (l1 : List ByteArray) (r : Bool) (w : World) (hr0 : Kd.C Kd.string w A0 l0.length l0) (hc0 : l0.length ≤ c0) (hr1 : Kd.C Kd.string w A1 l1.length l1) (hc1 : l1.length ≤ c1) (h : spec_l8Texts.f k l0 l1 = some r) :
  Calls Tryz.prog 136 #[.slice A0 l0.length c0, .slice A1 l1.length c1] w fun e w' => e = .returned (.bool r) ∧ Drawn0 w w' := by
 have HR0 := am hr0
 have HC0 := am hc0
 clear hr0 hc0
 have HR1 := am hr1
 have HC1 := am hc1
 clear hr1 hc1
 unfold spec_l8Texts.f at h
 have H := h
 clear h
 have H' := am H
 clear H
 go_enter Tryz.func136, Tryz.ntmps136
 go_wp2
 repeat (go_quiet (fail); try go_wp2)
 (try simp only [Act.put, List.setIfInBounds_toArray, List.set_cons_zero, List.set_cons_succ])
 go_loopg [5] k (fun kq v5 w' => ∃ (x5_1 : Int), v5 = .int .i64 x5_1 ∧ Aside0 (spec_l8Texts.l0 kq l0 l1 x5_1 = some r) ∧ Aside0 (kq ≤ k) ∧ Drawn0 w w')
 case atStart => exact ⟨(0), rs, H', ⟨Nat.le_refl _⟩, dr⟩
 case round =>
  clear H'
  try clear c1
  try clear p2
  obtain ⟨x5_1, rfl, HA, HK1, ⟨m1, rfl⟩⟩ := hrel
  cases gk with
  | zero => exact absurd HA.out (by simp [spec_l8Texts.l0])
  | succ k1 =>
   have H := HA.out
   clear HA
   simp only [spec_l8Texts.l0] at H
   have HC3 := am H
   clear H
   go_upto_region 2 with (fail)
   repeat (go_quiet (fail); go_upto_region 2 with (fail))
   go_cut [15] (fun v15 wc => ∃ (kq : Nat) (x15_2 : Bool), v15 = .bool x15_2 ∧ Aside0 (spec_l8Texts.j1 kq l0 l1 x5_1 x15_2 = some r) ∧ Aside0 (kq ≤ k1) ∧ Drawn0 w wc)
   case first =>
    have H := HC3.out
    clear HC3
    by_cases c4 : x5_1 < (l0.length : Int)
    rotate_left
    ·rw [if_neg c4] at H
     have c4b0 := decide_eq_false c4
     clear c4
     (first | rw [c4b0] | (simp only [i64_w, i32_w]; rw [c4b0]) | skip)
     have H' := am H
     clear H
     go_wp2
     repeat (go_quiet (fail); try go_wp2)
     go_meet
     case rel => exact ⟨_, (false), rs, H', ⟨by have := HK1.out; first | omega | exact Nat.le_refl _⟩, dr⟩
    rw [if_pos c4] at H
    have c4b0 := decide_eq_true c4
    clear c4
    (first | rw [c4b0] | (simp only [i64_w, i32_w]; rw [c4b0]) | skip)
    have H' := am H
    clear H
    go_wp2
    repeat (go_quiet (fail); try go_wp2)
    go_meet
    case rel => exact ⟨_, (decide (x5_1 < (l1.length : Int))), rs, H', ⟨by have := HK1.out; first | omega | exact Nat.le_refl _⟩, dr⟩
   case rest =>
    clear HC3
    try clear c1
    try clear p2
    try clear c4
    try clear c4b0
    try clear p2
    obtain ⟨kq, x15_2, rfl, HA, HJ2, ⟨mc2, rfl⟩⟩ := hcut
    cases kq with
    | zero => exact absurd HA.out (by simp [spec_l8Texts.j1])
    | succ kj2 =>
     have H := HA.out
     clear HA
     simp only [spec_l8Texts.j1] at H
     by_cases c5 : x15_2 = true
     rotate_left
     ·replace c5 := Bool.eq_false_iff.mpr c5
      subst c5
      rw [if_neg (show ¬ (false = true) by decide)] at H
      obtain rfl := Option.some.inj H
      go_wp2
      repeat (go_quiet (fail); try go_wp2)
      go_ret
      exact ⟨rs, dr⟩
     subst c5
     rw [if_pos rfl] at H
     revert H
     refine ifn fun c6 H => ?_
     have c6b0 := decide_eq_true c6
     clear c6
     revert H
     refine ifn fun c7 H => ?_
     have c7b0 := decide_eq_true c7
     clear c7
     revert H
     refine ifn fun c8 H => ?_
     have c8b0 := decide_eq_true c8
     clear c8
     by_cases c9 : (rdOf ByteArray.empty l0 x5_1).toList = (rdOf ByteArray.empty l1 x5_1).toList
     rotate_left
     ·rw [if_neg c9] at H
      have c9b0 : ((rdOf ByteArray.empty l0 x5_1).toList == (rdOf ByteArray.empty l1 x5_1).toList) = false := beq_eq_false_iff_ne.mpr c9
      have c9b1 : ((rdOf ByteArray.empty l0 x5_1).toList != (rdOf ByteArray.empty l1 x5_1).toList) = true := bne_iff_ne.mpr c9
      obtain rfl := Option.some.inj H
      have p510 : 0 ≤ (x5_1 : Int) := od
      have q510 : x5_1 < (l0.length : Int) := od
      obtain ⟨ad510, e510, hx510_0⟩ := Kd.at_string HR0.out x5_1 p510 q510
      cases e510
      replace p510 := eq_true p510
      replace q510 := eq_true q510
      have p511 : 0 ≤ (x5_1 : Int) := od
      have q511 : x5_1 < (l1.length : Int) := od
      obtain ⟨ad511, e511, hx511_0⟩ := Kd.at_string HR1.out x5_1 p511 q511
      cases e511
      replace p511 := eq_true p511
      replace q511 := eq_true q511
      go_wp2
      repeat (go_quiet (fail); try go_wp2)
      go_ret
      exact ⟨rs, dr⟩
     rw [if_pos c9] at H
     have c9b0 : ((rdOf ByteArray.empty l0 x5_1).toList == (rdOf ByteArray.empty l1 x5_1).toList) = true := beq_iff_eq.mpr c9
     have c9b1 : ((rdOf ByteArray.empty l0 x5_1).toList != (rdOf ByteArray.empty l1 x5_1).toList) = false := bne_eq_false_iff_eq.mpr c9
     clear c9
     have H' := am H
     clear H
     have p510 : 0 ≤ (x5_1 : Int) := od
     have q510 : x5_1 < (l0.length : Int) := od
     obtain ⟨ad510, e510, hx510_0⟩ := Kd.at_string HR0.out x5_1 p510 q510
     cases e510
     replace p510 := eq_true p510
     replace q510 := eq_true q510
     have p511 : 0 ≤ (x5_1 : Int) := od
     have q511 : x5_1 < (l1.length : Int) := od
     obtain ⟨ad511, e511, hx511_0⟩ := Kd.at_string HR1.out x5_1 p511 q511
     cases e511
     replace p511 := eq_true p511
     replace q511 := eq_true q511
     go_wp2
     repeat (go_quiet (fail); try go_wp2)
     go_roundg kj2
     case measure => have := HK1.out; have := HJ2.out; omega
     case rel => exact ⟨(wrap64 (x5_1 + 1)), rs, H', ⟨by have := HK1.out; have := HJ2.out; omega⟩, dr⟩

/-! ### spec_ObjOk: function 65 -/
theorem u65HB {p : Prop} (h : p := by repeat (first | (with_reducible first | exact HB.out | apply below_alloc | apply pw_below_drewN | apply below_drew1 | refine below_set ?_ GE512.out) | exact HB.out)) : p := h
mutual
def spec_ObjOk.j0 : Nat → Bool → ByteArray → List ByteArray → List ByteArray → Int → List (S116) → ByteArray → Int → Option (Bool)
 | 0, _, _, _, _, _, _, _, _ => none
 | k + 1, x44, x513000, x513001, x513002, x513003, x513004, x513005, x513006 => if x44 = true then (some false) else (spec_ObjOk.l0 k 0 x513000 x513001 x513002 x513003 x513004 x513005 x513006)
def spec_ObjOk.l0 : Nat → Int → ByteArray → List ByteArray → List ByteArray → Int → List (S116) → ByteArray → Int → Option (Bool)
 | 0, _, _, _, _, _, _, _, _ => none
 | k + 1, x3, x513000, x513001, x513002, x513003, x513004, x513005, x513006 => if x3 < (x513002.length : Int) then (if 0 ≤ x3 then ((spec_ValueOk.f k (rdOf ByteArray.empty x513002 x3)).bind fun t522 => (if t522 = true then (spec_ObjOk.l0 k (wrap64 (x3 + 1)) x513000 x513001 x513002 x513003 x513004 x513005 x513006) else (some false))) else (none)) else (some true)
end
def spec_ObjOk.f (k : Nat) (a0_0 : ByteArray) (l0_1 : List ByteArray) (l0_2 : List ByteArray) (a0_3 : Int) (l0_4 : List (S116)) (a0_5 : ByteArray) (a0_6 : Int) : Option (Bool) := (spec_RespOk.f k a0_3 l0_4 a0_5).bind fun t513 => (if t513 = true then ((spec_l3Path.f k a0_0).bind fun t514 => (if t514 = true then ((spec_l1In.f a0_6 0 1000000).bind fun t515 => (if t515 = true then ((spec_l9Names.f k l0_1).bind fun t516 => (if t516 = true then ((spec_VaryOf.f k l0_4).bind fun t517 => ((spec_l8Texts.f k l0_1 t517).bind fun t520 => (if t520 = true then (spec_ObjOk.j0 k ((l0_2.length : Int) != (l0_1.length : Int)) a0_0 l0_1 l0_2 a0_3 l0_4 a0_5 a0_6) else (spec_ObjOk.j0 k true a0_0 l0_1 l0_2 a0_3 l0_4 a0_5 a0_6)))) else (spec_ObjOk.j0 k true a0_0 l0_1 l0_2 a0_3 l0_4 a0_5 a0_6))) else (spec_ObjOk.j0 k true a0_0 l0_1 l0_2 a0_3 l0_4 a0_5 a0_6))) else (spec_ObjOk.j0 k true a0_0 l0_1 l0_2 a0_3 l0_4 a0_5 a0_6))) else (spec_ObjOk.j0 k true a0_0 l0_1 l0_2 a0_3 l0_4 a0_5 a0_6))
def spec_ObjOk.T1 : Bool × List (List Nat × List Nat) := (true, [([], []), ([0], [0]), ([1], [1]), ([2], [2]), ([3, 2], [3]), ([4], [4]), ([5, 4], [4, 5]), ([6, 4, 4], [4, 6]), ([7, 4], [4, 7]), ([4, 8], [4, 8]), ([9, 7], [9]), ([10], [10]), ([11, 10], [10, 11]), ([12, 10, 10], [10, 12]), ([13, 10], [10, 13]), ([10, 14], [10, 14]), ([15, 13], [15]), ([16], [16]), ([17, 16], [16, 17]), ([18, 16, 16], [16, 18]), ([19, 16], [16, 19]), ([16, 20], [16, 20]), ([21, 19], [21]), ([22], [22]), ([23, 22], [22, 23]), ([22], [22]), ([25, 22], [22, 25]), ([26, 22], [22, 26]), ([27, 22, 22], [22, 27]), ([24, 28, 28, 22], [22, 24, 28]), ([29, 22], [22, 29]), ([22, 30], [22, 30]), ([31, 29], [31]), ([32], [32]), ([33, 32], [32, 33]), ([34, 32], [32, 34]), ([32], [32]), ([36, 32], [32, 36]), ([37, 32], [32, 37]), ([35, 38, 32], [32, 35, 38]), ([32, 39], [32, 39])])
def spec_ObjOk.B1 : List Nat := [0, 1, 3, 7, 15, 31, 63, 127, 255, 511, 1023, 2047, 4095, 8191, 16383, 32767, 65535, 131071, 262143, 524287, 1048575, 2097151, 4194303, 8388607, 16777215, 8388607, 41943039, 109051903, 243269631, 536870911, 1073741823, 2147483647, 4294967295, 8589934591, 17179869183, 34359738367, 8589934591, 77309411327, 214748364799, 549755813887, 1099511627775]
theorem spec_ObjOk.tab1 : rtab .any (opsOf Tryz.f65 1) = spec_ObjOk.T1 := by kernel_rfl
theorem spec_ObjOk.bits1 : waitsOk spec_ObjOk.T1.2 spec_ObjOk.B1 = true := by kernel_rfl
set_option maxHeartbeats 8000000 in
set_option maxRecDepth 100000 in
theorem spec_ObjOk.calls (k : Nat) (a0_0 : ByteArray) (A0_1 : Option Addr) (c0_1 : Nat) (l0_1 : List ByteArray) (A0_2 : Option Addr) (c0_2 : Nat) (l0_2 : List ByteArray) (a0_3 : Int) (A0_4 : Option Addr) (c0_4 : Nat) (l0_4 : List (S116)) (a0_5 : ByteArray) (a0_6 : Int) (r : Bool) (w : World) (hr0_1 : Kd.C Kd.string w A0_1 l0_1.length l0_1) (hc0_1 : l0_1.length ≤ c0_1) (hr0_2 : Kd.C Kd.string w A0_2 l0_2.length l0_2) (hc0_2 : l0_2.length ≤ c0_2) (hr0_4 : Kd.C k116 w A0_4 l0_4.length l0_4) (hc0_4 : l0_4.length ≤ c0_4) (h : spec_ObjOk.f k a0_0 l0_1 l0_2 a0_3 l0_4 a0_5 a0_6 = some r) :
  Calls Tryz.prog 65 #[.agg #[.string a0_0, .slice A0_1 l0_1.length c0_1, .slice A0_2 l0_2.length c0_2, .int .i64 a0_3, .slice A0_4 l0_4.length c0_4, .string a0_5, .int .i64 a0_6]] w fun e w' => e = .returned (.bool r) ∧ Below w.heap.size w w' := by
 have hu31 := Tryz.underlying31
 have hu29 := Tryz.underlying29
 have HR0_1 := am hr0_1
 have HC0_1 := am hc0_1
 clear hr0_1 hc0_1
 have HR0_2 := am hr0_2
 have HC0_2 := am hc0_2
 clear hr0_2 hc0_2
 have HR0_4 := am hr0_4
 have HC0_4 := am hc0_4
 clear hr0_4 hc0_4
 have HB := am (Below.refl w.heap.size w)
 unfold spec_ObjOk.f at h
 have H := h
 clear h
 have HC2 := am H
 clear H
 go_enter Tryz.func65, Tryz.ntmps65
 go_upto_region 1 with (first | ((with_reducible refine gate_dst (N := 1) rfl ?_); (try (refine gate_guard (by rfl) ?_; dsimp only)); refine box_event ?hg (N := 1) ?hd (cs := #[.string a0_0, .slice A0_1 l0_1.length c0_1, .slice A0_2 l0_2.length c0_2, .int .i64 a0_3, .slice A0_4 l0_4.length c0_4, .string a0_5, .int .i64 a0_6]) (t := 31) ?hr ?_; (case hd => rfl); (case hg => rfl); (case hr => first | (go_simp; done) | (go_simp; rfl)); intro gb512 hg w3 hbox hb; have BK512 := am (hbox); have GW512 := am (sz hg : w.heap.size ≤ gb512); have GE512 := am (sz hg : w.heap.size ≤ gb512); replace HB := am (below_step bl hb); clear hb hbox hg))
 (try simp only [Act.put, List.setIfInBounds_toArray, List.set_cons_zero, List.set_cons_succ])
 go_cut [44] (fun v44 wc => ∃ (kq : Nat) (x44_1 : Bool), v44 = .bool x44_1 ∧ Aside0 (spec_ObjOk.j0 kq x44_1 a0_0 l0_1 l0_2 a0_3 l0_4 a0_5 a0_6 = some r) ∧ Aside0 (kq ≤ k) ∧ Aside0 (wc.heap[gb512]? = some (.cells #[.string a0_0, (.slice A0_1 l0_1.length c0_1), (.slice A0_2 l0_2.length c0_2), .int .i64 a0_3, (.slice A0_4 l0_4.length c0_4), .string a0_5, .int .i64 a0_6] 31 (0, 0))) ∧ Aside0 (Below w.heap.size w wc))
 case first =>
  have H := HC2.out
  clear HC2
  revert H
  refine ok1 fun t513 A4 H => ?_
  by_cases c5 : t513 = true
  rotate_left
  ·replace c5 := Bool.eq_false_iff.mpr c5
   subst c5
   rw [if_neg (show ¬ (false = true) by decide)] at H
   have H' := am H
   clear H
   try go_wp2
   replace BK512 := am (blk_drew BK512.out)
   replace HB := am (below_drew1 HB.out)
   refine start_ (n := 41) (S := fun w' => w'.cell? ⟨gb512, 0, none⟩ = some (.string a0_0) ∧ w'.cell? ⟨gb512, 1, none⟩ = some (.slice A0_1 l0_1.length c0_1) ∧ w'.cell? ⟨gb512, 2, none⟩ = some (.slice A0_2 l0_2.length c0_2) ∧ w'.cell? ⟨gb512, 3, none⟩ = some (.int .i64 a0_3) ∧ w'.cell? ⟨gb512, 4, none⟩ = some (.slice A0_4 l0_4.length c0_4) ∧ w'.cell? ⟨gb512, 5, none⟩ = some (.string a0_5) ∧ w'.cell? ⟨gb512, 6, none⟩ = some (.int .i64 a0_6)) (ds := []) ⟨br true [0, 41]⟩ (by kernel_rfl) rfl (by kernel_rfl) ⟨bc BK512, bc BK512, bc BK512, bc BK512, bc BK512, bc BK512, bc BK512⟩ (fun hHeld => ?_); refine with_tabW spec_ObjOk.tab1 spec_ObjOk.bits1 (fun HT_ HW_ => ?_)
   generalize w3.drew = w29 at BK512 HB hHeld ⊢
   refine pu 0 4 [1, 40] ?_
   refine tk 1 5 [2, 39] ?_
   refine og 2 6 [3, 38] Tryz.func92 #[.agg #[.int .i64 a0_3, .slice A0_4 l0_4.length c0_4, .string a0_5]] (fun K hK => ?_)
   with_reducible refine (spec_RespOk.calls k a0_3 _ _ l0_4 a0_5 false _ ?side1 ?side2 A4.out).mono ?_
   (case side1 => exact cb HR0_4)
   (case side2 => exact HC0_4.out)
   rintro e w30 ⟨rfl, hb⟩
   refine ⟨_, rfl, ?_⟩
   replace BK512 := kb BK512 hb
   replace HB := am (below_step bl hb)
   clear hb
   refine hK.out _ _ ⟨bc BK512, bc BK512, bc BK512, bc BK512, bc BK512, bc BK512, bc BK512⟩ (fun hHeld => ?_)
   clear hK K
   refine nm 6 ?_
   refine pu 3 7 [4, 37] ?_
   refine pu 4 8 [5, 36] ?_
   refine pd 5 9 [6, 35] ?_
   refine pd 6 10 [7, 34] ?_
   refine pd 7 11 [8, 33] ?_
   refine pd 8 12 [9, 32] ?_
   refine pu 9 13 [10, 31] ?_
   refine pu 10 14 [11, 30] ?_
   refine pd 11 15 [12, 29] ?_
   refine pd 12 16 [13, 28] ?_
   refine pd 13 17 [14, 27] ?_
   refine pd 14 18 [15, 26] ?_
   refine pu 15 19 [16, 25] ?_
   refine pu 16 20 [17, 24] ?_
   refine pd 17 21 [18, 23] ?_
   refine pd 18 22 [19, 22] ?_
   refine pd 19 23 [20, 21] ?_
   refine pd 20 24 [21, 20] ?_
   refine pu 21 25 [22, 19] ?_
   refine pu 22 26 [23, 18] ?_
   refine pd 23 27 [24, 17] ?_
   refine pd 24 28 [25, 16] ?_
   refine pd 25 29 [26, 15] ?_
   refine pd 26 30 [27, 14] ?_
   refine pd 27 31 [28, 13] ?_
   refine pd 28 32 [29, 12] ?_
   refine pd 29 33 [30, 11] ?_
   refine pd 30 34 [31, 10] ?_
   refine pu 31 35 [32, 9] ?_
   refine pu 32 36 [33, 8] ?_
   refine pd 33 37 [34, 7] ?_
   refine pd 34 38 [35, 6] ?_
   refine pd 35 39 [36, 5] ?_
   refine pd 36 40 [37, 4] ?_
   refine pd 37 41 [38, 3] ?_
   refine pd 38 42 [39, 2] ?_
   refine pd 39 43 [40, 1] ?_
   refine pu 40 44 [41] ?_
   refine done_ (done_of HT_.out (by kernel_rfl)) ?_
   try go_wp2
   go_meet
   case rel => exact ⟨_, (true), rs, H', ⟨by first | omega | exact Nat.le_refl _⟩, ⟨by (with_reducible repeat (first | refine blk_drewN ?_ _ | refine blk_drew ?_ | refine blk_alloc ?_ _)); exact BK512.out⟩, ⟨u65HB⟩⟩
  subst c5
  rw [if_pos rfl] at H
  revert H
  refine ok1 fun t514 A6 H => ?_
  by_cases c7 : t514 = true
  rotate_left
  ·replace c7 := Bool.eq_false_iff.mpr c7
   subst c7
   rw [if_neg (show ¬ (false = true) by decide)] at H
   have H' := am H
   clear H
   try go_wp2
   replace BK512 := am (blk_drew BK512.out)
   replace HB := am (below_drew1 HB.out)
   refine start_ (n := 41) (S := fun w' => w'.cell? ⟨gb512, 0, none⟩ = some (.string a0_0) ∧ w'.cell? ⟨gb512, 1, none⟩ = some (.slice A0_1 l0_1.length c0_1) ∧ w'.cell? ⟨gb512, 2, none⟩ = some (.slice A0_2 l0_2.length c0_2) ∧ w'.cell? ⟨gb512, 3, none⟩ = some (.int .i64 a0_3) ∧ w'.cell? ⟨gb512, 4, none⟩ = some (.slice A0_4 l0_4.length c0_4) ∧ w'.cell? ⟨gb512, 5, none⟩ = some (.string a0_5) ∧ w'.cell? ⟨gb512, 6, none⟩ = some (.int .i64 a0_6)) (ds := []) ⟨br true [0, 41]⟩ (by kernel_rfl) rfl (by kernel_rfl) ⟨bc BK512, bc BK512, bc BK512, bc BK512, bc BK512, bc BK512, bc BK512⟩ (fun hHeld => ?_); refine with_tabW spec_ObjOk.tab1 spec_ObjOk.bits1 (fun HT_ HW_ => ?_)
   generalize w3.drew = w27 at BK512 HB hHeld ⊢
   refine pu 0 4 [1, 40] ?_
   refine tk 1 5 [2, 39] ?_
   refine og 2 6 [3, 38] Tryz.func92 #[.agg #[.int .i64 a0_3, .slice A0_4 l0_4.length c0_4, .string a0_5]] (fun K hK => ?_)
   with_reducible refine (spec_RespOk.calls k a0_3 _ _ l0_4 a0_5 true _ ?side1 ?side2 A4.out).mono ?_
   (case side1 => exact cb HR0_4)
   (case side2 => exact HC0_4.out)
   rintro e w28 ⟨rfl, hb⟩
   refine ⟨_, rfl, ?_⟩
   replace BK512 := kb BK512 hb
   replace HB := am (below_step bl hb)
   clear hb
   refine hK.out _ _ ⟨bc BK512, bc BK512, bc BK512, bc BK512, bc BK512, bc BK512, bc BK512⟩ (fun hHeld => ?_)
   clear hK K
   refine nm 6 ?_
   refine pu 3 7 [4, 37] ?_
   refine pu 4 8 [5, 36] ?_
   refine pu 5 9 [6, 35] ?_
   refine tk 6 10 [7, 34] ?_
   refine og 7 11 [8, 33] Tryz.func133 #[.string a0_0] (fun K hK => ?_)
   with_reducible refine (spec_l3Path.calls k a0_0 false _ A6.out).mono ?_
   rintro e w' ⟨rfl, ⟨nd, rfl⟩⟩
   refine ⟨_, rfl, ?_⟩
   refine hK.out _ _ ⟨bc BK512, bc BK512, bc BK512, bc BK512, bc BK512, bc BK512, bc BK512⟩ (fun hHeld => ?_)
   clear hK K
   refine nm 11 ?_
   refine pu 8 12 [9, 32] ?_
   refine pu 9 13 [10, 31] ?_
   refine pu 10 14 [11, 30] ?_
   refine pd 11 15 [12, 29] ?_
   refine pd 12 16 [13, 28] ?_
   refine pd 13 17 [14, 27] ?_
   refine pd 14 18 [15, 26] ?_
   refine pu 15 19 [16, 25] ?_
   refine pu 16 20 [17, 24] ?_
   refine pd 17 21 [18, 23] ?_
   refine pd 18 22 [19, 22] ?_
   refine pd 19 23 [20, 21] ?_
   refine pd 20 24 [21, 20] ?_
   refine pu 21 25 [22, 19] ?_
   refine pu 22 26 [23, 18] ?_
   refine pd 23 27 [24, 17] ?_
   refine pd 24 28 [25, 16] ?_
   refine pd 25 29 [26, 15] ?_
   refine pd 26 30 [27, 14] ?_
   refine pd 27 31 [28, 13] ?_
   refine pd 28 32 [29, 12] ?_
   refine pd 29 33 [30, 11] ?_
   refine pd 30 34 [31, 10] ?_
   refine pu 31 35 [32, 9] ?_
   refine pu 32 36 [33, 8] ?_
   refine pd 33 37 [34, 7] ?_
   refine pd 34 38 [35, 6] ?_
   refine pd 35 39 [36, 5] ?_
   refine pd 36 40 [37, 4] ?_
   refine pd 37 41 [38, 3] ?_
   refine pd 38 42 [39, 2] ?_
   refine pd 39 43 [40, 1] ?_
   refine pu 40 44 [41] ?_
   refine done_ (done_of HT_.out (by kernel_rfl)) ?_
   try go_wp2
   go_meet
   case rel => exact ⟨_, (true), rs, H', ⟨by first | omega | exact Nat.le_refl _⟩, ⟨by (with_reducible repeat (first | refine blk_drewN ?_ _ | refine blk_drew ?_ | refine blk_alloc ?_ _)); exact BK512.out⟩, ⟨u65HB⟩⟩
  subst c7
  rw [if_pos rfl] at H
  revert H
  refine ok1 fun t515 A8 H => ?_
  by_cases c9 : t515 = true
  rotate_left
  ·replace c9 := Bool.eq_false_iff.mpr c9
   subst c9
   rw [if_neg (show ¬ (false = true) by decide)] at H
   have H' := am H
   clear H
   try go_wp2
   replace BK512 := am (blk_drew BK512.out)
   replace HB := am (below_drew1 HB.out)
   refine start_ (n := 41) (S := fun w' => w'.cell? ⟨gb512, 0, none⟩ = some (.string a0_0) ∧ w'.cell? ⟨gb512, 1, none⟩ = some (.slice A0_1 l0_1.length c0_1) ∧ w'.cell? ⟨gb512, 2, none⟩ = some (.slice A0_2 l0_2.length c0_2) ∧ w'.cell? ⟨gb512, 3, none⟩ = some (.int .i64 a0_3) ∧ w'.cell? ⟨gb512, 4, none⟩ = some (.slice A0_4 l0_4.length c0_4) ∧ w'.cell? ⟨gb512, 5, none⟩ = some (.string a0_5) ∧ w'.cell? ⟨gb512, 6, none⟩ = some (.int .i64 a0_6)) (ds := []) ⟨br true [0, 41]⟩ (by kernel_rfl) rfl (by kernel_rfl) ⟨bc BK512, bc BK512, bc BK512, bc BK512, bc BK512, bc BK512, bc BK512⟩ (fun hHeld => ?_); refine with_tabW spec_ObjOk.tab1 spec_ObjOk.bits1 (fun HT_ HW_ => ?_)
   generalize w3.drew = w25 at BK512 HB hHeld ⊢
   refine pu 0 4 [1, 40] ?_
   refine tk 1 5 [2, 39] ?_
   refine og 2 6 [3, 38] Tryz.func92 #[.agg #[.int .i64 a0_3, .slice A0_4 l0_4.length c0_4, .string a0_5]] (fun K hK => ?_)
   with_reducible refine (spec_RespOk.calls k a0_3 _ _ l0_4 a0_5 true _ ?side1 ?side2 A4.out).mono ?_
   (case side1 => exact cb HR0_4)
   (case side2 => exact HC0_4.out)
   rintro e w26 ⟨rfl, hb⟩
   refine ⟨_, rfl, ?_⟩
   replace BK512 := kb BK512 hb
   replace HB := am (below_step bl hb)
   clear hb
   refine hK.out _ _ ⟨bc BK512, bc BK512, bc BK512, bc BK512, bc BK512, bc BK512, bc BK512⟩ (fun hHeld => ?_)
   clear hK K
   refine nm 6 ?_
   refine pu 3 7 [4, 37] ?_
   refine pu 4 8 [5, 36] ?_
   refine pu 5 9 [6, 35] ?_
   refine tk 6 10 [7, 34] ?_
   refine og 7 11 [8, 33] Tryz.func133 #[.string a0_0] (fun K hK => ?_)
   with_reducible refine (spec_l3Path.calls k a0_0 true _ A6.out).mono ?_
   rintro e w' ⟨rfl, ⟨nd, rfl⟩⟩
   refine ⟨_, rfl, ?_⟩
   refine hK.out _ _ ⟨bc BK512, bc BK512, bc BK512, bc BK512, bc BK512, bc BK512, bc BK512⟩ (fun hHeld => ?_)
   clear hK K
   refine nm 11 ?_
   refine pu 8 12 [9, 32] ?_
   refine pu 9 13 [10, 31] ?_
   refine pu 10 14 [11, 30] ?_
   refine pu 11 15 [12, 29] ?_
   refine tk 12 16 [13, 28] ?_
   refine og 13 17 [14, 27] Tryz.func79 #[.int .i64 a0_6, .int .i64 0, .int .i64 1000000] (fun K hK => ?_)
   with_reducible refine (spec_l1In.calls a0_6 0 1000000 false _ A8.out).mono ?_
   rintro e w' ⟨rfl, ⟨nd, rfl⟩⟩
   refine ⟨_, rfl, ?_⟩
   refine hK.out _ _ ⟨bc BK512, bc BK512, bc BK512, bc BK512, bc BK512, bc BK512, bc BK512⟩ (fun hHeld => ?_)
   clear hK K
   refine nm 17 ?_
   refine pu 14 18 [15, 26] ?_
   refine pu 15 19 [16, 25] ?_
   refine pu 16 20 [17, 24] ?_
   refine pd 17 21 [18, 23] ?_
   refine pd 18 22 [19, 22] ?_
   refine pd 19 23 [20, 21] ?_
   refine pd 20 24 [21, 20] ?_
   refine pu 21 25 [22, 19] ?_
   refine pu 22 26 [23, 18] ?_
   refine pd 23 27 [24, 17] ?_
   refine pd 24 28 [25, 16] ?_
   refine pd 25 29 [26, 15] ?_
   refine pd 26 30 [27, 14] ?_
   refine pd 27 31 [28, 13] ?_
   refine pd 28 32 [29, 12] ?_
   refine pd 29 33 [30, 11] ?_
   refine pd 30 34 [31, 10] ?_
   refine pu 31 35 [32, 9] ?_
   refine pu 32 36 [33, 8] ?_
   refine pd 33 37 [34, 7] ?_
   refine pd 34 38 [35, 6] ?_
   refine pd 35 39 [36, 5] ?_
   refine pd 36 40 [37, 4] ?_
   refine pd 37 41 [38, 3] ?_
   refine pd 38 42 [39, 2] ?_
   refine pd 39 43 [40, 1] ?_
   refine pu 40 44 [41] ?_
   refine done_ (done_of HT_.out (by kernel_rfl)) ?_
   try go_wp2
   go_meet
   case rel => exact ⟨_, (true), rs, H', ⟨by first | omega | exact Nat.le_refl _⟩, ⟨by (with_reducible repeat (first | refine blk_drewN ?_ _ | refine blk_drew ?_ | refine blk_alloc ?_ _)); exact BK512.out⟩, ⟨u65HB⟩⟩
  subst c9
  rw [if_pos rfl] at H
  revert H
  refine ok1 fun t516 A10 H => ?_
  by_cases c11 : t516 = true
  rotate_left
  ·replace c11 := Bool.eq_false_iff.mpr c11
   subst c11
   rw [if_neg (show ¬ (false = true) by decide)] at H
   have H' := am H
   clear H
   try go_wp2
   replace BK512 := am (blk_drew BK512.out)
   replace HB := am (below_drew1 HB.out)
   refine start_ (n := 41) (S := fun w' => w'.cell? ⟨gb512, 0, none⟩ = some (.string a0_0) ∧ w'.cell? ⟨gb512, 1, none⟩ = some (.slice A0_1 l0_1.length c0_1) ∧ w'.cell? ⟨gb512, 2, none⟩ = some (.slice A0_2 l0_2.length c0_2) ∧ w'.cell? ⟨gb512, 3, none⟩ = some (.int .i64 a0_3) ∧ w'.cell? ⟨gb512, 4, none⟩ = some (.slice A0_4 l0_4.length c0_4) ∧ w'.cell? ⟨gb512, 5, none⟩ = some (.string a0_5) ∧ w'.cell? ⟨gb512, 6, none⟩ = some (.int .i64 a0_6)) (ds := []) ⟨br true [0, 41]⟩ (by kernel_rfl) rfl (by kernel_rfl) ⟨bc BK512, bc BK512, bc BK512, bc BK512, bc BK512, bc BK512, bc BK512⟩ (fun hHeld => ?_); refine with_tabW spec_ObjOk.tab1 spec_ObjOk.bits1 (fun HT_ HW_ => ?_)
   generalize w3.drew = w23 at BK512 HB hHeld ⊢
   refine pu 0 4 [1, 40] ?_
   refine tk 1 5 [2, 39] ?_
   refine og 2 6 [3, 38] Tryz.func92 #[.agg #[.int .i64 a0_3, .slice A0_4 l0_4.length c0_4, .string a0_5]] (fun K hK => ?_)
   with_reducible refine (spec_RespOk.calls k a0_3 _ _ l0_4 a0_5 true _ ?side1 ?side2 A4.out).mono ?_
   (case side1 => exact cb HR0_4)
   (case side2 => exact HC0_4.out)
   rintro e w24 ⟨rfl, hb⟩
   refine ⟨_, rfl, ?_⟩
   replace BK512 := kb BK512 hb
   replace HB := am (below_step bl hb)
   clear hb
   refine hK.out _ _ ⟨bc BK512, bc BK512, bc BK512, bc BK512, bc BK512, bc BK512, bc BK512⟩ (fun hHeld => ?_)
   clear hK K
   refine nm 6 ?_
   refine pu 3 7 [4, 37] ?_
   refine pu 4 8 [5, 36] ?_
   refine pu 5 9 [6, 35] ?_
   refine tk 6 10 [7, 34] ?_
   refine og 7 11 [8, 33] Tryz.func133 #[.string a0_0] (fun K hK => ?_)
   with_reducible refine (spec_l3Path.calls k a0_0 true _ A6.out).mono ?_
   rintro e w' ⟨rfl, ⟨nd, rfl⟩⟩
   refine ⟨_, rfl, ?_⟩
   refine hK.out _ _ ⟨bc BK512, bc BK512, bc BK512, bc BK512, bc BK512, bc BK512, bc BK512⟩ (fun hHeld => ?_)
   clear hK K
   refine nm 11 ?_
   refine pu 8 12 [9, 32] ?_
   refine pu 9 13 [10, 31] ?_
   refine pu 10 14 [11, 30] ?_
   refine pu 11 15 [12, 29] ?_
   refine tk 12 16 [13, 28] ?_
   refine og 13 17 [14, 27] Tryz.func79 #[.int .i64 a0_6, .int .i64 0, .int .i64 1000000] (fun K hK => ?_)
   with_reducible refine (spec_l1In.calls a0_6 0 1000000 true _ A8.out).mono ?_
   rintro e w' ⟨rfl, ⟨nd, rfl⟩⟩
   refine ⟨_, rfl, ?_⟩
   refine hK.out _ _ ⟨bc BK512, bc BK512, bc BK512, bc BK512, bc BK512, bc BK512, bc BK512⟩ (fun hHeld => ?_)
   clear hK K
   refine nm 17 ?_
   refine pu 14 18 [15, 26] ?_
   refine pu 15 19 [16, 25] ?_
   refine pu 16 20 [17, 24] ?_
   refine pu 17 21 [18, 23] ?_
   refine tk 18 22 [19, 22] ?_
   refine og 19 23 [20, 21] Tryz.func93 #[.slice A0_1 l0_1.length c0_1] (fun K hK => ?_)
   with_reducible refine (spec_l9Names.calls k _ _ l0_1 false _ ?side1 ?side2 A10.out).mono ?_
   (case side1 => repeat (first | exact (Kd.C_below HR0_1.out bl) | (with_reducible refine Kd.C_alloc ?_ _) | (with_reducible refine Kd.C_drewN ?_ _) | (with_reducible refine Kd.C_drew ?_)))
   (case side2 => exact HC0_1.out)
   rintro e w' ⟨rfl, ⟨nd, rfl⟩⟩
   refine ⟨_, rfl, ?_⟩
   refine hK.out _ _ ⟨bc BK512, bc BK512, bc BK512, bc BK512, bc BK512, bc BK512, bc BK512⟩ (fun hHeld => ?_)
   clear hK K
   refine nm 23 ?_
   refine pu 20 24 [21, 20] ?_
   refine pu 21 25 [22, 19] ?_
   refine pu 22 26 [23, 18] ?_
   refine pd 23 27 [24, 17] ?_
   refine pd 24 28 [25, 16] ?_
   refine pd 25 29 [26, 15] ?_
   refine pd 26 30 [27, 14] ?_
   refine pd 27 31 [28, 13] ?_
   refine pd 28 32 [29, 12] ?_
   refine pd 29 33 [30, 11] ?_
   refine pd 30 34 [31, 10] ?_
   refine pu 31 35 [32, 9] ?_
   refine pu 32 36 [33, 8] ?_
   refine pd 33 37 [34, 7] ?_
   refine pd 34 38 [35, 6] ?_
   refine pd 35 39 [36, 5] ?_
   refine pd 36 40 [37, 4] ?_
   refine pd 37 41 [38, 3] ?_
   refine pd 38 42 [39, 2] ?_
   refine pd 39 43 [40, 1] ?_
   refine pu 40 44 [41] ?_
   refine done_ (done_of HT_.out (by kernel_rfl)) ?_
   try go_wp2
   go_meet
   case rel => exact ⟨_, (true), rs, H', ⟨by first | omega | exact Nat.le_refl _⟩, ⟨by (with_reducible repeat (first | refine blk_drewN ?_ _ | refine blk_drew ?_ | refine blk_alloc ?_ _)); exact BK512.out⟩, ⟨u65HB⟩⟩
  subst c11
  rw [if_pos rfl] at H
  revert H
  refine ok1 fun t517 A12 H => ?_
  revert H
  refine ok1 fun t520 A13 H => ?_
  by_cases c14 : t520 = true
  ·subst c14
   rw [if_pos rfl] at H
   have H' := am H
   clear H
   try go_wp2
   replace BK512 := am (blk_drew BK512.out)
   replace HB := am (below_drew1 HB.out)
   refine start_ (n := 41) (S := fun w' => w'.cell? ⟨gb512, 0, none⟩ = some (.string a0_0) ∧ w'.cell? ⟨gb512, 1, none⟩ = some (.slice A0_1 l0_1.length c0_1) ∧ w'.cell? ⟨gb512, 2, none⟩ = some (.slice A0_2 l0_2.length c0_2) ∧ w'.cell? ⟨gb512, 3, none⟩ = some (.int .i64 a0_3) ∧ w'.cell? ⟨gb512, 4, none⟩ = some (.slice A0_4 l0_4.length c0_4) ∧ w'.cell? ⟨gb512, 5, none⟩ = some (.string a0_5) ∧ w'.cell? ⟨gb512, 6, none⟩ = some (.int .i64 a0_6)) (ds := []) ⟨br true [0, 41]⟩ (by kernel_rfl) rfl (by kernel_rfl) ⟨bc BK512, bc BK512, bc BK512, bc BK512, bc BK512, bc BK512, bc BK512⟩ (fun hHeld => ?_); refine with_tabW spec_ObjOk.tab1 spec_ObjOk.bits1 (fun HT_ HW_ => ?_)
   generalize w3.drew = w15 at BK512 HB hHeld ⊢
   refine pu 0 4 [1, 40] ?_
   refine tk 1 5 [2, 39] ?_
   refine og 2 6 [3, 38] Tryz.func92 #[.agg #[.int .i64 a0_3, .slice A0_4 l0_4.length c0_4, .string a0_5]] (fun K hK => ?_)
   with_reducible refine (spec_RespOk.calls k a0_3 _ _ l0_4 a0_5 true _ ?side1 ?side2 A4.out).mono ?_
   (case side1 => exact cb HR0_4)
   (case side2 => exact HC0_4.out)
   rintro e w16 ⟨rfl, hb⟩
   refine ⟨_, rfl, ?_⟩
   replace BK512 := kb BK512 hb
   replace HB := am (below_step bl hb)
   clear hb
   refine hK.out _ _ ⟨bc BK512, bc BK512, bc BK512, bc BK512, bc BK512, bc BK512, bc BK512⟩ (fun hHeld => ?_)
   clear hK K
   refine nm 6 ?_
   refine pu 3 7 [4, 37] ?_
   refine pu 4 8 [5, 36] ?_
   refine pu 5 9 [6, 35] ?_
   refine tk 6 10 [7, 34] ?_
   refine og 7 11 [8, 33] Tryz.func133 #[.string a0_0] (fun K hK => ?_)
   with_reducible refine (spec_l3Path.calls k a0_0 true _ A6.out).mono ?_
   rintro e w' ⟨rfl, ⟨nd, rfl⟩⟩
   refine ⟨_, rfl, ?_⟩
   refine hK.out _ _ ⟨bc BK512, bc BK512, bc BK512, bc BK512, bc BK512, bc BK512, bc BK512⟩ (fun hHeld => ?_)
   clear hK K
   refine nm 11 ?_
   refine pu 8 12 [9, 32] ?_
   refine pu 9 13 [10, 31] ?_
   refine pu 10 14 [11, 30] ?_
   refine pu 11 15 [12, 29] ?_
   refine tk 12 16 [13, 28] ?_
   refine og 13 17 [14, 27] Tryz.func79 #[.int .i64 a0_6, .int .i64 0, .int .i64 1000000] (fun K hK => ?_)
   with_reducible refine (spec_l1In.calls a0_6 0 1000000 true _ A8.out).mono ?_
   rintro e w' ⟨rfl, ⟨nd, rfl⟩⟩
   refine ⟨_, rfl, ?_⟩
   refine hK.out _ _ ⟨bc BK512, bc BK512, bc BK512, bc BK512, bc BK512, bc BK512, bc BK512⟩ (fun hHeld => ?_)
   clear hK K
   refine nm 17 ?_
   refine pu 14 18 [15, 26] ?_
   refine pu 15 19 [16, 25] ?_
   refine pu 16 20 [17, 24] ?_
   refine pu 17 21 [18, 23] ?_
   refine tk 18 22 [19, 22] ?_
   refine og 19 23 [20, 21] Tryz.func93 #[.slice A0_1 l0_1.length c0_1] (fun K hK => ?_)
   with_reducible refine (spec_l9Names.calls k _ _ l0_1 true _ ?side1 ?side2 A10.out).mono ?_
   (case side1 => repeat (first | exact (Kd.C_below HR0_1.out bl) | (with_reducible refine Kd.C_alloc ?_ _) | (with_reducible refine Kd.C_drewN ?_ _) | (with_reducible refine Kd.C_drew ?_)))
   (case side2 => exact HC0_1.out)
   rintro e w' ⟨rfl, ⟨nd, rfl⟩⟩
   refine ⟨_, rfl, ?_⟩
   refine hK.out _ _ ⟨bc BK512, bc BK512, bc BK512, bc BK512, bc BK512, bc BK512, bc BK512⟩ (fun hHeld => ?_)
   clear hK K
   refine nm 23 ?_
   refine pu 20 24 [21, 20] ?_
   refine pu 21 25 [22, 19] ?_
   refine pu 22 26 [23, 18] ?_
   refine pu 23 27 [24, 17] ?_
   refine pu 25 29 [24, 1, 1, 15] ?_
   refine pu 26 30 [24, 1, 2, 14] ?_
   refine tk 24 28 [27, 14] ?_
   refine tk 27 31 [28, 13] ?_
   refine og 28 32 [29, 12] Tryz.func94 #[.slice A0_4 l0_4.length c0_4] (fun K hK => ?_)
   with_reducible refine (spec_VaryOf.calls k _ _ l0_4 t517 _ ?side1 ?side2 A12.out).mono ?_
   (case side1 => repeat (first | exact (Kd.C_below HR0_4.out bl) | (with_reducible refine Kd.C_alloc ?_ _) | (with_reducible refine Kd.C_drewN ?_ _) | (with_reducible refine Kd.C_drew ?_)))
   (case side2 => exact HC0_4.out)
   rintro e w17 ⟨v518, rfl, ho0, hb⟩
   refine ⟨_, rfl, ?_⟩
   have HO519 := am (Kd.R_lower ho0 (below_size bl))
   replace BK512 := kb BK512 hb
   replace HB := am (below_step bl hb)
   clear hb ho0
   obtain ⟨Ao18, co18, eo18⟩ := Kd.R_slice HO519.out
   (first | subst eo18 | (injection eo18 with f1_ f2_ f3_; have f4_ := f1_.symm; have f5_ := f3_.symm; clear f1_ f2_ f3_; subst f4_; subst f5_))
   refine hK.out _ _ ⟨bc BK512, bc BK512, bc BK512, bc BK512, bc BK512, bc BK512, bc BK512⟩ (fun hHeld => ?_)
   clear hK K
   refine nm 32 ?_
   refine og 29 33 [30, 11] Tryz.func136 #[.slice A0_1 l0_1.length c0_1, .slice Ao18 t517.length co18] (fun K hK => ?_)
   with_reducible refine (spec_l8Texts.calls k _ _ l0_1 _ _ t517 true _ ?side1 ?side2 ?side3 ?side4 A13.out).mono ?_
   (case side1 => exact cb HR0_1)
   (case side2 => exact HC0_1.out)
   (case side3 => exact rc HO519)
   (case side4 => exact (Kd.R_reads' HO519.out).2.1)
   rintro e w' ⟨rfl, ⟨nd, rfl⟩⟩
   refine ⟨_, rfl, ?_⟩
   refine hK.out _ _ ⟨bc BK512, bc BK512, bc BK512, bc BK512, bc BK512, bc BK512, bc BK512⟩ (fun hHeld => ?_)
   clear hK K
   refine nm 33 ?_
   refine pu 30 34 [31, 10] ?_
   refine pu 31 35 [32, 9] ?_
   refine pu 32 36 [33, 8] ?_
   refine pu 33 37 [34, 7] ?_
   refine pu 36 40 [34, 2, 1, 4] ?_
   refine tk 34 38 [35, 1, 1, 4] ?_
   refine pu 35 39 [37, 4] ?_
   refine tk 37 41 [38, 3] ?_
   refine pu 38 42 [39, 2] ?_
   refine pu 39 43 [40, 1] ?_
   refine pu 40 44 [41] ?_
   refine done_ (done_of HT_.out (by kernel_rfl)) ?_
   try go_wp2
   go_meet
   case rel => exact ⟨_, (((l0_2.length : Int) != (l0_1.length : Int))), rs, H', ⟨by first | omega | exact Nat.le_refl _⟩, ⟨by (with_reducible repeat (first | refine blk_drewN ?_ _ | refine blk_drew ?_ | refine blk_alloc ?_ _)); exact BK512.out⟩, ⟨u65HB⟩⟩
  replace c14 := Bool.eq_false_iff.mpr c14
  subst c14
  rw [if_neg (show ¬ (false = true) by decide)] at H
  have H' := am H
  clear H
  try go_wp2
  replace BK512 := am (blk_drew BK512.out)
  replace HB := am (below_drew1 HB.out)
  refine start_ (n := 41) (S := fun w' => w'.cell? ⟨gb512, 0, none⟩ = some (.string a0_0) ∧ w'.cell? ⟨gb512, 1, none⟩ = some (.slice A0_1 l0_1.length c0_1) ∧ w'.cell? ⟨gb512, 2, none⟩ = some (.slice A0_2 l0_2.length c0_2) ∧ w'.cell? ⟨gb512, 3, none⟩ = some (.int .i64 a0_3) ∧ w'.cell? ⟨gb512, 4, none⟩ = some (.slice A0_4 l0_4.length c0_4) ∧ w'.cell? ⟨gb512, 5, none⟩ = some (.string a0_5) ∧ w'.cell? ⟨gb512, 6, none⟩ = some (.int .i64 a0_6)) (ds := []) ⟨br true [0, 41]⟩ (by kernel_rfl) rfl (by kernel_rfl) ⟨bc BK512, bc BK512, bc BK512, bc BK512, bc BK512, bc BK512, bc BK512⟩ (fun hHeld => ?_); refine with_tabW spec_ObjOk.tab1 spec_ObjOk.bits1 (fun HT_ HW_ => ?_)
  generalize w3.drew = w19 at BK512 HB hHeld ⊢
  refine pu 0 4 [1, 40] ?_
  refine tk 1 5 [2, 39] ?_
  refine og 2 6 [3, 38] Tryz.func92 #[.agg #[.int .i64 a0_3, .slice A0_4 l0_4.length c0_4, .string a0_5]] (fun K hK => ?_)
  with_reducible refine (spec_RespOk.calls k a0_3 _ _ l0_4 a0_5 true _ ?side1 ?side2 A4.out).mono ?_
  (case side1 => exact cb HR0_4)
  (case side2 => exact HC0_4.out)
  rintro e w20 ⟨rfl, hb⟩
  refine ⟨_, rfl, ?_⟩
  replace BK512 := kb BK512 hb
  replace HB := am (below_step bl hb)
  clear hb
  refine hK.out _ _ ⟨bc BK512, bc BK512, bc BK512, bc BK512, bc BK512, bc BK512, bc BK512⟩ (fun hHeld => ?_)
  clear hK K
  refine nm 6 ?_
  refine pu 3 7 [4, 37] ?_
  refine pu 4 8 [5, 36] ?_
  refine pu 5 9 [6, 35] ?_
  refine tk 6 10 [7, 34] ?_
  refine og 7 11 [8, 33] Tryz.func133 #[.string a0_0] (fun K hK => ?_)
  with_reducible refine (spec_l3Path.calls k a0_0 true _ A6.out).mono ?_
  rintro e w' ⟨rfl, ⟨nd, rfl⟩⟩
  refine ⟨_, rfl, ?_⟩
  refine hK.out _ _ ⟨bc BK512, bc BK512, bc BK512, bc BK512, bc BK512, bc BK512, bc BK512⟩ (fun hHeld => ?_)
  clear hK K
  refine nm 11 ?_
  refine pu 8 12 [9, 32] ?_
  refine pu 9 13 [10, 31] ?_
  refine pu 10 14 [11, 30] ?_
  refine pu 11 15 [12, 29] ?_
  refine tk 12 16 [13, 28] ?_
  refine og 13 17 [14, 27] Tryz.func79 #[.int .i64 a0_6, .int .i64 0, .int .i64 1000000] (fun K hK => ?_)
  with_reducible refine (spec_l1In.calls a0_6 0 1000000 true _ A8.out).mono ?_
  rintro e w' ⟨rfl, ⟨nd, rfl⟩⟩
  refine ⟨_, rfl, ?_⟩
  refine hK.out _ _ ⟨bc BK512, bc BK512, bc BK512, bc BK512, bc BK512, bc BK512, bc BK512⟩ (fun hHeld => ?_)
  clear hK K
  refine nm 17 ?_
  refine pu 14 18 [15, 26] ?_
  refine pu 15 19 [16, 25] ?_
  refine pu 16 20 [17, 24] ?_
  refine pu 17 21 [18, 23] ?_
  refine tk 18 22 [19, 22] ?_
  refine og 19 23 [20, 21] Tryz.func93 #[.slice A0_1 l0_1.length c0_1] (fun K hK => ?_)
  with_reducible refine (spec_l9Names.calls k _ _ l0_1 true _ ?side1 ?side2 A10.out).mono ?_
  (case side1 => repeat (first | exact (Kd.C_below HR0_1.out bl) | (with_reducible refine Kd.C_alloc ?_ _) | (with_reducible refine Kd.C_drewN ?_ _) | (with_reducible refine Kd.C_drew ?_)))
  (case side2 => exact HC0_1.out)
  rintro e w' ⟨rfl, ⟨nd, rfl⟩⟩
  refine ⟨_, rfl, ?_⟩
  refine hK.out _ _ ⟨bc BK512, bc BK512, bc BK512, bc BK512, bc BK512, bc BK512, bc BK512⟩ (fun hHeld => ?_)
  clear hK K
  refine nm 23 ?_
  refine pu 20 24 [21, 20] ?_
  refine pu 21 25 [22, 19] ?_
  refine pu 22 26 [23, 18] ?_
  refine pu 23 27 [24, 17] ?_
  refine pu 25 29 [24, 1, 1, 15] ?_
  refine pu 26 30 [24, 1, 2, 14] ?_
  refine tk 24 28 [27, 14] ?_
  refine tk 27 31 [28, 13] ?_
  refine og 28 32 [29, 12] Tryz.func94 #[.slice A0_4 l0_4.length c0_4] (fun K hK => ?_)
  with_reducible refine (spec_VaryOf.calls k _ _ l0_4 t517 _ ?side1 ?side2 A12.out).mono ?_
  (case side1 => repeat (first | exact (Kd.C_below HR0_4.out bl) | (with_reducible refine Kd.C_alloc ?_ _) | (with_reducible refine Kd.C_drewN ?_ _) | (with_reducible refine Kd.C_drew ?_)))
  (case side2 => exact HC0_4.out)
  rintro e w21 ⟨v518, rfl, ho0, hb⟩
  refine ⟨_, rfl, ?_⟩
  have HO519 := am (Kd.R_lower ho0 (below_size bl))
  replace BK512 := kb BK512 hb
  replace HB := am (below_step bl hb)
  clear hb ho0
  obtain ⟨Ao22, co22, eo22⟩ := Kd.R_slice HO519.out
  (first | subst eo22 | (injection eo22 with f1_ f2_ f3_; have f4_ := f1_.symm; have f5_ := f3_.symm; clear f1_ f2_ f3_; subst f4_; subst f5_))
  refine hK.out _ _ ⟨bc BK512, bc BK512, bc BK512, bc BK512, bc BK512, bc BK512, bc BK512⟩ (fun hHeld => ?_)
  clear hK K
  refine nm 32 ?_
  refine og 29 33 [30, 11] Tryz.func136 #[.slice A0_1 l0_1.length c0_1, .slice Ao22 t517.length co22] (fun K hK => ?_)
  with_reducible refine (spec_l8Texts.calls k _ _ l0_1 _ _ t517 false _ ?side1 ?side2 ?side3 ?side4 A13.out).mono ?_
  (case side1 => exact cb HR0_1)
  (case side2 => exact HC0_1.out)
  (case side3 => exact rc HO519)
  (case side4 => exact (Kd.R_reads' HO519.out).2.1)
  rintro e w' ⟨rfl, ⟨nd, rfl⟩⟩
  refine ⟨_, rfl, ?_⟩
  refine hK.out _ _ ⟨bc BK512, bc BK512, bc BK512, bc BK512, bc BK512, bc BK512, bc BK512⟩ (fun hHeld => ?_)
  clear hK K
  refine nm 33 ?_
  refine pu 30 34 [31, 10] ?_
  refine pu 31 35 [32, 9] ?_
  refine pu 32 36 [33, 8] ?_
  refine pd 33 37 [34, 7] ?_
  refine pd 34 38 [35, 6] ?_
  refine pd 35 39 [36, 5] ?_
  refine pd 36 40 [37, 4] ?_
  refine pd 37 41 [38, 3] ?_
  refine pd 38 42 [39, 2] ?_
  refine pd 39 43 [40, 1] ?_
  refine pu 40 44 [41] ?_
  refine done_ (done_of HT_.out (by kernel_rfl)) ?_
  try go_wp2
  go_meet
  case rel => exact ⟨_, (true), rs, H', ⟨by first | omega | exact Nat.le_refl _⟩, ⟨by (with_reducible repeat (first | refine blk_drewN ?_ _ | refine blk_drew ?_ | refine blk_alloc ?_ _)); exact BK512.out⟩, ⟨u65HB⟩⟩
 case rest =>
  clear HC2
  try clear c1
  try clear p2
  try clear c5
  try clear c7
  try clear c9
  try clear c13
  obtain ⟨kq, x44_1, rfl, HA, HJ1, BK512, HB⟩ := hcut
  cases kq with
  | zero => exact absurd HA.out (by simp [spec_ObjOk.j0])
  | succ kj1 =>
   have H := HA.out
   clear HA
   simp only [spec_ObjOk.j0] at H
   by_cases c31 : x44_1 = true
   ·subst c31
    rw [if_pos rfl] at H
    obtain rfl := Option.some.inj H
    go_wp2
    go_ret
    exact ⟨rf, bl⟩
   replace c31 := Bool.eq_false_iff.mpr c31
   subst c31
   rw [if_neg (show ¬ (false = true) by decide)] at H
   have H' := am H
   clear H
   go_wp2
   (try simp only [Act.put, List.setIfInBounds_toArray, List.set_cons_zero, List.set_cons_succ])
   go_loopg [3] kj1 (fun kq v3 w' => ∃ (x3_2 : Int), v3 = .int .i64 x3_2 ∧ Aside0 (spec_ObjOk.l0 kq x3_2 a0_0 l0_1 l0_2 a0_3 l0_4 a0_5 a0_6 = some r) ∧ Aside0 (kq ≤ kj1) ∧ Aside0 (w'.heap[gb512]? = some (.cells #[.string a0_0, (.slice A0_1 l0_1.length c0_1), (.slice A0_2 l0_2.length c0_2), .int .i64 a0_3, (.slice A0_4 l0_4.length c0_4), .string a0_5, .int .i64 a0_6] 31 (0, 0))) ∧ Aside0 (Below w.heap.size w w'))
   case atStart => exact ⟨(0), rs, H', ⟨Nat.le_refl _⟩, ⟨by (with_reducible repeat (first | refine blk_drewN ?_ _ | refine blk_drew ?_ | refine blk_alloc ?_ _)); exact BK512.out⟩, ⟨u65HB⟩⟩
   case round =>
    clear H'
    try clear c1
    try clear p2
    try clear c3
    try clear c5
    try clear c7
    try clear c9
    try clear c13
    try clear c31
    try clear p2
    obtain ⟨x3_2, rfl, HA, HK2, BK512, HB⟩ := hrel
    cases gk with
    | zero => exact absurd HA.out (by simp [spec_ObjOk.l0])
    | succ k2 =>
     have H := HA.out
     clear HA
     simp only [spec_ObjOk.l0] at H
     by_cases c32 : x3_2 < (l0_2.length : Int)
     rotate_left
     ·rw [if_neg c32] at H
      have c32b0 := decide_eq_false c32
      clear c32
      obtain rfl := Option.some.inj H
      obtain ⟨z38_0, y38_0, z38_1, y38_1, z38_2, y38_2, z38_3, y38_3, z38_4, y38_4, z38_5, y38_5, z38_6, y38_6⟩ := cl7 BK512
      go_wp2
      go_ret
      exact ⟨rf, bl⟩
     rw [if_pos c32] at H
     have c32b0 := decide_eq_true c32
     clear c32
     revert H
     refine ifn fun c33 H => ?_
     have c33b0 := decide_eq_true c33
     clear c33
     revert H
     refine ok1 fun t522 A34 H => ?_
     by_cases c35 : t522 = true
     rotate_left
     ·replace c35 := Bool.eq_false_iff.mpr c35
      subst c35
      rw [if_neg (show ¬ (false = true) by decide)] at H
      obtain rfl := Option.some.inj H
      obtain ⟨z37_0, y37_0, z37_1, y37_1, z37_2, y37_2, z37_3, y37_3, z37_4, y37_4, z37_5, y37_5, z37_6, y37_6⟩ := cl7 BK512
      have p521 : 0 ≤ (x3_2 : Int) := od
      have q521 : x3_2 < (l0_2.length : Int) := od
      obtain ⟨ad521, e521, hx521_0⟩ := Kd.at_string HR0_2.out x3_2 p521 q521
      cases e521
      replace hx521_0 := hcw hx521_0
      replace p521 := eq_true p521
      replace q521 := eq_true q521
      go_wp2_with ((with_reducible refine gw ?_); first | (refine gl 57 Tryz.func135 #[.string (rdOf ByteArray.empty l0_2 x3_2)] ?_; (with_reducible refine (spec_ValueOk.calls k2 (rdOf ByteArray.empty l0_2 x3_2) false _ A34.out).mono ?_); rintro e w' ⟨rfl, ⟨nd, rfl⟩⟩; refine ⟨_, rfl, ?_⟩))
      go_ret
      exact ⟨rf, bl⟩
     subst c35
     rw [if_pos rfl] at H
     have H' := am H
     clear H
     obtain ⟨z36_0, y36_0, z36_1, y36_1, z36_2, y36_2, z36_3, y36_3, z36_4, y36_4, z36_5, y36_5, z36_6, y36_6⟩ := cl7 BK512
     have p521 : 0 ≤ (x3_2 : Int) := od
     have q521 : x3_2 < (l0_2.length : Int) := od
     obtain ⟨ad521, e521, hx521_0⟩ := Kd.at_string HR0_2.out x3_2 p521 q521
     cases e521
     replace hx521_0 := hcw hx521_0
     replace p521 := eq_true p521
     replace q521 := eq_true q521
     go_wp2_with ((with_reducible refine gw ?_); first | (refine gl 57 Tryz.func135 #[.string (rdOf ByteArray.empty l0_2 x3_2)] ?_; (with_reducible refine (spec_ValueOk.calls k2 (rdOf ByteArray.empty l0_2 x3_2) true _ A34.out).mono ?_); rintro e w' ⟨rfl, ⟨nd, rfl⟩⟩; refine ⟨_, rfl, ?_⟩))
     go_roundg k2
     case measure => have := HJ1.out; have := HK2.out; omega
     case rel => exact ⟨(wrap64 (x3_2 + 1)), rs, H', ⟨by have := HJ1.out; have := HK2.out; omega⟩, ⟨by (with_reducible repeat (first | refine blk_drewN ?_ _ | refine blk_drew ?_ | refine blk_alloc ?_ _)); exact BK512.out⟩, ⟨u65HB⟩⟩

/-! ### impl_isTime: function 67 -/
def impl_isTime.f (a0 : Int) : Option (Bool) := (impl_inRange.f a0 0 1000000).bind fun t755 => (some t755)
set_option maxHeartbeats 8000000 in
set_option maxRecDepth 100000 in
theorem impl_isTime.calls (a0 : Int) (r : Bool) (w : World) (h : impl_isTime.f a0 = some r) :
  Calls Tryz.prog 67 #[.int .i64 a0] w fun e w' => e = .returned (.bool r) ∧ Drawn0 w w' := by
 unfold impl_isTime.f at h
 have H := h
 clear h
 revert H
 refine ok1 fun t755 A2 H => ?_
 obtain rfl := Option.some.inj H
 go_enter Tryz.func67, Tryz.ntmps67
 go_wp2_with ((with_reducible refine gw ?_); first | (refine gl 4 Tryz.func76 #[.int .i64 a0, .int .i64 0, .int .i64 1000000] ?_; (with_reducible refine (impl_inRange.calls a0 0 1000000 t755 _ A2.out).mono ?_); rintro e w' ⟨rfl, ⟨nd, rfl⟩⟩; refine ⟨_, rfl, ?_⟩))
 go_ret
 exact ⟨rs, dr⟩

/-! ### slices_Equal_string_string: function 72 -/
def slices_Equal_string_string.l0 : Nat → List ByteArray → List ByteArray → Int → Int → Option (Bool)
 | 0, _, _, _, _ => none
 | k + 1, x0, x1, x12, x13 => if x13 < x12 then (if 0 ≤ x13 then (if x13 < (x0.length : Int) then (if x13 < (x1.length : Int) then (if (rdOf ByteArray.empty x0 x13).toList = (rdOf ByteArray.empty x1 x13).toList then (slices_Equal_string_string.l0 k x0 x1 x12 (wrap64 (x13 + 1))) else (some false)) else (none)) else (none)) else (none)) else (some true)
def slices_Equal_string_string.f (k : Nat) (l0 : List ByteArray) (l1 : List ByteArray) : Option (Bool) := if (l0.length : Int) = (l1.length : Int) then (slices_Equal_string_string.l0 k l0 l1 (l0.length : Int) 0) else (some false)
set_option maxHeartbeats 8000000 in
set_option maxRecDepth 100000 in
theorem slices_Equal_string_string.calls (k : Nat) (A0 : Option Addr) (c0 : Nat) (l0 : List ByteArray) (A1 : Option Addr) (c1 : Nat) (l1 : List ByteArray) (r : Bool) (w : World) (hr0 : Kd.C Kd.string w A0 l0.length l0) (hc0 : l0.length ≤ c0) (hr1 : Kd.C Kd.string w A1 l1.length l1) (hc1 : l1.length ≤ c1) (h : slices_Equal_string_string.f k l0 l1 = some r) :
  Calls Tryz.prog 72 #[.slice A0 l0.length c0, .slice A1 l1.length c1] w fun e w' => e = .returned (.bool r) ∧ Drawn0 w w' := by
 have HR0 := am hr0
 have HC0 := am hc0
 clear hr0 hc0
 have HR1 := am hr1
 have HC1 := am hc1
 clear hr1 hc1
 unfold slices_Equal_string_string.f at h
 have H := h
 clear h
 by_cases c3 : (l0.length : Int) = (l1.length : Int)
 rotate_left
 ·rw [if_neg c3] at H
  have c3b0 : ((l0.length : Int) == (l1.length : Int)) = false := beq_eq_false_iff_ne.mpr c3
  have c3b1 : ((l0.length : Int) != (l1.length : Int)) = true := bne_iff_ne.mpr c3
  have c3b2 : (l0.length == l1.length) = false := by first | simpa using c3 | (simp at c3 ⊢; omega)
  obtain rfl := Option.some.inj H
  go_enter Tryz.func72, Tryz.ntmps72
  go_wp2
  repeat (go_quiet (fail); try go_wp2)
  go_ret
  exact ⟨rs, dr⟩
 rw [if_pos c3] at H
 have c3b0 : ((l0.length : Int) == (l1.length : Int)) = true := beq_iff_eq.mpr c3
 have c3b1 : ((l0.length : Int) != (l1.length : Int)) = false := bne_eq_false_iff_eq.mpr c3
 have c3b2 : (l0.length == l1.length) = true := by first | simpa using c3 | (simp at c3 ⊢; omega)
 clear c3
 have H' := am H
 clear H
 go_enter Tryz.func72, Tryz.ntmps72
 go_wp2
 repeat (go_quiet (fail); try go_wp2)
 (try simp only [Act.put, List.setIfInBounds_toArray, List.set_cons_zero, List.set_cons_succ])
 go_loopg [13] k (fun kq v13 w' => ∃ (x13_1 : Int), v13 = .int .i64 x13_1 ∧ Aside0 (slices_Equal_string_string.l0 kq l0 l1 (l0.length : Int) x13_1 = some r) ∧ Aside0 (kq ≤ k) ∧ Drawn0 w w')
 case atStart => exact ⟨(0), rs, H', ⟨Nat.le_refl _⟩, dr⟩
 case round =>
  clear H'
  try clear c1
  try clear p2
  try clear c3
  try clear c3b0
  try clear c3b1
  try clear c3b2
  obtain ⟨x13_1, rfl, HA, HK1, ⟨m1, rfl⟩⟩ := hrel
  cases gk with
  | zero => exact absurd HA.out (by simp [slices_Equal_string_string.l0])
  | succ k1 =>
   have H := HA.out
   clear HA
   simp only [slices_Equal_string_string.l0] at H
   by_cases c4 : x13_1 < (l0.length : Int)
   rotate_left
   ·rw [if_neg c4] at H
    have c4b0 := decide_eq_false c4
    clear c4
    obtain rfl := Option.some.inj H
    go_wp2
    repeat (go_quiet (fail); try go_wp2)
    go_ret
    exact ⟨rs, dr⟩
   rw [if_pos c4] at H
   have c4b0 := decide_eq_true c4
   clear c4
   revert H
   refine ifn fun c5 H => ?_
   have c5b0 := decide_eq_true c5
   clear c5
   revert H
   refine ifn fun c6 H => ?_
   have c6b0 := decide_eq_true c6
   clear c6
   revert H
   refine ifn fun c7 H => ?_
   have c7b0 := decide_eq_true c7
   clear c7
   by_cases c8 : (rdOf ByteArray.empty l0 x13_1).toList = (rdOf ByteArray.empty l1 x13_1).toList
   rotate_left
   ·rw [if_neg c8] at H
    have c8b0 : ((rdOf ByteArray.empty l0 x13_1).toList == (rdOf ByteArray.empty l1 x13_1).toList) = false := beq_eq_false_iff_ne.mpr c8
    have c8b1 : ((rdOf ByteArray.empty l0 x13_1).toList != (rdOf ByteArray.empty l1 x13_1).toList) = true := bne_iff_ne.mpr c8
    obtain rfl := Option.some.inj H
    have p778 : 0 ≤ (x13_1 : Int) := od
    have q778 : x13_1 < (l0.length : Int) := od
    obtain ⟨ad778, e778, hx778_0⟩ := Kd.at_string HR0.out x13_1 p778 q778
    cases e778
    replace p778 := eq_true p778
    replace q778 := eq_true q778
    have p779 : 0 ≤ (x13_1 : Int) := od
    have q779 : x13_1 < (l1.length : Int) := od
    obtain ⟨ad779, e779, hx779_0⟩ := Kd.at_string HR1.out x13_1 p779 q779
    cases e779
    replace p779 := eq_true p779
    replace q779 := eq_true q779
    go_wp2
    repeat (go_quiet (fail); try go_wp2)
    go_ret
    exact ⟨rs, dr⟩
   rw [if_pos c8] at H
   have c8b0 : ((rdOf ByteArray.empty l0 x13_1).toList == (rdOf ByteArray.empty l1 x13_1).toList) = true := beq_iff_eq.mpr c8
   have c8b1 : ((rdOf ByteArray.empty l0 x13_1).toList != (rdOf ByteArray.empty l1 x13_1).toList) = false := bne_eq_false_iff_eq.mpr c8
   clear c8
   have H' := am H
   clear H
   have p778 : 0 ≤ (x13_1 : Int) := od
   have q778 : x13_1 < (l0.length : Int) := od
   obtain ⟨ad778, e778, hx778_0⟩ := Kd.at_string HR0.out x13_1 p778 q778
   cases e778
   replace p778 := eq_true p778
   replace q778 := eq_true q778
   have p779 : 0 ≤ (x13_1 : Int) := od
   have q779 : x13_1 < (l1.length : Int) := od
   obtain ⟨ad779, e779, hx779_0⟩ := Kd.at_string HR1.out x13_1 p779 q779
   cases e779
   replace p779 := eq_true p779
   replace q779 := eq_true q779
   go_wp2
   repeat (go_quiet (fail); try go_wp2)
   go_roundg k1
   case measure => have := HK1.out; omega
   case rel => exact ⟨(wrap64 (x13_1 + 1)), rs, H', ⟨by have := HK1.out; omega⟩, dr⟩

/-! ### impl_ObjOk: function 15 -/
theorem u15HB {p : Prop} (h : p := by repeat (first | (with_reducible first | exact HB.out | apply below_alloc | apply pw_below_drewN | apply below_drew1 | refine below_set ?_ GE800.out) | exact HB.out)) : p := h
mutual
def impl_ObjOk.l0 : Nat → List ByteArray → Int → Int → ByteArray → List ByteArray → List ByteArray → Int → List (S116) → ByteArray → Int → Option (Bool)
 | 0, _, _, _, _, _, _, _, _, _, _ => none
 | k + 1, x6, x7, x8, x801000, x801001, x801002, x801003, x801004, x801005, x801006 => if x8 < x7 then (if 0 ≤ x8 then (if x8 < (x6.length : Int) then ((impl_ValueOk.f k (rdOf ByteArray.empty x6 x8)).bind fun t802 => (if t802 = true then (impl_ObjOk.l0 k x6 x7 (wrap64 (x8 + 1)) x801000 x801001 x801002 x801003 x801004 x801005 x801006) else (some false))) else (none)) else (none)) else ((impl_pathOk.f k x801000).bind fun t803 => (if t803 = true then ((impl_isTime.f x801006).bind fun t804 => (if t804 = true then (if (x801002.length : Int) = (x801001.length : Int) then ((impl_namesOk.f k x801001).bind fun t805 => (if t805 = true then ((impl_RespOk.f k x801003 x801004 x801005).bind fun t806 => (impl_ObjOk.j1 k (!t806) x801000 x801001 x801002 x801003 x801004 x801005 x801006)) else (impl_ObjOk.j1 k true x801000 x801001 x801002 x801003 x801004 x801005 x801006))) else (impl_ObjOk.j1 k true x801000 x801001 x801002 x801003 x801004 x801005 x801006)) else (impl_ObjOk.j1 k true x801000 x801001 x801002 x801003 x801004 x801005 x801006))) else (impl_ObjOk.j1 k true x801000 x801001 x801002 x801003 x801004 x801005 x801006)))
def impl_ObjOk.j1 : Nat → Bool → ByteArray → List ByteArray → List ByteArray → Int → List (S116) → ByteArray → Int → Option (Bool)
 | 0, _, _, _, _, _, _, _, _ => none
 | k + 1, x46, x801000, x801001, x801002, x801003, x801004, x801005, x801006 => if x46 = true then (some false) else ((impl_VaryOf.f k x801004).bind fun t807 => ((slices_Equal_string_string.f k x801001 t807).bind fun t810 => (some t810)))
end
def impl_ObjOk.f (k : Nat) (a0_0 : ByteArray) (l0_1 : List ByteArray) (l0_2 : List ByteArray) (a0_3 : Int) (l0_4 : List (S116)) (a0_5 : ByteArray) (a0_6 : Int) : Option (Bool) := impl_ObjOk.l0 k l0_2 (l0_2.length : Int) 0 a0_0 l0_1 l0_2 a0_3 l0_4 a0_5 a0_6
def impl_ObjOk.T9 : Bool × List (List Nat × List Nat) := (true, [([], []), ([0], [0]), ([], []), ([2], [2]), ([3], [3]), ([4], [4]), ([1, 5, 5], [1, 5]), ([6, 6, 0, 1, 2, 3, 4, 5, 6], [6])])
def impl_ObjOk.B9 : List Nat := [0, 1, 0, 4, 12, 28, 63, 127]
theorem impl_ObjOk.tab9 : rtab .any (opsOf Tryz.f15 9) = impl_ObjOk.T9 := by kernel_rfl
theorem impl_ObjOk.bits9 : waitsOk impl_ObjOk.T9.2 impl_ObjOk.B9 = true := by kernel_rfl
set_option maxHeartbeats 8000000 in
set_option maxRecDepth 100000 in
theorem impl_ObjOk.calls (k : Nat) (a0_0 : ByteArray) (A0_1 : Option Addr) (c0_1 : Nat) (l0_1 : List ByteArray) (A0_2 : Option Addr) (c0_2 : Nat) (l0_2 : List ByteArray) (a0_3 : Int) (A0_4 : Option Addr) (c0_4 : Nat) (l0_4 : List (S116)) (a0_5 : ByteArray) (a0_6 : Int) (r : Bool) (w : World) (hGM : GLOBM w) (hr0_1 : Kd.C Kd.string w A0_1 l0_1.length l0_1) (hc0_1 : l0_1.length ≤ c0_1) (hr0_2 : Kd.C Kd.string w A0_2 l0_2.length l0_2) (hc0_2 : l0_2.length ≤ c0_2) (hr0_4 : Kd.C k116 w A0_4 l0_4.length l0_4) (hc0_4 : l0_4.length ≤ c0_4) (h : impl_ObjOk.f k a0_0 l0_1 l0_2 a0_3 l0_4 a0_5 a0_6 = some r) :
  Calls Tryz.prog 15 #[.agg #[.string a0_0, .slice A0_1 l0_1.length c0_1, .slice A0_2 l0_2.length c0_2, .int .i64 a0_3, .slice A0_4 l0_4.length c0_4, .string a0_5, .int .i64 a0_6]] w fun e w' => e = .returned (.bool r) ∧ Below w.heap.size w w' := by
 have hu31 := Tryz.underlying31
 have hu29 := Tryz.underlying29
 have HR0_1 := am hr0_1
 have HC0_1 := am hc0_1
 clear hr0_1 hc0_1
 have HR0_2 := am hr0_2
 have HC0_2 := am hc0_2
 clear hr0_2 hc0_2
 have HR0_4 := am hr0_4
 have HC0_4 := am hc0_4
 clear hr0_4 hc0_4
 have HGM := am hGM
 clear hGM
 have HB := am (Below.refl w.heap.size w)
 unfold impl_ObjOk.f at h
 have H := h
 clear h
 have H' := am H
 clear H
 go_enter Tryz.func15, Tryz.ntmps15
 go_wp2_with (first | ((with_reducible refine gate_dst (N := 1) rfl ?_); (try (refine gate_guard (by rfl) ?_; dsimp only)); refine box_event ?hg (N := 1) ?hd (cs := #[.string a0_0, .slice A0_1 l0_1.length c0_1, .slice A0_2 l0_2.length c0_2, .int .i64 a0_3, .slice A0_4 l0_4.length c0_4, .string a0_5, .int .i64 a0_6]) (t := 31) ?hr ?_; (case hd => rfl); (case hg => rfl); (case hr => first | (go_simp; done) | (go_simp; rfl)); intro gb800 hg w2 hbox hb; have BK800 := am (hbox); have GW800 := am (sz hg : w.heap.size ≤ gb800); have GE800 := am (sz hg : w.heap.size ≤ gb800); replace HB := am (below_step bl hb); clear hb hbox hg; obtain ⟨z3_0, y3_0, z3_1, y3_1, z3_2, y3_2, z3_3, y3_3, z3_4, y3_4, z3_5, y3_5, z3_6, y3_6⟩ := cl7 BK800))
 (try simp only [Act.put, List.setIfInBounds_toArray, List.set_cons_zero, List.set_cons_succ])
 go_loopg [8] k (fun kq v8 w' => ∃ (x8_1 : Int), v8 = .int .i64 x8_1 ∧ Aside0 (impl_ObjOk.l0 kq l0_2 (l0_2.length : Int) x8_1 a0_0 l0_1 l0_2 a0_3 l0_4 a0_5 a0_6 = some r) ∧ Aside0 (kq ≤ k) ∧ Aside0 (w'.heap[gb800]? = some (.cells #[.string a0_0, (.slice A0_1 l0_1.length c0_1), (.slice A0_2 l0_2.length c0_2), .int .i64 a0_3, (.slice A0_4 l0_4.length c0_4), .string a0_5, .int .i64 a0_6] 31 (0, 0))) ∧ Aside0 (Below w.heap.size w w'))
 case atStart => exact ⟨(0), rs, H', ⟨Nat.le_refl _⟩, ⟨by (with_reducible repeat (first | refine blk_drewN ?_ _ | refine blk_drew ?_ | refine blk_alloc ?_ _)); exact BK800.out⟩, ⟨u15HB⟩⟩
 case round =>
  clear H'
  try clear c1
  try clear p2
  try clear z3_0
  try clear z3_1
  try clear z3_2
  try clear z3_3
  try clear z3_4
  try clear z3_5
  try clear z3_6
  try clear y3_0
  try clear y3_1
  try clear y3_2
  try clear y3_3
  try clear y3_4
  try clear y3_5
  try clear y3_6
  obtain ⟨x8_1, rfl, HA, HK1, BK800, HB⟩ := hrel
  cases gk with
  | zero => exact absurd HA.out (by simp [impl_ObjOk.l0])
  | succ k1 =>
   have H := HA.out
   clear HA
   simp only [impl_ObjOk.l0] at H
   by_cases c4 : x8_1 < (l0_2.length : Int)
   ·rw [if_pos c4] at H
    have c4b0 := decide_eq_true c4
    clear c4
    revert H
    refine ifn fun c5 H => ?_
    have c5b0 := decide_eq_true c5
    clear c5
    revert H
    refine ifn fun c6 H => ?_
    have c6b0 := decide_eq_true c6
    clear c6
    revert H
    refine ok1 fun t802 A7 H => ?_
    by_cases c8 : t802 = true
    rotate_left
    ·replace c8 := Bool.eq_false_iff.mpr c8
     subst c8
     rw [if_neg (show ¬ (false = true) by decide)] at H
     obtain rfl := Option.some.inj H
     have p801 : 0 ≤ (x8_1 : Int) := od
     have q801 : x8_1 < (l0_2.length : Int) := od
     obtain ⟨ad801, e801, hx801_0⟩ := Kd.at_string HR0_2.out x8_1 p801 q801
     cases e801
     replace hx801_0 := hcw hx801_0
     replace p801 := eq_true p801
     replace q801 := eq_true q801
     go_wp2_with ((with_reducible refine gw ?_); first | (refine gl 13 Tryz.func70 #[.string (rdOf ByteArray.empty l0_2 x8_1)] ?_; (with_reducible refine (impl_ValueOk.calls k1 (rdOf ByteArray.empty l0_2 x8_1) false _ A7.out).mono ?_); rintro e w10 ⟨rfl, hb⟩; refine ⟨_, rfl, ?_⟩; replace BK800 := kb BK800 hb; replace HB := am (below_step bl hb); clear hb))
     go_ret
     exact ⟨rf, bl⟩
    subst c8
    rw [if_pos rfl] at H
    have H' := am H
    clear H
    have p801 : 0 ≤ (x8_1 : Int) := od
    have q801 : x8_1 < (l0_2.length : Int) := od
    obtain ⟨ad801, e801, hx801_0⟩ := Kd.at_string HR0_2.out x8_1 p801 q801
    cases e801
    replace hx801_0 := hcw hx801_0
    replace p801 := eq_true p801
    replace q801 := eq_true q801
    go_wp2_with ((with_reducible refine gw ?_); first | (refine gl 13 Tryz.func70 #[.string (rdOf ByteArray.empty l0_2 x8_1)] ?_; (with_reducible refine (impl_ValueOk.calls k1 (rdOf ByteArray.empty l0_2 x8_1) true _ A7.out).mono ?_); rintro e w9 ⟨rfl, hb⟩; refine ⟨_, rfl, ?_⟩; replace BK800 := kb BK800 hb; replace HB := am (below_step bl hb); clear hb))
    go_roundg k1
    case measure => have := HK1.out; omega
    case rel => exact ⟨(wrap64 (x8_1 + 1)), rs, H', ⟨by have := HK1.out; omega⟩, ⟨by (with_reducible repeat (first | refine blk_drewN ?_ _ | refine blk_drew ?_ | refine blk_alloc ?_ _)); exact BK800.out⟩, ⟨u15HB⟩⟩
   rw [if_neg c4] at H
   have c4b0 := decide_eq_false c4
   clear c4
   have HC11 := am H
   clear H
   go_upto_region 7 with (fail)
   go_cut [46] (fun v46 wc => ∃ (kq : Nat) (x46_10 : Bool), v46 = .bool x46_10 ∧ Aside0 (impl_ObjOk.j1 kq x46_10 a0_0 l0_1 l0_2 a0_3 l0_4 a0_5 a0_6 = some r) ∧ Aside0 (kq ≤ k1) ∧ Aside0 (wc.heap[gb800]? = some (.cells #[.string a0_0, (.slice A0_1 l0_1.length c0_1), (.slice A0_2 l0_2.length c0_2), .int .i64 a0_3, (.slice A0_4 l0_4.length c0_4), .string a0_5, .int .i64 a0_6] 31 (0, 0))) ∧ Aside0 (Below w.heap.size w wc))
   case first =>
    have H := HC11.out
    clear HC11
    revert H
    refine ok1 fun t803 A12 H => ?_
    by_cases c13 : t803 = true
    rotate_left
    ·replace c13 := Bool.eq_false_iff.mpr c13
     subst c13
     rw [if_neg (show ¬ (false = true) by decide)] at H
     have H' := am H
     clear H
     obtain ⟨z25_0, y25_0, z25_1, y25_1, z25_2, y25_2, z25_3, y25_3, z25_4, y25_4, z25_5, y25_5, z25_6, y25_6⟩ := cl7 BK800
     go_wp2_with ((with_reducible refine gw ?_); first | (refine gl 18 Tryz.func68 #[.string a0_0] ?_; (with_reducible refine (impl_pathOk.calls k1 a0_0 false _ A12.out).mono ?_); rintro e w' ⟨rfl, ⟨nd, rfl⟩⟩; refine ⟨_, rfl, ?_⟩))
     go_meet
     case rel => exact ⟨_, (true), rs, H', ⟨by have := HK1.out; first | omega | exact Nat.le_refl _⟩, ⟨by (with_reducible repeat (first | refine blk_drewN ?_ _ | refine blk_drew ?_ | refine blk_alloc ?_ _)); exact BK800.out⟩, ⟨u15HB⟩⟩
    subst c13
    rw [if_pos rfl] at H
    revert H
    refine ok1 fun t804 A14 H => ?_
    by_cases c15 : t804 = true
    rotate_left
    ·replace c15 := Bool.eq_false_iff.mpr c15
     subst c15
     rw [if_neg (show ¬ (false = true) by decide)] at H
     have H' := am H
     clear H
     obtain ⟨z24_0, y24_0, z24_1, y24_1, z24_2, y24_2, z24_3, y24_3, z24_4, y24_4, z24_5, y24_5, z24_6, y24_6⟩ := cl7 BK800
     go_wp2_with (first | ((with_reducible refine gw ?_); first | (refine gl 18 Tryz.func68 #[.string a0_0] ?_; (with_reducible refine (impl_pathOk.calls k1 a0_0 true _ A12.out).mono ?_); rintro e w' ⟨rfl, ⟨nd, rfl⟩⟩; refine ⟨_, rfl, ?_⟩)) | (go_at_call 67; (with_reducible refine (impl_isTime.calls a0_6 false _ A14.out).mono ?_); rintro e w' ⟨rfl, ⟨nd, rfl⟩⟩))
     go_meet
     case rel => exact ⟨_, (true), rs, H', ⟨by have := HK1.out; first | omega | exact Nat.le_refl _⟩, ⟨by (with_reducible repeat (first | refine blk_drewN ?_ _ | refine blk_drew ?_ | refine blk_alloc ?_ _)); exact BK800.out⟩, ⟨u15HB⟩⟩
    subst c15
    rw [if_pos rfl] at H
    by_cases c16 : (l0_2.length : Int) = (l0_1.length : Int)
    rotate_left
    ·rw [if_neg c16] at H
     have c16b0 : ((l0_2.length : Int) == (l0_1.length : Int)) = false := beq_eq_false_iff_ne.mpr c16
     have c16b1 : ((l0_2.length : Int) != (l0_1.length : Int)) = true := bne_iff_ne.mpr c16
     have c16b2 : (l0_2.length == l0_1.length) = false := by first | simpa using c16 | (simp at c16 ⊢; omega)
     (first | rw [c16b0] | (simp only [i64_w, i32_w]; rw [c16b0]) | skip)
     have H' := am H
     clear H
     obtain ⟨z23_0, y23_0, z23_1, y23_1, z23_2, y23_2, z23_3, y23_3, z23_4, y23_4, z23_5, y23_5, z23_6, y23_6⟩ := cl7 BK800
     go_wp2_with (first | ((with_reducible refine gw ?_); first | (refine gl 18 Tryz.func68 #[.string a0_0] ?_; (with_reducible refine (impl_pathOk.calls k1 a0_0 true _ A12.out).mono ?_); rintro e w' ⟨rfl, ⟨nd, rfl⟩⟩; refine ⟨_, rfl, ?_⟩)) | (go_at_call 67; (with_reducible refine (impl_isTime.calls a0_6 true _ A14.out).mono ?_); rintro e w' ⟨rfl, ⟨nd, rfl⟩⟩))
     go_meet
     case rel => exact ⟨_, (true), rs, H', ⟨by have := HK1.out; first | omega | exact Nat.le_refl _⟩, ⟨by (with_reducible repeat (first | refine blk_drewN ?_ _ | refine blk_drew ?_ | refine blk_alloc ?_ _)); exact BK800.out⟩, ⟨u15HB⟩⟩
    rw [if_pos c16] at H
    have c16b0 : ((l0_2.length : Int) == (l0_1.length : Int)) = true := beq_iff_eq.mpr c16
    have c16b1 : ((l0_2.length : Int) != (l0_1.length : Int)) = false := bne_eq_false_iff_eq.mpr c16
    have c16b2 : (l0_2.length == l0_1.length) = true := by first | simpa using c16 | (simp at c16 ⊢; omega)
    clear c16
    (first | rw [c16b0] | (simp only [i64_w, i32_w]; rw [c16b0]) | skip)
    revert H
    refine ok1 fun t805 A17 H => ?_
    by_cases c18 : t805 = true
    rotate_left
    ·replace c18 := Bool.eq_false_iff.mpr c18
     subst c18
     rw [if_neg (show ¬ (false = true) by decide)] at H
     have H' := am H
     clear H
     obtain ⟨z22_0, y22_0, z22_1, y22_1, z22_2, y22_2, z22_3, y22_3, z22_4, y22_4, z22_5, y22_5, z22_6, y22_6⟩ := cl7 BK800
     go_wp2_with (first | ((with_reducible refine gw ?_); first | (refine gl 18 Tryz.func68 #[.string a0_0] ?_; (with_reducible refine (impl_pathOk.calls k1 a0_0 true _ A12.out).mono ?_); rintro e w' ⟨rfl, ⟨nd, rfl⟩⟩; refine ⟨_, rfl, ?_⟩)) | (go_at_call 67; (with_reducible refine (impl_isTime.calls a0_6 true _ A14.out).mono ?_); rintro e w' ⟨rfl, ⟨nd, rfl⟩⟩) | (go_at_call 71; (with_reducible refine (impl_namesOk.calls k1 _ _ l0_1 false _ ?side1 ?side2 A17.out).mono ?_); (case side1 => repeat (first | exact (Kd.C_below HR0_1.out bl) | (with_reducible refine Kd.C_alloc ?_ _) | (with_reducible refine Kd.C_drewN ?_ _) | (with_reducible refine Kd.C_drew ?_))); (case side2 => exact HC0_1.out); rintro e w' ⟨rfl, ⟨nd, rfl⟩⟩))
     go_meet
     case rel => exact ⟨_, (true), rs, H', ⟨by have := HK1.out; first | omega | exact Nat.le_refl _⟩, ⟨by (with_reducible repeat (first | refine blk_drewN ?_ _ | refine blk_drew ?_ | refine blk_alloc ?_ _)); exact BK800.out⟩, ⟨u15HB⟩⟩
    subst c18
    rw [if_pos rfl] at H
    revert H
    refine ok1 fun t806 A19 H => ?_
    have H' := am H
    clear H
    obtain ⟨z20_0, y20_0, z20_1, y20_1, z20_2, y20_2, z20_3, y20_3, z20_4, y20_4, z20_5, y20_5, z20_6, y20_6⟩ := cl7 BK800
    go_wp2_with (first | ((with_reducible refine gw ?_); first | (refine gl 18 Tryz.func68 #[.string a0_0] ?_; (with_reducible refine (impl_pathOk.calls k1 a0_0 true _ A12.out).mono ?_); rintro e w' ⟨rfl, ⟨nd, rfl⟩⟩; refine ⟨_, rfl, ?_⟩)) | (go_at_call 67; (with_reducible refine (impl_isTime.calls a0_6 true _ A14.out).mono ?_); rintro e w' ⟨rfl, ⟨nd, rfl⟩⟩) | (go_at_call 71; (with_reducible refine (impl_namesOk.calls k1 _ _ l0_1 true _ ?side1 ?side2 A17.out).mono ?_); (case side1 => repeat (first | exact (Kd.C_below HR0_1.out bl) | (with_reducible refine Kd.C_alloc ?_ _) | (with_reducible refine Kd.C_drewN ?_ _) | (with_reducible refine Kd.C_drew ?_))); (case side2 => exact HC0_1.out); rintro e w' ⟨rfl, ⟨nd, rfl⟩⟩) | (go_at_call 32; (with_reducible refine (impl_RespOk.calls k1 a0_3 _ _ l0_4 a0_5 t806 _ ?side1 ?side2 A19.out).mono ?_); (case side1 => repeat (first | exact (Kd.C_below HR0_4.out bl) | (with_reducible refine Kd.C_alloc ?_ _) | (with_reducible refine Kd.C_drewN ?_ _) | (with_reducible refine Kd.C_drew ?_))); (case side2 => exact HC0_4.out); rintro e w21 ⟨rfl, hb⟩; replace BK800 := kb BK800 hb; replace HB := am (below_step bl hb); clear hb))
    go_meet
    case rel => exact ⟨_, (!t806), rs, H', ⟨by have := HK1.out; first | omega | exact Nat.le_refl _⟩, ⟨by (with_reducible repeat (first | refine blk_drewN ?_ _ | refine blk_drew ?_ | refine blk_alloc ?_ _)); exact BK800.out⟩, ⟨u15HB⟩⟩
   case rest =>
    clear HC11
    try clear c1
    try clear p2
    try clear c4
    try clear c4b0
    try clear c5
    try clear c5b0
    try clear c6
    try clear c6b0
    try clear p6
    try clear c7
    try clear c8
    try clear p8
    try clear q8
    try clear hx8
    try clear c13
    try clear c15
    try clear c16
    try clear c16b0
    try clear c16b1
    try clear c16b2
    try clear c18
    try clear z20_0
    try clear z20_1
    try clear z20_2
    try clear z20_3
    try clear z20_4
    try clear z20_5
    try clear z20_6
    try clear z22_0
    try clear z22_1
    try clear z22_2
    try clear z22_3
    try clear z22_4
    try clear z22_5
    try clear z22_6
    try clear z23_0
    try clear z23_1
    try clear z23_2
    try clear z23_3
    try clear z23_4
    try clear z23_5
    try clear z23_6
    try clear z24_0
    try clear z24_1
    try clear z24_2
    try clear z24_3
    try clear z24_4
    try clear z24_5
    try clear z24_6
    try clear z25_0
    try clear z25_1
    try clear z25_2
    try clear z25_3
    try clear z25_4
    try clear z25_5
    try clear z25_6
    try clear z3_0
    try clear z3_1
    try clear z3_2
    try clear z3_3
    try clear z3_4
    try clear z3_5
    try clear z3_6
    try clear y20_0
    try clear y20_1
    try clear y20_2
    try clear y20_3
    try clear y20_4
    try clear y20_5
    try clear y20_6
    try clear y22_0
    try clear y22_1
    try clear y22_2
    try clear y22_3
    try clear y22_4
    try clear y22_5
    try clear y22_6
    try clear y23_0
    try clear y23_1
    try clear y23_2
    try clear y23_3
    try clear y23_4
    try clear y23_5
    try clear y23_6
    try clear y24_0
    try clear y24_1
    try clear y24_2
    try clear y24_3
    try clear y24_4
    try clear y24_5
    try clear y24_6
    try clear y25_0
    try clear y25_1
    try clear y25_2
    try clear y25_3
    try clear y25_4
    try clear y25_5
    try clear y25_6
    try clear y3_0
    try clear y3_1
    try clear y3_2
    try clear y3_3
    try clear y3_4
    try clear y3_5
    try clear y3_6
    try clear hx801_0
    try clear p2
    try clear p801
    try clear q801
    obtain ⟨kq, x46_10, rfl, HA, HJ10, BK800, HB⟩ := hcut
    cases kq with
    | zero => exact absurd HA.out (by simp [impl_ObjOk.j1])
    | succ kj10 =>
     have H := HA.out
     clear HA
     simp only [impl_ObjOk.j1] at H
     by_cases c26 : x46_10 = true
     ·subst c26
      rw [if_pos rfl] at H
      obtain rfl := Option.some.inj H
      go_wp2
      go_ret
      exact ⟨rf, bl⟩
     replace c26 := Bool.eq_false_iff.mpr c26
     subst c26
     rw [if_neg (show ¬ (false = true) by decide)] at H
     revert H
     refine ok1 fun t807 A27 H => ?_
     revert H
     refine ok1 fun t810 A28 H => ?_
     obtain rfl := Option.some.inj H
     try go_wp2
     replace BK800 := am (blk_drew BK800.out)
     replace HB := am (below_drew1 HB.out)
     refine start_ (n := 8) (S := fun w' => w'.cell? ⟨gb800, 0, none⟩ = some (.string a0_0) ∧ w'.cell? ⟨gb800, 1, none⟩ = some (.slice A0_1 l0_1.length c0_1) ∧ w'.cell? ⟨gb800, 2, none⟩ = some (.slice A0_2 l0_2.length c0_2) ∧ w'.cell? ⟨gb800, 3, none⟩ = some (.int .i64 a0_3) ∧ w'.cell? ⟨gb800, 4, none⟩ = some (.slice A0_4 l0_4.length c0_4) ∧ w'.cell? ⟨gb800, 5, none⟩ = some (.string a0_5) ∧ w'.cell? ⟨gb800, 6, none⟩ = some (.int .i64 a0_6)) (ds := []) ⟨br true [0, 8]⟩ (by kernel_rfl) rfl (by kernel_rfl) ⟨bc BK800, bc BK800, bc BK800, bc BK800, bc BK800, bc BK800, bc BK800⟩ (fun hHeld => ?_); refine with_tabW impl_ObjOk.tab9 impl_ObjOk.bits9 (fun HT_ HW_ => ?_)
     generalize wc.drew = w29 at BK800 HB hHeld ⊢
     refine pu 0 47 [1, 7] ?_
     refine pu 2 49 [1, 1, 1, 5] ?_
     refine pu 3 50 [1, 1, 2, 4] ?_
     refine tk 1 48 [4, 4] ?_
     refine tk 4 51 [5, 3] ?_
     refine og 5 52 [6, 2] Tryz.func73 #[.slice A0_4 l0_4.length c0_4] (fun K hK => ?_)
     with_reducible refine (impl_VaryOf.calls kj10 _ _ l0_4 t807 _ ?side1 ?side2 ?side3 A27.out).mono ?_
     (case side1 => exact GLOBM.below HGM.out bl)
     (case side2 => exact cb HR0_4)
     (case side3 => exact HC0_4.out)
     rintro e w30 ⟨v808, rfl, ho0, hb⟩
     refine ⟨_, rfl, ?_⟩
     have HO809 := am (Kd.R_lower ho0 (below_size bl))
     replace BK800 := kb BK800 hb
     replace HB := am (below_step bl hb)
     clear hb ho0
     obtain ⟨Ao31, co31, eo31⟩ := Kd.R_slice HO809.out
     (first | subst eo31 | (injection eo31 with f1_ f2_ f3_; have f4_ := f1_.symm; have f5_ := f3_.symm; clear f1_ f2_ f3_; subst f4_; subst f5_))
     refine hK.out _ _ ⟨bc BK800, bc BK800, bc BK800, bc BK800, bc BK800, bc BK800, bc BK800⟩ (fun hHeld => ?_)
     clear hK K
     refine nm 52 ?_
     refine og 6 53 [7, 1] Tryz.func72 #[.slice A0_1 l0_1.length c0_1, .slice Ao31 t807.length co31] (fun K hK => ?_)
     with_reducible refine (slices_Equal_string_string.calls kj10 _ _ l0_1 _ _ t807 t810 _ ?side1 ?side2 ?side3 ?side4 A28.out).mono ?_
     (case side1 => exact cb HR0_1)
     (case side2 => exact HC0_1.out)
     (case side3 => exact rc HO809)
     (case side4 => exact (Kd.R_reads' HO809.out).2.1)
     rintro e w' ⟨rfl, ⟨nd, rfl⟩⟩
     refine ⟨_, rfl, ?_⟩
     refine hK.out _ _ ⟨bc BK800, bc BK800, bc BK800, bc BK800, bc BK800, bc BK800, bc BK800⟩ (fun hHeld => ?_)
     clear hK K
     refine nm 53 ?_
     refine pu 7 2 [8] ?_
     refine done_ (done_of HT_.out (by kernel_rfl)) ?_
     try go_wp2
     go_ret
     exact ⟨rf, bl⟩

end Go.Proofs.YtjlpjbkpmmpojaaGreatDoor.All
