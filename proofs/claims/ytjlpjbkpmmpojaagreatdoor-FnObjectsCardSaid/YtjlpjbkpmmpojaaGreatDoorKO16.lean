import Derived.Test.YtjlpjbkpmmpojaaGreatDoorKO14
import Derived.Test.YtjlpjbkpmmpojaaGreatDoorKO15
namespace Go.Proofs.YtjlpjbkpmmpojaaGreatDoor.All
open Go.RowKit Go.Proofs.YtjlpjbkpmmpojaaGreatDoorW.PrintWords Go.Proofs.YtjlpjbkpmmpojaaGreatDoorW.PrintLast Go.Proofs.YtjlpjbkpmmpojaaGreatDoorW.PrintMore
set_option maxHeartbeats 8000000
set_option maxRecDepth 100000
attribute [local go_sem] min2_int min_two
set_option linter.unusedVariables false
set_option linter.unusedSimpArgs false
mutual
def spec_l8Texts.l0 : Nat → List ByteArray → List ByteArray → Int → Option (Bool)
 | 0, _, _, _ => none
 | k + 1, x0, x1, x5 => if x5 < (x0.length : Int) then (spec_l8Texts.j1 k x0 x1 x5 (decide (x5 < (x1.length : Int)))) else (spec_l8Texts.j1 k x0 x1 x5 false)
def spec_l8Texts.j1 : Nat → List ByteArray → List ByteArray → Int → Bool → Option (Bool)
 | 0, _, _, _, _ => none
 | k + 1, x0, x1, x5, x15 => if x15 = true then (if 0 ≤ x5 then (if x5 < (x0.length : Int) then (if x5 < (x1.length : Int) then (if (rdOf ByteArray.empty x0 x5).toList = (rdOf ByteArray.empty x1 x5).toList then (spec_l8Texts.l0 k x0 x1 (wrap64 (x5 + 1))) else (some false)) else (none)) else (none)) else (none)) else (some ((x0.length : Int) == (x1.length : Int)))
end
def spec_l8Texts.f (k : Nat) (l0 : List ByteArray) (l1 : List ByteArray) : Option (Bool) := spec_l8Texts.l0 k l0 l1 0
theorem spec_l8Texts.calls (k : Nat) (A0 : Option Addr) (c0 : Nat) (l0 : List ByteArray) (A1 : Option Addr) (c1 : Nat) (l1 : List ByteArray) (r : Bool) (w : World) (hr0 : Kd.C Kd.string w A0 l0.length l0) (hc0 : l0.length ≤ c0) (hr1 : Kd.C Kd.string w A1 l1.length l1) (hc1 : l1.length ≤ c1) (h : spec_l8Texts.f k l0 l1 = some r) :
  Calls Tryz.prog 136 #[.slice A0 l0.length c0, .slice A1 l1.length c1] w fun e w' => e = .returned (.bool r) ∧ Drawn0 w w' := by
 have HR0 := am hr0
 have HC0 := am hc0
 clear hr0 hc0
 have HR1 := am hr1
 have HC1 := am hc1
 clear hr1 hc1
 unfold spec_l8Texts.f at h
 have H := h
 clear h
 have H' := am H
 clear H
 go_enter Tryz.func136, Tryz.ntmps136
 go_wp2
 repeat (go_quiet (fail); try go_wp2)
 (try simp only [Act.put, List.setIfInBounds_toArray, List.set_cons_zero, List.set_cons_succ])
 go_loopg [5] k (fun kq v5 w' => ∃ (x5_1 : Int), v5 = .int .i64 x5_1 ∧ Aside0 (spec_l8Texts.l0 kq l0 l1 x5_1 = some r) ∧ Aside0 (kq ≤ k) ∧ Drawn0 w w')
 case atStart => exact ⟨(0), rs, H', ⟨Nat.le_refl _⟩, dr⟩
 case round =>
  clear H'
  obtain ⟨x5_1, rfl, HA, HK1, ⟨m1, rfl⟩⟩ := hrel
  cases gk with
  | zero => exact absurd HA.out (by simp [spec_l8Texts.l0])
  | succ k1 =>
   have H := HA.out
   clear HA
   simp only [spec_l8Texts.l0] at H
   have HC3 := am H
   clear H
   go_upto_region 2 with (fail)
   repeat (go_quiet (fail); go_upto_region 2 with (fail))
   go_cut [15] (fun v15 wc => ∃ (kq : Nat) (x15_2 : Bool), v15 = .bool x15_2 ∧ Aside0 (spec_l8Texts.j1 kq l0 l1 x5_1 x15_2 = some r) ∧ Aside0 (kq ≤ k1) ∧ Drawn0 w wc)
   case first =>
    have H := HC3.out
    clear HC3
    by_cases c4 : x5_1 < (l0.length : Int)
    rotate_left
    ·rw [if_neg c4] at H
     have c4b0 := decide_eq_false c4
     clear c4
     (first | rw [c4b0] | (simp only [i64_w, i32_w]; rw [c4b0]) | skip)
     have H' := am H
     clear H
     go_wp2
     repeat (go_quiet (fail); try go_wp2)
     go_meet
     case rel => exact ⟨_, (false), rs, H', ⟨by have := HK1.out; first | omega | exact Nat.le_refl _⟩, dr⟩
    rw [if_pos c4] at H
    have c4b0 := decide_eq_true c4
    clear c4
    (first | rw [c4b0] | (simp only [i64_w, i32_w]; rw [c4b0]) | skip)
    have H' := am H
    clear H
    go_wp2
    repeat (go_quiet (fail); try go_wp2)
    go_meet
    case rel => exact ⟨_, (decide (x5_1 < (l1.length : Int))), rs, H', ⟨by have := HK1.out; first | omega | exact Nat.le_refl _⟩, dr⟩
   case rest =>
    clear HC3
    obtain ⟨kq, x15_2, rfl, HA, HJ2, ⟨mc2, rfl⟩⟩ := hcut
    cases kq with
    | zero => exact absurd HA.out (by simp [spec_l8Texts.j1])
    | succ kj2 =>
     have H := HA.out
     clear HA
     simp only [spec_l8Texts.j1] at H
     by_cases c5 : x15_2 = true
     rotate_left
     ·replace c5 := nb_ c5
      subst c5
      rw [if_neg ff_] at H
      obtain rfl := si_ H
      go_wp2
      repeat (go_quiet (fail); try go_wp2)
      go_ret
      exact ⟨rs, dr⟩
     subst c5
     rw [if_pos rfl] at H
     revert H
     refine ifn fun c6 H => ?_
     have c6b0 := decide_eq_true c6
     clear c6
     revert H
     refine ifn fun c7 H => ?_
     have c7b0 := decide_eq_true c7
     clear c7
     revert H
     refine ifn fun c8 H => ?_
     have c8b0 := decide_eq_true c8
     clear c8
     by_cases c9 : (rdOf ByteArray.empty l0 x5_1).toList = (rdOf ByteArray.empty l1 x5_1).toList
     rotate_left
     ·rw [if_neg c9] at H
      have c9b0 := eqf c9
      have c9b1 := net c9
      obtain rfl := si_ H
      have p10 : 0 ≤ (x5_1 : Int) := od
      have q10 : x5_1 < (l0.length : Int) := od
      obtain ⟨ad10, e10, hx10_0⟩ := Kd.at_string HR0.out x5_1 p10 q10
      cases e10
      replace p10 := eq_true p10
      replace q10 := eq_true q10
      have p11 : 0 ≤ (x5_1 : Int) := od
      have q11 : x5_1 < (l1.length : Int) := od
      obtain ⟨ad11, e11, hx11_0⟩ := Kd.at_string HR1.out x5_1 p11 q11
      cases e11
      replace p11 := eq_true p11
      replace q11 := eq_true q11
      go_wp2
      repeat (go_quiet (fail); try go_wp2)
      go_ret
      exact ⟨rs, dr⟩
     rw [if_pos c9] at H
     have c9b0 := eqt c9
     have c9b1 := nef c9
     clear c9
     have H' := am H
     clear H
     have p10 : 0 ≤ (x5_1 : Int) := od
     have q10 : x5_1 < (l0.length : Int) := od
     obtain ⟨ad10, e10, hx10_0⟩ := Kd.at_string HR0.out x5_1 p10 q10
     cases e10
     replace p10 := eq_true p10
     replace q10 := eq_true q10
     have p11 : 0 ≤ (x5_1 : Int) := od
     have q11 : x5_1 < (l1.length : Int) := od
     obtain ⟨ad11, e11, hx11_0⟩ := Kd.at_string HR1.out x5_1 p11 q11
     cases e11
     replace p11 := eq_true p11
     replace q11 := eq_true q11
     go_wp2
     repeat (go_quiet (fail); try go_wp2)
     go_roundg kj2
     case measure => have := HK1.out; have := HJ2.out; omega
     case rel => exact ⟨(wrap64 (x5_1 + 1)), rs, H', ⟨by have := HK1.out; have := HJ2.out; omega⟩, dr⟩
theorem u65HB {p : Prop} (h : p := by repeat (first | (with_reducible first | exact HB.out | apply below_alloc | apply pw_below_drewN | apply below_drew1 | refine below_set ?_ GE36.out) | exact HB.out)) : p := h
mutual
def spec_ObjOk.j0 : Nat → Bool → ByteArray → List ByteArray → List ByteArray → Int → List (S116) → ByteArray → Int → Option (Bool)
 | 0, _, _, _, _, _, _, _, _ => none
 | k + 1, x44, x41, x42, x40, x43, x45, x46, x47 => if x44 = true then (some false) else (spec_ObjOk.l0 k 0 x41 x42 x40 x43 x45 x46 x47)
def spec_ObjOk.l0 : Nat → Int → ByteArray → List ByteArray → List ByteArray → Int → List (S116) → ByteArray → Int → Option (Bool)
 | 0, _, _, _, _, _, _, _, _ => none
 | k + 1, x3, x41, x42, x40, x43, x45, x46, x47 => if x3 < (x40.length : Int) then (if 0 ≤ x3 then ((spec_ValueOk.f k (rdOf ByteArray.empty x40 x3)).bind fun t48 => (if t48 = true then (spec_ObjOk.l0 k (wrap64 (x3 + 1)) x41 x42 x40 x43 x45 x46 x47) else (some false))) else (none)) else (some true)
end
def spec_ObjOk.f (k : Nat) (a0_0 : ByteArray) (l0_1 : List ByteArray) (l0_2 : List ByteArray) (a0_3 : Int) (l0_4 : List (S116)) (a0_5 : ByteArray) (a0_6 : Int) : Option (Bool) := (spec_RespOk.f k a0_3 l0_4 a0_5).bind fun t49 => (if t49 = true then ((spec_l3Path.f k a0_0).bind fun t50 => (if t50 = true then ((spec_l1In.f a0_6 0 1000000).bind fun t51 => (if t51 = true then ((spec_l9Names.f k l0_1).bind fun t52 => (if t52 = true then ((spec_VaryOf.f k l0_4).bind fun t38 => ((spec_l8Texts.f k l0_1 t38).bind fun t53 => (if t53 = true then (spec_ObjOk.j0 k ((l0_2.length : Int) != (l0_1.length : Int)) a0_0 l0_1 l0_2 a0_3 l0_4 a0_5 a0_6) else (spec_ObjOk.j0 k true a0_0 l0_1 l0_2 a0_3 l0_4 a0_5 a0_6)))) else (spec_ObjOk.j0 k true a0_0 l0_1 l0_2 a0_3 l0_4 a0_5 a0_6))) else (spec_ObjOk.j0 k true a0_0 l0_1 l0_2 a0_3 l0_4 a0_5 a0_6))) else (spec_ObjOk.j0 k true a0_0 l0_1 l0_2 a0_3 l0_4 a0_5 a0_6))) else (spec_ObjOk.j0 k true a0_0 l0_1 l0_2 a0_3 l0_4 a0_5 a0_6))
def spec_ObjOk.T1 : Bool × List (List Nat × List Nat) := (true, [([], []), ([0], [0]), ([1], [1]), ([2], [2]), ([3, 2], [3]), ([4], [4]), ([5, 4], [4, 5]), ([6, 4, 4], [4, 6]), ([7, 4], [4, 7]), ([4, 8], [4, 8]), ([9, 7], [9]), ([10], [10]), ([11, 10], [10, 11]), ([12, 10, 10], [10, 12]), ([13, 10], [10, 13]), ([10, 14], [10, 14]), ([15, 13], [15]), ([16], [16]), ([17, 16], [16, 17]), ([18, 16, 16], [16, 18]), ([19, 16], [16, 19]), ([16, 20], [16, 20]), ([21, 19], [21]), ([22], [22]), ([23, 22], [22, 23]), ([22], [22]), ([25, 22], [22, 25]), ([26, 22], [22, 26]), ([27, 22, 22], [22, 27]), ([24, 28, 28, 22], [22, 24, 28]), ([29, 22], [22, 29]), ([22, 30], [22, 30]), ([31, 29], [31]), ([32], [32]), ([33, 32], [32, 33]), ([34, 32], [32, 34]), ([32], [32]), ([36, 32], [32, 36]), ([37, 32], [32, 37]), ([35, 38, 32], [32, 35, 38]), ([32, 39], [32, 39])])
def spec_ObjOk.B1 : List Nat := [0, 1, 3, 7, 15, 31, 63, 127, 255, 511, 1023, 2047, 4095, 8191, 16383, 32767, 65535, 131071, 262143, 524287, 1048575, 2097151, 4194303, 8388607, 16777215, 8388607, 41943039, 109051903, 243269631, 536870911, 1073741823, 2147483647, 4294967295, 8589934591, 17179869183, 34359738367, 8589934591, 77309411327, 214748364799, 549755813887, 1099511627775]
theorem spec_ObjOk.tab1 : rtab .any (opsOf Tryz.f65 1) = spec_ObjOk.T1 := by kernel_rfl
theorem spec_ObjOk.bits1 : waitsOk spec_ObjOk.T1.2 spec_ObjOk.B1 = true := by kernel_rfl
theorem spec_ObjOk.calls (k : Nat) (a0_0 : ByteArray) (A0_1 : Option Addr) (c0_1 : Nat) (l0_1 : List ByteArray) (A0_2 : Option Addr) (c0_2 : Nat) (l0_2 : List ByteArray) (a0_3 : Int) (A0_4 : Option Addr) (c0_4 : Nat) (l0_4 : List (S116)) (a0_5 : ByteArray) (a0_6 : Int) (r : Bool) (w : World) (hr0_1 : Kd.C Kd.string w A0_1 l0_1.length l0_1) (hc0_1 : l0_1.length ≤ c0_1) (hr0_2 : Kd.C Kd.string w A0_2 l0_2.length l0_2) (hc0_2 : l0_2.length ≤ c0_2) (hr0_4 : Kd.C k116 w A0_4 l0_4.length l0_4) (hc0_4 : l0_4.length ≤ c0_4) (h : spec_ObjOk.f k a0_0 l0_1 l0_2 a0_3 l0_4 a0_5 a0_6 = some r) :
  Calls Tryz.prog 65 #[.agg #[.string a0_0, .slice A0_1 l0_1.length c0_1, .slice A0_2 l0_2.length c0_2, .int .i64 a0_3, .slice A0_4 l0_4.length c0_4, .string a0_5, .int .i64 a0_6]] w fun e w' => e = .returned (.bool r) ∧ Below w.heap.size w w' := by
 have hu31 := Tryz.underlying31
 have hu29 := Tryz.underlying29
 have HR0_1 := am hr0_1
 have HC0_1 := am hc0_1
 clear hr0_1 hc0_1
 have HR0_2 := am hr0_2
 have HC0_2 := am hc0_2
 clear hr0_2 hc0_2
 have HR0_4 := am hr0_4
 have HC0_4 := am hc0_4
 clear hr0_4 hc0_4
 have HB := am (Below.refl w.heap.size w)
 unfold spec_ObjOk.f at h
 have H := h
 clear h
 have HC2 := am H
 clear H
 go_enter Tryz.func65, Tryz.ntmps65
 go_upto_region 1 with (first | ((with_reducible refine gate_dst (N := 1) rfl ?_); (try (refine gate_guard (by rfl) ?_; dsimp only)); refine box_event ?hg (N := 1) ?hd (cs := #[.string a0_0, .slice A0_1 l0_1.length c0_1, .slice A0_2 l0_2.length c0_2, .int .i64 a0_3, .slice A0_4 l0_4.length c0_4, .string a0_5, .int .i64 a0_6]) (t := 31) ?hr ?_; (case hd => rfl); (case hg => rfl); (case hr => first | (go_simp; done) | (go_simp; rfl)); intro gb36 hg w3 hbox hb; have BK36 := am (hbox); have GW36 := am (sz hg : w.heap.size ≤ gb36); have GE36 := am (sz hg : w.heap.size ≤ gb36); replace HB := am (below_step bl hb); clear hb hbox hg))
 (try simp only [Act.put, List.setIfInBounds_toArray, List.set_cons_zero, List.set_cons_succ])
 go_cut [44] (fun v44 wc => ∃ (kq : Nat) (x44_1 : Bool), v44 = .bool x44_1 ∧ Aside0 (spec_ObjOk.j0 kq x44_1 a0_0 l0_1 l0_2 a0_3 l0_4 a0_5 a0_6 = some r) ∧ Aside0 (kq ≤ k) ∧ Aside0 (wc.heap[gb36]? = some (.cells #[.string a0_0, (.slice A0_1 l0_1.length c0_1), (.slice A0_2 l0_2.length c0_2), .int .i64 a0_3, (.slice A0_4 l0_4.length c0_4), .string a0_5, .int .i64 a0_6] 31 (0, 0))) ∧ Aside0 (Below w.heap.size w wc))
 case first =>
  have H := HC2.out
  clear HC2
  revert H
  refine ok1 fun t49 A4 H => ?_
  by_cases c5 : t49 = true
  rotate_left
  ·replace c5 := nb_ c5
   subst c5
   rw [if_neg ff_] at H
   have H' := am H
   clear H
   try go_wp2
   replace BK36 := am (blk_drew BK36.out)
   replace HB := am (below_drew1 HB.out)
   refine start_ (n := 41) (S := fun w' => w'.cell? ⟨gb36, 0, none⟩ = some (.string a0_0) ∧ w'.cell? ⟨gb36, 1, none⟩ = some (.slice A0_1 l0_1.length c0_1) ∧ w'.cell? ⟨gb36, 2, none⟩ = some (.slice A0_2 l0_2.length c0_2) ∧ w'.cell? ⟨gb36, 3, none⟩ = some (.int .i64 a0_3) ∧ w'.cell? ⟨gb36, 4, none⟩ = some (.slice A0_4 l0_4.length c0_4) ∧ w'.cell? ⟨gb36, 5, none⟩ = some (.string a0_5) ∧ w'.cell? ⟨gb36, 6, none⟩ = some (.int .i64 a0_6)) (ds := []) ⟨br true [0, 41]⟩ (by kernel_rfl) rfl (by kernel_rfl) ⟨bc BK36, bc BK36, bc BK36, bc BK36, bc BK36, bc BK36, bc BK36⟩ (fun hHeld => ?_); refine with_tabW spec_ObjOk.tab1 spec_ObjOk.bits1 (fun HT_ HW_ => ?_)
   generalize w3.drew = w29 at BK36 HB hHeld ⊢
   refine pu 0 4 [1, 40] ?_
   refine tk 1 5 [2, 39] ?_
   refine og 2 6 [3, 38] Tryz.func92 #[.agg #[.int .i64 a0_3, .slice A0_4 l0_4.length c0_4, .string a0_5]] (fun K hK => ?_)
   refine (spec_RespOk.calls k a0_3 _ _ l0_4 a0_5 false _ (cb HR0_4) HC0_4.out A4.out).mono ?_
   rintro e w30 ⟨rfl, hb⟩
   refine ⟨_, rfl, ?_⟩
   replace BK36 := kb BK36 hb
   replace HB := am (below_step bl hb)
   clear hb
   refine hK.out _ _ ⟨bc BK36, bc BK36, bc BK36, bc BK36, bc BK36, bc BK36, bc BK36⟩ (fun hHeld => ?_)
   clear hK K
   refine nm 6 ?_
   refine pu 3 7 [4, 37] ?_
   refine pu 4 8 [5, 36] ?_
   refine pd 5 9 [6, 35] ?_
   refine pd 6 10 [7, 34] ?_
   refine pd 7 11 [8, 33] ?_
   refine pd 8 12 [9, 32] ?_
   refine pu 9 13 [10, 31] ?_
   refine pu 10 14 [11, 30] ?_
   refine pd 11 15 [12, 29] ?_
   refine pd 12 16 [13, 28] ?_
   refine pd 13 17 [14, 27] ?_
   refine pd 14 18 [15, 26] ?_
   refine pu 15 19 [16, 25] ?_
   refine pu 16 20 [17, 24] ?_
   refine pd 17 21 [18, 23] ?_
   refine pd 18 22 [19, 22] ?_
   refine pd 19 23 [20, 21] ?_
   refine pd 20 24 [21, 20] ?_
   refine pu 21 25 [22, 19] ?_
   refine pu 22 26 [23, 18] ?_
   refine pd 23 27 [24, 17] ?_
   refine pd 24 28 [25, 16] ?_
   refine pd 25 29 [26, 15] ?_
   refine pd 26 30 [27, 14] ?_
   refine pd 27 31 [28, 13] ?_
   refine pd 28 32 [29, 12] ?_
   refine pd 29 33 [30, 11] ?_
   refine pd 30 34 [31, 10] ?_
   refine pu 31 35 [32, 9] ?_
   refine pu 32 36 [33, 8] ?_
   refine pd 33 37 [34, 7] ?_
   refine pd 34 38 [35, 6] ?_
   refine pd 35 39 [36, 5] ?_
   refine pd 36 40 [37, 4] ?_
   refine pd 37 41 [38, 3] ?_
   refine pd 38 42 [39, 2] ?_
   refine pd 39 43 [40, 1] ?_
   refine pu 40 44 [41] ?_
   refine done_ (done_of HT_.out (by kernel_rfl)) ?_
   try go_wp2
   go_meet
   case rel => exact ⟨_, (true), rs, H', ⟨by first | omega | exact Nat.le_refl _⟩, ⟨bk BK36⟩, ⟨u65HB⟩⟩
  subst c5
  rw [if_pos rfl] at H
  revert H
  refine ok1 fun t50 A6 H => ?_
  by_cases c7 : t50 = true
  rotate_left
  ·replace c7 := nb_ c7
   subst c7
   rw [if_neg ff_] at H
   have H' := am H
   clear H
   try go_wp2
   replace BK36 := am (blk_drew BK36.out)
   replace HB := am (below_drew1 HB.out)
   refine start_ (n := 41) (S := fun w' => w'.cell? ⟨gb36, 0, none⟩ = some (.string a0_0) ∧ w'.cell? ⟨gb36, 1, none⟩ = some (.slice A0_1 l0_1.length c0_1) ∧ w'.cell? ⟨gb36, 2, none⟩ = some (.slice A0_2 l0_2.length c0_2) ∧ w'.cell? ⟨gb36, 3, none⟩ = some (.int .i64 a0_3) ∧ w'.cell? ⟨gb36, 4, none⟩ = some (.slice A0_4 l0_4.length c0_4) ∧ w'.cell? ⟨gb36, 5, none⟩ = some (.string a0_5) ∧ w'.cell? ⟨gb36, 6, none⟩ = some (.int .i64 a0_6)) (ds := []) ⟨br true [0, 41]⟩ (by kernel_rfl) rfl (by kernel_rfl) ⟨bc BK36, bc BK36, bc BK36, bc BK36, bc BK36, bc BK36, bc BK36⟩ (fun hHeld => ?_); refine with_tabW spec_ObjOk.tab1 spec_ObjOk.bits1 (fun HT_ HW_ => ?_)
   generalize w3.drew = w27 at BK36 HB hHeld ⊢
   refine pu 0 4 [1, 40] ?_
   refine tk 1 5 [2, 39] ?_
   refine og 2 6 [3, 38] Tryz.func92 #[.agg #[.int .i64 a0_3, .slice A0_4 l0_4.length c0_4, .string a0_5]] (fun K hK => ?_)
   refine (spec_RespOk.calls k a0_3 _ _ l0_4 a0_5 true _ (cb HR0_4) HC0_4.out A4.out).mono ?_
   rintro e w28 ⟨rfl, hb⟩
   refine ⟨_, rfl, ?_⟩
   replace BK36 := kb BK36 hb
   replace HB := am (below_step bl hb)
   clear hb
   refine hK.out _ _ ⟨bc BK36, bc BK36, bc BK36, bc BK36, bc BK36, bc BK36, bc BK36⟩ (fun hHeld => ?_)
   clear hK K
   refine nm 6 ?_
   refine pu 3 7 [4, 37] ?_
   refine pu 4 8 [5, 36] ?_
   refine pu 5 9 [6, 35] ?_
   refine tk 6 10 [7, 34] ?_
   refine og 7 11 [8, 33] Tryz.func133 #[.string a0_0] (fun K hK => ?_)
   with_reducible refine (spec_l3Path.calls k a0_0 false _ A6.out).mono ?_
   rintro e w' ⟨rfl, ⟨nd, rfl⟩⟩
   refine ⟨_, rfl, ?_⟩
   refine hK.out _ _ ⟨bc BK36, bc BK36, bc BK36, bc BK36, bc BK36, bc BK36, bc BK36⟩ (fun hHeld => ?_)
   clear hK K
   refine nm 11 ?_
   refine pu 8 12 [9, 32] ?_
   refine pu 9 13 [10, 31] ?_
   refine pu 10 14 [11, 30] ?_
   refine pd 11 15 [12, 29] ?_
   refine pd 12 16 [13, 28] ?_
   refine pd 13 17 [14, 27] ?_
   refine pd 14 18 [15, 26] ?_
   refine pu 15 19 [16, 25] ?_
   refine pu 16 20 [17, 24] ?_
   refine pd 17 21 [18, 23] ?_
   refine pd 18 22 [19, 22] ?_
   refine pd 19 23 [20, 21] ?_
   refine pd 20 24 [21, 20] ?_
   refine pu 21 25 [22, 19] ?_
   refine pu 22 26 [23, 18] ?_
   refine pd 23 27 [24, 17] ?_
   refine pd 24 28 [25, 16] ?_
   refine pd 25 29 [26, 15] ?_
   refine pd 26 30 [27, 14] ?_
   refine pd 27 31 [28, 13] ?_
   refine pd 28 32 [29, 12] ?_
   refine pd 29 33 [30, 11] ?_
   refine pd 30 34 [31, 10] ?_
   refine pu 31 35 [32, 9] ?_
   refine pu 32 36 [33, 8] ?_
   refine pd 33 37 [34, 7] ?_
   refine pd 34 38 [35, 6] ?_
   refine pd 35 39 [36, 5] ?_
   refine pd 36 40 [37, 4] ?_
   refine pd 37 41 [38, 3] ?_
   refine pd 38 42 [39, 2] ?_
   refine pd 39 43 [40, 1] ?_
   refine pu 40 44 [41] ?_
   refine done_ (done_of HT_.out (by kernel_rfl)) ?_
   try go_wp2
   go_meet
   case rel => exact ⟨_, (true), rs, H', ⟨by first | omega | exact Nat.le_refl _⟩, ⟨bk BK36⟩, ⟨u65HB⟩⟩
  subst c7
  rw [if_pos rfl] at H
  revert H
  refine ok1 fun t51 A8 H => ?_
  by_cases c9 : t51 = true
  rotate_left
  ·replace c9 := nb_ c9
   subst c9
   rw [if_neg ff_] at H
   have H' := am H
   clear H
   try go_wp2
   replace BK36 := am (blk_drew BK36.out)
   replace HB := am (below_drew1 HB.out)
   refine start_ (n := 41) (S := fun w' => w'.cell? ⟨gb36, 0, none⟩ = some (.string a0_0) ∧ w'.cell? ⟨gb36, 1, none⟩ = some (.slice A0_1 l0_1.length c0_1) ∧ w'.cell? ⟨gb36, 2, none⟩ = some (.slice A0_2 l0_2.length c0_2) ∧ w'.cell? ⟨gb36, 3, none⟩ = some (.int .i64 a0_3) ∧ w'.cell? ⟨gb36, 4, none⟩ = some (.slice A0_4 l0_4.length c0_4) ∧ w'.cell? ⟨gb36, 5, none⟩ = some (.string a0_5) ∧ w'.cell? ⟨gb36, 6, none⟩ = some (.int .i64 a0_6)) (ds := []) ⟨br true [0, 41]⟩ (by kernel_rfl) rfl (by kernel_rfl) ⟨bc BK36, bc BK36, bc BK36, bc BK36, bc BK36, bc BK36, bc BK36⟩ (fun hHeld => ?_); refine with_tabW spec_ObjOk.tab1 spec_ObjOk.bits1 (fun HT_ HW_ => ?_)
   generalize w3.drew = w25 at BK36 HB hHeld ⊢
   refine pu 0 4 [1, 40] ?_
   refine tk 1 5 [2, 39] ?_
   refine og 2 6 [3, 38] Tryz.func92 #[.agg #[.int .i64 a0_3, .slice A0_4 l0_4.length c0_4, .string a0_5]] (fun K hK => ?_)
   refine (spec_RespOk.calls k a0_3 _ _ l0_4 a0_5 true _ (cb HR0_4) HC0_4.out A4.out).mono ?_
   rintro e w26 ⟨rfl, hb⟩
   refine ⟨_, rfl, ?_⟩
   replace BK36 := kb BK36 hb
   replace HB := am (below_step bl hb)
   clear hb
   refine hK.out _ _ ⟨bc BK36, bc BK36, bc BK36, bc BK36, bc BK36, bc BK36, bc BK36⟩ (fun hHeld => ?_)
   clear hK K
   refine nm 6 ?_
   refine pu 3 7 [4, 37] ?_
   refine pu 4 8 [5, 36] ?_
   refine pu 5 9 [6, 35] ?_
   refine tk 6 10 [7, 34] ?_
   refine og 7 11 [8, 33] Tryz.func133 #[.string a0_0] (fun K hK => ?_)
   with_reducible refine (spec_l3Path.calls k a0_0 true _ A6.out).mono ?_
   rintro e w' ⟨rfl, ⟨nd, rfl⟩⟩
   refine ⟨_, rfl, ?_⟩
   refine hK.out _ _ ⟨bc BK36, bc BK36, bc BK36, bc BK36, bc BK36, bc BK36, bc BK36⟩ (fun hHeld => ?_)
   clear hK K
   refine nm 11 ?_
   refine pu 8 12 [9, 32] ?_
   refine pu 9 13 [10, 31] ?_
   refine pu 10 14 [11, 30] ?_
   refine pu 11 15 [12, 29] ?_
   refine tk 12 16 [13, 28] ?_
   refine og 13 17 [14, 27] Tryz.func79 #[.int .i64 a0_6, .int .i64 0, .int .i64 1000000] (fun K hK => ?_)
   with_reducible refine (spec_l1In.calls a0_6 0 1000000 false _ A8.out).mono ?_
   rintro e w' ⟨rfl, ⟨nd, rfl⟩⟩
   refine ⟨_, rfl, ?_⟩
   refine hK.out _ _ ⟨bc BK36, bc BK36, bc BK36, bc BK36, bc BK36, bc BK36, bc BK36⟩ (fun hHeld => ?_)
   clear hK K
   refine nm 17 ?_
   refine pu 14 18 [15, 26] ?_
   refine pu 15 19 [16, 25] ?_
   refine pu 16 20 [17, 24] ?_
   refine pd 17 21 [18, 23] ?_
   refine pd 18 22 [19, 22] ?_
   refine pd 19 23 [20, 21] ?_
   refine pd 20 24 [21, 20] ?_
   refine pu 21 25 [22, 19] ?_
   refine pu 22 26 [23, 18] ?_
   refine pd 23 27 [24, 17] ?_
   refine pd 24 28 [25, 16] ?_
   refine pd 25 29 [26, 15] ?_
   refine pd 26 30 [27, 14] ?_
   refine pd 27 31 [28, 13] ?_
   refine pd 28 32 [29, 12] ?_
   refine pd 29 33 [30, 11] ?_
   refine pd 30 34 [31, 10] ?_
   refine pu 31 35 [32, 9] ?_
   refine pu 32 36 [33, 8] ?_
   refine pd 33 37 [34, 7] ?_
   refine pd 34 38 [35, 6] ?_
   refine pd 35 39 [36, 5] ?_
   refine pd 36 40 [37, 4] ?_
   refine pd 37 41 [38, 3] ?_
   refine pd 38 42 [39, 2] ?_
   refine pd 39 43 [40, 1] ?_
   refine pu 40 44 [41] ?_
   refine done_ (done_of HT_.out (by kernel_rfl)) ?_
   try go_wp2
   go_meet
   case rel => exact ⟨_, (true), rs, H', ⟨by first | omega | exact Nat.le_refl _⟩, ⟨bk BK36⟩, ⟨u65HB⟩⟩
  subst c9
  rw [if_pos rfl] at H
  revert H
  refine ok1 fun t52 A10 H => ?_
  by_cases c11 : t52 = true
  rotate_left
  ·replace c11 := nb_ c11
   subst c11
   rw [if_neg ff_] at H
   have H' := am H
   clear H
   try go_wp2
   replace BK36 := am (blk_drew BK36.out)
   replace HB := am (below_drew1 HB.out)
   refine start_ (n := 41) (S := fun w' => w'.cell? ⟨gb36, 0, none⟩ = some (.string a0_0) ∧ w'.cell? ⟨gb36, 1, none⟩ = some (.slice A0_1 l0_1.length c0_1) ∧ w'.cell? ⟨gb36, 2, none⟩ = some (.slice A0_2 l0_2.length c0_2) ∧ w'.cell? ⟨gb36, 3, none⟩ = some (.int .i64 a0_3) ∧ w'.cell? ⟨gb36, 4, none⟩ = some (.slice A0_4 l0_4.length c0_4) ∧ w'.cell? ⟨gb36, 5, none⟩ = some (.string a0_5) ∧ w'.cell? ⟨gb36, 6, none⟩ = some (.int .i64 a0_6)) (ds := []) ⟨br true [0, 41]⟩ (by kernel_rfl) rfl (by kernel_rfl) ⟨bc BK36, bc BK36, bc BK36, bc BK36, bc BK36, bc BK36, bc BK36⟩ (fun hHeld => ?_); refine with_tabW spec_ObjOk.tab1 spec_ObjOk.bits1 (fun HT_ HW_ => ?_)
   generalize w3.drew = w23 at BK36 HB hHeld ⊢
   refine pu 0 4 [1, 40] ?_
   refine tk 1 5 [2, 39] ?_
   refine og 2 6 [3, 38] Tryz.func92 #[.agg #[.int .i64 a0_3, .slice A0_4 l0_4.length c0_4, .string a0_5]] (fun K hK => ?_)
   refine (spec_RespOk.calls k a0_3 _ _ l0_4 a0_5 true _ (cb HR0_4) HC0_4.out A4.out).mono ?_
   rintro e w24 ⟨rfl, hb⟩
   refine ⟨_, rfl, ?_⟩
   replace BK36 := kb BK36 hb
   replace HB := am (below_step bl hb)
   clear hb
   refine hK.out _ _ ⟨bc BK36, bc BK36, bc BK36, bc BK36, bc BK36, bc BK36, bc BK36⟩ (fun hHeld => ?_)
   clear hK K
   refine nm 6 ?_
   refine pu 3 7 [4, 37] ?_
   refine pu 4 8 [5, 36] ?_
   refine pu 5 9 [6, 35] ?_
   refine tk 6 10 [7, 34] ?_
   refine og 7 11 [8, 33] Tryz.func133 #[.string a0_0] (fun K hK => ?_)
   with_reducible refine (spec_l3Path.calls k a0_0 true _ A6.out).mono ?_
   rintro e w' ⟨rfl, ⟨nd, rfl⟩⟩
   refine ⟨_, rfl, ?_⟩
   refine hK.out _ _ ⟨bc BK36, bc BK36, bc BK36, bc BK36, bc BK36, bc BK36, bc BK36⟩ (fun hHeld => ?_)
   clear hK K
   refine nm 11 ?_
   refine pu 8 12 [9, 32] ?_
   refine pu 9 13 [10, 31] ?_
   refine pu 10 14 [11, 30] ?_
   refine pu 11 15 [12, 29] ?_
   refine tk 12 16 [13, 28] ?_
   refine og 13 17 [14, 27] Tryz.func79 #[.int .i64 a0_6, .int .i64 0, .int .i64 1000000] (fun K hK => ?_)
   with_reducible refine (spec_l1In.calls a0_6 0 1000000 true _ A8.out).mono ?_
   rintro e w' ⟨rfl, ⟨nd, rfl⟩⟩
   refine ⟨_, rfl, ?_⟩
   refine hK.out _ _ ⟨bc BK36, bc BK36, bc BK36, bc BK36, bc BK36, bc BK36, bc BK36⟩ (fun hHeld => ?_)
   clear hK K
   refine nm 17 ?_
   refine pu 14 18 [15, 26] ?_
   refine pu 15 19 [16, 25] ?_
   refine pu 16 20 [17, 24] ?_
   refine pu 17 21 [18, 23] ?_
   refine tk 18 22 [19, 22] ?_
   refine og 19 23 [20, 21] Tryz.func93 #[.slice A0_1 l0_1.length c0_1] (fun K hK => ?_)
   with_reducible refine (spec_l9Names.calls k _ _ l0_1 false _ ?side1 ?side2 A10.out).mono ?_
   (case side1 => repeat (first | exact (Kd.C_below HR0_1.out bl) | (with_reducible refine Kd.C_alloc ?_ _) | (with_reducible refine Kd.C_drewN ?_ _) | (with_reducible refine Kd.C_drew ?_)))
   (case side2 => exact HC0_1.out)
   rintro e w' ⟨rfl, ⟨nd, rfl⟩⟩
   refine ⟨_, rfl, ?_⟩
   refine hK.out _ _ ⟨bc BK36, bc BK36, bc BK36, bc BK36, bc BK36, bc BK36, bc BK36⟩ (fun hHeld => ?_)
   clear hK K
   refine nm 23 ?_
   refine pu 20 24 [21, 20] ?_
   refine pu 21 25 [22, 19] ?_
   refine pu 22 26 [23, 18] ?_
   refine pd 23 27 [24, 17] ?_
   refine pd 24 28 [25, 16] ?_
   refine pd 25 29 [26, 15] ?_
   refine pd 26 30 [27, 14] ?_
   refine pd 27 31 [28, 13] ?_
   refine pd 28 32 [29, 12] ?_
   refine pd 29 33 [30, 11] ?_
   refine pd 30 34 [31, 10] ?_
   refine pu 31 35 [32, 9] ?_
   refine pu 32 36 [33, 8] ?_
   refine pd 33 37 [34, 7] ?_
   refine pd 34 38 [35, 6] ?_
   refine pd 35 39 [36, 5] ?_
   refine pd 36 40 [37, 4] ?_
   refine pd 37 41 [38, 3] ?_
   refine pd 38 42 [39, 2] ?_
   refine pd 39 43 [40, 1] ?_
   refine pu 40 44 [41] ?_
   refine done_ (done_of HT_.out (by kernel_rfl)) ?_
   try go_wp2
   go_meet
   case rel => exact ⟨_, (true), rs, H', ⟨by first | omega | exact Nat.le_refl _⟩, ⟨bk BK36⟩, ⟨u65HB⟩⟩
  subst c11
  rw [if_pos rfl] at H
  revert H
  refine ok1 fun t38 A12 H => ?_
  revert H
  refine ok1 fun t53 A13 H => ?_
  by_cases c14 : t53 = true
  ·subst c14
   rw [if_pos rfl] at H
   have H' := am H
   clear H
   try go_wp2
   replace BK36 := am (blk_drew BK36.out)
   replace HB := am (below_drew1 HB.out)
   refine start_ (n := 41) (S := fun w' => w'.cell? ⟨gb36, 0, none⟩ = some (.string a0_0) ∧ w'.cell? ⟨gb36, 1, none⟩ = some (.slice A0_1 l0_1.length c0_1) ∧ w'.cell? ⟨gb36, 2, none⟩ = some (.slice A0_2 l0_2.length c0_2) ∧ w'.cell? ⟨gb36, 3, none⟩ = some (.int .i64 a0_3) ∧ w'.cell? ⟨gb36, 4, none⟩ = some (.slice A0_4 l0_4.length c0_4) ∧ w'.cell? ⟨gb36, 5, none⟩ = some (.string a0_5) ∧ w'.cell? ⟨gb36, 6, none⟩ = some (.int .i64 a0_6)) (ds := []) ⟨br true [0, 41]⟩ (by kernel_rfl) rfl (by kernel_rfl) ⟨bc BK36, bc BK36, bc BK36, bc BK36, bc BK36, bc BK36, bc BK36⟩ (fun hHeld => ?_); refine with_tabW spec_ObjOk.tab1 spec_ObjOk.bits1 (fun HT_ HW_ => ?_)
   generalize w3.drew = w15 at BK36 HB hHeld ⊢
   refine pu 0 4 [1, 40] ?_
   refine tk 1 5 [2, 39] ?_
   refine og 2 6 [3, 38] Tryz.func92 #[.agg #[.int .i64 a0_3, .slice A0_4 l0_4.length c0_4, .string a0_5]] (fun K hK => ?_)
   refine (spec_RespOk.calls k a0_3 _ _ l0_4 a0_5 true _ (cb HR0_4) HC0_4.out A4.out).mono ?_
   rintro e w16 ⟨rfl, hb⟩
   refine ⟨_, rfl, ?_⟩
   replace BK36 := kb BK36 hb
   replace HB := am (below_step bl hb)
   clear hb
   refine hK.out _ _ ⟨bc BK36, bc BK36, bc BK36, bc BK36, bc BK36, bc BK36, bc BK36⟩ (fun hHeld => ?_)
   clear hK K
   refine nm 6 ?_
   refine pu 3 7 [4, 37] ?_
   refine pu 4 8 [5, 36] ?_
   refine pu 5 9 [6, 35] ?_
   refine tk 6 10 [7, 34] ?_
   refine og 7 11 [8, 33] Tryz.func133 #[.string a0_0] (fun K hK => ?_)
   with_reducible refine (spec_l3Path.calls k a0_0 true _ A6.out).mono ?_
   rintro e w' ⟨rfl, ⟨nd, rfl⟩⟩
   refine ⟨_, rfl, ?_⟩
   refine hK.out _ _ ⟨bc BK36, bc BK36, bc BK36, bc BK36, bc BK36, bc BK36, bc BK36⟩ (fun hHeld => ?_)
   clear hK K
   refine nm 11 ?_
   refine pu 8 12 [9, 32] ?_
   refine pu 9 13 [10, 31] ?_
   refine pu 10 14 [11, 30] ?_
   refine pu 11 15 [12, 29] ?_
   refine tk 12 16 [13, 28] ?_
   refine og 13 17 [14, 27] Tryz.func79 #[.int .i64 a0_6, .int .i64 0, .int .i64 1000000] (fun K hK => ?_)
   with_reducible refine (spec_l1In.calls a0_6 0 1000000 true _ A8.out).mono ?_
   rintro e w' ⟨rfl, ⟨nd, rfl⟩⟩
   refine ⟨_, rfl, ?_⟩
   refine hK.out _ _ ⟨bc BK36, bc BK36, bc BK36, bc BK36, bc BK36, bc BK36, bc BK36⟩ (fun hHeld => ?_)
   clear hK K
   refine nm 17 ?_
   refine pu 14 18 [15, 26] ?_
   refine pu 15 19 [16, 25] ?_
   refine pu 16 20 [17, 24] ?_
   refine pu 17 21 [18, 23] ?_
   refine tk 18 22 [19, 22] ?_
   refine og 19 23 [20, 21] Tryz.func93 #[.slice A0_1 l0_1.length c0_1] (fun K hK => ?_)
   with_reducible refine (spec_l9Names.calls k _ _ l0_1 true _ ?side1 ?side2 A10.out).mono ?_
   (case side1 => repeat (first | exact (Kd.C_below HR0_1.out bl) | (with_reducible refine Kd.C_alloc ?_ _) | (with_reducible refine Kd.C_drewN ?_ _) | (with_reducible refine Kd.C_drew ?_)))
   (case side2 => exact HC0_1.out)
   rintro e w' ⟨rfl, ⟨nd, rfl⟩⟩
   refine ⟨_, rfl, ?_⟩
   refine hK.out _ _ ⟨bc BK36, bc BK36, bc BK36, bc BK36, bc BK36, bc BK36, bc BK36⟩ (fun hHeld => ?_)
   clear hK K
   refine nm 23 ?_
   refine pu 20 24 [21, 20] ?_
   refine pu 21 25 [22, 19] ?_
   refine pu 22 26 [23, 18] ?_
   refine pu 23 27 [24, 17] ?_
   refine pu 25 29 [24, 1, 1, 15] ?_
   refine pu 26 30 [24, 1, 2, 14] ?_
   refine tk 24 28 [27, 14] ?_
   refine tk 27 31 [28, 13] ?_
   refine og 28 32 [29, 12] Tryz.func94 #[.slice A0_4 l0_4.length c0_4] (fun K hK => ?_)
   with_reducible refine (spec_VaryOf.calls k _ _ l0_4 t38 _ ?side1 ?side2 A12.out).mono ?_
   (case side1 => repeat (first | exact (Kd.C_below HR0_4.out bl) | (with_reducible refine Kd.C_alloc ?_ _) | (with_reducible refine Kd.C_drewN ?_ _) | (with_reducible refine Kd.C_drew ?_)))
   (case side2 => exact HC0_4.out)
   rintro e w17 ⟨v54, rfl, ho0, hb⟩
   refine ⟨_, rfl, ?_⟩
   have HO39 := am (Kd.R_lower ho0 (below_size bl))
   replace BK36 := kb BK36 hb
   replace HB := am (below_step bl hb)
   clear hb ho0
   obtain ⟨Ao18, co18, eo18⟩ := Kd.R_slice HO39.out
   (first | subst eo18 | (injection eo18 with f1_ f2_ f3_; have f4_ := f1_.symm; have f5_ := f3_.symm; clear f1_ f2_ f3_; subst f4_; subst f5_))
   refine hK.out _ _ ⟨bc BK36, bc BK36, bc BK36, bc BK36, bc BK36, bc BK36, bc BK36⟩ (fun hHeld => ?_)
   clear hK K
   refine nm 32 ?_
   refine og 29 33 [30, 11] Tryz.func136 #[.slice A0_1 l0_1.length c0_1, .slice Ao18 t38.length co18] (fun K hK => ?_)
   refine (spec_l8Texts.calls k _ _ l0_1 _ _ t38 true _ (cb HR0_1) HC0_1.out (rc HO39) ((Kd.R_reads' HO39.out).2.1) A13.out).mono ?_
   rintro e w' ⟨rfl, ⟨nd, rfl⟩⟩
   refine ⟨_, rfl, ?_⟩
   refine hK.out _ _ ⟨bc BK36, bc BK36, bc BK36, bc BK36, bc BK36, bc BK36, bc BK36⟩ (fun hHeld => ?_)
   clear hK K
   refine nm 33 ?_
   refine pu 30 34 [31, 10] ?_
   refine pu 31 35 [32, 9] ?_
   refine pu 32 36 [33, 8] ?_
   refine pu 33 37 [34, 7] ?_
   refine pu 36 40 [34, 2, 1, 4] ?_
   refine tk 34 38 [35, 1, 1, 4] ?_
   refine pu 35 39 [37, 4] ?_
   refine tk 37 41 [38, 3] ?_
   refine pu 38 42 [39, 2] ?_
   refine pu 39 43 [40, 1] ?_
   refine pu 40 44 [41] ?_
   refine done_ (done_of HT_.out (by kernel_rfl)) ?_
   try go_wp2
   go_meet
   case rel => exact ⟨_, (((l0_2.length : Int) != (l0_1.length : Int))), rs, H', ⟨by first | omega | exact Nat.le_refl _⟩, ⟨bk BK36⟩, ⟨u65HB⟩⟩
  replace c14 := nb_ c14
  subst c14
  rw [if_neg ff_] at H
  have H' := am H
  clear H
  try go_wp2
  replace BK36 := am (blk_drew BK36.out)
  replace HB := am (below_drew1 HB.out)
  refine start_ (n := 41) (S := fun w' => w'.cell? ⟨gb36, 0, none⟩ = some (.string a0_0) ∧ w'.cell? ⟨gb36, 1, none⟩ = some (.slice A0_1 l0_1.length c0_1) ∧ w'.cell? ⟨gb36, 2, none⟩ = some (.slice A0_2 l0_2.length c0_2) ∧ w'.cell? ⟨gb36, 3, none⟩ = some (.int .i64 a0_3) ∧ w'.cell? ⟨gb36, 4, none⟩ = some (.slice A0_4 l0_4.length c0_4) ∧ w'.cell? ⟨gb36, 5, none⟩ = some (.string a0_5) ∧ w'.cell? ⟨gb36, 6, none⟩ = some (.int .i64 a0_6)) (ds := []) ⟨br true [0, 41]⟩ (by kernel_rfl) rfl (by kernel_rfl) ⟨bc BK36, bc BK36, bc BK36, bc BK36, bc BK36, bc BK36, bc BK36⟩ (fun hHeld => ?_); refine with_tabW spec_ObjOk.tab1 spec_ObjOk.bits1 (fun HT_ HW_ => ?_)
  generalize w3.drew = w19 at BK36 HB hHeld ⊢
  refine pu 0 4 [1, 40] ?_
  refine tk 1 5 [2, 39] ?_
  refine og 2 6 [3, 38] Tryz.func92 #[.agg #[.int .i64 a0_3, .slice A0_4 l0_4.length c0_4, .string a0_5]] (fun K hK => ?_)
  refine (spec_RespOk.calls k a0_3 _ _ l0_4 a0_5 true _ (cb HR0_4) HC0_4.out A4.out).mono ?_
  rintro e w20 ⟨rfl, hb⟩
  refine ⟨_, rfl, ?_⟩
  replace BK36 := kb BK36 hb
  replace HB := am (below_step bl hb)
  clear hb
  refine hK.out _ _ ⟨bc BK36, bc BK36, bc BK36, bc BK36, bc BK36, bc BK36, bc BK36⟩ (fun hHeld => ?_)
  clear hK K
  refine nm 6 ?_
  refine pu 3 7 [4, 37] ?_
  refine pu 4 8 [5, 36] ?_
  refine pu 5 9 [6, 35] ?_
  refine tk 6 10 [7, 34] ?_
  refine og 7 11 [8, 33] Tryz.func133 #[.string a0_0] (fun K hK => ?_)
  with_reducible refine (spec_l3Path.calls k a0_0 true _ A6.out).mono ?_
  rintro e w' ⟨rfl, ⟨nd, rfl⟩⟩
  refine ⟨_, rfl, ?_⟩
  refine hK.out _ _ ⟨bc BK36, bc BK36, bc BK36, bc BK36, bc BK36, bc BK36, bc BK36⟩ (fun hHeld => ?_)
  clear hK K
  refine nm 11 ?_
  refine pu 8 12 [9, 32] ?_
  refine pu 9 13 [10, 31] ?_
  refine pu 10 14 [11, 30] ?_
  refine pu 11 15 [12, 29] ?_
  refine tk 12 16 [13, 28] ?_
  refine og 13 17 [14, 27] Tryz.func79 #[.int .i64 a0_6, .int .i64 0, .int .i64 1000000] (fun K hK => ?_)
  with_reducible refine (spec_l1In.calls a0_6 0 1000000 true _ A8.out).mono ?_
  rintro e w' ⟨rfl, ⟨nd, rfl⟩⟩
  refine ⟨_, rfl, ?_⟩
  refine hK.out _ _ ⟨bc BK36, bc BK36, bc BK36, bc BK36, bc BK36, bc BK36, bc BK36⟩ (fun hHeld => ?_)
  clear hK K
  refine nm 17 ?_
  refine pu 14 18 [15, 26] ?_
  refine pu 15 19 [16, 25] ?_
  refine pu 16 20 [17, 24] ?_
  refine pu 17 21 [18, 23] ?_
  refine tk 18 22 [19, 22] ?_
  refine og 19 23 [20, 21] Tryz.func93 #[.slice A0_1 l0_1.length c0_1] (fun K hK => ?_)
  with_reducible refine (spec_l9Names.calls k _ _ l0_1 true _ ?side1 ?side2 A10.out).mono ?_
  (case side1 => repeat (first | exact (Kd.C_below HR0_1.out bl) | (with_reducible refine Kd.C_alloc ?_ _) | (with_reducible refine Kd.C_drewN ?_ _) | (with_reducible refine Kd.C_drew ?_)))
  (case side2 => exact HC0_1.out)
  rintro e w' ⟨rfl, ⟨nd, rfl⟩⟩
  refine ⟨_, rfl, ?_⟩
  refine hK.out _ _ ⟨bc BK36, bc BK36, bc BK36, bc BK36, bc BK36, bc BK36, bc BK36⟩ (fun hHeld => ?_)
  clear hK K
  refine nm 23 ?_
  refine pu 20 24 [21, 20] ?_
  refine pu 21 25 [22, 19] ?_
  refine pu 22 26 [23, 18] ?_
  refine pu 23 27 [24, 17] ?_
  refine pu 25 29 [24, 1, 1, 15] ?_
  refine pu 26 30 [24, 1, 2, 14] ?_
  refine tk 24 28 [27, 14] ?_
  refine tk 27 31 [28, 13] ?_
  refine og 28 32 [29, 12] Tryz.func94 #[.slice A0_4 l0_4.length c0_4] (fun K hK => ?_)
  with_reducible refine (spec_VaryOf.calls k _ _ l0_4 t38 _ ?side1 ?side2 A12.out).mono ?_
  (case side1 => repeat (first | exact (Kd.C_below HR0_4.out bl) | (with_reducible refine Kd.C_alloc ?_ _) | (with_reducible refine Kd.C_drewN ?_ _) | (with_reducible refine Kd.C_drew ?_)))
  (case side2 => exact HC0_4.out)
  rintro e w21 ⟨v54, rfl, ho0, hb⟩
  refine ⟨_, rfl, ?_⟩
  have HO39 := am (Kd.R_lower ho0 (below_size bl))
  replace BK36 := kb BK36 hb
  replace HB := am (below_step bl hb)
  clear hb ho0
  obtain ⟨Ao22, co22, eo22⟩ := Kd.R_slice HO39.out
  (first | subst eo22 | (injection eo22 with f1_ f2_ f3_; have f4_ := f1_.symm; have f5_ := f3_.symm; clear f1_ f2_ f3_; subst f4_; subst f5_))
  refine hK.out _ _ ⟨bc BK36, bc BK36, bc BK36, bc BK36, bc BK36, bc BK36, bc BK36⟩ (fun hHeld => ?_)
  clear hK K
  refine nm 32 ?_
  refine og 29 33 [30, 11] Tryz.func136 #[.slice A0_1 l0_1.length c0_1, .slice Ao22 t38.length co22] (fun K hK => ?_)
  refine (spec_l8Texts.calls k _ _ l0_1 _ _ t38 false _ (cb HR0_1) HC0_1.out (rc HO39) ((Kd.R_reads' HO39.out).2.1) A13.out).mono ?_
  rintro e w' ⟨rfl, ⟨nd, rfl⟩⟩
  refine ⟨_, rfl, ?_⟩
  refine hK.out _ _ ⟨bc BK36, bc BK36, bc BK36, bc BK36, bc BK36, bc BK36, bc BK36⟩ (fun hHeld => ?_)
  clear hK K
  refine nm 33 ?_
  refine pu 30 34 [31, 10] ?_
  refine pu 31 35 [32, 9] ?_
  refine pu 32 36 [33, 8] ?_
  refine pd 33 37 [34, 7] ?_
  refine pd 34 38 [35, 6] ?_
  refine pd 35 39 [36, 5] ?_
  refine pd 36 40 [37, 4] ?_
  refine pd 37 41 [38, 3] ?_
  refine pd 38 42 [39, 2] ?_
  refine pd 39 43 [40, 1] ?_
  refine pu 40 44 [41] ?_
  refine done_ (done_of HT_.out (by kernel_rfl)) ?_
  try go_wp2
  go_meet
  case rel => exact ⟨_, (true), rs, H', ⟨by first | omega | exact Nat.le_refl _⟩, ⟨bk BK36⟩, ⟨u65HB⟩⟩
 case rest =>
  clear HC2
  obtain ⟨kq, x44_1, rfl, HA, HJ1, BK36, HB⟩ := hcut
  cases kq with
  | zero => exact absurd HA.out (by simp [spec_ObjOk.j0])
  | succ kj1 =>
   have H := HA.out
   clear HA
   simp only [spec_ObjOk.j0] at H
   by_cases c31 : x44_1 = true
   ·subst c31
    rw [if_pos rfl] at H
    obtain rfl := si_ H
    go_wp2
    go_ret
    exact ⟨rf, bl⟩
   replace c31 := nb_ c31
   subst c31
   rw [if_neg ff_] at H
   have H' := am H
   clear H
   go_wp2
   (try simp only [Act.put, List.setIfInBounds_toArray, List.set_cons_zero, List.set_cons_succ])
   go_loopg [3] kj1 (fun kq v3 w' => ∃ (x3_2 : Int), v3 = .int .i64 x3_2 ∧ Aside0 (spec_ObjOk.l0 kq x3_2 a0_0 l0_1 l0_2 a0_3 l0_4 a0_5 a0_6 = some r) ∧ Aside0 (kq ≤ kj1) ∧ Aside0 (w'.heap[gb36]? = some (.cells #[.string a0_0, (.slice A0_1 l0_1.length c0_1), (.slice A0_2 l0_2.length c0_2), .int .i64 a0_3, (.slice A0_4 l0_4.length c0_4), .string a0_5, .int .i64 a0_6] 31 (0, 0))) ∧ Aside0 (Below w.heap.size w w'))
   case atStart => exact ⟨(0), rs, H', ⟨Nat.le_refl _⟩, ⟨bk BK36⟩, ⟨u65HB⟩⟩
   case round =>
    clear H'
    obtain ⟨x3_2, rfl, HA, HK2, BK36, HB⟩ := hrel
    cases gk with
    | zero => exact absurd HA.out (by simp [spec_ObjOk.l0])
    | succ k2 =>
     have H := HA.out
     clear HA
     simp only [spec_ObjOk.l0] at H
     by_cases c32 : x3_2 < (l0_2.length : Int)
     rotate_left
     ·rw [if_neg c32] at H
      have c32b0 := decide_eq_false c32
      clear c32
      obtain rfl := si_ H
      obtain ⟨_, _, _, _, _, _, _, _, _, _, _, _, _, _⟩ := cl7 BK36
      go_wp2
      go_ret
      exact ⟨rf, bl⟩
     rw [if_pos c32] at H
     have c32b0 := decide_eq_true c32
     clear c32
     revert H
     refine ifn fun c33 H => ?_
     have c33b0 := decide_eq_true c33
     clear c33
     revert H
     refine ok1 fun t48 A34 H => ?_
     by_cases c35 : t48 = true
     rotate_left
     ·replace c35 := nb_ c35
      subst c35
      rw [if_neg ff_] at H
      obtain rfl := si_ H
      obtain ⟨_, _, _, _, _, _, _, _, _, _, _, _, _, _⟩ := cl7 BK36
      have p37 : 0 ≤ (x3_2 : Int) := od
      have q37 : x3_2 < (l0_2.length : Int) := od
      obtain ⟨ad37, e37, hx37_0⟩ := Kd.at_string HR0_2.out x3_2 p37 q37
      cases e37
      replace hx37_0 := hcw hx37_0
      replace p37 := eq_true p37
      replace q37 := eq_true q37
      go_wp2_with ((with_reducible refine gw ?_); first | (refine gl 57 Tryz.func135 #[.string (rdOf ByteArray.empty l0_2 x3_2)] ?_; (with_reducible refine (spec_ValueOk.calls k2 (rdOf ByteArray.empty l0_2 x3_2) false _ A34.out).mono ?_); rintro e w' ⟨rfl, ⟨nd, rfl⟩⟩; refine ⟨_, rfl, ?_⟩))
      go_ret
      exact ⟨rf, bl⟩
     subst c35
     rw [if_pos rfl] at H
     have H' := am H
     clear H
     obtain ⟨_, _, _, _, _, _, _, _, _, _, _, _, _, _⟩ := cl7 BK36
     have p37 : 0 ≤ (x3_2 : Int) := od
     have q37 : x3_2 < (l0_2.length : Int) := od
     obtain ⟨ad37, e37, hx37_0⟩ := Kd.at_string HR0_2.out x3_2 p37 q37
     cases e37
     replace hx37_0 := hcw hx37_0
     replace p37 := eq_true p37
     replace q37 := eq_true q37
     go_wp2_with ((with_reducible refine gw ?_); first | (refine gl 57 Tryz.func135 #[.string (rdOf ByteArray.empty l0_2 x3_2)] ?_; (with_reducible refine (spec_ValueOk.calls k2 (rdOf ByteArray.empty l0_2 x3_2) true _ A34.out).mono ?_); rintro e w' ⟨rfl, ⟨nd, rfl⟩⟩; refine ⟨_, rfl, ?_⟩))
     go_roundg k2
     case measure => have := HJ1.out; have := HK2.out; omega
     case rel => exact ⟨(wrap64 (x3_2 + 1)), rs, H', ⟨by have := HJ1.out; have := HK2.out; omega⟩, ⟨bk BK36⟩, ⟨u65HB⟩⟩
def impl_isTime.f (a0 : Int) : Option (Bool) := (impl_inRange.f a0 0 1000000).bind fun t3 => (some t3)
theorem impl_isTime.calls (a0 : Int) (r : Bool) (w : World) (h : impl_isTime.f a0 = some r) :
  Calls Tryz.prog 67 #[.int .i64 a0] w fun e w' => e = .returned (.bool r) ∧ Drawn0 w w' := by
 unfold impl_isTime.f at h
 have H := h
 clear h
 revert H
 refine ok1 fun t3 A2 H => ?_
 obtain rfl := si_ H
 go_enter Tryz.func67, Tryz.ntmps67
 go_wp2_with ((with_reducible refine gw ?_); first | (refine gl 4 Tryz.func76 #[.int .i64 a0, .int .i64 0, .int .i64 1000000] ?_; (with_reducible refine (impl_inRange.calls a0 0 1000000 t3 _ A2.out).mono ?_); rintro e w' ⟨rfl, ⟨nd, rfl⟩⟩; refine ⟨_, rfl, ?_⟩))
 go_ret
 exact ⟨rs, dr⟩
def slices_Equal_string_string.l0 : Nat → List ByteArray → List ByteArray → Int → Int → Option (Bool)
 | 0, _, _, _, _ => none
 | k + 1, x0, x1, x12, x13 => if x13 < x12 then (if 0 ≤ x13 then (if x13 < (x0.length : Int) then (if x13 < (x1.length : Int) then (if (rdOf ByteArray.empty x0 x13).toList = (rdOf ByteArray.empty x1 x13).toList then (slices_Equal_string_string.l0 k x0 x1 x12 (wrap64 (x13 + 1))) else (some false)) else (none)) else (none)) else (none)) else (some true)
def slices_Equal_string_string.f (k : Nat) (l0 : List ByteArray) (l1 : List ByteArray) : Option (Bool) := if (l0.length : Int) = (l1.length : Int) then (slices_Equal_string_string.l0 k l0 l1 (l0.length : Int) 0) else (some false)
theorem slices_Equal_string_string.calls (k : Nat) (A0 : Option Addr) (c0 : Nat) (l0 : List ByteArray) (A1 : Option Addr) (c1 : Nat) (l1 : List ByteArray) (r : Bool) (w : World) (hr0 : Kd.C Kd.string w A0 l0.length l0) (hc0 : l0.length ≤ c0) (hr1 : Kd.C Kd.string w A1 l1.length l1) (hc1 : l1.length ≤ c1) (h : slices_Equal_string_string.f k l0 l1 = some r) :
  Calls Tryz.prog 72 #[.slice A0 l0.length c0, .slice A1 l1.length c1] w fun e w' => e = .returned (.bool r) ∧ Drawn0 w w' := by
 have HR0 := am hr0
 have HC0 := am hc0
 clear hr0 hc0
 have HR1 := am hr1
 have HC1 := am hc1
 clear hr1 hc1
 unfold slices_Equal_string_string.f at h
 have H := h
 clear h
 by_cases c3 : (l0.length : Int) = (l1.length : Int)
 rotate_left
 ·rw [if_neg c3] at H
  have c3b0 := eqf c3
  have c3b1 := net c3
  have c3b2 : (l0.length == l1.length) = false := by first | simpa using c3 | (simp at c3 ⊢; omega)
  obtain rfl := si_ H
  go_enter Tryz.func72, Tryz.ntmps72
  go_wp2
  repeat (go_quiet (fail); try go_wp2)
  go_ret
  exact ⟨rs, dr⟩
 rw [if_pos c3] at H
 have c3b0 := eqt c3
 have c3b1 := nef c3
 have c3b2 : (l0.length == l1.length) = true := by first | simpa using c3 | (simp at c3 ⊢; omega)
 clear c3
 have H' := am H
 clear H
 go_enter Tryz.func72, Tryz.ntmps72
 go_wp2
 repeat (go_quiet (fail); try go_wp2)
 (try simp only [Act.put, List.setIfInBounds_toArray, List.set_cons_zero, List.set_cons_succ])
 go_loopg [13] k (fun kq v13 w' => ∃ (x13_1 : Int), v13 = .int .i64 x13_1 ∧ Aside0 (slices_Equal_string_string.l0 kq l0 l1 (l0.length : Int) x13_1 = some r) ∧ Aside0 (kq ≤ k) ∧ Drawn0 w w')
 case atStart => exact ⟨(0), rs, H', ⟨Nat.le_refl _⟩, dr⟩
 case round =>
  clear H'
  obtain ⟨x13_1, rfl, HA, HK1, ⟨m1, rfl⟩⟩ := hrel
  cases gk with
  | zero => exact absurd HA.out (by simp [slices_Equal_string_string.l0])
  | succ k1 =>
   have H := HA.out
   clear HA
   simp only [slices_Equal_string_string.l0] at H
   by_cases c4 : x13_1 < (l0.length : Int)
   rotate_left
   ·rw [if_neg c4] at H
    have c4b0 := decide_eq_false c4
    clear c4
    obtain rfl := si_ H
    go_wp2
    repeat (go_quiet (fail); try go_wp2)
    go_ret
    exact ⟨rs, dr⟩
   rw [if_pos c4] at H
   have c4b0 := decide_eq_true c4
   clear c4
   revert H
   refine ifn fun c5 H => ?_
   have c5b0 := decide_eq_true c5
   clear c5
   revert H
   refine ifn fun c6 H => ?_
   have c6b0 := decide_eq_true c6
   clear c6
   revert H
   refine ifn fun c7 H => ?_
   have c7b0 := decide_eq_true c7
   clear c7
   by_cases c8 : (rdOf ByteArray.empty l0 x13_1).toList = (rdOf ByteArray.empty l1 x13_1).toList
   rotate_left
   ·rw [if_neg c8] at H
    have c8b0 := eqf c8
    have c8b1 := net c8
    obtain rfl := si_ H
    have p9 : 0 ≤ (x13_1 : Int) := od
    have q9 : x13_1 < (l0.length : Int) := od
    obtain ⟨ad9, e9, hx9_0⟩ := Kd.at_string HR0.out x13_1 p9 q9
    cases e9
    replace p9 := eq_true p9
    replace q9 := eq_true q9
    have p10 : 0 ≤ (x13_1 : Int) := od
    have q10 : x13_1 < (l1.length : Int) := od
    obtain ⟨ad10, e10, hx10_0⟩ := Kd.at_string HR1.out x13_1 p10 q10
    cases e10
    replace p10 := eq_true p10
    replace q10 := eq_true q10
    go_wp2
    repeat (go_quiet (fail); try go_wp2)
    go_ret
    exact ⟨rs, dr⟩
   rw [if_pos c8] at H
   have c8b0 := eqt c8
   have c8b1 := nef c8
   clear c8
   have H' := am H
   clear H
   have p9 : 0 ≤ (x13_1 : Int) := od
   have q9 : x13_1 < (l0.length : Int) := od
   obtain ⟨ad9, e9, hx9_0⟩ := Kd.at_string HR0.out x13_1 p9 q9
   cases e9
   replace p9 := eq_true p9
   replace q9 := eq_true q9
   have p10 : 0 ≤ (x13_1 : Int) := od
   have q10 : x13_1 < (l1.length : Int) := od
   obtain ⟨ad10, e10, hx10_0⟩ := Kd.at_string HR1.out x13_1 p10 q10
   cases e10
   replace p10 := eq_true p10
   replace q10 := eq_true q10
   go_wp2
   repeat (go_quiet (fail); try go_wp2)
   go_roundg k1
   case measure => have := HK1.out; omega
   case rel => exact ⟨(wrap64 (x13_1 + 1)), rs, H', ⟨by have := HK1.out; omega⟩, dr⟩
theorem u15HB {p : Prop} (h : p := by repeat (first | (with_reducible first | exact HB.out | apply below_alloc | apply pw_below_drewN | apply below_drew1 | refine below_set ?_ GE20.out) | exact HB.out)) : p := h
mutual
def impl_ObjOk.l0 : Nat → List ByteArray → Int → Int → ByteArray → List ByteArray → List ByteArray → Int → List (S116) → ByteArray → Int → Option (Bool)
 | 0, _, _, _, _, _, _, _, _, _, _ => none
 | k + 1, x6, x7, x8, x25, x23, x33, x34, x24, x35, x36 => if x8 < x7 then (if 0 ≤ x8 then (if x8 < (x6.length : Int) then ((impl_ValueOk.f k (rdOf ByteArray.empty x6 x8)).bind fun t39 => (if t39 = true then (impl_ObjOk.l0 k x6 x7 (wrap64 (x8 + 1)) x25 x23 x33 x34 x24 x35 x36) else (some false))) else (none)) else (none)) else ((impl_pathOk.f k x25).bind fun t40 => (if t40 = true then ((impl_isTime.f x36).bind fun t41 => (if t41 = true then (if (x33.length : Int) = (x23.length : Int) then ((impl_namesOk.f k x23).bind fun t42 => (if t42 = true then ((impl_RespOk.f k x34 x24 x35).bind fun t38 => (impl_ObjOk.j1 k (!t38) x25 x23 x33 x34 x24 x35 x36)) else (impl_ObjOk.j1 k true x25 x23 x33 x34 x24 x35 x36))) else (impl_ObjOk.j1 k true x25 x23 x33 x34 x24 x35 x36)) else (impl_ObjOk.j1 k true x25 x23 x33 x34 x24 x35 x36))) else (impl_ObjOk.j1 k true x25 x23 x33 x34 x24 x35 x36)))
def impl_ObjOk.j1 : Nat → Bool → ByteArray → List ByteArray → List ByteArray → Int → List (S116) → ByteArray → Int → Option (Bool)
 | 0, _, _, _, _, _, _, _, _ => none
 | k + 1, x46, x25, x23, x33, x34, x24, x35, x36 => if x46 = true then (some false) else ((impl_VaryOf.f k x24).bind fun t37 => ((slices_Equal_string_string.f k x23 t37).bind fun t43 => (some t43)))
end
def impl_ObjOk.f (k : Nat) (a0_0 : ByteArray) (l0_1 : List ByteArray) (l0_2 : List ByteArray) (a0_3 : Int) (l0_4 : List (S116)) (a0_5 : ByteArray) (a0_6 : Int) : Option (Bool) := impl_ObjOk.l0 k l0_2 (l0_2.length : Int) 0 a0_0 l0_1 l0_2 a0_3 l0_4 a0_5 a0_6
def impl_ObjOk.T9 : Bool × List (List Nat × List Nat) := (true, [([], []), ([0], [0]), ([], []), ([2], [2]), ([3], [3]), ([4], [4]), ([1, 5, 5], [1, 5]), ([6, 6, 0, 1, 2, 3, 4, 5, 6], [6])])
def impl_ObjOk.B9 : List Nat := [0, 1, 0, 4, 12, 28, 63, 127]
theorem impl_ObjOk.tab9 : rtab .any (opsOf Tryz.f15 9) = impl_ObjOk.T9 := by kernel_rfl
theorem impl_ObjOk.bits9 : waitsOk impl_ObjOk.T9.2 impl_ObjOk.B9 = true := by kernel_rfl
theorem impl_ObjOk.calls (k : Nat) (a0_0 : ByteArray) (A0_1 : Option Addr) (c0_1 : Nat) (l0_1 : List ByteArray) (A0_2 : Option Addr) (c0_2 : Nat) (l0_2 : List ByteArray) (a0_3 : Int) (A0_4 : Option Addr) (c0_4 : Nat) (l0_4 : List (S116)) (a0_5 : ByteArray) (a0_6 : Int) (r : Bool) (w : World) (hGM : GLOBM w) (hr0_1 : Kd.C Kd.string w A0_1 l0_1.length l0_1) (hc0_1 : l0_1.length ≤ c0_1) (hr0_2 : Kd.C Kd.string w A0_2 l0_2.length l0_2) (hc0_2 : l0_2.length ≤ c0_2) (hr0_4 : Kd.C k116 w A0_4 l0_4.length l0_4) (hc0_4 : l0_4.length ≤ c0_4) (h : impl_ObjOk.f k a0_0 l0_1 l0_2 a0_3 l0_4 a0_5 a0_6 = some r) :
  Calls Tryz.prog 15 #[.agg #[.string a0_0, .slice A0_1 l0_1.length c0_1, .slice A0_2 l0_2.length c0_2, .int .i64 a0_3, .slice A0_4 l0_4.length c0_4, .string a0_5, .int .i64 a0_6]] w fun e w' => e = .returned (.bool r) ∧ Below w.heap.size w w' := by
 have hu31 := Tryz.underlying31
 have hu29 := Tryz.underlying29
 have HR0_1 := am hr0_1
 have HC0_1 := am hc0_1
 clear hr0_1 hc0_1
 have HR0_2 := am hr0_2
 have HC0_2 := am hc0_2
 clear hr0_2 hc0_2
 have HR0_4 := am hr0_4
 have HC0_4 := am hc0_4
 clear hr0_4 hc0_4
 have HGM := am hGM
 clear hGM
 have HB := am (Below.refl w.heap.size w)
 unfold impl_ObjOk.f at h
 have H := h
 clear h
 have H' := am H
 clear H
 go_enter Tryz.func15, Tryz.ntmps15
 go_wp2_with (first | ((with_reducible refine gate_dst (N := 1) rfl ?_); (try (refine gate_guard (by rfl) ?_; dsimp only)); refine box_event ?hg (N := 1) ?hd (cs := #[.string a0_0, .slice A0_1 l0_1.length c0_1, .slice A0_2 l0_2.length c0_2, .int .i64 a0_3, .slice A0_4 l0_4.length c0_4, .string a0_5, .int .i64 a0_6]) (t := 31) ?hr ?_; (case hd => rfl); (case hg => rfl); (case hr => first | (go_simp; done) | (go_simp; rfl)); intro gb20 hg w2 hbox hb; have BK20 := am (hbox); have GW20 := am (sz hg : w.heap.size ≤ gb20); have GE20 := am (sz hg : w.heap.size ≤ gb20); replace HB := am (below_step bl hb); clear hb hbox hg; obtain ⟨_, _, _, _, _, _, _, _, _, _, _, _, _, _⟩ := cl7 BK20))
 (try simp only [Act.put, List.setIfInBounds_toArray, List.set_cons_zero, List.set_cons_succ])
 go_loopg [8] k (fun kq v8 w' => ∃ (x8_1 : Int), v8 = .int .i64 x8_1 ∧ Aside0 (impl_ObjOk.l0 kq l0_2 (l0_2.length : Int) x8_1 a0_0 l0_1 l0_2 a0_3 l0_4 a0_5 a0_6 = some r) ∧ Aside0 (kq ≤ k) ∧ Aside0 (w'.heap[gb20]? = some (.cells #[.string a0_0, (.slice A0_1 l0_1.length c0_1), (.slice A0_2 l0_2.length c0_2), .int .i64 a0_3, (.slice A0_4 l0_4.length c0_4), .string a0_5, .int .i64 a0_6] 31 (0, 0))) ∧ Aside0 (Below w.heap.size w w'))
 case atStart => exact ⟨(0), rs, H', ⟨Nat.le_refl _⟩, ⟨bk BK20⟩, ⟨u15HB⟩⟩
 case round =>
  clear H'
  obtain ⟨x8_1, rfl, HA, HK1, BK20, HB⟩ := hrel
  cases gk with
  | zero => exact absurd HA.out (by simp [impl_ObjOk.l0])
  | succ k1 =>
   have H := HA.out
   clear HA
   simp only [impl_ObjOk.l0] at H
   by_cases c4 : x8_1 < (l0_2.length : Int)
   ·rw [if_pos c4] at H
    have c4b0 := decide_eq_true c4
    clear c4
    revert H
    refine ifn fun c5 H => ?_
    have c5b0 := decide_eq_true c5
    clear c5
    revert H
    refine ifn fun c6 H => ?_
    have c6b0 := decide_eq_true c6
    clear c6
    revert H
    refine ok1 fun t39 A7 H => ?_
    by_cases c8 : t39 = true
    rotate_left
    ·replace c8 := nb_ c8
     subst c8
     rw [if_neg ff_] at H
     obtain rfl := si_ H
     have p22 : 0 ≤ (x8_1 : Int) := od
     have q22 : x8_1 < (l0_2.length : Int) := od
     obtain ⟨ad22, e22, hx22_0⟩ := Kd.at_string HR0_2.out x8_1 p22 q22
     cases e22
     replace hx22_0 := hcw hx22_0
     replace p22 := eq_true p22
     replace q22 := eq_true q22
     go_wp2_with ((with_reducible refine gw ?_); first | (refine gl 13 Tryz.func70 #[.string (rdOf ByteArray.empty l0_2 x8_1)] ?_; (with_reducible refine (impl_ValueOk.calls k1 (rdOf ByteArray.empty l0_2 x8_1) false _ A7.out).mono ?_); rintro e w10 ⟨rfl, hb⟩; refine ⟨_, rfl, ?_⟩; replace BK20 := kb BK20 hb; replace HB := am (below_step bl hb); clear hb))
     go_ret
     exact ⟨rf, bl⟩
    subst c8
    rw [if_pos rfl] at H
    have H' := am H
    clear H
    have p22 : 0 ≤ (x8_1 : Int) := od
    have q22 : x8_1 < (l0_2.length : Int) := od
    obtain ⟨ad22, e22, hx22_0⟩ := Kd.at_string HR0_2.out x8_1 p22 q22
    cases e22
    replace hx22_0 := hcw hx22_0
    replace p22 := eq_true p22
    replace q22 := eq_true q22
    go_wp2_with ((with_reducible refine gw ?_); first | (refine gl 13 Tryz.func70 #[.string (rdOf ByteArray.empty l0_2 x8_1)] ?_; (with_reducible refine (impl_ValueOk.calls k1 (rdOf ByteArray.empty l0_2 x8_1) true _ A7.out).mono ?_); rintro e w9 ⟨rfl, hb⟩; refine ⟨_, rfl, ?_⟩; replace BK20 := kb BK20 hb; replace HB := am (below_step bl hb); clear hb))
    go_roundg k1
    case measure => have := HK1.out; omega
    case rel => exact ⟨(wrap64 (x8_1 + 1)), rs, H', ⟨by have := HK1.out; omega⟩, ⟨bk BK20⟩, ⟨u15HB⟩⟩
   rw [if_neg c4] at H
   have c4b0 := decide_eq_false c4
   clear c4
   have HC11 := am H
   clear H
   go_upto_region 7 with (fail)
   go_cut [46] (fun v46 wc => ∃ (kq : Nat) (x46_10 : Bool), v46 = .bool x46_10 ∧ Aside0 (impl_ObjOk.j1 kq x46_10 a0_0 l0_1 l0_2 a0_3 l0_4 a0_5 a0_6 = some r) ∧ Aside0 (kq ≤ k1) ∧ Aside0 (wc.heap[gb20]? = some (.cells #[.string a0_0, (.slice A0_1 l0_1.length c0_1), (.slice A0_2 l0_2.length c0_2), .int .i64 a0_3, (.slice A0_4 l0_4.length c0_4), .string a0_5, .int .i64 a0_6] 31 (0, 0))) ∧ Aside0 (Below w.heap.size w wc))
   case first =>
    have H := HC11.out
    clear HC11
    revert H
    refine ok1 fun t40 A12 H => ?_
    by_cases c13 : t40 = true
    rotate_left
    ·replace c13 := nb_ c13
     subst c13
     rw [if_neg ff_] at H
     have H' := am H
     clear H
     obtain ⟨_, _, _, _, _, _, _, _, _, _, _, _, _, _⟩ := cl7 BK20
     go_wp2_with ((with_reducible refine gw ?_); first | (refine gl 18 Tryz.func68 #[.string a0_0] ?_; (with_reducible refine (impl_pathOk.calls k1 a0_0 false _ A12.out).mono ?_); rintro e w' ⟨rfl, ⟨nd, rfl⟩⟩; refine ⟨_, rfl, ?_⟩))
     go_meet
     case rel => exact ⟨_, (true), rs, H', ⟨by have := HK1.out; first | omega | exact Nat.le_refl _⟩, ⟨bk BK20⟩, ⟨u15HB⟩⟩
    subst c13
    rw [if_pos rfl] at H
    revert H
    refine ok1 fun t41 A14 H => ?_
    by_cases c15 : t41 = true
    rotate_left
    ·replace c15 := nb_ c15
     subst c15
     rw [if_neg ff_] at H
     have H' := am H
     clear H
     obtain ⟨_, _, _, _, _, _, _, _, _, _, _, _, _, _⟩ := cl7 BK20
     go_wp2_with (first | ((with_reducible refine gw ?_); first | (refine gl 18 Tryz.func68 #[.string a0_0] ?_; (with_reducible refine (impl_pathOk.calls k1 a0_0 true _ A12.out).mono ?_); rintro e w' ⟨rfl, ⟨nd, rfl⟩⟩; refine ⟨_, rfl, ?_⟩)) | (go_at_call 67; (with_reducible refine (impl_isTime.calls a0_6 false _ A14.out).mono ?_); rintro e w' ⟨rfl, ⟨nd, rfl⟩⟩))
     go_meet
     case rel => exact ⟨_, (true), rs, H', ⟨by have := HK1.out; first | omega | exact Nat.le_refl _⟩, ⟨bk BK20⟩, ⟨u15HB⟩⟩
    subst c15
    rw [if_pos rfl] at H
    by_cases c16 : (l0_2.length : Int) = (l0_1.length : Int)
    rotate_left
    ·rw [if_neg c16] at H
     have c16b0 := eqf c16
     have c16b1 := net c16
     have c16b2 : (l0_2.length == l0_1.length) = false := by first | simpa using c16 | (simp at c16 ⊢; omega)
     (first | rw [c16b0] | (simp only [i64_w, i32_w]; rw [c16b0]) | skip)
     have H' := am H
     clear H
     obtain ⟨_, _, _, _, _, _, _, _, _, _, _, _, _, _⟩ := cl7 BK20
     go_wp2_with (first | ((with_reducible refine gw ?_); first | (refine gl 18 Tryz.func68 #[.string a0_0] ?_; (with_reducible refine (impl_pathOk.calls k1 a0_0 true _ A12.out).mono ?_); rintro e w' ⟨rfl, ⟨nd, rfl⟩⟩; refine ⟨_, rfl, ?_⟩)) | (go_at_call 67; (with_reducible refine (impl_isTime.calls a0_6 true _ A14.out).mono ?_); rintro e w' ⟨rfl, ⟨nd, rfl⟩⟩))
     go_meet
     case rel => exact ⟨_, (true), rs, H', ⟨by have := HK1.out; first | omega | exact Nat.le_refl _⟩, ⟨bk BK20⟩, ⟨u15HB⟩⟩
    rw [if_pos c16] at H
    have c16b0 := eqt c16
    have c16b1 := nef c16
    have c16b2 : (l0_2.length == l0_1.length) = true := by first | simpa using c16 | (simp at c16 ⊢; omega)
    clear c16
    (first | rw [c16b0] | (simp only [i64_w, i32_w]; rw [c16b0]) | skip)
    revert H
    refine ok1 fun t42 A17 H => ?_
    by_cases c18 : t42 = true
    rotate_left
    ·replace c18 := nb_ c18
     subst c18
     rw [if_neg ff_] at H
     have H' := am H
     clear H
     obtain ⟨_, _, _, _, _, _, _, _, _, _, _, _, _, _⟩ := cl7 BK20
     go_wp2_with (first | ((with_reducible refine gw ?_); first | (refine gl 18 Tryz.func68 #[.string a0_0] ?_; (with_reducible refine (impl_pathOk.calls k1 a0_0 true _ A12.out).mono ?_); rintro e w' ⟨rfl, ⟨nd, rfl⟩⟩; refine ⟨_, rfl, ?_⟩)) | (go_at_call 67; (with_reducible refine (impl_isTime.calls a0_6 true _ A14.out).mono ?_); rintro e w' ⟨rfl, ⟨nd, rfl⟩⟩) | (go_at_call 71; (with_reducible refine (impl_namesOk.calls k1 _ _ l0_1 false _ ?side1 ?side2 A17.out).mono ?_); (case side1 => repeat (first | exact (Kd.C_below HR0_1.out bl) | (with_reducible refine Kd.C_alloc ?_ _) | (with_reducible refine Kd.C_drewN ?_ _) | (with_reducible refine Kd.C_drew ?_))); (case side2 => exact HC0_1.out); rintro e w' ⟨rfl, ⟨nd, rfl⟩⟩))
     go_meet
     case rel => exact ⟨_, (true), rs, H', ⟨by have := HK1.out; first | omega | exact Nat.le_refl _⟩, ⟨bk BK20⟩, ⟨u15HB⟩⟩
    subst c18
    rw [if_pos rfl] at H
    revert H
    refine ok1 fun t38 A19 H => ?_
    have H' := am H
    clear H
    obtain ⟨_, _, _, _, _, _, _, _, _, _, _, _, _, _⟩ := cl7 BK20
    go_wp2_with (first | ((with_reducible refine gw ?_); first | (refine gl 18 Tryz.func68 #[.string a0_0] ?_; (with_reducible refine (impl_pathOk.calls k1 a0_0 true _ A12.out).mono ?_); rintro e w' ⟨rfl, ⟨nd, rfl⟩⟩; refine ⟨_, rfl, ?_⟩)) | (go_at_call 67; (with_reducible refine (impl_isTime.calls a0_6 true _ A14.out).mono ?_); rintro e w' ⟨rfl, ⟨nd, rfl⟩⟩) | (go_at_call 71; (with_reducible refine (impl_namesOk.calls k1 _ _ l0_1 true _ ?side1 ?side2 A17.out).mono ?_); (case side1 => repeat (first | exact (Kd.C_below HR0_1.out bl) | (with_reducible refine Kd.C_alloc ?_ _) | (with_reducible refine Kd.C_drewN ?_ _) | (with_reducible refine Kd.C_drew ?_))); (case side2 => exact HC0_1.out); rintro e w' ⟨rfl, ⟨nd, rfl⟩⟩) | (go_at_call 32; (with_reducible refine (impl_RespOk.calls k1 a0_3 _ _ l0_4 a0_5 t38 _ ?side1 ?side2 A19.out).mono ?_); (case side1 => repeat (first | exact (Kd.C_below HR0_4.out bl) | (with_reducible refine Kd.C_alloc ?_ _) | (with_reducible refine Kd.C_drewN ?_ _) | (with_reducible refine Kd.C_drew ?_))); (case side2 => exact HC0_4.out); rintro e w21 ⟨rfl, hb⟩; replace BK20 := kb BK20 hb; replace HB := am (below_step bl hb); clear hb))
    go_meet
    case rel => exact ⟨_, (!t38), rs, H', ⟨by have := HK1.out; first | omega | exact Nat.le_refl _⟩, ⟨bk BK20⟩, ⟨u15HB⟩⟩
   case rest =>
    clear HC11
    obtain ⟨kq, x46_10, rfl, HA, HJ10, BK20, HB⟩ := hcut
    cases kq with
    | zero => exact absurd HA.out (by simp [impl_ObjOk.j1])
    | succ kj10 =>
     have H := HA.out
     clear HA
     simp only [impl_ObjOk.j1] at H
     by_cases c26 : x46_10 = true
     ·subst c26
      rw [if_pos rfl] at H
      obtain rfl := si_ H
      go_wp2
      go_ret
      exact ⟨rf, bl⟩
     replace c26 := nb_ c26
     subst c26
     rw [if_neg ff_] at H
     revert H
     refine ok1 fun t37 A27 H => ?_
     revert H
     refine ok1 fun t43 A28 H => ?_
     obtain rfl := si_ H
     try go_wp2
     replace BK20 := am (blk_drew BK20.out)
     replace HB := am (below_drew1 HB.out)
     refine start_ (n := 8) (S := fun w' => w'.cell? ⟨gb20, 0, none⟩ = some (.string a0_0) ∧ w'.cell? ⟨gb20, 1, none⟩ = some (.slice A0_1 l0_1.length c0_1) ∧ w'.cell? ⟨gb20, 2, none⟩ = some (.slice A0_2 l0_2.length c0_2) ∧ w'.cell? ⟨gb20, 3, none⟩ = some (.int .i64 a0_3) ∧ w'.cell? ⟨gb20, 4, none⟩ = some (.slice A0_4 l0_4.length c0_4) ∧ w'.cell? ⟨gb20, 5, none⟩ = some (.string a0_5) ∧ w'.cell? ⟨gb20, 6, none⟩ = some (.int .i64 a0_6)) (ds := []) ⟨br true [0, 8]⟩ (by kernel_rfl) rfl (by kernel_rfl) ⟨bc BK20, bc BK20, bc BK20, bc BK20, bc BK20, bc BK20, bc BK20⟩ (fun hHeld => ?_); refine with_tabW impl_ObjOk.tab9 impl_ObjOk.bits9 (fun HT_ HW_ => ?_)
     generalize wc.drew = w29 at BK20 HB hHeld ⊢
     refine pu 0 47 [1, 7] ?_
     refine pu 2 49 [1, 1, 1, 5] ?_
     refine pu 3 50 [1, 1, 2, 4] ?_
     refine tk 1 48 [4, 4] ?_
     refine tk 4 51 [5, 3] ?_
     refine og 5 52 [6, 2] Tryz.func73 #[.slice A0_4 l0_4.length c0_4] (fun K hK => ?_)
     refine (impl_VaryOf.calls kj10 _ _ l0_4 t37 _ (GLOBM.below HGM.out bl) (cb HR0_4) HC0_4.out A27.out).mono ?_
     rintro e w30 ⟨v45, rfl, ho0, hb⟩
     refine ⟨_, rfl, ?_⟩
     have HO44 := am (Kd.R_lower ho0 (below_size bl))
     replace BK20 := kb BK20 hb
     replace HB := am (below_step bl hb)
     clear hb ho0
     obtain ⟨Ao31, co31, eo31⟩ := Kd.R_slice HO44.out
     (first | subst eo31 | (injection eo31 with f1_ f2_ f3_; have f4_ := f1_.symm; have f5_ := f3_.symm; clear f1_ f2_ f3_; subst f4_; subst f5_))
     refine hK.out _ _ ⟨bc BK20, bc BK20, bc BK20, bc BK20, bc BK20, bc BK20, bc BK20⟩ (fun hHeld => ?_)
     clear hK K
     refine nm 52 ?_
     refine og 6 53 [7, 1] Tryz.func72 #[.slice A0_1 l0_1.length c0_1, .slice Ao31 t37.length co31] (fun K hK => ?_)
     refine (slices_Equal_string_string.calls kj10 _ _ l0_1 _ _ t37 t43 _ (cb HR0_1) HC0_1.out (rc HO44) ((Kd.R_reads' HO44.out).2.1) A28.out).mono ?_
     rintro e w' ⟨rfl, ⟨nd, rfl⟩⟩
     refine ⟨_, rfl, ?_⟩
     refine hK.out _ _ ⟨bc BK20, bc BK20, bc BK20, bc BK20, bc BK20, bc BK20, bc BK20⟩ (fun hHeld => ?_)
     clear hK K
     refine nm 53 ?_
     refine pu 7 2 [8] ?_
     refine done_ (done_of HT_.out (by kernel_rfl)) ?_
     try go_wp2
     go_ret
     exact ⟨rf, bl⟩
end Go.Proofs.YtjlpjbkpmmpojaaGreatDoor.All
