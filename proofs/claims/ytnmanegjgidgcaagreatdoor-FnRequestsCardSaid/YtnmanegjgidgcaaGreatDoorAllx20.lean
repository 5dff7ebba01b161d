-- Written by a program of this session (wip/tools/hprint.py) out of the translation. Lean checks it.
import Derived.Test.YtnmanegjgidgcaaGreatDoorAllx0
import Derived.Test.YtnmanegjgidgcaaGreatDoorAllx2
import Derived.Test.YtnmanegjgidgcaaGreatDoorAllx5
import Derived.Test.YtnmanegjgidgcaaGreatDoorAllx14
namespace Go.Proofs.YtnmanegjgidgcaaGreatDoor.All
open Go.RowKit Go.Proofs.YtnmanegjgidgcaaGreatDoorW.PrintWords Go.Proofs.YtnmanegjgidgcaaGreatDoorW.PrintLast Go.Proofs.YtnmanegjgidgcaaGreatDoorW.PrintMore
attribute [local go_sem] max2_int min2_int max_two min_two max_three min_three max_four min_four   -- for this text's walks alone
set_option linter.unusedVariables false
set_option linter.unusedSimpArgs false

/-! ### spec_Get: function 137 -/
def spec_Get.f (k : Nat) (l0 : List (S100)) (a1 : ByteArray) : Option (ByteArray × Bool) := (spec_l2At.f k l0 a1).bind fun t1059 => (if t1059 < 0 then (some ((⟨#[]⟩ : ByteArray), false)) else (if 0 ≤ t1059 then (if t1059 < (l0.length : Int) then (some ((rd_T100 l0 t1059).f1, true)) else (none)) else (none)))
theorem spec_Get.mono : ∀ a0 a1 k, LeO (spec_Get.f k a0 a1) (spec_Get.f (k + 1) a0 a1) := by
 intro a0 a1 k
 unfold spec_Get.f
 have m0 := @spec_l2At.mono
 exact mo
set_option maxHeartbeats 8000000 in
set_option maxRecDepth 100000 in
theorem spec_Get.calls (k : Nat) (A0 : Option Addr) (c0 : Nat) (l0 : List (S100)) (a1 : ByteArray) (r1 : ByteArray) (r2 : Bool) (w : World) (hr0 : Kd.C k100 w A0 l0.length l0) (hc0 : l0.length ≤ c0) (h : spec_Get.f k l0 a1 = some (r1, r2)) :
  Calls Tryz.prog 137 #[.slice A0 l0.length c0, .string a1] w fun e w' => e = .returned (.tuple #[.string r1, .bool r2]) ∧ Drawn0 w w' := by
 have HR0 := am hr0
 have HC0 := am hc0
 clear hr0 hc0
 unfold spec_Get.f at h
 have H := h
 clear h
 revert H
 refine ok1 fun t1059 A3 H => ?_
 by_cases c4 : t1059 < 0
 ·rw [if_pos c4] at H
  have c4b0 := decide_eq_true c4
  clear c4
  simp only [Option.some.injEq, Prod.mk.injEq] at H
  obtain ⟨rfl, rfl⟩ := H
  go_enter Tryz.func137, Tryz.ntmps137
  go_wp2_with (first | (refine gl 9 Tryz.func117 #[.slice A0 l0.length c0, .string a1] ?_; (with_reducible refine (spec_l2At.calls k _ _ l0 a1 t1059 _ ?side1 ?side2 A3.out).mono ?_); (case side1 => exact cc HR0); (case side2 => exact HC0.out); rintro e w' ⟨rfl, ⟨nd, rfl⟩⟩; refine ⟨_, rfl, ?_⟩))
  go_ret2
  exact ⟨rs, dr⟩
 rw [if_neg c4] at H
 have c4b0 := decide_eq_false c4
 clear c4
 revert H
 refine ifn fun c5 H => ?_
 have c5b0 := decide_eq_true c5
 clear c5
 revert H
 refine ifn fun c6 H => ?_
 have c6b0 := decide_eq_true c6
 clear c6
 simp only [Option.some.injEq, Prod.mk.injEq] at H
 obtain ⟨rfl, rfl⟩ := H
 go_enter Tryz.func137, Tryz.ntmps137
 go_wp2_with (first | (refine gl 9 Tryz.func117 #[.slice A0 l0.length c0, .string a1] ?_; (with_reducible refine (spec_l2At.calls k _ _ l0 a1 t1059 _ ?side1 ?side2 A3.out).mono ?_); (case side1 => exact cc HR0); (case side2 => exact HC0.out); rintro e w' ⟨rfl, ⟨nd, rfl⟩⟩; refine ⟨_, rfl, ?_⟩; have p1060 : 0 ≤ (t1059 : Int) := od; have q1060 : t1059 < (l0.length : Int) := od; obtain ⟨ad1060, e1060, hx1060_0, hx1060_1⟩ := at_T100 HR0.out t1059 p1060 q1060; cases e1060; replace p1060 := eq_true p1060; replace q1060 := eq_true q1060))
 go_ret2
 exact ⟨rs, dr⟩

/-! ### spec_Split: function 138 -/
theorem u138HB {p : Prop} (h : p := by repeat (first | (with_reducible first | exact HB.out | apply below_alloc | apply pw_below_drewN | apply below_drew1) | exact HB.out)) : p := h
mutual
def spec_Split.l0 : Nat → ByteArray → List ByteArray → Int → Int → Option (List ByteArray)
 | 0, _, _, _, _ => none
 | k + 1, x0, x3, x4, x5 => if x5 ≤ (x0.size : Int) then (if x5 < (x0.size : Int) then (if 0 ≤ x5 then (spec_Split.j1 k x0 x3 x4 x5 ((bt x0 x5) != 44)) else (none)) else (spec_Split.j1 k x0 x3 x4 x5 false)) else (some x3)
def spec_Split.j1 : Nat → ByteArray → List ByteArray → Int → Int → Bool → Option (List ByteArray)
 | 0, _, _, _, _, _ => none
 | k + 1, x0, x3, x4, x5, x23 => if x23 = true then (spec_Split.l0 k x0 x3 x4 (wrap64 (x5 + 1))) else (if 0 ≤ x4 then (if x4 ≤ x5 then (if x5 ≤ (x0.size : Int) then ((spec_Trim.f k (x0.extract (x4 : Int).toNat (x5 : Int).toNat)).bind fun t1064 => (if t1064.toList = ([] : List UInt8) then (spec_Split.l0 k x0 x3 (wrap64 (x5 + 1)) (wrap64 (x5 + 1))) else (if x3.length < 8796093022208 then (spec_Split.l0 k x0 (x3 ++ [t1064]) (wrap64 (x5 + 1)) (wrap64 (x5 + 1))) else (none)))) else (none)) else (none)) else (none))
end
def spec_Split.f (k : Nat) (a0 : ByteArray) : Option (List ByteArray) := spec_Split.l0 k a0 (([] : List ByteArray)) 0 0
theorem spec_Split.mono_l : ∀ k, (∀ y0 y1 y2 y3, LeO (spec_Split.l0 k y0 y1 y2 y3) (spec_Split.l0 (k + 1) y0 y1 y2 y3)) ∧ (∀ y0 y1 y2 y3 y4, LeO (spec_Split.j1 k y0 y1 y2 y3 y4) (spec_Split.j1 (k + 1) y0 y1 y2 y3 y4))
 | 0 => ⟨fun _ _ _ _ r h => by simp [spec_Split.l0] at h, fun _ _ _ _ _ r h => by simp [spec_Split.j1] at h⟩
 | k + 1 => by
  obtain ⟨ih0, ih1⟩ := spec_Split.mono_l k
  refine ⟨?_, ?_⟩
  ·intro y0 y1 y2 y3
   unfold spec_Split.l0
   have m0 := @spec_Trim.mono
   exact mo
  ·intro y0 y1 y2 y3 y4
   unfold spec_Split.j1
   have m0 := @spec_Trim.mono
   exact mo
theorem spec_Split.mono : ∀ a0 k, LeO (spec_Split.f k a0) (spec_Split.f (k + 1) a0) := by
 intro a0 k
 obtain ⟨ih0, ih1⟩ := spec_Split.mono_l k
 unfold spec_Split.f
 have m0 := @spec_Trim.mono
 exact mo
set_option maxHeartbeats 8000000 in
set_option maxRecDepth 100000 in
theorem spec_Split.calls (k : Nat) (a0 : ByteArray) (r : List ByteArray) (w : World) (h : spec_Split.f k a0 = some r) :
  Calls Tryz.prog 138 #[.string a0] w fun e w' => ∃ v0_ : Value, e = .returned (v0_) ∧ Kd.R Kd.string 9 w' w.heap.size (fun _ => True) v0_ r ∧ Below w.heap.size w w' := by
 have HB := am (Below.refl w.heap.size w)
 unfold spec_Split.f at h
 have H := h
 clear h
 obtain ⟨y1061, hy1061⟩ : ∃ y_ : List ByteArray, y_ = (([] : List ByteArray)) := ⟨_, rfl⟩
 replace H : (spec_Split.l0 k a0 y1061 0 0) = some r := by first | (rw [hy1061]; with_reducible exact H) | (have H2_ := (Option.bind_some _ _).symm.trans H; rw [hy1061]; with_reducible exact H2_) | (have H2_ := (Option.bind_some _ _).symm.trans H; with_reducible exact H2_) | with_reducible exact H | (rw [hy1061]; exact H) | exact H
 have Ny1061 := am hy1061
 clear hy1061
 have H' := am H
 clear H
 go_enter Tryz.func138, Tryz.ntmps138
 go_wp2_with (first | ((with_reducible refine gate_dst (N := 7) rfl ?_); refine Kd.R_lit Kd.string _ 9 ?hg (N := 7) ?hd (xs := ([] : List ByteArray)) (inner := []) (ok := fun _ => True) (okp := fun _ => True) ?hr ?hp (fun _ hk => hk) trivial (Below.refl _ _) (Nat.le_refl _) (by simp) ?_; (case hd => rfl); (case hg => rfl); (case hr => first | (go_simp; done) | (go_simp; rfl)); (case hp => exact (Reps.none _ _)); intro v1062 w2 ho3 hb hg_ hnew_; clear hg_ hnew_; (first | rw [← Ny1061.out] at ho3 | (simp only [Int.reduceToNat] at ho3; rw [← Ny1061.out] at ho3)); have HO1063 := am (Kd.R_lower ho3 (below_size bl)); replace HB := am (below_step bl hb); clear hb ho3))
 (try simp only [Act.put, List.setIfInBounds_toArray, List.set_cons_zero, List.set_cons_succ])
 go_loopg [3, 4, 5] k (fun kq v3 v4 v5 w' => ∃ (x3_1 : List ByteArray) (x4_1 : Int) (x5_1 : Int), v4 = .int .i64 x4_1 ∧ v5 = .int .i64 x5_1 ∧ Aside0 (spec_Split.l0 kq a0 x3_1 x4_1 x5_1 = some r) ∧ Aside0 (kq ≤ k) ∧ Aside0 (Kd.R Kd.string 9 w' w.heap.size (fun _ => True) v3 x3_1) ∧ Aside0 (Below w.heap.size w w'))
 case atStart => exact ⟨(y1061), (0), (0), rs, rs, H', ⟨Nat.le_refl _⟩, ⟨by (with_reducible repeat (first | apply Kd.R_alloc | apply Kd.R_drewN | apply Kd.R_drew)); exact HO1063.out⟩, ⟨u138HB⟩⟩
 case round =>
  clear H'
  try clear c1
  try clear p2
  obtain ⟨x3_1, x4_1, x5_1, rfl, rfl, HA, HK1, HO_3, HB⟩ := hrel
  cases gk with
  | zero => exact absurd HA.out (by simp [spec_Split.l0])
  | succ k1 =>
   have H := HA.out
   clear HA
   simp only [spec_Split.l0] at H
   by_cases c4 : x5_1 ≤ (a0.size : Int)
   rotate_left
   ·rw [if_neg c4] at H
    have c4b0 := decide_eq_false c4
    clear c4
    obtain rfl := Option.some.inj H
    go_wp2
    go_ret
    exact ⟨_, rf, by (with_reducible repeat (first | apply Kd.R_alloc | apply Kd.R_drewN | apply Kd.R_drew)); exact HO_3.out, bl⟩
   rw [if_pos c4] at H
   have c4b0 := decide_eq_true c4
   clear c4
   have HC5 := am H
   clear H
   go_upto_region 6 with (fail)
   go_cut [23] (fun v23 wc => ∃ (kq : Nat) (x23_4 : Bool), v23 = .bool x23_4 ∧ Aside0 (spec_Split.j1 kq a0 x3_1 x4_1 x5_1 x23_4 = some r) ∧ Aside0 (kq ≤ k1) ∧ Aside0 (Kd.R Kd.string 9 wc w.heap.size (fun _ => True) u3 x3_1) ∧ Aside0 (Below w.heap.size w wc))
   case first =>
    have H := HC5.out
    clear HC5
    by_cases c6 : x5_1 < (a0.size : Int)
    rotate_left
    ·rw [if_neg c6] at H
     have c6b0 := decide_eq_false c6
     clear c6
     (first | rw [c6b0] | (simp only [i64_w, i32_w]; rw [c6b0]) | skip)
     have H' := am H
     clear H
     go_wp2
     go_meet
     case rel => exact ⟨_, (false), rs, H', ⟨by have := HK1.out; first | omega | exact Nat.le_refl _⟩, ⟨by (with_reducible repeat (first | apply Kd.R_alloc | apply Kd.R_drewN | apply Kd.R_drew)); exact HO_3.out⟩, ⟨u138HB⟩⟩
    rw [if_pos c6] at H
    have c6b0 := decide_eq_true c6
    clear c6
    (first | rw [c6b0] | (simp only [i64_w, i32_w]; rw [c6b0]) | skip)
    revert H
    refine ifn fun c7 H => ?_
    have c7b0 := decide_eq_true c7
    clear c7
    have H' := am H
    clear H
    have p8 : 0 ≤ (x5_1 : Int) := od
    have q8 : x5_1 < (a0.size : Int) := od
    have hx8 := bt_at a0 x5_1
    replace p8 := eq_true p8
    replace q8 := eq_true q8
    go_wp2
    go_meet
    case rel => exact ⟨_, (((bt a0 x5_1) != 44)), rs, H', ⟨by have := HK1.out; first | omega | exact Nat.le_refl _⟩, ⟨by (with_reducible repeat (first | apply Kd.R_alloc | apply Kd.R_drewN | apply Kd.R_drew)); exact HO_3.out⟩, ⟨u138HB⟩⟩
   case rest =>
    clear HC5
    try clear c1
    try clear p2
    try clear c4
    try clear c4b0
    try clear c6
    try clear c6b0
    try clear c7
    try clear c7b0
    try clear p8
    try clear q8
    try clear hx8
    try clear p2
    try clear p8
    try clear q8
    obtain ⟨kq, x23_4, rfl, HA, HJ4, HO_3, HB⟩ := hcut
    cases kq with
    | zero => exact absurd HA.out (by simp [spec_Split.j1])
    | succ kj4 =>
     have H := HA.out
     clear HA
     simp only [spec_Split.j1] at H
     by_cases c9 : x23_4 = true
     ·subst c9
      rw [if_pos rfl] at H
      have H' := am H
      clear H
      go_wp2
      go_roundg kj4
      case measure => have := HK1.out; have := HJ4.out; omega
      case rel => exact ⟨(x3_1), (x4_1), (wrap64 (x5_1 + 1)), rs, rs, H', ⟨by have := HK1.out; have := HJ4.out; omega⟩, ⟨by (with_reducible repeat (first | apply Kd.R_alloc | apply Kd.R_drewN | apply Kd.R_drew)); exact HO_3.out⟩, ⟨u138HB⟩⟩
     replace c9 := Bool.eq_false_iff.mpr c9
     subst c9
     rw [if_neg (show ¬ (false = true) by decide)] at H
     revert H
     refine ifn fun c10 H => ?_
     have c10b0 := eq_true c10
     have c10b1 := decide_eq_true c10
     clear c10
     revert H
     refine ifn fun c11 H => ?_
     have c11b0 := eq_true c11
     have c11b1 := decide_eq_true c11
     clear c11
     revert H
     refine ifn fun c12 H => ?_
     have c12b0 := eq_true c12
     have c12b1 := decide_eq_true c12
     clear c12
     revert H
     refine ok1 fun t1064 A13 H => ?_
     by_cases c14 : t1064.toList = ([] : List UInt8)
     ·rw [if_pos c14] at H
      have c14b0 : (t1064.toList == ([] : List UInt8)) = true := beq_iff_eq.mpr c14
      have c14b1 : (t1064.toList != ([] : List UInt8)) = false := bne_eq_false_iff_eq.mpr c14
      clear c14
      have H' := am H
      clear H
      go_wp2_with (first | (refine gl 28 Tryz.func163 #[.string (a0.extract (x4_1 : Int).toNat (x5_1 : Int).toNat)] ?_; (with_reducible refine (spec_Trim.calls kj4 (a0.extract (x4_1 : Int).toNat (x5_1 : Int).toNat) t1064 _ A13.out).mono ?_); rintro e w' ⟨rfl, ⟨nd, rfl⟩⟩; refine ⟨_, rfl, ?_⟩))
      go_roundg kj4
      case measure => have := HK1.out; have := HJ4.out; omega
      case rel => exact ⟨(x3_1), (wrap64 (x5_1 + 1)), (wrap64 (x5_1 + 1)), rs, rs, H', ⟨by have := HK1.out; have := HJ4.out; omega⟩, ⟨by (with_reducible repeat (first | apply Kd.R_alloc | apply Kd.R_drewN | apply Kd.R_drew)); exact HO_3.out⟩, ⟨u138HB⟩⟩
     rw [if_neg c14] at H
     have c14b0 : (t1064.toList == ([] : List UInt8)) = false := beq_eq_false_iff_ne.mpr c14
     have c14b1 : (t1064.toList != ([] : List UInt8)) = true := bne_iff_ne.mpr c14
     revert H
     refine ifn fun c15 H => ?_
     have LMc15 := am c15
     clear c15
     obtain ⟨y1065, hy1065⟩ : ∃ y_ : List ByteArray, y_ = (x3_1 ++ [t1064]) := ⟨_, rfl⟩
     replace H : (spec_Split.l0 kj4 a0 y1065 (wrap64 (x5_1 + 1)) (wrap64 (x5_1 + 1))) = some r := by first | (rw [hy1065]; with_reducible exact H) | (have H2_ := (Option.bind_some _ _).symm.trans H; rw [hy1065]; with_reducible exact H2_) | (have H2_ := (Option.bind_some _ _).symm.trans H; with_reducible exact H2_) | with_reducible exact H | (rw [hy1065]; exact H) | exact H
     have Ny1065 := am hy1065
     clear hy1065
     have H' := am H
     clear H
     go_wp2_with (first | (refine gl 28 Tryz.func163 #[.string (a0.extract (x4_1 : Int).toNat (x5_1 : Int).toNat)] ?_; (with_reducible refine (spec_Trim.calls kj4 (a0.extract (x4_1 : Int).toNat (x5_1 : Int).toNat) t1064 _ A13.out).mono ?_); rintro e w' ⟨rfl, ⟨nd, rfl⟩⟩; refine ⟨_, rfl, ?_⟩) | ((with_reducible refine gate_builtin (b := .append) (xs := #[.tmp 31, .tmp 33]) rfl ?_); at_builtin; refine Kd.R_append Kd.string (w0 := w) w.heap.size rfl (.tmp 31) (.tmp 33) 35 9 (.string ⟨#[]⟩) 16 rfl Tryz.underlying35 info9 rfl (by decide) (by omega) u3 x3_1 t1064 [.string t1064] (fun _ => True) (fun _ => False) rfl rfl ?aP (fun _ hk => hk.elim) ?aF ?aO ?aB ?aS ?aL ?_; (case aP => exact rfl); (case aB => exact bl); (case aF => exact (fun _ _ => trivial)); (case aO => exact (ro HO_3)); (case aS => exact (below_size bl)); (case aL => have := LMc15.out; omega); intro v1066 w16 ho hb hg hat; rw [← Ny1065.out] at ho; have n0_ := am (hb); have n1_ := am (ho); clear HB; clear HO_3; have HB := n0_; have HO1067 := n1_; clear n0_ n1_; clear ho hb hg hat))
     go_roundg kj4
     case measure => have := HK1.out; have := HJ4.out; omega
     case rel => exact ⟨(y1065), (wrap64 (x5_1 + 1)), (wrap64 (x5_1 + 1)), rs, rs, H', ⟨by have := HK1.out; have := HJ4.out; omega⟩, ⟨by (with_reducible repeat (first | apply Kd.R_alloc | apply Kd.R_drewN | apply Kd.R_drew)); exact HO1067.out⟩, ⟨u138HB⟩⟩

/-! ### spec_Lower: function 139 -/
theorem u139HB {p : Prop} (h : p := by repeat (first | (with_reducible first | exact HB.out | apply below_alloc | apply pw_below_drewN | apply below_drew1) | exact HB.out)) : p := h
def spec_Lower.l0 : Nat → ByteArray → List Int → Int → Option (ByteArray)
 | 0, _, _, _ => none
 | k + 1, x0, x3, x4 => if x4 < (x0.size : Int) then (if 0 ≤ x4 then (if (bt x0 x4) ≥ 65 then (if (bt x0 x4) ≤ 90 then (if x3.length < 140737488355328 then (spec_Lower.l0 k x0 (x3 ++ [((bt x0 x4) + 32) % 256]) (wrap64 (x4 + 1))) else (none)) else (if x3.length < 140737488355328 then (spec_Lower.l0 k x0 (x3 ++ [bt x0 x4]) (wrap64 (x4 + 1))) else (none))) else (if x3.length < 140737488355328 then (spec_Lower.l0 k x0 (x3 ++ [bt x0 x4]) (wrap64 (x4 + 1))) else (none))) else (none)) else (some (strOfNums x3))
def spec_Lower.f (k : Nat) (a0 : ByteArray) : Option (ByteArray) := spec_Lower.l0 k a0 (([] : List Int)) 0
theorem spec_Lower.mono_l : ∀ k, (∀ y0 y1 y2, LeO (spec_Lower.l0 k y0 y1 y2) (spec_Lower.l0 (k + 1) y0 y1 y2))
 | 0 => fun _ _ _ r h => by simp [spec_Lower.l0] at h
 | k + 1 => by
  have ih0 := spec_Lower.mono_l k
  ·intro y0 y1 y2
   unfold spec_Lower.l0
   exact mo
theorem spec_Lower.mono : ∀ a0 k, LeO (spec_Lower.f k a0) (spec_Lower.f (k + 1) a0) := by
 intro a0 k
 have ih0 := spec_Lower.mono_l k
 unfold spec_Lower.f
 exact mo
set_option maxHeartbeats 8000000 in
set_option maxRecDepth 100000 in
theorem spec_Lower.calls (k : Nat) (a0 : ByteArray) (r : ByteArray) (w : World) (h : spec_Lower.f k a0 = some r) :
  Calls Tryz.prog 139 #[.string a0] w fun e w' => e = .returned (.string r) ∧ Below w.heap.size w w' := by
 have HB := am (Below.refl w.heap.size w)
 unfold spec_Lower.f at h
 have H := h
 clear h
 obtain ⟨y1068, hy1068⟩ : ∃ y_ : List Int, y_ = (([] : List Int)) := ⟨_, rfl⟩
 replace H : (spec_Lower.l0 k a0 y1068 0) = some r := by first | (rw [hy1068]; with_reducible exact H) | (have H2_ := (Option.bind_some _ _).symm.trans H; rw [hy1068]; with_reducible exact H2_) | (have H2_ := (Option.bind_some _ _).symm.trans H; with_reducible exact H2_) | with_reducible exact H | (rw [hy1068]; exact H) | exact H
 have Ny1068 := am hy1068
 clear hy1068
 have H' := am H
 clear H
 go_enter Tryz.func139, Tryz.ntmps139
 go_wp2_with (first | ((with_reducible refine gate_dst (N := 6) rfl ?_); refine Kd.R_lit (Kd.int .u8) _ 5 ?hg (N := 6) ?hd (xs := ([] : List Int)) (inner := []) (ok := fun _ => True) (okp := fun _ => True) ?hr ?hp (fun _ hk => hk) trivial (Below.refl _ _) (Nat.le_refl _) (by simp) ?_; (case hd => rfl); (case hg => rfl); (case hr => first | (go_simp; done) | (go_simp; rfl)); (case hp => exact (Reps.none _ _)); intro v1069 w2 ho3 hb hg_ hnew_; clear hg_ hnew_; (first | rw [← Ny1068.out] at ho3 | (simp only [Int.reduceToNat] at ho3; rw [← Ny1068.out] at ho3)); have HO1070 := am (Kd.R_lower ho3 (below_size bl)); replace HB := am (below_step bl hb); clear hb ho3))
 (try simp only [Act.put, List.setIfInBounds_toArray, List.set_cons_zero, List.set_cons_succ])
 go_loopg [3, 4] k (fun kq v3 v4 w' => ∃ (x3_1 : List Int) (x4_1 : Int), v4 = .int .i64 x4_1 ∧ Aside0 (spec_Lower.l0 kq a0 x3_1 x4_1 = some r) ∧ Aside0 (kq ≤ k) ∧ Aside0 (Kd.R (Kd.int .u8) 5 w' w.heap.size (fun _ => True) v3 x3_1) ∧ Aside0 (Below w.heap.size w w'))
 case atStart => exact ⟨(y1068), (0), rs, H', ⟨Nat.le_refl _⟩, ⟨by (with_reducible repeat (first | apply Kd.R_alloc | apply Kd.R_drewN | apply Kd.R_drew)); exact HO1070.out⟩, ⟨u139HB⟩⟩
 case round =>
  clear H'
  try clear c1
  try clear p2
  obtain ⟨x3_1, x4_1, rfl, HA, HK1, HO_3, HB⟩ := hrel
  cases gk with
  | zero => exact absurd HA.out (by simp [spec_Lower.l0])
  | succ k1 =>
   have H := HA.out
   clear HA
   simp only [spec_Lower.l0] at H
   by_cases c4 : x4_1 < (a0.size : Int)
   rotate_left
   ·rw [if_neg c4] at H
    have c4b0 := decide_eq_false c4
    clear c4
    obtain rfl := Option.some.inj H
    have hcv15 := own_string (P := Tryz.prog) Tryz.underlying22 Tryz.underlying5 Tryz.underlying9 (Kd.own_of_R HO_3.out)
    go_wp2
    go_ret
    exact ⟨rf, bl⟩
   rw [if_pos c4] at H
   have c4b0 := decide_eq_true c4
   clear c4
   revert H
   refine ifn fun c5 H => ?_
   have c5b0 := decide_eq_true c5
   clear c5
   by_cases c7 : (bt a0 x4_1) ≥ 65
   rotate_left
   ·rw [if_neg c7] at H
    have c7b0 := decide_eq_false c7
    clear c7
    revert H
    refine ifn fun c13 H => ?_
    have LMc13 := am c13
    clear c13
    obtain ⟨y1077, hy1077⟩ : ∃ y_ : List Int, y_ = (x3_1 ++ [bt a0 x4_1]) := ⟨_, rfl⟩
    replace H : (spec_Lower.l0 k1 a0 y1077 (wrap64 (x4_1 + 1))) = some r := by first | (rw [hy1077]; with_reducible exact H) | (have H2_ := (Option.bind_some _ _).symm.trans H; rw [hy1077]; with_reducible exact H2_) | (have H2_ := (Option.bind_some _ _).symm.trans H; with_reducible exact H2_) | with_reducible exact H | (rw [hy1077]; exact H) | exact H
    have Ny1077 := am hy1077
    clear hy1077
    have H' := am H
    clear H
    have p6 : 0 ≤ (x4_1 : Int) := od
    have q6 : x4_1 < (a0.size : Int) := od
    have hx6 := bt_at a0 x4_1
    replace p6 := eq_true p6
    replace q6 := eq_true q6
    go_wp2_with (first | ((with_reducible refine gate_builtin (b := .append) (xs := #[.tmp 24, .tmp 26]) rfl ?_); at_builtin; refine Kd.R_append (Kd.int .u8) (w0 := w) w.heap.size rfl (.tmp 24) (.tmp 26) 22 5 (.int .u8 0) 1 rfl Tryz.underlying22 info5 rfl (by decide) (by omega) u3 x3_1 (bt a0 x4_1) [.int .u8 (bt a0 x4_1)] (fun _ => True) (fun _ => False) rfl rfl ?aP (fun _ hk => hk.elim) ?aF ?aO ?aB ?aS ?aL ?_; (case aP => exact rfl); (case aB => exact bl); (case aF => exact (fun _ _ => trivial)); (case aO => exact (ro HO_3)); (case aS => exact (below_size bl)); (case aL => have := LMc13.out; omega); intro v1078 w14 ho hb hg hat; rw [← Ny1077.out] at ho; have n0_ := am (hb); have n1_ := am (ho); clear HB; clear HO_3; have HB := n0_; have HO1079 := n1_; clear n0_ n1_; clear ho hb hg hat))
    go_roundg k1
    case measure => have := HK1.out; omega
    case rel => exact ⟨(y1077), (wrap64 (x4_1 + 1)), rs, H', ⟨by have := HK1.out; omega⟩, ⟨by (with_reducible repeat (first | apply Kd.R_alloc | apply Kd.R_drewN | apply Kd.R_drew)); exact HO1079.out⟩, ⟨u139HB⟩⟩
   rw [if_pos c7] at H
   have c7b0 := decide_eq_true c7
   clear c7
   by_cases c8 : (bt a0 x4_1) ≤ 90
   rotate_left
   ·rw [if_neg c8] at H
    have c8b0 := decide_eq_false c8
    clear c8
    revert H
    refine ifn fun c11 H => ?_
    have LMc11 := am c11
    clear c11
    obtain ⟨y1074, hy1074⟩ : ∃ y_ : List Int, y_ = (x3_1 ++ [bt a0 x4_1]) := ⟨_, rfl⟩
    replace H : (spec_Lower.l0 k1 a0 y1074 (wrap64 (x4_1 + 1))) = some r := by first | (rw [hy1074]; with_reducible exact H) | (have H2_ := (Option.bind_some _ _).symm.trans H; rw [hy1074]; with_reducible exact H2_) | (have H2_ := (Option.bind_some _ _).symm.trans H; with_reducible exact H2_) | with_reducible exact H | (rw [hy1074]; exact H) | exact H
    have Ny1074 := am hy1074
    clear hy1074
    have H' := am H
    clear H
    have p6 : 0 ≤ (x4_1 : Int) := od
    have q6 : x4_1 < (a0.size : Int) := od
    have hx6 := bt_at a0 x4_1
    replace p6 := eq_true p6
    replace q6 := eq_true q6
    go_wp2_with (first | ((with_reducible refine gate_builtin (b := .append) (xs := #[.tmp 24, .tmp 26]) rfl ?_); at_builtin; refine Kd.R_append (Kd.int .u8) (w0 := w) w.heap.size rfl (.tmp 24) (.tmp 26) 22 5 (.int .u8 0) 1 rfl Tryz.underlying22 info5 rfl (by decide) (by omega) u3 x3_1 (bt a0 x4_1) [.int .u8 (bt a0 x4_1)] (fun _ => True) (fun _ => False) rfl rfl ?aP (fun _ hk => hk.elim) ?aF ?aO ?aB ?aS ?aL ?_; (case aP => exact rfl); (case aB => exact bl); (case aF => exact (fun _ _ => trivial)); (case aO => exact (ro HO_3)); (case aS => exact (below_size bl)); (case aL => have := LMc11.out; omega); intro v1075 w12 ho hb hg hat; rw [← Ny1074.out] at ho; have n0_ := am (hb); have n1_ := am (ho); clear HB; clear HO_3; have HB := n0_; have HO1076 := n1_; clear n0_ n1_; clear ho hb hg hat))
    go_roundg k1
    case measure => have := HK1.out; omega
    case rel => exact ⟨(y1074), (wrap64 (x4_1 + 1)), rs, H', ⟨by have := HK1.out; omega⟩, ⟨by (with_reducible repeat (first | apply Kd.R_alloc | apply Kd.R_drewN | apply Kd.R_drew)); exact HO1076.out⟩, ⟨u139HB⟩⟩
   rw [if_pos c8] at H
   have c8b0 := decide_eq_true c8
   clear c8
   revert H
   refine ifn fun c9 H => ?_
   have LMc9 := am c9
   clear c9
   obtain ⟨y1071, hy1071⟩ : ∃ y_ : List Int, y_ = (x3_1 ++ [((bt a0 x4_1) + 32) % 256]) := ⟨_, rfl⟩
   replace H : (spec_Lower.l0 k1 a0 y1071 (wrap64 (x4_1 + 1))) = some r := by first | (rw [hy1071]; with_reducible exact H) | (have H2_ := (Option.bind_some _ _).symm.trans H; rw [hy1071]; with_reducible exact H2_) | (have H2_ := (Option.bind_some _ _).symm.trans H; with_reducible exact H2_) | with_reducible exact H | (rw [hy1071]; exact H) | exact H
   have Ny1071 := am hy1071
   clear hy1071
   have H' := am H
   clear H
   have p6 : 0 ≤ (x4_1 : Int) := od
   have q6 : x4_1 < (a0.size : Int) := od
   have hx6 := bt_at a0 x4_1
   replace p6 := eq_true p6
   replace q6 := eq_true q6
   go_wp2_with (first | ((with_reducible refine gate_builtin (b := .append) (xs := #[.tmp 24, .tmp 26]) rfl ?_); at_builtin; refine Kd.R_append (Kd.int .u8) (w0 := w) w.heap.size rfl (.tmp 24) (.tmp 26) 22 5 (.int .u8 0) 1 rfl Tryz.underlying22 info5 rfl (by decide) (by omega) u3 x3_1 (((bt a0 x4_1) + 32) % 256) [.int .u8 (((bt a0 x4_1) + 32) % 256)] (fun _ => True) (fun _ => False) rfl rfl ?aP (fun _ hk => hk.elim) ?aF ?aO ?aB ?aS ?aL ?_; (case aP => exact rfl); (case aB => exact bl); (case aF => exact (fun _ _ => trivial)); (case aO => exact (ro HO_3)); (case aS => exact (below_size bl)); (case aL => have := LMc9.out; omega); intro v1072 w10 ho hb hg hat; rw [← Ny1071.out] at ho; have n0_ := am (hb); have n1_ := am (ho); clear HB; clear HO_3; have HB := n0_; have HO1073 := n1_; clear n0_ n1_; clear ho hb hg hat))
   go_roundg k1
   case measure => have := HK1.out; omega
   case rel => exact ⟨(y1071), (wrap64 (x4_1 + 1)), rs, H', ⟨by have := HK1.out; omega⟩, ⟨by (with_reducible repeat (first | apply Kd.R_alloc | apply Kd.R_drewN | apply Kd.R_drew)); exact HO1073.out⟩, ⟨u139HB⟩⟩

/-! ### spec_VaryOf: function 103 -/
theorem u103HB {p : Prop} (h : p := by repeat (first | (with_reducible first | exact HB.out | apply below_alloc | apply pw_below_drewN | apply below_drew1) | exact HB.out)) : p := h
def spec_VaryOf.l0 : Nat → List ByteArray → Int → Option (List ByteArray)
 | 0, _, _ => none
 | k + 1, x5, x6 => if x6 < (x5.length : Int) then (if 0 ≤ x6 then ((spec_Lower.f k (rdOf ByteArray.empty x5 x6)).bind fun t1086 => (spec_VaryOf.l0 k (x5.set (x6 : Int).toNat t1086) (wrap64 (x6 + 1)))) else (none)) else (some x5)
def spec_VaryOf.f (k : Nat) (l0 : List (S100)) : Option (List ByteArray) := (spec_Get.f k l0 (⟨#[118, 97, 114, 121]⟩ : ByteArray)).bind fun bt1080 => ((spec_Split.f k bt1080.1).bind fun t1082 => (spec_VaryOf.l0 k t1082 0))
theorem spec_VaryOf.mono_l : ∀ k, (∀ y0 y1, LeO (spec_VaryOf.l0 k y0 y1) (spec_VaryOf.l0 (k + 1) y0 y1))
 | 0 => fun _ _ r h => by simp [spec_VaryOf.l0] at h
 | k + 1 => by
  have ih0 := spec_VaryOf.mono_l k
  ·intro y0 y1
   unfold spec_VaryOf.l0
   have m0 := @spec_Get.mono
   have m1 := @spec_Lower.mono
   have m2 := @spec_Split.mono
   exact mo
theorem spec_VaryOf.mono : ∀ a0 k, LeO (spec_VaryOf.f k a0) (spec_VaryOf.f (k + 1) a0) := by
 intro a0 k
 have ih0 := spec_VaryOf.mono_l k
 unfold spec_VaryOf.f
 have m0 := @spec_Get.mono
 have m1 := @spec_Lower.mono
 have m2 := @spec_Split.mono
 exact mo
set_option maxHeartbeats 8000000 in
set_option maxRecDepth 100000 in
theorem spec_VaryOf.calls (k : Nat) (A0 : Option Addr) (c0 : Nat) (l0 : List (S100)) (r : List ByteArray) (w : World) (hr0 : Kd.C k100 w A0 l0.length l0) (hc0 : l0.length ≤ c0) (h : spec_VaryOf.f k l0 = some r) :
  Calls Tryz.prog 103 #[.slice A0 l0.length c0] w fun e w' => ∃ v0_ : Value, e = .returned (v0_) ∧ Kd.R Kd.string 9 w' w.heap.size (fun _ => True) v0_ r ∧ Below w.heap.size w w' := by
 have HR0 := am hr0
 have HC0 := am hc0
 clear hr0 hc0
 have HB := am (Below.refl w.heap.size w)
 unfold spec_VaryOf.f at h
 have H := h
 clear h
 revert H
 refine ok2 fun t1080 t1081 A2 H => ?_
 (try dsimp only at H)
 revert H
 refine ok1 fun t1082 A3 H => ?_
 have H' := am H
 clear H
 go_enter Tryz.func103, Tryz.ntmps103
 go_wp2_with (first | (refine gl 9 Tryz.func137 #[.slice A0 l0.length c0, .string (⟨#[118, 97, 114, 121]⟩ : ByteArray)] ?_; (with_reducible refine (spec_Get.calls k _ _ l0 (⟨#[118, 97, 114, 121]⟩ : ByteArray) t1080 t1081 _ ?side1 ?side2 A2.out).mono ?_); (case side1 => exact cc HR0); (case side2 => exact HC0.out); rintro e w' ⟨rfl, ⟨nd, rfl⟩⟩; refine ⟨_, rfl, ?_⟩) | (refine gl 13 Tryz.func138 #[.string t1080] ?_; (with_reducible refine (spec_Split.calls k t1080 t1082 _ A3.out).mono ?_); rintro e w4 ⟨v1083, rfl, ho0, hb⟩; refine ⟨_, rfl, ?_⟩; have HO1084 := am (Kd.R_lower ho0 (below_size bl)); replace HB := am (below_step bl hb); clear hb ho0))
 (try simp only [Act.put, List.setIfInBounds_toArray, List.set_cons_zero, List.set_cons_succ])
 go_loopg [6] k (fun kq v6 w' => ∃ (x5_1 : List ByteArray) (x6_1 : Int), v6 = .int .i64 x6_1 ∧ Aside0 (spec_VaryOf.l0 kq x5_1 x6_1 = some r) ∧ Aside0 (kq ≤ k) ∧ Aside0 (Kd.R Kd.string 9 w' w.heap.size (fun _ => True) v1083 x5_1) ∧ Aside0 (Below w.heap.size w w'))
 case atStart => exact ⟨(t1082), (0), rs, H', ⟨Nat.le_refl _⟩, ⟨by (with_reducible repeat (first | apply Kd.R_alloc | apply Kd.R_drewN | apply Kd.R_drew)); exact HO1084.out⟩, ⟨u103HB⟩⟩
 case round =>
  clear H'
  try clear c1
  try clear p2
  obtain ⟨x5_1, x6_1, rfl, HA, HK1, HO_5, HB⟩ := hrel
  cases gk with
  | zero => exact absurd HA.out (by simp [spec_VaryOf.l0])
  | succ k1 =>
   have H := HA.out
   clear HA
   simp only [spec_VaryOf.l0] at H
   by_cases c5 : x6_1 < (x5_1.length : Int)
   rotate_left
   ·rw [if_neg c5] at H
    have c5b0 := decide_eq_false c5
    clear c5
    obtain rfl := Option.some.inj H
    obtain ⟨Ao13, co13, eo13⟩ := Kd.R_slice HO_5.out
    subst eo13
    go_wp2
    go_ret
    exact ⟨_, rf, by (with_reducible repeat (first | apply Kd.R_alloc | apply Kd.R_drewN | apply Kd.R_drew)); exact HO_5.out, bl⟩
   rw [if_pos c5] at H
   have c5b0 := decide_eq_true c5
   clear c5
   revert H
   refine ifn fun c6 H => ?_
   have c6b0 := decide_eq_true c6
   clear c6
   revert H
   refine ok1 fun t1086 A7 H => ?_
   obtain ⟨y1087, hy1087⟩ : ∃ y_ : List ByteArray, y_ = (x5_1.set (x6_1 : Int).toNat t1086) := ⟨_, rfl⟩
   replace H : (spec_VaryOf.l0 k1 y1087 (wrap64 (x6_1 + 1))) = some r := by first | (rw [hy1087]; with_reducible exact H) | (have H2_ := (Option.bind_some _ _).symm.trans H; rw [hy1087]; with_reducible exact H2_) | (have H2_ := (Option.bind_some _ _).symm.trans H; with_reducible exact H2_) | with_reducible exact H | (rw [hy1087]; exact H) | exact H
   have Ny1087 := am hy1087
   clear hy1087
   have H' := am H
   clear H
   obtain ⟨Ao9, co9, eo9⟩ := Kd.R_slice HO_5.out
   subst eo9
   have p1085 : 0 ≤ (x6_1 : Int) := od
   have q1085 : x6_1 < (x5_1.length : Int) := od
   obtain ⟨ad1085, e1085, hx1085_0⟩ := Kd.at_string (Kd.R_reads' HO_5.out).2.2 x6_1 p1085 q1085
   cases e1085
   replace p1085 := eq_true p1085
   replace q1085 := eq_true q1085
   go_wp2_with (first | (refine gl 26 Tryz.func139 #[.string (rdOf ByteArray.empty x5_1 x6_1)] ?_; (with_reducible refine (spec_Lower.calls k1 (rdOf ByteArray.empty x5_1 x6_1) t1086 _ A7.out).mono ?_); rintro e w10 ⟨rfl, hb⟩; refine ⟨_, rfl, ?_⟩; replace HO_5 := kr HO_5 hb; replace HB := am (below_step bl hb); clear hb; have p8 : 0 ≤ (x6_1 : Int) := od; have q8 : (x6_1 : Int) < ((x5_1.length : Int) : Int) := od; obtain ⟨go8, co8, eo8, gb8, gl8, cl8, HG8⟩ := Kd.R_form HO_5.out (by omega); (first | cases eo8 | (injection eo8 with ea_ en_ ec_; (first | subst ea_ | (injection ea_ with ea_; subst ea_)); subst ec_; clear en_)); have GB8 := am gb8; have GG8 := am HG8; clear gb8 gl8 HG8; (first | simp only [add_plain] at hx1085_0 | skip); obtain ⟨hx8_0, hf8_0⟩ := Kd.R_celln (⟨#[]⟩ : ByteArray) HO_5.out (x6_1 : Int) p8 q8; replace p8 := eq_true p8; replace q8 := eq_true q8; obtain ⟨hy11_, hz11_⟩ := Kd.R_celln (⟨#[]⟩ : ByteArray) HO_5.out (x6_1 : Int) (od) (od); have HP11 := Kd.R_putg HO_5.out (x6_1 : Int) t1086) | ((with_reducible refine gate_store (t := 9) (p := 27) rfl ?_); refine store_event (t := 9) (p := 27) (v := ?vo_w12) (w1 := (w10.setCell ⟨go8, (x6_1 : Int).toNat, none⟩ (.string t1086))) ?hg ?ho ?hn ?hr ?_; (case ho => rfl); (case hg => rfl); (case hn => rfl); (case hr => first | (go_simp; done) | (go_simp; rfl)); intro w12 hw; have hg : w10.grownBy w12 (some go8) := (by rw [hw]; exact HP11.2); have hp_ : Kd.R Kd.string 9 w12 w.heap.size (fun _ => True) (.slice (some ⟨go8, 0, none⟩) x5_1.length co9) y1087 := (by rw [hw, Ny1087.out]; exact HP11.1); clear HP11; have n0_ := am (hp_); have n1_ := am ((by rw [hw]; exact below_set (HB.out) GB8.out : Below w.heap.size w w12)); clear HO_5; clear HB; have HO_5 := n0_; have HB := n1_; clear n0_ n1_; clear hg hw hp_))
   go_roundg k1
   case measure => have := HK1.out; omega
   case rel => exact ⟨(y1087), (wrap64 (x6_1 + 1)), rs, H', ⟨by have := HK1.out; omega⟩, ⟨by (with_reducible repeat (first | apply Kd.R_alloc | apply Kd.R_drewN | apply Kd.R_drew)); exact HO_5.out⟩, ⟨u103HB⟩⟩

/-! ### spec_l9Names: function 145 -/
def spec_l9Names.l0 : Nat → List ByteArray → Int → Option (Bool)
 | 0, _, _ => none
 | k + 1, x0, x3 => if x3 < (x0.length : Int) then (if 0 ≤ x3 then ((spec_TokenOk.f k (rdOf ByteArray.empty x0 x3)).bind fun t1089 => (if t1089 = true then (spec_l9Names.l0 k x0 (wrap64 (x3 + 1))) else (some false))) else (none)) else (some (decide ((x0.length : Int) ≤ 4)))
def spec_l9Names.f (k : Nat) (l0 : List ByteArray) : Option (Bool) := spec_l9Names.l0 k l0 0
theorem spec_l9Names.mono_l : ∀ k, (∀ y0 y1, LeO (spec_l9Names.l0 k y0 y1) (spec_l9Names.l0 (k + 1) y0 y1))
 | 0 => fun _ _ r h => by simp [spec_l9Names.l0] at h
 | k + 1 => by
  have ih0 := spec_l9Names.mono_l k
  ·intro y0 y1
   unfold spec_l9Names.l0
   have m0 := @spec_TokenOk.mono
   exact mo
theorem spec_l9Names.mono : ∀ a0 k, LeO (spec_l9Names.f k a0) (spec_l9Names.f (k + 1) a0) := by
 intro a0 k
 have ih0 := spec_l9Names.mono_l k
 unfold spec_l9Names.f
 have m0 := @spec_TokenOk.mono
 exact mo
set_option maxHeartbeats 8000000 in
set_option maxRecDepth 100000 in
theorem spec_l9Names.calls (k : Nat) (A0 : Option Addr) (c0 : Nat) (l0 : List ByteArray) (r : Bool) (w : World) (hr0 : Kd.C Kd.string w A0 l0.length l0) (hc0 : l0.length ≤ c0) (h : spec_l9Names.f k l0 = some r) :
  Calls Tryz.prog 145 #[.slice A0 l0.length c0] w fun e w' => e = .returned (.bool r) ∧ Drawn0 w w' := by
 have HR0 := am hr0
 have HC0 := am hc0
 clear hr0 hc0
 unfold spec_l9Names.f at h
 have H := h
 clear h
 have H' := am H
 clear H
 go_enter Tryz.func145, Tryz.ntmps145
 go_wp2
 (try simp only [Act.put, List.setIfInBounds_toArray, List.set_cons_zero, List.set_cons_succ])
 go_loopg [3] k (fun kq v3 w' => ∃ (x3_1 : Int), v3 = .int .i64 x3_1 ∧ Aside0 (spec_l9Names.l0 kq l0 x3_1 = some r) ∧ Aside0 (kq ≤ k) ∧ Drawn0 w w')
 case atStart => exact ⟨(0), rs, H', ⟨Nat.le_refl _⟩, dr⟩
 case round =>
  clear H'
  try clear c1
  obtain ⟨x3_1, rfl, HA, HK1, ⟨m1, rfl⟩⟩ := hrel
  cases gk with
  | zero => exact absurd HA.out (by simp [spec_l9Names.l0])
  | succ k1 =>
   have H := HA.out
   clear HA
   simp only [spec_l9Names.l0] at H
   by_cases c2 : x3_1 < (l0.length : Int)
   rotate_left
   ·rw [if_neg c2] at H
    have c2b0 := decide_eq_false c2
    clear c2
    obtain rfl := Option.some.inj H
    go_wp2
    go_ret
    exact ⟨rs, dr⟩
   rw [if_pos c2] at H
   have c2b0 := decide_eq_true c2
   clear c2
   revert H
   refine ifn fun c3 H => ?_
   have c3b0 := decide_eq_true c3
   clear c3
   revert H
   refine ok1 fun t1089 A4 H => ?_
   by_cases c5 : t1089 = true
   rotate_left
   ·replace c5 := Bool.eq_false_iff.mpr c5
    subst c5
    rw [if_neg (show ¬ (false = true) by decide)] at H
    obtain rfl := Option.some.inj H
    have p1088 : 0 ≤ (x3_1 : Int) := od
    have q1088 : x3_1 < (l0.length : Int) := od
    obtain ⟨ad1088, e1088, hx1088_0⟩ := Kd.at_string HR0.out x3_1 p1088 q1088
    cases e1088
    replace p1088 := eq_true p1088
    replace q1088 := eq_true q1088
    go_wp2_with (first | (refine gl 14 Tryz.func155 #[.string (rdOf ByteArray.empty l0 x3_1)] ?_; (with_reducible refine (spec_TokenOk.calls k1 (rdOf ByteArray.empty l0 x3_1) false _ A4.out).mono ?_); rintro e w' ⟨rfl, ⟨nd, rfl⟩⟩; refine ⟨_, rfl, ?_⟩))
    go_ret
    exact ⟨rs, dr⟩
   subst c5
   rw [if_pos rfl] at H
   have H' := am H
   clear H
   have p1088 : 0 ≤ (x3_1 : Int) := od
   have q1088 : x3_1 < (l0.length : Int) := od
   obtain ⟨ad1088, e1088, hx1088_0⟩ := Kd.at_string HR0.out x3_1 p1088 q1088
   cases e1088
   replace p1088 := eq_true p1088
   replace q1088 := eq_true q1088
   go_wp2_with (first | (refine gl 14 Tryz.func155 #[.string (rdOf ByteArray.empty l0 x3_1)] ?_; (with_reducible refine (spec_TokenOk.calls k1 (rdOf ByteArray.empty l0 x3_1) true _ A4.out).mono ?_); rintro e w' ⟨rfl, ⟨nd, rfl⟩⟩; refine ⟨_, rfl, ?_⟩))
   go_roundg k1
   case measure => have := HK1.out; omega
   case rel => exact ⟨(wrap64 (x3_1 + 1)), rs, H', ⟨by have := HK1.out; omega⟩, dr⟩

/-! ### spec_l8Texts: function 146 -/
mutual
def spec_l8Texts.l0 : Nat → List ByteArray → List ByteArray → Int → Option (Bool)
 | 0, _, _, _ => none
 | k + 1, x0, x1, x5 => if x5 < (x0.length : Int) then (spec_l8Texts.j1 k x0 x1 x5 (decide (x5 < (x1.length : Int)))) else (spec_l8Texts.j1 k x0 x1 x5 false)
def spec_l8Texts.j1 : Nat → List ByteArray → List ByteArray → Int → Bool → Option (Bool)
 | 0, _, _, _, _ => none
 | k + 1, x0, x1, x5, x15 => if x15 = true then (if 0 ≤ x5 then (if x5 < (x0.length : Int) then (if x5 < (x1.length : Int) then (if (rdOf ByteArray.empty x0 x5).toList = (rdOf ByteArray.empty x1 x5).toList then (spec_l8Texts.l0 k x0 x1 (wrap64 (x5 + 1))) else (some false)) else (none)) else (none)) else (none)) else (some ((x0.length : Int) == (x1.length : Int)))
end
def spec_l8Texts.f (k : Nat) (l0 : List ByteArray) (l1 : List ByteArray) : Option (Bool) := spec_l8Texts.l0 k l0 l1 0
theorem spec_l8Texts.mono_l : ∀ k, (∀ y0 y1 y2, LeO (spec_l8Texts.l0 k y0 y1 y2) (spec_l8Texts.l0 (k + 1) y0 y1 y2)) ∧ (∀ y0 y1 y2 y3, LeO (spec_l8Texts.j1 k y0 y1 y2 y3) (spec_l8Texts.j1 (k + 1) y0 y1 y2 y3))
 | 0 => ⟨fun _ _ _ r h => by simp [spec_l8Texts.l0] at h, fun _ _ _ _ r h => by simp [spec_l8Texts.j1] at h⟩
 | k + 1 => by
  obtain ⟨ih0, ih1⟩ := spec_l8Texts.mono_l k
  refine ⟨?_, ?_⟩
  ·intro y0 y1 y2
   unfold spec_l8Texts.l0
   exact mo
  ·intro y0 y1 y2 y3
   unfold spec_l8Texts.j1
   exact mo
theorem spec_l8Texts.mono : ∀ a0 a1 k, LeO (spec_l8Texts.f k a0 a1) (spec_l8Texts.f (k + 1) a0 a1) := by
 intro a0 a1 k
 obtain ⟨ih0, ih1⟩ := spec_l8Texts.mono_l k
 unfold spec_l8Texts.f
 exact mo
set_option maxHeartbeats 8000000 in
set_option maxRecDepth 100000 in
theorem spec_l8Texts.calls (k : Nat) (A0 : Option Addr) (c0 : Nat) (l0 : List ByteArray) (A1 : Option Addr) (c1 : Nat) (l1 : List ByteArray) (r : Bool) (w : World) (hr0 : Kd.C Kd.string w A0 l0.length l0) (hc0 : l0.length ≤ c0) (hr1 : Kd.C Kd.string w A1 l1.length l1) (hc1 : l1.length ≤ c1) (h : spec_l8Texts.f k l0 l1 = some r) :
  Calls Tryz.prog 146 #[.slice A0 l0.length c0, .slice A1 l1.length c1] w fun e w' => e = .returned (.bool r) ∧ Drawn0 w w' := by
 have HR0 := am hr0
 have HC0 := am hc0
 clear hr0 hc0
 have HR1 := am hr1
 have HC1 := am hc1
 clear hr1 hc1
 unfold spec_l8Texts.f at h
 have H := h
 clear h
 have H' := am H
 clear H
 go_enter Tryz.func146, Tryz.ntmps146
 go_wp2
 repeat (go_quiet (fail); try go_wp2)
 (try simp only [Act.put, List.setIfInBounds_toArray, List.set_cons_zero, List.set_cons_succ])
 go_loopg [5] k (fun kq v5 w' => ∃ (x5_1 : Int), v5 = .int .i64 x5_1 ∧ Aside0 (spec_l8Texts.l0 kq l0 l1 x5_1 = some r) ∧ Aside0 (kq ≤ k) ∧ Drawn0 w w')
 case atStart => exact ⟨(0), rs, H', ⟨Nat.le_refl _⟩, dr⟩
 case round =>
  clear H'
  try clear c1
  try clear p2
  obtain ⟨x5_1, rfl, HA, HK1, ⟨m1, rfl⟩⟩ := hrel
  cases gk with
  | zero => exact absurd HA.out (by simp [spec_l8Texts.l0])
  | succ k1 =>
   have H := HA.out
   clear HA
   simp only [spec_l8Texts.l0] at H
   have HC3 := am H
   clear H
   go_upto_region 2 with (fail)
   repeat (go_quiet (fail); go_upto_region 2 with (fail))
   go_cut [15] (fun v15 wc => ∃ (kq : Nat) (x15_2 : Bool), v15 = .bool x15_2 ∧ Aside0 (spec_l8Texts.j1 kq l0 l1 x5_1 x15_2 = some r) ∧ Aside0 (kq ≤ k1) ∧ Drawn0 w wc)
   case first =>
    have H := HC3.out
    clear HC3
    by_cases c4 : x5_1 < (l0.length : Int)
    rotate_left
    ·rw [if_neg c4] at H
     have c4b0 := decide_eq_false c4
     clear c4
     (first | rw [c4b0] | (simp only [i64_w, i32_w]; rw [c4b0]) | skip)
     have H' := am H
     clear H
     go_wp2
     repeat (go_quiet (fail); try go_wp2)
     go_meet
     case rel => exact ⟨_, (false), rs, H', ⟨by have := HK1.out; first | omega | exact Nat.le_refl _⟩, dr⟩
    rw [if_pos c4] at H
    have c4b0 := decide_eq_true c4
    clear c4
    (first | rw [c4b0] | (simp only [i64_w, i32_w]; rw [c4b0]) | skip)
    have H' := am H
    clear H
    go_wp2
    repeat (go_quiet (fail); try go_wp2)
    go_meet
    case rel => exact ⟨_, (decide (x5_1 < (l1.length : Int))), rs, H', ⟨by have := HK1.out; first | omega | exact Nat.le_refl _⟩, dr⟩
   case rest =>
    clear HC3
    try clear c1
    try clear p2
    try clear c4
    try clear c4b0
    try clear p2
    obtain ⟨kq, x15_2, rfl, HA, HJ2, ⟨mc2, rfl⟩⟩ := hcut
    cases kq with
    | zero => exact absurd HA.out (by simp [spec_l8Texts.j1])
    | succ kj2 =>
     have H := HA.out
     clear HA
     simp only [spec_l8Texts.j1] at H
     by_cases c5 : x15_2 = true
     rotate_left
     ·replace c5 := Bool.eq_false_iff.mpr c5
      subst c5
      rw [if_neg (show ¬ (false = true) by decide)] at H
      obtain rfl := Option.some.inj H
      go_wp2
      repeat (go_quiet (fail); try go_wp2)
      go_ret
      exact ⟨rs, dr⟩
     subst c5
     rw [if_pos rfl] at H
     revert H
     refine ifn fun c6 H => ?_
     have c6b0 := decide_eq_true c6
     clear c6
     revert H
     refine ifn fun c7 H => ?_
     have c7b0 := decide_eq_true c7
     clear c7
     revert H
     refine ifn fun c8 H => ?_
     have c8b0 := decide_eq_true c8
     clear c8
     by_cases c9 : (rdOf ByteArray.empty l0 x5_1).toList = (rdOf ByteArray.empty l1 x5_1).toList
     rotate_left
     ·rw [if_neg c9] at H
      have c9b0 : ((rdOf ByteArray.empty l0 x5_1).toList == (rdOf ByteArray.empty l1 x5_1).toList) = false := beq_eq_false_iff_ne.mpr c9
      have c9b1 : ((rdOf ByteArray.empty l0 x5_1).toList != (rdOf ByteArray.empty l1 x5_1).toList) = true := bne_iff_ne.mpr c9
      obtain rfl := Option.some.inj H
      have p1090 : 0 ≤ (x5_1 : Int) := od
      have q1090 : x5_1 < (l0.length : Int) := od
      obtain ⟨ad1090, e1090, hx1090_0⟩ := Kd.at_string HR0.out x5_1 p1090 q1090
      cases e1090
      replace p1090 := eq_true p1090
      replace q1090 := eq_true q1090
      have p1091 : 0 ≤ (x5_1 : Int) := od
      have q1091 : x5_1 < (l1.length : Int) := od
      obtain ⟨ad1091, e1091, hx1091_0⟩ := Kd.at_string HR1.out x5_1 p1091 q1091
      cases e1091
      replace p1091 := eq_true p1091
      replace q1091 := eq_true q1091
      go_wp2
      repeat (go_quiet (fail); try go_wp2)
      go_ret
      exact ⟨rs, dr⟩
     rw [if_pos c9] at H
     have c9b0 : ((rdOf ByteArray.empty l0 x5_1).toList == (rdOf ByteArray.empty l1 x5_1).toList) = true := beq_iff_eq.mpr c9
     have c9b1 : ((rdOf ByteArray.empty l0 x5_1).toList != (rdOf ByteArray.empty l1 x5_1).toList) = false := bne_eq_false_iff_eq.mpr c9
     clear c9
     have H' := am H
     clear H
     have p1090 : 0 ≤ (x5_1 : Int) := od
     have q1090 : x5_1 < (l0.length : Int) := od
     obtain ⟨ad1090, e1090, hx1090_0⟩ := Kd.at_string HR0.out x5_1 p1090 q1090
     cases e1090
     replace p1090 := eq_true p1090
     replace q1090 := eq_true q1090
     have p1091 : 0 ≤ (x5_1 : Int) := od
     have q1091 : x5_1 < (l1.length : Int) := od
     obtain ⟨ad1091, e1091, hx1091_0⟩ := Kd.at_string HR1.out x5_1 p1091 q1091
     cases e1091
     replace p1091 := eq_true p1091
     replace q1091 := eq_true q1091
     go_wp2
     repeat (go_quiet (fail); try go_wp2)
     go_roundg kj2
     case measure => have := HK1.out; have := HJ2.out; omega
     case rel => exact ⟨(wrap64 (x5_1 + 1)), rs, H', ⟨by have := HK1.out; have := HJ2.out; omega⟩, dr⟩

/-! ### spec_ObjOk: function 109 -/
theorem u109HB {p : Prop} (h : p := by repeat (first | (with_reducible first | exact HB.out | apply below_alloc | apply pw_below_drewN | apply below_drew1 | refine below_set ?_ GE1092.out) | exact HB.out)) : p := h
mutual
def spec_ObjOk.j0 : Nat → Bool → ByteArray → List ByteArray → List ByteArray → Int → List (S100) → ByteArray → Int → Option (Bool)
 | 0, _, _, _, _, _, _, _, _ => none
 | k + 1, x44, x1093000, x1093001, x1093002, x1093003, x1093004, x1093005, x1093006 => if x44 = true then (some false) else (spec_ObjOk.l0 k 0 x1093000 x1093001 x1093002 x1093003 x1093004 x1093005 x1093006)
def spec_ObjOk.l0 : Nat → Int → ByteArray → List ByteArray → List ByteArray → Int → List (S100) → ByteArray → Int → Option (Bool)
 | 0, _, _, _, _, _, _, _, _ => none
 | k + 1, x3, x1093000, x1093001, x1093002, x1093003, x1093004, x1093005, x1093006 => if x3 < (x1093002.length : Int) then (if 0 ≤ x3 then ((spec_ValueOk.f k (rdOf ByteArray.empty x1093002 x3)).bind fun t1102 => (if t1102 = true then (spec_ObjOk.l0 k (wrap64 (x3 + 1)) x1093000 x1093001 x1093002 x1093003 x1093004 x1093005 x1093006) else (some false))) else (none)) else (some true)
end
def spec_ObjOk.f (k : Nat) (a0_0 : ByteArray) (l0_1 : List ByteArray) (l0_2 : List ByteArray) (a0_3 : Int) (l0_4 : List (S100)) (a0_5 : ByteArray) (a0_6 : Int) : Option (Bool) := (spec_RespOk.f k a0_3 l0_4 a0_5).bind fun t1093 => (if t1093 = true then ((spec_l3Path.f k a0_0).bind fun t1094 => (if t1094 = true then ((spec_l1In.f a0_6 0 1000000).bind fun t1095 => (if t1095 = true then ((spec_l9Names.f k l0_1).bind fun t1096 => (if t1096 = true then ((spec_VaryOf.f k l0_4).bind fun t1097 => ((spec_l8Texts.f k l0_1 t1097).bind fun t1100 => (if t1100 = true then (spec_ObjOk.j0 k ((l0_2.length : Int) != (l0_1.length : Int)) a0_0 l0_1 l0_2 a0_3 l0_4 a0_5 a0_6) else (spec_ObjOk.j0 k true a0_0 l0_1 l0_2 a0_3 l0_4 a0_5 a0_6)))) else (spec_ObjOk.j0 k true a0_0 l0_1 l0_2 a0_3 l0_4 a0_5 a0_6))) else (spec_ObjOk.j0 k true a0_0 l0_1 l0_2 a0_3 l0_4 a0_5 a0_6))) else (spec_ObjOk.j0 k true a0_0 l0_1 l0_2 a0_3 l0_4 a0_5 a0_6))) else (spec_ObjOk.j0 k true a0_0 l0_1 l0_2 a0_3 l0_4 a0_5 a0_6))
theorem spec_ObjOk.mono_l : ∀ k, (∀ y0 y1 y2 y3 y4 y5 y6 y7, LeO (spec_ObjOk.j0 k y0 y1 y2 y3 y4 y5 y6 y7) (spec_ObjOk.j0 (k + 1) y0 y1 y2 y3 y4 y5 y6 y7)) ∧ (∀ y0 y1 y2 y3 y4 y5 y6 y7, LeO (spec_ObjOk.l0 k y0 y1 y2 y3 y4 y5 y6 y7) (spec_ObjOk.l0 (k + 1) y0 y1 y2 y3 y4 y5 y6 y7))
 | 0 => ⟨fun _ _ _ _ _ _ _ _ r h => by simp [spec_ObjOk.j0] at h, fun _ _ _ _ _ _ _ _ r h => by simp [spec_ObjOk.l0] at h⟩
 | k + 1 => by
  obtain ⟨ih0, ih1⟩ := spec_ObjOk.mono_l k
  refine ⟨?_, ?_⟩
  ·intro y0 y1 y2 y3 y4 y5 y6 y7
   unfold spec_ObjOk.j0
   have m0 := @spec_RespOk.mono
   have m1 := @spec_ValueOk.mono
   have m2 := @spec_VaryOf.mono
   have m3 := @spec_l3Path.mono
   have m4 := @spec_l8Texts.mono
   have m5 := @spec_l9Names.mono
   exact mo
  ·intro y0 y1 y2 y3 y4 y5 y6 y7
   unfold spec_ObjOk.l0
   have m0 := @spec_RespOk.mono
   have m1 := @spec_ValueOk.mono
   have m2 := @spec_VaryOf.mono
   have m3 := @spec_l3Path.mono
   have m4 := @spec_l8Texts.mono
   have m5 := @spec_l9Names.mono
   exact mo
theorem spec_ObjOk.mono : ∀ a0 a1 a2 a3 a4 a5 a6 k, LeO (spec_ObjOk.f k a0 a1 a2 a3 a4 a5 a6) (spec_ObjOk.f (k + 1) a0 a1 a2 a3 a4 a5 a6) := by
 intro a0 a1 a2 a3 a4 a5 a6 k
 obtain ⟨ih0, ih1⟩ := spec_ObjOk.mono_l k
 unfold spec_ObjOk.f
 have m0 := @spec_RespOk.mono
 have m1 := @spec_ValueOk.mono
 have m2 := @spec_VaryOf.mono
 have m3 := @spec_l3Path.mono
 have m4 := @spec_l8Texts.mono
 have m5 := @spec_l9Names.mono
 exact mo
def spec_ObjOk.T1 : Bool × List (List Nat × List Nat) := (true, [([], []), ([0], [0]), ([1], [1]), ([2], [2]), ([3, 2], [3]), ([4], [4]), ([5, 4], [4, 5]), ([6, 4, 4], [4, 6]), ([7, 4], [4, 7]), ([4, 8], [4, 8]), ([9, 7], [9]), ([10], [10]), ([11, 10], [10, 11]), ([12, 10, 10], [10, 12]), ([13, 10], [10, 13]), ([10, 14], [10, 14]), ([15, 13], [15]), ([16], [16]), ([17, 16], [16, 17]), ([18, 16, 16], [16, 18]), ([19, 16], [16, 19]), ([16, 20], [16, 20]), ([21, 19], [21]), ([22], [22]), ([23, 22], [22, 23]), ([22], [22]), ([25, 22], [22, 25]), ([26, 22], [22, 26]), ([27, 22, 22], [22, 27]), ([24, 28, 28, 22], [22, 24, 28]), ([29, 22], [22, 29]), ([22, 30], [22, 30]), ([31, 29], [31]), ([32], [32]), ([33, 32], [32, 33]), ([34, 32], [32, 34]), ([32], [32]), ([36, 32], [32, 36]), ([37, 32], [32, 37]), ([35, 38, 32], [32, 35, 38]), ([32, 39], [32, 39])])
def spec_ObjOk.B1 : List Nat := [0, 1, 3, 7, 15, 31, 63, 127, 255, 511, 1023, 2047, 4095, 8191, 16383, 32767, 65535, 131071, 262143, 524287, 1048575, 2097151, 4194303, 8388607, 16777215, 8388607, 41943039, 109051903, 243269631, 536870911, 1073741823, 2147483647, 4294967295, 8589934591, 17179869183, 34359738367, 8589934591, 77309411327, 214748364799, 549755813887, 1099511627775]
theorem spec_ObjOk.tab1 : rtab .any (opsOf Tryz.f109 1) = spec_ObjOk.T1 := by kernel_rfl
theorem spec_ObjOk.bits1 : waitsOk spec_ObjOk.T1.2 spec_ObjOk.B1 = true := by kernel_rfl
set_option maxHeartbeats 8000000 in
set_option maxRecDepth 100000 in
theorem spec_ObjOk.calls (k : Nat) (a0_0 : ByteArray) (A0_1 : Option Addr) (c0_1 : Nat) (l0_1 : List ByteArray) (A0_2 : Option Addr) (c0_2 : Nat) (l0_2 : List ByteArray) (a0_3 : Int) (A0_4 : Option Addr) (c0_4 : Nat) (l0_4 : List (S100)) (a0_5 : ByteArray) (a0_6 : Int) (r : Bool) (w : World) (hr0_1 : Kd.C Kd.string w A0_1 l0_1.length l0_1) (hc0_1 : l0_1.length ≤ c0_1) (hr0_2 : Kd.C Kd.string w A0_2 l0_2.length l0_2) (hc0_2 : l0_2.length ≤ c0_2) (hr0_4 : Kd.C k100 w A0_4 l0_4.length l0_4) (hc0_4 : l0_4.length ≤ c0_4) (h : spec_ObjOk.f k a0_0 l0_1 l0_2 a0_3 l0_4 a0_5 a0_6 = some r) :
  Calls Tryz.prog 109 #[.agg #[.string a0_0, .slice A0_1 l0_1.length c0_1, .slice A0_2 l0_2.length c0_2, .int .i64 a0_3, .slice A0_4 l0_4.length c0_4, .string a0_5, .int .i64 a0_6]] w fun e w' => e = .returned (.bool r) ∧ Below w.heap.size w w' := by
 have hu71 := Tryz.underlying71
 have hu48 := Tryz.underlying48
 have HR0_1 := am hr0_1
 have HC0_1 := am hc0_1
 clear hr0_1 hc0_1
 have HR0_2 := am hr0_2
 have HC0_2 := am hc0_2
 clear hr0_2 hc0_2
 have HR0_4 := am hr0_4
 have HC0_4 := am hc0_4
 clear hr0_4 hc0_4
 have HB := am (Below.refl w.heap.size w)
 unfold spec_ObjOk.f at h
 have H := h
 clear h
 have HC2 := am H
 clear H
 go_enter Tryz.func109, Tryz.ntmps109
 go_upto_region 1 with (first | ((with_reducible refine gate_dst (N := 1) rfl ?_); (try (refine gate_guard (by rfl) ?_; dsimp only)); refine box_event ?hg (N := 1) ?hd (cs := #[.string a0_0, .slice A0_1 l0_1.length c0_1, .slice A0_2 l0_2.length c0_2, .int .i64 a0_3, .slice A0_4 l0_4.length c0_4, .string a0_5, .int .i64 a0_6]) (t := 71) ?hr ?_; (case hd => rfl); (case hg => rfl); (case hr => first | (go_simp; done) | (go_simp; rfl)); intro gb1092 hg w3 hbox hb; have BK1092 := am (hbox); have GW1092 := am (sz hg : w.heap.size ≤ gb1092); have GE1092 := am (sz hg : w.heap.size ≤ gb1092); replace HB := am (below_step bl hb); clear hb hbox hg))
 (try simp only [Act.put, List.setIfInBounds_toArray, List.set_cons_zero, List.set_cons_succ])
 go_cut [44] (fun v44 wc => ∃ (kq : Nat) (x44_1 : Bool), v44 = .bool x44_1 ∧ Aside0 (spec_ObjOk.j0 kq x44_1 a0_0 l0_1 l0_2 a0_3 l0_4 a0_5 a0_6 = some r) ∧ Aside0 (kq ≤ k) ∧ Aside0 (wc.heap[gb1092]? = some (.cells #[.string a0_0, (.slice A0_1 l0_1.length c0_1), (.slice A0_2 l0_2.length c0_2), .int .i64 a0_3, (.slice A0_4 l0_4.length c0_4), .string a0_5, .int .i64 a0_6] 71 (0, 0))) ∧ Aside0 (Below w.heap.size w wc))
 case first =>
  have H := HC2.out
  clear HC2
  revert H
  refine ok1 fun t1093 A4 H => ?_
  by_cases c5 : t1093 = true
  rotate_left
  ·replace c5 := Bool.eq_false_iff.mpr c5
   subst c5
   rw [if_neg (show ¬ (false = true) by decide)] at H
   have H' := am H
   clear H
   try go_wp2
   replace BK1092 := am (blk_drew BK1092.out)
   replace HB := am (below_drew1 HB.out)
   refine start_ (n := 41) (S := fun w' => w'.cell? ⟨gb1092, 0, none⟩ = some (.string a0_0) ∧ w'.cell? ⟨gb1092, 1, none⟩ = some (.slice A0_1 l0_1.length c0_1) ∧ w'.cell? ⟨gb1092, 2, none⟩ = some (.slice A0_2 l0_2.length c0_2) ∧ w'.cell? ⟨gb1092, 3, none⟩ = some (.int .i64 a0_3) ∧ w'.cell? ⟨gb1092, 4, none⟩ = some (.slice A0_4 l0_4.length c0_4) ∧ w'.cell? ⟨gb1092, 5, none⟩ = some (.string a0_5) ∧ w'.cell? ⟨gb1092, 6, none⟩ = some (.int .i64 a0_6)) (ds := []) ⟨br true [0, 41]⟩ (by kernel_rfl) rfl (by kernel_rfl) ⟨bc BK1092, bc BK1092, bc BK1092, bc BK1092, bc BK1092, bc BK1092, bc BK1092⟩ (fun hHeld => ?_); refine with_tabW spec_ObjOk.tab1 spec_ObjOk.bits1 (fun HT_ HW_ => ?_)
   generalize w3.drew = w29 at BK1092 HB hHeld ⊢
   refine pu 0 4 [1, 40] ?_
   refine tk 1 5 [2, 39] ?_
   refine og 2 6 [3, 38] Tryz.func96 #[.agg #[.int .i64 a0_3, .slice A0_4 l0_4.length c0_4, .string a0_5]] (fun K hK => ?_)
   with_reducible refine (spec_RespOk.calls k a0_3 _ _ l0_4 a0_5 false _ ?side1 ?side2 A4.out).mono ?_
   (case side1 => exact cb HR0_4)
   (case side2 => exact HC0_4.out)
   rintro e w30 ⟨rfl, hb⟩
   refine ⟨_, rfl, ?_⟩
   replace BK1092 := kb BK1092 hb
   replace HB := am (below_step bl hb)
   clear hb
   refine hK.out _ _ ⟨bc BK1092, bc BK1092, bc BK1092, bc BK1092, bc BK1092, bc BK1092, bc BK1092⟩ (fun hHeld => ?_)
   clear hK K
   refine nm 6 ?_
   refine pu 3 7 [4, 37] ?_
   refine pu 4 8 [5, 36] ?_
   refine pd 5 9 [6, 35] ?_
   refine pd 6 10 [7, 34] ?_
   refine pd 7 11 [8, 33] ?_
   refine pd 8 12 [9, 32] ?_
   refine pu 9 13 [10, 31] ?_
   refine pu 10 14 [11, 30] ?_
   refine pd 11 15 [12, 29] ?_
   refine pd 12 16 [13, 28] ?_
   refine pd 13 17 [14, 27] ?_
   refine pd 14 18 [15, 26] ?_
   refine pu 15 19 [16, 25] ?_
   refine pu 16 20 [17, 24] ?_
   refine pd 17 21 [18, 23] ?_
   refine pd 18 22 [19, 22] ?_
   refine pd 19 23 [20, 21] ?_
   refine pd 20 24 [21, 20] ?_
   refine pu 21 25 [22, 19] ?_
   refine pu 22 26 [23, 18] ?_
   refine pd 23 27 [24, 17] ?_
   refine pd 24 28 [25, 16] ?_
   refine pd 25 29 [26, 15] ?_
   refine pd 26 30 [27, 14] ?_
   refine pd 27 31 [28, 13] ?_
   refine pd 28 32 [29, 12] ?_
   refine pd 29 33 [30, 11] ?_
   refine pd 30 34 [31, 10] ?_
   refine pu 31 35 [32, 9] ?_
   refine pu 32 36 [33, 8] ?_
   refine pd 33 37 [34, 7] ?_
   refine pd 34 38 [35, 6] ?_
   refine pd 35 39 [36, 5] ?_
   refine pd 36 40 [37, 4] ?_
   refine pd 37 41 [38, 3] ?_
   refine pd 38 42 [39, 2] ?_
   refine pd 39 43 [40, 1] ?_
   refine pu 40 44 [41] ?_
   refine done_ (done_of HT_.out (by kernel_rfl)) ?_
   try go_wp2
   go_meet
   case rel => exact ⟨_, (true), rs, H', ⟨by first | omega | exact Nat.le_refl _⟩, ⟨by (with_reducible repeat (first | refine blk_drewN ?_ _ | refine blk_drew ?_ | refine blk_alloc ?_ _)); exact BK1092.out⟩, ⟨u109HB⟩⟩
  subst c5
  rw [if_pos rfl] at H
  revert H
  refine ok1 fun t1094 A6 H => ?_
  by_cases c7 : t1094 = true
  rotate_left
  ·replace c7 := Bool.eq_false_iff.mpr c7
   subst c7
   rw [if_neg (show ¬ (false = true) by decide)] at H
   have H' := am H
   clear H
   try go_wp2
   replace BK1092 := am (blk_drew BK1092.out)
   replace HB := am (below_drew1 HB.out)
   refine start_ (n := 41) (S := fun w' => w'.cell? ⟨gb1092, 0, none⟩ = some (.string a0_0) ∧ w'.cell? ⟨gb1092, 1, none⟩ = some (.slice A0_1 l0_1.length c0_1) ∧ w'.cell? ⟨gb1092, 2, none⟩ = some (.slice A0_2 l0_2.length c0_2) ∧ w'.cell? ⟨gb1092, 3, none⟩ = some (.int .i64 a0_3) ∧ w'.cell? ⟨gb1092, 4, none⟩ = some (.slice A0_4 l0_4.length c0_4) ∧ w'.cell? ⟨gb1092, 5, none⟩ = some (.string a0_5) ∧ w'.cell? ⟨gb1092, 6, none⟩ = some (.int .i64 a0_6)) (ds := []) ⟨br true [0, 41]⟩ (by kernel_rfl) rfl (by kernel_rfl) ⟨bc BK1092, bc BK1092, bc BK1092, bc BK1092, bc BK1092, bc BK1092, bc BK1092⟩ (fun hHeld => ?_); refine with_tabW spec_ObjOk.tab1 spec_ObjOk.bits1 (fun HT_ HW_ => ?_)
   generalize w3.drew = w27 at BK1092 HB hHeld ⊢
   refine pu 0 4 [1, 40] ?_
   refine tk 1 5 [2, 39] ?_
   refine og 2 6 [3, 38] Tryz.func96 #[.agg #[.int .i64 a0_3, .slice A0_4 l0_4.length c0_4, .string a0_5]] (fun K hK => ?_)
   with_reducible refine (spec_RespOk.calls k a0_3 _ _ l0_4 a0_5 true _ ?side1 ?side2 A4.out).mono ?_
   (case side1 => exact cb HR0_4)
   (case side2 => exact HC0_4.out)
   rintro e w28 ⟨rfl, hb⟩
   refine ⟨_, rfl, ?_⟩
   replace BK1092 := kb BK1092 hb
   replace HB := am (below_step bl hb)
   clear hb
   refine hK.out _ _ ⟨bc BK1092, bc BK1092, bc BK1092, bc BK1092, bc BK1092, bc BK1092, bc BK1092⟩ (fun hHeld => ?_)
   clear hK K
   refine nm 6 ?_
   refine pu 3 7 [4, 37] ?_
   refine pu 4 8 [5, 36] ?_
   refine pu 5 9 [6, 35] ?_
   refine tk 6 10 [7, 34] ?_
   refine og 7 11 [8, 33] Tryz.func126 #[.string a0_0] (fun K hK => ?_)
   with_reducible refine (spec_l3Path.calls k a0_0 false _ A6.out).mono ?_
   rintro e w' ⟨rfl, ⟨nd, rfl⟩⟩
   refine ⟨_, rfl, ?_⟩
   refine hK.out _ _ ⟨bc BK1092, bc BK1092, bc BK1092, bc BK1092, bc BK1092, bc BK1092, bc BK1092⟩ (fun hHeld => ?_)
   clear hK K
   refine nm 11 ?_
   refine pu 8 12 [9, 32] ?_
   refine pu 9 13 [10, 31] ?_
   refine pu 10 14 [11, 30] ?_
   refine pd 11 15 [12, 29] ?_
   refine pd 12 16 [13, 28] ?_
   refine pd 13 17 [14, 27] ?_
   refine pd 14 18 [15, 26] ?_
   refine pu 15 19 [16, 25] ?_
   refine pu 16 20 [17, 24] ?_
   refine pd 17 21 [18, 23] ?_
   refine pd 18 22 [19, 22] ?_
   refine pd 19 23 [20, 21] ?_
   refine pd 20 24 [21, 20] ?_
   refine pu 21 25 [22, 19] ?_
   refine pu 22 26 [23, 18] ?_
   refine pd 23 27 [24, 17] ?_
   refine pd 24 28 [25, 16] ?_
   refine pd 25 29 [26, 15] ?_
   refine pd 26 30 [27, 14] ?_
   refine pd 27 31 [28, 13] ?_
   refine pd 28 32 [29, 12] ?_
   refine pd 29 33 [30, 11] ?_
   refine pd 30 34 [31, 10] ?_
   refine pu 31 35 [32, 9] ?_
   refine pu 32 36 [33, 8] ?_
   refine pd 33 37 [34, 7] ?_
   refine pd 34 38 [35, 6] ?_
   refine pd 35 39 [36, 5] ?_
   refine pd 36 40 [37, 4] ?_
   refine pd 37 41 [38, 3] ?_
   refine pd 38 42 [39, 2] ?_
   refine pd 39 43 [40, 1] ?_
   refine pu 40 44 [41] ?_
   refine done_ (done_of HT_.out (by kernel_rfl)) ?_
   try go_wp2
   go_meet
   case rel => exact ⟨_, (true), rs, H', ⟨by first | omega | exact Nat.le_refl _⟩, ⟨by (with_reducible repeat (first | refine blk_drewN ?_ _ | refine blk_drew ?_ | refine blk_alloc ?_ _)); exact BK1092.out⟩, ⟨u109HB⟩⟩
  subst c7
  rw [if_pos rfl] at H
  revert H
  refine ok1 fun t1095 A8 H => ?_
  by_cases c9 : t1095 = true
  rotate_left
  ·replace c9 := Bool.eq_false_iff.mpr c9
   subst c9
   rw [if_neg (show ¬ (false = true) by decide)] at H
   have H' := am H
   clear H
   try go_wp2
   replace BK1092 := am (blk_drew BK1092.out)
   replace HB := am (below_drew1 HB.out)
   refine start_ (n := 41) (S := fun w' => w'.cell? ⟨gb1092, 0, none⟩ = some (.string a0_0) ∧ w'.cell? ⟨gb1092, 1, none⟩ = some (.slice A0_1 l0_1.length c0_1) ∧ w'.cell? ⟨gb1092, 2, none⟩ = some (.slice A0_2 l0_2.length c0_2) ∧ w'.cell? ⟨gb1092, 3, none⟩ = some (.int .i64 a0_3) ∧ w'.cell? ⟨gb1092, 4, none⟩ = some (.slice A0_4 l0_4.length c0_4) ∧ w'.cell? ⟨gb1092, 5, none⟩ = some (.string a0_5) ∧ w'.cell? ⟨gb1092, 6, none⟩ = some (.int .i64 a0_6)) (ds := []) ⟨br true [0, 41]⟩ (by kernel_rfl) rfl (by kernel_rfl) ⟨bc BK1092, bc BK1092, bc BK1092, bc BK1092, bc BK1092, bc BK1092, bc BK1092⟩ (fun hHeld => ?_); refine with_tabW spec_ObjOk.tab1 spec_ObjOk.bits1 (fun HT_ HW_ => ?_)
   generalize w3.drew = w25 at BK1092 HB hHeld ⊢
   refine pu 0 4 [1, 40] ?_
   refine tk 1 5 [2, 39] ?_
   refine og 2 6 [3, 38] Tryz.func96 #[.agg #[.int .i64 a0_3, .slice A0_4 l0_4.length c0_4, .string a0_5]] (fun K hK => ?_)
   with_reducible refine (spec_RespOk.calls k a0_3 _ _ l0_4 a0_5 true _ ?side1 ?side2 A4.out).mono ?_
   (case side1 => exact cb HR0_4)
   (case side2 => exact HC0_4.out)
   rintro e w26 ⟨rfl, hb⟩
   refine ⟨_, rfl, ?_⟩
   replace BK1092 := kb BK1092 hb
   replace HB := am (below_step bl hb)
   clear hb
   refine hK.out _ _ ⟨bc BK1092, bc BK1092, bc BK1092, bc BK1092, bc BK1092, bc BK1092, bc BK1092⟩ (fun hHeld => ?_)
   clear hK K
   refine nm 6 ?_
   refine pu 3 7 [4, 37] ?_
   refine pu 4 8 [5, 36] ?_
   refine pu 5 9 [6, 35] ?_
   refine tk 6 10 [7, 34] ?_
   refine og 7 11 [8, 33] Tryz.func126 #[.string a0_0] (fun K hK => ?_)
   with_reducible refine (spec_l3Path.calls k a0_0 true _ A6.out).mono ?_
   rintro e w' ⟨rfl, ⟨nd, rfl⟩⟩
   refine ⟨_, rfl, ?_⟩
   refine hK.out _ _ ⟨bc BK1092, bc BK1092, bc BK1092, bc BK1092, bc BK1092, bc BK1092, bc BK1092⟩ (fun hHeld => ?_)
   clear hK K
   refine nm 11 ?_
   refine pu 8 12 [9, 32] ?_
   refine pu 9 13 [10, 31] ?_
   refine pu 10 14 [11, 30] ?_
   refine pu 11 15 [12, 29] ?_
   refine tk 12 16 [13, 28] ?_
   refine og 13 17 [14, 27] Tryz.func125 #[.int .i64 a0_6, .int .i64 0, .int .i64 1000000] (fun K hK => ?_)
   with_reducible refine (spec_l1In.calls a0_6 0 1000000 false _ A8.out).mono ?_
   rintro e w' ⟨rfl, ⟨nd, rfl⟩⟩
   refine ⟨_, rfl, ?_⟩
   refine hK.out _ _ ⟨bc BK1092, bc BK1092, bc BK1092, bc BK1092, bc BK1092, bc BK1092, bc BK1092⟩ (fun hHeld => ?_)
   clear hK K
   refine nm 17 ?_
   refine pu 14 18 [15, 26] ?_
   refine pu 15 19 [16, 25] ?_
   refine pu 16 20 [17, 24] ?_
   refine pd 17 21 [18, 23] ?_
   refine pd 18 22 [19, 22] ?_
   refine pd 19 23 [20, 21] ?_
   refine pd 20 24 [21, 20] ?_
   refine pu 21 25 [22, 19] ?_
   refine pu 22 26 [23, 18] ?_
   refine pd 23 27 [24, 17] ?_
   refine pd 24 28 [25, 16] ?_
   refine pd 25 29 [26, 15] ?_
   refine pd 26 30 [27, 14] ?_
   refine pd 27 31 [28, 13] ?_
   refine pd 28 32 [29, 12] ?_
   refine pd 29 33 [30, 11] ?_
   refine pd 30 34 [31, 10] ?_
   refine pu 31 35 [32, 9] ?_
   refine pu 32 36 [33, 8] ?_
   refine pd 33 37 [34, 7] ?_
   refine pd 34 38 [35, 6] ?_
   refine pd 35 39 [36, 5] ?_
   refine pd 36 40 [37, 4] ?_
   refine pd 37 41 [38, 3] ?_
   refine pd 38 42 [39, 2] ?_
   refine pd 39 43 [40, 1] ?_
   refine pu 40 44 [41] ?_
   refine done_ (done_of HT_.out (by kernel_rfl)) ?_
   try go_wp2
   go_meet
   case rel => exact ⟨_, (true), rs, H', ⟨by first | omega | exact Nat.le_refl _⟩, ⟨by (with_reducible repeat (first | refine blk_drewN ?_ _ | refine blk_drew ?_ | refine blk_alloc ?_ _)); exact BK1092.out⟩, ⟨u109HB⟩⟩
  subst c9
  rw [if_pos rfl] at H
  revert H
  refine ok1 fun t1096 A10 H => ?_
  by_cases c11 : t1096 = true
  rotate_left
  ·replace c11 := Bool.eq_false_iff.mpr c11
   subst c11
   rw [if_neg (show ¬ (false = true) by decide)] at H
   have H' := am H
   clear H
   try go_wp2
   replace BK1092 := am (blk_drew BK1092.out)
   replace HB := am (below_drew1 HB.out)
   refine start_ (n := 41) (S := fun w' => w'.cell? ⟨gb1092, 0, none⟩ = some (.string a0_0) ∧ w'.cell? ⟨gb1092, 1, none⟩ = some (.slice A0_1 l0_1.length c0_1) ∧ w'.cell? ⟨gb1092, 2, none⟩ = some (.slice A0_2 l0_2.length c0_2) ∧ w'.cell? ⟨gb1092, 3, none⟩ = some (.int .i64 a0_3) ∧ w'.cell? ⟨gb1092, 4, none⟩ = some (.slice A0_4 l0_4.length c0_4) ∧ w'.cell? ⟨gb1092, 5, none⟩ = some (.string a0_5) ∧ w'.cell? ⟨gb1092, 6, none⟩ = some (.int .i64 a0_6)) (ds := []) ⟨br true [0, 41]⟩ (by kernel_rfl) rfl (by kernel_rfl) ⟨bc BK1092, bc BK1092, bc BK1092, bc BK1092, bc BK1092, bc BK1092, bc BK1092⟩ (fun hHeld => ?_); refine with_tabW spec_ObjOk.tab1 spec_ObjOk.bits1 (fun HT_ HW_ => ?_)
   generalize w3.drew = w23 at BK1092 HB hHeld ⊢
   refine pu 0 4 [1, 40] ?_
   refine tk 1 5 [2, 39] ?_
   refine og 2 6 [3, 38] Tryz.func96 #[.agg #[.int .i64 a0_3, .slice A0_4 l0_4.length c0_4, .string a0_5]] (fun K hK => ?_)
   with_reducible refine (spec_RespOk.calls k a0_3 _ _ l0_4 a0_5 true _ ?side1 ?side2 A4.out).mono ?_
   (case side1 => exact cb HR0_4)
   (case side2 => exact HC0_4.out)
   rintro e w24 ⟨rfl, hb⟩
   refine ⟨_, rfl, ?_⟩
   replace BK1092 := kb BK1092 hb
   replace HB := am (below_step bl hb)
   clear hb
   refine hK.out _ _ ⟨bc BK1092, bc BK1092, bc BK1092, bc BK1092, bc BK1092, bc BK1092, bc BK1092⟩ (fun hHeld => ?_)
   clear hK K
   refine nm 6 ?_
   refine pu 3 7 [4, 37] ?_
   refine pu 4 8 [5, 36] ?_
   refine pu 5 9 [6, 35] ?_
   refine tk 6 10 [7, 34] ?_
   refine og 7 11 [8, 33] Tryz.func126 #[.string a0_0] (fun K hK => ?_)
   with_reducible refine (spec_l3Path.calls k a0_0 true _ A6.out).mono ?_
   rintro e w' ⟨rfl, ⟨nd, rfl⟩⟩
   refine ⟨_, rfl, ?_⟩
   refine hK.out _ _ ⟨bc BK1092, bc BK1092, bc BK1092, bc BK1092, bc BK1092, bc BK1092, bc BK1092⟩ (fun hHeld => ?_)
   clear hK K
   refine nm 11 ?_
   refine pu 8 12 [9, 32] ?_
   refine pu 9 13 [10, 31] ?_
   refine pu 10 14 [11, 30] ?_
   refine pu 11 15 [12, 29] ?_
   refine tk 12 16 [13, 28] ?_
   refine og 13 17 [14, 27] Tryz.func125 #[.int .i64 a0_6, .int .i64 0, .int .i64 1000000] (fun K hK => ?_)
   with_reducible refine (spec_l1In.calls a0_6 0 1000000 true _ A8.out).mono ?_
   rintro e w' ⟨rfl, ⟨nd, rfl⟩⟩
   refine ⟨_, rfl, ?_⟩
   refine hK.out _ _ ⟨bc BK1092, bc BK1092, bc BK1092, bc BK1092, bc BK1092, bc BK1092, bc BK1092⟩ (fun hHeld => ?_)
   clear hK K
   refine nm 17 ?_
   refine pu 14 18 [15, 26] ?_
   refine pu 15 19 [16, 25] ?_
   refine pu 16 20 [17, 24] ?_
   refine pu 17 21 [18, 23] ?_
   refine tk 18 22 [19, 22] ?_
   refine og 19 23 [20, 21] Tryz.func145 #[.slice A0_1 l0_1.length c0_1] (fun K hK => ?_)
   with_reducible refine (spec_l9Names.calls k _ _ l0_1 false _ ?side1 ?side2 A10.out).mono ?_
   (case side1 => repeat (first | exact (Kd.C_below HR0_1.out bl) | (with_reducible refine Kd.C_alloc ?_ _) | (with_reducible refine Kd.C_drewN ?_ _) | (with_reducible refine Kd.C_drew ?_)))
   (case side2 => exact HC0_1.out)
   rintro e w' ⟨rfl, ⟨nd, rfl⟩⟩
   refine ⟨_, rfl, ?_⟩
   refine hK.out _ _ ⟨bc BK1092, bc BK1092, bc BK1092, bc BK1092, bc BK1092, bc BK1092, bc BK1092⟩ (fun hHeld => ?_)
   clear hK K
   refine nm 23 ?_
   refine pu 20 24 [21, 20] ?_
   refine pu 21 25 [22, 19] ?_
   refine pu 22 26 [23, 18] ?_
   refine pd 23 27 [24, 17] ?_
   refine pd 24 28 [25, 16] ?_
   refine pd 25 29 [26, 15] ?_
   refine pd 26 30 [27, 14] ?_
   refine pd 27 31 [28, 13] ?_
   refine pd 28 32 [29, 12] ?_
   refine pd 29 33 [30, 11] ?_
   refine pd 30 34 [31, 10] ?_
   refine pu 31 35 [32, 9] ?_
   refine pu 32 36 [33, 8] ?_
   refine pd 33 37 [34, 7] ?_
   refine pd 34 38 [35, 6] ?_
   refine pd 35 39 [36, 5] ?_
   refine pd 36 40 [37, 4] ?_
   refine pd 37 41 [38, 3] ?_
   refine pd 38 42 [39, 2] ?_
   refine pd 39 43 [40, 1] ?_
   refine pu 40 44 [41] ?_
   refine done_ (done_of HT_.out (by kernel_rfl)) ?_
   try go_wp2
   go_meet
   case rel => exact ⟨_, (true), rs, H', ⟨by first | omega | exact Nat.le_refl _⟩, ⟨by (with_reducible repeat (first | refine blk_drewN ?_ _ | refine blk_drew ?_ | refine blk_alloc ?_ _)); exact BK1092.out⟩, ⟨u109HB⟩⟩
  subst c11
  rw [if_pos rfl] at H
  revert H
  refine ok1 fun t1097 A12 H => ?_
  revert H
  refine ok1 fun t1100 A13 H => ?_
  by_cases c14 : t1100 = true
  ·subst c14
   rw [if_pos rfl] at H
   have H' := am H
   clear H
   try go_wp2
   replace BK1092 := am (blk_drew BK1092.out)
   replace HB := am (below_drew1 HB.out)
   refine start_ (n := 41) (S := fun w' => w'.cell? ⟨gb1092, 0, none⟩ = some (.string a0_0) ∧ w'.cell? ⟨gb1092, 1, none⟩ = some (.slice A0_1 l0_1.length c0_1) ∧ w'.cell? ⟨gb1092, 2, none⟩ = some (.slice A0_2 l0_2.length c0_2) ∧ w'.cell? ⟨gb1092, 3, none⟩ = some (.int .i64 a0_3) ∧ w'.cell? ⟨gb1092, 4, none⟩ = some (.slice A0_4 l0_4.length c0_4) ∧ w'.cell? ⟨gb1092, 5, none⟩ = some (.string a0_5) ∧ w'.cell? ⟨gb1092, 6, none⟩ = some (.int .i64 a0_6)) (ds := []) ⟨br true [0, 41]⟩ (by kernel_rfl) rfl (by kernel_rfl) ⟨bc BK1092, bc BK1092, bc BK1092, bc BK1092, bc BK1092, bc BK1092, bc BK1092⟩ (fun hHeld => ?_); refine with_tabW spec_ObjOk.tab1 spec_ObjOk.bits1 (fun HT_ HW_ => ?_)
   generalize w3.drew = w15 at BK1092 HB hHeld ⊢
   refine pu 0 4 [1, 40] ?_
   refine tk 1 5 [2, 39] ?_
   refine og 2 6 [3, 38] Tryz.func96 #[.agg #[.int .i64 a0_3, .slice A0_4 l0_4.length c0_4, .string a0_5]] (fun K hK => ?_)
   with_reducible refine (spec_RespOk.calls k a0_3 _ _ l0_4 a0_5 true _ ?side1 ?side2 A4.out).mono ?_
   (case side1 => exact cb HR0_4)
   (case side2 => exact HC0_4.out)
   rintro e w16 ⟨rfl, hb⟩
   refine ⟨_, rfl, ?_⟩
   replace BK1092 := kb BK1092 hb
   replace HB := am (below_step bl hb)
   clear hb
   refine hK.out _ _ ⟨bc BK1092, bc BK1092, bc BK1092, bc BK1092, bc BK1092, bc BK1092, bc BK1092⟩ (fun hHeld => ?_)
   clear hK K
   refine nm 6 ?_
   refine pu 3 7 [4, 37] ?_
   refine pu 4 8 [5, 36] ?_
   refine pu 5 9 [6, 35] ?_
   refine tk 6 10 [7, 34] ?_
   refine og 7 11 [8, 33] Tryz.func126 #[.string a0_0] (fun K hK => ?_)
   with_reducible refine (spec_l3Path.calls k a0_0 true _ A6.out).mono ?_
   rintro e w' ⟨rfl, ⟨nd, rfl⟩⟩
   refine ⟨_, rfl, ?_⟩
   refine hK.out _ _ ⟨bc BK1092, bc BK1092, bc BK1092, bc BK1092, bc BK1092, bc BK1092, bc BK1092⟩ (fun hHeld => ?_)
   clear hK K
   refine nm 11 ?_
   refine pu 8 12 [9, 32] ?_
   refine pu 9 13 [10, 31] ?_
   refine pu 10 14 [11, 30] ?_
   refine pu 11 15 [12, 29] ?_
   refine tk 12 16 [13, 28] ?_
   refine og 13 17 [14, 27] Tryz.func125 #[.int .i64 a0_6, .int .i64 0, .int .i64 1000000] (fun K hK => ?_)
   with_reducible refine (spec_l1In.calls a0_6 0 1000000 true _ A8.out).mono ?_
   rintro e w' ⟨rfl, ⟨nd, rfl⟩⟩
   refine ⟨_, rfl, ?_⟩
   refine hK.out _ _ ⟨bc BK1092, bc BK1092, bc BK1092, bc BK1092, bc BK1092, bc BK1092, bc BK1092⟩ (fun hHeld => ?_)
   clear hK K
   refine nm 17 ?_
   refine pu 14 18 [15, 26] ?_
   refine pu 15 19 [16, 25] ?_
   refine pu 16 20 [17, 24] ?_
   refine pu 17 21 [18, 23] ?_
   refine tk 18 22 [19, 22] ?_
   refine og 19 23 [20, 21] Tryz.func145 #[.slice A0_1 l0_1.length c0_1] (fun K hK => ?_)
   with_reducible refine (spec_l9Names.calls k _ _ l0_1 true _ ?side1 ?side2 A10.out).mono ?_
   (case side1 => repeat (first | exact (Kd.C_below HR0_1.out bl) | (with_reducible refine Kd.C_alloc ?_ _) | (with_reducible refine Kd.C_drewN ?_ _) | (with_reducible refine Kd.C_drew ?_)))
   (case side2 => exact HC0_1.out)
   rintro e w' ⟨rfl, ⟨nd, rfl⟩⟩
   refine ⟨_, rfl, ?_⟩
   refine hK.out _ _ ⟨bc BK1092, bc BK1092, bc BK1092, bc BK1092, bc BK1092, bc BK1092, bc BK1092⟩ (fun hHeld => ?_)
   clear hK K
   refine nm 23 ?_
   refine pu 20 24 [21, 20] ?_
   refine pu 21 25 [22, 19] ?_
   refine pu 22 26 [23, 18] ?_
   refine pu 23 27 [24, 17] ?_
   refine pu 25 29 [24, 1, 1, 15] ?_
   refine pu 26 30 [24, 1, 2, 14] ?_
   refine tk 24 28 [27, 14] ?_
   refine tk 27 31 [28, 13] ?_
   refine og 28 32 [29, 12] Tryz.func103 #[.slice A0_4 l0_4.length c0_4] (fun K hK => ?_)
   with_reducible refine (spec_VaryOf.calls k _ _ l0_4 t1097 _ ?side1 ?side2 A12.out).mono ?_
   (case side1 => repeat (first | exact (Kd.C_below HR0_4.out bl) | (with_reducible refine Kd.C_alloc ?_ _) | (with_reducible refine Kd.C_drewN ?_ _) | (with_reducible refine Kd.C_drew ?_)))
   (case side2 => exact HC0_4.out)
   rintro e w17 ⟨v1098, rfl, ho0, hb⟩
   refine ⟨_, rfl, ?_⟩
   have HO1099 := am (Kd.R_lower ho0 (below_size bl))
   replace BK1092 := kb BK1092 hb
   replace HB := am (below_step bl hb)
   clear hb ho0
   obtain ⟨Ao18, co18, eo18⟩ := Kd.R_slice HO1099.out
   (first | subst eo18 | (injection eo18 with f1_ f2_ f3_; have f4_ := f1_.symm; have f5_ := f3_.symm; clear f1_ f2_ f3_; subst f4_; subst f5_))
   refine hK.out _ _ ⟨bc BK1092, bc BK1092, bc BK1092, bc BK1092, bc BK1092, bc BK1092, bc BK1092⟩ (fun hHeld => ?_)
   clear hK K
   refine nm 32 ?_
   refine og 29 33 [30, 11] Tryz.func146 #[.slice A0_1 l0_1.length c0_1, .slice Ao18 t1097.length co18] (fun K hK => ?_)
   with_reducible refine (spec_l8Texts.calls k _ _ l0_1 _ _ t1097 true _ ?side1 ?side2 ?side3 ?side4 A13.out).mono ?_
   (case side1 => exact cb HR0_1)
   (case side2 => exact HC0_1.out)
   (case side3 => exact rc HO1099)
   (case side4 => exact (Kd.R_reads' HO1099.out).2.1)
   rintro e w' ⟨rfl, ⟨nd, rfl⟩⟩
   refine ⟨_, rfl, ?_⟩
   refine hK.out _ _ ⟨bc BK1092, bc BK1092, bc BK1092, bc BK1092, bc BK1092, bc BK1092, bc BK1092⟩ (fun hHeld => ?_)
   clear hK K
   refine nm 33 ?_
   refine pu 30 34 [31, 10] ?_
   refine pu 31 35 [32, 9] ?_
   refine pu 32 36 [33, 8] ?_
   refine pu 33 37 [34, 7] ?_
   refine pu 36 40 [34, 2, 1, 4] ?_
   refine tk 34 38 [35, 1, 1, 4] ?_
   refine pu 35 39 [37, 4] ?_
   refine tk 37 41 [38, 3] ?_
   refine pu 38 42 [39, 2] ?_
   refine pu 39 43 [40, 1] ?_
   refine pu 40 44 [41] ?_
   refine done_ (done_of HT_.out (by kernel_rfl)) ?_
   try go_wp2
   go_meet
   case rel => exact ⟨_, (((l0_2.length : Int) != (l0_1.length : Int))), rs, H', ⟨by first | omega | exact Nat.le_refl _⟩, ⟨by (with_reducible repeat (first | refine blk_drewN ?_ _ | refine blk_drew ?_ | refine blk_alloc ?_ _)); exact BK1092.out⟩, ⟨u109HB⟩⟩
  replace c14 := Bool.eq_false_iff.mpr c14
  subst c14
  rw [if_neg (show ¬ (false = true) by decide)] at H
  have H' := am H
  clear H
  try go_wp2
  replace BK1092 := am (blk_drew BK1092.out)
  replace HB := am (below_drew1 HB.out)
  refine start_ (n := 41) (S := fun w' => w'.cell? ⟨gb1092, 0, none⟩ = some (.string a0_0) ∧ w'.cell? ⟨gb1092, 1, none⟩ = some (.slice A0_1 l0_1.length c0_1) ∧ w'.cell? ⟨gb1092, 2, none⟩ = some (.slice A0_2 l0_2.length c0_2) ∧ w'.cell? ⟨gb1092, 3, none⟩ = some (.int .i64 a0_3) ∧ w'.cell? ⟨gb1092, 4, none⟩ = some (.slice A0_4 l0_4.length c0_4) ∧ w'.cell? ⟨gb1092, 5, none⟩ = some (.string a0_5) ∧ w'.cell? ⟨gb1092, 6, none⟩ = some (.int .i64 a0_6)) (ds := []) ⟨br true [0, 41]⟩ (by kernel_rfl) rfl (by kernel_rfl) ⟨bc BK1092, bc BK1092, bc BK1092, bc BK1092, bc BK1092, bc BK1092, bc BK1092⟩ (fun hHeld => ?_); refine with_tabW spec_ObjOk.tab1 spec_ObjOk.bits1 (fun HT_ HW_ => ?_)
  generalize w3.drew = w19 at BK1092 HB hHeld ⊢
  refine pu 0 4 [1, 40] ?_
  refine tk 1 5 [2, 39] ?_
  refine og 2 6 [3, 38] Tryz.func96 #[.agg #[.int .i64 a0_3, .slice A0_4 l0_4.length c0_4, .string a0_5]] (fun K hK => ?_)
  with_reducible refine (spec_RespOk.calls k a0_3 _ _ l0_4 a0_5 true _ ?side1 ?side2 A4.out).mono ?_
  (case side1 => exact cb HR0_4)
  (case side2 => exact HC0_4.out)
  rintro e w20 ⟨rfl, hb⟩
  refine ⟨_, rfl, ?_⟩
  replace BK1092 := kb BK1092 hb
  replace HB := am (below_step bl hb)
  clear hb
  refine hK.out _ _ ⟨bc BK1092, bc BK1092, bc BK1092, bc BK1092, bc BK1092, bc BK1092, bc BK1092⟩ (fun hHeld => ?_)
  clear hK K
  refine nm 6 ?_
  refine pu 3 7 [4, 37] ?_
  refine pu 4 8 [5, 36] ?_
  refine pu 5 9 [6, 35] ?_
  refine tk 6 10 [7, 34] ?_
  refine og 7 11 [8, 33] Tryz.func126 #[.string a0_0] (fun K hK => ?_)
  with_reducible refine (spec_l3Path.calls k a0_0 true _ A6.out).mono ?_
  rintro e w' ⟨rfl, ⟨nd, rfl⟩⟩
  refine ⟨_, rfl, ?_⟩
  refine hK.out _ _ ⟨bc BK1092, bc BK1092, bc BK1092, bc BK1092, bc BK1092, bc BK1092, bc BK1092⟩ (fun hHeld => ?_)
  clear hK K
  refine nm 11 ?_
  refine pu 8 12 [9, 32] ?_
  refine pu 9 13 [10, 31] ?_
  refine pu 10 14 [11, 30] ?_
  refine pu 11 15 [12, 29] ?_
  refine tk 12 16 [13, 28] ?_
  refine og 13 17 [14, 27] Tryz.func125 #[.int .i64 a0_6, .int .i64 0, .int .i64 1000000] (fun K hK => ?_)
  with_reducible refine (spec_l1In.calls a0_6 0 1000000 true _ A8.out).mono ?_
  rintro e w' ⟨rfl, ⟨nd, rfl⟩⟩
  refine ⟨_, rfl, ?_⟩
  refine hK.out _ _ ⟨bc BK1092, bc BK1092, bc BK1092, bc BK1092, bc BK1092, bc BK1092, bc BK1092⟩ (fun hHeld => ?_)
  clear hK K
  refine nm 17 ?_
  refine pu 14 18 [15, 26] ?_
  refine pu 15 19 [16, 25] ?_
  refine pu 16 20 [17, 24] ?_
  refine pu 17 21 [18, 23] ?_
  refine tk 18 22 [19, 22] ?_
  refine og 19 23 [20, 21] Tryz.func145 #[.slice A0_1 l0_1.length c0_1] (fun K hK => ?_)
  with_reducible refine (spec_l9Names.calls k _ _ l0_1 true _ ?side1 ?side2 A10.out).mono ?_
  (case side1 => repeat (first | exact (Kd.C_below HR0_1.out bl) | (with_reducible refine Kd.C_alloc ?_ _) | (with_reducible refine Kd.C_drewN ?_ _) | (with_reducible refine Kd.C_drew ?_)))
  (case side2 => exact HC0_1.out)
  rintro e w' ⟨rfl, ⟨nd, rfl⟩⟩
  refine ⟨_, rfl, ?_⟩
  refine hK.out _ _ ⟨bc BK1092, bc BK1092, bc BK1092, bc BK1092, bc BK1092, bc BK1092, bc BK1092⟩ (fun hHeld => ?_)
  clear hK K
  refine nm 23 ?_
  refine pu 20 24 [21, 20] ?_
  refine pu 21 25 [22, 19] ?_
  refine pu 22 26 [23, 18] ?_
  refine pu 23 27 [24, 17] ?_
  refine pu 25 29 [24, 1, 1, 15] ?_
  refine pu 26 30 [24, 1, 2, 14] ?_
  refine tk 24 28 [27, 14] ?_
  refine tk 27 31 [28, 13] ?_
  refine og 28 32 [29, 12] Tryz.func103 #[.slice A0_4 l0_4.length c0_4] (fun K hK => ?_)
  with_reducible refine (spec_VaryOf.calls k _ _ l0_4 t1097 _ ?side1 ?side2 A12.out).mono ?_
  (case side1 => repeat (first | exact (Kd.C_below HR0_4.out bl) | (with_reducible refine Kd.C_alloc ?_ _) | (with_reducible refine Kd.C_drewN ?_ _) | (with_reducible refine Kd.C_drew ?_)))
  (case side2 => exact HC0_4.out)
  rintro e w21 ⟨v1098, rfl, ho0, hb⟩
  refine ⟨_, rfl, ?_⟩
  have HO1099 := am (Kd.R_lower ho0 (below_size bl))
  replace BK1092 := kb BK1092 hb
  replace HB := am (below_step bl hb)
  clear hb ho0
  obtain ⟨Ao22, co22, eo22⟩ := Kd.R_slice HO1099.out
  (first | subst eo22 | (injection eo22 with f1_ f2_ f3_; have f4_ := f1_.symm; have f5_ := f3_.symm; clear f1_ f2_ f3_; subst f4_; subst f5_))
  refine hK.out _ _ ⟨bc BK1092, bc BK1092, bc BK1092, bc BK1092, bc BK1092, bc BK1092, bc BK1092⟩ (fun hHeld => ?_)
  clear hK K
  refine nm 32 ?_
  refine og 29 33 [30, 11] Tryz.func146 #[.slice A0_1 l0_1.length c0_1, .slice Ao22 t1097.length co22] (fun K hK => ?_)
  with_reducible refine (spec_l8Texts.calls k _ _ l0_1 _ _ t1097 false _ ?side1 ?side2 ?side3 ?side4 A13.out).mono ?_
  (case side1 => exact cb HR0_1)
  (case side2 => exact HC0_1.out)
  (case side3 => exact rc HO1099)
  (case side4 => exact (Kd.R_reads' HO1099.out).2.1)
  rintro e w' ⟨rfl, ⟨nd, rfl⟩⟩
  refine ⟨_, rfl, ?_⟩
  refine hK.out _ _ ⟨bc BK1092, bc BK1092, bc BK1092, bc BK1092, bc BK1092, bc BK1092, bc BK1092⟩ (fun hHeld => ?_)
  clear hK K
  refine nm 33 ?_
  refine pu 30 34 [31, 10] ?_
  refine pu 31 35 [32, 9] ?_
  refine pu 32 36 [33, 8] ?_
  refine pd 33 37 [34, 7] ?_
  refine pd 34 38 [35, 6] ?_
  refine pd 35 39 [36, 5] ?_
  refine pd 36 40 [37, 4] ?_
  refine pd 37 41 [38, 3] ?_
  refine pd 38 42 [39, 2] ?_
  refine pd 39 43 [40, 1] ?_
  refine pu 40 44 [41] ?_
  refine done_ (done_of HT_.out (by kernel_rfl)) ?_
  try go_wp2
  go_meet
  case rel => exact ⟨_, (true), rs, H', ⟨by first | omega | exact Nat.le_refl _⟩, ⟨by (with_reducible repeat (first | refine blk_drewN ?_ _ | refine blk_drew ?_ | refine blk_alloc ?_ _)); exact BK1092.out⟩, ⟨u109HB⟩⟩
 case rest =>
  clear HC2
  try clear c1
  try clear p2
  try clear c5
  try clear c7
  try clear c9
  try clear c12
  obtain ⟨kq, x44_1, rfl, HA, HJ1, BK1092, HB⟩ := hcut
  cases kq with
  | zero => exact absurd HA.out (by simp [spec_ObjOk.j0])
  | succ kj1 =>
   have H := HA.out
   clear HA
   simp only [spec_ObjOk.j0] at H
   by_cases c31 : x44_1 = true
   ·subst c31
    rw [if_pos rfl] at H
    obtain rfl := Option.some.inj H
    go_wp2
    go_ret
    exact ⟨rf, bl⟩
   replace c31 := Bool.eq_false_iff.mpr c31
   subst c31
   rw [if_neg (show ¬ (false = true) by decide)] at H
   have H' := am H
   clear H
   go_wp2
   (try simp only [Act.put, List.setIfInBounds_toArray, List.set_cons_zero, List.set_cons_succ])
   go_loopg [3] kj1 (fun kq v3 w' => ∃ (x3_2 : Int), v3 = .int .i64 x3_2 ∧ Aside0 (spec_ObjOk.l0 kq x3_2 a0_0 l0_1 l0_2 a0_3 l0_4 a0_5 a0_6 = some r) ∧ Aside0 (kq ≤ kj1) ∧ Aside0 (w'.heap[gb1092]? = some (.cells #[.string a0_0, (.slice A0_1 l0_1.length c0_1), (.slice A0_2 l0_2.length c0_2), .int .i64 a0_3, (.slice A0_4 l0_4.length c0_4), .string a0_5, .int .i64 a0_6] 71 (0, 0))) ∧ Aside0 (Below w.heap.size w w'))
   case atStart => exact ⟨(0), rs, H', ⟨Nat.le_refl _⟩, ⟨by (with_reducible repeat (first | refine blk_drewN ?_ _ | refine blk_drew ?_ | refine blk_alloc ?_ _)); exact BK1092.out⟩, ⟨u109HB⟩⟩
   case round =>
    clear H'
    try clear c1
    try clear p2
    try clear c3
    try clear c5
    try clear c7
    try clear c9
    try clear c12
    try clear c31
    try clear p2
    obtain ⟨x3_2, rfl, HA, HK2, BK1092, HB⟩ := hrel
    cases gk with
    | zero => exact absurd HA.out (by simp [spec_ObjOk.l0])
    | succ k2 =>
     have H := HA.out
     clear HA
     simp only [spec_ObjOk.l0] at H
     by_cases c32 : x3_2 < (l0_2.length : Int)
     rotate_left
     ·rw [if_neg c32] at H
      have c32b0 := decide_eq_false c32
      clear c32
      obtain rfl := Option.some.inj H
      obtain ⟨z38_0, y38_0, z38_1, y38_1, z38_2, y38_2, z38_3, y38_3, z38_4, y38_4, z38_5, y38_5, z38_6, y38_6⟩ := cl7 BK1092
      go_wp2
      go_ret
      exact ⟨rf, bl⟩
     rw [if_pos c32] at H
     have c32b0 := decide_eq_true c32
     clear c32
     revert H
     refine ifn fun c33 H => ?_
     have c33b0 := decide_eq_true c33
     clear c33
     revert H
     refine ok1 fun t1102 A34 H => ?_
     by_cases c35 : t1102 = true
     rotate_left
     ·replace c35 := Bool.eq_false_iff.mpr c35
      subst c35
      rw [if_neg (show ¬ (false = true) by decide)] at H
      obtain rfl := Option.some.inj H
      obtain ⟨z37_0, y37_0, z37_1, y37_1, z37_2, y37_2, z37_3, y37_3, z37_4, y37_4, z37_5, y37_5, z37_6, y37_6⟩ := cl7 BK1092
      have p1101 : 0 ≤ (x3_2 : Int) := od
      have q1101 : x3_2 < (l0_2.length : Int) := od
      obtain ⟨ad1101, e1101, hx1101_0⟩ := Kd.at_string HR0_2.out x3_2 p1101 q1101
      cases e1101
      replace hx1101_0 := hcw hx1101_0
      replace p1101 := eq_true p1101
      replace q1101 := eq_true q1101
      go_wp2_with (first | (refine gl 57 Tryz.func147 #[.string (rdOf ByteArray.empty l0_2 x3_2)] ?_; (with_reducible refine (spec_ValueOk.calls k2 (rdOf ByteArray.empty l0_2 x3_2) false _ A34.out).mono ?_); rintro e w' ⟨rfl, ⟨nd, rfl⟩⟩; refine ⟨_, rfl, ?_⟩))
      go_ret
      exact ⟨rf, bl⟩
     subst c35
     rw [if_pos rfl] at H
     have H' := am H
     clear H
     obtain ⟨z36_0, y36_0, z36_1, y36_1, z36_2, y36_2, z36_3, y36_3, z36_4, y36_4, z36_5, y36_5, z36_6, y36_6⟩ := cl7 BK1092
     have p1101 : 0 ≤ (x3_2 : Int) := od
     have q1101 : x3_2 < (l0_2.length : Int) := od
     obtain ⟨ad1101, e1101, hx1101_0⟩ := Kd.at_string HR0_2.out x3_2 p1101 q1101
     cases e1101
     replace hx1101_0 := hcw hx1101_0
     replace p1101 := eq_true p1101
     replace q1101 := eq_true q1101
     go_wp2_with (first | (refine gl 57 Tryz.func147 #[.string (rdOf ByteArray.empty l0_2 x3_2)] ?_; (with_reducible refine (spec_ValueOk.calls k2 (rdOf ByteArray.empty l0_2 x3_2) true _ A34.out).mono ?_); rintro e w' ⟨rfl, ⟨nd, rfl⟩⟩; refine ⟨_, rfl, ?_⟩))
     go_roundg k2
     case measure => have := HJ1.out; have := HK2.out; omega
     case rel => exact ⟨(wrap64 (x3_2 + 1)), rs, H', ⟨by have := HJ1.out; have := HK2.out; omega⟩, ⟨by (with_reducible repeat (first | refine blk_drewN ?_ _ | refine blk_drew ?_ | refine blk_alloc ?_ _)); exact BK1092.out⟩, ⟨u109HB⟩⟩

end Go.Proofs.YtnmanegjgidgcaaGreatDoor.All
