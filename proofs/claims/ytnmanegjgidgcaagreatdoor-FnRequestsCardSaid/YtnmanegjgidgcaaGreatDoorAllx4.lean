-- Written by a program of this session (wip/tools/hprint.py) out of the translation. Lean checks it.
import Derived.Test.YtnmanegjgidgcaaGreatDoorAllx0
namespace Go.Proofs.YtnmanegjgidgcaaGreatDoor.All
open Go.RowKit Go.Proofs.YtnmanegjgidgcaaGreatDoorW.PrintWords Go.Proofs.YtnmanegjgidgcaaGreatDoorW.PrintLast Go.Proofs.YtnmanegjgidgcaaGreatDoorW.PrintMore
attribute [local go_sem] max2_int min2_int max_two min_two max_three min_three max_four min_four   -- for this text's walks alone
set_option linter.unusedVariables false
set_option linter.unusedSimpArgs false

/-! ### spec_l3Fields: function 88 -/
theorem u88HB {p : Prop} (h : p := by repeat (first | (with_reducible first | exact HB.out | apply below_alloc | apply pw_below_drewN | apply below_drew1 | refine below_set ?_ GE379.out) | exact HB.out)) : p := h
mutual
def spec_l3Fields.l0 : Nat → List ByteArray → List (S100) → Int → Option ((List (S100)))
 | 0, _, _, _ => none
 | k + 1, x0, x3, x4 => if x4 < (x0.length : Int) then (spec_l3Fields.l1 k x0 x3 x4 0) else (some x3)
def spec_l3Fields.l1 : Nat → List ByteArray → List (S100) → Int → Int → Option ((List (S100)))
 | 0, _, _, _, _ => none
 | k + 1, x0, x3, x4, x5 => if 0 ≤ x4 then (if x4 < (x0.length : Int) then (if (wrap64 (x5 + 1)) < ((rdOf ByteArray.empty x0 x4).size : Int) then (if 0 ≤ x5 then (if x5 < ((rdOf ByteArray.empty x0 x4).size : Int) then (if (bt (rdOf ByteArray.empty x0 x4) x5) = 58 then (if 0 ≤ (wrap64 (x5 + 1)) then (spec_l3Fields.j2 k x0 x3 x4 x5 ((bt (rdOf ByteArray.empty x0 x4) (wrap64 (x5 + 1))) == 32)) else (none)) else (spec_l3Fields.j2 k x0 x3 x4 x5 false)) else (none)) else (none)) else (spec_l3Fields.l0 k x0 x3 (wrap64 (x4 + 1)))) else (none)) else (none)
def spec_l3Fields.j2 : Nat → List ByteArray → List (S100) → Int → Int → Bool → Option ((List (S100)))
 | 0, _, _, _, _, _ => none
 | k + 1, x0, x3, x4, x5, x40 => if x40 = true then (if 0 ≤ x4 then (if x4 < (x0.length : Int) then (if 0 ≤ x5 then (if x5 ≤ ((rdOf ByteArray.empty x0 x4).size : Int) then (if 0 ≤ (wrap64 (x5 + 2)) then (if (wrap64 (x5 + 2)) ≤ ((rdOf ByteArray.empty x0 x4).size : Int) then (if ((rdOf ByteArray.empty x0 x4).extract 0 (x5 : Int).toNat).toList = ([99, 111, 110, 116, 101, 110, 116, 45, 108, 101, 110, 103, 116, 104] : List UInt8) then (spec_l3Fields.l0 k x0 x3 (wrap64 (x4 + 1))) else (if x3.length < 4398046511104 then (spec_l3Fields.l0 k x0 (x3 ++ [(⟨(rdOf ByteArray.empty x0 x4).extract 0 (x5 : Int).toNat, (rdOf ByteArray.empty x0 x4).extract ((wrap64 (x5 + 2)) : Int).toNat (rdOf ByteArray.empty x0 x4).size⟩ : S100)]) (wrap64 (x4 + 1))) else (none))) else (none)) else (none)) else (none)) else (none)) else (none)) else (none)) else (spec_l3Fields.l1 k x0 x3 x4 (wrap64 (x5 + 1)))
end
def spec_l3Fields.f (k : Nat) (l0 : List ByteArray) : Option ((List (S100))) := spec_l3Fields.l0 k l0 (([] : List (S100))) 0
theorem spec_l3Fields.mono_l : ∀ k, (∀ y0 y1 y2, LeO (spec_l3Fields.l0 k y0 y1 y2) (spec_l3Fields.l0 (k + 1) y0 y1 y2)) ∧ (∀ y0 y1 y2 y3, LeO (spec_l3Fields.l1 k y0 y1 y2 y3) (spec_l3Fields.l1 (k + 1) y0 y1 y2 y3)) ∧ (∀ y0 y1 y2 y3 y4, LeO (spec_l3Fields.j2 k y0 y1 y2 y3 y4) (spec_l3Fields.j2 (k + 1) y0 y1 y2 y3 y4))
 | 0 => ⟨fun _ _ _ r h => by simp [spec_l3Fields.l0] at h, fun _ _ _ _ r h => by simp [spec_l3Fields.l1] at h, fun _ _ _ _ _ r h => by simp [spec_l3Fields.j2] at h⟩
 | k + 1 => by
  obtain ⟨ih0, ih1, ih2⟩ := spec_l3Fields.mono_l k
  refine ⟨?_, ?_, ?_⟩
  ·intro y0 y1 y2
   unfold spec_l3Fields.l0
   exact mo
  ·intro y0 y1 y2 y3
   unfold spec_l3Fields.l1
   exact mo
  ·intro y0 y1 y2 y3 y4
   unfold spec_l3Fields.j2
   exact mo
theorem spec_l3Fields.mono : ∀ a0 k, LeO (spec_l3Fields.f k a0) (spec_l3Fields.f (k + 1) a0) := by
 intro a0 k
 obtain ⟨ih0, ih1, ih2⟩ := spec_l3Fields.mono_l k
 unfold spec_l3Fields.f
 exact mo
def spec_l3Fields.T9 : Bool × List (List Nat × List Nat) := (true, [([], []), ([], []), ([0, 1], [0, 1]), ([2], [2]), ([], []), ([3, 4], [3, 4]), ([], []), ([], []), ([6, 7], [6, 7]), ([8], [8]), ([], []), ([10], [10]), ([9, 11], [9, 11]), ([5, 12], [5, 12]), ([], []), ([14, 13, 0, 1, 2, 3, 4, 5, 6, 7, 8, 9, 10, 11, 12, 13, 14], [13, 14])])
def spec_l3Fields.B9 : List Nat := [0, 0, 3, 7, 0, 31, 0, 0, 192, 448, 0, 1024, 4032, 8191, 0, 32767]
theorem spec_l3Fields.tab9 : rtab .any (opsOf Tryz.f88 9) = spec_l3Fields.T9 := by kernel_rfl
theorem spec_l3Fields.bits9 : waitsOk spec_l3Fields.T9.2 spec_l3Fields.B9 = true := by kernel_rfl
set_option maxHeartbeats 8000000 in
set_option maxRecDepth 100000 in
theorem spec_l3Fields.calls (k : Nat) (A0 : Option Addr) (c0 : Nat) (l0 : List ByteArray) (r : List (S100)) (w : World) (hr0 : Kd.C Kd.string w A0 l0.length l0) (hc0 : l0.length ≤ c0) (h : spec_l3Fields.f k l0 = some r) :
  Calls Tryz.prog 88 #[.slice A0 l0.length c0] w fun e w' => ∃ v0_ : Value, e = .returned (v0_) ∧ Kd.R k100 100 w' w.heap.size (fun _ => True) v0_ r ∧ Below w.heap.size w w' := by
 have hu100 := Tryz.underlying100
 have HR0 := am hr0
 have HC0 := am hc0
 clear hr0 hc0
 have HB := am (Below.refl w.heap.size w)
 unfold spec_l3Fields.f at h
 have H := h
 clear h
 obtain ⟨y371, hy371⟩ : ∃ y_ : List (S100), y_ = (([] : List (S100))) := ⟨_, rfl⟩
 replace H : (spec_l3Fields.l0 k l0 y371 0) = some r := by first | (rw [hy371]; with_reducible exact H) | (have H2_ := (Option.bind_some _ _).symm.trans H; rw [hy371]; with_reducible exact H2_) | (have H2_ := (Option.bind_some _ _).symm.trans H; with_reducible exact H2_) | with_reducible exact H | (rw [hy371]; exact H) | exact H
 have Ny371 := am hy371
 clear hy371
 have H' := am H
 clear H
 go_enter Tryz.func88, Tryz.ntmps88
 go_wp2_with (first | ((with_reducible refine gate_dst (N := 7) rfl ?_); refine Kd.R_lit k100 _ 100 ?hg (N := 7) ?hd (xs := ([] : List (S100))) (inner := []) (ok := fun _ => True) (okp := fun _ => True) ?hr ?hp (fun _ hk => hk) trivial (Below.refl _ _) (Nat.le_refl _) (by simp) ?_; (case hd => rfl); (case hg => rfl); (case hr => first | (go_simp; done) | (go_simp; rfl)); (case hp => exact (Reps.none _ _)); intro v372 w2 ho3 hb hg_ hnew_; clear hg_ hnew_; (first | rw [← Ny371.out] at ho3 | (simp only [Int.reduceToNat] at ho3; rw [← Ny371.out] at ho3)); have HO373 := am (Kd.R_lower ho3 (below_size bl)); replace HB := am (below_step bl hb); clear hb ho3))
 (try simp only [Act.put, List.setIfInBounds_toArray, List.set_cons_zero, List.set_cons_succ])
 go_loopg [3, 4] k (fun kq v3 v4 w' => ∃ (x3_1 : List (S100)) (x4_1 : Int), v4 = .int .i64 x4_1 ∧ Aside0 (spec_l3Fields.l0 kq l0 x3_1 x4_1 = some r) ∧ Aside0 (kq ≤ k) ∧ Aside0 (Kd.R k100 100 w' w.heap.size (fun _ => True) v3 x3_1) ∧ Aside0 (Below w.heap.size w w'))
 case atStart => exact ⟨(y371), (0), rs, H', ⟨Nat.le_refl _⟩, ⟨by (with_reducible repeat (first | apply Kd.R_alloc | apply Kd.R_drewN | apply Kd.R_drew)); exact HO373.out⟩, ⟨u88HB⟩⟩
 case round =>
  clear H'
  try clear p2
  obtain ⟨x3_1, x4_1, rfl, HA, HK1, HO_3, HB⟩ := hrel
  cases gk with
  | zero => exact absurd HA.out (by simp [spec_l3Fields.l0])
  | succ k1 =>
   have H := HA.out
   clear HA
   simp only [spec_l3Fields.l0] at H
   by_cases c4 : x4_1 < (l0.length : Int)
   rotate_left
   ·rw [if_neg c4] at H
    have c4b0 := decide_eq_false c4
    clear c4
    obtain rfl := Option.some.inj H
    go_wp2
    go_ret
    exact ⟨_, rf, by (with_reducible repeat (first | apply Kd.R_alloc | apply Kd.R_drewN | apply Kd.R_drew)); exact HO_3.out, bl⟩
   rw [if_pos c4] at H
   have c4b0 := decide_eq_true c4
   clear c4
   have H' := am H
   clear H
   go_wp2
   (try simp only [Act.put, List.setIfInBounds_toArray, List.set_cons_zero, List.set_cons_succ])
   go_loopg [3, 5] k1 (fun kq v3 v5 w' => ∃ (x3_2 : List (S100)) (x5_2 : Int), v5 = .int .i64 x5_2 ∧ Aside0 (spec_l3Fields.l1 kq l0 x3_2 x4_1 x5_2 = some r) ∧ Aside0 (kq ≤ k1) ∧ Aside0 (Kd.R k100 100 w' w.heap.size (fun _ => True) v3 x3_2) ∧ Aside0 (Below w.heap.size w w'))
   case atStart => exact ⟨(x3_1), (0), rs, H', ⟨Nat.le_refl _⟩, ⟨by (with_reducible repeat (first | apply Kd.R_alloc | apply Kd.R_drewN | apply Kd.R_drew)); exact HO_3.out⟩, ⟨u88HB⟩⟩
   case round =>
    clear H'
    try clear p2
    try clear c4
    try clear c4b0
    try clear p2
    obtain ⟨x3_2, x5_2, rfl, HA, HK2, HO_3, HB⟩ := hrel
    cases gk with
    | zero => exact absurd HA.out (by simp [spec_l3Fields.l1])
    | succ k2 =>
     have H := HA.out
     clear HA
     simp only [spec_l3Fields.l1] at H
     revert H
     refine ifn fun c5 H => ?_
     have c5b0 := decide_eq_true c5
     clear c5
     revert H
     refine ifn fun c6 H => ?_
     have c6b0 := decide_eq_true c6
     clear c6
     by_cases c7 : (wrap64 (x5_2 + 1)) < ((rdOf ByteArray.empty l0 x4_1).size : Int)
     rotate_left
     ·rw [if_neg c7] at H
      have c7b0 := decide_eq_false c7
      clear c7
      have H' := am H
      clear H
      have p374 : 0 ≤ (x4_1 : Int) := od
      have q374 : x4_1 < (l0.length : Int) := od
      obtain ⟨ad374, e374, hx374_0⟩ := Kd.at_string HR0.out x4_1 p374 q374
      cases e374
      replace hx374_0 := hcw hx374_0
      replace p374 := eq_true p374
      replace q374 := eq_true q374
      go_wp2
      go_roundg k2
      case measure => have := HK1.out; have := HK2.out; omega
      case rel => exact ⟨(x3_2), (wrap64 (x4_1 + 1)), rs, H', ⟨by have := HK1.out; have := HK2.out; omega⟩, ⟨by (with_reducible repeat (first | apply Kd.R_alloc | apply Kd.R_drewN | apply Kd.R_drew)); exact HO_3.out⟩, ⟨u88HB⟩⟩
     rw [if_pos c7] at H
     have c7b0 := decide_eq_true c7
     clear c7
     have HC8 := am H
     clear H
     have p374 : 0 ≤ (x4_1 : Int) := od
     have q374 : x4_1 < (l0.length : Int) := od
     obtain ⟨ad374, e374, hx374_0⟩ := Kd.at_string HR0.out x4_1 p374 q374
     cases e374
     replace hx374_0 := hcw hx374_0
     replace p374 := eq_true p374
     replace q374 := eq_true q374
     go_upto_region 8 with (fail)
     go_cut [40] (fun v40 wc => ∃ (kq : Nat) (x40_7 : Bool), v40 = .bool x40_7 ∧ Aside0 (spec_l3Fields.j2 kq l0 x3_2 x4_1 x5_2 x40_7 = some r) ∧ Aside0 (kq ≤ k2) ∧ Aside0 (Kd.R k100 100 wc w.heap.size (fun _ => True) u3 x3_2) ∧ Aside0 (Below w.heap.size w wc))
     case first =>
      have H := HC8.out
      clear HC8
      revert H
      refine ifn fun c9 H => ?_
      have c9b0 := decide_eq_true c9
      clear c9
      (first | rw [c9b0] | (simp only [i64_w, i32_w]; rw [c9b0]) | skip)
      revert H
      refine ifn fun c10 H => ?_
      have c10b0 := decide_eq_true c10
      clear c10
      by_cases c12 : (bt (rdOf ByteArray.empty l0 x4_1) x5_2) = 58
      rotate_left
      ·rw [if_neg c12] at H
       have c12b0 : ((bt (rdOf ByteArray.empty l0 x4_1) x5_2) == 58) = false := beq_eq_false_iff_ne.mpr c12
       have c12b1 : ((bt (rdOf ByteArray.empty l0 x4_1) x5_2) != 58) = true := bne_iff_ne.mpr c12
       have H' := am H
       clear H
       have p375 : 0 ≤ (x4_1 : Int) := od
       have q375 : x4_1 < (l0.length : Int) := od
       obtain ⟨ad375, e375, hx375_0⟩ := Kd.at_string HR0.out x4_1 p375 q375
       obtain rfl : ad374 = ad375 := (by injection e375)
       replace hx375_0 := hcw hx375_0
       replace p375 := eq_true p375
       replace q375 := eq_true q375
       have p11 : 0 ≤ (x5_2 : Int) := od
       have q11 : x5_2 < ((rdOf ByteArray.empty l0 x4_1).size : Int) := od
       have hx11 := bt_at (rdOf ByteArray.empty l0 x4_1) x5_2
       replace p11 := eq_true p11
       replace q11 := eq_true q11
       go_wp2
       go_meet
       case rel => exact ⟨_, (false), rs, H', ⟨by have := HK1.out; have := HK2.out; first | omega | exact Nat.le_refl _⟩, ⟨by (with_reducible repeat (first | apply Kd.R_alloc | apply Kd.R_drewN | apply Kd.R_drew)); exact HO_3.out⟩, ⟨u88HB⟩⟩
      rw [if_pos c12] at H
      have c12b0 : ((bt (rdOf ByteArray.empty l0 x4_1) x5_2) == 58) = true := beq_iff_eq.mpr c12
      have c12b1 : ((bt (rdOf ByteArray.empty l0 x4_1) x5_2) != 58) = false := bne_eq_false_iff_eq.mpr c12
      clear c12
      obtain ⟨ji13, hji13⟩ : ∃ j_ : Int, (wrap64 (x5_2 + 1)) = j_ := ⟨_, rfl⟩
      replace H : (if 0 ≤ (ji13) then (spec_l3Fields.j2 k2 l0 x3_2 x4_1 x5_2 ((bt (rdOf ByteArray.empty l0 x4_1) (ji13)) == 32)) else (none)) = some r := by first | (rw [hji13] at H; exact H) | (simp only [hji13] at H ⊢; exact H)
      (try rw [hji13] at c7b0)
      have hji13w : (IntKind.i64.wrap (x5_2 + 1)) = ji13 := (i64_w _).trans hji13
      revert H
      refine ifn fun c14 H => ?_
      have c14b0 := decide_eq_true c14
      clear c14
      have H' := am H
      clear H
      have p375 : 0 ≤ (x4_1 : Int) := od
      have q375 : x4_1 < (l0.length : Int) := od
      obtain ⟨ad375, e375, hx375_0⟩ := Kd.at_string HR0.out x4_1 p375 q375
      obtain rfl : ad374 = ad375 := (by injection e375)
      replace hx375_0 := hcw hx375_0
      replace p375 := eq_true p375
      replace q375 := eq_true q375
      have p11 : 0 ≤ (x5_2 : Int) := od
      have q11 : x5_2 < ((rdOf ByteArray.empty l0 x4_1).size : Int) := od
      have hx11 := bt_at (rdOf ByteArray.empty l0 x4_1) x5_2
      replace p11 := eq_true p11
      replace q11 := eq_true q11
      have p376 : 0 ≤ (x4_1 : Int) := od
      have q376 : x4_1 < (l0.length : Int) := od
      obtain ⟨ad376, e376, hx376_0⟩ := Kd.at_string HR0.out x4_1 p376 q376
      obtain rfl : ad374 = ad376 := (by injection e376)
      replace hx376_0 := hcw hx376_0
      replace p376 := eq_true p376
      replace q376 := eq_true q376
      have p15 : 0 ≤ ((ji13) : Int) := od
      have q15 : (ji13) < ((rdOf ByteArray.empty l0 x4_1).size : Int) := od
      have hx15 := bt_at (rdOf ByteArray.empty l0 x4_1) (ji13)
      replace p15 := eq_true p15
      replace q15 := eq_true q15
      go_wp2
      go_meet
      case rel => exact ⟨_, (((bt (rdOf ByteArray.empty l0 x4_1) (ji13)) == 32)), (by first | rfl | (simp; done) | (simp only [← hji13] <;> (first | rfl | simp)) | (simp [*]; done)), H', ⟨by have := HK1.out; have := HK2.out; first | omega | exact Nat.le_refl _⟩, ⟨by (with_reducible repeat (first | apply Kd.R_alloc | apply Kd.R_drewN | apply Kd.R_drew)); exact HO_3.out⟩, ⟨u88HB⟩⟩
     case rest =>
      clear HC8
      try clear c1
      try clear p1
      try clear q1
      try clear hx1
      try clear p2
      try clear p3
      try clear q3
      try clear hx3
      try clear c4
      try clear c4b0
      try clear c5
      try clear c5b0
      try clear c6
      try clear c6b0
      try clear p6
      try clear c7
      try clear c7b0
      try clear c8
      try clear c9
      try clear c9b0
      try clear c10
      try clear c10b0
      try clear p11
      try clear q11
      try clear hx11
      try clear c12
      try clear c12b0
      try clear c12b1
      try clear c14
      try clear c14b0
      try clear p15
      try clear q15
      try clear hx15
      try clear hx374_0
      try clear hx375_0
      try clear hx376_0
      try clear p11
      try clear p15
      try clear p2
      try clear p374
      try clear p375
      try clear p376
      try clear q11
      try clear q15
      try clear q374
      try clear q375
      try clear q376
      obtain ⟨kq, x40_7, rfl, HA, HJ7, HO_3, HB⟩ := hcut
      cases kq with
      | zero => exact absurd HA.out (by simp [spec_l3Fields.j2])
      | succ kj7 =>
       have H := HA.out
       clear HA
       simp only [spec_l3Fields.j2] at H
       by_cases c16 : x40_7 = true
       rotate_left
       ·replace c16 := Bool.eq_false_iff.mpr c16
        subst c16
        rw [if_neg (show ¬ (false = true) by decide)] at H
        have H' := am H
        clear H
        go_wp2
        go_roundg kj7
        case measure => have := HK1.out; have := HK2.out; have := HJ7.out; omega
        case rel => exact ⟨(x3_2), (wrap64 (x5_2 + 1)), rs, H', ⟨by have := HK1.out; have := HK2.out; have := HJ7.out; omega⟩, ⟨by (with_reducible repeat (first | apply Kd.R_alloc | apply Kd.R_drewN | apply Kd.R_drew)); exact HO_3.out⟩, ⟨u88HB⟩⟩
       subst c16
       rw [if_pos rfl] at H
       revert H
       refine ifn fun c17 H => ?_
       have c17b0 := decide_eq_true c17
       clear c17
       revert H
       refine ifn fun c18 H => ?_
       have c18b0 := decide_eq_true c18
       clear c18
       revert H
       refine ifn fun c19 H => ?_
       have c19b0 := eq_true c19
       have c19b1 := decide_eq_true c19
       clear c19
       revert H
       refine ifn fun c20 H => ?_
       have c20b0 := eq_true c20
       have c20b1 := decide_eq_true c20
       clear c20
       obtain ⟨ji21, hji21⟩ : ∃ j_ : Int, (wrap64 (x5_2 + 2)) = j_ := ⟨_, rfl⟩
       replace H : (if 0 ≤ (ji21) then (if (ji21) ≤ ((rdOf ByteArray.empty l0 x4_1).size : Int) then (if ((rdOf ByteArray.empty l0 x4_1).extract 0 (x5_2 : Int).toNat).toList = ([99, 111, 110, 116, 101, 110, 116, 45, 108, 101, 110, 103, 116, 104] : List UInt8) then (spec_l3Fields.l0 kj7 l0 x3_2 (wrap64 (x4_1 + 1))) else (if x3_2.length < 4398046511104 then (spec_l3Fields.l0 kj7 l0 (x3_2 ++ [(⟨(rdOf ByteArray.empty l0 x4_1).extract 0 (x5_2 : Int).toNat, (rdOf ByteArray.empty l0 x4_1).extract ((ji21) : Int).toNat (rdOf ByteArray.empty l0 x4_1).size⟩ : S100)]) (wrap64 (x4_1 + 1))) else (none))) else (none)) else (none)) = some r := by first | (rw [hji21] at H; exact H) | (simp only [hji21] at H ⊢; exact H)
       have hji21w : (IntKind.i64.wrap (x5_2 + 2)) = ji21 := (i64_w _).trans hji21
       revert H
       refine ifn fun c22 H => ?_
       have c22b0 := eq_true c22
       have c22b1 := decide_eq_true c22
       clear c22
       revert H
       refine ifn fun c23 H => ?_
       have c23b0 := eq_true c23
       have c23b1 := decide_eq_true c23
       clear c23
       by_cases c24 : ((rdOf ByteArray.empty l0 x4_1).extract 0 (x5_2 : Int).toNat).toList = ([99, 111, 110, 116, 101, 110, 116, 45, 108, 101, 110, 103, 116, 104] : List UInt8)
       ·rw [if_pos c24] at H
        have c24b0 : (((rdOf ByteArray.empty l0 x4_1).extract 0 (x5_2 : Int).toNat).toList == ([99, 111, 110, 116, 101, 110, 116, 45, 108, 101, 110, 103, 116, 104] : List UInt8)) = true := beq_iff_eq.mpr c24
        have c24b1 : (((rdOf ByteArray.empty l0 x4_1).extract 0 (x5_2 : Int).toNat).toList != ([99, 111, 110, 116, 101, 110, 116, 45, 108, 101, 110, 103, 116, 104] : List UInt8)) = false := bne_eq_false_iff_eq.mpr c24
        clear c24
        have H' := am H
        clear H
        try go_wp2
        replace HO_3 := am (Kd.R_drew HO_3.out)
        replace HB := am (below_drew1 HB.out)
        have p377 : 0 ≤ (x4_1 : Int) := od
        have q377 : x4_1 < (l0.length : Int) := od
        obtain ⟨ad377, e377, hx377_0⟩ := Kd.at_string HR0.out x4_1 p377 q377
        have hw377_0 := hx377_0
        obtain rfl : ad374 = ad377 := (by injection e377)
        replace hx377_0 := hcw hx377_0
        replace p377 := eq_true p377
        replace q377 := eq_true q377
        have p378 : 0 ≤ (x4_1 : Int) := od
        have q378 : x4_1 < (l0.length : Int) := od
        obtain ⟨ad378, e378, hx378_0⟩ := Kd.at_string HR0.out x4_1 p378 q378
        have hw378_0 := hx378_0
        obtain rfl : ad374 = ad378 := (by injection e378)
        replace hx378_0 := hcw hx378_0
        replace p378 := eq_true p378
        replace q378 := eq_true q378
        refine start_ (n := 16) (S := fun w' => w'.cell? (ad374.add (x4_1).toNat) = some (.string (rdOf ByteArray.empty l0 x4_1)) ∧ w'.cell? (ad374.add (x4_1).toNat) = some (.string (rdOf ByteArray.empty l0 x4_1))) (ds := []) ⟨br true [0, 16]⟩ (by kernel_rfl) rfl (by kernel_rfl) ⟨(hcw hw377_0), (hcw hw378_0)⟩ (fun hHeld => ?_); refine with_tabW spec_l3Fields.tab9 spec_l3Fields.bits9 (fun HT_ HW_ => ?_)
        generalize wc.drew = w25 at HO_3 HB hx377_0 hx378_0 hHeld ⊢
        refine pu 0 41 [1, 15] ?_
        refine pu 1 42 [2, 14] ?_
        refine pu 2 43 [3, 13] ?_
        refine pu 4 45 [3, 1, 1, 11] ?_
        refine pu 6 47 [3, 1, 1, 1, 1, 9] ?_
        refine pu 7 48 [3, 1, 1, 1, 2, 8] ?_
        refine pu 8 49 [3, 1, 1, 1, 3, 7] ?_
        refine pu 10 51 [3, 1, 1, 1, 3, 1, 1, 5] ?_
        refine pu 11 52 [3, 1, 1, 1, 3, 1, 2, 4] ?_
        refine tk 3 44 [5, 1, 3, 1, 2, 4] ?_
        refine pu 5 46 [9, 1, 2, 4] ?_
        refine tk 9 50 [12, 4] ?_
        refine pu 12 53 [13, 3] ?_
        refine pu 13 54 [14, 2] ?_
        refine one_ (i := 14) (N := some 6) #[true, true, true, true, true, true, true, true, true, true, true, true, true, true, true, false] rfl rfl (one_of HT_.out (by kernel_rfl)) (by decide) (fun K hK => ?_)
        refine box_step ?hg (N := 6) ?hd (cs := #[.string (⟨#[]⟩ : ByteArray), .string (⟨#[]⟩ : ByteArray)]) (t := 100) ?hr ?_; (case hd => rfl); (case hg => rfl); (case hr => first | (go_simp; done) | (go_simp; rfl))
        intro gb379 hg w26 hbox hb
        replace HO_3 := am (Kd.R_below (Kd.R_elderB (ro HO_3) gb379 (Nat.le_of_eq hg.symm)) hb)
        have BK379 := am (hbox)
        have GW379 := am (sz hg : w.heap.size ≤ gb379)
        have GE379 := am (sz hg : w.heap.size ≤ gb379)
        replace HB := am (below_step bl hb)
        clear hb hbox hg
        refine hK.out _ _ ⟨(hcw hw377_0), (hcw hw378_0)⟩ (fun hHeld => ?_)
        clear hK K
        refine nm 6 ?_
        refine one_ (i := 15) (N := none) #[true, true, true, true, true, true, true, true, true, true, true, true, true, true, true, true] rfl rfl (one_of HT_.out (by kernel_rfl)) (by decide) (fun K hK => ?_)
        have hs27 : w26.cell? ⟨gb379, 0, none⟩ = some (.string (⟨#[]⟩ : ByteArray)) := bc BK379
        have hfs27 := blk_frozen BK379.out 0
        have hs28 : w26.cell? ⟨gb379, 1, none⟩ = some (.string (⟨#[]⟩ : ByteArray)) := bc BK379
        have hfs28 := blk_frozen BK379.out 1
        refine skip_ (w1 := ?_) (by rfl) rfl ?_ ?_
        rotate_left
        ·go_simp
         rfl
        refine hK.out _ _ ⟨((cell_far (p := ⟨gb379, _, none⟩) (by first | exact Nat.ne_of_lt (Nat.lt_of_lt_of_le (by have := World.block_lt_of_cell? _ _ hw377_0; first | rwa [add_block] at this | exact this) GW379.out) | (rw [add_block]; exact Nat.ne_of_lt (Nat.lt_of_lt_of_le (by have := World.block_lt_of_cell? _ _ hw377_0; first | rwa [add_block] at this | exact this) GW379.out)) | (show (Addr.add _ _).block ≠ _; rw [add_block]; exact Nat.ne_of_lt (Nat.lt_of_lt_of_le (by have := World.block_lt_of_cell? _ _ hw377_0; first | rwa [add_block] at this | exact this) GW379.out)) | (dsimp only; exact Nat.ne_of_lt (Nat.lt_of_lt_of_le (by have := World.block_lt_of_cell? _ _ hw377_0; first | rwa [add_block] at this | exact this) GW379.out))) _).trans (((cell_far (p := ⟨gb379, _, none⟩) (by first | exact Nat.ne_of_lt (Nat.lt_of_lt_of_le (by have := World.block_lt_of_cell? _ _ hw377_0; first | rwa [add_block] at this | exact this) GW379.out) | (rw [add_block]; exact Nat.ne_of_lt (Nat.lt_of_lt_of_le (by have := World.block_lt_of_cell? _ _ hw377_0; first | rwa [add_block] at this | exact this) GW379.out)) | (show (Addr.add _ _).block ≠ _; rw [add_block]; exact Nat.ne_of_lt (Nat.lt_of_lt_of_le (by have := World.block_lt_of_cell? _ _ hw377_0; first | rwa [add_block] at this | exact this) GW379.out)) | (dsimp only; exact Nat.ne_of_lt (Nat.lt_of_lt_of_le (by have := World.block_lt_of_cell? _ _ hw377_0; first | rwa [add_block] at this | exact this) GW379.out))) _).trans (hHeld.1)))), ((cell_far (p := ⟨gb379, _, none⟩) (by first | exact Nat.ne_of_lt (Nat.lt_of_lt_of_le (by have := World.block_lt_of_cell? _ _ hw378_0; first | rwa [add_block] at this | exact this) GW379.out) | (rw [add_block]; exact Nat.ne_of_lt (Nat.lt_of_lt_of_le (by have := World.block_lt_of_cell? _ _ hw378_0; first | rwa [add_block] at this | exact this) GW379.out)) | (show (Addr.add _ _).block ≠ _; rw [add_block]; exact Nat.ne_of_lt (Nat.lt_of_lt_of_le (by have := World.block_lt_of_cell? _ _ hw378_0; first | rwa [add_block] at this | exact this) GW379.out)) | (dsimp only; exact Nat.ne_of_lt (Nat.lt_of_lt_of_le (by have := World.block_lt_of_cell? _ _ hw378_0; first | rwa [add_block] at this | exact this) GW379.out))) _).trans (((cell_far (p := ⟨gb379, _, none⟩) (by first | exact Nat.ne_of_lt (Nat.lt_of_lt_of_le (by have := World.block_lt_of_cell? _ _ hw378_0; first | rwa [add_block] at this | exact this) GW379.out) | (rw [add_block]; exact Nat.ne_of_lt (Nat.lt_of_lt_of_le (by have := World.block_lt_of_cell? _ _ hw378_0; first | rwa [add_block] at this | exact this) GW379.out)) | (show (Addr.add _ _).block ≠ _; rw [add_block]; exact Nat.ne_of_lt (Nat.lt_of_lt_of_le (by have := World.block_lt_of_cell? _ _ hw378_0; first | rwa [add_block] at this | exact this) GW379.out)) | (dsimp only; exact Nat.ne_of_lt (Nat.lt_of_lt_of_le (by have := World.block_lt_of_cell? _ _ hw378_0; first | rwa [add_block] at this | exact this) GW379.out))) _).trans (hHeld.2))))⟩ (fun hHeld => ?_)
        clear hK K
        refine done_ (done_of HT_.out (by kernel_rfl)) ?_
        obtain ⟨z29_0, y29_0, z29_1, y29_1⟩ := cl2 BK379
        try go_wp2
        go_roundg kj7
        case measure => have := HK1.out; have := HK2.out; have := HJ7.out; omega
        case rel => exact ⟨(x3_2), (wrap64 (x4_1 + 1)), rs, H', ⟨by have := HK1.out; have := HK2.out; have := HJ7.out; omega⟩, ⟨by (with_reducible repeat (first | apply Kd.R_alloc | apply Kd.R_drewN | apply Kd.R_drew)); exact Kd.R_mono (Kd.R_far (p := ⟨gb379, 1, none⟩) (Kd.R_far (p := ⟨gb379, 0, none⟩) (Kd.R_mono HO_3.out (fun k_ hk => (⟨hk, hk.2⟩ : _ ∧ k_ ≠ gb379))) (fun _ hk => hk.2) (.string ((rdOf ByteArray.empty l0 x4_1).extract 0 (x5_2 : Int).toNat))) (fun _ hk => hk.2) (.string ((rdOf ByteArray.empty l0 x4_1).extract ((ji21) : Int).toNat (rdOf ByteArray.empty l0 x4_1).size))) (fun _ hk => trivial)⟩, ⟨u88HB⟩⟩
       rw [if_neg c24] at H
       have c24b0 : (((rdOf ByteArray.empty l0 x4_1).extract 0 (x5_2 : Int).toNat).toList == ([99, 111, 110, 116, 101, 110, 116, 45, 108, 101, 110, 103, 116, 104] : List UInt8)) = false := beq_eq_false_iff_ne.mpr c24
       have c24b1 : (((rdOf ByteArray.empty l0 x4_1).extract 0 (x5_2 : Int).toNat).toList != ([99, 111, 110, 116, 101, 110, 116, 45, 108, 101, 110, 103, 116, 104] : List UInt8)) = true := bne_iff_ne.mpr c24
       revert H
       refine ifn fun c30 H => ?_
       have LMc30 := am c30
       clear c30
       obtain ⟨y380, hy380⟩ : ∃ y_ : List (S100), y_ = (x3_2 ++ [(⟨(rdOf ByteArray.empty l0 x4_1).extract 0 (x5_2 : Int).toNat, (rdOf ByteArray.empty l0 x4_1).extract ((ji21) : Int).toNat (rdOf ByteArray.empty l0 x4_1).size⟩ : S100)]) := ⟨_, rfl⟩
       replace H : (spec_l3Fields.l0 kj7 l0 y380 (wrap64 (x4_1 + 1))) = some r := by first | (rw [hy380]; with_reducible exact H) | (have H2_ := (Option.bind_some _ _).symm.trans H; rw [hy380]; with_reducible exact H2_) | (have H2_ := (Option.bind_some _ _).symm.trans H; with_reducible exact H2_) | with_reducible exact H | (rw [hy380]; exact H) | exact H
       have Ny380 := am hy380
       clear hy380
       have H' := am H
       clear H
       try go_wp2
       replace HO_3 := am (Kd.R_drew HO_3.out)
       replace HB := am (below_drew1 HB.out)
       have p377 : 0 ≤ (x4_1 : Int) := od
       have q377 : x4_1 < (l0.length : Int) := od
       obtain ⟨ad377, e377, hx377_0⟩ := Kd.at_string HR0.out x4_1 p377 q377
       have hw377_0 := hx377_0
       obtain rfl : ad374 = ad377 := (by injection e377)
       replace hx377_0 := hcw hx377_0
       replace p377 := eq_true p377
       replace q377 := eq_true q377
       have p378 : 0 ≤ (x4_1 : Int) := od
       have q378 : x4_1 < (l0.length : Int) := od
       obtain ⟨ad378, e378, hx378_0⟩ := Kd.at_string HR0.out x4_1 p378 q378
       have hw378_0 := hx378_0
       obtain rfl : ad374 = ad378 := (by injection e378)
       replace hx378_0 := hcw hx378_0
       replace p378 := eq_true p378
       replace q378 := eq_true q378
       refine start_ (n := 16) (S := fun w' => w'.cell? (ad374.add (x4_1).toNat) = some (.string (rdOf ByteArray.empty l0 x4_1)) ∧ w'.cell? (ad374.add (x4_1).toNat) = some (.string (rdOf ByteArray.empty l0 x4_1))) (ds := []) ⟨br true [0, 16]⟩ (by kernel_rfl) rfl (by kernel_rfl) ⟨(hcw hw377_0), (hcw hw378_0)⟩ (fun hHeld => ?_); refine with_tabW spec_l3Fields.tab9 spec_l3Fields.bits9 (fun HT_ HW_ => ?_)
       generalize wc.drew = w31 at HO_3 HB hx377_0 hx378_0 hHeld ⊢
       refine pu 0 41 [1, 15] ?_
       refine pu 1 42 [2, 14] ?_
       refine pu 2 43 [3, 13] ?_
       refine pu 4 45 [3, 1, 1, 11] ?_
       refine pu 6 47 [3, 1, 1, 1, 1, 9] ?_
       refine pu 7 48 [3, 1, 1, 1, 2, 8] ?_
       refine pu 8 49 [3, 1, 1, 1, 3, 7] ?_
       refine pu 10 51 [3, 1, 1, 1, 3, 1, 1, 5] ?_
       refine pu 11 52 [3, 1, 1, 1, 3, 1, 2, 4] ?_
       refine tk 3 44 [5, 1, 3, 1, 2, 4] ?_
       refine pu 5 46 [9, 1, 2, 4] ?_
       refine tk 9 50 [12, 4] ?_
       refine pu 12 53 [13, 3] ?_
       refine pu 13 54 [14, 2] ?_
       refine one_ (i := 14) (N := some 6) #[true, true, true, true, true, true, true, true, true, true, true, true, true, true, true, false] rfl rfl (one_of HT_.out (by kernel_rfl)) (by decide) (fun K hK => ?_)
       refine box_step ?hg (N := 6) ?hd (cs := #[.string (⟨#[]⟩ : ByteArray), .string (⟨#[]⟩ : ByteArray)]) (t := 100) ?hr ?_; (case hd => rfl); (case hg => rfl); (case hr => first | (go_simp; done) | (go_simp; rfl))
       intro gb379 hg w32 hbox hb
       replace HO_3 := am (Kd.R_below (Kd.R_elderB (ro HO_3) gb379 (Nat.le_of_eq hg.symm)) hb)
       have BK379 := am (hbox)
       have GW379 := am (sz hg : w.heap.size ≤ gb379)
       have GE379 := am (sz hg : w.heap.size ≤ gb379)
       replace HB := am (below_step bl hb)
       clear hb hbox hg
       refine hK.out _ _ ⟨(hcw hw377_0), (hcw hw378_0)⟩ (fun hHeld => ?_)
       clear hK K
       refine nm 6 ?_
       refine one_ (i := 15) (N := none) #[true, true, true, true, true, true, true, true, true, true, true, true, true, true, true, true] rfl rfl (one_of HT_.out (by kernel_rfl)) (by decide) (fun K hK => ?_)
       have hs33 : w32.cell? ⟨gb379, 0, none⟩ = some (.string (⟨#[]⟩ : ByteArray)) := bc BK379
       have hfs33 := blk_frozen BK379.out 0
       have hs34 : w32.cell? ⟨gb379, 1, none⟩ = some (.string (⟨#[]⟩ : ByteArray)) := bc BK379
       have hfs34 := blk_frozen BK379.out 1
       refine skip_ (w1 := ?_) (by rfl) rfl ?_ ?_
       rotate_left
       ·go_simp
        rfl
       refine hK.out _ _ ⟨((cell_far (p := ⟨gb379, _, none⟩) (by first | exact Nat.ne_of_lt (Nat.lt_of_lt_of_le (by have := World.block_lt_of_cell? _ _ hw377_0; first | rwa [add_block] at this | exact this) GW379.out) | (rw [add_block]; exact Nat.ne_of_lt (Nat.lt_of_lt_of_le (by have := World.block_lt_of_cell? _ _ hw377_0; first | rwa [add_block] at this | exact this) GW379.out)) | (show (Addr.add _ _).block ≠ _; rw [add_block]; exact Nat.ne_of_lt (Nat.lt_of_lt_of_le (by have := World.block_lt_of_cell? _ _ hw377_0; first | rwa [add_block] at this | exact this) GW379.out)) | (dsimp only; exact Nat.ne_of_lt (Nat.lt_of_lt_of_le (by have := World.block_lt_of_cell? _ _ hw377_0; first | rwa [add_block] at this | exact this) GW379.out))) _).trans (((cell_far (p := ⟨gb379, _, none⟩) (by first | exact Nat.ne_of_lt (Nat.lt_of_lt_of_le (by have := World.block_lt_of_cell? _ _ hw377_0; first | rwa [add_block] at this | exact this) GW379.out) | (rw [add_block]; exact Nat.ne_of_lt (Nat.lt_of_lt_of_le (by have := World.block_lt_of_cell? _ _ hw377_0; first | rwa [add_block] at this | exact this) GW379.out)) | (show (Addr.add _ _).block ≠ _; rw [add_block]; exact Nat.ne_of_lt (Nat.lt_of_lt_of_le (by have := World.block_lt_of_cell? _ _ hw377_0; first | rwa [add_block] at this | exact this) GW379.out)) | (dsimp only; exact Nat.ne_of_lt (Nat.lt_of_lt_of_le (by have := World.block_lt_of_cell? _ _ hw377_0; first | rwa [add_block] at this | exact this) GW379.out))) _).trans (hHeld.1)))), ((cell_far (p := ⟨gb379, _, none⟩) (by first | exact Nat.ne_of_lt (Nat.lt_of_lt_of_le (by have := World.block_lt_of_cell? _ _ hw378_0; first | rwa [add_block] at this | exact this) GW379.out) | (rw [add_block]; exact Nat.ne_of_lt (Nat.lt_of_lt_of_le (by have := World.block_lt_of_cell? _ _ hw378_0; first | rwa [add_block] at this | exact this) GW379.out)) | (show (Addr.add _ _).block ≠ _; rw [add_block]; exact Nat.ne_of_lt (Nat.lt_of_lt_of_le (by have := World.block_lt_of_cell? _ _ hw378_0; first | rwa [add_block] at this | exact this) GW379.out)) | (dsimp only; exact Nat.ne_of_lt (Nat.lt_of_lt_of_le (by have := World.block_lt_of_cell? _ _ hw378_0; first | rwa [add_block] at this | exact this) GW379.out))) _).trans (((cell_far (p := ⟨gb379, _, none⟩) (by first | exact Nat.ne_of_lt (Nat.lt_of_lt_of_le (by have := World.block_lt_of_cell? _ _ hw378_0; first | rwa [add_block] at this | exact this) GW379.out) | (rw [add_block]; exact Nat.ne_of_lt (Nat.lt_of_lt_of_le (by have := World.block_lt_of_cell? _ _ hw378_0; first | rwa [add_block] at this | exact this) GW379.out)) | (show (Addr.add _ _).block ≠ _; rw [add_block]; exact Nat.ne_of_lt (Nat.lt_of_lt_of_le (by have := World.block_lt_of_cell? _ _ hw378_0; first | rwa [add_block] at this | exact this) GW379.out)) | (dsimp only; exact Nat.ne_of_lt (Nat.lt_of_lt_of_le (by have := World.block_lt_of_cell? _ _ hw378_0; first | rwa [add_block] at this | exact this) GW379.out))) _).trans (hHeld.2))))⟩ (fun hHeld => ?_)
       clear hK K
       refine done_ (done_of HT_.out (by kernel_rfl)) ?_
       obtain ⟨z35_0, y35_0, z35_1, y35_1⟩ := cl2 BK379
       try go_wp2_with (first | ((with_reducible refine gate_builtin (b := .append) (xs := #[.tmp 58, .tmp 60]) rfl ?_); at_builtin; refine Kd.R_append k100 (w0 := w) w.heap.size rfl (.tmp 58) (.tmp 60) 38 100 (.agg #[(.string ⟨#[]⟩), (.string ⟨#[]⟩)]) 32 rfl Tryz.underlying38 info100 rfl (by decide) (by omega) u3 x3_2 (⟨(rdOf ByteArray.empty l0 x4_1).extract 0 (x5_2 : Int).toNat, (rdOf ByteArray.empty l0 x4_1).extract ((ji21) : Int).toNat (rdOf ByteArray.empty l0 x4_1).size⟩ : S100) [.string ((rdOf ByteArray.empty l0 x4_1).extract 0 (x5_2 : Int).toNat), .string ((rdOf ByteArray.empty l0 x4_1).extract ((ji21) : Int).toNat (rdOf ByteArray.empty l0 x4_1).size)] (fun k_ => k_ ≠ gb379) (fun _ => False) rfl (by first | (go_simp; done) | (go_simp; rfl)) ?aP (fun _ hk => hk.elim) ?aF ?aO ?aB ?aS ?aL ?_; (case aP => exact k100_mkM _ _ _ (⟨(rdOf ByteArray.empty l0 x4_1).extract 0 (x5_2 : Int).toNat, (rdOf ByteArray.empty l0 x4_1).extract ((ji21) : Int).toNat (rdOf ByteArray.empty l0 x4_1).size⟩ : S100)); (case aB => exact bl); (case aF => exact (fun k_ hk => Kd.freshB (g := gb379) (o := .cells #[.string ((rdOf ByteArray.empty l0 x4_1).extract 0 (x5_2 : Int).toNat), .string ((rdOf ByteArray.empty l0 x4_1).extract ((ji21) : Int).toNat (rdOf ByteArray.empty l0 x4_1).size)] 100 (0, 0)) (pt0 BK379) k_ hk)); (case aO => exact (by (with_reducible repeat (first | apply Kd.R_alloc | apply Kd.R_drewN | apply Kd.R_drew)); exact Kd.R_mono (Kd.R_far (p := ⟨gb379, 1, none⟩) (Kd.R_far (p := ⟨gb379, 0, none⟩) (Kd.R_mono HO_3.out (fun k_ hk => (⟨hk, hk.2⟩ : _ ∧ k_ ≠ gb379))) (fun _ hk => hk.2) (.string ((rdOf ByteArray.empty l0 x4_1).extract 0 (x5_2 : Int).toNat))) (fun _ hk => hk.2) (.string ((rdOf ByteArray.empty l0 x4_1).extract ((ji21) : Int).toNat (rdOf ByteArray.empty l0 x4_1).size))) (fun _ hk => hk.1.2))); (case aS => exact (below_size bl)); (case aL => have := LMc30.out; omega); intro v381 w36 ho hb hg hat; rw [← Ny380.out] at ho; have n0_ := am (blk_grown (g := gb379) (o := .cells #[.string ((rdOf ByteArray.empty l0 x4_1).extract 0 (x5_2 : Int).toNat), .string ((rdOf ByteArray.empty l0 x4_1).extract ((ji21) : Int).toNat (rdOf ByteArray.empty l0 x4_1).size)] 100 (0, 0)) (pt0 BK379) hg (Kd.R_away HO_3.out (fun _ hk => hk.2))); have n1_ := am (hb); have n2_ := am (ho); clear BK379; clear HB; clear HO_3; have BK379 := n0_; have HB := n1_; have HO382 := n2_; clear n0_ n1_ n2_; clear ho hb hg hat))
       go_roundg kj7
       case measure => have := HK1.out; have := HK2.out; have := HJ7.out; omega
       case rel => exact ⟨(y380), (wrap64 (x4_1 + 1)), rs, H', ⟨by have := HK1.out; have := HK2.out; have := HJ7.out; omega⟩, ⟨by (with_reducible repeat (first | apply Kd.R_alloc | apply Kd.R_drewN | apply Kd.R_drew)); exact Kd.R_mono HO382.out (fun _ hk => trivial)⟩, ⟨u88HB⟩⟩

end Go.Proofs.YtnmanegjgidgcaaGreatDoor.All
