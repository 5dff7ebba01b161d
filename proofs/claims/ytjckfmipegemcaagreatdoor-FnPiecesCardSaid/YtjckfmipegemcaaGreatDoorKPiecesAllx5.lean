-- Written by a program of this session (wip/tools/hprint.py) out of the translation. Lean checks it.
import Derived.Test.YtjckfmipegemcaaGreatDoorKPiecesAllx0
import Derived.Test.YtjckfmipegemcaaGreatDoorKPiecesAllx1
import Derived.Test.YtjckfmipegemcaaGreatDoorKPiecesAllx4
namespace Go.Proofs.YtjckfmipegemcaaGreatDoor.All
open Go.RowKit Go.Proofs.YtjckfmipegemcaaGreatDoorW.PrintWords Go.Proofs.YtjckfmipegemcaaGreatDoorW.PrintLast Go.Proofs.YtjckfmipegemcaaGreatDoorW.PrintMore
attribute [local go_sem] max2_int min2_int max_two min_two max_three min_three max_four min_four  -- for this text's walks alone
set_option linter.unusedVariables false
set_option linter.unusedSimpArgs false

/-! ### spec_l3Fields: function 66 -/
theorem u66HB {p : Prop} (h : p := by repeat (first | (with_reducible first | exact HB.out | apply below_alloc | apply pw_below_drewN | apply below_drew1 | refine below_set ?_ GE390.out) | exact HB.out)) : p := h
mutual
def spec_l3Fields.l0 : Nat → List ByteArray → List (S81) → Int → Option ((List (S81)))
 | 0, _, _, _ => none
 | k + 1, x0, x3, x4 => if x4 < (x0.length : Int) then (spec_l3Fields.l1 k x0 x3 x4 0) else (some x3)
def spec_l3Fields.l1 : Nat → List ByteArray → List (S81) → Int → Int → Option ((List (S81)))
 | 0, _, _, _, _ => none
 | k + 1, x0, x3, x4, x5 => if 0 ≤ x4 then (if x4 < (x0.length : Int) then (if (wrap64 (x5 + 1)) < ((rdOf ByteArray.empty x0 x4).size : Int) then (if 0 ≤ x5 then (if x5 < ((rdOf ByteArray.empty x0 x4).size : Int) then (if (bt (rdOf ByteArray.empty x0 x4) x5) = 58 then (if 0 ≤ (wrap64 (x5 + 1)) then (spec_l3Fields.j2 k x0 x3 x4 x5 ((bt (rdOf ByteArray.empty x0 x4) (wrap64 (x5 + 1))) == 32)) else (none)) else (spec_l3Fields.j2 k x0 x3 x4 x5 false)) else (none)) else (none)) else (spec_l3Fields.l0 k x0 x3 (wrap64 (x4 + 1)))) else (none)) else (none)
def spec_l3Fields.j2 : Nat → List ByteArray → List (S81) → Int → Int → Bool → Option ((List (S81)))
 | 0, _, _, _, _, _ => none
 | k + 1, x0, x3, x4, x5, x40 => if x40 = true then (if 0 ≤ x4 then (if x4 < (x0.length : Int) then (if 0 ≤ x5 then (if x5 ≤ ((rdOf ByteArray.empty x0 x4).size : Int) then (if 0 ≤ (wrap64 (x5 + 2)) then (if (wrap64 (x5 + 2)) ≤ ((rdOf ByteArray.empty x0 x4).size : Int) then (if ((rdOf ByteArray.empty x0 x4).extract 0 (x5 : Int).toNat).toList = ([99, 111, 110, 116, 101, 110, 116, 45, 108, 101, 110, 103, 116, 104] : List UInt8) then (spec_l3Fields.l0 k x0 x3 (wrap64 (x4 + 1))) else (if x3.length < 4398046511104 then (spec_l3Fields.l0 k x0 (x3 ++ [(⟨(rdOf ByteArray.empty x0 x4).extract 0 (x5 : Int).toNat, (rdOf ByteArray.empty x0 x4).extract ((wrap64 (x5 + 2)) : Int).toNat (rdOf ByteArray.empty x0 x4).size⟩ : S81)]) (wrap64 (x4 + 1))) else (none))) else (none)) else (none)) else (none)) else (none)) else (none)) else (none)) else (spec_l3Fields.l1 k x0 x3 x4 (wrap64 (x5 + 1)))
end
def spec_l3Fields.f (k : Nat) (l0 : List ByteArray) : Option ((List (S81))) := spec_l3Fields.l0 k l0 (([] : List (S81))) 0
def spec_l3Fields.T9 : Bool × List (List Nat × List Nat) := (true, [([], []), ([], []), ([0, 1], [0, 1]), ([2], [2]), ([], []), ([3, 4], [3, 4]), ([], []), ([], []), ([6, 7], [6, 7]), ([8], [8]), ([], []), ([10], [10]), ([9, 11], [9, 11]), ([5, 12], [5, 12]), ([], []), ([14, 13, 0, 1, 2, 3, 4, 5, 6, 7, 8, 9, 10, 11, 12, 13, 14], [13, 14])])
def spec_l3Fields.B9 : List Nat := [0, 0, 3, 7, 0, 31, 0, 0, 192, 448, 0, 1024, 4032, 8191, 0, 32767]
theorem spec_l3Fields.tab9 : rtab .any (opsOf Tryz.f66 9) = spec_l3Fields.T9 := by kernel_rfl
theorem spec_l3Fields.bits9 : waitsOk spec_l3Fields.T9.2 spec_l3Fields.B9 = true := by kernel_rfl
set_option maxHeartbeats 8000000 in
set_option maxRecDepth 100000 in
theorem spec_l3Fields.calls (k : Nat) (A0 : Option Addr) (c0 : Nat) (l0 : List ByteArray) (r : List (S81)) (w : World) (hr0 : Kd.C Kd.string w A0 l0.length l0) (hc0 : l0.length ≤ c0) (h : spec_l3Fields.f k l0 = some r) :
  Calls Tryz.prog 66 #[.slice A0 l0.length c0] w fun e w' => ∃ v0_ : Value, e = .returned (v0_) ∧ Kd.R k81 81 w' w.heap.size (fun _ => True) v0_ r ∧ Below w.heap.size w w' := by
 have hu81 := Tryz.underlying81
 have HR0 := am hr0
 have HC0 := am hc0
 clear hr0 hc0
 have HB := am (Below.refl w.heap.size w)
 unfold spec_l3Fields.f at h
 have H := h
 clear h
 obtain ⟨y382, hy382⟩ : ∃ y_ : List (S81), y_ = (([] : List (S81))) := ⟨_, rfl⟩
 replace H : (spec_l3Fields.l0 k l0 y382 0) = some r := by first | (rw [hy382]; with_reducible exact H) | (have H2_ := (Option.bind_some _ _).symm.trans H; rw [hy382]; with_reducible exact H2_) | (have H2_ := (Option.bind_some _ _).symm.trans H; with_reducible exact H2_) | with_reducible exact H | (rw [hy382]; exact H) | exact H
 have Ny382 := am hy382
 clear hy382
 have H' := am H
 clear H
 go_enter Tryz.func66, Tryz.ntmps66
 go_wp2_with (first | ((with_reducible refine gate_dst (N := 7) rfl ?_); refine Kd.R_lit k81 _ 81 ?hg (N := 7) ?hd (xs := ([] : List (S81))) (inner := []) (ok := fun _ => True) (okp := fun _ => True) ?hr ?hp (fun _ hk => hk) trivial (Below.refl _ _) (Nat.le_refl _) (by simp) ?_; (case hd => rfl); (case hg => rfl); (case hr => first | (go_simp; done) | (go_simp; rfl)); (case hp => exact (Reps.none _ _)); intro v383 w2 ho3 hb hg_ hnew_; clear hg_ hnew_; (first | rw [← Ny382.out] at ho3 | (simp only [Int.reduceToNat] at ho3; rw [← Ny382.out] at ho3)); have HO384 := am (Kd.R_lower ho3 (below_size bl)); replace HB := am (below_step bl hb); clear hb ho3))
 (try simp only [Act.put, List.setIfInBounds_toArray, List.set_cons_zero, List.set_cons_succ])
 go_loopg [3, 4] k (fun kq v3 v4 w' => ∃ (x3_1 : List (S81)) (x4_1 : Int), v4 = .int .i64 x4_1 ∧ Aside0 (spec_l3Fields.l0 kq l0 x3_1 x4_1 = some r) ∧ Aside0 (kq ≤ k) ∧ Aside0 (Kd.R k81 81 w' w.heap.size (fun _ => True) v3 x3_1) ∧ Aside0 (Below w.heap.size w w'))
 case atStart => exact ⟨(y382), (0), rs, H', ⟨Nat.le_refl _⟩, ⟨by (with_reducible repeat (first | apply Kd.R_alloc | apply Kd.R_drewN | apply Kd.R_drew)); exact HO384.out⟩, ⟨u66HB⟩⟩
 case round =>
  clear H'
  try clear p2
  obtain ⟨x3_1, x4_1, rfl, HA, HK1, HO_3, HB⟩ := hrel
  cases gk with
  | zero => exact absurd HA.out (by simp [spec_l3Fields.l0])
  | succ k1 =>
   have H := HA.out
   clear HA
   simp only [spec_l3Fields.l0] at H
   by_cases c4 : x4_1 < (l0.length : Int)
   rotate_left
   ·rw [if_neg c4] at H
    have c4b0 := decide_eq_false c4
    clear c4
    obtain rfl := Option.some.inj H
    go_wp2
    go_ret
    exact ⟨_, rf, by (with_reducible repeat (first | apply Kd.R_alloc | apply Kd.R_drewN | apply Kd.R_drew)); exact HO_3.out, bl⟩
   rw [if_pos c4] at H
   have c4b0 := decide_eq_true c4
   clear c4
   have H' := am H
   clear H
   go_wp2
   (try simp only [Act.put, List.setIfInBounds_toArray, List.set_cons_zero, List.set_cons_succ])
   go_loopg [3, 5] k1 (fun kq v3 v5 w' => ∃ (x3_2 : List (S81)) (x5_2 : Int), v5 = .int .i64 x5_2 ∧ Aside0 (spec_l3Fields.l1 kq l0 x3_2 x4_1 x5_2 = some r) ∧ Aside0 (kq ≤ k1) ∧ Aside0 (Kd.R k81 81 w' w.heap.size (fun _ => True) v3 x3_2) ∧ Aside0 (Below w.heap.size w w'))
   case atStart => exact ⟨(x3_1), (0), rs, H', ⟨Nat.le_refl _⟩, ⟨by (with_reducible repeat (first | apply Kd.R_alloc | apply Kd.R_drewN | apply Kd.R_drew)); exact HO_3.out⟩, ⟨u66HB⟩⟩
   case round =>
    clear H'
    try clear p2
    try clear c4
    try clear c4b0
    try clear p2
    obtain ⟨x3_2, x5_2, rfl, HA, HK2, HO_3, HB⟩ := hrel
    cases gk with
    | zero => exact absurd HA.out (by simp [spec_l3Fields.l1])
    | succ k2 =>
     have H := HA.out
     clear HA
     simp only [spec_l3Fields.l1] at H
     revert H
     refine ifn fun c5 H => ?_
     have c5b0 := decide_eq_true c5
     clear c5
     revert H
     refine ifn fun c6 H => ?_
     have c6b0 := decide_eq_true c6
     clear c6
     by_cases c7 : (wrap64 (x5_2 + 1)) < ((rdOf ByteArray.empty l0 x4_1).size : Int)
     rotate_left
     ·rw [if_neg c7] at H
      have c7b0 := decide_eq_false c7
      clear c7
      have H' := am H
      clear H
      have p385 : 0 ≤ (x4_1 : Int) := od
      have q385 : x4_1 < (l0.length : Int) := od
      obtain ⟨ad385, e385, hx385_0⟩ := Kd.at_string HR0.out x4_1 p385 q385
      cases e385
      replace hx385_0 := hcw hx385_0
      replace p385 := eq_true p385
      replace q385 := eq_true q385
      go_wp2
      go_roundg k2
      case measure => have := HK1.out; have := HK2.out; omega
      case rel => exact ⟨(x3_2), (wrap64 (x4_1 + 1)), rs, H', ⟨by have := HK1.out; have := HK2.out; omega⟩, ⟨by (with_reducible repeat (first | apply Kd.R_alloc | apply Kd.R_drewN | apply Kd.R_drew)); exact HO_3.out⟩, ⟨u66HB⟩⟩
     rw [if_pos c7] at H
     have c7b0 := decide_eq_true c7
     clear c7
     have HC8 := am H
     clear H
     have p385 : 0 ≤ (x4_1 : Int) := od
     have q385 : x4_1 < (l0.length : Int) := od
     obtain ⟨ad385, e385, hx385_0⟩ := Kd.at_string HR0.out x4_1 p385 q385
     cases e385
     replace hx385_0 := hcw hx385_0
     replace p385 := eq_true p385
     replace q385 := eq_true q385
     go_upto_region 8 with (fail)
     go_cut [40] (fun v40 wc => ∃ (kq : Nat) (x40_7 : Bool), v40 = .bool x40_7 ∧ Aside0 (spec_l3Fields.j2 kq l0 x3_2 x4_1 x5_2 x40_7 = some r) ∧ Aside0 (kq ≤ k2) ∧ Aside0 (Kd.R k81 81 wc w.heap.size (fun _ => True) u3 x3_2) ∧ Aside0 (Below w.heap.size w wc))
     case first =>
      have H := HC8.out
      clear HC8
      revert H
      refine ifn fun c9 H => ?_
      have c9b0 := decide_eq_true c9
      clear c9
      (first | rw [c9b0] | (simp only [i64_w, i32_w]; rw [c9b0]) | skip)
      revert H
      refine ifn fun c10 H => ?_
      have c10b0 := decide_eq_true c10
      clear c10
      by_cases c12 : (bt (rdOf ByteArray.empty l0 x4_1) x5_2) = 58
      rotate_left
      ·rw [if_neg c12] at H
       have c12b0 : ((bt (rdOf ByteArray.empty l0 x4_1) x5_2) == 58) = false := beq_eq_false_iff_ne.mpr c12
       have c12b1 : ((bt (rdOf ByteArray.empty l0 x4_1) x5_2) != 58) = true := bne_iff_ne.mpr c12
       have H' := am H
       clear H
       have p386 : 0 ≤ (x4_1 : Int) := od
       have q386 : x4_1 < (l0.length : Int) := od
       obtain ⟨ad386, e386, hx386_0⟩ := Kd.at_string HR0.out x4_1 p386 q386
       obtain rfl : ad385 = ad386 := (by injection e386)
       replace hx386_0 := hcw hx386_0
       replace p386 := eq_true p386
       replace q386 := eq_true q386
       have p11 : 0 ≤ (x5_2 : Int) := od
       have q11 : x5_2 < ((rdOf ByteArray.empty l0 x4_1).size : Int) := od
       have hx11 := bt_at (rdOf ByteArray.empty l0 x4_1) x5_2
       replace p11 := eq_true p11
       replace q11 := eq_true q11
       go_wp2
       go_meet
       case rel => exact ⟨_, (false), rs, H', ⟨by have := HK1.out; have := HK2.out; first | omega | exact Nat.le_refl _⟩, ⟨by (with_reducible repeat (first | apply Kd.R_alloc | apply Kd.R_drewN | apply Kd.R_drew)); exact HO_3.out⟩, ⟨u66HB⟩⟩
      rw [if_pos c12] at H
      have c12b0 : ((bt (rdOf ByteArray.empty l0 x4_1) x5_2) == 58) = true := beq_iff_eq.mpr c12
      have c12b1 : ((bt (rdOf ByteArray.empty l0 x4_1) x5_2) != 58) = false := bne_eq_false_iff_eq.mpr c12
      clear c12
      obtain ⟨ji13, hji13⟩ : ∃ j_ : Int, (wrap64 (x5_2 + 1)) = j_ := ⟨_, rfl⟩
      replace H : (if 0 ≤ (ji13) then (spec_l3Fields.j2 k2 l0 x3_2 x4_1 x5_2 ((bt (rdOf ByteArray.empty l0 x4_1) (ji13)) == 32)) else (none)) = some r := by first | (rw [hji13] at H; exact H) | (simp only [hji13] at H ⊢; exact H)
      (try rw [hji13] at c7b0)
      have hji13w : (IntKind.i64.wrap (x5_2 + 1)) = ji13 := (i64_w _).trans hji13
      revert H
      refine ifn fun c14 H => ?_
      have c14b0 := decide_eq_true c14
      clear c14
      have H' := am H
      clear H
      have p386 : 0 ≤ (x4_1 : Int) := od
      have q386 : x4_1 < (l0.length : Int) := od
      obtain ⟨ad386, e386, hx386_0⟩ := Kd.at_string HR0.out x4_1 p386 q386
      obtain rfl : ad385 = ad386 := (by injection e386)
      replace hx386_0 := hcw hx386_0
      replace p386 := eq_true p386
      replace q386 := eq_true q386
      have p11 : 0 ≤ (x5_2 : Int) := od
      have q11 : x5_2 < ((rdOf ByteArray.empty l0 x4_1).size : Int) := od
      have hx11 := bt_at (rdOf ByteArray.empty l0 x4_1) x5_2
      replace p11 := eq_true p11
      replace q11 := eq_true q11
      have p387 : 0 ≤ (x4_1 : Int) := od
      have q387 : x4_1 < (l0.length : Int) := od
      obtain ⟨ad387, e387, hx387_0⟩ := Kd.at_string HR0.out x4_1 p387 q387
      obtain rfl : ad385 = ad387 := (by injection e387)
      replace hx387_0 := hcw hx387_0
      replace p387 := eq_true p387
      replace q387 := eq_true q387
      have p15 : 0 ≤ ((ji13) : Int) := od
      have q15 : (ji13) < ((rdOf ByteArray.empty l0 x4_1).size : Int) := od
      have hx15 := bt_at (rdOf ByteArray.empty l0 x4_1) (ji13)
      replace p15 := eq_true p15
      replace q15 := eq_true q15
      go_wp2
      go_meet
      case rel => exact ⟨_, (((bt (rdOf ByteArray.empty l0 x4_1) (ji13)) == 32)), (by first | rfl | (simp; done) | (simp only [← hji13] <;> (first | rfl | simp)) | (simp [*]; done)), H', ⟨by have := HK1.out; have := HK2.out; first | omega | exact Nat.le_refl _⟩, ⟨by (with_reducible repeat (first | apply Kd.R_alloc | apply Kd.R_drewN | apply Kd.R_drew)); exact HO_3.out⟩, ⟨u66HB⟩⟩
     case rest =>
      clear HC8
      try clear c1
      try clear p1
      try clear q1
      try clear hx1
      try clear p2
      try clear p3
      try clear q3
      try clear hx3
      try clear c4
      try clear c4b0
      try clear c5
      try clear c5b0
      try clear c6
      try clear c6b0
      try clear p6
      try clear c7
      try clear c7b0
      try clear c9
      try clear c9b0
      try clear c10
      try clear c10b0
      try clear p11
      try clear q11
      try clear hx11
      try clear c12
      try clear c12b0
      try clear c12b1
      try clear c14
      try clear c14b0
      try clear p15
      try clear q15
      try clear hx15
      try clear hx385_0
      try clear hx386_0
      try clear hx387_0
      try clear p11
      try clear p15
      try clear p2
      try clear p385
      try clear p386
      try clear p387
      try clear q11
      try clear q15
      try clear q385
      try clear q386
      try clear q387
      obtain ⟨kq, x40_7, rfl, HA, HJ7, HO_3, HB⟩ := hcut
      cases kq with
      | zero => exact absurd HA.out (by simp [spec_l3Fields.j2])
      | succ kj7 =>
       have H := HA.out
       clear HA
       simp only [spec_l3Fields.j2] at H
       by_cases c16 : x40_7 = true
       rotate_left
       ·replace c16 := Bool.eq_false_iff.mpr c16
        subst c16
        rw [if_neg (show ¬ (false = true) by decide)] at H
        have H' := am H
        clear H
        go_wp2
        go_roundg kj7
        case measure => have := HK1.out; have := HK2.out; have := HJ7.out; omega
        case rel => exact ⟨(x3_2), (wrap64 (x5_2 + 1)), rs, H', ⟨by have := HK1.out; have := HK2.out; have := HJ7.out; omega⟩, ⟨by (with_reducible repeat (first | apply Kd.R_alloc | apply Kd.R_drewN | apply Kd.R_drew)); exact HO_3.out⟩, ⟨u66HB⟩⟩
       subst c16
       rw [if_pos rfl] at H
       revert H
       refine ifn fun c17 H => ?_
       have c17b0 := decide_eq_true c17
       clear c17
       revert H
       refine ifn fun c18 H => ?_
       have c18b0 := decide_eq_true c18
       clear c18
       revert H
       refine ifn fun c19 H => ?_
       have c19b0 := eq_true c19
       have c19b1 := decide_eq_true c19
       clear c19
       revert H
       refine ifn fun c20 H => ?_
       have c20b0 := eq_true c20
       have c20b1 := decide_eq_true c20
       clear c20
       obtain ⟨ji21, hji21⟩ : ∃ j_ : Int, (wrap64 (x5_2 + 2)) = j_ := ⟨_, rfl⟩
       replace H : (if 0 ≤ (ji21) then (if (ji21) ≤ ((rdOf ByteArray.empty l0 x4_1).size : Int) then (if ((rdOf ByteArray.empty l0 x4_1).extract 0 (x5_2 : Int).toNat).toList = ([99, 111, 110, 116, 101, 110, 116, 45, 108, 101, 110, 103, 116, 104] : List UInt8) then (spec_l3Fields.l0 kj7 l0 x3_2 (wrap64 (x4_1 + 1))) else (if x3_2.length < 4398046511104 then (spec_l3Fields.l0 kj7 l0 (x3_2 ++ [(⟨(rdOf ByteArray.empty l0 x4_1).extract 0 (x5_2 : Int).toNat, (rdOf ByteArray.empty l0 x4_1).extract ((ji21) : Int).toNat (rdOf ByteArray.empty l0 x4_1).size⟩ : S81)]) (wrap64 (x4_1 + 1))) else (none))) else (none)) else (none)) = some r := by first | (rw [hji21] at H; exact H) | (simp only [hji21] at H ⊢; exact H)
       have hji21w : (IntKind.i64.wrap (x5_2 + 2)) = ji21 := (i64_w _).trans hji21
       revert H
       refine ifn fun c22 H => ?_
       have c22b0 := eq_true c22
       have c22b1 := decide_eq_true c22
       clear c22
       revert H
       refine ifn fun c23 H => ?_
       have c23b0 := eq_true c23
       have c23b1 := decide_eq_true c23
       clear c23
       by_cases c24 : ((rdOf ByteArray.empty l0 x4_1).extract 0 (x5_2 : Int).toNat).toList = ([99, 111, 110, 116, 101, 110, 116, 45, 108, 101, 110, 103, 116, 104] : List UInt8)
       ·rw [if_pos c24] at H
        have c24b0 : (((rdOf ByteArray.empty l0 x4_1).extract 0 (x5_2 : Int).toNat).toList == ([99, 111, 110, 116, 101, 110, 116, 45, 108, 101, 110, 103, 116, 104] : List UInt8)) = true := beq_iff_eq.mpr c24
        have c24b1 : (((rdOf ByteArray.empty l0 x4_1).extract 0 (x5_2 : Int).toNat).toList != ([99, 111, 110, 116, 101, 110, 116, 45, 108, 101, 110, 103, 116, 104] : List UInt8)) = false := bne_eq_false_iff_eq.mpr c24
        clear c24
        have H' := am H
        clear H
        try go_wp2
        replace HO_3 := am (Kd.R_drew HO_3.out)
        replace HB := am (below_drew1 HB.out)
        have p388 : 0 ≤ (x4_1 : Int) := od
        have q388 : x4_1 < (l0.length : Int) := od
        obtain ⟨ad388, e388, hx388_0⟩ := Kd.at_string HR0.out x4_1 p388 q388
        have hw388_0 := hx388_0
        obtain rfl : ad385 = ad388 := (by injection e388)
        replace hx388_0 := hcw hx388_0
        replace p388 := eq_true p388
        replace q388 := eq_true q388
        have p389 : 0 ≤ (x4_1 : Int) := od
        have q389 : x4_1 < (l0.length : Int) := od
        obtain ⟨ad389, e389, hx389_0⟩ := Kd.at_string HR0.out x4_1 p389 q389
        have hw389_0 := hx389_0
        obtain rfl : ad385 = ad389 := (by injection e389)
        replace hx389_0 := hcw hx389_0
        replace p389 := eq_true p389
        replace q389 := eq_true q389
        refine start_ (n := 16) (S := fun w' => w'.cell? (ad385.add (x4_1).toNat) = some (.string (rdOf ByteArray.empty l0 x4_1)) ∧ w'.cell? (ad385.add (x4_1).toNat) = some (.string (rdOf ByteArray.empty l0 x4_1))) (ds := []) ⟨br true [0, 16]⟩ (by kernel_rfl) rfl (by kernel_rfl) ⟨(hcw hw388_0), (hcw hw389_0)⟩ (fun hHeld => ?_); refine with_tabW spec_l3Fields.tab9 spec_l3Fields.bits9 (fun HT_ HW_ => ?_)
        generalize wc.drew = w25 at HO_3 HB hx388_0 hx389_0 hHeld ⊢
        refine pu 0 41 [1, 15] ?_
        refine pu 1 42 [2, 14] ?_
        refine pu 2 43 [3, 13] ?_
        refine pu 4 45 [3, 1, 1, 11] ?_
        refine pu 6 47 [3, 1, 1, 1, 1, 9] ?_
        refine pu 7 48 [3, 1, 1, 1, 2, 8] ?_
        refine pu 8 49 [3, 1, 1, 1, 3, 7] ?_
        refine pu 10 51 [3, 1, 1, 1, 3, 1, 1, 5] ?_
        refine pu 11 52 [3, 1, 1, 1, 3, 1, 2, 4] ?_
        refine tk 3 44 [5, 1, 3, 1, 2, 4] ?_
        refine pu 5 46 [9, 1, 2, 4] ?_
        refine tk 9 50 [12, 4] ?_
        refine pu 12 53 [13, 3] ?_
        refine pu 13 54 [14, 2] ?_
        refine one_ (i := 14) (N := some 6) #[true, true, true, true, true, true, true, true, true, true, true, true, true, true, true, false] rfl rfl (one_of HT_.out (by kernel_rfl)) (by decide) (fun K hK => ?_)
        refine box_step ?hg (N := 6) ?hd (cs := #[.string (⟨#[]⟩ : ByteArray), .string (⟨#[]⟩ : ByteArray)]) (t := 81) ?hr ?_; (case hd => rfl); (case hg => rfl); (case hr => first | (go_simp; done) | (go_simp; rfl))
        intro gb390 hg w26 hbox hb
        replace HO_3 := am (Kd.R_below (Kd.R_elderB (ro HO_3) gb390 (Nat.le_of_eq hg.symm)) hb)
        have BK390 := am (hbox)
        have GW390 := am (sz hg : w.heap.size ≤ gb390)
        have GE390 := am (sz hg : w.heap.size ≤ gb390)
        replace HB := am (below_step bl hb)
        clear hb hbox hg
        refine hK.out _ _ ⟨(hcw hw388_0), (hcw hw389_0)⟩ (fun hHeld => ?_)
        clear hK K
        refine nm 6 ?_
        refine one_ (i := 15) (N := none) #[true, true, true, true, true, true, true, true, true, true, true, true, true, true, true, true] rfl rfl (one_of HT_.out (by kernel_rfl)) (by decide) (fun K hK => ?_)
        have hs27 : w26.cell? ⟨gb390, 0, none⟩ = some (.string (⟨#[]⟩ : ByteArray)) := bc BK390
        have hfs27 := blk_frozen BK390.out 0
        have hs28 : w26.cell? ⟨gb390, 1, none⟩ = some (.string (⟨#[]⟩ : ByteArray)) := bc BK390
        have hfs28 := blk_frozen BK390.out 1
        refine skip_ (w1 := ?_) (by rfl) rfl ?_ ?_
        rotate_left
        ·go_simp
         rfl
        refine hK.out _ _ ⟨((cell_far (p := ⟨gb390, _, none⟩) (by first | exact Nat.ne_of_lt (Nat.lt_of_lt_of_le (by have := World.block_lt_of_cell? _ _ hw388_0; first | rwa [add_block] at this | exact this) GW390.out) | (rw [add_block]; exact Nat.ne_of_lt (Nat.lt_of_lt_of_le (by have := World.block_lt_of_cell? _ _ hw388_0; first | rwa [add_block] at this | exact this) GW390.out)) | (show (Addr.add _ _).block ≠ _; rw [add_block]; exact Nat.ne_of_lt (Nat.lt_of_lt_of_le (by have := World.block_lt_of_cell? _ _ hw388_0; first | rwa [add_block] at this | exact this) GW390.out)) | (dsimp only; exact Nat.ne_of_lt (Nat.lt_of_lt_of_le (by have := World.block_lt_of_cell? _ _ hw388_0; first | rwa [add_block] at this | exact this) GW390.out))) _).trans (((cell_far (p := ⟨gb390, _, none⟩) (by first | exact Nat.ne_of_lt (Nat.lt_of_lt_of_le (by have := World.block_lt_of_cell? _ _ hw388_0; first | rwa [add_block] at this | exact this) GW390.out) | (rw [add_block]; exact Nat.ne_of_lt (Nat.lt_of_lt_of_le (by have := World.block_lt_of_cell? _ _ hw388_0; first | rwa [add_block] at this | exact this) GW390.out)) | (show (Addr.add _ _).block ≠ _; rw [add_block]; exact Nat.ne_of_lt (Nat.lt_of_lt_of_le (by have := World.block_lt_of_cell? _ _ hw388_0; first | rwa [add_block] at this | exact this) GW390.out)) | (dsimp only; exact Nat.ne_of_lt (Nat.lt_of_lt_of_le (by have := World.block_lt_of_cell? _ _ hw388_0; first | rwa [add_block] at this | exact this) GW390.out))) _).trans (hHeld.1)))), ((cell_far (p := ⟨gb390, _, none⟩) (by first | exact Nat.ne_of_lt (Nat.lt_of_lt_of_le (by have := World.block_lt_of_cell? _ _ hw389_0; first | rwa [add_block] at this | exact this) GW390.out) | (rw [add_block]; exact Nat.ne_of_lt (Nat.lt_of_lt_of_le (by have := World.block_lt_of_cell? _ _ hw389_0; first | rwa [add_block] at this | exact this) GW390.out)) | (show (Addr.add _ _).block ≠ _; rw [add_block]; exact Nat.ne_of_lt (Nat.lt_of_lt_of_le (by have := World.block_lt_of_cell? _ _ hw389_0; first | rwa [add_block] at this | exact this) GW390.out)) | (dsimp only; exact Nat.ne_of_lt (Nat.lt_of_lt_of_le (by have := World.block_lt_of_cell? _ _ hw389_0; first | rwa [add_block] at this | exact this) GW390.out))) _).trans (((cell_far (p := ⟨gb390, _, none⟩) (by first | exact Nat.ne_of_lt (Nat.lt_of_lt_of_le (by have := World.block_lt_of_cell? _ _ hw389_0; first | rwa [add_block] at this | exact this) GW390.out) | (rw [add_block]; exact Nat.ne_of_lt (Nat.lt_of_lt_of_le (by have := World.block_lt_of_cell? _ _ hw389_0; first | rwa [add_block] at this | exact this) GW390.out)) | (show (Addr.add _ _).block ≠ _; rw [add_block]; exact Nat.ne_of_lt (Nat.lt_of_lt_of_le (by have := World.block_lt_of_cell? _ _ hw389_0; first | rwa [add_block] at this | exact this) GW390.out)) | (dsimp only; exact Nat.ne_of_lt (Nat.lt_of_lt_of_le (by have := World.block_lt_of_cell? _ _ hw389_0; first | rwa [add_block] at this | exact this) GW390.out))) _).trans (hHeld.2))))⟩ (fun hHeld => ?_)
        clear hK K
        refine done_ (done_of HT_.out (by kernel_rfl)) ?_
        obtain ⟨z29_0, y29_0, z29_1, y29_1⟩ := cl2 BK390
        try go_wp2
        go_roundg kj7
        case measure => have := HK1.out; have := HK2.out; have := HJ7.out; omega
        case rel => exact ⟨(x3_2), (wrap64 (x4_1 + 1)), rs, H', ⟨by have := HK1.out; have := HK2.out; have := HJ7.out; omega⟩, ⟨by (with_reducible repeat (first | apply Kd.R_alloc | apply Kd.R_drewN | apply Kd.R_drew)); exact Kd.R_mono (Kd.R_far (p := ⟨gb390, 1, none⟩) (Kd.R_far (p := ⟨gb390, 0, none⟩) (Kd.R_mono HO_3.out (fun k_ hk => (⟨hk, hk.2⟩ : _ ∧ k_ ≠ gb390))) (fun _ hk => hk.2) (.string ((rdOf ByteArray.empty l0 x4_1).extract 0 (x5_2 : Int).toNat))) (fun _ hk => hk.2) (.string ((rdOf ByteArray.empty l0 x4_1).extract ((ji21) : Int).toNat (rdOf ByteArray.empty l0 x4_1).size))) (fun _ hk => trivial)⟩, ⟨u66HB⟩⟩
       rw [if_neg c24] at H
       have c24b0 : (((rdOf ByteArray.empty l0 x4_1).extract 0 (x5_2 : Int).toNat).toList == ([99, 111, 110, 116, 101, 110, 116, 45, 108, 101, 110, 103, 116, 104] : List UInt8)) = false := beq_eq_false_iff_ne.mpr c24
       have c24b1 : (((rdOf ByteArray.empty l0 x4_1).extract 0 (x5_2 : Int).toNat).toList != ([99, 111, 110, 116, 101, 110, 116, 45, 108, 101, 110, 103, 116, 104] : List UInt8)) = true := bne_iff_ne.mpr c24
       revert H
       refine ifn fun c30 H => ?_
       have LMc30 := am c30
       clear c30
       obtain ⟨y391, hy391⟩ : ∃ y_ : List (S81), y_ = (x3_2 ++ [(⟨(rdOf ByteArray.empty l0 x4_1).extract 0 (x5_2 : Int).toNat, (rdOf ByteArray.empty l0 x4_1).extract ((ji21) : Int).toNat (rdOf ByteArray.empty l0 x4_1).size⟩ : S81)]) := ⟨_, rfl⟩
       replace H : (spec_l3Fields.l0 kj7 l0 y391 (wrap64 (x4_1 + 1))) = some r := by first | (rw [hy391]; with_reducible exact H) | (have H2_ := (Option.bind_some _ _).symm.trans H; rw [hy391]; with_reducible exact H2_) | (have H2_ := (Option.bind_some _ _).symm.trans H; with_reducible exact H2_) | with_reducible exact H | (rw [hy391]; exact H) | exact H
       have Ny391 := am hy391
       clear hy391
       have H' := am H
       clear H
       try go_wp2
       replace HO_3 := am (Kd.R_drew HO_3.out)
       replace HB := am (below_drew1 HB.out)
       have p388 : 0 ≤ (x4_1 : Int) := od
       have q388 : x4_1 < (l0.length : Int) := od
       obtain ⟨ad388, e388, hx388_0⟩ := Kd.at_string HR0.out x4_1 p388 q388
       have hw388_0 := hx388_0
       obtain rfl : ad385 = ad388 := (by injection e388)
       replace hx388_0 := hcw hx388_0
       replace p388 := eq_true p388
       replace q388 := eq_true q388
       have p389 : 0 ≤ (x4_1 : Int) := od
       have q389 : x4_1 < (l0.length : Int) := od
       obtain ⟨ad389, e389, hx389_0⟩ := Kd.at_string HR0.out x4_1 p389 q389
       have hw389_0 := hx389_0
       obtain rfl : ad385 = ad389 := (by injection e389)
       replace hx389_0 := hcw hx389_0
       replace p389 := eq_true p389
       replace q389 := eq_true q389
       refine start_ (n := 16) (S := fun w' => w'.cell? (ad385.add (x4_1).toNat) = some (.string (rdOf ByteArray.empty l0 x4_1)) ∧ w'.cell? (ad385.add (x4_1).toNat) = some (.string (rdOf ByteArray.empty l0 x4_1))) (ds := []) ⟨br true [0, 16]⟩ (by kernel_rfl) rfl (by kernel_rfl) ⟨(hcw hw388_0), (hcw hw389_0)⟩ (fun hHeld => ?_); refine with_tabW spec_l3Fields.tab9 spec_l3Fields.bits9 (fun HT_ HW_ => ?_)
       generalize wc.drew = w31 at HO_3 HB hx388_0 hx389_0 hHeld ⊢
       refine pu 0 41 [1, 15] ?_
       refine pu 1 42 [2, 14] ?_
       refine pu 2 43 [3, 13] ?_
       refine pu 4 45 [3, 1, 1, 11] ?_
       refine pu 6 47 [3, 1, 1, 1, 1, 9] ?_
       refine pu 7 48 [3, 1, 1, 1, 2, 8] ?_
       refine pu 8 49 [3, 1, 1, 1, 3, 7] ?_
       refine pu 10 51 [3, 1, 1, 1, 3, 1, 1, 5] ?_
       refine pu 11 52 [3, 1, 1, 1, 3, 1, 2, 4] ?_
       refine tk 3 44 [5, 1, 3, 1, 2, 4] ?_
       refine pu 5 46 [9, 1, 2, 4] ?_
       refine tk 9 50 [12, 4] ?_
       refine pu 12 53 [13, 3] ?_
       refine pu 13 54 [14, 2] ?_
       refine one_ (i := 14) (N := some 6) #[true, true, true, true, true, true, true, true, true, true, true, true, true, true, true, false] rfl rfl (one_of HT_.out (by kernel_rfl)) (by decide) (fun K hK => ?_)
       refine box_step ?hg (N := 6) ?hd (cs := #[.string (⟨#[]⟩ : ByteArray), .string (⟨#[]⟩ : ByteArray)]) (t := 81) ?hr ?_; (case hd => rfl); (case hg => rfl); (case hr => first | (go_simp; done) | (go_simp; rfl))
       intro gb390 hg w32 hbox hb
       replace HO_3 := am (Kd.R_below (Kd.R_elderB (ro HO_3) gb390 (Nat.le_of_eq hg.symm)) hb)
       have BK390 := am (hbox)
       have GW390 := am (sz hg : w.heap.size ≤ gb390)
       have GE390 := am (sz hg : w.heap.size ≤ gb390)
       replace HB := am (below_step bl hb)
       clear hb hbox hg
       refine hK.out _ _ ⟨(hcw hw388_0), (hcw hw389_0)⟩ (fun hHeld => ?_)
       clear hK K
       refine nm 6 ?_
       refine one_ (i := 15) (N := none) #[true, true, true, true, true, true, true, true, true, true, true, true, true, true, true, true] rfl rfl (one_of HT_.out (by kernel_rfl)) (by decide) (fun K hK => ?_)
       have hs33 : w32.cell? ⟨gb390, 0, none⟩ = some (.string (⟨#[]⟩ : ByteArray)) := bc BK390
       have hfs33 := blk_frozen BK390.out 0
       have hs34 : w32.cell? ⟨gb390, 1, none⟩ = some (.string (⟨#[]⟩ : ByteArray)) := bc BK390
       have hfs34 := blk_frozen BK390.out 1
       refine skip_ (w1 := ?_) (by rfl) rfl ?_ ?_
       rotate_left
       ·go_simp
        rfl
       refine hK.out _ _ ⟨((cell_far (p := ⟨gb390, _, none⟩) (by first | exact Nat.ne_of_lt (Nat.lt_of_lt_of_le (by have := World.block_lt_of_cell? _ _ hw388_0; first | rwa [add_block] at this | exact this) GW390.out) | (rw [add_block]; exact Nat.ne_of_lt (Nat.lt_of_lt_of_le (by have := World.block_lt_of_cell? _ _ hw388_0; first | rwa [add_block] at this | exact this) GW390.out)) | (show (Addr.add _ _).block ≠ _; rw [add_block]; exact Nat.ne_of_lt (Nat.lt_of_lt_of_le (by have := World.block_lt_of_cell? _ _ hw388_0; first | rwa [add_block] at this | exact this) GW390.out)) | (dsimp only; exact Nat.ne_of_lt (Nat.lt_of_lt_of_le (by have := World.block_lt_of_cell? _ _ hw388_0; first | rwa [add_block] at this | exact this) GW390.out))) _).trans (((cell_far (p := ⟨gb390, _, none⟩) (by first | exact Nat.ne_of_lt (Nat.lt_of_lt_of_le (by have := World.block_lt_of_cell? _ _ hw388_0; first | rwa [add_block] at this | exact this) GW390.out) | (rw [add_block]; exact Nat.ne_of_lt (Nat.lt_of_lt_of_le (by have := World.block_lt_of_cell? _ _ hw388_0; first | rwa [add_block] at this | exact this) GW390.out)) | (show (Addr.add _ _).block ≠ _; rw [add_block]; exact Nat.ne_of_lt (Nat.lt_of_lt_of_le (by have := World.block_lt_of_cell? _ _ hw388_0; first | rwa [add_block] at this | exact this) GW390.out)) | (dsimp only; exact Nat.ne_of_lt (Nat.lt_of_lt_of_le (by have := World.block_lt_of_cell? _ _ hw388_0; first | rwa [add_block] at this | exact this) GW390.out))) _).trans (hHeld.1)))), ((cell_far (p := ⟨gb390, _, none⟩) (by first | exact Nat.ne_of_lt (Nat.lt_of_lt_of_le (by have := World.block_lt_of_cell? _ _ hw389_0; first | rwa [add_block] at this | exact this) GW390.out) | (rw [add_block]; exact Nat.ne_of_lt (Nat.lt_of_lt_of_le (by have := World.block_lt_of_cell? _ _ hw389_0; first | rwa [add_block] at this | exact this) GW390.out)) | (show (Addr.add _ _).block ≠ _; rw [add_block]; exact Nat.ne_of_lt (Nat.lt_of_lt_of_le (by have := World.block_lt_of_cell? _ _ hw389_0; first | rwa [add_block] at this | exact this) GW390.out)) | (dsimp only; exact Nat.ne_of_lt (Nat.lt_of_lt_of_le (by have := World.block_lt_of_cell? _ _ hw389_0; first | rwa [add_block] at this | exact this) GW390.out))) _).trans (((cell_far (p := ⟨gb390, _, none⟩) (by first | exact Nat.ne_of_lt (Nat.lt_of_lt_of_le (by have := World.block_lt_of_cell? _ _ hw389_0; first | rwa [add_block] at this | exact this) GW390.out) | (rw [add_block]; exact Nat.ne_of_lt (Nat.lt_of_lt_of_le (by have := World.block_lt_of_cell? _ _ hw389_0; first | rwa [add_block] at this | exact this) GW390.out)) | (show (Addr.add _ _).block ≠ _; rw [add_block]; exact Nat.ne_of_lt (Nat.lt_of_lt_of_le (by have := World.block_lt_of_cell? _ _ hw389_0; first | rwa [add_block] at this | exact this) GW390.out)) | (dsimp only; exact Nat.ne_of_lt (Nat.lt_of_lt_of_le (by have := World.block_lt_of_cell? _ _ hw389_0; first | rwa [add_block] at this | exact this) GW390.out))) _).trans (hHeld.2))))⟩ (fun hHeld => ?_)
       clear hK K
       refine done_ (done_of HT_.out (by kernel_rfl)) ?_
       obtain ⟨z35_0, y35_0, z35_1, y35_1⟩ := cl2 BK390
       try go_wp2_with (first | ((with_reducible refine gate_builtin (b := .append) (xs := #[.tmp 58, .tmp 60]) rfl ?_); at_builtin; refine Kd.R_append k81 (w0 := w) w.heap.size rfl (.tmp 58) (.tmp 60) 38 81 (.agg #[(.string ⟨#[]⟩), (.string ⟨#[]⟩)]) 32 rfl Tryz.underlying38 info81 rfl (by decide) (by omega) u3 x3_2 (⟨(rdOf ByteArray.empty l0 x4_1).extract 0 (x5_2 : Int).toNat, (rdOf ByteArray.empty l0 x4_1).extract ((ji21) : Int).toNat (rdOf ByteArray.empty l0 x4_1).size⟩ : S81) [.string ((rdOf ByteArray.empty l0 x4_1).extract 0 (x5_2 : Int).toNat), .string ((rdOf ByteArray.empty l0 x4_1).extract ((ji21) : Int).toNat (rdOf ByteArray.empty l0 x4_1).size)] (fun k_ => k_ ≠ gb390) (fun _ => False) rfl (by first | (go_simp; done) | (go_simp; rfl)) ?aP (fun _ hk => hk.elim) ?aF ?aO ?aB ?aS ?aL ?_; (case aP => exact k81_mkM _ _ _ (⟨(rdOf ByteArray.empty l0 x4_1).extract 0 (x5_2 : Int).toNat, (rdOf ByteArray.empty l0 x4_1).extract ((ji21) : Int).toNat (rdOf ByteArray.empty l0 x4_1).size⟩ : S81)); (case aB => exact bl); (case aF => exact (fun k_ hk => Kd.freshB (g := gb390) (o := .cells #[.string ((rdOf ByteArray.empty l0 x4_1).extract 0 (x5_2 : Int).toNat), .string ((rdOf ByteArray.empty l0 x4_1).extract ((ji21) : Int).toNat (rdOf ByteArray.empty l0 x4_1).size)] 81 (0, 0)) (pt0 BK390) k_ hk)); (case aO => exact (by (with_reducible repeat (first | apply Kd.R_alloc | apply Kd.R_drewN | apply Kd.R_drew)); exact Kd.R_mono (Kd.R_far (p := ⟨gb390, 1, none⟩) (Kd.R_far (p := ⟨gb390, 0, none⟩) (Kd.R_mono HO_3.out (fun k_ hk => (⟨hk, hk.2⟩ : _ ∧ k_ ≠ gb390))) (fun _ hk => hk.2) (.string ((rdOf ByteArray.empty l0 x4_1).extract 0 (x5_2 : Int).toNat))) (fun _ hk => hk.2) (.string ((rdOf ByteArray.empty l0 x4_1).extract ((ji21) : Int).toNat (rdOf ByteArray.empty l0 x4_1).size))) (fun _ hk => hk.1.2))); (case aS => exact (below_size bl)); (case aL => have := LMc30.out; omega); intro v392 w36 ho hb hg hat; rw [← Ny391.out] at ho; have n0_ := am (blk_grown (g := gb390) (o := .cells #[.string ((rdOf ByteArray.empty l0 x4_1).extract 0 (x5_2 : Int).toNat), .string ((rdOf ByteArray.empty l0 x4_1).extract ((ji21) : Int).toNat (rdOf ByteArray.empty l0 x4_1).size)] 81 (0, 0)) (pt0 BK390) hg (Kd.R_away HO_3.out (fun _ hk => hk.2))); have n1_ := am (hb); have n2_ := am (ho); clear BK390; clear HB; clear HO_3; have BK390 := n0_; have HB := n1_; have HO393 := n2_; clear n0_ n1_ n2_; clear ho hb hg hat))
       go_roundg kj7
       case measure => have := HK1.out; have := HK2.out; have := HJ7.out; omega
       case rel => exact ⟨(y391), (wrap64 (x4_1 + 1)), rs, H', ⟨by have := HK1.out; have := HK2.out; have := HJ7.out; omega⟩, ⟨by (with_reducible repeat (first | apply Kd.R_alloc | apply Kd.R_drewN | apply Kd.R_drew)); exact Kd.R_mono HO393.out (fun _ hk => trivial)⟩, ⟨u66HB⟩⟩

/-! ### spec_ReqRead: function 38 -/
theorem u38HB {p : Prop} (h : p := by repeat (first | (with_reducible first | exact HB.out | apply below_alloc | apply pw_below_drewN | apply below_drew1 | refine below_set ?_ GE394.out | refine below_set ?_ GE411.out) | exact HB.out)) : p := h
mutual
def spec_ReqRead.j0 : Nat → ByteArray → List ByteArray → Int → Bool → Option (Int × ByteArray × (List (S81)) × ByteArray × Bool)
 | 0, _, _, _, _ => none
 | k + 1, x0, x4, x5, x21 => if x21 = true then (some (0, (⟨#[]⟩ : ByteArray), ([] : List (S81)), (⟨#[]⟩ : ByteArray), false)) else (if 0 < (x4.length : Int) then ((spec_l3Words.f k (rdOf ByteArray.empty x4 0)).bind fun t400 => (if (t400.length : Int) = 3 then (if 1 < (t400.length : Int) then (if 1 ≤ (x4.length : Int) then ((spec_l3Fields.f k (x4.drop 1)).bind fun t408 => (if 0 ≤ x5 then (if x5 ≤ (x0.size : Int) then ((spec_l3Methods.f).bind fun t412 => (spec_ReqRead.l0 k x0 t400 t412 1 0 (rdOf ByteArray.empty t400 1) t408 (x0.extract (x5 : Int).toNat x0.size))) else (none)) else (none))) else (none)) else (none)) else (some (0, (⟨#[]⟩ : ByteArray), ([] : List (S81)), (⟨#[]⟩ : ByteArray), false)))) else (none))
def spec_ReqRead.l0 : Nat → ByteArray → List ByteArray → List ByteArray → Int → Int → ByteArray → List (S81) → ByteArray → Option (Int × ByteArray × (List (S81)) × ByteArray × Bool)
 | 0, _, _, _, _, _, _, _, _ => none
 | k + 1, x0, x6, x8, x9, x412000, x412001, x412002, x412003 => if x9 < (x8.length : Int) then (if 0 ≤ x9 then (if 0 < (x6.length : Int) then (if (rdOf ByteArray.empty x8 x9).toList = (rdOf ByteArray.empty x6 0).toList then (spec_ReqRead.l0 k x0 x6 x8 (wrap64 (x9 + 1)) x9 x412001 x412002 x412003) else (spec_ReqRead.l0 k x0 x6 x8 (wrap64 (x9 + 1)) x412000 x412001 x412002 x412003)) else (none)) else (none)) else ((spec_ReqText.f k x412000 x412001 x412002 x412003).bind fun t417 => (if t417.toList = x0.toList then (some (x412000, x412001, x412002, x412003, true)) else (some (0, (⟨#[]⟩ : ByteArray), ([] : List (S81)), (⟨#[]⟩ : ByteArray), false))))
end
def spec_ReqRead.f (k : Nat) (a0 : ByteArray) : Option (Int × ByteArray × (List (S81)) × ByteArray × Bool) := (spec_l3Head.f k a0).bind fun bt395 => (if bt395.2 < 0 then (spec_ReqRead.j0 k a0 bt395.1 bt395.2 true) else (spec_ReqRead.j0 k a0 bt395.1 bt395.2 ((bt395.1.length : Int) == 0)))
def spec_ReqRead.T7 : Bool × List (List Nat × List Nat) := (true, [([], []), ([0], [0]), ([1], [1]), ([], []), ([3], [3]), ([4], [4]), ([], []), ([], []), ([6, 7], [6, 7]), ([2, 5, 8], [2, 5, 8]), ([], []), ([10, 9, 5, 0, 1, 2, 3, 4, 5, 6, 7, 8, 9, 10], [9, 10])])
def spec_ReqRead.B7 : List Nat := [0, 1, 3, 0, 8, 24, 0, 0, 192, 511, 0, 2047]
theorem spec_ReqRead.tab7 : rtab .any (opsOf Tryz.f38 7) = spec_ReqRead.T7 := by kernel_rfl
theorem spec_ReqRead.bits7 : waitsOk spec_ReqRead.T7.2 spec_ReqRead.B7 = true := by kernel_rfl
def spec_ReqRead.T12 : Bool × List (List Nat × List Nat) := (true, [([], []), ([], []), ([0, 1], [0, 1]), ([2], [2]), ([], []), ([4], [4]), ([5], [5]), ([3, 6], [3, 6])])
def spec_ReqRead.B12 : List Nat := [0, 0, 3, 7, 0, 16, 48, 127]
theorem spec_ReqRead.tab12 : rtab .any (opsOf Tryz.f38 12) = spec_ReqRead.T12 := by kernel_rfl
theorem spec_ReqRead.bits12 : waitsOk spec_ReqRead.T12.2 spec_ReqRead.B12 = true := by kernel_rfl
set_option maxHeartbeats 8000000 in
set_option maxRecDepth 100000 in
theorem spec_ReqRead.calls (k : Nat) (a0 : ByteArray) (r1 : Int) (r2 : ByteArray) (r3 : List (S81)) (r4 : ByteArray) (r5 : Bool) (w : World) (h : spec_ReqRead.f k a0 = some (r1, r2, r3, r4, r5)) :
  Calls Tryz.prog 38 #[.string a0] w fun e w' => ∃ v2_ : Value, e = .returned (.tuple #[.agg #[.int .i64 r1, .string r2, v2_, .string r4], .bool r5]) ∧ Kd.R k81 81 w' w.heap.size (fun _ => True) v2_ r3 ∧ Below w.heap.size w w' := by
 have hu40 := Tryz.underlying40
 have HB := am (Below.refl w.heap.size w)
 unfold spec_ReqRead.f at h
 have H := h
 clear h
 revert H
 refine ok2 fun t395 t396 A2 H => ?_
 (try dsimp only at H)
 have HC3 := am H
 clear H
 go_enter Tryz.func38, Tryz.ntmps38
 go_upto_region 2 with (first | ((with_reducible refine gate_dst (N := 2) rfl ?_); (try (refine gate_guard (by rfl) ?_; dsimp only)); refine box_event ?hg (N := 2) ?hd (cs := #[.int .i64 0, .string (⟨#[]⟩ : ByteArray), .slice none 0 0, .string (⟨#[]⟩ : ByteArray)]) (t := 40) ?hr ?_; (case hd => rfl); (case hg => rfl); (case hr => first | (go_simp; done) | (go_simp; rfl)); intro gb394 hg w4 hbox hb; have BK394 := am (hbox); have GW394 := am (sz hg : w.heap.size ≤ gb394); have GE394 := am (sz hg : w.heap.size ≤ gb394); replace HB := am (below_step bl hb); clear hb hbox hg) | ((with_reducible refine gw ?_); first | (refine gl 12 Tryz.func64 #[.string a0] ?_; (with_reducible refine (spec_l3Head.calls k a0 t395 t396 _ A2.out).mono ?_); rintro e w5 ⟨v397, rfl, ho0, hb⟩; refine ⟨_, rfl, ?_⟩; have HO398 := am (Kd.R_lower ho0 (below_size bl)); replace BK394 := kb BK394 hb; replace HB := am (below_step bl hb); clear hb ho0)))
 (try simp only [Act.put, List.setIfInBounds_toArray, List.set_cons_zero, List.set_cons_succ])
 go_cut [21] (fun v21 wc => ∃ (kq : Nat) (x21_2 : Bool), v21 = .bool x21_2 ∧ Aside0 (spec_ReqRead.j0 kq a0 t395 t396 x21_2 = some (r1, r2, r3, r4, r5)) ∧ Aside0 (kq ≤ k) ∧ Aside0 (Kd.R Kd.string 9 wc w.heap.size (fun _ => True) v397 t395) ∧ Aside0 (wc.heap[gb394]? = some (.cells #[.int .i64 0, .string (⟨#[]⟩ : ByteArray), (.slice none 0 0), .string (⟨#[]⟩ : ByteArray)] 40 (0, 0))) ∧ Aside0 (Below w.heap.size w wc))
 case first =>
  have H := HC3.out
  clear HC3
  by_cases c6 : t396 < 0
  ·rw [if_pos c6] at H
   have c6b0 := decide_eq_true c6
   clear c6
   (first | rw [c6b0] | (simp only [i64_w, i32_w]; rw [c6b0]) | skip)
   have H' := am H
   clear H
   go_wp2
   go_meet
   case rel => exact ⟨_, (true), rs, H', ⟨by first | omega | exact Nat.le_refl _⟩, ⟨by (with_reducible repeat (first | apply Kd.R_alloc | apply Kd.R_drewN | apply Kd.R_drew)); exact HO398.out⟩, ⟨by (with_reducible repeat (first | refine blk_drewN ?_ _ | refine blk_drew ?_ | refine blk_alloc ?_ _)); exact BK394.out⟩, ⟨u38HB⟩⟩
  rw [if_neg c6] at H
  have c6b0 := decide_eq_false c6
  clear c6
  (first | rw [c6b0] | (simp only [i64_w, i32_w]; rw [c6b0]) | skip)
  have H' := am H
  clear H
  obtain ⟨Ao7, co7, eo7⟩ := Kd.R_slice HO398.out
  subst eo7
  go_wp2
  go_meet
  case rel => exact ⟨_, (((t395.length : Int) == 0)), rs, H', ⟨by first | omega | exact Nat.le_refl _⟩, ⟨by (with_reducible repeat (first | apply Kd.R_alloc | apply Kd.R_drewN | apply Kd.R_drew)); exact HO398.out⟩, ⟨by (with_reducible repeat (first | refine blk_drewN ?_ _ | refine blk_drew ?_ | refine blk_alloc ?_ _)); exact BK394.out⟩, ⟨u38HB⟩⟩
 case rest =>
  clear HC3
  try clear p2
  try clear c3
  try clear c6
  try clear c6b0
  obtain ⟨kq, x21_2, rfl, HA, HJ2, HO_4, BK394, HB⟩ := hcut
  cases kq with
  | zero => exact absurd HA.out (by simp [spec_ReqRead.j0])
  | succ kj2 =>
   have H := HA.out
   clear HA
   simp only [spec_ReqRead.j0] at H
   by_cases c8 : x21_2 = true
   ·subst c8
    rw [if_pos rfl] at H
    simp only [Option.some.injEq, Prod.mk.injEq] at H
    obtain ⟨rfl, rfl, rfl, rfl, rfl⟩ := H
    obtain ⟨z9_0, y9_0, z9_1, y9_1, z9_2, y9_2, z9_3, y9_3⟩ := cl4 BK394
    go_wp2
    refine bodyPost_ret (results_ct rfl _ _ gb394 40 #[.int .i64 0, .string (⟨#[]⟩ : ByteArray), .slice none 0 0, .string (⟨#[]⟩ : ByteArray)] (0, 0) _ rfl (pt0 BK394) Tryz.underlying40 rfl (by kernel_rfl)) rfl ?_
    exact ⟨_, rf, by first | exact Kd.R_nil _ _ _ _ _ | exact Kd.N_nil _ _ _ _ _ | exact Kd.V_nil _ _ _ _ _ | exact Kd.Q_nil _ _ _ _ _ | exact Kd.S_nil _ _ _ _ _, bl⟩
   replace c8 := Bool.eq_false_iff.mpr c8
   subst c8
   rw [if_neg (show ¬ (false = true) by decide)] at H
   revert H
   refine ifn fun c10 H => ?_
   have c10b0 := decide_eq_true c10
   have c10b1 : decide (0 < t395.length) = true := decide_eq_true (by omega)
   clear c10
   revert H
   refine ok1 fun t400 A11 H => ?_
   by_cases c12 : (t400.length : Int) = 3
   rotate_left
   ·rw [if_neg c12] at H
    have c12b0 : ((t400.length : Int) == 3) = false := beq_eq_false_iff_ne.mpr c12
    have c12b1 : ((t400.length : Int) != 3) = true := bne_iff_ne.mpr c12
    simp only [Option.some.injEq, Prod.mk.injEq] at H
    obtain ⟨rfl, rfl, rfl, rfl, rfl⟩ := H
    obtain ⟨Ao56, co56, eo56⟩ := Kd.R_slice HO_4.out
    subst eo56
    have p399 : 0 ≤ (0 : Int) := (by omega)
    have q399 : 0 < (t395.length : Int) := od
    obtain ⟨ad399, e399, hx399_0⟩ := Kd.at_string (Kd.R_reads' HO_4.out).2.2 0 p399 q399
    cases e399
    have qi399 : (0 < t395.length) = True := eq_true (by omega)
    (try rw [show ((0 : Int)).toNat = 0 from rfl] at hx399_0)
    (try rw [Addr.add_zero'] at hx399_0)
    replace p399 := eq_true p399
    replace q399 := eq_true q399
    go_wp2_with ((with_reducible refine gw ?_); first | (refine gl 26 Tryz.func65 #[.string (rdOf ByteArray.empty t395 0)] ?_; (with_reducible refine (spec_l3Words.calls kj2 (rdOf ByteArray.empty t395 0) t400 _ A11.out).mono ?_); rintro e w57 ⟨v401, rfl, ho0, hb⟩; refine ⟨_, rfl, ?_⟩; have HO402 := am (Kd.R_lower (Kd.R_new' ho0 (Kd.R_lt (ro HO_4))) (below_size bl)); replace HO_4 := am (Kd.R_elder' (ro HO_4) (Kd.R_base ho0) hb); replace BK394 := kb BK394 hb; replace HB := am (below_step bl hb); clear hb ho0; obtain ⟨Ao58, co58, eo58⟩ := Kd.R_slice HO402.out; subst eo58; obtain ⟨z59_0, y59_0, z59_1, y59_1, z59_2, y59_2, z59_3, y59_3⟩ := cl4 BK394))
    refine bodyPost_ret (results_ct rfl _ _ gb394 40 #[.int .i64 0, .string (⟨#[]⟩ : ByteArray), .slice none 0 0, .string (⟨#[]⟩ : ByteArray)] (0, 0) _ rfl (pt0 BK394) Tryz.underlying40 rfl (by kernel_rfl)) rfl ?_
    exact ⟨_, rf, by first | exact Kd.R_nil _ _ _ _ _ | exact Kd.N_nil _ _ _ _ _ | exact Kd.V_nil _ _ _ _ _ | exact Kd.Q_nil _ _ _ _ _ | exact Kd.S_nil _ _ _ _ _, bl⟩
   rw [if_pos c12] at H
   have c12b0 : ((t400.length : Int) == 3) = true := beq_iff_eq.mpr c12
   have c12b1 : ((t400.length : Int) != 3) = false := bne_eq_false_iff_eq.mpr c12
   clear c12
   revert H
   refine ifn fun c13 H => ?_
   have c13b0 := decide_eq_true c13
   have c13b1 : decide (1 < t400.length) = true := decide_eq_true (by omega)
   clear c13
   revert H
   refine ifn fun c14 H => ?_
   have c14b0 := eq_true c14
   have c14b1 := decide_eq_true c14
   clear c14
   obtain ⟨y404, hy404⟩ : ∃ y_ : List ByteArray, y_ = (t395.drop 1) := ⟨_, rfl⟩
   replace H : ((spec_l3Fields.f kj2 y404).bind fun t408 => (if 0 ≤ t396 then (if t396 ≤ (a0.size : Int) then ((spec_l3Methods.f).bind fun t412 => (spec_ReqRead.l0 kj2 a0 t400 t412 1 0 (rdOf ByteArray.empty t400 1) t408 (a0.extract (t396 : Int).toNat a0.size))) else (none)) else (none))) = some (r1, r2, r3, r4, r5) := by first | (rw [hy404]; with_reducible exact H) | (have H2_ := (Option.bind_some _ _).symm.trans H; rw [hy404]; with_reducible exact H2_) | (have H2_ := (Option.bind_some _ _).symm.trans H; with_reducible exact H2_) | with_reducible exact H | (rw [hy404]; exact H) | exact H
   have Ny404 := am hy404
   clear hy404
   revert H
   refine ok1 fun t408 A15 H => ?_
   revert H
   refine ifn fun c16 H => ?_
   have c16b0 := eq_true c16
   have c16b1 := decide_eq_true c16
   clear c16
   revert H
   refine ifn fun c17 H => ?_
   have c17b0 := eq_true c17
   have c17b1 := decide_eq_true c17
   clear c17
   revert H
   refine ok1 fun t412 A18 H => ?_
   have H' := am H
   clear H
   obtain ⟨Ao19, co19, eo19⟩ := Kd.R_slice HO_4.out
   subst eo19
   have p399 : 0 ≤ (0 : Int) := (by omega)
   have q399 : 0 < (t395.length : Int) := od
   obtain ⟨ad399, e399, hx399_0⟩ := Kd.at_string (Kd.R_reads' HO_4.out).2.2 0 p399 q399
   cases e399
   have qi399 : (0 < t395.length) = True := eq_true (by omega)
   (try rw [show ((0 : Int)).toNat = 0 from rfl] at hx399_0)
   (try rw [Addr.add_zero'] at hx399_0)
   replace p399 := eq_true p399
   replace q399 := eq_true q399
   try go_wp2_with ((with_reducible refine gw ?_); first | (refine gl 26 Tryz.func65 #[.string (rdOf ByteArray.empty t395 0)] ?_; (with_reducible refine (spec_l3Words.calls kj2 (rdOf ByteArray.empty t395 0) t400 _ A11.out).mono ?_); rintro e w20 ⟨v401, rfl, ho0, hb⟩; refine ⟨_, rfl, ?_⟩; have HO402 := am (Kd.R_lower (Kd.R_new' ho0 (Kd.R_lt (ro HO_4))) (below_size bl)); replace HO_4 := am (Kd.R_elder' (ro HO_4) (Kd.R_base ho0) hb); replace BK394 := kb BK394 hb; replace HB := am (below_step bl hb); clear hb ho0; obtain ⟨Ao21, co21, eo21⟩ := Kd.R_slice HO402.out; subst eo21))
   replace HO_4 := am (Kd.R_drew HO_4.out)
   replace HO402 := am (Kd.R_drew HO402.out)
   replace BK394 := am (blk_drew BK394.out)
   replace HB := am (below_drew1 HB.out)
   have p403 : 0 ≤ (1 : Int) := (by omega)
   have q403 : 1 < (t400.length : Int) := od
   obtain ⟨ad403, e403, hx403_0⟩ := Kd.at_string (Kd.R_reads' HO402.out).2.2 1 p403 q403
   cases e403
   (try simp only [show (1 : Int).toNat = 1 from rfl, Nat.reduceMul, Nat.reduceEqDiff, Go.Addr.add, ↓reduceIte] at hx403_0)
   have qi403 : (1 < t400.length) = True := eq_true (by omega)
   (try rw [show ((1 : Int)).toNat = 1 from rfl] at hx403_0)
   replace p403 := eq_true p403
   replace q403 := eq_true q403
   have q23 : (1 : Int) ≤ ((t395.length : Int) : Int) := od
   obtain ⟨i023, hi023, _, hsz23, _⟩ := info_parts info9
   have hroom23 : t395.length ≤ co19 := (Kd.R_reads' HO_4.out).2.1
   have hC23 : Kd.C Kd.string _ (some ad399) t395.length t395 := (Kd.R_reads' HO_4.out).2.2
   have hcut23 := cut_from (P := Tryz.prog) 35 9 .i64 Tryz.underlying35 hi023 1 hsz23 (some ad399) t395.length co19 1 (by omega) q23
   have hr23 := Kd.C_drop (m := (1 : Int).toNat) (c := co19) hC23 (by omega) hroom23
   obtain ⟨A23, hA23⟩ : ∃ A1, A1 = (if co19 = (1 : Int).toNat then (some ad399) else ((some ad399) : Option Addr).map (·.add ((1 : Int).toNat * 1))) := ⟨_, rfl⟩
   obtain ⟨c23, hc23⟩ : ∃ c1, c1 = co19 - (1 : Int).toNat := ⟨_, rfl⟩
   have hy23 : y404.length = t395.length - (1 : Int).toNat := (by rw [Ny404.out, List.length_drop] <;> omega)
   rw [show (t395).drop (1 : Int).toNat = y404 from Ny404.out.symm] at hr23
   replace hr23 : Kd.C Kd.string _ A23 y404.length y404 := (by rw [hA23]; exact hr23)
   rw [← hy23, ← hA23, ← hc23] at hcut23
   have HR407 := am hr23
   have HC407 := am (show y404.length ≤ c23 from by rw [hy23, hc23]; exact Nat.sub_le_sub_right hroom23 _)
   clear hr23 hC23 hroom23 hi023 hsz23 hc23
   have KY23 := am hy23
   have KA23 := am hA23
   clear hy23 hA23
   have KL23 := am (show 1 ≤ t395.length from by omega)
   replace q23 := eq_true q23
   refine start_ (n := 12) (S := fun w' => w'.cell? ⟨ad403.block, ad403.off + 1, none⟩ = some (.string (rdOf ByteArray.empty t400 1))) (ds := []) ⟨br true [0, 12]⟩ (by kernel_rfl) rfl (by kernel_rfl) (hx403_0) (fun hHeld => ?_); refine with_tabW spec_ReqRead.tab7 spec_ReqRead.bits7 (fun HT_ HW_ => ?_)
   generalize w20.drew = w22 at HO_4 HO402 BK394 HB HR407 hx403_0 hHeld ⊢
   refine pu 0 31 [1, 11] ?_
   refine pu 1 32 [2, 10] ?_
   refine pu 3 34 [2, 1, 1, 8] ?_
   refine pu 4 35 [2, 1, 2, 7] ?_
   refine pu 6 37 [2, 1, 2, 1, 1, 5] ?_
   refine pu 7 38 [2, 1, 2, 1, 2, 4] ?_
   refine pu 8 39 [2, 1, 2, 1, 3, 3] ?_
   refine take_ (i := 2) (N := some 33) (v := ?_) (a' := ?_) #[true, true, true, true, true, false, true, true, true, false, false, false] rfl rfl (take_ofW HT_.out HW_.out (by kernel_rfl)) (fun _ _ _ h => h) (Or.inl ⟨by rfl, ?_⟩) hHeld ?_ ?_
   rotate_left
   ·intro w' s0
    go_simp
    with_reducible rfl
   rotate_left
   ·simp only [Act.put, List.setIfInBounds_toArray, List.set_cons_zero, List.set_cons_succ, i64_w, i32_w]
    rfl
   refine join_ (σ := Value × Nat) 1 #[true, true, true, true, true, true, true, true, true, true, true, false] (fun s_ => [(36, s_.1), (7, .pointer (some ⟨s_.2, 0, none⟩)), (40, .agg #[.int .i64 0, .string (rdOf ByteArray.empty t400 1), s_.1, .string (a0.extract (t396 : Int).toNat a0.size)])]) (fun s_ w' => (w'.cell? ⟨ad403.block, ad403.off + 1, none⟩ = some (.string (rdOf ByteArray.empty t400 1))) ∧ (Kd.R Kd.string 9 w' w.heap.size (fun k_ => some k_ ≠ (.slice (some ad399) t395.length co19 : Value).ownBlock) (.slice (some ad403) t400.length co21) t400) ∧ (Kd.R k81 81 w' w.heap.size (fun _ => True) s_.1 t408) ∧ (Kd.R Kd.string 9 w' w.heap.size (fun k_ => some k_ ≠ (.slice (some ad403) t400.length co21 : Value).ownBlock) (.slice (some ad399) t395.length co19) t395) ∧ (w'.heap[gb394]? = some (.cells #[.int .i64 0, .string (⟨#[]⟩ : ByteArray), .slice none 0 0, .string (⟨#[]⟩ : ByteArray)] 40 (0, 0))) ∧ (w'.heap[s_.2]? = some (.cells #[.int .i64 0, .string (⟨#[]⟩ : ByteArray), .slice none 0 0, .string (⟨#[]⟩ : ByteArray)] 40 (0, 0))) ∧ (w.heap.size ≤ s_.2) ∧ (w.heap.size ≤ s_.2) ∧ (gb394 ≠ s_.2) ∧ (s_.2 ≠ gb394) ∧ (Below w.heap.size w w')) ?_ ?_
   rotate_left
   ·intro hCont
    refine two_ (i := 5) (j := 10) (Ni := some 36) (Nj := some 7) #[true, true, true, true, true, true, true, true, true, false, false, false] #[true, true, true, true, true, false, true, true, true, false, true, false] rfl rfl rfl rfl (two_of HT_.out (by kernel_rfl)) (by decide) (by decide) (fun K hK => ?_) (fun K hK => ?_)
    ·skip
     refine goes_ Tryz.func66 (by kernel_rfl) rfl #[.slice A23 y404.length c23] (by rfl) rfl rfl ma ?_
     with_reducible refine (spec_l3Fields.calls kj2 _ _ y404 t408 _ ?side1 ?side2 A15.out).mono ?_
     (case side1 => repeat (first | exact (by repeat (first | (with_reducible exact HR407.out) | (with_reducible refine Kd.C_alloc ?_ _) | (with_reducible refine Kd.C_drewN ?_ _) | (with_reducible refine Kd.C_drew ?_) | exact HR407.out)) | (with_reducible refine Kd.C_alloc ?_ _) | (with_reducible refine Kd.C_drewN ?_ _) | (with_reducible refine Kd.C_drew ?_)))
     (case side2 => exact HC407.out)
     rintro e w24 ⟨v409, rfl, ho0, hb⟩
     have HS0_ := (hb.cell (World.block_lt_of_cell? _ _ (hHeld))).trans (hHeld)
     refine ⟨_, rfl, ?_⟩
     replace HO_4 := kr HO_4 hb
     replace HO402 := kr HO402 hb
     have HO410 := am (Kd.R_lower ho0 (below_size bl))
     replace BK394 := kb BK394 hb
     replace HR407 := am (Kd.C_below (by repeat (first | (with_reducible exact HR407.out) | (with_reducible refine Kd.C_alloc ?_ _) | (with_reducible refine Kd.C_drewN ?_ _) | (with_reducible refine Kd.C_drew ?_) | exact HR407.out)) hb)
     replace HB := am (below_step bl hb)
     clear hb ho0
     obtain ⟨Ao25, co25, eo25⟩ := Kd.R_slice HO410.out
     (first | subst eo25 | (injection eo25 with f1_ f2_ f3_; have f4_ := f1_.symm; have f5_ := f3_.symm; clear f1_ f2_ f3_; subst f4_; subst f5_))
     refine hK.out _ _ (HS0_) (fun hHeld => ?_)
     clear hK K
     refine nm 36 ?_
     refine pu 9 40 [10, 2] ?_
     refine one_ (i := 10) (N := some 7) #[true, true, true, true, true, true, true, true, true, true, true, false] rfl rfl (one_of HT_.out (by kernel_rfl)) (by decide) (fun K hK => ?_)
     refine box_step ?hg (N := 7) ?hd (cs := #[.int .i64 0, .string (⟨#[]⟩ : ByteArray), .slice none 0 0, .string (⟨#[]⟩ : ByteArray)]) (t := 40) ?hr ?_; (case hd => rfl); (case hg => rfl); (case hr => first | (go_simp; done) | (go_simp; rfl))
     intro gb411 hg w26 hbox hb
     have HS0_ := (hb.cell (World.block_lt_of_cell? _ _ (hHeld))).trans (hHeld)
     replace HO_4 := am (Kd.R_below (ro HO_4) hb)
     replace HO402 := am (Kd.R_below (ro HO402) hb)
     replace HO410 := am (Kd.R_below (ro HO410) hb)
     replace HR407 := am (Kd.C_below (by repeat (first | (with_reducible exact HR407.out) | (with_reducible refine Kd.C_alloc ?_ _) | (with_reducible refine Kd.C_drewN ?_ _) | (with_reducible refine Kd.C_drew ?_) | exact HR407.out)) hb)
     have BK411 := am (hbox)
     have GW411 := am (sz hg : w.heap.size ≤ gb411)
     have GE411 := am (sz hg : w.heap.size ≤ gb411)
     replace HB := am (below_step bl hb)
     have NB394_411 := am (nl hg BK394 : gb394 ≠ gb411)
     have NB411_394 := am (ng hg BK394 : gb411 ≠ gb394)
     replace BK394 := kb BK394 hb
     clear hb hbox hg
     refine hK.out _ _ (HS0_) (fun hHeld => ?_)
     clear hK K
     refine nm 7 ?_
     exact norm_ (by simp only [putAll, Act.put, List.setIfInBounds_toArray, List.set_cons_zero, List.set_cons_succ]) (hCont (.slice Ao25 t408.length co25, gb411) _ ⟨hHeld, (by (with_reducible repeat (first | apply Kd.R_alloc | apply Kd.R_drewN | apply Kd.R_drew)); exact Kd.R_mono HO402.out (fun _ hk => hk.2)), (ro HO410), (by (with_reducible repeat (first | apply Kd.R_alloc | apply Kd.R_drewN | apply Kd.R_drew)); exact Kd.R_mono HO_4.out (fun _ hk => hk.2)), (bk BK394), (bk BK411), GW411.out, GE411.out, NB394_411.out, NB411_394.out, bl⟩)
    ·skip
     refine box_step ?hg (N := 7) ?hd (cs := #[.int .i64 0, .string (⟨#[]⟩ : ByteArray), .slice none 0 0, .string (⟨#[]⟩ : ByteArray)]) (t := 40) ?hr ?_; (case hd => rfl); (case hg => rfl); (case hr => first | (go_simp; done) | (go_simp; rfl))
     intro gb411 hg w24 hbox hb
     have HS0_ := (hb.cell (World.block_lt_of_cell? _ _ (hHeld))).trans (hHeld)
     replace HO_4 := am (Kd.R_below (ro HO_4) hb)
     replace HO402 := am (Kd.R_below (ro HO402) hb)
     replace HR407 := am (Kd.C_below (by repeat (first | (with_reducible exact HR407.out) | (with_reducible refine Kd.C_alloc ?_ _) | (with_reducible refine Kd.C_drewN ?_ _) | (with_reducible refine Kd.C_drew ?_) | exact HR407.out)) hb)
     have BK411 := am (hbox)
     have GW411 := am (sz hg : w.heap.size ≤ gb411)
     have GE411 := am (sz hg : w.heap.size ≤ gb411)
     replace HB := am (below_step bl hb)
     have NB394_411 := am (nl hg BK394 : gb394 ≠ gb411)
     have NB411_394 := am (ng hg BK394 : gb411 ≠ gb394)
     replace BK394 := kb BK394 hb
     clear hb hbox hg
     refine hK.out _ _ (HS0_) (fun hHeld => ?_)
     clear hK K
     refine nm 7 ?_
     refine og 5 36 [9, 1, 1, 1] Tryz.func66 #[.slice A23 y404.length c23] (fun K hK => ?_)
     with_reducible refine (spec_l3Fields.calls kj2 _ _ y404 t408 _ ?side1 ?side2 A15.out).mono ?_
     (case side1 => repeat (first | exact (by repeat (first | (with_reducible exact HR407.out) | (with_reducible refine Kd.C_alloc ?_ _) | (with_reducible refine Kd.C_drewN ?_ _) | (with_reducible refine Kd.C_drew ?_) | exact HR407.out)) | (with_reducible refine Kd.C_alloc ?_ _) | (with_reducible refine Kd.C_drewN ?_ _) | (with_reducible refine Kd.C_drew ?_)))
     (case side2 => exact HC407.out)
     rintro e w25 ⟨v409, rfl, ho0, hb⟩
     have HS0_ := (hb.cell (World.block_lt_of_cell? _ _ (hHeld))).trans (hHeld)
     refine ⟨_, rfl, ?_⟩
     replace HO_4 := kr HO_4 hb
     replace HO402 := kr HO402 hb
     have HO410 := am (Kd.R_lower ho0 (below_size bl))
     replace BK394 := kb BK394 hb
     replace HR407 := am (Kd.C_below (by repeat (first | (with_reducible exact HR407.out) | (with_reducible refine Kd.C_alloc ?_ _) | (with_reducible refine Kd.C_drewN ?_ _) | (with_reducible refine Kd.C_drew ?_) | exact HR407.out)) hb)
     replace BK411 := kb BK411 hb
     replace HB := am (below_step bl hb)
     clear hb ho0
     obtain ⟨Ao26, co26, eo26⟩ := Kd.R_slice HO410.out
     (first | subst eo26 | (injection eo26 with f1_ f2_ f3_; have f4_ := f1_.symm; have f5_ := f3_.symm; clear f1_ f2_ f3_; subst f4_; subst f5_))
     refine hK.out _ _ (HS0_) (fun hHeld => ?_)
     clear hK K
     refine nm 36 ?_
     refine pu 9 40 [11, 1] ?_
     exact norm_ (by simp only [putAll, Act.put, List.setIfInBounds_toArray, List.set_cons_zero, List.set_cons_succ]) (hCont (.slice Ao26 t408.length co26, gb411) _ ⟨hHeld, (by (with_reducible repeat (first | apply Kd.R_alloc | apply Kd.R_drewN | apply Kd.R_drew)); exact Kd.R_mono HO402.out (fun _ hk => hk.2)), (ro HO410), (by (with_reducible repeat (first | apply Kd.R_alloc | apply Kd.R_drewN | apply Kd.R_drew)); exact Kd.R_mono HO_4.out (fun _ hk => hk.2)), (bk BK394), (bk BK411), GW411.out, GE411.out, NB394_411.out, NB411_394.out, bl⟩)
   rintro ⟨v409, gb411⟩ w27 ⟨hS_, h0_, h1_, h2_, h3_, h4_, h5_, h6_, h7_, h8_, h9_⟩
   have n0_ : Aside0 (Kd.R Kd.string 9 w27 w.heap.size (fun k_ => some k_ ≠ (.slice (some ad399) t395.length co19 : Value).ownBlock) (.slice (some ad403) t400.length co21) t400) := ⟨h0_⟩
   have n1_ : Aside0 (Kd.R k81 81 w27 w.heap.size (fun _ => True) v409 t408) := ⟨h1_⟩
   have n2_ : Aside0 (Kd.R Kd.string 9 w27 w.heap.size (fun k_ => some k_ ≠ (.slice (some ad403) t400.length co21 : Value).ownBlock) (.slice (some ad399) t395.length co19) t395) := ⟨h2_⟩
   have n3_ : Aside0 (w27.heap[gb394]? = some (.cells #[.int .i64 0, .string (⟨#[]⟩ : ByteArray), .slice none 0 0, .string (⟨#[]⟩ : ByteArray)] 40 (0, 0))) := ⟨h3_⟩
   have n4_ : Aside0 (w27.heap[gb411]? = some (.cells #[.int .i64 0, .string (⟨#[]⟩ : ByteArray), .slice none 0 0, .string (⟨#[]⟩ : ByteArray)] 40 (0, 0))) := ⟨h4_⟩
   have n5_ : Aside0 (w.heap.size ≤ gb411) := ⟨h5_⟩
   have n6_ : Aside0 (w.heap.size ≤ gb411) := ⟨h6_⟩
   have n7_ : Aside0 (gb394 ≠ gb411) := ⟨h7_⟩
   have n8_ : Aside0 (gb411 ≠ gb394) := ⟨h8_⟩
   have n9_ : Aside0 (Below w.heap.size w w27) := ⟨h9_⟩
   clear HO_4
   clear HO402
   clear BK394
   clear HB
   clear h0_ h1_ h2_ h3_ h4_ h5_ h6_ h7_ h8_ h9_
   have HO402 := n0_
   have HO410 := n1_
   have HO_4 := n2_
   have BK394 := n3_
   have BK411 := n4_
   have GW411 := n5_
   have GE411 := n6_
   have NB394_411 := n7_
   have NB411_394 := n8_
   have HB := n9_
   clear n0_ n1_ n2_ n3_ n4_ n5_ n6_ n7_ n8_ n9_
   have hHeld : w27.cell? ⟨ad403.block, ad403.off + 1, none⟩ = some (.string (rdOf ByteArray.empty t400 1)) := hS_
   obtain ⟨Ao28, co28, eo28⟩ := Kd.R_slice HO410.out
   (first | subst eo28 | (injection eo28 with f1_ f2_ f3_; have f4_ := f1_.symm; have f5_ := f3_.symm; clear f1_ f2_ f3_; subst f4_; subst f5_))
   refine norm_ (a' := ?_) ?_ ?_
   rotate_left
   ·simp only [putAll, Act.put, List.setIfInBounds_toArray, List.set_cons_zero, List.set_cons_succ]
    rfl
   refine one_ (i := 11) (N := none) #[true, true, true, true, true, true, true, true, true, true, true, true] rfl rfl (one_of HT_.out (by kernel_rfl)) (by decide) (fun K hK => ?_)
   have hs29 : w27.cell? ⟨gb411, 0, none⟩ = some (.int .i64 0) := bc BK411
   have hfs29 := blk_frozen BK411.out 0
   have hns29_0 := NB394_411.out
   have hms29_0 := NB411_394.out
   have hs30 : w27.cell? ⟨gb411, 1, none⟩ = some (.string (⟨#[]⟩ : ByteArray)) := bc BK411
   have hfs30 := blk_frozen BK411.out 1
   have hns30_0 := NB394_411.out
   have hms30_0 := NB411_394.out
   have hs31 : w27.cell? ⟨gb411, 2, none⟩ = some (.slice none 0 0) := bc BK411
   have hfs31 := blk_frozen BK411.out 2
   have hns31_0 := NB394_411.out
   have hms31_0 := NB411_394.out
   have hs32 : w27.cell? ⟨gb411, 3, none⟩ = some (.string (⟨#[]⟩ : ByteArray)) := bc BK411
   have hfs32 := blk_frozen BK411.out 3
   have hns32_0 := NB394_411.out
   have hms32_0 := NB411_394.out
   refine skip_ (w1 := ?_) (by rfl) rfl ?_ ?_
   rotate_left
   ·go_simp
    rfl
   refine hK.out _ _ (((cell_far (p := ⟨gb411, _, none⟩) (by first | exact Kd.own_blk (Kd.R_ne HO402.out BK411.out (by decide)) | (rw [add_block]; exact Kd.own_blk (Kd.R_ne HO402.out BK411.out (by decide))) | (show (Addr.add _ _).block ≠ _; rw [add_block]; exact Kd.own_blk (Kd.R_ne HO402.out BK411.out (by decide))) | (dsimp only; exact Kd.own_blk (Kd.R_ne HO402.out BK411.out (by decide)))) _).trans (((cell_far (p := ⟨gb411, _, none⟩) (by first | exact Kd.own_blk (Kd.R_ne HO402.out BK411.out (by decide)) | (rw [add_block]; exact Kd.own_blk (Kd.R_ne HO402.out BK411.out (by decide))) | (show (Addr.add _ _).block ≠ _; rw [add_block]; exact Kd.own_blk (Kd.R_ne HO402.out BK411.out (by decide))) | (dsimp only; exact Kd.own_blk (Kd.R_ne HO402.out BK411.out (by decide)))) _).trans (((cell_far (p := ⟨gb411, _, none⟩) (by first | exact Kd.own_blk (Kd.R_ne HO402.out BK411.out (by decide)) | (rw [add_block]; exact Kd.own_blk (Kd.R_ne HO402.out BK411.out (by decide))) | (show (Addr.add _ _).block ≠ _; rw [add_block]; exact Kd.own_blk (Kd.R_ne HO402.out BK411.out (by decide))) | (dsimp only; exact Kd.own_blk (Kd.R_ne HO402.out BK411.out (by decide)))) _).trans (((cell_far (p := ⟨gb411, _, none⟩) (by first | exact Kd.own_blk (Kd.R_ne HO402.out BK411.out (by decide)) | (rw [add_block]; exact Kd.own_blk (Kd.R_ne HO402.out BK411.out (by decide))) | (show (Addr.add _ _).block ≠ _; rw [add_block]; exact Kd.own_blk (Kd.R_ne HO402.out BK411.out (by decide))) | (dsimp only; exact Kd.own_blk (Kd.R_ne HO402.out BK411.out (by decide)))) _).trans (hHeld))))))))) (fun hHeld => ?_)
   clear hK K
   refine done_ (done_of HT_.out (by kernel_rfl)) ?_
   try go_wp2_with ((with_reducible refine gw ?_); first | (refine gl 41 Tryz.func54 #[] ?_; (with_reducible refine (spec_l3Methods.calls  t412 _ A18.out).mono ?_); rintro e w33 ⟨v413, rfl, ho0, hb⟩; refine ⟨_, rfl, ?_⟩; replace HO410 := am (Kd.R_below (rj (Kd.R_types HO410.out BK411.out (by decide)) (fun _ h_ => h_.1)) hb); have HO414 := am (Kd.R_lower (Kd.R_new' (Kd.R_new' ho0 (Kd.R_lt (rj (Kd.R_types HO_4.out BK411.out (by decide)) (fun _ h_ => h_.1)))) (Kd.R_lt (rj (Kd.R_types HO402.out BK411.out (by decide)) (fun _ h_ => h_.1)))) (below_size bl)); replace HO_4 := am (Kd.R_elder' (rj (Kd.R_types HO_4.out BK411.out (by decide)) (fun _ h_ => h_.1)) (Kd.R_base ho0) hb); replace HO402 := am (Kd.R_elder' (rj (Kd.R_types HO402.out BK411.out (by decide)) (fun _ h_ => h_.1)) (Kd.R_base ho0) hb); replace BK394 := kg1 BK394 NB394_411 hb; replace BK411 := am (blk_below (g := gb411) (o := .cells #[.int .i64 0, .string (rdOf ByteArray.empty t400 1), .slice Ao28 t408.length co28, .string (a0.extract (t396 : Int).toNat a0.size)] 40 (0, 0)) (pt0 BK411) hb); replace HB := am (below_step bl hb); clear hb ho0))
   (try simp only [Act.put, List.setIfInBounds_toArray, List.set_cons_zero, List.set_cons_succ])
   go_loopg [9] kj2 (fun kq v9 w' => ∃ (x9_2 : Int) (x412000_2 : Int), v9 = .int .i64 x9_2 ∧ Aside0 (spec_ReqRead.l0 kq a0 t400 t412 x9_2 x412000_2 (rdOf ByteArray.empty t400 1) t408 (a0.extract (t396 : Int).toNat a0.size) = some (r1, r2, r3, r4, r5)) ∧ Aside0 (kq ≤ kj2) ∧ Aside0 (Kd.R Kd.string 9 w' w.heap.size (fun k_ => some k_ ≠ (v413 : Value).ownBlock) (.slice (some ad403) t400.length co21) t400) ∧ Aside0 (Kd.R Kd.string 9 w' w.heap.size (fun k_ => some k_ ≠ ((.slice (some ad403) t400.length co21) : Value).ownBlock) v413 t412) ∧ Aside0 (Kd.R k81 81 w' w.heap.size (fun _ => True) (.slice Ao28 t408.length co28) t408) ∧ Aside0 (w'.heap[gb394]? = some (.cells #[.int .i64 0, .string (⟨#[]⟩ : ByteArray), (.slice none 0 0), .string (⟨#[]⟩ : ByteArray)] 40 (0, 0))) ∧ Aside0 (w'.heap[gb411]? = some (.cells #[.int .i64 x412000_2, .string (rdOf ByteArray.empty t400 1), (.slice Ao28 t408.length co28), .string (a0.extract (t396 : Int).toNat a0.size)] 40 (0, 0))) ∧ Aside0 (Below w.heap.size w w'))
   case atStart => exact ⟨(1), (0), rs, H', ⟨Nat.le_refl _⟩, ⟨by (with_reducible repeat (first | apply Kd.R_alloc | apply Kd.R_drewN | apply Kd.R_drew)); exact Kd.R_mono HO402.out (fun _ hk => hk.2)⟩, ⟨by (with_reducible repeat (first | apply Kd.R_alloc | apply Kd.R_drewN | apply Kd.R_drew)); exact Kd.R_mono HO414.out (fun _ hk => hk.2)⟩, ⟨by (with_reducible repeat (first | apply Kd.R_alloc | apply Kd.R_drewN | apply Kd.R_drew)); exact HO410.out⟩, ⟨by (with_reducible repeat (first | refine blk_drewN ?_ _ | refine blk_drew ?_ | refine blk_alloc ?_ _)); exact BK394.out⟩, ⟨by (with_reducible repeat (first | refine blk_drewN ?_ _ | refine blk_drew ?_ | refine blk_alloc ?_ _)); exact BK411.out⟩, ⟨u38HB⟩⟩
   case round =>
    clear H'
    try clear c1
    try clear c2
    try clear p2
    try clear q2
    try clear c3
    try clear p3
    try clear q3
    try clear hx3
    try clear qi3
    try clear p4
    try clear q4
    try clear hx4
    try clear qi4
    try clear c5
    try clear c6
    try clear c6b0
    try clear c8
    try clear c10
    try clear c10b0
    try clear c10b1
    try clear c12
    try clear c12b0
    try clear c12b1
    try clear c13
    try clear c13b0
    try clear c13b1
    try clear c14
    try clear c14b0
    try clear c14b1
    try clear c16
    try clear c16b0
    try clear c16b1
    try clear c17
    try clear c17b0
    try clear c17b1
    try clear c23
    try clear q23
    try clear z9_0
    try clear z9_1
    try clear z9_2
    try clear z9_3
    try clear y9_0
    try clear y9_1
    try clear y9_2
    try clear y9_3
    try clear hx399_0
    try clear hx403_0
    try clear p2
    try clear p399
    try clear p403
    try clear q23
    try clear q399
    try clear q403
    obtain ⟨x9_2, x412000_2, rfl, HA, HK2, HO_6, HO_8, HO_412002, BK394, BK411, HB⟩ := hrel
    cases gk with
    | zero => exact absurd HA.out (by simp [spec_ReqRead.l0])
    | succ k2 =>
     have H := HA.out
     clear HA
     simp only [spec_ReqRead.l0] at H
     by_cases c34 : x9_2 < (t412.length : Int)
     rotate_left
     ·rw [if_neg c34] at H
      have c34b0 := decide_eq_false c34
      clear c34
      revert H
      refine ok1 fun t417 A43 H => ?_
      by_cases c44 : t417.toList = a0.toList
      rotate_left
      ·rw [if_neg c44] at H
       have c44b0 : (t417.toList == a0.toList) = false := beq_eq_false_iff_ne.mpr c44
       have c44b1 : (t417.toList != a0.toList) = true := bne_iff_ne.mpr c44
       simp only [Option.some.injEq, Prod.mk.injEq] at H
       obtain ⟨rfl, rfl, rfl, rfl, rfl⟩ := H
       obtain ⟨Ao51, co51, eo51⟩ := Kd.R_slice HO_8.out
       subst eo51
       have hnb52 := NB411_394.out
       have hnc52 := NB394_411.out
       obtain ⟨z53_0, y53_0, z53_1, y53_1, z53_2, y53_2, z53_3, y53_3⟩ := cl4 BK411
       go_wp2_with ((with_reducible refine gw ?_); first | (refine gl 59 Tryz.func31 #[.agg #[.int .i64 x412000_2, .string (rdOf ByteArray.empty t400 1), .slice Ao28 t408.length co28, .string (a0.extract (t396 : Int).toNat a0.size)]] ?_; (with_reducible refine (spec_ReqText.calls k2 x412000_2 (rdOf ByteArray.empty t400 1) _ _ t408 (a0.extract (t396 : Int).toNat a0.size) t417 _ ?side1 ?side2 A43.out).mono ?_); (case side1 => exact rc HO_412002); (case side2 => exact (Kd.R_reads' HO_412002.out).2.1); rintro e w54 ⟨rfl, hb⟩; refine ⟨_, rfl, ?_⟩; replace HO_6 := kr HO_6 hb; replace HO_8 := kr HO_8 hb; replace HO_412002 := kr HO_412002 hb; replace BK394 := kb BK394 hb; replace BK411 := kb BK411 hb; replace HB := am (below_step bl hb); clear hb; obtain ⟨z55_0, y55_0, z55_1, y55_1, z55_2, y55_2, z55_3, y55_3⟩ := cl4 BK394))
       refine bodyPost_ret (results_ct rfl _ _ gb394 40 #[.int .i64 0, .string (⟨#[]⟩ : ByteArray), .slice none 0 0, .string (⟨#[]⟩ : ByteArray)] (0, 0) _ rfl (pt0 BK394) Tryz.underlying40 rfl (by kernel_rfl)) rfl ?_
       exact ⟨_, rf, by first | exact Kd.R_nil _ _ _ _ _ | exact Kd.N_nil _ _ _ _ _ | exact Kd.V_nil _ _ _ _ _ | exact Kd.Q_nil _ _ _ _ _ | exact Kd.S_nil _ _ _ _ _, bl⟩
      rw [if_pos c44] at H
      have c44b0 : (t417.toList == a0.toList) = true := beq_iff_eq.mpr c44
      have c44b1 : (t417.toList != a0.toList) = false := bne_eq_false_iff_eq.mpr c44
      clear c44
      simp only [Option.some.injEq, Prod.mk.injEq] at H
      obtain ⟨rfl, rfl, rfl, rfl, rfl⟩ := H
      obtain ⟨Ao45, co45, eo45⟩ := Kd.R_slice HO_8.out
      subst eo45
      have hnb46 := NB411_394.out
      have hnc46 := NB394_411.out
      obtain ⟨z47_0, y47_0, z47_1, y47_1, z47_2, y47_2, z47_3, y47_3⟩ := cl4 BK411
      go_wp2_with ((with_reducible refine gw ?_); first | (refine gl 59 Tryz.func31 #[.agg #[.int .i64 x412000_2, .string (rdOf ByteArray.empty t400 1), .slice Ao28 t408.length co28, .string (a0.extract (t396 : Int).toNat a0.size)]] ?_; (with_reducible refine (spec_ReqText.calls k2 x412000_2 (rdOf ByteArray.empty t400 1) _ _ t408 (a0.extract (t396 : Int).toNat a0.size) t417 _ ?side1 ?side2 A43.out).mono ?_); (case side1 => exact rc HO_412002); (case side2 => exact (Kd.R_reads' HO_412002.out).2.1); rintro e w48 ⟨rfl, hb⟩; refine ⟨_, rfl, ?_⟩; replace HO_6 := kr HO_6 hb; replace HO_8 := kr HO_8 hb; replace HO_412002 := kr HO_412002 hb; replace BK394 := kb BK394 hb; replace BK411 := kb BK411 hb; replace HB := am (below_step bl hb); clear hb; obtain ⟨z49_0, y49_0, z49_1, y49_1, z49_2, y49_2, z49_3, y49_3⟩ := cl4 BK411; obtain ⟨z50_0, y50_0, z50_1, y50_1, z50_2, y50_2, z50_3, y50_3⟩ := cl4 BK394))
      refine bodyPost_ret (results_ct rfl _ _ gb394 40 #[.int .i64 x412000_2, .string (rdOf ByteArray.empty t400 1), .slice Ao28 t408.length co28, .string (a0.extract (t396 : Int).toNat a0.size)] (0, 0) _ rfl (pt0 BK394) Tryz.underlying40 rfl (by kernel_rfl)) rfl ?_
      exact ⟨_, rf, rj (Kd.R_types HO_412002.out BK394.out (by decide)) (fun _ hk => trivial), bl⟩
     rw [if_pos c34] at H
     have c34b0 := decide_eq_true c34
     clear c34
     revert H
     refine ifn fun c35 H => ?_
     have c35b0 := decide_eq_true c35
     clear c35
     revert H
     refine ifn fun c36 H => ?_
     have c36b0 := decide_eq_true c36
     have c36b1 : decide (0 < t400.length) = true := decide_eq_true (by omega)
     clear c36
     have HH37 := am H
     clear H
     obtain ⟨Ao38, co38, eo38⟩ := Kd.R_slice HO_8.out
     subst eo38
     try go_wp2
     replace HO_6 := am (Kd.R_drew HO_6.out)
     replace HO_8 := am (Kd.R_drew HO_8.out)
     replace HO_412002 := am (Kd.R_drew HO_412002.out)
     replace BK394 := am (blk_drew BK394.out)
     replace BK411 := am (blk_drew BK411.out)
     replace HB := am (below_drew1 HB.out)
     have p415 : 0 ≤ (x9_2 : Int) := od
     have q415 : x9_2 < (t412.length : Int) := od
     obtain ⟨ad415, e415, hx415_0⟩ := Kd.at_string (Kd.R_reads' HO_8.out).2.2 x9_2 p415 q415
     cases e415
     replace p415 := eq_true p415
     replace q415 := eq_true q415
     have p416 : 0 ≤ (0 : Int) := (by omega)
     have q416 : 0 < (t400.length : Int) := od
     obtain ⟨ad416, e416, hx416_0⟩ := Kd.at_string (Kd.R_reads' HO_6.out).2.2 0 p416 q416
     obtain rfl : ad403 = ad416 := (by injection e416)
     have qi416 : (0 < t400.length) = True := eq_true (by omega)
     (try rw [show ((0 : Int)).toNat = 0 from rfl] at hx416_0)
     (try rw [Addr.add_zero'] at hx416_0)
     replace p416 := eq_true p416
     replace q416 := eq_true q416
     refine start_ (n := 8) (S := fun w' => w'.cell? (ad415.add (x9_2).toNat) = some (.string (rdOf ByteArray.empty t412 x9_2)) ∧ w'.cell? ad403 = some (.string (rdOf ByteArray.empty t400 0))) (ds := []) ⟨br true [0, 8]⟩ (by kernel_rfl) rfl (by kernel_rfl) ⟨hx415_0, hx416_0⟩ (fun hHeld => ?_); refine with_tabW spec_ReqRead.tab12 spec_ReqRead.bits12 (fun HT_ HW_ => ?_)
     generalize wr.drew = w39 at HO_6 HO_8 HO_412002 BK394 BK411 HB hx415_0 hx416_0 hHeld ⊢
     refine pu 0 48 [1, 7] ?_
     refine pu 1 49 [2, 6] ?_
     refine pu 2 50 [3, 5] ?_
     refine pu 4 52 [3, 1, 1, 3] ?_
     refine pu 5 53 [3, 1, 2, 2] ?_
     refine tk 3 51 [6, 2] ?_
     refine tk 6 54 [7, 1] ?_
     refine pu 7 55 [8] ?_
     refine done_ (done_of HT_.out (by kernel_rfl)) ?_
     go_upto_if 55 with (fail)
     have H := HH37.out
     clear HH37
     by_cases c40 : (rdOf ByteArray.empty t412 x9_2).toList = (rdOf ByteArray.empty t400 0).toList
     rotate_left
     ·rw [if_neg c40] at H
      have c40b0 : ((rdOf ByteArray.empty t412 x9_2).toList == (rdOf ByteArray.empty t400 0).toList) = false := beq_eq_false_iff_ne.mpr c40
      have c40b1 : ((rdOf ByteArray.empty t412 x9_2).toList != (rdOf ByteArray.empty t400 0).toList) = true := bne_iff_ne.mpr c40
      (first | rw [c40b0] | (simp only [i64_w, i32_w]; rw [c40b0]) | skip)
      have H' := am H
      clear H
      go_wp2
      go_roundg k2
      case measure => have := HJ2.out; have := HK2.out; omega
      case rel => exact ⟨(wrap64 (x9_2 + 1)), (x412000_2), rs, H', ⟨by have := HJ2.out; have := HK2.out; omega⟩, ⟨by (with_reducible repeat (first | apply Kd.R_alloc | apply Kd.R_drewN | apply Kd.R_drew)); exact HO_6.out⟩, ⟨by (with_reducible repeat (first | apply Kd.R_alloc | apply Kd.R_drewN | apply Kd.R_drew)); exact HO_8.out⟩, ⟨by (with_reducible repeat (first | apply Kd.R_alloc | apply Kd.R_drewN | apply Kd.R_drew)); exact HO_412002.out⟩, ⟨by (with_reducible repeat (first | refine blk_drewN ?_ _ | refine blk_drew ?_ | refine blk_alloc ?_ _)); exact BK394.out⟩, ⟨by (with_reducible repeat (first | refine blk_drewN ?_ _ | refine blk_drew ?_ | refine blk_alloc ?_ _)); exact BK411.out⟩, ⟨u38HB⟩⟩
     rw [if_pos c40] at H
     have c40b0 : ((rdOf ByteArray.empty t412 x9_2).toList == (rdOf ByteArray.empty t400 0).toList) = true := beq_iff_eq.mpr c40
     have c40b1 : ((rdOf ByteArray.empty t412 x9_2).toList != (rdOf ByteArray.empty t400 0).toList) = false := bne_eq_false_iff_eq.mpr c40
     clear c40
     (first | rw [c40b0] | (simp only [i64_w, i32_w]; rw [c40b0]) | skip)
     have H' := am H
     clear H
     have hnb41 := NB411_394.out
     have hnc41 := NB394_411.out
     obtain ⟨z42_0, y42_0, z42_1, y42_1, z42_2, y42_2, z42_3, y42_3⟩ := cl4 BK411
     go_wp2
     go_roundg k2
     case measure => have := HJ2.out; have := HK2.out; omega
     case rel => exact ⟨(wrap64 (x9_2 + 1)), (x9_2), rs, H', ⟨by have := HJ2.out; have := HK2.out; omega⟩, ⟨rj (Kd.R_types HO_6.out BK411.out (by decide)) (fun _ hk => hk.1)⟩, ⟨rj (Kd.R_types HO_8.out BK411.out (by decide)) (fun _ hk => hk.1)⟩, ⟨rj (Kd.R_types HO_412002.out BK411.out (by decide)) (fun _ hk => trivial)⟩, ⟨by (with_reducible repeat (first | refine blk_drewN ?_ _ | refine blk_drew ?_ | refine blk_alloc ?_ _)); refine blk_far ?_ NB394_411.out _; (with_reducible repeat (first | refine blk_drewN ?_ _ | refine blk_drew ?_ | refine blk_alloc ?_ _)); exact BK394.out⟩, ⟨pt0 BK411⟩, ⟨u38HB⟩⟩

end Go.Proofs.YtjckfmipegemcaaGreatDoor.All
