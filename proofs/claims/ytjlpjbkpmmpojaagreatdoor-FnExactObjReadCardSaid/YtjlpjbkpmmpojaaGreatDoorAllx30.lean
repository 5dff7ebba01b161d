-- Written by a program of this session (wip/tools/hprint.py) out of the translation. Lean checks it.
import Derived.Test.YtjlpjbkpmmpojaaGreatDoorAllx0
import Derived.Test.YtjlpjbkpmmpojaaGreatDoorAllx1
import Derived.Test.YtjlpjbkpmmpojaaGreatDoorAllx29
namespace Go.Proofs.YtjlpjbkpmmpojaaGreatDoor.All
open Go.RowKit Go.Proofs.YtjlpjbkpmmpojaaGreatDoorW.PrintWords Go.Proofs.YtjlpjbkpmmpojaaGreatDoorW.PrintLast Go.Proofs.YtjlpjbkpmmpojaaGreatDoorW.PrintMore
attribute [local go_sem] max2_int min2_int max_two min_two max_three min_three max_four min_four   -- for this text's walks alone
set_option linter.unusedVariables false
set_option linter.unusedSimpArgs false

/-! ### spec_l3Fields: function 154 -/
theorem u154HB {p : Prop} (h : p := by repeat (first | (with_reducible first | exact HB.out | apply below_alloc | apply pw_below_drewN | apply below_drew1 | refine below_set ?_ GE1333.out) | exact HB.out)) : p := h
mutual
def spec_l3Fields.l0 : Nat → List ByteArray → List (S116) → Int → Option ((List (S116)))
 | 0, _, _, _ => none
 | k + 1, x0, x3, x4 => if x4 < (x0.length : Int) then (spec_l3Fields.l1 k x0 x3 x4 0) else (some x3)
def spec_l3Fields.l1 : Nat → List ByteArray → List (S116) → Int → Int → Option ((List (S116)))
 | 0, _, _, _, _ => none
 | k + 1, x0, x3, x4, x5 => if 0 ≤ x4 then (if x4 < (x0.length : Int) then (if (wrap64 (x5 + 1)) < ((rdOf ByteArray.empty x0 x4).size : Int) then (if 0 ≤ x5 then (if x5 < ((rdOf ByteArray.empty x0 x4).size : Int) then (if (bt (rdOf ByteArray.empty x0 x4) x5) = 58 then (if 0 ≤ (wrap64 (x5 + 1)) then (spec_l3Fields.j2 k x0 x3 x4 x5 ((bt (rdOf ByteArray.empty x0 x4) (wrap64 (x5 + 1))) == 32)) else (none)) else (spec_l3Fields.j2 k x0 x3 x4 x5 false)) else (none)) else (none)) else (spec_l3Fields.l0 k x0 x3 (wrap64 (x4 + 1)))) else (none)) else (none)
def spec_l3Fields.j2 : Nat → List ByteArray → List (S116) → Int → Int → Bool → Option ((List (S116)))
 | 0, _, _, _, _, _ => none
 | k + 1, x0, x3, x4, x5, x40 => if x40 = true then (if 0 ≤ x4 then (if x4 < (x0.length : Int) then (if 0 ≤ x5 then (if x5 ≤ ((rdOf ByteArray.empty x0 x4).size : Int) then (if 0 ≤ (wrap64 (x5 + 2)) then (if (wrap64 (x5 + 2)) ≤ ((rdOf ByteArray.empty x0 x4).size : Int) then (if ((rdOf ByteArray.empty x0 x4).extract 0 (x5 : Int).toNat).toList = ([99, 111, 110, 116, 101, 110, 116, 45, 108, 101, 110, 103, 116, 104] : List UInt8) then (spec_l3Fields.l0 k x0 x3 (wrap64 (x4 + 1))) else (if x3.length < 4398046511104 then (spec_l3Fields.l0 k x0 (x3 ++ [(⟨(rdOf ByteArray.empty x0 x4).extract 0 (x5 : Int).toNat, (rdOf ByteArray.empty x0 x4).extract ((wrap64 (x5 + 2)) : Int).toNat (rdOf ByteArray.empty x0 x4).size⟩ : S116)]) (wrap64 (x4 + 1))) else (none))) else (none)) else (none)) else (none)) else (none)) else (none)) else (none)) else (spec_l3Fields.l1 k x0 x3 x4 (wrap64 (x5 + 1)))
end
def spec_l3Fields.f (k : Nat) (l0 : List ByteArray) : Option ((List (S116))) := spec_l3Fields.l0 k l0 (([] : List (S116))) 0
theorem spec_l3Fields.mono_l : ∀ k, (∀ y0 y1 y2, LeO (spec_l3Fields.l0 k y0 y1 y2) (spec_l3Fields.l0 (k + 1) y0 y1 y2)) ∧ (∀ y0 y1 y2 y3, LeO (spec_l3Fields.l1 k y0 y1 y2 y3) (spec_l3Fields.l1 (k + 1) y0 y1 y2 y3)) ∧ (∀ y0 y1 y2 y3 y4, LeO (spec_l3Fields.j2 k y0 y1 y2 y3 y4) (spec_l3Fields.j2 (k + 1) y0 y1 y2 y3 y4))
 | 0 => ⟨fun _ _ _ r h => by simp [spec_l3Fields.l0] at h, fun _ _ _ _ r h => by simp [spec_l3Fields.l1] at h, fun _ _ _ _ _ r h => by simp [spec_l3Fields.j2] at h⟩
 | k + 1 => by
  obtain ⟨ih0, ih1, ih2⟩ := spec_l3Fields.mono_l k
  refine ⟨?_, ?_, ?_⟩
  ·intro y0 y1 y2
   unfold spec_l3Fields.l0
   exact mo
  ·intro y0 y1 y2 y3
   unfold spec_l3Fields.l1
   exact mo
  ·intro y0 y1 y2 y3 y4
   unfold spec_l3Fields.j2
   exact mo
theorem spec_l3Fields.mono : ∀ a0 k, LeO (spec_l3Fields.f k a0) (spec_l3Fields.f (k + 1) a0) := by
 intro a0 k
 obtain ⟨ih0, ih1, ih2⟩ := spec_l3Fields.mono_l k
 unfold spec_l3Fields.f
 exact mo
def spec_l3Fields.T9 : Bool × List (List Nat × List Nat) := (true, [([], []), ([], []), ([0, 1], [0, 1]), ([2], [2]), ([], []), ([3, 4], [3, 4]), ([], []), ([], []), ([6, 7], [6, 7]), ([8], [8]), ([], []), ([10], [10]), ([9, 11], [9, 11]), ([5, 12], [5, 12]), ([], []), ([14, 13, 0, 1, 2, 3, 4, 5, 6, 7, 8, 9, 10, 11, 12, 13, 14], [13, 14])])
def spec_l3Fields.B9 : List Nat := [0, 0, 3, 7, 0, 31, 0, 0, 192, 448, 0, 1024, 4032, 8191, 0, 32767]
theorem spec_l3Fields.tab9 : rtab .any (opsOf Tryz.f154 9) = spec_l3Fields.T9 := by kernel_rfl
theorem spec_l3Fields.bits9 : waitsOk spec_l3Fields.T9.2 spec_l3Fields.B9 = true := by kernel_rfl
set_option maxHeartbeats 8000000 in
set_option maxRecDepth 100000 in
theorem spec_l3Fields.calls (k : Nat) (A0 : Option Addr) (c0 : Nat) (l0 : List ByteArray) (r : List (S116)) (w : World) (hr0 : Kd.C Kd.string w A0 l0.length l0) (hc0 : l0.length ≤ c0) (h : spec_l3Fields.f k l0 = some r) :
  Calls Tryz.prog 154 #[.slice A0 l0.length c0] w fun e w' => ∃ v0_ : Value, e = .returned (v0_) ∧ Kd.R k116 116 w' w.heap.size (fun _ => True) v0_ r ∧ Below w.heap.size w w' := by
 have hu116 := Tryz.underlying116
 have HR0 := am hr0
 have HC0 := am hc0
 clear hr0 hc0
 have HB := am (Below.refl w.heap.size w)
 unfold spec_l3Fields.f at h
 have H := h
 clear h
 obtain ⟨y1325, hy1325⟩ : ∃ y_ : List (S116), y_ = (([] : List (S116))) := ⟨_, rfl⟩
 replace H : (spec_l3Fields.l0 k l0 y1325 0) = some r := by first | (rw [hy1325]; with_reducible exact H) | (have H2_ := (Option.bind_some _ _).symm.trans H; rw [hy1325]; with_reducible exact H2_) | (have H2_ := (Option.bind_some _ _).symm.trans H; with_reducible exact H2_) | with_reducible exact H | (rw [hy1325]; exact H) | exact H
 have Ny1325 := am hy1325
 clear hy1325
 have H' := am H
 clear H
 go_enter Tryz.func154, Tryz.ntmps154
 go_wp2_with (first | ((with_reducible refine gate_dst (N := 7) rfl ?_); refine Kd.R_lit k116 _ 116 ?hg (N := 7) ?hd (xs := ([] : List (S116))) (inner := []) (ok := fun _ => True) (okp := fun _ => True) ?hr ?hp (fun _ hk => hk) trivial (Below.refl _ _) (Nat.le_refl _) (by simp) ?_; (case hd => rfl); (case hg => rfl); (case hr => first | (go_simp; done) | (go_simp; rfl)); (case hp => exact (Reps.none _ _)); intro v1326 w2 ho3 hb hg_ hnew_; clear hg_ hnew_; (first | rw [← Ny1325.out] at ho3 | (simp only [Int.reduceToNat] at ho3; rw [← Ny1325.out] at ho3)); have HO1327 := am (Kd.R_lower ho3 (below_size bl)); replace HB := am (below_step bl hb); clear hb ho3))
 (try simp only [Act.put, List.setIfInBounds_toArray, List.set_cons_zero, List.set_cons_succ])
 go_loopg [3, 4] k (fun kq v3 v4 w' => ∃ (x3_1 : List (S116)) (x4_1 : Int), v4 = .int .i64 x4_1 ∧ Aside0 (spec_l3Fields.l0 kq l0 x3_1 x4_1 = some r) ∧ Aside0 (kq ≤ k) ∧ Aside0 (Kd.R k116 116 w' w.heap.size (fun _ => True) v3 x3_1) ∧ Aside0 (Below w.heap.size w w'))
 case atStart => exact ⟨(y1325), (0), rs, H', ⟨Nat.le_refl _⟩, ⟨by (with_reducible repeat (first | apply Kd.R_alloc | apply Kd.R_drewN | apply Kd.R_drew)); exact HO1327.out⟩, ⟨u154HB⟩⟩
 case round =>
  clear H'
  try clear c1
  try clear p2
  obtain ⟨x3_1, x4_1, rfl, HA, HK1, HO_3, HB⟩ := hrel
  cases gk with
  | zero => exact absurd HA.out (by simp [spec_l3Fields.l0])
  | succ k1 =>
   have H := HA.out
   clear HA
   simp only [spec_l3Fields.l0] at H
   by_cases c4 : x4_1 < (l0.length : Int)
   rotate_left
   ·rw [if_neg c4] at H
    have c4b0 := decide_eq_false c4
    clear c4
    obtain rfl := Option.some.inj H
    go_wp2
    go_ret
    exact ⟨_, rf, by (with_reducible repeat (first | apply Kd.R_alloc | apply Kd.R_drewN | apply Kd.R_drew)); exact HO_3.out, bl⟩
   rw [if_pos c4] at H
   have c4b0 := decide_eq_true c4
   clear c4
   have H' := am H
   clear H
   go_wp2
   (try simp only [Act.put, List.setIfInBounds_toArray, List.set_cons_zero, List.set_cons_succ])
   go_loopg [3, 5] k1 (fun kq v3 v5 w' => ∃ (x3_2 : List (S116)) (x5_2 : Int), v5 = .int .i64 x5_2 ∧ Aside0 (spec_l3Fields.l1 kq l0 x3_2 x4_1 x5_2 = some r) ∧ Aside0 (kq ≤ k1) ∧ Aside0 (Kd.R k116 116 w' w.heap.size (fun _ => True) v3 x3_2) ∧ Aside0 (Below w.heap.size w w'))
   case atStart => exact ⟨(x3_1), (0), rs, H', ⟨Nat.le_refl _⟩, ⟨by (with_reducible repeat (first | apply Kd.R_alloc | apply Kd.R_drewN | apply Kd.R_drew)); exact HO_3.out⟩, ⟨u154HB⟩⟩
   case round =>
    clear H'
    try clear c1
    try clear p2
    try clear c4
    try clear c4b0
    try clear p2
    obtain ⟨x3_2, x5_2, rfl, HA, HK2, HO_3, HB⟩ := hrel
    cases gk with
    | zero => exact absurd HA.out (by simp [spec_l3Fields.l1])
    | succ k2 =>
     have H := HA.out
     clear HA
     simp only [spec_l3Fields.l1] at H
     revert H
     refine ifn fun c5 H => ?_
     have c5b0 := decide_eq_true c5
     clear c5
     revert H
     refine ifn fun c6 H => ?_
     have c6b0 := decide_eq_true c6
     clear c6
     by_cases c7 : (wrap64 (x5_2 + 1)) < ((rdOf ByteArray.empty l0 x4_1).size : Int)
     rotate_left
     ·rw [if_neg c7] at H
      have c7b0 := decide_eq_false c7
      clear c7
      have H' := am H
      clear H
      have p1328 : 0 ≤ (x4_1 : Int) := od
      have q1328 : x4_1 < (l0.length : Int) := od
      obtain ⟨ad1328, e1328, hx1328_0⟩ := Kd.at_string HR0.out x4_1 p1328 q1328
      cases e1328
      replace hx1328_0 := hcw hx1328_0
      replace p1328 := eq_true p1328
      replace q1328 := eq_true q1328
      go_wp2
      go_roundg k2
      case measure => have := HK1.out; have := HK2.out; omega
      case rel => exact ⟨(x3_2), (wrap64 (x4_1 + 1)), rs, H', ⟨by have := HK1.out; have := HK2.out; omega⟩, ⟨by (with_reducible repeat (first | apply Kd.R_alloc | apply Kd.R_drewN | apply Kd.R_drew)); exact HO_3.out⟩, ⟨u154HB⟩⟩
     rw [if_pos c7] at H
     have c7b0 := decide_eq_true c7
     clear c7
     have HC8 := am H
     clear H
     have p1328 : 0 ≤ (x4_1 : Int) := od
     have q1328 : x4_1 < (l0.length : Int) := od
     obtain ⟨ad1328, e1328, hx1328_0⟩ := Kd.at_string HR0.out x4_1 p1328 q1328
     cases e1328
     replace hx1328_0 := hcw hx1328_0
     replace p1328 := eq_true p1328
     replace q1328 := eq_true q1328
     go_upto_region 8 with (fail)
     go_cut [40] (fun v40 wc => ∃ (kq : Nat) (x40_7 : Bool), v40 = .bool x40_7 ∧ Aside0 (spec_l3Fields.j2 kq l0 x3_2 x4_1 x5_2 x40_7 = some r) ∧ Aside0 (kq ≤ k2) ∧ Aside0 (Kd.R k116 116 wc w.heap.size (fun _ => True) u3 x3_2) ∧ Aside0 (Below w.heap.size w wc))
     case first =>
      have H := HC8.out
      clear HC8
      revert H
      refine ifn fun c9 H => ?_
      have c9b0 := decide_eq_true c9
      clear c9
      (first | rw [c9b0] | (simp only [i64_w, i32_w]; rw [c9b0]) | skip)
      revert H
      refine ifn fun c10 H => ?_
      have c10b0 := decide_eq_true c10
      clear c10
      by_cases c12 : (bt (rdOf ByteArray.empty l0 x4_1) x5_2) = 58
      rotate_left
      ·rw [if_neg c12] at H
       have c12b0 : ((bt (rdOf ByteArray.empty l0 x4_1) x5_2) == 58) = false := beq_eq_false_iff_ne.mpr c12
       have c12b1 : ((bt (rdOf ByteArray.empty l0 x4_1) x5_2) != 58) = true := bne_iff_ne.mpr c12
       have H' := am H
       clear H
       have p1329 : 0 ≤ (x4_1 : Int) := od
       have q1329 : x4_1 < (l0.length : Int) := od
       obtain ⟨ad1329, e1329, hx1329_0⟩ := Kd.at_string HR0.out x4_1 p1329 q1329
       obtain rfl : ad1328 = ad1329 := (by injection e1329)
       replace hx1329_0 := hcw hx1329_0
       replace p1329 := eq_true p1329
       replace q1329 := eq_true q1329
       have p11 : 0 ≤ (x5_2 : Int) := od
       have q11 : x5_2 < ((rdOf ByteArray.empty l0 x4_1).size : Int) := od
       have hx11 := bt_at (rdOf ByteArray.empty l0 x4_1) x5_2
       replace p11 := eq_true p11
       replace q11 := eq_true q11
       go_wp2
       go_meet
       case rel => exact ⟨_, (false), rs, H', ⟨by have := HK1.out; have := HK2.out; first | omega | exact Nat.le_refl _⟩, ⟨by (with_reducible repeat (first | apply Kd.R_alloc | apply Kd.R_drewN | apply Kd.R_drew)); exact HO_3.out⟩, ⟨u154HB⟩⟩
      rw [if_pos c12] at H
      have c12b0 : ((bt (rdOf ByteArray.empty l0 x4_1) x5_2) == 58) = true := beq_iff_eq.mpr c12
      have c12b1 : ((bt (rdOf ByteArray.empty l0 x4_1) x5_2) != 58) = false := bne_eq_false_iff_eq.mpr c12
      clear c12
      obtain ⟨ji13, hji13⟩ : ∃ j_ : Int, (wrap64 (x5_2 + 1)) = j_ := ⟨_, rfl⟩
      replace H : (if 0 ≤ (ji13) then (spec_l3Fields.j2 k2 l0 x3_2 x4_1 x5_2 ((bt (rdOf ByteArray.empty l0 x4_1) (ji13)) == 32)) else (none)) = some r := by first | (rw [hji13] at H; exact H) | (simp only [hji13] at H ⊢; exact H)
      (try rw [hji13] at c7b0)
      have hji13w : (IntKind.i64.wrap (x5_2 + 1)) = ji13 := (i64_w _).trans hji13
      revert H
      refine ifn fun c14 H => ?_
      have c14b0 := decide_eq_true c14
      clear c14
      have H' := am H
      clear H
      have p1329 : 0 ≤ (x4_1 : Int) := od
      have q1329 : x4_1 < (l0.length : Int) := od
      obtain ⟨ad1329, e1329, hx1329_0⟩ := Kd.at_string HR0.out x4_1 p1329 q1329
      obtain rfl : ad1328 = ad1329 := (by injection e1329)
      replace hx1329_0 := hcw hx1329_0
      replace p1329 := eq_true p1329
      replace q1329 := eq_true q1329
      have p11 : 0 ≤ (x5_2 : Int) := od
      have q11 : x5_2 < ((rdOf ByteArray.empty l0 x4_1).size : Int) := od
      have hx11 := bt_at (rdOf ByteArray.empty l0 x4_1) x5_2
      replace p11 := eq_true p11
      replace q11 := eq_true q11
      have p1330 : 0 ≤ (x4_1 : Int) := od
      have q1330 : x4_1 < (l0.length : Int) := od
      obtain ⟨ad1330, e1330, hx1330_0⟩ := Kd.at_string HR0.out x4_1 p1330 q1330
      obtain rfl : ad1328 = ad1330 := (by injection e1330)
      replace hx1330_0 := hcw hx1330_0
      replace p1330 := eq_true p1330
      replace q1330 := eq_true q1330
      have p15 : 0 ≤ ((ji13) : Int) := od
      have q15 : (ji13) < ((rdOf ByteArray.empty l0 x4_1).size : Int) := od
      have hx15 := bt_at (rdOf ByteArray.empty l0 x4_1) (ji13)
      replace p15 := eq_true p15
      replace q15 := eq_true q15
      go_wp2
      go_meet
      case rel => exact ⟨_, (((bt (rdOf ByteArray.empty l0 x4_1) (ji13)) == 32)), (by first | rfl | (simp; done) | (simp only [← hji13] <;> (first | rfl | simp)) | (simp [*]; done)), H', ⟨by have := HK1.out; have := HK2.out; first | omega | exact Nat.le_refl _⟩, ⟨by (with_reducible repeat (first | apply Kd.R_alloc | apply Kd.R_drewN | apply Kd.R_drew)); exact HO_3.out⟩, ⟨u154HB⟩⟩
     case rest =>
      clear HC8
      try clear c1
      try clear p1
      try clear q1
      try clear hx1
      try clear p2
      try clear c4
      try clear c4b0
      try clear c5
      try clear c5b0
      try clear c6
      try clear c6b0
      try clear p6
      try clear c7
      try clear c7b0
      try clear c9
      try clear c9b0
      try clear c10
      try clear c10b0
      try clear p11
      try clear q11
      try clear hx11
      try clear c12
      try clear c12b0
      try clear c12b1
      try clear p13
      try clear q13
      try clear hx13
      try clear c14
      try clear c14b0
      try clear c15
      try clear p15
      try clear q15
      try clear hx15
      try clear hx1328_0
      try clear hx1329_0
      try clear hx1330_0
      try clear p11
      try clear p1328
      try clear p1329
      try clear p1330
      try clear p15
      try clear p2
      try clear q11
      try clear q1328
      try clear q1329
      try clear q1330
      try clear q15
      obtain ⟨kq, x40_7, rfl, HA, HJ7, HO_3, HB⟩ := hcut
      cases kq with
      | zero => exact absurd HA.out (by simp [spec_l3Fields.j2])
      | succ kj7 =>
       have H := HA.out
       clear HA
       simp only [spec_l3Fields.j2] at H
       by_cases c16 : x40_7 = true
       rotate_left
       ·replace c16 := Bool.eq_false_iff.mpr c16
        subst c16
        rw [if_neg (show ¬ (false = true) by decide)] at H
        have H' := am H
        clear H
        go_wp2
        go_roundg kj7
        case measure => have := HK1.out; have := HK2.out; have := HJ7.out; omega
        case rel => exact ⟨(x3_2), (wrap64 (x5_2 + 1)), rs, H', ⟨by have := HK1.out; have := HK2.out; have := HJ7.out; omega⟩, ⟨by (with_reducible repeat (first | apply Kd.R_alloc | apply Kd.R_drewN | apply Kd.R_drew)); exact HO_3.out⟩, ⟨u154HB⟩⟩
       subst c16
       rw [if_pos rfl] at H
       revert H
       refine ifn fun c17 H => ?_
       have c17b0 := decide_eq_true c17
       clear c17
       revert H
       refine ifn fun c18 H => ?_
       have c18b0 := decide_eq_true c18
       clear c18
       revert H
       refine ifn fun c19 H => ?_
       have c19b0 := eq_true c19
       have c19b1 := decide_eq_true c19
       clear c19
       revert H
       refine ifn fun c20 H => ?_
       have c20b0 := eq_true c20
       have c20b1 := decide_eq_true c20
       clear c20
       obtain ⟨ji21, hji21⟩ : ∃ j_ : Int, (wrap64 (x5_2 + 2)) = j_ := ⟨_, rfl⟩
       replace H : (if 0 ≤ (ji21) then (if (ji21) ≤ ((rdOf ByteArray.empty l0 x4_1).size : Int) then (if ((rdOf ByteArray.empty l0 x4_1).extract 0 (x5_2 : Int).toNat).toList = ([99, 111, 110, 116, 101, 110, 116, 45, 108, 101, 110, 103, 116, 104] : List UInt8) then (spec_l3Fields.l0 kj7 l0 x3_2 (wrap64 (x4_1 + 1))) else (if x3_2.length < 4398046511104 then (spec_l3Fields.l0 kj7 l0 (x3_2 ++ [(⟨(rdOf ByteArray.empty l0 x4_1).extract 0 (x5_2 : Int).toNat, (rdOf ByteArray.empty l0 x4_1).extract ((ji21) : Int).toNat (rdOf ByteArray.empty l0 x4_1).size⟩ : S116)]) (wrap64 (x4_1 + 1))) else (none))) else (none)) else (none)) = some r := by first | (rw [hji21] at H; exact H) | (simp only [hji21] at H ⊢; exact H)
       have hji21w : (IntKind.i64.wrap (x5_2 + 2)) = ji21 := (i64_w _).trans hji21
       revert H
       refine ifn fun c22 H => ?_
       have c22b0 := eq_true c22
       have c22b1 := decide_eq_true c22
       clear c22
       revert H
       refine ifn fun c23 H => ?_
       have c23b0 := eq_true c23
       have c23b1 := decide_eq_true c23
       clear c23
       by_cases c24 : ((rdOf ByteArray.empty l0 x4_1).extract 0 (x5_2 : Int).toNat).toList = ([99, 111, 110, 116, 101, 110, 116, 45, 108, 101, 110, 103, 116, 104] : List UInt8)
       ·rw [if_pos c24] at H
        have c24b0 : (((rdOf ByteArray.empty l0 x4_1).extract 0 (x5_2 : Int).toNat).toList == ([99, 111, 110, 116, 101, 110, 116, 45, 108, 101, 110, 103, 116, 104] : List UInt8)) = true := beq_iff_eq.mpr c24
        have c24b1 : (((rdOf ByteArray.empty l0 x4_1).extract 0 (x5_2 : Int).toNat).toList != ([99, 111, 110, 116, 101, 110, 116, 45, 108, 101, 110, 103, 116, 104] : List UInt8)) = false := bne_eq_false_iff_eq.mpr c24
        clear c24
        have H' := am H
        clear H
        try go_wp2
        replace HO_3 := am (Kd.R_drew HO_3.out)
        replace HB := am (below_drew1 HB.out)
        have p1331 : 0 ≤ (x4_1 : Int) := od
        have q1331 : x4_1 < (l0.length : Int) := od
        obtain ⟨ad1331, e1331, hx1331_0⟩ := Kd.at_string HR0.out x4_1 p1331 q1331
        have hw1331_0 := hx1331_0
        obtain rfl : ad1328 = ad1331 := (by injection e1331)
        replace hx1331_0 := hcw hx1331_0
        replace p1331 := eq_true p1331
        replace q1331 := eq_true q1331
        have p1332 : 0 ≤ (x4_1 : Int) := od
        have q1332 : x4_1 < (l0.length : Int) := od
        obtain ⟨ad1332, e1332, hx1332_0⟩ := Kd.at_string HR0.out x4_1 p1332 q1332
        have hw1332_0 := hx1332_0
        obtain rfl : ad1328 = ad1332 := (by injection e1332)
        replace hx1332_0 := hcw hx1332_0
        replace p1332 := eq_true p1332
        replace q1332 := eq_true q1332
        refine start_ (n := 16) (S := fun w' => w'.cell? (ad1328.add (x4_1).toNat) = some (.string (rdOf ByteArray.empty l0 x4_1)) ∧ w'.cell? (ad1328.add (x4_1).toNat) = some (.string (rdOf ByteArray.empty l0 x4_1))) (ds := []) ⟨br true [0, 16]⟩ (by kernel_rfl) rfl (by kernel_rfl) ⟨(hcw hw1331_0), (hcw hw1332_0)⟩ (fun hHeld => ?_); refine with_tabW spec_l3Fields.tab9 spec_l3Fields.bits9 (fun HT_ HW_ => ?_)
        generalize wc.drew = w25 at HO_3 HB hx1331_0 hx1332_0 hHeld ⊢
        refine pu 0 41 [1, 15] ?_
        refine pu 1 42 [2, 14] ?_
        refine pu 2 43 [3, 13] ?_
        refine pu 4 45 [3, 1, 1, 11] ?_
        refine pu 6 47 [3, 1, 1, 1, 1, 9] ?_
        refine pu 7 48 [3, 1, 1, 1, 2, 8] ?_
        refine pu 8 49 [3, 1, 1, 1, 3, 7] ?_
        refine pu 10 51 [3, 1, 1, 1, 3, 1, 1, 5] ?_
        refine pu 11 52 [3, 1, 1, 1, 3, 1, 2, 4] ?_
        refine tk 3 44 [5, 1, 3, 1, 2, 4] ?_
        refine pu 5 46 [9, 1, 2, 4] ?_
        refine tk 9 50 [12, 4] ?_
        refine pu 12 53 [13, 3] ?_
        refine pu 13 54 [14, 2] ?_
        refine one_ (i := 14) (N := some 6) #[true, true, true, true, true, true, true, true, true, true, true, true, true, true, true, false] rfl rfl (one_of HT_.out (by kernel_rfl)) (by decide) (fun K hK => ?_)
        refine box_step ?hg (N := 6) ?hd (cs := #[.string (⟨#[]⟩ : ByteArray), .string (⟨#[]⟩ : ByteArray)]) (t := 116) ?hr ?_; (case hd => rfl); (case hg => rfl); (case hr => first | (go_simp; done) | (go_simp; rfl))
        intro gb1333 hg w26 hbox hb
        replace HO_3 := am (Kd.R_below (Kd.R_elderB (ro HO_3) gb1333 (Nat.le_of_eq hg.symm)) hb)
        have BK1333 := am (hbox)
        have GW1333 := am (sz hg : w.heap.size ≤ gb1333)
        have GE1333 := am (sz hg : w.heap.size ≤ gb1333)
        replace HB := am (below_step bl hb)
        clear hb hbox hg
        refine hK.out _ _ ⟨(hcw hw1331_0), (hcw hw1332_0)⟩ (fun hHeld => ?_)
        clear hK K
        refine nm 6 ?_
        refine one_ (i := 15) (N := none) #[true, true, true, true, true, true, true, true, true, true, true, true, true, true, true, true] rfl rfl (one_of HT_.out (by kernel_rfl)) (by decide) (fun K hK => ?_)
        have hs27 : w26.cell? ⟨gb1333, 0, none⟩ = some (.string (⟨#[]⟩ : ByteArray)) := bc BK1333
        have hfs27 := blk_frozen BK1333.out 0
        have hs28 : w26.cell? ⟨gb1333, 1, none⟩ = some (.string (⟨#[]⟩ : ByteArray)) := bc BK1333
        have hfs28 := blk_frozen BK1333.out 1
        refine skip_ (w1 := ?_) (by rfl) rfl ?_ ?_
        rotate_left
        ·go_simp
         rfl
        refine hK.out _ _ ⟨((cell_far (p := ⟨gb1333, _, none⟩) (by first | exact Nat.ne_of_lt (Nat.lt_of_lt_of_le (by have := World.block_lt_of_cell? _ _ hw1331_0; first | rwa [add_block] at this | exact this) GW1333.out) | (rw [add_block]; exact Nat.ne_of_lt (Nat.lt_of_lt_of_le (by have := World.block_lt_of_cell? _ _ hw1331_0; first | rwa [add_block] at this | exact this) GW1333.out)) | (show (Addr.add _ _).block ≠ _; rw [add_block]; exact Nat.ne_of_lt (Nat.lt_of_lt_of_le (by have := World.block_lt_of_cell? _ _ hw1331_0; first | rwa [add_block] at this | exact this) GW1333.out)) | (dsimp only; exact Nat.ne_of_lt (Nat.lt_of_lt_of_le (by have := World.block_lt_of_cell? _ _ hw1331_0; first | rwa [add_block] at this | exact this) GW1333.out))) _).trans (((cell_far (p := ⟨gb1333, _, none⟩) (by first | exact Nat.ne_of_lt (Nat.lt_of_lt_of_le (by have := World.block_lt_of_cell? _ _ hw1331_0; first | rwa [add_block] at this | exact this) GW1333.out) | (rw [add_block]; exact Nat.ne_of_lt (Nat.lt_of_lt_of_le (by have := World.block_lt_of_cell? _ _ hw1331_0; first | rwa [add_block] at this | exact this) GW1333.out)) | (show (Addr.add _ _).block ≠ _; rw [add_block]; exact Nat.ne_of_lt (Nat.lt_of_lt_of_le (by have := World.block_lt_of_cell? _ _ hw1331_0; first | rwa [add_block] at this | exact this) GW1333.out)) | (dsimp only; exact Nat.ne_of_lt (Nat.lt_of_lt_of_le (by have := World.block_lt_of_cell? _ _ hw1331_0; first | rwa [add_block] at this | exact this) GW1333.out))) _).trans (hHeld.1)))), ((cell_far (p := ⟨gb1333, _, none⟩) (by first | exact Nat.ne_of_lt (Nat.lt_of_lt_of_le (by have := World.block_lt_of_cell? _ _ hw1332_0; first | rwa [add_block] at this | exact this) GW1333.out) | (rw [add_block]; exact Nat.ne_of_lt (Nat.lt_of_lt_of_le (by have := World.block_lt_of_cell? _ _ hw1332_0; first | rwa [add_block] at this | exact this) GW1333.out)) | (show (Addr.add _ _).block ≠ _; rw [add_block]; exact Nat.ne_of_lt (Nat.lt_of_lt_of_le (by have := World.block_lt_of_cell? _ _ hw1332_0; first | rwa [add_block] at this | exact this) GW1333.out)) | (dsimp only; exact Nat.ne_of_lt (Nat.lt_of_lt_of_le (by have := World.block_lt_of_cell? _ _ hw1332_0; first | rwa [add_block] at this | exact this) GW1333.out))) _).trans (((cell_far (p := ⟨gb1333, _, none⟩) (by first | exact Nat.ne_of_lt (Nat.lt_of_lt_of_le (by have := World.block_lt_of_cell? _ _ hw1332_0; first | rwa [add_block] at this | exact this) GW1333.out) | (rw [add_block]; exact Nat.ne_of_lt (Nat.lt_of_lt_of_le (by have := World.block_lt_of_cell? _ _ hw1332_0; first | rwa [add_block] at this | exact this) GW1333.out)) | (show (Addr.add _ _).block ≠ _; rw [add_block]; exact Nat.ne_of_lt (Nat.lt_of_lt_of_le (by have := World.block_lt_of_cell? _ _ hw1332_0; first | rwa [add_block] at this | exact this) GW1333.out)) | (dsimp only; exact Nat.ne_of_lt (Nat.lt_of_lt_of_le (by have := World.block_lt_of_cell? _ _ hw1332_0; first | rwa [add_block] at this | exact this) GW1333.out))) _).trans (hHeld.2))))⟩ (fun hHeld => ?_)
        clear hK K
        refine done_ (done_of HT_.out (by kernel_rfl)) ?_
        obtain ⟨z29_0, y29_0, z29_1, y29_1⟩ := cl2 BK1333
        try go_wp2
        go_roundg kj7
        case measure => have := HK1.out; have := HK2.out; have := HJ7.out; omega
        case rel => exact ⟨(x3_2), (wrap64 (x4_1 + 1)), rs, H', ⟨by have := HK1.out; have := HK2.out; have := HJ7.out; omega⟩, ⟨by (with_reducible repeat (first | apply Kd.R_alloc | apply Kd.R_drewN | apply Kd.R_drew)); exact Kd.R_mono (Kd.R_far (p := ⟨gb1333, 1, none⟩) (Kd.R_far (p := ⟨gb1333, 0, none⟩) (Kd.R_mono HO_3.out (fun k_ hk => (⟨hk, hk.2⟩ : _ ∧ k_ ≠ gb1333))) (fun _ hk => hk.2) (.string ((rdOf ByteArray.empty l0 x4_1).extract 0 (x5_2 : Int).toNat))) (fun _ hk => hk.2) (.string ((rdOf ByteArray.empty l0 x4_1).extract ((ji21) : Int).toNat (rdOf ByteArray.empty l0 x4_1).size))) (fun _ hk => trivial)⟩, ⟨u154HB⟩⟩
       rw [if_neg c24] at H
       have c24b0 : (((rdOf ByteArray.empty l0 x4_1).extract 0 (x5_2 : Int).toNat).toList == ([99, 111, 110, 116, 101, 110, 116, 45, 108, 101, 110, 103, 116, 104] : List UInt8)) = false := beq_eq_false_iff_ne.mpr c24
       have c24b1 : (((rdOf ByteArray.empty l0 x4_1).extract 0 (x5_2 : Int).toNat).toList != ([99, 111, 110, 116, 101, 110, 116, 45, 108, 101, 110, 103, 116, 104] : List UInt8)) = true := bne_iff_ne.mpr c24
       revert H
       refine ifn fun c30 H => ?_
       have LMc30 := am c30
       clear c30
       obtain ⟨y1334, hy1334⟩ : ∃ y_ : List (S116), y_ = (x3_2 ++ [(⟨(rdOf ByteArray.empty l0 x4_1).extract 0 (x5_2 : Int).toNat, (rdOf ByteArray.empty l0 x4_1).extract ((ji21) : Int).toNat (rdOf ByteArray.empty l0 x4_1).size⟩ : S116)]) := ⟨_, rfl⟩
       replace H : (spec_l3Fields.l0 kj7 l0 y1334 (wrap64 (x4_1 + 1))) = some r := by first | (rw [hy1334]; with_reducible exact H) | (have H2_ := (Option.bind_some _ _).symm.trans H; rw [hy1334]; with_reducible exact H2_) | (have H2_ := (Option.bind_some _ _).symm.trans H; with_reducible exact H2_) | with_reducible exact H | (rw [hy1334]; exact H) | exact H
       have Ny1334 := am hy1334
       clear hy1334
       have H' := am H
       clear H
       try go_wp2
       replace HO_3 := am (Kd.R_drew HO_3.out)
       replace HB := am (below_drew1 HB.out)
       have p1331 : 0 ≤ (x4_1 : Int) := od
       have q1331 : x4_1 < (l0.length : Int) := od
       obtain ⟨ad1331, e1331, hx1331_0⟩ := Kd.at_string HR0.out x4_1 p1331 q1331
       have hw1331_0 := hx1331_0
       obtain rfl : ad1328 = ad1331 := (by injection e1331)
       replace hx1331_0 := hcw hx1331_0
       replace p1331 := eq_true p1331
       replace q1331 := eq_true q1331
       have p1332 : 0 ≤ (x4_1 : Int) := od
       have q1332 : x4_1 < (l0.length : Int) := od
       obtain ⟨ad1332, e1332, hx1332_0⟩ := Kd.at_string HR0.out x4_1 p1332 q1332
       have hw1332_0 := hx1332_0
       obtain rfl : ad1328 = ad1332 := (by injection e1332)
       replace hx1332_0 := hcw hx1332_0
       replace p1332 := eq_true p1332
       replace q1332 := eq_true q1332
       refine start_ (n := 16) (S := fun w' => w'.cell? (ad1328.add (x4_1).toNat) = some (.string (rdOf ByteArray.empty l0 x4_1)) ∧ w'.cell? (ad1328.add (x4_1).toNat) = some (.string (rdOf ByteArray.empty l0 x4_1))) (ds := []) ⟨br true [0, 16]⟩ (by kernel_rfl) rfl (by kernel_rfl) ⟨(hcw hw1331_0), (hcw hw1332_0)⟩ (fun hHeld => ?_); refine with_tabW spec_l3Fields.tab9 spec_l3Fields.bits9 (fun HT_ HW_ => ?_)
       generalize wc.drew = w31 at HO_3 HB hx1331_0 hx1332_0 hHeld ⊢
       refine pu 0 41 [1, 15] ?_
       refine pu 1 42 [2, 14] ?_
       refine pu 2 43 [3, 13] ?_
       refine pu 4 45 [3, 1, 1, 11] ?_
       refine pu 6 47 [3, 1, 1, 1, 1, 9] ?_
       refine pu 7 48 [3, 1, 1, 1, 2, 8] ?_
       refine pu 8 49 [3, 1, 1, 1, 3, 7] ?_
       refine pu 10 51 [3, 1, 1, 1, 3, 1, 1, 5] ?_
       refine pu 11 52 [3, 1, 1, 1, 3, 1, 2, 4] ?_
       refine tk 3 44 [5, 1, 3, 1, 2, 4] ?_
       refine pu 5 46 [9, 1, 2, 4] ?_
       refine tk 9 50 [12, 4] ?_
       refine pu 12 53 [13, 3] ?_
       refine pu 13 54 [14, 2] ?_
       refine one_ (i := 14) (N := some 6) #[true, true, true, true, true, true, true, true, true, true, true, true, true, true, true, false] rfl rfl (one_of HT_.out (by kernel_rfl)) (by decide) (fun K hK => ?_)
       refine box_step ?hg (N := 6) ?hd (cs := #[.string (⟨#[]⟩ : ByteArray), .string (⟨#[]⟩ : ByteArray)]) (t := 116) ?hr ?_; (case hd => rfl); (case hg => rfl); (case hr => first | (go_simp; done) | (go_simp; rfl))
       intro gb1333 hg w32 hbox hb
       replace HO_3 := am (Kd.R_below (Kd.R_elderB (ro HO_3) gb1333 (Nat.le_of_eq hg.symm)) hb)
       have BK1333 := am (hbox)
       have GW1333 := am (sz hg : w.heap.size ≤ gb1333)
       have GE1333 := am (sz hg : w.heap.size ≤ gb1333)
       replace HB := am (below_step bl hb)
       clear hb hbox hg
       refine hK.out _ _ ⟨(hcw hw1331_0), (hcw hw1332_0)⟩ (fun hHeld => ?_)
       clear hK K
       refine nm 6 ?_
       refine one_ (i := 15) (N := none) #[true, true, true, true, true, true, true, true, true, true, true, true, true, true, true, true] rfl rfl (one_of HT_.out (by kernel_rfl)) (by decide) (fun K hK => ?_)
       have hs33 : w32.cell? ⟨gb1333, 0, none⟩ = some (.string (⟨#[]⟩ : ByteArray)) := bc BK1333
       have hfs33 := blk_frozen BK1333.out 0
       have hs34 : w32.cell? ⟨gb1333, 1, none⟩ = some (.string (⟨#[]⟩ : ByteArray)) := bc BK1333
       have hfs34 := blk_frozen BK1333.out 1
       refine skip_ (w1 := ?_) (by rfl) rfl ?_ ?_
       rotate_left
       ·go_simp
        rfl
       refine hK.out _ _ ⟨((cell_far (p := ⟨gb1333, _, none⟩) (by first | exact Nat.ne_of_lt (Nat.lt_of_lt_of_le (by have := World.block_lt_of_cell? _ _ hw1331_0; first | rwa [add_block] at this | exact this) GW1333.out) | (rw [add_block]; exact Nat.ne_of_lt (Nat.lt_of_lt_of_le (by have := World.block_lt_of_cell? _ _ hw1331_0; first | rwa [add_block] at this | exact this) GW1333.out)) | (show (Addr.add _ _).block ≠ _; rw [add_block]; exact Nat.ne_of_lt (Nat.lt_of_lt_of_le (by have := World.block_lt_of_cell? _ _ hw1331_0; first | rwa [add_block] at this | exact this) GW1333.out)) | (dsimp only; exact Nat.ne_of_lt (Nat.lt_of_lt_of_le (by have := World.block_lt_of_cell? _ _ hw1331_0; first | rwa [add_block] at this | exact this) GW1333.out))) _).trans (((cell_far (p := ⟨gb1333, _, none⟩) (by first | exact Nat.ne_of_lt (Nat.lt_of_lt_of_le (by have := World.block_lt_of_cell? _ _ hw1331_0; first | rwa [add_block] at this | exact this) GW1333.out) | (rw [add_block]; exact Nat.ne_of_lt (Nat.lt_of_lt_of_le (by have := World.block_lt_of_cell? _ _ hw1331_0; first | rwa [add_block] at this | exact this) GW1333.out)) | (show (Addr.add _ _).block ≠ _; rw [add_block]; exact Nat.ne_of_lt (Nat.lt_of_lt_of_le (by have := World.block_lt_of_cell? _ _ hw1331_0; first | rwa [add_block] at this | exact this) GW1333.out)) | (dsimp only; exact Nat.ne_of_lt (Nat.lt_of_lt_of_le (by have := World.block_lt_of_cell? _ _ hw1331_0; first | rwa [add_block] at this | exact this) GW1333.out))) _).trans (hHeld.1)))), ((cell_far (p := ⟨gb1333, _, none⟩) (by first | exact Nat.ne_of_lt (Nat.lt_of_lt_of_le (by have := World.block_lt_of_cell? _ _ hw1332_0; first | rwa [add_block] at this | exact this) GW1333.out) | (rw [add_block]; exact Nat.ne_of_lt (Nat.lt_of_lt_of_le (by have := World.block_lt_of_cell? _ _ hw1332_0; first | rwa [add_block] at this | exact this) GW1333.out)) | (show (Addr.add _ _).block ≠ _; rw [add_block]; exact Nat.ne_of_lt (Nat.lt_of_lt_of_le (by have := World.block_lt_of_cell? _ _ hw1332_0; first | rwa [add_block] at this | exact this) GW1333.out)) | (dsimp only; exact Nat.ne_of_lt (Nat.lt_of_lt_of_le (by have := World.block_lt_of_cell? _ _ hw1332_0; first | rwa [add_block] at this | exact this) GW1333.out))) _).trans (((cell_far (p := ⟨gb1333, _, none⟩) (by first | exact Nat.ne_of_lt (Nat.lt_of_lt_of_le (by have := World.block_lt_of_cell? _ _ hw1332_0; first | rwa [add_block] at this | exact this) GW1333.out) | (rw [add_block]; exact Nat.ne_of_lt (Nat.lt_of_lt_of_le (by have := World.block_lt_of_cell? _ _ hw1332_0; first | rwa [add_block] at this | exact this) GW1333.out)) | (show (Addr.add _ _).block ≠ _; rw [add_block]; exact Nat.ne_of_lt (Nat.lt_of_lt_of_le (by have := World.block_lt_of_cell? _ _ hw1332_0; first | rwa [add_block] at this | exact this) GW1333.out)) | (dsimp only; exact Nat.ne_of_lt (Nat.lt_of_lt_of_le (by have := World.block_lt_of_cell? _ _ hw1332_0; first | rwa [add_block] at this | exact this) GW1333.out))) _).trans (hHeld.2))))⟩ (fun hHeld => ?_)
       clear hK K
       refine done_ (done_of HT_.out (by kernel_rfl)) ?_
       obtain ⟨z35_0, y35_0, z35_1, y35_1⟩ := cl2 BK1333
       try go_wp2_with (first | ((with_reducible refine gate_builtin (b := .append) (xs := #[.tmp 58, .tmp 60]) rfl ?_); at_builtin; refine Kd.R_append k116 (w0 := w) w.heap.size rfl (.tmp 58) (.tmp 60) 27 116 (.agg #[(.string ⟨#[]⟩), (.string ⟨#[]⟩)]) 32 rfl Tryz.underlying27 info116 rfl (by decide) (by omega) u3 x3_2 (⟨(rdOf ByteArray.empty l0 x4_1).extract 0 (x5_2 : Int).toNat, (rdOf ByteArray.empty l0 x4_1).extract ((ji21) : Int).toNat (rdOf ByteArray.empty l0 x4_1).size⟩ : S116) [.string ((rdOf ByteArray.empty l0 x4_1).extract 0 (x5_2 : Int).toNat), .string ((rdOf ByteArray.empty l0 x4_1).extract ((ji21) : Int).toNat (rdOf ByteArray.empty l0 x4_1).size)] (fun k_ => k_ ≠ gb1333) (fun _ => False) rfl (by first | (go_simp; done) | (go_simp; rfl)) ?aP (fun _ hk => hk.elim) ?aF ?aO ?aB ?aS ?aL ?_; (case aP => exact k116_mkM _ _ _ (⟨(rdOf ByteArray.empty l0 x4_1).extract 0 (x5_2 : Int).toNat, (rdOf ByteArray.empty l0 x4_1).extract ((ji21) : Int).toNat (rdOf ByteArray.empty l0 x4_1).size⟩ : S116)); (case aB => exact bl); (case aF => exact (fun k_ hk => Kd.freshB (g := gb1333) (o := .cells #[.string ((rdOf ByteArray.empty l0 x4_1).extract 0 (x5_2 : Int).toNat), .string ((rdOf ByteArray.empty l0 x4_1).extract ((ji21) : Int).toNat (rdOf ByteArray.empty l0 x4_1).size)] 116 (0, 0)) (pt0 BK1333) k_ hk)); (case aO => exact (by (with_reducible repeat (first | apply Kd.R_alloc | apply Kd.R_drewN | apply Kd.R_drew)); exact Kd.R_mono (Kd.R_far (p := ⟨gb1333, 1, none⟩) (Kd.R_far (p := ⟨gb1333, 0, none⟩) (Kd.R_mono HO_3.out (fun k_ hk => (⟨hk, hk.2⟩ : _ ∧ k_ ≠ gb1333))) (fun _ hk => hk.2) (.string ((rdOf ByteArray.empty l0 x4_1).extract 0 (x5_2 : Int).toNat))) (fun _ hk => hk.2) (.string ((rdOf ByteArray.empty l0 x4_1).extract ((ji21) : Int).toNat (rdOf ByteArray.empty l0 x4_1).size))) (fun _ hk => hk.1.2))); (case aS => exact (below_size bl)); (case aL => have := LMc30.out; omega); intro v1335 w36 ho hb hg hat; rw [← Ny1334.out] at ho; have n0_ := am (blk_grown (g := gb1333) (o := .cells #[.string ((rdOf ByteArray.empty l0 x4_1).extract 0 (x5_2 : Int).toNat), .string ((rdOf ByteArray.empty l0 x4_1).extract ((ji21) : Int).toNat (rdOf ByteArray.empty l0 x4_1).size)] 116 (0, 0)) (pt0 BK1333) hg (Kd.R_away HO_3.out (fun _ hk => hk.2))); have n1_ := am (hb); have n2_ := am (ho); clear BK1333; clear HB; clear HO_3; have BK1333 := n0_; have HB := n1_; have HO1336 := n2_; clear n0_ n1_ n2_; clear ho hb hg hat))
       go_roundg kj7
       case measure => have := HK1.out; have := HK2.out; have := HJ7.out; omega
       case rel => exact ⟨(y1334), (wrap64 (x4_1 + 1)), rs, H', ⟨by have := HK1.out; have := HK2.out; have := HJ7.out; omega⟩, ⟨by (with_reducible repeat (first | apply Kd.R_alloc | apply Kd.R_drewN | apply Kd.R_drew)); exact Kd.R_mono HO1336.out (fun _ hk => trivial)⟩, ⟨u154HB⟩⟩

/-! ### spec_RespRead: function 107 -/
theorem u107HB {p : Prop} (h : p := by repeat (first | (with_reducible first | exact HB.out | apply below_alloc | apply pw_below_drewN | apply below_drew1 | refine below_set ?_ GE1337.out) | exact HB.out)) : p := h
def spec_RespRead.j0 : Nat → ByteArray → List ByteArray → Int → Bool → Option (Int × (List (S116)) × ByteArray × Bool)
 | 0, _, _, _, _ => none
 | k + 1, x0, x4, x5, x21 => if x21 = true then (some (0, ([] : List (S116)), (⟨#[]⟩ : ByteArray), false)) else (if 0 < (x4.length : Int) then ((spec_l3Words.f k (rdOf ByteArray.empty x4 0)).bind fun t1343 => (if (t1343.length : Int) = 3 then (if 1 < (t1343.length : Int) then ((spec_NumRead.f k (rdOf ByteArray.empty t1343 1)).bind fun bt1347 => (if 1 ≤ (x4.length : Int) then ((spec_l3Fields.f k (x4.drop 1)).bind fun t1353 => (if 0 ≤ x5 then (if x5 ≤ (x0.size : Int) then ((spec_RespText.f k bt1347.1 t1353 (x0.extract (x5 : Int).toNat x0.size)).bind fun t1357 => (if t1357.toList = x0.toList then (some (bt1347.1, t1353, x0.extract (x5 : Int).toNat x0.size, true)) else (some (0, ([] : List (S116)), (⟨#[]⟩ : ByteArray), false)))) else (none)) else (none))) else (none))) else (none)) else (some (0, ([] : List (S116)), (⟨#[]⟩ : ByteArray), false)))) else (none))
def spec_RespRead.f (k : Nat) (a0 : ByteArray) : Option (Int × (List (S116)) × ByteArray × Bool) := (spec_l3Head.f k a0).bind fun bt1338 => (if bt1338.2 < 0 then (spec_RespRead.j0 k a0 bt1338.1 bt1338.2 true) else (spec_RespRead.j0 k a0 bt1338.1 bt1338.2 ((bt1338.1.length : Int) == 0)))
theorem spec_RespRead.mono_l : ∀ k, (∀ y0 y1 y2 y3, LeO (spec_RespRead.j0 k y0 y1 y2 y3) (spec_RespRead.j0 (k + 1) y0 y1 y2 y3))
 | 0 => fun _ _ _ _ r h => by simp [spec_RespRead.j0] at h
 | k + 1 => by
  have ih0 := spec_RespRead.mono_l k
  ·intro y0 y1 y2 y3
   unfold spec_RespRead.j0
   have m0 := @spec_NumRead.mono
   have m1 := @spec_RespText.mono
   have m2 := @spec_l3Fields.mono
   have m3 := @spec_l3Head.mono
   have m4 := @spec_l3Words.mono
   exact mo
theorem spec_RespRead.mono : ∀ a0 k, LeO (spec_RespRead.f k a0) (spec_RespRead.f (k + 1) a0) := by
 intro a0 k
 have ih0 := spec_RespRead.mono_l k
 unfold spec_RespRead.f
 have m0 := @spec_NumRead.mono
 have m1 := @spec_RespText.mono
 have m2 := @spec_l3Fields.mono
 have m3 := @spec_l3Head.mono
 have m4 := @spec_l3Words.mono
 exact mo
def spec_RespRead.T8 : Bool × List (List Nat × List Nat) := (true, [([], []), ([], []), ([1], [1]), ([2], [2]), ([], []), ([], []), ([4, 5], [4, 5]), ([0, 3, 6], [0, 3, 6]), ([], []), ([8, 7, 3, 0, 1, 2, 3, 4, 5, 6, 7, 8], [7, 8])])
def spec_RespRead.B8 : List Nat := [0, 0, 2, 6, 0, 0, 48, 127, 0, 511]
theorem spec_RespRead.tab8 : rtab .any (opsOf Tryz.f107 8) = spec_RespRead.T8 := by kernel_rfl
theorem spec_RespRead.bits8 : waitsOk spec_RespRead.T8.2 spec_RespRead.B8 = true := by kernel_rfl
set_option maxHeartbeats 8000000 in
set_option maxRecDepth 100000 in
theorem spec_RespRead.calls (k : Nat) (a0 : ByteArray) (r1 : Int) (r2 : List (S116)) (r3 : ByteArray) (r4 : Bool) (w : World) (h : spec_RespRead.f k a0 = some (r1, r2, r3, r4)) :
  Calls Tryz.prog 107 #[.string a0] w fun e w' => ∃ v1_ : Value, e = .returned (.tuple #[.agg #[.int .i64 r1, v1_, .string r3], .bool r4]) ∧ Kd.R k116 116 w' w.heap.size (fun _ => True) v1_ r2 ∧ Below w.heap.size w w' := by
 have hu29 := Tryz.underlying29
 have HB := am (Below.refl w.heap.size w)
 unfold spec_RespRead.f at h
 have H := h
 clear h
 revert H
 refine ok2 fun t1338 t1339 A2 H => ?_
 (try dsimp only at H)
 have HC3 := am H
 clear H
 go_enter Tryz.func107, Tryz.ntmps107
 go_upto_region 2 with (first | ((with_reducible refine gate_dst (N := 2) rfl ?_); (try (refine gate_guard (by rfl) ?_; dsimp only)); refine box_event ?hg (N := 2) ?hd (cs := #[.int .i64 0, .slice none 0 0, .string (⟨#[]⟩ : ByteArray)]) (t := 29) ?hr ?_; (case hd => rfl); (case hg => rfl); (case hr => first | (go_simp; done) | (go_simp; rfl)); intro gb1337 hg w4 hbox hb; have BK1337 := am (hbox); have GW1337 := am (sz hg : w.heap.size ≤ gb1337); have GE1337 := am (sz hg : w.heap.size ≤ gb1337); replace HB := am (below_step bl hb); clear hb hbox hg) | ((with_reducible refine gw ?_); first | (refine gl 12 Tryz.func153 #[.string a0] ?_; (with_reducible refine (spec_l3Head.calls k a0 t1338 t1339 _ A2.out).mono ?_); rintro e w5 ⟨v1340, rfl, ho0, hb⟩; refine ⟨_, rfl, ?_⟩; have HO1341 := am (Kd.R_lower ho0 (below_size bl)); replace BK1337 := kb BK1337 hb; replace HB := am (below_step bl hb); clear hb ho0)))
 (try simp only [Act.put, List.setIfInBounds_toArray, List.set_cons_zero, List.set_cons_succ])
 go_cut [21] (fun v21 wc => ∃ (kq : Nat) (x21_2 : Bool), v21 = .bool x21_2 ∧ Aside0 (spec_RespRead.j0 kq a0 t1338 t1339 x21_2 = some (r1, r2, r3, r4)) ∧ Aside0 (kq ≤ k) ∧ Aside0 (Kd.R Kd.string 9 wc w.heap.size (fun _ => True) v1340 t1338) ∧ Aside0 (wc.heap[gb1337]? = some (.cells #[.int .i64 0, (.slice none 0 0), .string (⟨#[]⟩ : ByteArray)] 29 (0, 0))) ∧ Aside0 (Below w.heap.size w wc))
 case first =>
  have H := HC3.out
  clear HC3
  by_cases c6 : t1339 < 0
  ·rw [if_pos c6] at H
   have c6b0 := decide_eq_true c6
   clear c6
   (first | rw [c6b0] | (simp only [i64_w, i32_w]; rw [c6b0]) | skip)
   have H' := am H
   clear H
   go_wp2
   go_meet
   case rel => exact ⟨_, (true), rs, H', ⟨by first | omega | exact Nat.le_refl _⟩, ⟨by (with_reducible repeat (first | apply Kd.R_alloc | apply Kd.R_drewN | apply Kd.R_drew)); exact HO1341.out⟩, ⟨by (with_reducible repeat (first | refine blk_drewN ?_ _ | refine blk_drew ?_ | refine blk_alloc ?_ _)); exact BK1337.out⟩, ⟨u107HB⟩⟩
  rw [if_neg c6] at H
  have c6b0 := decide_eq_false c6
  clear c6
  (first | rw [c6b0] | (simp only [i64_w, i32_w]; rw [c6b0]) | skip)
  have H' := am H
  clear H
  obtain ⟨Ao7, co7, eo7⟩ := Kd.R_slice HO1341.out
  subst eo7
  go_wp2
  go_meet
  case rel => exact ⟨_, (((t1338.length : Int) == 0)), rs, H', ⟨by first | omega | exact Nat.le_refl _⟩, ⟨by (with_reducible repeat (first | apply Kd.R_alloc | apply Kd.R_drewN | apply Kd.R_drew)); exact HO1341.out⟩, ⟨by (with_reducible repeat (first | refine blk_drewN ?_ _ | refine blk_drew ?_ | refine blk_alloc ?_ _)); exact BK1337.out⟩, ⟨u107HB⟩⟩
 case rest =>
  clear HC3
  try clear c1
  try clear p2
  try clear c6
  try clear c6b0
  obtain ⟨kq, x21_2, rfl, HA, HJ2, HO_4, BK1337, HB⟩ := hcut
  cases kq with
  | zero => exact absurd HA.out (by simp [spec_RespRead.j0])
  | succ kj2 =>
   have H := HA.out
   clear HA
   simp only [spec_RespRead.j0] at H
   by_cases c8 : x21_2 = true
   ·subst c8
    rw [if_pos rfl] at H
    simp only [Option.some.injEq, Prod.mk.injEq] at H
    obtain ⟨rfl, rfl, rfl, rfl⟩ := H
    obtain ⟨z9_0, y9_0, z9_1, y9_1, z9_2, y9_2⟩ := cl3 BK1337
    go_wp2
    refine bodyPost_ret (results_ct rfl _ _ gb1337 29 #[.int .i64 0, .slice none 0 0, .string (⟨#[]⟩ : ByteArray)] (0, 0) _ rfl (pt0 BK1337) Tryz.underlying29 rfl (by kernel_rfl)) rfl ?_
    exact ⟨_, rf, by first | exact Kd.R_nil _ _ _ _ _ | exact Kd.N_nil _ _ _ _ _ | exact Kd.V_nil _ _ _ _ _ | exact Kd.Q_nil _ _ _ _ _ | exact Kd.S_nil _ _ _ _ _, bl⟩
   replace c8 := Bool.eq_false_iff.mpr c8
   subst c8
   rw [if_neg (show ¬ (false = true) by decide)] at H
   revert H
   refine ifn fun c10 H => ?_
   have c10b0 := decide_eq_true c10
   have c10b1 : decide (0 < t1338.length) = true := decide_eq_true (by omega)
   clear c10
   revert H
   refine ok1 fun t1343 A11 H => ?_
   have HH12 := am H
   clear H
   obtain ⟨Ao13, co13, eo13⟩ := Kd.R_slice HO_4.out
   subst eo13
   have p1342 : 0 ≤ (0 : Int) := (by omega)
   have q1342 : 0 < (t1338.length : Int) := od
   obtain ⟨ad1342, e1342, hx1342_0⟩ := Kd.at_string (Kd.R_reads' HO_4.out).2.2 0 p1342 q1342
   cases e1342
   have qi1342 : (0 < t1338.length) = True := eq_true (by omega)
   (try rw [show ((0 : Int)).toNat = 0 from rfl] at hx1342_0)
   (try rw [Addr.add_zero'] at hx1342_0)
   replace p1342 := eq_true p1342
   replace q1342 := eq_true q1342
   go_upto_if 29 with ((with_reducible refine gw ?_); first | (refine gl 26 Tryz.func105 #[.string (rdOf ByteArray.empty t1338 0)] ?_; (with_reducible refine (spec_l3Words.calls kj2 (rdOf ByteArray.empty t1338 0) t1343 _ A11.out).mono ?_); rintro e w14 ⟨v1344, rfl, ho0, hb⟩; refine ⟨_, rfl, ?_⟩; have HO1345 := am (Kd.R_lower (Kd.R_new' ho0 (Kd.R_lt (ro HO_4))) (below_size bl)); replace HO_4 := am (Kd.R_elder' (ro HO_4) (Kd.R_base ho0) hb); replace BK1337 := kb BK1337 hb; replace HB := am (below_step bl hb); clear hb ho0; obtain ⟨Ao15, co15, eo15⟩ := Kd.R_slice HO1345.out; subst eo15))
   have H := HH12.out
   clear HH12
   by_cases c16 : (t1343.length : Int) = 3
   rotate_left
   ·rw [if_neg c16] at H
    have c16b0 : ((t1343.length : Int) == 3) = false := beq_eq_false_iff_ne.mpr c16
    have c16b1 : ((t1343.length : Int) != 3) = true := bne_iff_ne.mpr c16
    (first | rw [c16b0] | (simp only [i64_w, i32_w]; rw [c16b0]) | skip)
    simp only [Option.some.injEq, Prod.mk.injEq] at H
    obtain ⟨rfl, rfl, rfl, rfl⟩ := H
    obtain ⟨z45_0, y45_0, z45_1, y45_1, z45_2, y45_2⟩ := cl3 BK1337
    go_wp2
    refine bodyPost_ret (results_ct rfl _ _ gb1337 29 #[.int .i64 0, .slice none 0 0, .string (⟨#[]⟩ : ByteArray)] (0, 0) _ rfl (pt0 BK1337) Tryz.underlying29 rfl (by kernel_rfl)) rfl ?_
    exact ⟨_, rf, by first | exact Kd.R_nil _ _ _ _ _ | exact Kd.N_nil _ _ _ _ _ | exact Kd.V_nil _ _ _ _ _ | exact Kd.Q_nil _ _ _ _ _ | exact Kd.S_nil _ _ _ _ _, bl⟩
   rw [if_pos c16] at H
   have c16b0 : ((t1343.length : Int) == 3) = true := beq_iff_eq.mpr c16
   have c16b1 : ((t1343.length : Int) != 3) = false := bne_eq_false_iff_eq.mpr c16
   clear c16
   (first | rw [c16b0] | (simp only [i64_w, i32_w]; rw [c16b0]) | skip)
   revert H
   refine ifn fun c17 H => ?_
   have c17b0 := decide_eq_true c17
   have c17b1 : decide (1 < t1343.length) = true := decide_eq_true (by omega)
   clear c17
   revert H
   refine ok2 fun t1347 t1348 A18 H => ?_
   (try dsimp only at H)
   revert H
   refine ifn fun c19 H => ?_
   have c19b0 := eq_true c19
   have c19b1 := decide_eq_true c19
   clear c19
   obtain ⟨y1349, hy1349⟩ : ∃ y_ : List ByteArray, y_ = (t1338.drop 1) := ⟨_, rfl⟩
   replace H : ((spec_l3Fields.f kj2 y1349).bind fun t1353 => (if 0 ≤ t1339 then (if t1339 ≤ (a0.size : Int) then ((spec_RespText.f kj2 t1347 t1353 (a0.extract (t1339 : Int).toNat a0.size)).bind fun t1357 => (if t1357.toList = a0.toList then (some (t1347, t1353, a0.extract (t1339 : Int).toNat a0.size, true)) else (some (0, ([] : List (S116)), (⟨#[]⟩ : ByteArray), false)))) else (none)) else (none))) = some (r1, r2, r3, r4) := by first | (rw [hy1349]; with_reducible exact H) | (have H2_ := (Option.bind_some _ _).symm.trans H; rw [hy1349]; with_reducible exact H2_) | (have H2_ := (Option.bind_some _ _).symm.trans H; with_reducible exact H2_) | with_reducible exact H | (rw [hy1349]; exact H) | exact H
   have Ny1349 := am hy1349
   clear hy1349
   revert H
   refine ok1 fun t1353 A20 H => ?_
   revert H
   refine ifn fun c21 H => ?_
   have c21b0 := eq_true c21
   have c21b1 := decide_eq_true c21
   clear c21
   revert H
   refine ifn fun c22 H => ?_
   have c22b0 := eq_true c22
   have c22b1 := decide_eq_true c22
   clear c22
   revert H
   refine ok1 fun t1357 A23 H => ?_
   have HH24 := am H
   clear H
   have p1346 : 0 ≤ (1 : Int) := (by omega)
   have q1346 : 1 < (t1343.length : Int) := od
   obtain ⟨ad1346, e1346, hx1346_0⟩ := Kd.at_string (Kd.R_reads' HO1345.out).2.2 1 p1346 q1346
   cases e1346
   (try simp only [show (1 : Int).toNat = 1 from rfl, Nat.reduceMul, Nat.reduceEqDiff, Go.Addr.add, ↓reduceIte] at hx1346_0)
   have qi1346 : (1 < t1343.length) = True := eq_true (by omega)
   (try rw [show ((1 : Int)).toNat = 1 from rfl] at hx1346_0)
   replace p1346 := eq_true p1346
   replace q1346 := eq_true q1346
   try go_wp2_with ((with_reducible refine gw ?_); first | (refine gl 35 Tryz.func106 #[.string (rdOf ByteArray.empty t1343 1)] ?_; (with_reducible refine (spec_NumRead.calls kj2 (rdOf ByteArray.empty t1343 1) t1347 t1348 _ A18.out).mono ?_); rintro e w25 ⟨rfl, hb⟩; refine ⟨_, rfl, ?_⟩; replace HO_4 := kr HO_4 hb; replace HO1345 := kr HO1345 hb; replace BK1337 := kb BK1337 hb; replace HB := am (below_step bl hb); clear hb))
   replace HO_4 := am (Kd.R_drew HO_4.out)
   replace HO1345 := am (Kd.R_drew HO1345.out)
   replace BK1337 := am (blk_drew BK1337.out)
   replace HB := am (below_drew1 HB.out)
   have q27 : (1 : Int) ≤ ((t1338.length : Int) : Int) := od
   obtain ⟨i027, hi027, _, hsz27, _⟩ := info_parts info9
   have hroom27 : t1338.length ≤ co13 := (Kd.R_reads' HO_4.out).2.1
   have hC27 : Kd.C Kd.string _ (some ad1342) t1338.length t1338 := (Kd.R_reads' HO_4.out).2.2
   have hcut27 := cut_from (P := Tryz.prog) 26 9 .i64 Tryz.underlying26 hi027 1 hsz27 (some ad1342) t1338.length co13 1 (by omega) q27
   have hr27 := Kd.C_drop (m := (1 : Int).toNat) (c := co13) hC27 (by omega) hroom27
   obtain ⟨A27, hA27⟩ : ∃ A1, A1 = (if co13 = (1 : Int).toNat then (some ad1342) else ((some ad1342) : Option Addr).map (·.add ((1 : Int).toNat * 1))) := ⟨_, rfl⟩
   obtain ⟨c27, hc27⟩ : ∃ c1, c1 = co13 - (1 : Int).toNat := ⟨_, rfl⟩
   have hy27 : y1349.length = t1338.length - (1 : Int).toNat := (by rw [Ny1349.out, List.length_drop] <;> omega)
   rw [show (t1338).drop (1 : Int).toNat = y1349 from Ny1349.out.symm] at hr27
   replace hr27 : Kd.C Kd.string _ A27 y1349.length y1349 := (by rw [hA27]; exact hr27)
   rw [← hy27, ← hA27, ← hc27] at hcut27
   have HR1352 := am hr27
   have HC1352 := am (show y1349.length ≤ c27 from by rw [hy27, hc27]; exact Nat.sub_le_sub_right hroom27 _)
   clear hr27 hC27 hroom27 hi027 hsz27 hc27
   have KY27 := am hy27
   have KA27 := am hA27
   clear hy27 hA27
   have KL27 := am (show 1 ≤ t1338.length from by omega)
   replace q27 := eq_true q27
   refine start_ (n := 10) (S := fun w' => True) (ds := []) ⟨br true [0, 10]⟩ (by kernel_rfl) rfl (by kernel_rfl) trivial (fun hHeld => ?_); refine with_tabW spec_RespRead.tab8 spec_RespRead.bits8 (fun HT_ HW_ => ?_)
   generalize w25.drew = w26 at HO_4 HO1345 BK1337 HB HR1352 hHeld ⊢
   refine pu 0 38 [1, 9] ?_
   refine pu 1 39 [2, 8] ?_
   refine pu 2 40 [3, 7] ?_
   refine pu 4 42 [3, 1, 1, 5] ?_
   refine pu 5 43 [3, 1, 2, 4] ?_
   refine pu 6 44 [3, 1, 3, 3] ?_
   refine join_ (σ := Value × Nat) 1 #[true, true, true, true, true, true, true, true, true, false] (fun s_ => [(41, s_.1), (9, .pointer (some ⟨s_.2, 0, none⟩)), (45, .agg #[.int .i64 t1347, s_.1, .string (a0.extract (t1339 : Int).toNat a0.size)])]) (fun s_ w' => (Kd.R Kd.string 9 w' w.heap.size (fun k_ => some k_ ≠ (.slice (some ad1342) t1338.length co13 : Value).ownBlock) (.slice (some ad1346) t1343.length co15) t1343) ∧ (Kd.R k116 116 w' w.heap.size (fun _ => True) s_.1 t1353) ∧ (Kd.R Kd.string 9 w' w.heap.size (fun k_ => some k_ ≠ (.slice (some ad1346) t1343.length co15 : Value).ownBlock) (.slice (some ad1342) t1338.length co13) t1338) ∧ (w'.heap[gb1337]? = some (.cells #[.int .i64 0, .slice none 0 0, .string (⟨#[]⟩ : ByteArray)] 29 (0, 0))) ∧ (w'.heap[s_.2]? = some (.cells #[.int .i64 0, .slice none 0 0, .string (⟨#[]⟩ : ByteArray)] 29 (0, 0))) ∧ (w.heap.size ≤ s_.2) ∧ (w.heap.size ≤ s_.2) ∧ (gb1337 ≠ s_.2) ∧ (s_.2 ≠ gb1337) ∧ (Below w.heap.size w w')) ?_ ?_
   rotate_left
   ·intro hCont
    refine two_ (i := 3) (j := 8) (Ni := some 41) (Nj := some 9) #[true, true, true, true, true, true, true, false, false, false] #[true, true, true, false, true, true, true, false, true, false] rfl rfl rfl rfl (two_of HT_.out (by kernel_rfl)) (by decide) (by decide) (fun K hK => ?_) (fun K hK => ?_)
    ·skip
     refine goes_ Tryz.func154 (by kernel_rfl) rfl #[.slice A27 y1349.length c27] (by rfl) rfl rfl ma ?_
     with_reducible refine (spec_l3Fields.calls kj2 _ _ y1349 t1353 _ ?side1 ?side2 A20.out).mono ?_
     (case side1 => repeat (first | exact (by repeat (first | (with_reducible exact HR1352.out) | (with_reducible refine Kd.C_alloc ?_ _) | (with_reducible refine Kd.C_drewN ?_ _) | (with_reducible refine Kd.C_drew ?_) | exact HR1352.out)) | (with_reducible refine Kd.C_alloc ?_ _) | (with_reducible refine Kd.C_drewN ?_ _) | (with_reducible refine Kd.C_drew ?_)))
     (case side2 => exact HC1352.out)
     rintro e w28 ⟨v1354, rfl, ho0, hb⟩
     refine ⟨_, rfl, ?_⟩
     replace HO_4 := kr HO_4 hb
     replace HO1345 := kr HO1345 hb
     have HO1355 := am (Kd.R_lower ho0 (below_size bl))
     replace BK1337 := kb BK1337 hb
     replace HR1352 := am (Kd.C_below (by repeat (first | (with_reducible exact HR1352.out) | (with_reducible refine Kd.C_alloc ?_ _) | (with_reducible refine Kd.C_drewN ?_ _) | (with_reducible refine Kd.C_drew ?_) | exact HR1352.out)) hb)
     replace HB := am (below_step bl hb)
     clear hb ho0
     obtain ⟨Ao29, co29, eo29⟩ := Kd.R_slice HO1355.out
     (first | subst eo29 | (injection eo29 with f1_ f2_ f3_; have f4_ := f1_.symm; have f5_ := f3_.symm; clear f1_ f2_ f3_; subst f4_; subst f5_))
     refine hK.out _ _ trivial (fun hHeld => ?_)
     clear hK K
     refine nm 41 ?_
     refine pu 7 45 [8, 2] ?_
     refine one_ (i := 8) (N := some 9) #[true, true, true, true, true, true, true, true, true, false] rfl rfl (one_of HT_.out (by kernel_rfl)) (by decide) (fun K hK => ?_)
     refine box_step ?hg (N := 9) ?hd (cs := #[.int .i64 0, .slice none 0 0, .string (⟨#[]⟩ : ByteArray)]) (t := 29) ?hr ?_; (case hd => rfl); (case hg => rfl); (case hr => first | (go_simp; done) | (go_simp; rfl))
     intro gb1356 hg w30 hbox hb
     replace HO_4 := am (Kd.R_below (ro HO_4) hb)
     replace HO1345 := am (Kd.R_below (ro HO1345) hb)
     replace HO1355 := am (Kd.R_below (ro HO1355) hb)
     replace HR1352 := am (Kd.C_below (by repeat (first | (with_reducible exact HR1352.out) | (with_reducible refine Kd.C_alloc ?_ _) | (with_reducible refine Kd.C_drewN ?_ _) | (with_reducible refine Kd.C_drew ?_) | exact HR1352.out)) hb)
     have BK1356 := am (hbox)
     have GW1356 := am (sz hg : w.heap.size ≤ gb1356)
     have GE1356 := am (sz hg : w.heap.size ≤ gb1356)
     replace HB := am (below_step bl hb)
     have NB1337_1356 := am (nl hg BK1337 : gb1337 ≠ gb1356)
     have NB1356_1337 := am (ng hg BK1337 : gb1356 ≠ gb1337)
     replace BK1337 := kb BK1337 hb
     clear hb hbox hg
     refine hK.out _ _ trivial (fun hHeld => ?_)
     clear hK K
     refine nm 9 ?_
     exact norm_ (by simp only [putAll, Act.put, List.setIfInBounds_toArray, List.set_cons_zero, List.set_cons_succ]) (hCont (.slice Ao29 t1353.length co29, gb1356) _ ⟨(by (with_reducible repeat (first | apply Kd.R_alloc | apply Kd.R_drewN | apply Kd.R_drew)); exact Kd.R_mono HO1345.out (fun _ hk => hk.2)), (ro HO1355), (by (with_reducible repeat (first | apply Kd.R_alloc | apply Kd.R_drewN | apply Kd.R_drew)); exact Kd.R_mono HO_4.out (fun _ hk => hk.2)), (bk BK1337), (bk BK1356), GW1356.out, GE1356.out, NB1337_1356.out, NB1356_1337.out, bl⟩)
    ·skip
     refine box_step ?hg (N := 9) ?hd (cs := #[.int .i64 0, .slice none 0 0, .string (⟨#[]⟩ : ByteArray)]) (t := 29) ?hr ?_; (case hd => rfl); (case hg => rfl); (case hr => first | (go_simp; done) | (go_simp; rfl))
     intro gb1356 hg w28 hbox hb
     replace HO_4 := am (Kd.R_below (ro HO_4) hb)
     replace HO1345 := am (Kd.R_below (ro HO1345) hb)
     replace HR1352 := am (Kd.C_below (by repeat (first | (with_reducible exact HR1352.out) | (with_reducible refine Kd.C_alloc ?_ _) | (with_reducible refine Kd.C_drewN ?_ _) | (with_reducible refine Kd.C_drew ?_) | exact HR1352.out)) hb)
     have BK1356 := am (hbox)
     have GW1356 := am (sz hg : w.heap.size ≤ gb1356)
     have GE1356 := am (sz hg : w.heap.size ≤ gb1356)
     replace HB := am (below_step bl hb)
     have NB1337_1356 := am (nl hg BK1337 : gb1337 ≠ gb1356)
     have NB1356_1337 := am (ng hg BK1337 : gb1356 ≠ gb1337)
     replace BK1337 := kb BK1337 hb
     clear hb hbox hg
     refine hK.out _ _ trivial (fun hHeld => ?_)
     clear hK K
     refine nm 9 ?_
     refine og 3 41 [7, 1, 1, 1] Tryz.func154 #[.slice A27 y1349.length c27] (fun K hK => ?_)
     with_reducible refine (spec_l3Fields.calls kj2 _ _ y1349 t1353 _ ?side1 ?side2 A20.out).mono ?_
     (case side1 => repeat (first | exact (by repeat (first | (with_reducible exact HR1352.out) | (with_reducible refine Kd.C_alloc ?_ _) | (with_reducible refine Kd.C_drewN ?_ _) | (with_reducible refine Kd.C_drew ?_) | exact HR1352.out)) | (with_reducible refine Kd.C_alloc ?_ _) | (with_reducible refine Kd.C_drewN ?_ _) | (with_reducible refine Kd.C_drew ?_)))
     (case side2 => exact HC1352.out)
     rintro e w29 ⟨v1354, rfl, ho0, hb⟩
     refine ⟨_, rfl, ?_⟩
     replace HO_4 := kr HO_4 hb
     replace HO1345 := kr HO1345 hb
     have HO1355 := am (Kd.R_lower ho0 (below_size bl))
     replace BK1337 := kb BK1337 hb
     replace HR1352 := am (Kd.C_below (by repeat (first | (with_reducible exact HR1352.out) | (with_reducible refine Kd.C_alloc ?_ _) | (with_reducible refine Kd.C_drewN ?_ _) | (with_reducible refine Kd.C_drew ?_) | exact HR1352.out)) hb)
     replace BK1356 := kb BK1356 hb
     replace HB := am (below_step bl hb)
     clear hb ho0
     obtain ⟨Ao30, co30, eo30⟩ := Kd.R_slice HO1355.out
     (first | subst eo30 | (injection eo30 with f1_ f2_ f3_; have f4_ := f1_.symm; have f5_ := f3_.symm; clear f1_ f2_ f3_; subst f4_; subst f5_))
     refine hK.out _ _ trivial (fun hHeld => ?_)
     clear hK K
     refine nm 41 ?_
     refine pu 7 45 [9, 1] ?_
     exact norm_ (by simp only [putAll, Act.put, List.setIfInBounds_toArray, List.set_cons_zero, List.set_cons_succ]) (hCont (.slice Ao30 t1353.length co30, gb1356) _ ⟨(by (with_reducible repeat (first | apply Kd.R_alloc | apply Kd.R_drewN | apply Kd.R_drew)); exact Kd.R_mono HO1345.out (fun _ hk => hk.2)), (ro HO1355), (by (with_reducible repeat (first | apply Kd.R_alloc | apply Kd.R_drewN | apply Kd.R_drew)); exact Kd.R_mono HO_4.out (fun _ hk => hk.2)), (bk BK1337), (bk BK1356), GW1356.out, GE1356.out, NB1337_1356.out, NB1356_1337.out, bl⟩)
   rintro ⟨v1354, gb1356⟩ w31 ⟨h0_, h1_, h2_, h3_, h4_, h5_, h6_, h7_, h8_, h9_⟩
   have n0_ : Aside0 (Kd.R Kd.string 9 w31 w.heap.size (fun k_ => some k_ ≠ (.slice (some ad1342) t1338.length co13 : Value).ownBlock) (.slice (some ad1346) t1343.length co15) t1343) := ⟨h0_⟩
   have n1_ : Aside0 (Kd.R k116 116 w31 w.heap.size (fun _ => True) v1354 t1353) := ⟨h1_⟩
   have n2_ : Aside0 (Kd.R Kd.string 9 w31 w.heap.size (fun k_ => some k_ ≠ (.slice (some ad1346) t1343.length co15 : Value).ownBlock) (.slice (some ad1342) t1338.length co13) t1338) := ⟨h2_⟩
   have n3_ : Aside0 (w31.heap[gb1337]? = some (.cells #[.int .i64 0, .slice none 0 0, .string (⟨#[]⟩ : ByteArray)] 29 (0, 0))) := ⟨h3_⟩
   have n4_ : Aside0 (w31.heap[gb1356]? = some (.cells #[.int .i64 0, .slice none 0 0, .string (⟨#[]⟩ : ByteArray)] 29 (0, 0))) := ⟨h4_⟩
   have n5_ : Aside0 (w.heap.size ≤ gb1356) := ⟨h5_⟩
   have n6_ : Aside0 (w.heap.size ≤ gb1356) := ⟨h6_⟩
   have n7_ : Aside0 (gb1337 ≠ gb1356) := ⟨h7_⟩
   have n8_ : Aside0 (gb1356 ≠ gb1337) := ⟨h8_⟩
   have n9_ : Aside0 (Below w.heap.size w w31) := ⟨h9_⟩
   clear HO_4
   clear HO1345
   clear BK1337
   clear HB
   clear h0_ h1_ h2_ h3_ h4_ h5_ h6_ h7_ h8_ h9_
   have HO1345 := n0_
   have HO1355 := n1_
   have HO_4 := n2_
   have BK1337 := n3_
   have BK1356 := n4_
   have GW1356 := n5_
   have GE1356 := n6_
   have NB1337_1356 := n7_
   have NB1356_1337 := n8_
   have HB := n9_
   clear n0_ n1_ n2_ n3_ n4_ n5_ n6_ n7_ n8_ n9_
   have hHeld := trivial
   obtain ⟨Ao32, co32, eo32⟩ := Kd.R_slice HO1355.out
   (first | subst eo32 | (injection eo32 with f1_ f2_ f3_; have f4_ := f1_.symm; have f5_ := f3_.symm; clear f1_ f2_ f3_; subst f4_; subst f5_))
   refine norm_ (a' := ?_) ?_ ?_
   rotate_left
   ·simp only [putAll, Act.put, List.setIfInBounds_toArray, List.set_cons_zero, List.set_cons_succ]
    rfl
   refine one_ (i := 9) (N := none) #[true, true, true, true, true, true, true, true, true, true] rfl rfl (one_of HT_.out (by kernel_rfl)) (by decide) (fun K hK => ?_)
   have hs33 : w31.cell? ⟨gb1356, 0, none⟩ = some (.int .i64 0) := bc BK1356
   have hfs33 := blk_frozen BK1356.out 0
   have hns33_0 := NB1337_1356.out
   have hms33_0 := NB1356_1337.out
   have hs34 : w31.cell? ⟨gb1356, 1, none⟩ = some (.slice none 0 0) := bc BK1356
   have hfs34 := blk_frozen BK1356.out 1
   have hns34_0 := NB1337_1356.out
   have hms34_0 := NB1356_1337.out
   have hs35 : w31.cell? ⟨gb1356, 2, none⟩ = some (.string (⟨#[]⟩ : ByteArray)) := bc BK1356
   have hfs35 := blk_frozen BK1356.out 2
   have hns35_0 := NB1337_1356.out
   have hms35_0 := NB1356_1337.out
   refine skip_ (w1 := ?_) (by rfl) rfl ?_ ?_
   rotate_left
   ·go_simp
    rfl
   refine hK.out _ _ trivial (fun hHeld => ?_)
   clear hK K
   refine done_ (done_of HT_.out (by kernel_rfl)) ?_
   have hnb36 := NB1356_1337.out
   have hnc36 := NB1337_1356.out
   obtain ⟨z37_0, y37_0, z37_1, y37_1, z37_2, y37_2⟩ := cl3 BK1356
   go_upto_if 49 with ((with_reducible refine gw ?_); first | (refine gl 47 Tryz.func127 #[.agg #[.int .i64 t1347, .slice Ao32 t1353.length co32, .string (a0.extract (t1339 : Int).toNat a0.size)]] ?_; (with_reducible refine (spec_RespText.calls kj2 t1347 _ _ t1353 (a0.extract (t1339 : Int).toNat a0.size) t1357 _ ?side1 ?side2 A23.out).mono ?_); (case side1 => refine (Kd.R_reads' (e := 116) (base := w.heap.size) (ok := fun k_ => True) (n := t1353.length) (c := co32) ?_).2.2; exact (by (with_reducible repeat (first | apply Kd.R_alloc | apply Kd.R_drewN | apply Kd.R_drew)); exact (Kd.R_mono (Kd.R_far (p := ⟨gb1356, 2, none⟩) (Kd.R_far (p := ⟨gb1356, 1, none⟩) (Kd.R_far (p := ⟨gb1356, 0, none⟩) (Kd.R_types HO1355.out BK1356.out (by decide)) (fun _ hk => hk.2) (.int .i64 t1347)) (fun _ hk => hk.2) (.slice Ao32 t1353.length co32)) (fun _ hk => hk.2) (.string (a0.extract (t1339 : Int).toNat a0.size))) (fun _ h_ => h_.1)))); (case side2 => exact (Kd.R_reads' HO1355.out).2.1); rintro e w38 ⟨rfl, hb⟩; refine ⟨_, rfl, ?_⟩; have n0_ := am (Kd.R_below (by (with_reducible repeat (first | apply Kd.R_alloc | apply Kd.R_drewN | apply Kd.R_drew)); exact (Kd.R_mono (Kd.R_far (p := ⟨gb1356, 2, none⟩) (Kd.R_far (p := ⟨gb1356, 1, none⟩) (Kd.R_far (p := ⟨gb1356, 0, none⟩) (Kd.R_types HO_4.out BK1356.out (by decide)) (fun _ hk => hk.2) (.int .i64 t1347)) (fun _ hk => hk.2) (.slice Ao32 t1353.length co32)) (fun _ hk => hk.2) (.string (a0.extract (t1339 : Int).toNat a0.size))) (fun _ h_ => h_.1))) hb); have n1_ := am (Kd.R_below (by (with_reducible repeat (first | apply Kd.R_alloc | apply Kd.R_drewN | apply Kd.R_drew)); exact (Kd.R_mono (Kd.R_far (p := ⟨gb1356, 2, none⟩) (Kd.R_far (p := ⟨gb1356, 1, none⟩) (Kd.R_far (p := ⟨gb1356, 0, none⟩) (Kd.R_types HO1345.out BK1356.out (by decide)) (fun _ hk => hk.2) (.int .i64 t1347)) (fun _ hk => hk.2) (.slice Ao32 t1353.length co32)) (fun _ hk => hk.2) (.string (a0.extract (t1339 : Int).toNat a0.size))) (fun _ h_ => h_.1))) hb); have n2_ := am (Kd.R_below (by (with_reducible repeat (first | apply Kd.R_alloc | apply Kd.R_drewN | apply Kd.R_drew)); exact (Kd.R_mono (Kd.R_far (p := ⟨gb1356, 2, none⟩) (Kd.R_far (p := ⟨gb1356, 1, none⟩) (Kd.R_far (p := ⟨gb1356, 0, none⟩) (Kd.R_types HO1355.out BK1356.out (by decide)) (fun _ hk => hk.2) (.int .i64 t1347)) (fun _ hk => hk.2) (.slice Ao32 t1353.length co32)) (fun _ hk => hk.2) (.string (a0.extract (t1339 : Int).toNat a0.size))) (fun _ h_ => h_.1))) hb); have n3_ := kg1 BK1337 NB1337_1356 hb; have n4_ := am (blk_below (g := gb1356) (o := .cells #[.int .i64 t1347, .slice Ao32 t1353.length co32, .string (a0.extract (t1339 : Int).toNat a0.size)] 29 (0, 0)) (pt0 BK1356) hb); have n5_ := am (below_step bl hb); clear HO_4; clear HO1345; clear HO1355; clear BK1337; clear BK1356; clear HB; have HO_4 := n0_; have HO1345 := n1_; have HO1355 := n2_; have BK1337 := n3_; have BK1356 := n4_; have HB := n5_; clear n0_ n1_ n2_ n3_ n4_ n5_; clear hb))
   have H := HH24.out
   clear HH24
   by_cases c39 : t1357.toList = a0.toList
   rotate_left
   ·rw [if_neg c39] at H
    have c39b0 : (t1357.toList == a0.toList) = false := beq_eq_false_iff_ne.mpr c39
    have c39b1 : (t1357.toList != a0.toList) = true := bne_iff_ne.mpr c39
    (first | rw [c39b0] | (simp only [i64_w, i32_w]; rw [c39b0]) | skip)
    simp only [Option.some.injEq, Prod.mk.injEq] at H
    obtain ⟨rfl, rfl, rfl, rfl⟩ := H
    have hnb43 := NB1337_1356.out
    have hnc43 := NB1356_1337.out
    obtain ⟨z44_0, y44_0, z44_1, y44_1, z44_2, y44_2⟩ := cl3 BK1337
    go_wp2
    refine bodyPost_ret (results_ct rfl _ _ gb1337 29 #[.int .i64 0, .slice none 0 0, .string (⟨#[]⟩ : ByteArray)] (0, 0) _ rfl (pt0 BK1337) Tryz.underlying29 rfl (by kernel_rfl)) rfl ?_
    exact ⟨_, rf, by first | exact Kd.R_nil _ _ _ _ _ | exact Kd.N_nil _ _ _ _ _ | exact Kd.V_nil _ _ _ _ _ | exact Kd.Q_nil _ _ _ _ _ | exact Kd.S_nil _ _ _ _ _, bl⟩
   rw [if_pos c39] at H
   have c39b0 : (t1357.toList == a0.toList) = true := beq_iff_eq.mpr c39
   have c39b1 : (t1357.toList != a0.toList) = false := bne_eq_false_iff_eq.mpr c39
   clear c39
   (first | rw [c39b0] | (simp only [i64_w, i32_w]; rw [c39b0]) | skip)
   simp only [Option.some.injEq, Prod.mk.injEq] at H
   obtain ⟨rfl, rfl, rfl, rfl⟩ := H
   have hnb40 := NB1356_1337.out
   have hnc40 := NB1337_1356.out
   obtain ⟨z41_0, y41_0, z41_1, y41_1, z41_2, y41_2⟩ := cl3 BK1356
   obtain ⟨z42_0, y42_0, z42_1, y42_1, z42_2, y42_2⟩ := cl3 BK1337
   go_wp2
   refine bodyPost_ret (results_ct rfl _ _ gb1337 29 #[.int .i64 t1347, .slice Ao32 t1353.length co32, .string (a0.extract (t1339 : Int).toNat a0.size)] (0, 0) _ rfl (pt0 BK1337) Tryz.underlying29 rfl (by kernel_rfl)) rfl ?_
   exact ⟨_, rf, rg (Kd.R_types HO1355.out BK1337.out (by decide)), bl⟩

end Go.Proofs.YtjlpjbkpmmpojaaGreatDoor.All
