-- Written by a program of this session (wip/tools/hprint.py) out of the translation. Lean checks it.
import Derived.Test.YtkgdcfaogdmcgaaDoorAllx0
import Derived.Test.YtkgdcfaogdmcgaaDoorAllx1
import Derived.Test.YtkgdcfaogdmcgaaDoorAllx17
namespace Go.Proofs.YtkgdcfaogdmcgaaDoor.All
open Go.RowKit Go.Proofs.YtkgdcfaogdmcgaaDoorW.PrintWords Go.Proofs.YtkgdcfaogdmcgaaDoorW.PrintLast Go.Proofs.YtkgdcfaogdmcgaaDoorW.PrintMore
attribute [local go_sem] max2_int min2_int max_two min_two max_three min_three max_four min_four   -- for this text's walks alone
set_option linter.unusedVariables false
set_option linter.unusedSimpArgs false

/-! ### spec_Split: function 121 -/
theorem u121HB {p : Prop} (h : p := by repeat (first | (with_reducible first | exact HB.out | apply below_alloc | apply pw_below_drewN | apply below_drew1) | exact HB.out)) : p := h
mutual
def spec_Split.l0 : Nat → ByteArray → List ByteArray → Int → Int → Option (List ByteArray)
 | 0, _, _, _, _ => none
 | k + 1, x0, x3, x4, x5 => if x5 ≤ (x0.size : Int) then (if x5 < (x0.size : Int) then (if 0 ≤ x5 then (spec_Split.j1 k x0 x3 x4 x5 ((bt x0 x5) != 44)) else (none)) else (spec_Split.j1 k x0 x3 x4 x5 false)) else (some x3)
def spec_Split.j1 : Nat → ByteArray → List ByteArray → Int → Int → Bool → Option (List ByteArray)
 | 0, _, _, _, _, _ => none
 | k + 1, x0, x3, x4, x5, x23 => if x23 = true then (spec_Split.l0 k x0 x3 x4 (wrap64 (x5 + 1))) else (if 0 ≤ x4 then (if x4 ≤ x5 then (if x5 ≤ (x0.size : Int) then ((spec_Trim.f k (x0.extract (x4 : Int).toNat (x5 : Int).toNat)).bind fun t791 => (if t791.toList = ([] : List UInt8) then (spec_Split.l0 k x0 x3 (wrap64 (x5 + 1)) (wrap64 (x5 + 1))) else (if x3.length < 8796093022208 then (spec_Split.l0 k x0 (x3 ++ [t791]) (wrap64 (x5 + 1)) (wrap64 (x5 + 1))) else (none)))) else (none)) else (none)) else (none))
end
def spec_Split.f (k : Nat) (a0 : ByteArray) : Option (List ByteArray) := spec_Split.l0 k a0 (([] : List ByteArray)) 0 0
theorem spec_Split.mono_l : ∀ k, (∀ y0 y1 y2 y3, LeO (spec_Split.l0 k y0 y1 y2 y3) (spec_Split.l0 (k + 1) y0 y1 y2 y3)) ∧ (∀ y0 y1 y2 y3 y4, LeO (spec_Split.j1 k y0 y1 y2 y3 y4) (spec_Split.j1 (k + 1) y0 y1 y2 y3 y4))
 | 0 => ⟨fun _ _ _ _ r h => by simp [spec_Split.l0] at h, fun _ _ _ _ _ r h => by simp [spec_Split.j1] at h⟩
 | k + 1 => by
  obtain ⟨ih0, ih1⟩ := spec_Split.mono_l k
  refine ⟨?_, ?_⟩
  ·intro y0 y1 y2 y3
   unfold spec_Split.l0
   have m0 := @spec_Trim.mono
   exact mo
  ·intro y0 y1 y2 y3 y4
   unfold spec_Split.j1
   have m0 := @spec_Trim.mono
   exact mo
theorem spec_Split.mono : ∀ a0 k, LeO (spec_Split.f k a0) (spec_Split.f (k + 1) a0) := by
 intro a0 k
 obtain ⟨ih0, ih1⟩ := spec_Split.mono_l k
 unfold spec_Split.f
 have m0 := @spec_Trim.mono
 exact mo
set_option maxHeartbeats 8000000 in
set_option maxRecDepth 100000 in
theorem spec_Split.calls (k : Nat) (a0 : ByteArray) (r : List ByteArray) (w : World) (h : spec_Split.f k a0 = some r) :
  Calls Tryd.prog 121 #[.string a0] w fun e w' => ∃ v0_ : Value, e = .returned (v0_) ∧ Kd.R Kd.string 9 w' w.heap.size (fun _ => True) v0_ r ∧ Below w.heap.size w w' := by
 have HB := am (Below.refl w.heap.size w)
 unfold spec_Split.f at h
 have H := h
 clear h
 obtain ⟨y788, hy788⟩ : ∃ y_ : List ByteArray, y_ = (([] : List ByteArray)) := ⟨_, rfl⟩
 replace H : (spec_Split.l0 k a0 y788 0 0) = some r := by first | (rw [hy788]; with_reducible exact H) | (have H2_ := (Option.bind_some _ _).symm.trans H; rw [hy788]; with_reducible exact H2_) | (have H2_ := (Option.bind_some _ _).symm.trans H; with_reducible exact H2_) | with_reducible exact H | (rw [hy788]; exact H) | exact H
 have Ny788 := am hy788
 clear hy788
 have H' := am H
 clear H
 go_enter Tryd.func121, Tryd.ntmps121
 go_wp2_with (first | ((with_reducible refine gate_dst (N := 7) rfl ?_); refine Kd.R_lit Kd.string _ 9 ?hg (N := 7) ?hd (xs := ([] : List ByteArray)) (inner := []) (ok := fun _ => True) (okp := fun _ => True) ?hr ?hp (fun _ hk => hk) trivial (Below.refl _ _) (Nat.le_refl _) (by simp) ?_; (case hd => rfl); (case hg => rfl); (case hr => first | (go_simp; done) | (go_simp; rfl)); (case hp => exact (Reps.none _ _)); intro v789 w2 ho3 hb hg_ hnew_; clear hg_ hnew_; (first | rw [← Ny788.out] at ho3 | (simp only [Int.reduceToNat] at ho3; rw [← Ny788.out] at ho3)); have HO790 := am (Kd.R_lower ho3 (below_size bl)); replace HB := am (below_step bl hb); clear hb ho3))
 (try simp only [Act.put, List.setIfInBounds_toArray, List.set_cons_zero, List.set_cons_succ])
 go_loopg [3, 4, 5] k (fun kq v3 v4 v5 w' => ∃ (x3_1 : List ByteArray) (x4_1 : Int) (x5_1 : Int), v4 = .int .i64 x4_1 ∧ v5 = .int .i64 x5_1 ∧ Aside0 (spec_Split.l0 kq a0 x3_1 x4_1 x5_1 = some r) ∧ Aside0 (kq ≤ k) ∧ Aside0 (Kd.R Kd.string 9 w' w.heap.size (fun _ => True) v3 x3_1) ∧ Aside0 (Below w.heap.size w w'))
 case atStart => exact ⟨(y788), (0), (0), rs, rs, H', ⟨Nat.le_refl _⟩, ⟨by (with_reducible repeat (first | apply Kd.R_alloc | apply Kd.R_drewN | apply Kd.R_drew)); exact HO790.out⟩, ⟨u121HB⟩⟩
 case round =>
  clear H'
  try clear c1
  try clear p2
  obtain ⟨x3_1, x4_1, x5_1, rfl, rfl, HA, HK1, HO_3, HB⟩ := hrel
  cases gk with
  | zero => exact absurd HA.out (by simp [spec_Split.l0])
  | succ k1 =>
   have H := HA.out
   clear HA
   simp only [spec_Split.l0] at H
   by_cases c4 : x5_1 ≤ (a0.size : Int)
   rotate_left
   ·rw [if_neg c4] at H
    have c4b0 := decide_eq_false c4
    clear c4
    obtain rfl := Option.some.inj H
    go_wp2
    go_ret
    exact ⟨_, rf, by (with_reducible repeat (first | apply Kd.R_alloc | apply Kd.R_drewN | apply Kd.R_drew)); exact HO_3.out, bl⟩
   rw [if_pos c4] at H
   have c4b0 := decide_eq_true c4
   clear c4
   have HC5 := am H
   clear H
   go_upto_region 6 with (fail)
   go_cut [23] (fun v23 wc => ∃ (kq : Nat) (x23_4 : Bool), v23 = .bool x23_4 ∧ Aside0 (spec_Split.j1 kq a0 x3_1 x4_1 x5_1 x23_4 = some r) ∧ Aside0 (kq ≤ k1) ∧ Aside0 (Kd.R Kd.string 9 wc w.heap.size (fun _ => True) u3 x3_1) ∧ Aside0 (Below w.heap.size w wc))
   case first =>
    have H := HC5.out
    clear HC5
    by_cases c6 : x5_1 < (a0.size : Int)
    rotate_left
    ·rw [if_neg c6] at H
     have c6b0 := decide_eq_false c6
     clear c6
     (first | rw [c6b0] | (simp only [i64_w, i32_w]; rw [c6b0]) | skip)
     have H' := am H
     clear H
     go_wp2
     go_meet
     case rel => exact ⟨_, (false), rs, H', ⟨by have := HK1.out; first | omega | exact Nat.le_refl _⟩, ⟨by (with_reducible repeat (first | apply Kd.R_alloc | apply Kd.R_drewN | apply Kd.R_drew)); exact HO_3.out⟩, ⟨u121HB⟩⟩
    rw [if_pos c6] at H
    have c6b0 := decide_eq_true c6
    clear c6
    (first | rw [c6b0] | (simp only [i64_w, i32_w]; rw [c6b0]) | skip)
    revert H
    refine ifn fun c7 H => ?_
    have c7b0 := decide_eq_true c7
    clear c7
    have H' := am H
    clear H
    have p8 : 0 ≤ (x5_1 : Int) := od
    have q8 : x5_1 < (a0.size : Int) := od
    have hx8 := bt_at a0 x5_1
    replace p8 := eq_true p8
    replace q8 := eq_true q8
    go_wp2
    go_meet
    case rel => exact ⟨_, (((bt a0 x5_1) != 44)), rs, H', ⟨by have := HK1.out; first | omega | exact Nat.le_refl _⟩, ⟨by (with_reducible repeat (first | apply Kd.R_alloc | apply Kd.R_drewN | apply Kd.R_drew)); exact HO_3.out⟩, ⟨u121HB⟩⟩
   case rest =>
    clear HC5
    try clear c1
    try clear p2
    try clear c4
    try clear c4b0
    try clear c6
    try clear c6b0
    try clear c7
    try clear c7b0
    try clear p8
    try clear q8
    try clear hx8
    try clear p2
    try clear p8
    try clear q8
    obtain ⟨kq, x23_4, rfl, HA, HJ4, HO_3, HB⟩ := hcut
    cases kq with
    | zero => exact absurd HA.out (by simp [spec_Split.j1])
    | succ kj4 =>
     have H := HA.out
     clear HA
     simp only [spec_Split.j1] at H
     by_cases c9 : x23_4 = true
     ·subst c9
      rw [if_pos rfl] at H
      have H' := am H
      clear H
      go_wp2
      go_roundg kj4
      case measure => have := HK1.out; have := HJ4.out; omega
      case rel => exact ⟨(x3_1), (x4_1), (wrap64 (x5_1 + 1)), rs, rs, H', ⟨by have := HK1.out; have := HJ4.out; omega⟩, ⟨by (with_reducible repeat (first | apply Kd.R_alloc | apply Kd.R_drewN | apply Kd.R_drew)); exact HO_3.out⟩, ⟨u121HB⟩⟩
     replace c9 := Bool.eq_false_iff.mpr c9
     subst c9
     rw [if_neg (show ¬ (false = true) by decide)] at H
     revert H
     refine ifn fun c10 H => ?_
     have c10b0 := eq_true c10
     have c10b1 := decide_eq_true c10
     clear c10
     revert H
     refine ifn fun c11 H => ?_
     have c11b0 := eq_true c11
     have c11b1 := decide_eq_true c11
     clear c11
     revert H
     refine ifn fun c12 H => ?_
     have c12b0 := eq_true c12
     have c12b1 := decide_eq_true c12
     clear c12
     revert H
     refine ok1 fun t791 A13 H => ?_
     by_cases c14 : t791.toList = ([] : List UInt8)
     ·rw [if_pos c14] at H
      have c14b0 : (t791.toList == ([] : List UInt8)) = true := beq_iff_eq.mpr c14
      have c14b1 : (t791.toList != ([] : List UInt8)) = false := bne_eq_false_iff_eq.mpr c14
      clear c14
      have H' := am H
      clear H
      go_wp2_with (first | (refine gl 28 Tryd.func123 #[.string (a0.extract (x4_1 : Int).toNat (x5_1 : Int).toNat)] ?_; (with_reducible refine (spec_Trim.calls kj4 (a0.extract (x4_1 : Int).toNat (x5_1 : Int).toNat) t791 _ A13.out).mono ?_); rintro e w' ⟨rfl, ⟨nd, rfl⟩⟩; refine ⟨_, rfl, ?_⟩))
      go_roundg kj4
      case measure => have := HK1.out; have := HJ4.out; omega
      case rel => exact ⟨(x3_1), (wrap64 (x5_1 + 1)), (wrap64 (x5_1 + 1)), rs, rs, H', ⟨by have := HK1.out; have := HJ4.out; omega⟩, ⟨by (with_reducible repeat (first | apply Kd.R_alloc | apply Kd.R_drewN | apply Kd.R_drew)); exact HO_3.out⟩, ⟨u121HB⟩⟩
     rw [if_neg c14] at H
     have c14b0 : (t791.toList == ([] : List UInt8)) = false := beq_eq_false_iff_ne.mpr c14
     have c14b1 : (t791.toList != ([] : List UInt8)) = true := bne_iff_ne.mpr c14
     revert H
     refine ifn fun c15 H => ?_
     have LMc15 := am c15
     clear c15
     obtain ⟨y792, hy792⟩ : ∃ y_ : List ByteArray, y_ = (x3_1 ++ [t791]) := ⟨_, rfl⟩
     replace H : (spec_Split.l0 kj4 a0 y792 (wrap64 (x5_1 + 1)) (wrap64 (x5_1 + 1))) = some r := by first | (rw [hy792]; with_reducible exact H) | (have H2_ := (Option.bind_some _ _).symm.trans H; rw [hy792]; with_reducible exact H2_) | (have H2_ := (Option.bind_some _ _).symm.trans H; with_reducible exact H2_) | with_reducible exact H | (rw [hy792]; exact H) | exact H
     have Ny792 := am hy792
     clear hy792
     have H' := am H
     clear H
     go_wp2_with (first | (refine gl 28 Tryd.func123 #[.string (a0.extract (x4_1 : Int).toNat (x5_1 : Int).toNat)] ?_; (with_reducible refine (spec_Trim.calls kj4 (a0.extract (x4_1 : Int).toNat (x5_1 : Int).toNat) t791 _ A13.out).mono ?_); rintro e w' ⟨rfl, ⟨nd, rfl⟩⟩; refine ⟨_, rfl, ?_⟩) | ((with_reducible refine gate_builtin (b := .append) (xs := #[.tmp 31, .tmp 33]) rfl ?_); at_builtin; refine Kd.R_append Kd.string (w0 := w) w.heap.size rfl (.tmp 31) (.tmp 33) 47 9 (.string ⟨#[]⟩) 16 rfl Tryd.underlying47 info9 rfl (by decide) (by omega) u3 x3_1 t791 [.string t791] (fun _ => True) (fun _ => False) rfl rfl ?aP (fun _ hk => hk.elim) ?aF ?aO ?aB ?aS ?aL ?_; (case aP => exact rfl); (case aB => exact bl); (case aF => exact (fun _ _ => trivial)); (case aO => exact (ro HO_3)); (case aS => exact (below_size bl)); (case aL => have := LMc15.out; omega); intro v793 w16 ho hb hg hat; rw [← Ny792.out] at ho; have n0_ := am (hb); have n1_ := am (ho); clear HB; clear HO_3; have HB := n0_; have HO794 := n1_; clear n0_ n1_; clear ho hb hg hat))
     go_roundg kj4
     case measure => have := HK1.out; have := HJ4.out; omega
     case rel => exact ⟨(y792), (wrap64 (x5_1 + 1)), (wrap64 (x5_1 + 1)), rs, rs, H', ⟨by have := HK1.out; have := HJ4.out; omega⟩, ⟨by (with_reducible repeat (first | apply Kd.R_alloc | apply Kd.R_drewN | apply Kd.R_drew)); exact HO794.out⟩, ⟨u121HB⟩⟩

/-! ### spec_Lower: function 122 -/
theorem u122HB {p : Prop} (h : p := by repeat (first | (with_reducible first | exact HB.out | apply below_alloc | apply pw_below_drewN | apply below_drew1) | exact HB.out)) : p := h
def spec_Lower.l0 : Nat → ByteArray → List Int → Int → Option (ByteArray)
 | 0, _, _, _ => none
 | k + 1, x0, x3, x4 => if x4 < (x0.size : Int) then (if 0 ≤ x4 then (if (bt x0 x4) ≥ 65 then (if (bt x0 x4) ≤ 90 then (if x3.length < 140737488355328 then (spec_Lower.l0 k x0 (x3 ++ [((bt x0 x4) + 32) % 256]) (wrap64 (x4 + 1))) else (none)) else (if x3.length < 140737488355328 then (spec_Lower.l0 k x0 (x3 ++ [bt x0 x4]) (wrap64 (x4 + 1))) else (none))) else (if x3.length < 140737488355328 then (spec_Lower.l0 k x0 (x3 ++ [bt x0 x4]) (wrap64 (x4 + 1))) else (none))) else (none)) else (some (strOfNums x3))
def spec_Lower.f (k : Nat) (a0 : ByteArray) : Option (ByteArray) := spec_Lower.l0 k a0 (([] : List Int)) 0
theorem spec_Lower.mono_l : ∀ k, (∀ y0 y1 y2, LeO (spec_Lower.l0 k y0 y1 y2) (spec_Lower.l0 (k + 1) y0 y1 y2))
 | 0 => fun _ _ _ r h => by simp [spec_Lower.l0] at h
 | k + 1 => by
  have ih0 := spec_Lower.mono_l k
  ·intro y0 y1 y2
   unfold spec_Lower.l0
   exact mo
theorem spec_Lower.mono : ∀ a0 k, LeO (spec_Lower.f k a0) (spec_Lower.f (k + 1) a0) := by
 intro a0 k
 have ih0 := spec_Lower.mono_l k
 unfold spec_Lower.f
 exact mo
set_option maxHeartbeats 8000000 in
set_option maxRecDepth 100000 in
theorem spec_Lower.calls (k : Nat) (a0 : ByteArray) (r : ByteArray) (w : World) (h : spec_Lower.f k a0 = some r) :
  Calls Tryd.prog 122 #[.string a0] w fun e w' => e = .returned (.string r) ∧ Below w.heap.size w w' := by
 have HB := am (Below.refl w.heap.size w)
 unfold spec_Lower.f at h
 have H := h
 clear h
 obtain ⟨y795, hy795⟩ : ∃ y_ : List Int, y_ = (([] : List Int)) := ⟨_, rfl⟩
 replace H : (spec_Lower.l0 k a0 y795 0) = some r := by first | (rw [hy795]; with_reducible exact H) | (have H2_ := (Option.bind_some _ _).symm.trans H; rw [hy795]; with_reducible exact H2_) | (have H2_ := (Option.bind_some _ _).symm.trans H; with_reducible exact H2_) | with_reducible exact H | (rw [hy795]; exact H) | exact H
 have Ny795 := am hy795
 clear hy795
 have H' := am H
 clear H
 go_enter Tryd.func122, Tryd.ntmps122
 go_wp2_with (first | ((with_reducible refine gate_dst (N := 6) rfl ?_); refine Kd.R_lit (Kd.int .u8) _ 5 ?hg (N := 6) ?hd (xs := ([] : List Int)) (inner := []) (ok := fun _ => True) (okp := fun _ => True) ?hr ?hp (fun _ hk => hk) trivial (Below.refl _ _) (Nat.le_refl _) (by simp) ?_; (case hd => rfl); (case hg => rfl); (case hr => first | (go_simp; done) | (go_simp; rfl)); (case hp => exact (Reps.none _ _)); intro v796 w2 ho3 hb hg_ hnew_; clear hg_ hnew_; (first | rw [← Ny795.out] at ho3 | (simp only [Int.reduceToNat] at ho3; rw [← Ny795.out] at ho3)); have HO797 := am (Kd.R_lower ho3 (below_size bl)); replace HB := am (below_step bl hb); clear hb ho3))
 (try simp only [Act.put, List.setIfInBounds_toArray, List.set_cons_zero, List.set_cons_succ])
 go_loopg [3, 4] k (fun kq v3 v4 w' => ∃ (x3_1 : List Int) (x4_1 : Int), v4 = .int .i64 x4_1 ∧ Aside0 (spec_Lower.l0 kq a0 x3_1 x4_1 = some r) ∧ Aside0 (kq ≤ k) ∧ Aside0 (Kd.R (Kd.int .u8) 5 w' w.heap.size (fun _ => True) v3 x3_1) ∧ Aside0 (Below w.heap.size w w'))
 case atStart => exact ⟨(y795), (0), rs, H', ⟨Nat.le_refl _⟩, ⟨by (with_reducible repeat (first | apply Kd.R_alloc | apply Kd.R_drewN | apply Kd.R_drew)); exact HO797.out⟩, ⟨u122HB⟩⟩
 case round =>
  clear H'
  try clear c1
  try clear p2
  obtain ⟨x3_1, x4_1, rfl, HA, HK1, HO_3, HB⟩ := hrel
  cases gk with
  | zero => exact absurd HA.out (by simp [spec_Lower.l0])
  | succ k1 =>
   have H := HA.out
   clear HA
   simp only [spec_Lower.l0] at H
   by_cases c4 : x4_1 < (a0.size : Int)
   rotate_left
   ·rw [if_neg c4] at H
    have c4b0 := decide_eq_false c4
    clear c4
    obtain rfl := Option.some.inj H
    have hcv15 := own_string (P := Tryd.prog) Tryd.underlying22 Tryd.underlying5 Tryd.underlying9 (Kd.own_of_R HO_3.out)
    go_wp2
    go_ret
    exact ⟨rf, bl⟩
   rw [if_pos c4] at H
   have c4b0 := decide_eq_true c4
   clear c4
   revert H
   refine ifn fun c5 H => ?_
   have c5b0 := decide_eq_true c5
   clear c5
   by_cases c7 : (bt a0 x4_1) ≥ 65
   rotate_left
   ·rw [if_neg c7] at H
    have c7b0 := decide_eq_false c7
    clear c7
    revert H
    refine ifn fun c13 H => ?_
    have LMc13 := am c13
    clear c13
    obtain ⟨y804, hy804⟩ : ∃ y_ : List Int, y_ = (x3_1 ++ [bt a0 x4_1]) := ⟨_, rfl⟩
    replace H : (spec_Lower.l0 k1 a0 y804 (wrap64 (x4_1 + 1))) = some r := by first | (rw [hy804]; with_reducible exact H) | (have H2_ := (Option.bind_some _ _).symm.trans H; rw [hy804]; with_reducible exact H2_) | (have H2_ := (Option.bind_some _ _).symm.trans H; with_reducible exact H2_) | with_reducible exact H | (rw [hy804]; exact H) | exact H
    have Ny804 := am hy804
    clear hy804
    have H' := am H
    clear H
    have p6 : 0 ≤ (x4_1 : Int) := od
    have q6 : x4_1 < (a0.size : Int) := od
    have hx6 := bt_at a0 x4_1
    replace p6 := eq_true p6
    replace q6 := eq_true q6
    go_wp2_with (first | ((with_reducible refine gate_builtin (b := .append) (xs := #[.tmp 24, .tmp 26]) rfl ?_); at_builtin; refine Kd.R_append (Kd.int .u8) (w0 := w) w.heap.size rfl (.tmp 24) (.tmp 26) 22 5 (.int .u8 0) 1 rfl Tryd.underlying22 info5 rfl (by decide) (by omega) u3 x3_1 (bt a0 x4_1) [.int .u8 (bt a0 x4_1)] (fun _ => True) (fun _ => False) rfl rfl ?aP (fun _ hk => hk.elim) ?aF ?aO ?aB ?aS ?aL ?_; (case aP => exact rfl); (case aB => exact bl); (case aF => exact (fun _ _ => trivial)); (case aO => exact (ro HO_3)); (case aS => exact (below_size bl)); (case aL => have := LMc13.out; omega); intro v805 w14 ho hb hg hat; rw [← Ny804.out] at ho; have n0_ := am (hb); have n1_ := am (ho); clear HB; clear HO_3; have HB := n0_; have HO806 := n1_; clear n0_ n1_; clear ho hb hg hat))
    go_roundg k1
    case measure => have := HK1.out; omega
    case rel => exact ⟨(y804), (wrap64 (x4_1 + 1)), rs, H', ⟨by have := HK1.out; omega⟩, ⟨by (with_reducible repeat (first | apply Kd.R_alloc | apply Kd.R_drewN | apply Kd.R_drew)); exact HO806.out⟩, ⟨u122HB⟩⟩
   rw [if_pos c7] at H
   have c7b0 := decide_eq_true c7
   clear c7
   by_cases c8 : (bt a0 x4_1) ≤ 90
   rotate_left
   ·rw [if_neg c8] at H
    have c8b0 := decide_eq_false c8
    clear c8
    revert H
    refine ifn fun c11 H => ?_
    have LMc11 := am c11
    clear c11
    obtain ⟨y801, hy801⟩ : ∃ y_ : List Int, y_ = (x3_1 ++ [bt a0 x4_1]) := ⟨_, rfl⟩
    replace H : (spec_Lower.l0 k1 a0 y801 (wrap64 (x4_1 + 1))) = some r := by first | (rw [hy801]; with_reducible exact H) | (have H2_ := (Option.bind_some _ _).symm.trans H; rw [hy801]; with_reducible exact H2_) | (have H2_ := (Option.bind_some _ _).symm.trans H; with_reducible exact H2_) | with_reducible exact H | (rw [hy801]; exact H) | exact H
    have Ny801 := am hy801
    clear hy801
    have H' := am H
    clear H
    have p6 : 0 ≤ (x4_1 : Int) := od
    have q6 : x4_1 < (a0.size : Int) := od
    have hx6 := bt_at a0 x4_1
    replace p6 := eq_true p6
    replace q6 := eq_true q6
    go_wp2_with (first | ((with_reducible refine gate_builtin (b := .append) (xs := #[.tmp 24, .tmp 26]) rfl ?_); at_builtin; refine Kd.R_append (Kd.int .u8) (w0 := w) w.heap.size rfl (.tmp 24) (.tmp 26) 22 5 (.int .u8 0) 1 rfl Tryd.underlying22 info5 rfl (by decide) (by omega) u3 x3_1 (bt a0 x4_1) [.int .u8 (bt a0 x4_1)] (fun _ => True) (fun _ => False) rfl rfl ?aP (fun _ hk => hk.elim) ?aF ?aO ?aB ?aS ?aL ?_; (case aP => exact rfl); (case aB => exact bl); (case aF => exact (fun _ _ => trivial)); (case aO => exact (ro HO_3)); (case aS => exact (below_size bl)); (case aL => have := LMc11.out; omega); intro v802 w12 ho hb hg hat; rw [← Ny801.out] at ho; have n0_ := am (hb); have n1_ := am (ho); clear HB; clear HO_3; have HB := n0_; have HO803 := n1_; clear n0_ n1_; clear ho hb hg hat))
    go_roundg k1
    case measure => have := HK1.out; omega
    case rel => exact ⟨(y801), (wrap64 (x4_1 + 1)), rs, H', ⟨by have := HK1.out; omega⟩, ⟨by (with_reducible repeat (first | apply Kd.R_alloc | apply Kd.R_drewN | apply Kd.R_drew)); exact HO803.out⟩, ⟨u122HB⟩⟩
   rw [if_pos c8] at H
   have c8b0 := decide_eq_true c8
   clear c8
   revert H
   refine ifn fun c9 H => ?_
   have LMc9 := am c9
   clear c9
   obtain ⟨y798, hy798⟩ : ∃ y_ : List Int, y_ = (x3_1 ++ [((bt a0 x4_1) + 32) % 256]) := ⟨_, rfl⟩
   replace H : (spec_Lower.l0 k1 a0 y798 (wrap64 (x4_1 + 1))) = some r := by first | (rw [hy798]; with_reducible exact H) | (have H2_ := (Option.bind_some _ _).symm.trans H; rw [hy798]; with_reducible exact H2_) | (have H2_ := (Option.bind_some _ _).symm.trans H; with_reducible exact H2_) | with_reducible exact H | (rw [hy798]; exact H) | exact H
   have Ny798 := am hy798
   clear hy798
   have H' := am H
   clear H
   have p6 : 0 ≤ (x4_1 : Int) := od
   have q6 : x4_1 < (a0.size : Int) := od
   have hx6 := bt_at a0 x4_1
   replace p6 := eq_true p6
   replace q6 := eq_true q6
   go_wp2_with (first | ((with_reducible refine gate_builtin (b := .append) (xs := #[.tmp 24, .tmp 26]) rfl ?_); at_builtin; refine Kd.R_append (Kd.int .u8) (w0 := w) w.heap.size rfl (.tmp 24) (.tmp 26) 22 5 (.int .u8 0) 1 rfl Tryd.underlying22 info5 rfl (by decide) (by omega) u3 x3_1 (((bt a0 x4_1) + 32) % 256) [.int .u8 (((bt a0 x4_1) + 32) % 256)] (fun _ => True) (fun _ => False) rfl rfl ?aP (fun _ hk => hk.elim) ?aF ?aO ?aB ?aS ?aL ?_; (case aP => exact rfl); (case aB => exact bl); (case aF => exact (fun _ _ => trivial)); (case aO => exact (ro HO_3)); (case aS => exact (below_size bl)); (case aL => have := LMc9.out; omega); intro v799 w10 ho hb hg hat; rw [← Ny798.out] at ho; have n0_ := am (hb); have n1_ := am (ho); clear HB; clear HO_3; have HB := n0_; have HO800 := n1_; clear n0_ n1_; clear ho hb hg hat))
   go_roundg k1
   case measure => have := HK1.out; omega
   case rel => exact ⟨(y798), (wrap64 (x4_1 + 1)), rs, H', ⟨by have := HK1.out; omega⟩, ⟨by (with_reducible repeat (first | apply Kd.R_alloc | apply Kd.R_drewN | apply Kd.R_drew)); exact HO800.out⟩, ⟨u122HB⟩⟩

/-! ### impl_Split: function 125 -/
theorem u125HB {p : Prop} (h : p := by repeat (first | (with_reducible first | exact HB.out | apply below_alloc | apply pw_below_drewN | apply below_drew1) | exact HB.out)) : p := h
def impl_Split.l0 : Nat → List ByteArray → List ByteArray → Int → Int → Option (List ByteArray)
 | 0, _, _, _, _ => none
 | k + 1, x3, x8, x9, x10 => if x10 < x9 then (if 0 ≤ x10 then (if x10 < (x8.length : Int) then ((impl_Trim.f (rdOf ByteArray.empty x8 x10)).bind fun t863 => (if t863.toList = ([] : List UInt8) then (impl_Split.l0 k x3 x8 x9 (wrap64 (x10 + 1))) else (if x3.length < 8796093022208 then (impl_Split.l0 k (x3 ++ [t863]) x8 x9 (wrap64 (x10 + 1))) else (none)))) else (none)) else (none)) else (some x3)
def impl_Split.f (k : Nat) (a0 : ByteArray) : Option (List ByteArray) := (strings_Split.f a0 (⟨#[44]⟩ : ByteArray)).bind fun t859 => (impl_Split.l0 k ([] : List ByteArray) t859 (t859.length : Int) 0)
theorem impl_Split.mono_l : ∀ k, (∀ y0 y1 y2 y3, LeO (impl_Split.l0 k y0 y1 y2 y3) (impl_Split.l0 (k + 1) y0 y1 y2 y3))
 | 0 => fun _ _ _ _ r h => by simp [impl_Split.l0] at h
 | k + 1 => by
  have ih0 := impl_Split.mono_l k
  ·intro y0 y1 y2 y3
   unfold impl_Split.l0
   exact mo
theorem impl_Split.mono : ∀ a0 k, LeO (impl_Split.f k a0) (impl_Split.f (k + 1) a0) := by
 intro a0 k
 have ih0 := impl_Split.mono_l k
 unfold impl_Split.f
 exact mo
set_option maxHeartbeats 8000000 in
set_option maxRecDepth 100000 in
theorem impl_Split.calls (k : Nat) (a0 : ByteArray) (r : List ByteArray) (w : World) (hGM : GLOBM w) (h : impl_Split.f k a0 = some r) :
  Calls Tryd.prog 125 #[.string a0] w fun e w' => ∃ v0_ : Value, e = .returned (v0_) ∧ Kd.R Kd.string 9 w' w.heap.size (fun _ => True) v0_ r ∧ Below w.heap.size w w' := by
 have HGM := am hGM
 clear hGM
 have HB := am (Below.refl w.heap.size w)
 unfold impl_Split.f at h
 have H := h
 clear h
 revert H
 refine ok1 fun t859 A2 H => ?_
 have H' := am H
 clear H
 go_enter Tryd.func125, Tryd.ntmps125
 go_wp2_with (first | (refine gl 8 Tryd.func96 #[.string a0, .string (⟨#[44]⟩ : ByteArray)] ?_; (with_reducible refine (strings_Split.calls a0 (⟨#[44]⟩ : ByteArray) t859 _ ?side1 A2.out).mono ?_); (case side1 => exact GLOBM.below HGM.out bl); rintro e w3 ⟨v860, rfl, ho0, hb⟩; refine ⟨_, rfl, ?_⟩; have HO861 := am (Kd.R_lower ho0 (below_size bl)); replace HB := am (below_step bl hb); clear hb ho0; obtain ⟨Ao4, co4, eo4⟩ := Kd.R_slice HO861.out; subst eo4))
 (try simp only [Act.put, List.setIfInBounds_toArray, List.set_cons_zero, List.set_cons_succ])
 go_loopg [3, 10] k (fun kq v3 v10 w' => ∃ (x3_1 : List ByteArray) (x10_1 : Int), v10 = .int .i64 x10_1 ∧ Aside0 (impl_Split.l0 kq x3_1 t859 (t859.length : Int) x10_1 = some r) ∧ Aside0 (kq ≤ k) ∧ Aside0 (Kd.R Kd.string 9 w' w.heap.size (fun k_ => some k_ ≠ ((.slice Ao4 t859.length co4) : Value).ownBlock) v3 x3_1) ∧ Aside0 (Kd.R Kd.string 9 w' w.heap.size (fun k_ => some k_ ≠ (v3 : Value).ownBlock) (.slice Ao4 t859.length co4) t859) ∧ Aside0 (Below w.heap.size w w'))
 case atStart => exact ⟨(([] : List ByteArray)), (0), rs, H', ⟨Nat.le_refl _⟩, ⟨by first | exact Kd.R_nil _ _ _ _ _ | exact Kd.N_nil _ _ _ _ _ | exact Kd.V_nil _ _ _ _ _ | exact Kd.Q_nil _ _ _ _ _ | exact Kd.S_nil _ _ _ _ _⟩, ⟨by (with_reducible repeat (first | apply Kd.R_alloc | apply Kd.R_drewN | apply Kd.R_drew)); exact Kd.R_mono HO861.out (fun _ hk => (by simp [Value.ownBlock]))⟩, ⟨u125HB⟩⟩
 case round =>
  clear H'
  try clear c1
  try clear p2
  obtain ⟨x3_1, x10_1, rfl, HA, HK1, HO_3, HO_8, HB⟩ := hrel
  cases gk with
  | zero => exact absurd HA.out (by simp [impl_Split.l0])
  | succ k1 =>
   have H := HA.out
   clear HA
   simp only [impl_Split.l0] at H
   by_cases c5 : x10_1 < (t859.length : Int)
   rotate_left
   ·rw [if_neg c5] at H
    have c5b0 := decide_eq_false c5
    clear c5
    obtain rfl := Option.some.inj H
    go_wp2
    go_ret
    exact ⟨_, rf, by (with_reducible repeat (first | apply Kd.R_alloc | apply Kd.R_drewN | apply Kd.R_drew)); exact Kd.R_mono HO_3.out (fun _ hk => trivial), bl⟩
   rw [if_pos c5] at H
   have c5b0 := decide_eq_true c5
   clear c5
   revert H
   refine ifn fun c6 H => ?_
   have c6b0 := decide_eq_true c6
   clear c6
   revert H
   refine ifn fun c7 H => ?_
   have c7b0 := decide_eq_true c7
   clear c7
   revert H
   refine ok1 fun t863 A8 H => ?_
   by_cases c9 : t863.toList = ([] : List UInt8)
   ·rw [if_pos c9] at H
    have c9b0 : (t863.toList == ([] : List UInt8)) = true := beq_iff_eq.mpr c9
    have c9b1 : (t863.toList != ([] : List UInt8)) = false := bne_eq_false_iff_eq.mpr c9
    clear c9
    have H' := am H
    clear H
    have p862 : 0 ≤ (x10_1 : Int) := od
    have q862 : x10_1 < (t859.length : Int) := od
    obtain ⟨ad862, e862, hx862_0⟩ := Kd.at_string (Kd.R_reads' HO_8.out).2.2 x10_1 p862 q862
    cases e862
    replace p862 := eq_true p862
    replace q862 := eq_true q862
    go_wp2_with (first | (refine gl 15 Tryd.func124 #[.string (rdOf ByteArray.empty t859 x10_1)] ?_; (with_reducible refine (impl_Trim.calls (rdOf ByteArray.empty t859 x10_1) t863 _ A8.out).mono ?_); rintro e w10 ⟨rfl, hb⟩; refine ⟨_, rfl, ?_⟩; replace HO_3 := kr HO_3 hb; replace HO_8 := kr HO_8 hb; replace HB := am (below_step bl hb); clear hb))
    go_roundg k1
    case measure => have := HK1.out; omega
    case rel => exact ⟨(x3_1), (wrap64 (x10_1 + 1)), rs, H', ⟨by have := HK1.out; omega⟩, ⟨by (with_reducible repeat (first | apply Kd.R_alloc | apply Kd.R_drewN | apply Kd.R_drew)); exact HO_3.out⟩, ⟨by (with_reducible repeat (first | apply Kd.R_alloc | apply Kd.R_drewN | apply Kd.R_drew)); exact HO_8.out⟩, ⟨u125HB⟩⟩
   rw [if_neg c9] at H
   have c9b0 : (t863.toList == ([] : List UInt8)) = false := beq_eq_false_iff_ne.mpr c9
   have c9b1 : (t863.toList != ([] : List UInt8)) = true := bne_iff_ne.mpr c9
   revert H
   refine ifn fun c11 H => ?_
   have LMc11 := am c11
   clear c11
   obtain ⟨y864, hy864⟩ : ∃ y_ : List ByteArray, y_ = (x3_1 ++ [t863]) := ⟨_, rfl⟩
   replace H : (impl_Split.l0 k1 y864 t859 (t859.length : Int) (wrap64 (x10_1 + 1))) = some r := by first | (rw [hy864]; with_reducible exact H) | (have H2_ := (Option.bind_some _ _).symm.trans H; rw [hy864]; with_reducible exact H2_) | (have H2_ := (Option.bind_some _ _).symm.trans H; with_reducible exact H2_) | with_reducible exact H | (rw [hy864]; exact H) | exact H
   have Ny864 := am hy864
   clear hy864
   have H' := am H
   clear H
   have p862 : 0 ≤ (x10_1 : Int) := od
   have q862 : x10_1 < (t859.length : Int) := od
   obtain ⟨ad862, e862, hx862_0⟩ := Kd.at_string (Kd.R_reads' HO_8.out).2.2 x10_1 p862 q862
   cases e862
   replace p862 := eq_true p862
   replace q862 := eq_true q862
   go_wp2_with (first | (refine gl 15 Tryd.func124 #[.string (rdOf ByteArray.empty t859 x10_1)] ?_; (with_reducible refine (impl_Trim.calls (rdOf ByteArray.empty t859 x10_1) t863 _ A8.out).mono ?_); rintro e w12 ⟨rfl, hb⟩; refine ⟨_, rfl, ?_⟩; replace HO_3 := kr HO_3 hb; replace HO_8 := kr HO_8 hb; replace HB := am (below_step bl hb); clear hb) | ((with_reducible refine gate_builtin (b := .append) (xs := #[.tmp 18, .tmp 20]) rfl ?_); at_builtin; refine Kd.R_append Kd.string (w0 := w) w.heap.size rfl (.tmp 18) (.tmp 20) 47 9 (.string ⟨#[]⟩) 16 rfl Tryd.underlying47 info9 rfl (by decide) (by omega) u3 x3_1 t863 [.string t863] (fun k_ => some k_ ≠ (.slice (some ad862) t859.length co4 : Value).ownBlock) (fun _ => False) rfl rfl ?aP (fun _ hk => hk.elim) ?aF ?aO ?aB ?aS ?aL ?_; (case aP => exact rfl); (case aB => exact bl); (case aF => exact (fun k_ hk => Kd.fresh' (Kd.R_lt (ro HO_8)) k_ hk)); (case aO => exact (ro HO_3)); (case aS => exact (below_size bl)); (case aL => have := LMc11.out; omega); intro v865 w13 ho hb hg hat; rw [← Ny864.out] at ho; have n0_ := am (Kd.R_after (ok := (fun _ => True)) (by (with_reducible repeat (first | apply Kd.R_alloc | apply Kd.R_drewN | apply Kd.R_drew)); exact Kd.R_mono HO_8.out (fun _ hk => ⟨trivial, hk⟩)) hg hat); have n1_ := am (hb); have n2_ := am (ho); clear HO_8; clear HB; clear HO_3; have HO_8 := n0_; have HB := n1_; have HO866 := n2_; clear n0_ n1_ n2_; clear ho hb hg hat))
   go_roundg k1
   case measure => have := HK1.out; omega
   case rel => exact ⟨(y864), (wrap64 (x10_1 + 1)), rs, H', ⟨by have := HK1.out; omega⟩, ⟨by (with_reducible repeat (first | apply Kd.R_alloc | apply Kd.R_drewN | apply Kd.R_drew)); exact HO866.out⟩, ⟨by (with_reducible repeat (first | apply Kd.R_alloc | apply Kd.R_drewN | apply Kd.R_drew)); exact Kd.R_mono HO_8.out (fun _ hk => hk.2)⟩, ⟨u125HB⟩⟩

/-! ### impl.Lower -/
def impl_Lower.f (a0 : ByteArray) : Option ByteArray := if a0.size ≤ 4611686018427387904 then some ⟨(a0.data.toList.map low1).toArray⟩ else none
set_option maxHeartbeats 4000000 in
theorem impl_Lower.calls (a0 : ByteArray) (r : ByteArray) (w : World) (h : impl_Lower.f a0 = some r) :
  Calls Tryd.prog 126 #[.string a0] w fun e w' => e = .returned (.string r) ∧ Below w.heap.size w w' := by
 unfold impl_Lower.f at h
 split at h
 case isFalse => cases h
 rename_i hl
 obtain rfl := Option.some.inj h
 obtain ⟨m, hm⟩ := low_start w a0
 have HL := am hm
 have HN := am hl
 have hlen : a0.data.toList.length = a0.size := data_length a0
 have HB0 := am (bytes_below (Below.refl w.heap.size w) (Nat.le_refl _) 5 a0)
 have kb := print_bytes (P := Tryd.prog) 9 22 5 Tryd.underlying9 Tryd.underlying22 Tryd.underlying5 a0 w
 have HLEN := am hlen
 clear hm hlen h hl
 go_enter Tryd.func126, Tryd.ntmps126
 go_wp2
 clear kb
 go_loopw [10] (fun i wr => ∃ k : Nat, k ≤ a0.size ∧ i = .int .i64 k ∧ Aside0 (LowRow w.heap.size k m a0.data.toList wr) ∧ Below w.heap.size w wr) (fun i _ => a0.size - (intOf i).toNat)
 case atStart => exact ⟨0, Nat.zero_le _, rfl, HL, HB0.out⟩
 case round =>
  obtain ⟨k, hk, rfl, hr, hb⟩ := hrel
  have hk2 : ((k : Nat) : Int) ≤ 4611686018427387904 := by have := HN.out; omega
  by_cases hlt : k < a0.size
  ·have hkl : k < a0.data.toList.length := by have := HLEN.out; omega
   have hc := low_cell hr.out k hkl
   have hf := low_free hr.out k hkl
   rw [if_neg (Nat.lt_irrefl k)] at hc
   have HR := am hr.out
   obtain ⟨c, hcc⟩ : ∃ c, c = a0.data.toList[k] := ⟨_, rfl⟩
   rw [← hcc] at hc
   have HC := am hcc
   clear hcc hr
   have hc0 : c.toNat < 256 := c.toNat_lt
   go_wp2
   ·have h1 : 65 ≤ (c.toNat : Int) := by assumption
    have h2 : (c.toNat : Int) ≤ 90 := by assumption
    go_roundw
    case rel => exact ⟨k + 1, by omega, by go_num, ⟨low_set HR.out hkl (by rw [← HC.out]; unfold low1; rw [if_pos ⟨by omega, by omega⟩]; simp; omega)⟩, hb.setCell (by simp) _⟩
    case measure => simp [intOf]; omega
   all_goals
    go_roundw
    case rel => exact ⟨k + 1, by omega, by go_num, ⟨low_keep HR.out hkl (by rw [← HC.out]; unfold low1; rw [if_neg (by omega)])⟩, hb⟩
    case measure => simp [intOf]; omega
  ·have kc : (convert 22 9 (.slice (some ⟨w.heap.size, 0, none⟩) a0.size (grownCap w a0.size 0 5))).run Tryd.prog wr = .ok (.string ⟨(a0.data.toList.map low1).toArray⟩) wr := by
    have := run_convert_bytes_back (P := Tryd.prog) wr 22 9 5 ⟨w.heap.size, 0, none⟩ (grownCap w a0.size 0 5) (a0.data.toList.map low1) Tryd.underlying22 Tryd.underlying5 Tryd.underlying9 (fun j hj => by
     rw [add_plain]
     have hj2 : j < a0.data.toList.length := by simpa using hj
     have hjk : j < k := by have := HLEN.out; omega
     rw [low_cell hr.out j hj2, if_pos hjk]; simp)
    rw [List.length_map, data_length] at this
    exact this
   go_wp2
   go_ret
   exact ⟨rfl, hb⟩

/-! ### stringslite_HasPrefix: function 145 -/
def stringslite_HasPrefix.f (a0 : ByteArray) (a1 : ByteArray) : Option (Bool) := if (a0.size : Int) ≥ (a1.size : Int) then (if 0 ≤ (a1.size : Int) then (if (a1.size : Int) ≤ (a0.size : Int) then (some ((a0.extract 0 ((a1.size : Int) : Int).toNat).toList == a1.toList)) else (none)) else (none)) else (some false)
set_option maxHeartbeats 8000000 in
set_option maxRecDepth 100000 in
theorem stringslite_HasPrefix.calls (a0 : ByteArray) (a1 : ByteArray) (r : Bool) (w : World) (h : stringslite_HasPrefix.f a0 a1 = some r) :
  Calls Tryd.prog 145 #[.string a0, .string a1] w fun e w' => e = .returned (.bool r) ∧ Drawn0 w w' := by
 unfold stringslite_HasPrefix.f at h
 have H := h
 clear h
 by_cases c3 : (a0.size : Int) ≥ (a1.size : Int)
 rotate_left
 ·rw [if_neg c3] at H
  have c3b0 := decide_eq_false c3
  have c3b1 : decide (a1.size ≤ a0.size) = false := decide_eq_false (fun h => c3 (Int.ofNat_le.mpr h))
  clear c3
  obtain rfl := Option.some.inj H
  go_enter Tryd.func145, Tryd.ntmps145
  go_wp2
  go_ret
  exact ⟨rs, dr⟩
 rw [if_pos c3] at H
 have c3b0 := decide_eq_true c3
 have c3b1 : decide (a1.size ≤ a0.size) = true := decide_eq_true (Int.ofNat_le.mp c3)
 clear c3
 revert H
 refine ifn fun c4 H => ?_
 have c4b0 := eq_true c4
 have c4b1 := decide_eq_true c4
 clear c4
 revert H
 refine ifn fun c5 H => ?_
 have c5b0 := eq_true c5
 have c5b1 := decide_eq_true c5
 clear c5
 obtain rfl := Option.some.inj H
 go_enter Tryd.func145, Tryd.ntmps145
 go_wp2
 go_ret
 exact ⟨rs, dr⟩

end Go.Proofs.YtkgdcfaogdmcgaaDoor.All
