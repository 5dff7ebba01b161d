-- Written by a program of this session (wip/tools/hprint.py) out of the translation. Lean checks it.
import Derived.Test.YtkgdcfaogdmcgaaDoorAllx0
namespace Go.Proofs.YtkgdcfaogdmcgaaDoor.All
open Go.RowKit Go.Proofs.YtkgdcfaogdmcgaaDoorW.PrintWords Go.Proofs.YtkgdcfaogdmcgaaDoorW.PrintLast Go.Proofs.YtkgdcfaogdmcgaaDoorW.PrintMore
attribute [local go_sem] max2_int min2_int max_two min_two max_three min_three max_four min_four   -- for this text's walks alone
set_option linter.unusedVariables false
set_option linter.unusedSimpArgs false

/-! ### spec_l3Methods: function 63 -/
def spec_l3Methods.f  : Option (List ByteArray) := some (([(⟨#[]⟩ : ByteArray), (⟨#[71, 69, 84]⟩ : ByteArray), (⟨#[72, 69, 65, 68]⟩ : ByteArray), (⟨#[80, 79, 83, 84]⟩ : ByteArray), (⟨#[80, 85, 82, 71, 69]⟩ : ByteArray)] : List ByteArray))
set_option maxHeartbeats 8000000 in
set_option maxRecDepth 100000 in
theorem spec_l3Methods.calls  (r : List ByteArray) (w : World) (h : spec_l3Methods.f  = some r) :
  Calls Tryd.prog 63 #[] w fun e w' => ∃ v0_ : Value, e = .returned (v0_) ∧ Kd.R Kd.string 9 w' w.heap.size (fun _ => True) v0_ r ∧ Below w.heap.size w w' := by
 have HB := am (Below.refl w.heap.size w)
 unfold spec_l3Methods.f at h
 have H := h
 clear h
 obtain ⟨y715, hy715⟩ : ∃ y_ : List ByteArray, y_ = (([(⟨#[]⟩ : ByteArray), (⟨#[71, 69, 84]⟩ : ByteArray), (⟨#[72, 69, 65, 68]⟩ : ByteArray), (⟨#[80, 79, 83, 84]⟩ : ByteArray), (⟨#[80, 85, 82, 71, 69]⟩ : ByteArray)] : List ByteArray)) := ⟨_, rfl⟩
 replace H : (some y715) = some r := by first | (rw [hy715]; with_reducible exact H) | (have H2_ := (Option.bind_some _ _).symm.trans H; rw [hy715]; with_reducible exact H2_) | (have H2_ := (Option.bind_some _ _).symm.trans H; with_reducible exact H2_) | with_reducible exact H | (rw [hy715]; exact H) | exact H
 have Ny715 := am hy715
 clear hy715
 obtain rfl := Option.some.inj H
 go_enter Tryd.func63, Tryd.ntmps63
 go_wp2_with (first | ((with_reducible refine gate_dst (N := 1) rfl ?_); refine Kd.R_lit Kd.string _ 9 ?hg (N := 1) ?hd (xs := ([(⟨#[]⟩ : ByteArray), (⟨#[71, 69, 84]⟩ : ByteArray), (⟨#[72, 69, 65, 68]⟩ : ByteArray), (⟨#[80, 79, 83, 84]⟩ : ByteArray), (⟨#[80, 85, 82, 71, 69]⟩ : ByteArray)] : List ByteArray)) (inner := [.string (⟨#[]⟩ : ByteArray), .string (⟨#[71, 69, 84]⟩ : ByteArray), .string (⟨#[72, 69, 65, 68]⟩ : ByteArray), .string (⟨#[80, 79, 83, 84]⟩ : ByteArray), .string (⟨#[80, 85, 82, 71, 69]⟩ : ByteArray)]) (ok := fun _ => True) (okp := fun _ => True) ?hr ?hp (fun _ hk => hk) trivial (Below.refl _ _) (Nat.le_refl _) (by simp) ?_; (case hd => rfl); (case hg => rfl); (case hr => first | (go_simp; done) | (go_simp; rfl)); (case hp => exact rp); intro v716 w1 ho2 hb hg_ hnew_; clear hg_ hnew_; (first | rw [← Ny715.out] at ho2 | (simp only [Int.reduceToNat] at ho2; rw [← Ny715.out] at ho2)); have HO717 := am (Kd.R_lower ho2 (below_size bl)); replace HB := am (below_step bl hb); clear hb ho2))
 go_ret
 exact ⟨_, rf, by (with_reducible repeat (first | apply Kd.R_alloc | apply Kd.R_drewN | apply Kd.R_drew)); exact HO717.out, bl⟩

/-! ### spec_l3Head: function 92 -/
theorem u92HB {p : Prop} (h : p := by repeat (first | (with_reducible first | exact HB.out | apply below_alloc | apply pw_below_drewN | apply below_drew1) | exact HB.out)) : p := h
mutual
def spec_l3Head.l0 : Nat → ByteArray → List ByteArray → Int → Int → Option (List ByteArray × Int)
 | 0, _, _, _, _ => none
 | k + 1, x0, x4, x5, x6 => if x6 < (x0.size : Int) then (if 0 ≤ x6 then (if (bt x0 x6) = 10 then (if 0 ≤ (wrap64 (x6 - 1)) then (if (wrap64 (x6 - 1)) < (x0.size : Int) then (if (bt x0 (wrap64 (x6 - 1))) = 13 then (spec_l3Head.j1 k x0 x4 x5 x6 (decide ((wrap64 (x6 - 1)) < x5))) else (spec_l3Head.j1 k x0 x4 x5 x6 true)) else (none)) else (none)) else (spec_l3Head.j1 k x0 x4 x5 x6 true)) else (none)) else (some (x4, (-1)))
def spec_l3Head.j1 : Nat → ByteArray → List ByteArray → Int → Int → Bool → Option (List ByteArray × Int)
 | 0, _, _, _, _, _ => none
 | k + 1, x0, x4, x5, x6, x31 => if x31 = true then (spec_l3Head.l0 k x0 x4 x5 (wrap64 (x6 + 1))) else (if 0 ≤ x5 then (if x5 ≤ (wrap64 (x6 - 1)) then (if (wrap64 (x6 - 1)) ≤ (x0.size : Int) then (if (x0.extract (x5 : Int).toNat ((wrap64 (x6 - 1)) : Int).toNat).toList = ([] : List UInt8) then (some (x4, wrap64 (x6 + 1))) else (if x4.length < 8796093022208 then (spec_l3Head.l0 k x0 (x4 ++ [x0.extract (x5 : Int).toNat ((wrap64 (x6 - 1)) : Int).toNat]) (wrap64 (x6 + 1)) (wrap64 (x6 + 1))) else (none))) else (none)) else (none)) else (none))
end
def spec_l3Head.f (k : Nat) (a0 : ByteArray) : Option (List ByteArray × Int) := spec_l3Head.l0 k a0 (([] : List ByteArray)) 0 1
theorem spec_l3Head.mono_l : ∀ k, (∀ y0 y1 y2 y3, LeO (spec_l3Head.l0 k y0 y1 y2 y3) (spec_l3Head.l0 (k + 1) y0 y1 y2 y3)) ∧ (∀ y0 y1 y2 y3 y4, LeO (spec_l3Head.j1 k y0 y1 y2 y3 y4) (spec_l3Head.j1 (k + 1) y0 y1 y2 y3 y4))
 | 0 => ⟨fun _ _ _ _ r h => by simp [spec_l3Head.l0] at h, fun _ _ _ _ _ r h => by simp [spec_l3Head.j1] at h⟩
 | k + 1 => by
  obtain ⟨ih0, ih1⟩ := spec_l3Head.mono_l k
  refine ⟨?_, ?_⟩
  ·intro y0 y1 y2 y3
   unfold spec_l3Head.l0
   exact mo
  ·intro y0 y1 y2 y3 y4
   unfold spec_l3Head.j1
   exact mo
theorem spec_l3Head.mono : ∀ a0 k, LeO (spec_l3Head.f k a0) (spec_l3Head.f (k + 1) a0) := by
 intro a0 k
 obtain ⟨ih0, ih1⟩ := spec_l3Head.mono_l k
 unfold spec_l3Head.f
 exact mo
set_option maxHeartbeats 8000000 in
set_option maxRecDepth 100000 in
theorem spec_l3Head.calls (k : Nat) (a0 : ByteArray) (r1 : List ByteArray) (r2 : Int) (w : World) (h : spec_l3Head.f k a0 = some (r1, r2)) :
  Calls Tryd.prog 92 #[.string a0] w fun e w' => ∃ v0_ : Value, e = .returned (.tuple #[v0_, .int .i64 r2]) ∧ Kd.R Kd.string 9 w' w.heap.size (fun _ => True) v0_ r1 ∧ Below w.heap.size w w' := by
 have HB := am (Below.refl w.heap.size w)
 unfold spec_l3Head.f at h
 have H := h
 clear h
 obtain ⟨y1050, hy1050⟩ : ∃ y_ : List ByteArray, y_ = (([] : List ByteArray)) := ⟨_, rfl⟩
 replace H : (spec_l3Head.l0 k a0 y1050 0 1) = some (r1, r2) := by first | (rw [hy1050]; with_reducible exact H) | (have H2_ := (Option.bind_some _ _).symm.trans H; rw [hy1050]; with_reducible exact H2_) | (have H2_ := (Option.bind_some _ _).symm.trans H; with_reducible exact H2_) | with_reducible exact H | (rw [hy1050]; exact H) | exact H
 have Ny1050 := am hy1050
 clear hy1050
 have H' := am H
 clear H
 go_enter Tryd.func92, Tryd.ntmps92
 go_wp2_with (first | ((with_reducible refine gate_dst (N := 8) rfl ?_); refine Kd.R_lit Kd.string _ 9 ?hg (N := 8) ?hd (xs := ([] : List ByteArray)) (inner := []) (ok := fun _ => True) (okp := fun _ => True) ?hr ?hp (fun _ hk => hk) trivial (Below.refl _ _) (Nat.le_refl _) (by simp) ?_; (case hd => rfl); (case hg => rfl); (case hr => first | (go_simp; done) | (go_simp; rfl)); (case hp => exact (Reps.none _ _)); intro v1051 w2 ho3 hb hg_ hnew_; clear hg_ hnew_; (first | rw [← Ny1050.out] at ho3 | (simp only [Int.reduceToNat] at ho3; rw [← Ny1050.out] at ho3)); have HO1052 := am (Kd.R_lower ho3 (below_size bl)); replace HB := am (below_step bl hb); clear hb ho3))
 (try simp only [Act.put, List.setIfInBounds_toArray, List.set_cons_zero, List.set_cons_succ])
 go_loopg [4, 5, 6] k (fun kq v4 v5 v6 w' => ∃ (x4_1 : List ByteArray) (x5_1 : Int) (x6_1 : Int), v5 = .int .i64 x5_1 ∧ v6 = .int .i64 x6_1 ∧ Aside0 (spec_l3Head.l0 kq a0 x4_1 x5_1 x6_1 = some (r1, r2)) ∧ Aside0 (kq ≤ k) ∧ Aside0 (Kd.R Kd.string 9 w' w.heap.size (fun _ => True) v4 x4_1) ∧ Aside0 (Below w.heap.size w w'))
 case atStart => exact ⟨(y1050), (0), (1), rs, rs, H', ⟨Nat.le_refl _⟩, ⟨by (with_reducible repeat (first | apply Kd.R_alloc | apply Kd.R_drewN | apply Kd.R_drew)); exact HO1052.out⟩, ⟨u92HB⟩⟩
 case round =>
  clear H'
  try clear p2
  obtain ⟨x4_1, x5_1, x6_1, rfl, rfl, HA, HK1, HO_4, HB⟩ := hrel
  cases gk with
  | zero => exact absurd HA.out (by simp [spec_l3Head.l0])
  | succ k1 =>
   have H := HA.out
   clear HA
   simp only [spec_l3Head.l0] at H
   by_cases c4 : x6_1 < (a0.size : Int)
   rotate_left
   ·rw [if_neg c4] at H
    have c4b0 := decide_eq_false c4
    clear c4
    simp only [Option.some.injEq, Prod.mk.injEq] at H
    obtain ⟨rfl, rfl⟩ := H
    go_wp2
    go_ret2
    exact ⟨_, rf, by (with_reducible repeat (first | apply Kd.R_alloc | apply Kd.R_drewN | apply Kd.R_drew)); exact HO_4.out, bl⟩
   rw [if_pos c4] at H
   have c4b0 := decide_eq_true c4
   clear c4
   have HC5 := am H
   clear H
   go_upto_region 6 with (fail)
   go_cut [31] (fun v31 wc => ∃ (kq : Nat) (x31_4 : Bool), v31 = .bool x31_4 ∧ Aside0 (spec_l3Head.j1 kq a0 x4_1 x5_1 x6_1 x31_4 = some (r1, r2)) ∧ Aside0 (kq ≤ k1) ∧ Aside0 (Kd.R Kd.string 9 wc w.heap.size (fun _ => True) u4 x4_1) ∧ Aside0 (Below w.heap.size w wc))
   case first =>
    have H := HC5.out
    clear HC5
    revert H
    refine ifn fun c6 H => ?_
    have c6b0 := decide_eq_true c6
    clear c6
    (first | rw [c6b0] | (simp only [i64_w, i32_w]; rw [c6b0]) | skip)
    by_cases c8 : (bt a0 x6_1) = 10
    rotate_left
    ·rw [if_neg c8] at H
     have c8b0 : ((bt a0 x6_1) == 10) = false := beq_eq_false_iff_ne.mpr c8
     have c8b1 : ((bt a0 x6_1) != 10) = true := bne_iff_ne.mpr c8
     have H' := am H
     clear H
     have p7 : 0 ≤ (x6_1 : Int) := od
     have q7 : x6_1 < (a0.size : Int) := od
     have hx7 := bt_at a0 x6_1
     replace p7 := eq_true p7
     replace q7 := eq_true q7
     go_wp2
     go_meet
     case rel => exact ⟨_, (true), rs, H', ⟨by have := HK1.out; first | omega | exact Nat.le_refl _⟩, ⟨by (with_reducible repeat (first | apply Kd.R_alloc | apply Kd.R_drewN | apply Kd.R_drew)); exact HO_4.out⟩, ⟨u92HB⟩⟩
    rw [if_pos c8] at H
    have c8b0 : ((bt a0 x6_1) == 10) = true := beq_iff_eq.mpr c8
    have c8b1 : ((bt a0 x6_1) != 10) = false := bne_eq_false_iff_eq.mpr c8
    clear c8
    obtain ⟨ji9, hji9⟩ : ∃ j_ : Int, (wrap64 (x6_1 - 1)) = j_ := ⟨_, rfl⟩
    replace H : (if 0 ≤ (ji9) then (if (ji9) < (a0.size : Int) then (if (bt a0 (ji9)) = 13 then (spec_l3Head.j1 k1 a0 x4_1 x5_1 x6_1 (decide ((ji9) < x5_1))) else (spec_l3Head.j1 k1 a0 x4_1 x5_1 x6_1 true)) else (none)) else (none)) = some (r1, r2) := by first | (rw [hji9] at H; exact H) | (simp only [hji9] at H ⊢; exact H)
    have hji9w : (IntKind.i64.wrap (x6_1 - 1)) = ji9 := (i64_w _).trans hji9
    revert H
    refine ifn fun c10 H => ?_
    have c10b0 := decide_eq_true c10
    clear c10
    revert H
    refine ifn fun c11 H => ?_
    have c11b0 := decide_eq_true c11
    clear c11
    by_cases c13 : (bt a0 (ji9)) = 13
    rotate_left
    ·rw [if_neg c13] at H
     have c13b0 : ((bt a0 (ji9)) == 13) = false := beq_eq_false_iff_ne.mpr c13
     have c13b1 : ((bt a0 (ji9)) != 13) = true := bne_iff_ne.mpr c13
     have H' := am H
     clear H
     have p7 : 0 ≤ (x6_1 : Int) := od
     have q7 : x6_1 < (a0.size : Int) := od
     have hx7 := bt_at a0 x6_1
     replace p7 := eq_true p7
     replace q7 := eq_true q7
     have p12 : 0 ≤ ((ji9) : Int) := od
     have q12 : (ji9) < (a0.size : Int) := od
     have hx12 := bt_at a0 (ji9)
     replace p12 := eq_true p12
     replace q12 := eq_true q12
     go_wp2
     go_meet
     case rel => exact ⟨_, (true), rs, H', ⟨by have := HK1.out; first | omega | exact Nat.le_refl _⟩, ⟨by (with_reducible repeat (first | apply Kd.R_alloc | apply Kd.R_drewN | apply Kd.R_drew)); exact HO_4.out⟩, ⟨u92HB⟩⟩
    rw [if_pos c13] at H
    have c13b0 : ((bt a0 (ji9)) == 13) = true := beq_iff_eq.mpr c13
    have c13b1 : ((bt a0 (ji9)) != 13) = false := bne_eq_false_iff_eq.mpr c13
    clear c13
    have H' := am H
    clear H
    have p7 : 0 ≤ (x6_1 : Int) := od
    have q7 : x6_1 < (a0.size : Int) := od
    have hx7 := bt_at a0 x6_1
    replace p7 := eq_true p7
    replace q7 := eq_true q7
    have p12 : 0 ≤ ((ji9) : Int) := od
    have q12 : (ji9) < (a0.size : Int) := od
    have hx12 := bt_at a0 (ji9)
    replace p12 := eq_true p12
    replace q12 := eq_true q12
    go_wp2
    go_meet
    case rel => exact ⟨_, (decide ((ji9) < x5_1)), (by first | rfl | (simp; done) | (simp only [← hji9] <;> (first | rfl | simp)) | (simp [*]; done)), H', ⟨by have := HK1.out; first | omega | exact Nat.le_refl _⟩, ⟨by (with_reducible repeat (first | apply Kd.R_alloc | apply Kd.R_drewN | apply Kd.R_drew)); exact HO_4.out⟩, ⟨u92HB⟩⟩
   case rest =>
    clear HC5
    try clear c1
    try clear p1
    try clear q1
    try clear hx1
    try clear p2
    try clear c4
    try clear c4b0
    try clear c6
    try clear c6b0
    try clear p6
    try clear p7
    try clear q7
    try clear hx7
    try clear c8
    try clear c8b0
    try clear c8b1
    try clear c9
    try clear c10
    try clear c10b0
    try clear c11
    try clear c11b0
    try clear p12
    try clear q12
    try clear hx12
    try clear c13
    try clear c13b0
    try clear c13b1
    try clear p12
    try clear p2
    try clear p7
    try clear q12
    try clear q7
    obtain ⟨kq, x31_4, rfl, HA, HJ4, HO_4, HB⟩ := hcut
    cases kq with
    | zero => exact absurd HA.out (by simp [spec_l3Head.j1])
    | succ kj4 =>
     have H := HA.out
     clear HA
     simp only [spec_l3Head.j1] at H
     by_cases c14 : x31_4 = true
     ·subst c14
      rw [if_pos rfl] at H
      have H' := am H
      clear H
      go_wp2
      go_roundg kj4
      case measure => have := HK1.out; have := HJ4.out; omega
      case rel => exact ⟨(x4_1), (x5_1), (wrap64 (x6_1 + 1)), rs, rs, H', ⟨by have := HK1.out; have := HJ4.out; omega⟩, ⟨by (with_reducible repeat (first | apply Kd.R_alloc | apply Kd.R_drewN | apply Kd.R_drew)); exact HO_4.out⟩, ⟨u92HB⟩⟩
     replace c14 := Bool.eq_false_iff.mpr c14
     subst c14
     rw [if_neg (show ¬ (false = true) by decide)] at H
     revert H
     refine ifn fun c15 H => ?_
     have c15b0 := eq_true c15
     have c15b1 := decide_eq_true c15
     clear c15
     revert H
     refine ifn fun c16 H => ?_
     have c16b0 := eq_true c16
     have c16b1 := decide_eq_true c16
     clear c16
     revert H
     refine ifn fun c17 H => ?_
     have c17b0 := eq_true c17
     have c17b1 := decide_eq_true c17
     clear c17
     by_cases c18 : (a0.extract (x5_1 : Int).toNat ((wrap64 (x6_1 - 1)) : Int).toNat).toList = ([] : List UInt8)
     ·rw [if_pos c18] at H
      have c18b0 : ((a0.extract (x5_1 : Int).toNat ((wrap64 (x6_1 - 1)) : Int).toNat).toList == ([] : List UInt8)) = true := beq_iff_eq.mpr c18
      have c18b1 : ((a0.extract (x5_1 : Int).toNat ((wrap64 (x6_1 - 1)) : Int).toNat).toList != ([] : List UInt8)) = false := bne_eq_false_iff_eq.mpr c18
      clear c18
      simp only [Option.some.injEq, Prod.mk.injEq] at H
      obtain ⟨rfl, rfl⟩ := H
      go_wp2
      go_ret2
      exact ⟨_, rf, by (with_reducible repeat (first | apply Kd.R_alloc | apply Kd.R_drewN | apply Kd.R_drew)); exact HO_4.out, bl⟩
     rw [if_neg c18] at H
     have c18b0 : ((a0.extract (x5_1 : Int).toNat ((wrap64 (x6_1 - 1)) : Int).toNat).toList == ([] : List UInt8)) = false := beq_eq_false_iff_ne.mpr c18
     have c18b1 : ((a0.extract (x5_1 : Int).toNat ((wrap64 (x6_1 - 1)) : Int).toNat).toList != ([] : List UInt8)) = true := bne_iff_ne.mpr c18
     revert H
     refine ifn fun c19 H => ?_
     have LMc19 := am c19
     clear c19
     obtain ⟨y1053, hy1053⟩ : ∃ y_ : List ByteArray, y_ = (x4_1 ++ [a0.extract (x5_1 : Int).toNat ((wrap64 (x6_1 - 1)) : Int).toNat]) := ⟨_, rfl⟩
     replace H : (spec_l3Head.l0 kj4 a0 y1053 (wrap64 (x6_1 + 1)) (wrap64 (x6_1 + 1))) = some (r1, r2) := by first | (rw [hy1053]; with_reducible exact H) | (have H2_ := (Option.bind_some _ _).symm.trans H; rw [hy1053]; with_reducible exact H2_) | (have H2_ := (Option.bind_some _ _).symm.trans H; with_reducible exact H2_) | with_reducible exact H | (rw [hy1053]; exact H) | exact H
     have Ny1053 := am hy1053
     clear hy1053
     have H' := am H
     clear H
     go_wp2_with (first | ((with_reducible refine gate_builtin (b := .append) (xs := #[.tmp 43, .tmp 45]) rfl ?_); at_builtin; refine Kd.R_append Kd.string (w0 := w) w.heap.size rfl (.tmp 43) (.tmp 45) 47 9 (.string ⟨#[]⟩) 16 rfl Tryd.underlying47 info9 rfl (by decide) (by omega) u4 x4_1 (a0.extract (x5_1 : Int).toNat ((wrap64 (x6_1 - 1)) : Int).toNat) [.string (a0.extract (x5_1 : Int).toNat ((wrap64 (x6_1 - 1)) : Int).toNat)] (fun _ => True) (fun _ => False) rfl rfl ?aP (fun _ hk => hk.elim) ?aF ?aO ?aB ?aS ?aL ?_; (case aP => exact rfl); (case aB => exact bl); (case aF => exact (fun _ _ => trivial)); (case aO => exact (ro HO_4)); (case aS => exact (below_size bl)); (case aL => have := LMc19.out; omega); intro v1054 w20 ho hb hg hat; rw [← Ny1053.out] at ho; have n0_ := am (hb); have n1_ := am (ho); clear HB; clear HO_4; have HB := n0_; have HO1055 := n1_; clear n0_ n1_; clear ho hb hg hat))
     go_roundg kj4
     case measure => have := HK1.out; have := HJ4.out; omega
     case rel => exact ⟨(y1053), (wrap64 (x6_1 + 1)), (wrap64 (x6_1 + 1)), rs, rs, H', ⟨by have := HK1.out; have := HJ4.out; omega⟩, ⟨by (with_reducible repeat (first | apply Kd.R_alloc | apply Kd.R_drewN | apply Kd.R_drew)); exact HO1055.out⟩, ⟨u92HB⟩⟩

/-! ### spec_l3Words: function 93 -/
theorem u93HB {p : Prop} (h : p := by repeat (first | (with_reducible first | exact HB.out | apply below_alloc | apply pw_below_drewN | apply below_drew1) | exact HB.out)) : p := h
def spec_l3Words.l0 : Nat → ByteArray → List ByteArray → Int → Int → Option (List ByteArray)
 | 0, _, _, _, _ => none
 | k + 1, x0, x3, x4, x5 => if x5 ≤ (x0.size : Int) then (if x5 = (x0.size : Int) then (if 0 ≤ x4 then (if x4 ≤ x5 then (if x3.length < 8796093022208 then (spec_l3Words.l0 k x0 (x3 ++ [x0.extract (x4 : Int).toNat (x5 : Int).toNat]) (wrap64 (x5 + 1)) (wrap64 (x5 + 1))) else (none)) else (none)) else (none)) else (if 0 ≤ x5 then (if x5 < (x0.size : Int) then (if (bt x0 x5) = 32 then (if 0 ≤ x4 then (if x4 ≤ x5 then (if x3.length < 8796093022208 then (spec_l3Words.l0 k x0 (x3 ++ [x0.extract (x4 : Int).toNat (x5 : Int).toNat]) (wrap64 (x5 + 1)) (wrap64 (x5 + 1))) else (none)) else (none)) else (none)) else (spec_l3Words.l0 k x0 x3 x4 (wrap64 (x5 + 1)))) else (none)) else (none))) else (some x3)
def spec_l3Words.f (k : Nat) (a0 : ByteArray) : Option (List ByteArray) := spec_l3Words.l0 k a0 (([] : List ByteArray)) 0 0
theorem spec_l3Words.mono_l : ∀ k, (∀ y0 y1 y2 y3, LeO (spec_l3Words.l0 k y0 y1 y2 y3) (spec_l3Words.l0 (k + 1) y0 y1 y2 y3))
 | 0 => fun _ _ _ _ r h => by simp [spec_l3Words.l0] at h
 | k + 1 => by
  have ih0 := spec_l3Words.mono_l k
  ·intro y0 y1 y2 y3
   unfold spec_l3Words.l0
   exact mo
theorem spec_l3Words.mono : ∀ a0 k, LeO (spec_l3Words.f k a0) (spec_l3Words.f (k + 1) a0) := by
 intro a0 k
 have ih0 := spec_l3Words.mono_l k
 unfold spec_l3Words.f
 exact mo
set_option maxHeartbeats 8000000 in
set_option maxRecDepth 100000 in
theorem spec_l3Words.calls (k : Nat) (a0 : ByteArray) (r : List ByteArray) (w : World) (h : spec_l3Words.f k a0 = some r) :
  Calls Tryd.prog 93 #[.string a0] w fun e w' => ∃ v0_ : Value, e = .returned (v0_) ∧ Kd.R Kd.string 9 w' w.heap.size (fun _ => True) v0_ r ∧ Below w.heap.size w w' := by
 have HB := am (Below.refl w.heap.size w)
 unfold spec_l3Words.f at h
 have H := h
 clear h
 obtain ⟨y1056, hy1056⟩ : ∃ y_ : List ByteArray, y_ = (([] : List ByteArray)) := ⟨_, rfl⟩
 replace H : (spec_l3Words.l0 k a0 y1056 0 0) = some r := by first | (rw [hy1056]; with_reducible exact H) | (have H2_ := (Option.bind_some _ _).symm.trans H; rw [hy1056]; with_reducible exact H2_) | (have H2_ := (Option.bind_some _ _).symm.trans H; with_reducible exact H2_) | with_reducible exact H | (rw [hy1056]; exact H) | exact H
 have Ny1056 := am hy1056
 clear hy1056
 have H' := am H
 clear H
 go_enter Tryd.func93, Tryd.ntmps93
 go_wp2_with (first | ((with_reducible refine gate_dst (N := 6) rfl ?_); refine Kd.R_lit Kd.string _ 9 ?hg (N := 6) ?hd (xs := ([] : List ByteArray)) (inner := []) (ok := fun _ => True) (okp := fun _ => True) ?hr ?hp (fun _ hk => hk) trivial (Below.refl _ _) (Nat.le_refl _) (by simp) ?_; (case hd => rfl); (case hg => rfl); (case hr => first | (go_simp; done) | (go_simp; rfl)); (case hp => exact (Reps.none _ _)); intro v1057 w2 ho3 hb hg_ hnew_; clear hg_ hnew_; (first | rw [← Ny1056.out] at ho3 | (simp only [Int.reduceToNat] at ho3; rw [← Ny1056.out] at ho3)); have HO1058 := am (Kd.R_lower ho3 (below_size bl)); replace HB := am (below_step bl hb); clear hb ho3))
 (try simp only [Act.put, List.setIfInBounds_toArray, List.set_cons_zero, List.set_cons_succ])
 go_loopg [3, 4, 5] k (fun kq v3 v4 v5 w' => ∃ (x3_1 : List ByteArray) (x4_1 : Int) (x5_1 : Int), v4 = .int .i64 x4_1 ∧ v5 = .int .i64 x5_1 ∧ Aside0 (spec_l3Words.l0 kq a0 x3_1 x4_1 x5_1 = some r) ∧ Aside0 (kq ≤ k) ∧ Aside0 (Kd.R Kd.string 9 w' w.heap.size (fun _ => True) v3 x3_1) ∧ Aside0 (Below w.heap.size w w'))
 case atStart => exact ⟨(y1056), (0), (0), rs, rs, H', ⟨Nat.le_refl _⟩, ⟨by (with_reducible repeat (first | apply Kd.R_alloc | apply Kd.R_drewN | apply Kd.R_drew)); exact HO1058.out⟩, ⟨u93HB⟩⟩
 case round =>
  clear H'
  try clear p2
  obtain ⟨x3_1, x4_1, x5_1, rfl, rfl, HA, HK1, HO_3, HB⟩ := hrel
  cases gk with
  | zero => exact absurd HA.out (by simp [spec_l3Words.l0])
  | succ k1 =>
   have H := HA.out
   clear HA
   simp only [spec_l3Words.l0] at H
   by_cases c4 : x5_1 ≤ (a0.size : Int)
   rotate_left
   ·rw [if_neg c4] at H
    have c4b0 := decide_eq_false c4
    clear c4
    obtain rfl := Option.some.inj H
    go_wp2
    go_ret
    exact ⟨_, rf, by (with_reducible repeat (first | apply Kd.R_alloc | apply Kd.R_drewN | apply Kd.R_drew)); exact HO_3.out, bl⟩
   rw [if_pos c4] at H
   have c4b0 := decide_eq_true c4
   clear c4
   by_cases c5 : x5_1 = (a0.size : Int)
   ·rw [if_pos c5] at H
    have c5b0 : (x5_1 == (a0.size : Int)) = true := beq_iff_eq.mpr c5
    have c5b1 : (x5_1 != (a0.size : Int)) = false := bne_eq_false_iff_eq.mpr c5
    clear c5
    revert H
    refine ifn fun c6 H => ?_
    have c6b0 := eq_true c6
    have c6b1 := decide_eq_true c6
    clear c6
    revert H
    refine ifn fun c7 H => ?_
    have c7b0 := eq_true c7
    have c7b1 := decide_eq_true c7
    clear c7
    have c8b0 := eq_true (od : x5_1 ≤ (a0.size : Int))
    revert H
    refine ifn fun c9 H => ?_
    have LMc9 := am c9
    clear c9
    obtain ⟨y1059, hy1059⟩ : ∃ y_ : List ByteArray, y_ = (x3_1 ++ [a0.extract (x4_1 : Int).toNat (x5_1 : Int).toNat]) := ⟨_, rfl⟩
    replace H : (spec_l3Words.l0 k1 a0 y1059 (wrap64 (x5_1 + 1)) (wrap64 (x5_1 + 1))) = some r := by first | (rw [hy1059]; with_reducible exact H) | (have H2_ := (Option.bind_some _ _).symm.trans H; rw [hy1059]; with_reducible exact H2_) | (have H2_ := (Option.bind_some _ _).symm.trans H; with_reducible exact H2_) | with_reducible exact H | (rw [hy1059]; exact H) | exact H
    have Ny1059 := am hy1059
    clear hy1059
    have H' := am H
    clear H
    go_wp2_with (first | ((with_reducible refine gate_builtin (b := .append) (xs := #[.tmp 23, .tmp 28]) rfl ?_); at_builtin; refine Kd.R_append Kd.string (w0 := w) w.heap.size rfl (.tmp 23) (.tmp 28) 47 9 (.string ⟨#[]⟩) 16 rfl Tryd.underlying47 info9 rfl (by decide) (by omega) u3 x3_1 (a0.extract (x4_1 : Int).toNat (x5_1 : Int).toNat) [.string (a0.extract (x4_1 : Int).toNat (x5_1 : Int).toNat)] (fun _ => True) (fun _ => False) rfl rfl ?aP (fun _ hk => hk.elim) ?aF ?aO ?aB ?aS ?aL ?_; (case aP => exact rfl); (case aB => exact bl); (case aF => exact (fun _ _ => trivial)); (case aO => exact (ro HO_3)); (case aS => exact (below_size bl)); (case aL => have := LMc9.out; omega); intro v1060 w10 ho hb hg hat; rw [← Ny1059.out] at ho; have n0_ := am (hb); have n1_ := am (ho); clear HB; clear HO_3; have HB := n0_; have HO1061 := n1_; clear n0_ n1_; clear ho hb hg hat))
    go_roundg k1
    case measure => have := HK1.out; omega
    case rel => exact ⟨(y1059), (wrap64 (x5_1 + 1)), (wrap64 (x5_1 + 1)), rs, rs, H', ⟨by have := HK1.out; omega⟩, ⟨by (with_reducible repeat (first | apply Kd.R_alloc | apply Kd.R_drewN | apply Kd.R_drew)); exact HO1061.out⟩, ⟨u93HB⟩⟩
   rw [if_neg c5] at H
   have c5b0 : (x5_1 == (a0.size : Int)) = false := beq_eq_false_iff_ne.mpr c5
   have c5b1 : (x5_1 != (a0.size : Int)) = true := bne_iff_ne.mpr c5
   revert H
   refine ifn fun c11 H => ?_
   have c11b0 := decide_eq_true c11
   clear c11
   revert H
   refine ifn fun c12 H => ?_
   have c12b0 := decide_eq_true c12
   clear c12
   by_cases c14 : (bt a0 x5_1) = 32
   rotate_left
   ·rw [if_neg c14] at H
    have c14b0 : ((bt a0 x5_1) == 32) = false := beq_eq_false_iff_ne.mpr c14
    have c14b1 : ((bt a0 x5_1) != 32) = true := bne_iff_ne.mpr c14
    have H' := am H
    clear H
    have p13 : 0 ≤ (x5_1 : Int) := od
    have q13 : x5_1 < (a0.size : Int) := od
    have hx13 := bt_at a0 x5_1
    replace p13 := eq_true p13
    replace q13 := eq_true q13
    go_wp2
    go_roundg k1
    case measure => have := HK1.out; omega
    case rel => exact ⟨(x3_1), (x4_1), (wrap64 (x5_1 + 1)), rs, rs, H', ⟨by have := HK1.out; omega⟩, ⟨by (with_reducible repeat (first | apply Kd.R_alloc | apply Kd.R_drewN | apply Kd.R_drew)); exact HO_3.out⟩, ⟨u93HB⟩⟩
   rw [if_pos c14] at H
   have c14b0 : ((bt a0 x5_1) == 32) = true := beq_iff_eq.mpr c14
   have c14b1 : ((bt a0 x5_1) != 32) = false := bne_eq_false_iff_eq.mpr c14
   clear c14
   revert H
   refine ifn fun c15 H => ?_
   have c15b0 := eq_true c15
   have c15b1 := decide_eq_true c15
   clear c15
   revert H
   refine ifn fun c16 H => ?_
   have c16b0 := eq_true c16
   have c16b1 := decide_eq_true c16
   clear c16
   have c17b0 := eq_true (od : x5_1 ≤ (a0.size : Int))
   revert H
   refine ifn fun c18 H => ?_
   have LMc18 := am c18
   clear c18
   obtain ⟨y1062, hy1062⟩ : ∃ y_ : List ByteArray, y_ = (x3_1 ++ [a0.extract (x4_1 : Int).toNat (x5_1 : Int).toNat]) := ⟨_, rfl⟩
   replace H : (spec_l3Words.l0 k1 a0 y1062 (wrap64 (x5_1 + 1)) (wrap64 (x5_1 + 1))) = some r := by first | (rw [hy1062]; with_reducible exact H) | (have H2_ := (Option.bind_some _ _).symm.trans H; rw [hy1062]; with_reducible exact H2_) | (have H2_ := (Option.bind_some _ _).symm.trans H; with_reducible exact H2_) | with_reducible exact H | (rw [hy1062]; exact H) | exact H
   have Ny1062 := am hy1062
   clear hy1062
   have H' := am H
   clear H
   have p13 : 0 ≤ (x5_1 : Int) := od
   have q13 : x5_1 < (a0.size : Int) := od
   have hx13 := bt_at a0 x5_1
   replace p13 := eq_true p13
   replace q13 := eq_true q13
   go_wp2_with (first | ((with_reducible refine gate_builtin (b := .append) (xs := #[.tmp 23, .tmp 28]) rfl ?_); at_builtin; refine Kd.R_append Kd.string (w0 := w) w.heap.size rfl (.tmp 23) (.tmp 28) 47 9 (.string ⟨#[]⟩) 16 rfl Tryd.underlying47 info9 rfl (by decide) (by omega) u3 x3_1 (a0.extract (x4_1 : Int).toNat (x5_1 : Int).toNat) [.string (a0.extract (x4_1 : Int).toNat (x5_1 : Int).toNat)] (fun _ => True) (fun _ => False) rfl rfl ?aP (fun _ hk => hk.elim) ?aF ?aO ?aB ?aS ?aL ?_; (case aP => exact rfl); (case aB => exact bl); (case aF => exact (fun _ _ => trivial)); (case aO => exact (ro HO_3)); (case aS => exact (below_size bl)); (case aL => have := LMc18.out; omega); intro v1063 w19 ho hb hg hat; rw [← Ny1062.out] at ho; have n0_ := am (hb); have n1_ := am (ho); clear HB; clear HO_3; have HB := n0_; have HO1064 := n1_; clear n0_ n1_; clear ho hb hg hat))
   go_roundg k1
   case measure => have := HK1.out; omega
   case rel => exact ⟨(y1062), (wrap64 (x5_1 + 1)), (wrap64 (x5_1 + 1)), rs, rs, H', ⟨by have := HK1.out; omega⟩, ⟨by (with_reducible repeat (first | apply Kd.R_alloc | apply Kd.R_drewN | apply Kd.R_drew)); exact HO1064.out⟩, ⟨u93HB⟩⟩

/-! ### spec_l3Fields: function 94 -/
theorem u94HB {p : Prop} (h : p := by repeat (first | (with_reducible first | exact HB.out | apply below_alloc | apply pw_below_drewN | apply below_drew1 | refine below_set ?_ GE1073.out) | exact HB.out)) : p := h
mutual
def spec_l3Fields.l0 : Nat → List ByteArray → List (S84) → Int → Option ((List (S84)))
 | 0, _, _, _ => none
 | k + 1, x0, x3, x4 => if x4 < (x0.length : Int) then (spec_l3Fields.l1 k x0 x3 x4 0) else (some x3)
def spec_l3Fields.l1 : Nat → List ByteArray → List (S84) → Int → Int → Option ((List (S84)))
 | 0, _, _, _, _ => none
 | k + 1, x0, x3, x4, x5 => if 0 ≤ x4 then (if x4 < (x0.length : Int) then (if (wrap64 (x5 + 1)) < ((rdOf ByteArray.empty x0 x4).size : Int) then (if 0 ≤ x5 then (if x5 < ((rdOf ByteArray.empty x0 x4).size : Int) then (if (bt (rdOf ByteArray.empty x0 x4) x5) = 58 then (if 0 ≤ (wrap64 (x5 + 1)) then (spec_l3Fields.j2 k x0 x3 x4 x5 ((bt (rdOf ByteArray.empty x0 x4) (wrap64 (x5 + 1))) == 32)) else (none)) else (spec_l3Fields.j2 k x0 x3 x4 x5 false)) else (none)) else (none)) else (spec_l3Fields.l0 k x0 x3 (wrap64 (x4 + 1)))) else (none)) else (none)
def spec_l3Fields.j2 : Nat → List ByteArray → List (S84) → Int → Int → Bool → Option ((List (S84)))
 | 0, _, _, _, _, _ => none
 | k + 1, x0, x3, x4, x5, x40 => if x40 = true then (if 0 ≤ x4 then (if x4 < (x0.length : Int) then (if 0 ≤ x5 then (if x5 ≤ ((rdOf ByteArray.empty x0 x4).size : Int) then (if 0 ≤ (wrap64 (x5 + 2)) then (if (wrap64 (x5 + 2)) ≤ ((rdOf ByteArray.empty x0 x4).size : Int) then (if ((rdOf ByteArray.empty x0 x4).extract 0 (x5 : Int).toNat).toList = ([99, 111, 110, 116, 101, 110, 116, 45, 108, 101, 110, 103, 116, 104] : List UInt8) then (spec_l3Fields.l0 k x0 x3 (wrap64 (x4 + 1))) else (if x3.length < 4398046511104 then (spec_l3Fields.l0 k x0 (x3 ++ [(⟨(rdOf ByteArray.empty x0 x4).extract 0 (x5 : Int).toNat, (rdOf ByteArray.empty x0 x4).extract ((wrap64 (x5 + 2)) : Int).toNat (rdOf ByteArray.empty x0 x4).size⟩ : S84)]) (wrap64 (x4 + 1))) else (none))) else (none)) else (none)) else (none)) else (none)) else (none)) else (none)) else (spec_l3Fields.l1 k x0 x3 x4 (wrap64 (x5 + 1)))
end
def spec_l3Fields.f (k : Nat) (l0 : List ByteArray) : Option ((List (S84))) := spec_l3Fields.l0 k l0 (([] : List (S84))) 0
theorem spec_l3Fields.mono_l : ∀ k, (∀ y0 y1 y2, LeO (spec_l3Fields.l0 k y0 y1 y2) (spec_l3Fields.l0 (k + 1) y0 y1 y2)) ∧ (∀ y0 y1 y2 y3, LeO (spec_l3Fields.l1 k y0 y1 y2 y3) (spec_l3Fields.l1 (k + 1) y0 y1 y2 y3)) ∧ (∀ y0 y1 y2 y3 y4, LeO (spec_l3Fields.j2 k y0 y1 y2 y3 y4) (spec_l3Fields.j2 (k + 1) y0 y1 y2 y3 y4))
 | 0 => ⟨fun _ _ _ r h => by simp [spec_l3Fields.l0] at h, fun _ _ _ _ r h => by simp [spec_l3Fields.l1] at h, fun _ _ _ _ _ r h => by simp [spec_l3Fields.j2] at h⟩
 | k + 1 => by
  obtain ⟨ih0, ih1, ih2⟩ := spec_l3Fields.mono_l k
  refine ⟨?_, ?_, ?_⟩
  ·intro y0 y1 y2
   unfold spec_l3Fields.l0
   exact mo
  ·intro y0 y1 y2 y3
   unfold spec_l3Fields.l1
   exact mo
  ·intro y0 y1 y2 y3 y4
   unfold spec_l3Fields.j2
   exact mo
theorem spec_l3Fields.mono : ∀ a0 k, LeO (spec_l3Fields.f k a0) (spec_l3Fields.f (k + 1) a0) := by
 intro a0 k
 obtain ⟨ih0, ih1, ih2⟩ := spec_l3Fields.mono_l k
 unfold spec_l3Fields.f
 exact mo
def spec_l3Fields.T9 : Bool × List (List Nat × List Nat) := (true, [([], []), ([], []), ([0, 1], [0, 1]), ([2], [2]), ([], []), ([3, 4], [3, 4]), ([], []), ([], []), ([6, 7], [6, 7]), ([8], [8]), ([], []), ([10], [10]), ([9, 11], [9, 11]), ([5, 12], [5, 12]), ([], []), ([14, 13, 0, 1, 2, 3, 4, 5, 6, 7, 8, 9, 10, 11, 12, 13, 14], [13, 14])])
def spec_l3Fields.B9 : List Nat := [0, 0, 3, 7, 0, 31, 0, 0, 192, 448, 0, 1024, 4032, 8191, 0, 32767]
theorem spec_l3Fields.tab9 : rtab .any (opsOf Tryd.f94 9) = spec_l3Fields.T9 := by kernel_rfl
theorem spec_l3Fields.bits9 : waitsOk spec_l3Fields.T9.2 spec_l3Fields.B9 = true := by kernel_rfl
set_option maxHeartbeats 8000000 in
set_option maxRecDepth 100000 in
theorem spec_l3Fields.calls (k : Nat) (A0 : Option Addr) (c0 : Nat) (l0 : List ByteArray) (r : List (S84)) (w : World) (hr0 : Kd.C Kd.string w A0 l0.length l0) (hc0 : l0.length ≤ c0) (h : spec_l3Fields.f k l0 = some r) :
  Calls Tryd.prog 94 #[.slice A0 l0.length c0] w fun e w' => ∃ v0_ : Value, e = .returned (v0_) ∧ Kd.R k84 84 w' w.heap.size (fun _ => True) v0_ r ∧ Below w.heap.size w w' := by
 have hu84 := Tryd.underlying84
 have HR0 := am hr0
 have HC0 := am hc0
 clear hr0 hc0
 have HB := am (Below.refl w.heap.size w)
 unfold spec_l3Fields.f at h
 have H := h
 clear h
 obtain ⟨y1065, hy1065⟩ : ∃ y_ : List (S84), y_ = (([] : List (S84))) := ⟨_, rfl⟩
 replace H : (spec_l3Fields.l0 k l0 y1065 0) = some r := by first | (rw [hy1065]; with_reducible exact H) | (have H2_ := (Option.bind_some _ _).symm.trans H; rw [hy1065]; with_reducible exact H2_) | (have H2_ := (Option.bind_some _ _).symm.trans H; with_reducible exact H2_) | with_reducible exact H | (rw [hy1065]; exact H) | exact H
 have Ny1065 := am hy1065
 clear hy1065
 have H' := am H
 clear H
 go_enter Tryd.func94, Tryd.ntmps94
 go_wp2_with (first | ((with_reducible refine gate_dst (N := 7) rfl ?_); refine Kd.R_lit k84 _ 84 ?hg (N := 7) ?hd (xs := ([] : List (S84))) (inner := []) (ok := fun _ => True) (okp := fun _ => True) ?hr ?hp (fun _ hk => hk) trivial (Below.refl _ _) (Nat.le_refl _) (by simp) ?_; (case hd => rfl); (case hg => rfl); (case hr => first | (go_simp; done) | (go_simp; rfl)); (case hp => exact (Reps.none _ _)); intro v1066 w2 ho3 hb hg_ hnew_; clear hg_ hnew_; (first | rw [← Ny1065.out] at ho3 | (simp only [Int.reduceToNat] at ho3; rw [← Ny1065.out] at ho3)); have HO1067 := am (Kd.R_lower ho3 (below_size bl)); replace HB := am (below_step bl hb); clear hb ho3))
 (try simp only [Act.put, List.setIfInBounds_toArray, List.set_cons_zero, List.set_cons_succ])
 go_loopg [3, 4] k (fun kq v3 v4 w' => ∃ (x3_1 : List (S84)) (x4_1 : Int), v4 = .int .i64 x4_1 ∧ Aside0 (spec_l3Fields.l0 kq l0 x3_1 x4_1 = some r) ∧ Aside0 (kq ≤ k) ∧ Aside0 (Kd.R k84 84 w' w.heap.size (fun _ => True) v3 x3_1) ∧ Aside0 (Below w.heap.size w w'))
 case atStart => exact ⟨(y1065), (0), rs, H', ⟨Nat.le_refl _⟩, ⟨by (with_reducible repeat (first | apply Kd.R_alloc | apply Kd.R_drewN | apply Kd.R_drew)); exact HO1067.out⟩, ⟨u94HB⟩⟩
 case round =>
  clear H'
  try clear p2
  obtain ⟨x3_1, x4_1, rfl, HA, HK1, HO_3, HB⟩ := hrel
  cases gk with
  | zero => exact absurd HA.out (by simp [spec_l3Fields.l0])
  | succ k1 =>
   have H := HA.out
   clear HA
   simp only [spec_l3Fields.l0] at H
   by_cases c4 : x4_1 < (l0.length : Int)
   rotate_left
   ·rw [if_neg c4] at H
    have c4b0 := decide_eq_false c4
    clear c4
    obtain rfl := Option.some.inj H
    go_wp2
    go_ret
    exact ⟨_, rf, by (with_reducible repeat (first | apply Kd.R_alloc | apply Kd.R_drewN | apply Kd.R_drew)); exact HO_3.out, bl⟩
   rw [if_pos c4] at H
   have c4b0 := decide_eq_true c4
   clear c4
   have H' := am H
   clear H
   go_wp2
   (try simp only [Act.put, List.setIfInBounds_toArray, List.set_cons_zero, List.set_cons_succ])
   go_loopg [3, 5] k1 (fun kq v3 v5 w' => ∃ (x3_2 : List (S84)) (x5_2 : Int), v5 = .int .i64 x5_2 ∧ Aside0 (spec_l3Fields.l1 kq l0 x3_2 x4_1 x5_2 = some r) ∧ Aside0 (kq ≤ k1) ∧ Aside0 (Kd.R k84 84 w' w.heap.size (fun _ => True) v3 x3_2) ∧ Aside0 (Below w.heap.size w w'))
   case atStart => exact ⟨(x3_1), (0), rs, H', ⟨Nat.le_refl _⟩, ⟨by (with_reducible repeat (first | apply Kd.R_alloc | apply Kd.R_drewN | apply Kd.R_drew)); exact HO_3.out⟩, ⟨u94HB⟩⟩
   case round =>
    clear H'
    try clear p2
    try clear c4
    try clear c4b0
    try clear p2
    obtain ⟨x3_2, x5_2, rfl, HA, HK2, HO_3, HB⟩ := hrel
    cases gk with
    | zero => exact absurd HA.out (by simp [spec_l3Fields.l1])
    | succ k2 =>
     have H := HA.out
     clear HA
     simp only [spec_l3Fields.l1] at H
     revert H
     refine ifn fun c5 H => ?_
     have c5b0 := decide_eq_true c5
     clear c5
     revert H
     refine ifn fun c6 H => ?_
     have c6b0 := decide_eq_true c6
     clear c6
     by_cases c7 : (wrap64 (x5_2 + 1)) < ((rdOf ByteArray.empty l0 x4_1).size : Int)
     rotate_left
     ·rw [if_neg c7] at H
      have c7b0 := decide_eq_false c7
      clear c7
      have H' := am H
      clear H
      have p1068 : 0 ≤ (x4_1 : Int) := od
      have q1068 : x4_1 < (l0.length : Int) := od
      obtain ⟨ad1068, e1068, hx1068_0⟩ := Kd.at_string HR0.out x4_1 p1068 q1068
      cases e1068
      replace hx1068_0 := hcw hx1068_0
      replace p1068 := eq_true p1068
      replace q1068 := eq_true q1068
      go_wp2
      go_roundg k2
      case measure => have := HK1.out; have := HK2.out; omega
      case rel => exact ⟨(x3_2), (wrap64 (x4_1 + 1)), rs, H', ⟨by have := HK1.out; have := HK2.out; omega⟩, ⟨by (with_reducible repeat (first | apply Kd.R_alloc | apply Kd.R_drewN | apply Kd.R_drew)); exact HO_3.out⟩, ⟨u94HB⟩⟩
     rw [if_pos c7] at H
     have c7b0 := decide_eq_true c7
     clear c7
     have HC8 := am H
     clear H
     have p1068 : 0 ≤ (x4_1 : Int) := od
     have q1068 : x4_1 < (l0.length : Int) := od
     obtain ⟨ad1068, e1068, hx1068_0⟩ := Kd.at_string HR0.out x4_1 p1068 q1068
     cases e1068
     replace hx1068_0 := hcw hx1068_0
     replace p1068 := eq_true p1068
     replace q1068 := eq_true q1068
     go_upto_region 8 with (fail)
     go_cut [40] (fun v40 wc => ∃ (kq : Nat) (x40_7 : Bool), v40 = .bool x40_7 ∧ Aside0 (spec_l3Fields.j2 kq l0 x3_2 x4_1 x5_2 x40_7 = some r) ∧ Aside0 (kq ≤ k2) ∧ Aside0 (Kd.R k84 84 wc w.heap.size (fun _ => True) u3 x3_2) ∧ Aside0 (Below w.heap.size w wc))
     case first =>
      have H := HC8.out
      clear HC8
      revert H
      refine ifn fun c9 H => ?_
      have c9b0 := decide_eq_true c9
      clear c9
      (first | rw [c9b0] | (simp only [i64_w, i32_w]; rw [c9b0]) | skip)
      revert H
      refine ifn fun c10 H => ?_
      have c10b0 := decide_eq_true c10
      clear c10
      by_cases c12 : (bt (rdOf ByteArray.empty l0 x4_1) x5_2) = 58
      rotate_left
      ·rw [if_neg c12] at H
       have c12b0 : ((bt (rdOf ByteArray.empty l0 x4_1) x5_2) == 58) = false := beq_eq_false_iff_ne.mpr c12
       have c12b1 : ((bt (rdOf ByteArray.empty l0 x4_1) x5_2) != 58) = true := bne_iff_ne.mpr c12
       have H' := am H
       clear H
       have p1069 : 0 ≤ (x4_1 : Int) := od
       have q1069 : x4_1 < (l0.length : Int) := od
       obtain ⟨ad1069, e1069, hx1069_0⟩ := Kd.at_string HR0.out x4_1 p1069 q1069
       obtain rfl : ad1068 = ad1069 := (by injection e1069)
       replace hx1069_0 := hcw hx1069_0
       replace p1069 := eq_true p1069
       replace q1069 := eq_true q1069
       have p11 : 0 ≤ (x5_2 : Int) := od
       have q11 : x5_2 < ((rdOf ByteArray.empty l0 x4_1).size : Int) := od
       have hx11 := bt_at (rdOf ByteArray.empty l0 x4_1) x5_2
       replace p11 := eq_true p11
       replace q11 := eq_true q11
       go_wp2
       go_meet
       case rel => exact ⟨_, (false), rs, H', ⟨by have := HK1.out; have := HK2.out; first | omega | exact Nat.le_refl _⟩, ⟨by (with_reducible repeat (first | apply Kd.R_alloc | apply Kd.R_drewN | apply Kd.R_drew)); exact HO_3.out⟩, ⟨u94HB⟩⟩
      rw [if_pos c12] at H
      have c12b0 : ((bt (rdOf ByteArray.empty l0 x4_1) x5_2) == 58) = true := beq_iff_eq.mpr c12
      have c12b1 : ((bt (rdOf ByteArray.empty l0 x4_1) x5_2) != 58) = false := bne_eq_false_iff_eq.mpr c12
      clear c12
      obtain ⟨ji13, hji13⟩ : ∃ j_ : Int, (wrap64 (x5_2 + 1)) = j_ := ⟨_, rfl⟩
      replace H : (if 0 ≤ (ji13) then (spec_l3Fields.j2 k2 l0 x3_2 x4_1 x5_2 ((bt (rdOf ByteArray.empty l0 x4_1) (ji13)) == 32)) else (none)) = some r := by first | (rw [hji13] at H; exact H) | (simp only [hji13] at H ⊢; exact H)
      (try rw [hji13] at c7b0)
      have hji13w : (IntKind.i64.wrap (x5_2 + 1)) = ji13 := (i64_w _).trans hji13
      revert H
      refine ifn fun c14 H => ?_
      have c14b0 := decide_eq_true c14
      clear c14
      have H' := am H
      clear H
      have p1069 : 0 ≤ (x4_1 : Int) := od
      have q1069 : x4_1 < (l0.length : Int) := od
      obtain ⟨ad1069, e1069, hx1069_0⟩ := Kd.at_string HR0.out x4_1 p1069 q1069
      obtain rfl : ad1068 = ad1069 := (by injection e1069)
      replace hx1069_0 := hcw hx1069_0
      replace p1069 := eq_true p1069
      replace q1069 := eq_true q1069
      have p11 : 0 ≤ (x5_2 : Int) := od
      have q11 : x5_2 < ((rdOf ByteArray.empty l0 x4_1).size : Int) := od
      have hx11 := bt_at (rdOf ByteArray.empty l0 x4_1) x5_2
      replace p11 := eq_true p11
      replace q11 := eq_true q11
      have p1070 : 0 ≤ (x4_1 : Int) := od
      have q1070 : x4_1 < (l0.length : Int) := od
      obtain ⟨ad1070, e1070, hx1070_0⟩ := Kd.at_string HR0.out x4_1 p1070 q1070
      obtain rfl : ad1068 = ad1070 := (by injection e1070)
      replace hx1070_0 := hcw hx1070_0
      replace p1070 := eq_true p1070
      replace q1070 := eq_true q1070
      have p15 : 0 ≤ ((ji13) : Int) := od
      have q15 : (ji13) < ((rdOf ByteArray.empty l0 x4_1).size : Int) := od
      have hx15 := bt_at (rdOf ByteArray.empty l0 x4_1) (ji13)
      replace p15 := eq_true p15
      replace q15 := eq_true q15
      go_wp2
      go_meet
      case rel => exact ⟨_, (((bt (rdOf ByteArray.empty l0 x4_1) (ji13)) == 32)), (by first | rfl | (simp; done) | (simp only [← hji13] <;> (first | rfl | simp)) | (simp [*]; done)), H', ⟨by have := HK1.out; have := HK2.out; first | omega | exact Nat.le_refl _⟩, ⟨by (with_reducible repeat (first | apply Kd.R_alloc | apply Kd.R_drewN | apply Kd.R_drew)); exact HO_3.out⟩, ⟨u94HB⟩⟩
     case rest =>
      clear HC8
      try clear c1
      try clear p1
      try clear q1
      try clear hx1
      try clear p2
      try clear c4
      try clear c4b0
      try clear c5
      try clear c5b0
      try clear c6
      try clear c6b0
      try clear p6
      try clear c7
      try clear c7b0
      try clear c9
      try clear c9b0
      try clear c10
      try clear c10b0
      try clear p10
      try clear q10
      try clear hx10
      try clear p11
      try clear q11
      try clear hx11
      try clear c12
      try clear c12b0
      try clear c12b1
      try clear c14
      try clear c14b0
      try clear p15
      try clear q15
      try clear hx15
      try clear hx1068_0
      try clear hx1069_0
      try clear hx1070_0
      try clear p1068
      try clear p1069
      try clear p1070
      try clear p11
      try clear p15
      try clear p2
      try clear q1068
      try clear q1069
      try clear q1070
      try clear q11
      try clear q15
      obtain ⟨kq, x40_7, rfl, HA, HJ7, HO_3, HB⟩ := hcut
      cases kq with
      | zero => exact absurd HA.out (by simp [spec_l3Fields.j2])
      | succ kj7 =>
       have H := HA.out
       clear HA
       simp only [spec_l3Fields.j2] at H
       by_cases c16 : x40_7 = true
       rotate_left
       ·replace c16 := Bool.eq_false_iff.mpr c16
        subst c16
        rw [if_neg (show ¬ (false = true) by decide)] at H
        have H' := am H
        clear H
        go_wp2
        go_roundg kj7
        case measure => have := HK1.out; have := HK2.out; have := HJ7.out; omega
        case rel => exact ⟨(x3_2), (wrap64 (x5_2 + 1)), rs, H', ⟨by have := HK1.out; have := HK2.out; have := HJ7.out; omega⟩, ⟨by (with_reducible repeat (first | apply Kd.R_alloc | apply Kd.R_drewN | apply Kd.R_drew)); exact HO_3.out⟩, ⟨u94HB⟩⟩
       subst c16
       rw [if_pos rfl] at H
       revert H
       refine ifn fun c17 H => ?_
       have c17b0 := decide_eq_true c17
       clear c17
       revert H
       refine ifn fun c18 H => ?_
       have c18b0 := decide_eq_true c18
       clear c18
       revert H
       refine ifn fun c19 H => ?_
       have c19b0 := eq_true c19
       have c19b1 := decide_eq_true c19
       clear c19
       revert H
       refine ifn fun c20 H => ?_
       have c20b0 := eq_true c20
       have c20b1 := decide_eq_true c20
       clear c20
       obtain ⟨ji21, hji21⟩ : ∃ j_ : Int, (wrap64 (x5_2 + 2)) = j_ := ⟨_, rfl⟩
       replace H : (if 0 ≤ (ji21) then (if (ji21) ≤ ((rdOf ByteArray.empty l0 x4_1).size : Int) then (if ((rdOf ByteArray.empty l0 x4_1).extract 0 (x5_2 : Int).toNat).toList = ([99, 111, 110, 116, 101, 110, 116, 45, 108, 101, 110, 103, 116, 104] : List UInt8) then (spec_l3Fields.l0 kj7 l0 x3_2 (wrap64 (x4_1 + 1))) else (if x3_2.length < 4398046511104 then (spec_l3Fields.l0 kj7 l0 (x3_2 ++ [(⟨(rdOf ByteArray.empty l0 x4_1).extract 0 (x5_2 : Int).toNat, (rdOf ByteArray.empty l0 x4_1).extract ((ji21) : Int).toNat (rdOf ByteArray.empty l0 x4_1).size⟩ : S84)]) (wrap64 (x4_1 + 1))) else (none))) else (none)) else (none)) = some r := by first | (rw [hji21] at H; exact H) | (simp only [hji21] at H ⊢; exact H)
       have hji21w : (IntKind.i64.wrap (x5_2 + 2)) = ji21 := (i64_w _).trans hji21
       revert H
       refine ifn fun c22 H => ?_
       have c22b0 := eq_true c22
       have c22b1 := decide_eq_true c22
       clear c22
       revert H
       refine ifn fun c23 H => ?_
       have c23b0 := eq_true c23
       have c23b1 := decide_eq_true c23
       clear c23
       by_cases c24 : ((rdOf ByteArray.empty l0 x4_1).extract 0 (x5_2 : Int).toNat).toList = ([99, 111, 110, 116, 101, 110, 116, 45, 108, 101, 110, 103, 116, 104] : List UInt8)
       ·rw [if_pos c24] at H
        have c24b0 : (((rdOf ByteArray.empty l0 x4_1).extract 0 (x5_2 : Int).toNat).toList == ([99, 111, 110, 116, 101, 110, 116, 45, 108, 101, 110, 103, 116, 104] : List UInt8)) = true := beq_iff_eq.mpr c24
        have c24b1 : (((rdOf ByteArray.empty l0 x4_1).extract 0 (x5_2 : Int).toNat).toList != ([99, 111, 110, 116, 101, 110, 116, 45, 108, 101, 110, 103, 116, 104] : List UInt8)) = false := bne_eq_false_iff_eq.mpr c24
        clear c24
        have H' := am H
        clear H
        try go_wp2
        replace HO_3 := am (Kd.R_drew HO_3.out)
        replace HB := am (below_drew1 HB.out)
        have p1071 : 0 ≤ (x4_1 : Int) := od
        have q1071 : x4_1 < (l0.length : Int) := od
        obtain ⟨ad1071, e1071, hx1071_0⟩ := Kd.at_string HR0.out x4_1 p1071 q1071
        have hw1071_0 := hx1071_0
        obtain rfl : ad1068 = ad1071 := (by injection e1071)
        replace hx1071_0 := hcw hx1071_0
        replace p1071 := eq_true p1071
        replace q1071 := eq_true q1071
        have p1072 : 0 ≤ (x4_1 : Int) := od
        have q1072 : x4_1 < (l0.length : Int) := od
        obtain ⟨ad1072, e1072, hx1072_0⟩ := Kd.at_string HR0.out x4_1 p1072 q1072
        have hw1072_0 := hx1072_0
        obtain rfl : ad1068 = ad1072 := (by injection e1072)
        replace hx1072_0 := hcw hx1072_0
        replace p1072 := eq_true p1072
        replace q1072 := eq_true q1072
        refine start_ (n := 16) (S := fun w' => w'.cell? (ad1068.add (x4_1).toNat) = some (.string (rdOf ByteArray.empty l0 x4_1)) ∧ w'.cell? (ad1068.add (x4_1).toNat) = some (.string (rdOf ByteArray.empty l0 x4_1))) (ds := []) ⟨br true [0, 16]⟩ (by kernel_rfl) rfl (by kernel_rfl) ⟨(hcw hw1071_0), (hcw hw1072_0)⟩ (fun hHeld => ?_); refine with_tabW spec_l3Fields.tab9 spec_l3Fields.bits9 (fun HT_ HW_ => ?_)
        generalize wc.drew = w25 at HO_3 HB hx1071_0 hx1072_0 hHeld ⊢
        refine pu 0 41 [1, 15] ?_
        refine pu 1 42 [2, 14] ?_
        refine pu 2 43 [3, 13] ?_
        refine pu 4 45 [3, 1, 1, 11] ?_
        refine pu 6 47 [3, 1, 1, 1, 1, 9] ?_
        refine pu 7 48 [3, 1, 1, 1, 2, 8] ?_
        refine pu 8 49 [3, 1, 1, 1, 3, 7] ?_
        refine pu 10 51 [3, 1, 1, 1, 3, 1, 1, 5] ?_
        refine pu 11 52 [3, 1, 1, 1, 3, 1, 2, 4] ?_
        refine tk 3 44 [5, 1, 3, 1, 2, 4] ?_
        refine pu 5 46 [9, 1, 2, 4] ?_
        refine tk 9 50 [12, 4] ?_
        refine pu 12 53 [13, 3] ?_
        refine pu 13 54 [14, 2] ?_
        refine one_ (i := 14) (N := some 6) #[true, true, true, true, true, true, true, true, true, true, true, true, true, true, true, false] rfl rfl (one_of HT_.out (by kernel_rfl)) (by decide) (fun K hK => ?_)
        refine box_step ?hg (N := 6) ?hd (cs := #[.string (⟨#[]⟩ : ByteArray), .string (⟨#[]⟩ : ByteArray)]) (t := 84) ?hr ?_; (case hd => rfl); (case hg => rfl); (case hr => first | (go_simp; done) | (go_simp; rfl))
        intro gb1073 hg w26 hbox hb
        replace HO_3 := am (Kd.R_below (Kd.R_elderB (ro HO_3) gb1073 (Nat.le_of_eq hg.symm)) hb)
        have BK1073 := am (hbox)
        have GW1073 := am (sz hg : w.heap.size ≤ gb1073)
        have GE1073 := am (sz hg : w.heap.size ≤ gb1073)
        replace HB := am (below_step bl hb)
        clear hb hbox hg
        refine hK.out _ _ ⟨(hcw hw1071_0), (hcw hw1072_0)⟩ (fun hHeld => ?_)
        clear hK K
        refine nm 6 ?_
        refine one_ (i := 15) (N := none) #[true, true, true, true, true, true, true, true, true, true, true, true, true, true, true, true] rfl rfl (one_of HT_.out (by kernel_rfl)) (by decide) (fun K hK => ?_)
        have hs27 : w26.cell? ⟨gb1073, 0, none⟩ = some (.string (⟨#[]⟩ : ByteArray)) := bc BK1073
        have hfs27 := blk_frozen BK1073.out 0
        have hs28 : w26.cell? ⟨gb1073, 1, none⟩ = some (.string (⟨#[]⟩ : ByteArray)) := bc BK1073
        have hfs28 := blk_frozen BK1073.out 1
        refine skip_ (w1 := ?_) (by rfl) rfl ?_ ?_
        rotate_left
        ·go_simp
         rfl
        refine hK.out _ _ ⟨((cell_far (p := ⟨gb1073, _, none⟩) (by first | exact Nat.ne_of_lt (Nat.lt_of_lt_of_le (by have := World.block_lt_of_cell? _ _ hw1071_0; first | rwa [add_block] at this | exact this) GW1073.out) | (rw [add_block]; exact Nat.ne_of_lt (Nat.lt_of_lt_of_le (by have := World.block_lt_of_cell? _ _ hw1071_0; first | rwa [add_block] at this | exact this) GW1073.out)) | (show (Addr.add _ _).block ≠ _; rw [add_block]; exact Nat.ne_of_lt (Nat.lt_of_lt_of_le (by have := World.block_lt_of_cell? _ _ hw1071_0; first | rwa [add_block] at this | exact this) GW1073.out)) | (dsimp only; exact Nat.ne_of_lt (Nat.lt_of_lt_of_le (by have := World.block_lt_of_cell? _ _ hw1071_0; first | rwa [add_block] at this | exact this) GW1073.out))) _).trans (((cell_far (p := ⟨gb1073, _, none⟩) (by first | exact Nat.ne_of_lt (Nat.lt_of_lt_of_le (by have := World.block_lt_of_cell? _ _ hw1071_0; first | rwa [add_block] at this | exact this) GW1073.out) | (rw [add_block]; exact Nat.ne_of_lt (Nat.lt_of_lt_of_le (by have := World.block_lt_of_cell? _ _ hw1071_0; first | rwa [add_block] at this | exact this) GW1073.out)) | (show (Addr.add _ _).block ≠ _; rw [add_block]; exact Nat.ne_of_lt (Nat.lt_of_lt_of_le (by have := World.block_lt_of_cell? _ _ hw1071_0; first | rwa [add_block] at this | exact this) GW1073.out)) | (dsimp only; exact Nat.ne_of_lt (Nat.lt_of_lt_of_le (by have := World.block_lt_of_cell? _ _ hw1071_0; first | rwa [add_block] at this | exact this) GW1073.out))) _).trans (hHeld.1)))), ((cell_far (p := ⟨gb1073, _, none⟩) (by first | exact Nat.ne_of_lt (Nat.lt_of_lt_of_le (by have := World.block_lt_of_cell? _ _ hw1072_0; first | rwa [add_block] at this | exact this) GW1073.out) | (rw [add_block]; exact Nat.ne_of_lt (Nat.lt_of_lt_of_le (by have := World.block_lt_of_cell? _ _ hw1072_0; first | rwa [add_block] at this | exact this) GW1073.out)) | (show (Addr.add _ _).block ≠ _; rw [add_block]; exact Nat.ne_of_lt (Nat.lt_of_lt_of_le (by have := World.block_lt_of_cell? _ _ hw1072_0; first | rwa [add_block] at this | exact this) GW1073.out)) | (dsimp only; exact Nat.ne_of_lt (Nat.lt_of_lt_of_le (by have := World.block_lt_of_cell? _ _ hw1072_0; first | rwa [add_block] at this | exact this) GW1073.out))) _).trans (((cell_far (p := ⟨gb1073, _, none⟩) (by first | exact Nat.ne_of_lt (Nat.lt_of_lt_of_le (by have := World.block_lt_of_cell? _ _ hw1072_0; first | rwa [add_block] at this | exact this) GW1073.out) | (rw [add_block]; exact Nat.ne_of_lt (Nat.lt_of_lt_of_le (by have := World.block_lt_of_cell? _ _ hw1072_0; first | rwa [add_block] at this | exact this) GW1073.out)) | (show (Addr.add _ _).block ≠ _; rw [add_block]; exact Nat.ne_of_lt (Nat.lt_of_lt_of_le (by have := World.block_lt_of_cell? _ _ hw1072_0; first | rwa [add_block] at this | exact this) GW1073.out)) | (dsimp only; exact Nat.ne_of_lt (Nat.lt_of_lt_of_le (by have := World.block_lt_of_cell? _ _ hw1072_0; first | rwa [add_block] at this | exact this) GW1073.out))) _).trans (hHeld.2))))⟩ (fun hHeld => ?_)
        clear hK K
        refine done_ (done_of HT_.out (by kernel_rfl)) ?_
        obtain ⟨z29_0, y29_0, z29_1, y29_1⟩ := cl2 BK1073
        try go_wp2
        go_roundg kj7
        case measure => have := HK1.out; have := HK2.out; have := HJ7.out; omega
        case rel => exact ⟨(x3_2), (wrap64 (x4_1 + 1)), rs, H', ⟨by have := HK1.out; have := HK2.out; have := HJ7.out; omega⟩, ⟨by (with_reducible repeat (first | apply Kd.R_alloc | apply Kd.R_drewN | apply Kd.R_drew)); exact Kd.R_mono (Kd.R_far (p := ⟨gb1073, 1, none⟩) (Kd.R_far (p := ⟨gb1073, 0, none⟩) (Kd.R_mono HO_3.out (fun k_ hk => (⟨hk, hk.2⟩ : _ ∧ k_ ≠ gb1073))) (fun _ hk => hk.2) (.string ((rdOf ByteArray.empty l0 x4_1).extract 0 (x5_2 : Int).toNat))) (fun _ hk => hk.2) (.string ((rdOf ByteArray.empty l0 x4_1).extract ((ji21) : Int).toNat (rdOf ByteArray.empty l0 x4_1).size))) (fun _ hk => trivial)⟩, ⟨u94HB⟩⟩
       rw [if_neg c24] at H
       have c24b0 : (((rdOf ByteArray.empty l0 x4_1).extract 0 (x5_2 : Int).toNat).toList == ([99, 111, 110, 116, 101, 110, 116, 45, 108, 101, 110, 103, 116, 104] : List UInt8)) = false := beq_eq_false_iff_ne.mpr c24
       have c24b1 : (((rdOf ByteArray.empty l0 x4_1).extract 0 (x5_2 : Int).toNat).toList != ([99, 111, 110, 116, 101, 110, 116, 45, 108, 101, 110, 103, 116, 104] : List UInt8)) = true := bne_iff_ne.mpr c24
       revert H
       refine ifn fun c30 H => ?_
       have LMc30 := am c30
       clear c30
       obtain ⟨y1074, hy1074⟩ : ∃ y_ : List (S84), y_ = (x3_2 ++ [(⟨(rdOf ByteArray.empty l0 x4_1).extract 0 (x5_2 : Int).toNat, (rdOf ByteArray.empty l0 x4_1).extract ((ji21) : Int).toNat (rdOf ByteArray.empty l0 x4_1).size⟩ : S84)]) := ⟨_, rfl⟩
       replace H : (spec_l3Fields.l0 kj7 l0 y1074 (wrap64 (x4_1 + 1))) = some r := by first | (rw [hy1074]; with_reducible exact H) | (have H2_ := (Option.bind_some _ _).symm.trans H; rw [hy1074]; with_reducible exact H2_) | (have H2_ := (Option.bind_some _ _).symm.trans H; with_reducible exact H2_) | with_reducible exact H | (rw [hy1074]; exact H) | exact H
       have Ny1074 := am hy1074
       clear hy1074
       have H' := am H
       clear H
       try go_wp2
       replace HO_3 := am (Kd.R_drew HO_3.out)
       replace HB := am (below_drew1 HB.out)
       have p1071 : 0 ≤ (x4_1 : Int) := od
       have q1071 : x4_1 < (l0.length : Int) := od
       obtain ⟨ad1071, e1071, hx1071_0⟩ := Kd.at_string HR0.out x4_1 p1071 q1071
       have hw1071_0 := hx1071_0
       obtain rfl : ad1068 = ad1071 := (by injection e1071)
       replace hx1071_0 := hcw hx1071_0
       replace p1071 := eq_true p1071
       replace q1071 := eq_true q1071
       have p1072 : 0 ≤ (x4_1 : Int) := od
       have q1072 : x4_1 < (l0.length : Int) := od
       obtain ⟨ad1072, e1072, hx1072_0⟩ := Kd.at_string HR0.out x4_1 p1072 q1072
       have hw1072_0 := hx1072_0
       obtain rfl : ad1068 = ad1072 := (by injection e1072)
       replace hx1072_0 := hcw hx1072_0
       replace p1072 := eq_true p1072
       replace q1072 := eq_true q1072
       refine start_ (n := 16) (S := fun w' => w'.cell? (ad1068.add (x4_1).toNat) = some (.string (rdOf ByteArray.empty l0 x4_1)) ∧ w'.cell? (ad1068.add (x4_1).toNat) = some (.string (rdOf ByteArray.empty l0 x4_1))) (ds := []) ⟨br true [0, 16]⟩ (by kernel_rfl) rfl (by kernel_rfl) ⟨(hcw hw1071_0), (hcw hw1072_0)⟩ (fun hHeld => ?_); refine with_tabW spec_l3Fields.tab9 spec_l3Fields.bits9 (fun HT_ HW_ => ?_)
       generalize wc.drew = w31 at HO_3 HB hx1071_0 hx1072_0 hHeld ⊢
       refine pu 0 41 [1, 15] ?_
       refine pu 1 42 [2, 14] ?_
       refine pu 2 43 [3, 13] ?_
       refine pu 4 45 [3, 1, 1, 11] ?_
       refine pu 6 47 [3, 1, 1, 1, 1, 9] ?_
       refine pu 7 48 [3, 1, 1, 1, 2, 8] ?_
       refine pu 8 49 [3, 1, 1, 1, 3, 7] ?_
       refine pu 10 51 [3, 1, 1, 1, 3, 1, 1, 5] ?_
       refine pu 11 52 [3, 1, 1, 1, 3, 1, 2, 4] ?_
       refine tk 3 44 [5, 1, 3, 1, 2, 4] ?_
       refine pu 5 46 [9, 1, 2, 4] ?_
       refine tk 9 50 [12, 4] ?_
       refine pu 12 53 [13, 3] ?_
       refine pu 13 54 [14, 2] ?_
       refine one_ (i := 14) (N := some 6) #[true, true, true, true, true, true, true, true, true, true, true, true, true, true, true, false] rfl rfl (one_of HT_.out (by kernel_rfl)) (by decide) (fun K hK => ?_)
       refine box_step ?hg (N := 6) ?hd (cs := #[.string (⟨#[]⟩ : ByteArray), .string (⟨#[]⟩ : ByteArray)]) (t := 84) ?hr ?_; (case hd => rfl); (case hg => rfl); (case hr => first | (go_simp; done) | (go_simp; rfl))
       intro gb1073 hg w32 hbox hb
       replace HO_3 := am (Kd.R_below (Kd.R_elderB (ro HO_3) gb1073 (Nat.le_of_eq hg.symm)) hb)
       have BK1073 := am (hbox)
       have GW1073 := am (sz hg : w.heap.size ≤ gb1073)
       have GE1073 := am (sz hg : w.heap.size ≤ gb1073)
       replace HB := am (below_step bl hb)
       clear hb hbox hg
       refine hK.out _ _ ⟨(hcw hw1071_0), (hcw hw1072_0)⟩ (fun hHeld => ?_)
       clear hK K
       refine nm 6 ?_
       refine one_ (i := 15) (N := none) #[true, true, true, true, true, true, true, true, true, true, true, true, true, true, true, true] rfl rfl (one_of HT_.out (by kernel_rfl)) (by decide) (fun K hK => ?_)
       have hs33 : w32.cell? ⟨gb1073, 0, none⟩ = some (.string (⟨#[]⟩ : ByteArray)) := bc BK1073
       have hfs33 := blk_frozen BK1073.out 0
       have hs34 : w32.cell? ⟨gb1073, 1, none⟩ = some (.string (⟨#[]⟩ : ByteArray)) := bc BK1073
       have hfs34 := blk_frozen BK1073.out 1
       refine skip_ (w1 := ?_) (by rfl) rfl ?_ ?_
       rotate_left
       ·go_simp
        rfl
       refine hK.out _ _ ⟨((cell_far (p := ⟨gb1073, _, none⟩) (by first | exact Nat.ne_of_lt (Nat.lt_of_lt_of_le (by have := World.block_lt_of_cell? _ _ hw1071_0; first | rwa [add_block] at this | exact this) GW1073.out) | (rw [add_block]; exact Nat.ne_of_lt (Nat.lt_of_lt_of_le (by have := World.block_lt_of_cell? _ _ hw1071_0; first | rwa [add_block] at this | exact this) GW1073.out)) | (show (Addr.add _ _).block ≠ _; rw [add_block]; exact Nat.ne_of_lt (Nat.lt_of_lt_of_le (by have := World.block_lt_of_cell? _ _ hw1071_0; first | rwa [add_block] at this | exact this) GW1073.out)) | (dsimp only; exact Nat.ne_of_lt (Nat.lt_of_lt_of_le (by have := World.block_lt_of_cell? _ _ hw1071_0; first | rwa [add_block] at this | exact this) GW1073.out))) _).trans (((cell_far (p := ⟨gb1073, _, none⟩) (by first | exact Nat.ne_of_lt (Nat.lt_of_lt_of_le (by have := World.block_lt_of_cell? _ _ hw1071_0; first | rwa [add_block] at this | exact this) GW1073.out) | (rw [add_block]; exact Nat.ne_of_lt (Nat.lt_of_lt_of_le (by have := World.block_lt_of_cell? _ _ hw1071_0; first | rwa [add_block] at this | exact this) GW1073.out)) | (show (Addr.add _ _).block ≠ _; rw [add_block]; exact Nat.ne_of_lt (Nat.lt_of_lt_of_le (by have := World.block_lt_of_cell? _ _ hw1071_0; first | rwa [add_block] at this | exact this) GW1073.out)) | (dsimp only; exact Nat.ne_of_lt (Nat.lt_of_lt_of_le (by have := World.block_lt_of_cell? _ _ hw1071_0; first | rwa [add_block] at this | exact this) GW1073.out))) _).trans (hHeld.1)))), ((cell_far (p := ⟨gb1073, _, none⟩) (by first | exact Nat.ne_of_lt (Nat.lt_of_lt_of_le (by have := World.block_lt_of_cell? _ _ hw1072_0; first | rwa [add_block] at this | exact this) GW1073.out) | (rw [add_block]; exact Nat.ne_of_lt (Nat.lt_of_lt_of_le (by have := World.block_lt_of_cell? _ _ hw1072_0; first | rwa [add_block] at this | exact this) GW1073.out)) | (show (Addr.add _ _).block ≠ _; rw [add_block]; exact Nat.ne_of_lt (Nat.lt_of_lt_of_le (by have := World.block_lt_of_cell? _ _ hw1072_0; first | rwa [add_block] at this | exact this) GW1073.out)) | (dsimp only; exact Nat.ne_of_lt (Nat.lt_of_lt_of_le (by have := World.block_lt_of_cell? _ _ hw1072_0; first | rwa [add_block] at this | exact this) GW1073.out))) _).trans (((cell_far (p := ⟨gb1073, _, none⟩) (by first | exact Nat.ne_of_lt (Nat.lt_of_lt_of_le (by have := World.block_lt_of_cell? _ _ hw1072_0; first | rwa [add_block] at this | exact this) GW1073.out) | (rw [add_block]; exact Nat.ne_of_lt (Nat.lt_of_lt_of_le (by have := World.block_lt_of_cell? _ _ hw1072_0; first | rwa [add_block] at this | exact this) GW1073.out)) | (show (Addr.add _ _).block ≠ _; rw [add_block]; exact Nat.ne_of_lt (Nat.lt_of_lt_of_le (by have := World.block_lt_of_cell? _ _ hw1072_0; first | rwa [add_block] at this | exact this) GW1073.out)) | (dsimp only; exact Nat.ne_of_lt (Nat.lt_of_lt_of_le (by have := World.block_lt_of_cell? _ _ hw1072_0; first | rwa [add_block] at this | exact this) GW1073.out))) _).trans (hHeld.2))))⟩ (fun hHeld => ?_)
       clear hK K
       refine done_ (done_of HT_.out (by kernel_rfl)) ?_
       obtain ⟨z35_0, y35_0, z35_1, y35_1⟩ := cl2 BK1073
       try go_wp2_with (first | ((with_reducible refine gate_builtin (b := .append) (xs := #[.tmp 58, .tmp 60]) rfl ?_); at_builtin; refine Kd.R_append k84 (w0 := w) w.heap.size rfl (.tmp 58) (.tmp 60) 24 84 (.agg #[(.string ⟨#[]⟩), (.string ⟨#[]⟩)]) 32 rfl Tryd.underlying24 info84 rfl (by decide) (by omega) u3 x3_2 (⟨(rdOf ByteArray.empty l0 x4_1).extract 0 (x5_2 : Int).toNat, (rdOf ByteArray.empty l0 x4_1).extract ((ji21) : Int).toNat (rdOf ByteArray.empty l0 x4_1).size⟩ : S84) [.string ((rdOf ByteArray.empty l0 x4_1).extract 0 (x5_2 : Int).toNat), .string ((rdOf ByteArray.empty l0 x4_1).extract ((ji21) : Int).toNat (rdOf ByteArray.empty l0 x4_1).size)] (fun k_ => k_ ≠ gb1073) (fun _ => False) rfl (by first | (go_simp; done) | (go_simp; rfl)) ?aP (fun _ hk => hk.elim) ?aF ?aO ?aB ?aS ?aL ?_; (case aP => exact k84_mkM _ _ _ (⟨(rdOf ByteArray.empty l0 x4_1).extract 0 (x5_2 : Int).toNat, (rdOf ByteArray.empty l0 x4_1).extract ((ji21) : Int).toNat (rdOf ByteArray.empty l0 x4_1).size⟩ : S84)); (case aB => exact bl); (case aF => exact (fun k_ hk => Kd.freshB (g := gb1073) (o := .cells #[.string ((rdOf ByteArray.empty l0 x4_1).extract 0 (x5_2 : Int).toNat), .string ((rdOf ByteArray.empty l0 x4_1).extract ((ji21) : Int).toNat (rdOf ByteArray.empty l0 x4_1).size)] 84 (0, 0)) (pt0 BK1073) k_ hk)); (case aO => exact (by (with_reducible repeat (first | apply Kd.R_alloc | apply Kd.R_drewN | apply Kd.R_drew)); exact Kd.R_mono (Kd.R_far (p := ⟨gb1073, 1, none⟩) (Kd.R_far (p := ⟨gb1073, 0, none⟩) (Kd.R_mono HO_3.out (fun k_ hk => (⟨hk, hk.2⟩ : _ ∧ k_ ≠ gb1073))) (fun _ hk => hk.2) (.string ((rdOf ByteArray.empty l0 x4_1).extract 0 (x5_2 : Int).toNat))) (fun _ hk => hk.2) (.string ((rdOf ByteArray.empty l0 x4_1).extract ((ji21) : Int).toNat (rdOf ByteArray.empty l0 x4_1).size))) (fun _ hk => hk.1.2))); (case aS => exact (below_size bl)); (case aL => have := LMc30.out; omega); intro v1075 w36 ho hb hg hat; rw [← Ny1074.out] at ho; have n0_ := am (blk_grown (g := gb1073) (o := .cells #[.string ((rdOf ByteArray.empty l0 x4_1).extract 0 (x5_2 : Int).toNat), .string ((rdOf ByteArray.empty l0 x4_1).extract ((ji21) : Int).toNat (rdOf ByteArray.empty l0 x4_1).size)] 84 (0, 0)) (pt0 BK1073) hg (Kd.R_away HO_3.out (fun _ hk => hk.2))); have n1_ := am (hb); have n2_ := am (ho); clear BK1073; clear HB; clear HO_3; have BK1073 := n0_; have HB := n1_; have HO1076 := n2_; clear n0_ n1_ n2_; clear ho hb hg hat))
       go_roundg kj7
       case measure => have := HK1.out; have := HK2.out; have := HJ7.out; omega
       case rel => exact ⟨(y1074), (wrap64 (x4_1 + 1)), rs, H', ⟨by have := HK1.out; have := HK2.out; have := HJ7.out; omega⟩, ⟨by (with_reducible repeat (first | apply Kd.R_alloc | apply Kd.R_drewN | apply Kd.R_drew)); exact Kd.R_mono HO1076.out (fun _ hk => trivial)⟩, ⟨u94HB⟩⟩

end Go.Proofs.YtkgdcfaogdmcgaaDoor.All
