-- Written by a program of this session (wip/tools/hprint.py) out of the translation. Lean checks it.
import Derived.Test.YtjckfmipegemcaaGreatDoorAllx0
import Derived.Test.YtjckfmipegemcaaGreatDoorAllx7
import Derived.Test.YtjckfmipegemcaaGreatDoorAllx8
import Derived.Test.YtjckfmipegemcaaGreatDoorAllx9
import Derived.Test.YtjckfmipegemcaaGreatDoorAllx10
import Derived.Test.YtjckfmipegemcaaGreatDoorAllx15
namespace Go.Proofs.YtjckfmipegemcaaGreatDoor.All
open Go.RowKit Go.Proofs.YtjckfmipegemcaaGreatDoorW.PrintWords Go.Proofs.YtjckfmipegemcaaGreatDoorW.PrintLast Go.Proofs.YtjckfmipegemcaaGreatDoorW.PrintMore
attribute [local go_sem] max2_int min2_int max_two min_two max_three min_three max_four min_four   -- for this text's walks alone
set_option linter.unusedVariables false
set_option linter.unusedSimpArgs false

/-! ### laws_sameTexts: function 21 -/
def laws_sameTexts.l0 : Nat → List ByteArray → List ByteArray → Int → Option (Bool)
 | 0, _, _, _ => none
 | k + 1, x0, x1, x5 => if x5 < (x0.length : Int) then (if 0 ≤ x5 then (if x5 < (x1.length : Int) then (if (rdOf ByteArray.empty x0 x5).toList = (rdOf ByteArray.empty x1 x5).toList then (laws_sameTexts.l0 k x0 x1 (wrap64 (x5 + 1))) else (some false)) else (none)) else (none)) else (some true)
def laws_sameTexts.f (k : Nat) (l0 : List ByteArray) (l1 : List ByteArray) : Option (Bool) := if (l0.length : Int) = (l1.length : Int) then (laws_sameTexts.l0 k l0 l1 0) else (some false)
theorem laws_sameTexts.mono_l : ∀ k, (∀ y0 y1 y2, LeO (laws_sameTexts.l0 k y0 y1 y2) (laws_sameTexts.l0 (k + 1) y0 y1 y2))
 | 0 => fun _ _ _ r h => by simp [laws_sameTexts.l0] at h
 | k + 1 => by
  have ih0 := laws_sameTexts.mono_l k
  ·intro y0 y1 y2
   unfold laws_sameTexts.l0
   exact mo
theorem laws_sameTexts.mono : ∀ a0 a1 k, LeO (laws_sameTexts.f k a0 a1) (laws_sameTexts.f (k + 1) a0 a1) := by
 intro a0 a1 k
 have ih0 := laws_sameTexts.mono_l k
 unfold laws_sameTexts.f
 exact mo
set_option maxHeartbeats 8000000 in
set_option maxRecDepth 100000 in
theorem laws_sameTexts.calls (k : Nat) (A0 : Option Addr) (c0 : Nat) (l0 : List ByteArray) (A1 : Option Addr) (c1 : Nat) (l1 : List ByteArray) (r : Bool) (w : World) (hr0 : Kd.C Kd.string w A0 l0.length l0) (hc0 : l0.length ≤ c0) (hr1 : Kd.C Kd.string w A1 l1.length l1) (hc1 : l1.length ≤ c1) (h : laws_sameTexts.f k l0 l1 = some r) :
  Calls Tryz.prog 21 #[.slice A0 l0.length c0, .slice A1 l1.length c1] w fun e w' => e = .returned (.bool r) ∧ Drawn0 w w' := by
 have HR0 := am hr0
 have HC0 := am hc0
 clear hr0 hc0
 have HR1 := am hr1
 have HC1 := am hc1
 clear hr1 hc1
 unfold laws_sameTexts.f at h
 have H := h
 clear h
 by_cases c3 : (l0.length : Int) = (l1.length : Int)
 rotate_left
 ·rw [if_neg c3] at H
  have c3b0 : ((l0.length : Int) == (l1.length : Int)) = false := beq_eq_false_iff_ne.mpr c3
  have c3b1 : ((l0.length : Int) != (l1.length : Int)) = true := bne_iff_ne.mpr c3
  have c3b2 : (l0.length == l1.length) = false := by first | simpa using c3 | (simp at c3 ⊢; omega)
  obtain rfl := Option.some.inj H
  go_enter Tryz.func21, Tryz.ntmps21
  go_wp2
  repeat (go_quiet (fail); try go_wp2)
  go_ret
  exact ⟨rs, dr⟩
 rw [if_pos c3] at H
 have c3b0 : ((l0.length : Int) == (l1.length : Int)) = true := beq_iff_eq.mpr c3
 have c3b1 : ((l0.length : Int) != (l1.length : Int)) = false := bne_eq_false_iff_eq.mpr c3
 have c3b2 : (l0.length == l1.length) = true := by first | simpa using c3 | (simp at c3 ⊢; omega)
 clear c3
 have H' := am H
 clear H
 go_enter Tryz.func21, Tryz.ntmps21
 go_wp2
 repeat (go_quiet (fail); try go_wp2)
 (try simp only [Act.put, List.setIfInBounds_toArray, List.set_cons_zero, List.set_cons_succ])
 go_loopg [5] k (fun kq v5 w' => ∃ (x5_1 : Int), v5 = .int .i64 x5_1 ∧ Aside0 (laws_sameTexts.l0 kq l0 l1 x5_1 = some r) ∧ Aside0 (kq ≤ k) ∧ Drawn0 w w')
 case atStart => exact ⟨(0), rs, H', ⟨Nat.le_refl _⟩, dr⟩
 case round =>
  clear H'
  try clear c1
  try clear c2
  try clear p2
  try clear c3
  try clear c3b0
  try clear c3b1
  try clear c3b2
  obtain ⟨x5_1, rfl, HA, HK1, ⟨m1, rfl⟩⟩ := hrel
  cases gk with
  | zero => exact absurd HA.out (by simp [laws_sameTexts.l0])
  | succ k1 =>
   have H := HA.out
   clear HA
   simp only [laws_sameTexts.l0] at H
   by_cases c4 : x5_1 < (l0.length : Int)
   rotate_left
   ·rw [if_neg c4] at H
    have c4b0 := decide_eq_false c4
    clear c4
    obtain rfl := Option.some.inj H
    go_wp2
    repeat (go_quiet (fail); try go_wp2)
    go_ret
    exact ⟨rs, dr⟩
   rw [if_pos c4] at H
   have c4b0 := decide_eq_true c4
   clear c4
   revert H
   refine ifn fun c5 H => ?_
   have c5b0 := decide_eq_true c5
   clear c5
   revert H
   refine ifn fun c6 H => ?_
   have c6b0 := decide_eq_true c6
   clear c6
   by_cases c7 : (rdOf ByteArray.empty l0 x5_1).toList = (rdOf ByteArray.empty l1 x5_1).toList
   rotate_left
   ·rw [if_neg c7] at H
    have c7b0 : ((rdOf ByteArray.empty l0 x5_1).toList == (rdOf ByteArray.empty l1 x5_1).toList) = false := beq_eq_false_iff_ne.mpr c7
    have c7b1 : ((rdOf ByteArray.empty l0 x5_1).toList != (rdOf ByteArray.empty l1 x5_1).toList) = true := bne_iff_ne.mpr c7
    obtain rfl := Option.some.inj H
    have p546 : 0 ≤ (x5_1 : Int) := od
    have q546 : x5_1 < (l0.length : Int) := od
    obtain ⟨ad546, e546, hx546_0⟩ := Kd.at_string HR0.out x5_1 p546 q546
    cases e546
    replace p546 := eq_true p546
    replace q546 := eq_true q546
    have p547 : 0 ≤ (x5_1 : Int) := od
    have q547 : x5_1 < (l1.length : Int) := od
    obtain ⟨ad547, e547, hx547_0⟩ := Kd.at_string HR1.out x5_1 p547 q547
    cases e547
    replace p547 := eq_true p547
    replace q547 := eq_true q547
    go_wp2
    repeat (go_quiet (fail); try go_wp2)
    go_ret
    exact ⟨rs, dr⟩
   rw [if_pos c7] at H
   have c7b0 : ((rdOf ByteArray.empty l0 x5_1).toList == (rdOf ByteArray.empty l1 x5_1).toList) = true := beq_iff_eq.mpr c7
   have c7b1 : ((rdOf ByteArray.empty l0 x5_1).toList != (rdOf ByteArray.empty l1 x5_1).toList) = false := bne_eq_false_iff_eq.mpr c7
   clear c7
   have H' := am H
   clear H
   have p546 : 0 ≤ (x5_1 : Int) := od
   have q546 : x5_1 < (l0.length : Int) := od
   obtain ⟨ad546, e546, hx546_0⟩ := Kd.at_string HR0.out x5_1 p546 q546
   cases e546
   replace p546 := eq_true p546
   replace q546 := eq_true q546
   have p547 : 0 ≤ (x5_1 : Int) := od
   have q547 : x5_1 < (l1.length : Int) := od
   obtain ⟨ad547, e547, hx547_0⟩ := Kd.at_string HR1.out x5_1 p547 q547
   cases e547
   replace p547 := eq_true p547
   replace q547 := eq_true q547
   go_wp2
   repeat (go_quiet (fail); try go_wp2)
   go_roundg k1
   case measure => have := HK1.out; omega
   case rel => exact ⟨(wrap64 (x5_1 + 1)), rs, H', ⟨by have := HK1.out; omega⟩, dr⟩

/-! ### spec_l1Min: function 50 -/
def spec_l1Min.f (a0 : Int) (a1 : Int) : Option (Int) := if a0 < a1 then (some a0) else (some a1)
set_option maxHeartbeats 8000000 in
set_option maxRecDepth 100000 in
theorem spec_l1Min.calls (a0 : Int) (a1 : Int) (r : Int) (w : World) (h : spec_l1Min.f a0 a1 = some r) :
  Calls Tryz.prog 50 #[.int .i64 a0, .int .i64 a1] w fun e w' => e = .returned (.int .i64 r) ∧ Drawn0 w w' := by
 unfold spec_l1Min.f at h
 have H := h
 clear h
 by_cases c3 : a0 < a1
 ·rw [if_pos c3] at H
  have c3b0 := decide_eq_true c3
  clear c3
  obtain rfl := Option.some.inj H
  go_enter Tryz.func50, Tryz.ntmps50
  go_wp2
  go_ret
  exact ⟨rs, dr⟩
 rw [if_neg c3] at H
 have c3b0 := decide_eq_false c3
 clear c3
 obtain rfl := Option.some.inj H
 go_enter Tryz.func50, Tryz.ntmps50
 go_wp2
 go_ret
 exact ⟨rs, dr⟩

/-! ### spec_l1Max: function 51 -/
def spec_l1Max.f (a0 : Int) (a1 : Int) : Option (Int) := if a0 > a1 then (some a0) else (some a1)
set_option maxHeartbeats 8000000 in
set_option maxRecDepth 100000 in
theorem spec_l1Max.calls (a0 : Int) (a1 : Int) (r : Int) (w : World) (h : spec_l1Max.f a0 a1 = some r) :
  Calls Tryz.prog 51 #[.int .i64 a0, .int .i64 a1] w fun e w' => e = .returned (.int .i64 r) ∧ Drawn0 w w' := by
 unfold spec_l1Max.f at h
 have H := h
 clear h
 by_cases c3 : a0 > a1
 ·rw [if_pos c3] at H
  have c3b0 := decide_eq_true c3
  clear c3
  obtain rfl := Option.some.inj H
  go_enter Tryz.func51, Tryz.ntmps51
  go_wp2
  go_ret
  exact ⟨rs, dr⟩
 rw [if_neg c3] at H
 have c3b0 := decide_eq_false c3
 clear c3
 obtain rfl := Option.some.inj H
 go_enter Tryz.func51, Tryz.ntmps51
 go_wp2
 go_ret
 exact ⟨rs, dr⟩

/-! ### spec_Pieces: function 22 -/
theorem u22HB {p : Prop} (h : p := by repeat (first | (with_reducible first | exact HB.out | apply below_alloc | apply pw_below_drewN | apply below_drew1) | exact HB.out)) : p := h
def spec_Pieces.l0 : Nat → ByteArray → List Int → List ByteArray → Int → Int → Option (List ByteArray)
 | 0, _, _, _, _, _ => none
 | k + 1, x0, x1, x5, x6, x7 => if x7 < (x1.length : Int) then (if 0 ≤ x7 then ((spec_l1Max.f (rd x1 x7) 0).bind fun t552 => ((spec_l1Min.f t552 (wrap64 ((x0.size : Int) - x6))).bind fun t553 => (if 0 ≤ x6 then (if x6 ≤ (wrap64 (x6 + t553)) then (if (wrap64 (x6 + t553)) ≤ (x0.size : Int) then (if x5.length < 8796093022208 then (spec_Pieces.l0 k x0 x1 (x5 ++ [x0.extract (x6 : Int).toNat ((wrap64 (x6 + t553)) : Int).toNat]) (wrap64 (x6 + t553)) (wrap64 (x7 + 1))) else (none)) else (none)) else (none)) else (none)))) else (none)) else (if x6 < (x0.size : Int) then (if 0 ≤ x6 then (if x6 ≤ (x0.size : Int) then (if x5.length < 8796093022208 then (some (x5 ++ [x0.extract (x6 : Int).toNat x0.size])) else (none)) else (none)) else (none)) else (some x5))
def spec_Pieces.f (k : Nat) (a0 : ByteArray) (l1 : List Int) : Option (List ByteArray) := spec_Pieces.l0 k a0 l1 (([] : List ByteArray)) 0 0
theorem spec_Pieces.mono_l : ∀ k, (∀ y0 y1 y2 y3 y4, LeO (spec_Pieces.l0 k y0 y1 y2 y3 y4) (spec_Pieces.l0 (k + 1) y0 y1 y2 y3 y4))
 | 0 => fun _ _ _ _ _ r h => by simp [spec_Pieces.l0] at h
 | k + 1 => by
  have ih0 := spec_Pieces.mono_l k
  ·intro y0 y1 y2 y3 y4
   unfold spec_Pieces.l0
   exact mo
theorem spec_Pieces.mono : ∀ a0 a1 k, LeO (spec_Pieces.f k a0 a1) (spec_Pieces.f (k + 1) a0 a1) := by
 intro a0 a1 k
 have ih0 := spec_Pieces.mono_l k
 unfold spec_Pieces.f
 exact mo
set_option maxHeartbeats 8000000 in
set_option maxRecDepth 100000 in
theorem spec_Pieces.calls (k : Nat) (a0 : ByteArray) (A1 : Option Addr) (c1 : Nat) (l1 : List Int) (r : List ByteArray) (w : World) (hr1 : Kd.C (Kd.int .i64) w A1 l1.length l1) (hc1 : l1.length ≤ c1) (h : spec_Pieces.f k a0 l1 = some r) :
  Calls Tryz.prog 22 #[.string a0, .slice A1 l1.length c1] w fun e w' => ∃ v0_ : Value, e = .returned (v0_) ∧ Kd.R Kd.string 9 w' w.heap.size (fun _ => True) v0_ r ∧ Below w.heap.size w w' := by
 have HR1 := am hr1
 have HC1 := am hc1
 clear hr1 hc1
 have HB := am (Below.refl w.heap.size w)
 unfold spec_Pieces.f at h
 have H := h
 clear h
 obtain ⟨y548, hy548⟩ : ∃ y_ : List ByteArray, y_ = (([] : List ByteArray)) := ⟨_, rfl⟩
 replace H : (spec_Pieces.l0 k a0 l1 y548 0 0) = some r := by first | (rw [hy548]; with_reducible exact H) | (have H2_ := (Option.bind_some _ _).symm.trans H; rw [hy548]; with_reducible exact H2_) | (have H2_ := (Option.bind_some _ _).symm.trans H; with_reducible exact H2_) | with_reducible exact H | (rw [hy548]; exact H) | exact H
 have Ny548 := am hy548
 clear hy548
 have H' := am H
 clear H
 go_enter Tryz.func22, Tryz.ntmps22
 go_wp2_with (first | ((with_reducible refine gate_dst (N := 9) rfl ?_); refine Kd.R_lit Kd.string _ 9 ?hg (N := 9) ?hd (xs := ([] : List ByteArray)) (inner := []) (ok := fun _ => True) (okp := fun _ => True) ?hr ?hp (fun _ hk => hk) trivial (Below.refl _ _) (Nat.le_refl _) (by simp) ?_; (case hd => rfl); (case hg => rfl); (case hr => first | (go_simp; done) | (go_simp; rfl)); (case hp => exact (Reps.none _ _)); intro v549 w3 ho4 hb hg_ hnew_; clear hg_ hnew_; (first | rw [← Ny548.out] at ho4 | (simp only [Int.reduceToNat] at ho4; rw [← Ny548.out] at ho4)); have HO550 := am (Kd.R_lower ho4 (below_size bl)); replace HB := am (below_step bl hb); clear hb ho4))
 (try simp only [Act.put, List.setIfInBounds_toArray, List.set_cons_zero, List.set_cons_succ])
 go_loopg [5, 6, 7] k (fun kq v5 v6 v7 w' => ∃ (x5_1 : List ByteArray) (x6_1 : Int) (x7_1 : Int), v6 = .int .i64 x6_1 ∧ v7 = .int .i64 x7_1 ∧ Aside0 (spec_Pieces.l0 kq a0 l1 x5_1 x6_1 x7_1 = some r) ∧ Aside0 (kq ≤ k) ∧ Aside0 (Kd.R Kd.string 9 w' w.heap.size (fun _ => True) v5 x5_1) ∧ Aside0 (Below w.heap.size w w'))
 case atStart => exact ⟨(y548), (0), (0), rs, rs, H', ⟨Nat.le_refl _⟩, ⟨by (with_reducible repeat (first | apply Kd.R_alloc | apply Kd.R_drewN | apply Kd.R_drew)); exact HO550.out⟩, ⟨u22HB⟩⟩
 case round =>
  clear H'
  try clear c1
  try clear c2
  try clear p2
  obtain ⟨x5_1, x6_1, x7_1, rfl, rfl, HA, HK1, HO_5, HB⟩ := hrel
  cases gk with
  | zero => exact absurd HA.out (by simp [spec_Pieces.l0])
  | succ k1 =>
   have H := HA.out
   clear HA
   simp only [spec_Pieces.l0] at H
   by_cases c5 : x7_1 < (l1.length : Int)
   rotate_left
   ·rw [if_neg c5] at H
    have c5b0 := decide_eq_false c5
    clear c5
    by_cases c14 : x6_1 < (a0.size : Int)
    rotate_left
    ·rw [if_neg c14] at H
     have c14b0 := decide_eq_false c14
     clear c14
     obtain rfl := Option.some.inj H
     go_wp2
     go_ret
     exact ⟨_, rf, by (with_reducible repeat (first | apply Kd.R_alloc | apply Kd.R_drewN | apply Kd.R_drew)); exact HO_5.out, bl⟩
    rw [if_pos c14] at H
    have c14b0 := decide_eq_true c14
    clear c14
    revert H
    refine ifn fun c15 H => ?_
    have c15b0 := eq_true c15
    have c15b1 := decide_eq_true c15
    clear c15
    revert H
    refine ifn fun c16 H => ?_
    have c16b0 := eq_true c16
    have c16b1 := decide_eq_true c16
    clear c16
    revert H
    refine ifn fun c17 H => ?_
    have LMc17 := am c17
    clear c17
    obtain ⟨y557, hy557⟩ : ∃ y_ : List ByteArray, y_ = (x5_1 ++ [a0.extract (x6_1 : Int).toNat a0.size]) := ⟨_, rfl⟩
    replace H : (some y557) = some r := by first | (rw [hy557]; with_reducible exact H) | (have H2_ := (Option.bind_some _ _).symm.trans H; rw [hy557]; with_reducible exact H2_) | (have H2_ := (Option.bind_some _ _).symm.trans H; with_reducible exact H2_) | with_reducible exact H | (rw [hy557]; exact H) | exact H
    have Ny557 := am hy557
    clear hy557
    obtain rfl := Option.some.inj H
    go_wp2_with (first | ((with_reducible refine gate_builtin (b := .append) (xs := #[.tmp 42, .tmp 46]) rfl ?_); at_builtin; refine Kd.R_append Kd.string (w0 := w) w.heap.size rfl (.tmp 42) (.tmp 46) 35 9 (.string ⟨#[]⟩) 16 rfl Tryz.underlying35 info9 rfl (by decide) (by omega) u5 x5_1 (a0.extract (x6_1 : Int).toNat a0.size) [.string (a0.extract (x6_1 : Int).toNat a0.size)] (fun _ => True) (fun _ => False) rfl rfl ?aP (fun _ hk => hk.elim) ?aF ?aO ?aB ?aS ?aL ?_; (case aP => exact rfl); (case aB => exact bl); (case aF => exact (fun _ _ => trivial)); (case aO => exact (ro HO_5)); (case aS => exact (below_size bl)); (case aL => have := LMc17.out; omega); intro v558 w18 ho hb hg hat; rw [← Ny557.out] at ho; have n0_ := am (hb); have n1_ := am (ho); clear HB; clear HO_5; have HB := n0_; have HO559 := n1_; clear n0_ n1_; clear ho hb hg hat))
    go_ret
    exact ⟨_, rf, by (with_reducible repeat (first | apply Kd.R_alloc | apply Kd.R_drewN | apply Kd.R_drew)); exact HO559.out, bl⟩
   rw [if_pos c5] at H
   have c5b0 := decide_eq_true c5
   clear c5
   revert H
   refine ifn fun c6 H => ?_
   have c6b0 := decide_eq_true c6
   clear c6
   revert H
   refine ok1 fun t552 A7 H => ?_
   revert H
   refine ok1 fun t553 A8 H => ?_
   revert H
   refine ifn fun c9 H => ?_
   have c9b0 := eq_true c9
   have c9b1 := decide_eq_true c9
   clear c9
   revert H
   refine ifn fun c10 H => ?_
   have c10b0 := eq_true c10
   have c10b1 := decide_eq_true c10
   revert H
   refine ifn fun c11 H => ?_
   have c11b0 := eq_true c11
   have c11b1 := decide_eq_true c11
   revert H
   refine ifn fun c12 H => ?_
   have LMc12 := am c12
   clear c12
   obtain ⟨y554, hy554⟩ : ∃ y_ : List ByteArray, y_ = (x5_1 ++ [a0.extract (x6_1 : Int).toNat ((wrap64 (x6_1 + t553)) : Int).toNat]) := ⟨_, rfl⟩
   replace H : (spec_Pieces.l0 k1 a0 l1 y554 (wrap64 (x6_1 + t553)) (wrap64 (x7_1 + 1))) = some r := by first | (rw [hy554]; with_reducible exact H) | (have H2_ := (Option.bind_some _ _).symm.trans H; rw [hy554]; with_reducible exact H2_) | (have H2_ := (Option.bind_some _ _).symm.trans H; with_reducible exact H2_) | with_reducible exact H | (rw [hy554]; exact H) | exact H
   have Ny554 := am hy554
   clear hy554
   have H' := am H
   clear H
   have p551 : 0 ≤ (x7_1 : Int) := od
   have q551 : x7_1 < (l1.length : Int) := od
   obtain ⟨ad551, e551, hx551_0⟩ := Kd.at_int HR1.out x7_1 p551 q551
   cases e551
   replace hx551_0 := hcw hx551_0
   replace p551 := eq_true p551
   replace q551 := eq_true q551
   go_wp2_with (first | ((with_reducible refine gw ?_); first | (refine gl 20 Tryz.func51 #[.int .i64 (rd l1 x7_1), .int .i64 0] ?_; (with_reducible refine (spec_l1Max.calls (rd l1 x7_1) 0 t552 _ A7.out).mono ?_); rintro e w' ⟨rfl, ⟨nd, rfl⟩⟩; refine ⟨_, rfl, ?_⟩) | (refine gl 25 Tryz.func50 #[.int .i64 t552, .int .i64 (wrap64 ((a0.size : Int) - x6_1))] ?_; (with_reducible refine (spec_l1Min.calls t552 (wrap64 ((a0.size : Int) - x6_1)) t553 _ A8.out).mono ?_); rintro e w' ⟨rfl, ⟨nd, rfl⟩⟩; refine ⟨_, rfl, ?_⟩)) | ((with_reducible refine gate_builtin (b := .append) (xs := #[.tmp 26, .tmp 33]) rfl ?_); at_builtin; refine Kd.R_append Kd.string (w0 := w) w.heap.size rfl (.tmp 26) (.tmp 33) 35 9 (.string ⟨#[]⟩) 16 rfl Tryz.underlying35 info9 rfl (by decide) (by omega) u5 x5_1 (a0.extract (x6_1 : Int).toNat ((wrap64 (x6_1 + t553)) : Int).toNat) [.string (a0.extract (x6_1 : Int).toNat ((wrap64 (x6_1 + t553)) : Int).toNat)] (fun _ => True) (fun _ => False) rfl rfl ?aP (fun _ hk => hk.elim) ?aF ?aO ?aB ?aS ?aL ?_; (case aP => exact rfl); (case aB => exact bl); (case aF => exact (fun _ _ => trivial)); (case aO => exact (ro HO_5)); (case aS => exact (below_size bl)); (case aL => have := LMc12.out; omega); intro v555 w13 ho hb hg hat; rw [← Ny554.out] at ho; have n0_ := am (hb); have n1_ := am (ho); clear HB; clear HO_5; have HB := n0_; have HO556 := n1_; clear n0_ n1_; clear ho hb hg hat))
   go_roundg k1
   case measure => have := HK1.out; omega
   case rel => exact ⟨(y554), (wrap64 (x6_1 + t553)), (wrap64 (x7_1 + 1)), rs, rs, H', ⟨by have := HK1.out; omega⟩, ⟨by (with_reducible repeat (first | apply Kd.R_alloc | apply Kd.R_drewN | apply Kd.R_drew)); exact HO556.out⟩, ⟨u22HB⟩⟩

/-! ### spec_DrawFeedAll: function 23 -/
theorem u23HB {p : Prop} (h : p := by repeat (first | (with_reducible first | exact HB.out | apply below_alloc | apply pw_below_drewN | apply below_drew1 | refine below_set ?_ GE560.out | refine below_set ?_ GE564.out | refine below_set ?_ (IsS75.ge HI568.out)) | exact HB.out)) : p := h
theorem u23HI568 {p : Prop} (h : p := by repeat (first | (with_reducible first | exact HI568.out | apply IsS75.alloc | apply IsS75.drewN | apply IsS75.drew | apply IsS75.set_1 | apply IsS75.set_2 | apply IsS75.far (p := ⟨gb560, _, none⟩) (hne := NB568_560.out) | apply IsS75.far (p := ⟨gb564, _, none⟩) (hne := NB568_564.out)) | exact HI568.out)) : p := h
def spec_DrawFeedAll.f (k : Nat) (l0 : List Int) : Option (ByteArray × Bool × List ByteArray) := (spec_DrawFeed.f k l0).bind fun bt561 => ((spec_l1New.f k l0).bind fun bt565 => ((spec_l4DrawSizes.f k bt565.1 bt565.2.1 bt565.2.2).bind fun bt569 => ((spec_Pieces.f k bt561.2.2 bt569.1).bind fun t574 => (some (bt561.1, bt561.2.1, t574)))))
theorem spec_DrawFeedAll.mono : ∀ a0 k, LeO (spec_DrawFeedAll.f k a0) (spec_DrawFeedAll.f (k + 1) a0) := by
 intro a0 k
 unfold spec_DrawFeedAll.f
 have m0 := @spec_DrawFeed.mono
 have m1 := @spec_Pieces.mono
 have m2 := @spec_l1New.mono
 have m3 := @spec_l4DrawSizes.mono
 exact mo
def spec_DrawFeedAll.T2 : Bool × List (List Nat × List Nat) := (true, [([], []), ([], []), ([], []), ([2], [2]), ([3, 3], [3]), ([1, 4, 4], [1, 4]), ([0, 5, 0], [0]), ([5, 6, 0, 1, 2, 3, 4, 5, 6], [5])])
def spec_DrawFeedAll.B2 : List Nat := [0, 0, 0, 4, 12, 30, 63, 127]
theorem spec_DrawFeedAll.tab2 : rtab .any (opsOf Tryz.f23 2) = spec_DrawFeedAll.T2 := by kernel_rfl
theorem spec_DrawFeedAll.bits2 : waitsOk spec_DrawFeedAll.T2.2 spec_DrawFeedAll.B2 = true := by kernel_rfl
set_option maxHeartbeats 8000000 in
set_option maxRecDepth 100000 in
theorem spec_DrawFeedAll.calls (k : Nat) (A0 : Option Addr) (c0 : Nat) (l0 : List Int) (r1 : ByteArray) (r2 : Bool) (r3 : List ByteArray) (w : World) (hr0 : Kd.C (Kd.int .u8) w A0 l0.length l0) (hc0 : l0.length ≤ c0) (h : spec_DrawFeedAll.f k l0 = some (r1, r2, r3)) :
  Calls Tryz.prog 23 #[.slice A0 l0.length c0] w fun e w' => ∃ v2_ : Value, e = .returned (.tuple #[.agg #[.string r1, .bool r2], v2_]) ∧ Kd.R Kd.string 9 w' w.heap.size (fun _ => True) v2_ r3 ∧ Below w.heap.size w w' := by
 have hu25 := Tryz.underlying25
 have HR0 := am hr0
 have HC0 := am hc0
 clear hr0 hc0
 have HB := am (Below.refl w.heap.size w)
 unfold spec_DrawFeedAll.f at h
 have H := h
 clear h
 revert H
 refine ok3 fun t561 t562 t563 A2 H => ?_
 (try dsimp only at H)
 revert H
 refine ok3 fun t565 t566 t567 A3 H => ?_
 (try dsimp only at H)
 revert H
 refine ok3 fun t569 t572 t573 A4 H => ?_
 (try dsimp only at H)
 revert H
 refine ok1 fun t574 A5 H => ?_
 simp only [Option.some.injEq, Prod.mk.injEq] at H
 obtain ⟨rfl, rfl, rfl⟩ := H
 go_enter Tryz.func23, Tryz.ntmps23
 try go_wp2_with ((with_reducible refine gw ?_); first | (refine bx 2 #[.string (⟨#[]⟩ : ByteArray), .bool false] 25 ?_; intro gb560 hg w6 hbox hb; have BK560 := am (hbox); have GW560 := am (sz hg : w.heap.size ≤ gb560); have GE560 := am (sz hg : w.heap.size ≤ gb560); replace HB := am (below_step bl hb); clear hb hbox hg) | (refine gl 8 Tryz.func8 #[.slice A0 l0.length c0] ?_; (with_reducible refine (spec_DrawFeed.calls k _ _ l0 t561 t562 t563 _ ?side1 ?side2 A2.out).mono ?_); (case side1 => exact cb HR0); (case side2 => exact HC0.out); rintro e w7 ⟨rfl, hb⟩; refine ⟨_, rfl, ?_⟩; replace BK560 := kb BK560 hb; replace HB := am (below_step bl hb); clear hb) | (refine bx 4 #[.string (⟨#[]⟩ : ByteArray), .bool false] 25 ?_; intro gb564 hg w8 hbox hb; have BK564 := am (hbox); have GW564 := am (sz hg : w.heap.size ≤ gb564); have GE564 := am (sz hg : w.heap.size ≤ gb564); replace HB := am (below_step bl hb); have NB560_564 := am (nl hg BK560 : gb560 ≠ gb564); have NB564_560 := am (ng hg BK560 : gb564 ≠ gb560); replace BK560 := kb BK560 hb; clear hb hbox hg; have hnb9 := NB564_560.out; have hnc9 := NB560_564.out; obtain ⟨z10_0, y10_0, z10_1, y10_1⟩ := cl2 BK564))
 have n0_ : Aside0 (((w8.setCell ⟨gb564, 0, none⟩ (.string t561)).setCell ⟨gb564, 1, none⟩ (.bool t562)).heap[gb560]? = some (.cells #[.string (⟨#[]⟩ : ByteArray), .bool false] 25 (0, 0))) := ⟨by (with_reducible repeat (first | refine blk_drewN ?_ _ | refine blk_drew ?_ | refine blk_alloc ?_ _)); refine blk_far ?_ NB560_564.out _; (with_reducible repeat (first | refine blk_drewN ?_ _ | refine blk_drew ?_ | refine blk_alloc ?_ _)); refine blk_far ?_ NB560_564.out _; (with_reducible repeat (first | refine blk_drewN ?_ _ | refine blk_drew ?_ | refine blk_alloc ?_ _)); exact BK560.out⟩
 have n1_ : Aside0 (((w8.setCell ⟨gb564, 0, none⟩ (.string t561)).setCell ⟨gb564, 1, none⟩ (.bool t562)).heap[gb564]? = some (.cells #[.string t561, .bool t562] 25 (0, 0))) := ⟨pt0 BK564⟩
 have n2_ : Aside0 (Below w.heap.size w ((w8.setCell ⟨gb564, 0, none⟩ (.string t561)).setCell ⟨gb564, 1, none⟩ (.bool t562))) := ⟨u23HB⟩
 (try clear BK560)
 (try clear BK564)
 (try clear HB)
 generalize ((w8.setCell ⟨gb564, 0, none⟩ (.string t561)).setCell ⟨gb564, 1, none⟩ (.bool t562)) = w11 at n0_ n1_ n2_ ⊢
 have BK560 := n0_
 have BK564 := n1_
 have HB := n2_
 clear n0_ n1_ n2_
 replace BK560 := am (blk_drew BK560.out)
 replace BK564 := am (blk_drew BK564.out)
 replace HB := am (below_drew1 HB.out)
 refine start_ (n := 8) (S := fun w' => w'.cell? ⟨gb564, 0, none⟩ = some (.string t561) ∧ w'.cell? ⟨gb564, 1, none⟩ = some (.bool t562)) (ds := []) ⟨br true [0, 8]⟩ (by kernel_rfl) rfl (by kernel_rfl) ⟨bc BK564, bc BK564⟩ (fun hHeld => ?_); refine with_tabW spec_DrawFeedAll.tab2 spec_DrawFeedAll.bits2 (fun HT_ HW_ => ?_)
 generalize w11.drew = w12 at BK560 BK564 HB hHeld ⊢
 refine pu 1 12 [0, 1, 1, 6] ?_
 refine pu 2 13 [0, 1, 2, 5] ?_
 refine tk 0 11 [3, 5] ?_
 refine og 3 14 [4, 4] Tryz.func29 #[.slice A0 l0.length c0] (fun K hK => ?_)
 with_reducible refine (spec_l1New.calls k _ _ l0 t565 t566 t567 w _ ?side1 ?side2 ?side3 A3.out).mono ?_
 (case side1 => exact u23HB)
 (case side2 => exact HR0.out)
 (case side3 => exact HC0.out)
 rintro e w13 ⟨g568, rfl, hi, hb, hb2⟩
 refine ⟨_, rfl, ?_⟩
 replace HB := am (hb)
 have HI568 := am (hi)
 have NB568_560 := am (IsS75.ne_blk hi (blk_below (g := gb560) (o := .cells #[.string (⟨#[]⟩ : ByteArray), .bool false] 25 (0, 0)) (bk BK560) hb2) (by decide))
 have NB560_568 := am (Ne.symm (IsS75.ne_blk hi (blk_below (g := gb560) (o := .cells #[.string (⟨#[]⟩ : ByteArray), .bool false] 25 (0, 0)) (bk BK560) hb2) (by decide)))
 replace BK560 := am (blk_below (g := gb560) (o := .cells #[.string (⟨#[]⟩ : ByteArray), .bool false] 25 (0, 0)) (bk BK560) hb2)
 have NB568_564 := am (IsS75.ne_blk hi (blk_below (g := gb564) (o := .cells #[.string t561, .bool t562] 25 (0, 0)) (bk BK564) hb2) (by decide))
 have NB564_568 := am (Ne.symm (IsS75.ne_blk hi (blk_below (g := gb564) (o := .cells #[.string t561, .bool t562] 25 (0, 0)) (bk BK564) hb2) (by decide)))
 replace BK564 := am (blk_below (g := gb564) (o := .cells #[.string t561, .bool t562] 25 (0, 0)) (bk BK564) hb2)
 clear hb hb2 hi
 refine hK.out _ _ ⟨bc BK564, bc BK564⟩ (fun hHeld => ?_)
 clear hK K
 refine nm 14 ?_
 refine og 4 15 [5, 3] Tryz.func40 #[.pointer (some ⟨g568, 0, none⟩)] (fun K hK => ?_)
 with_reducible refine (spec_l4DrawSizes.calls k g568 t565 t566 t567 t569 t572 t573 w _ ?side1 ?side2 A4.out).mono ?_
 (case side1 => exact u23HI568)
 (case side2 => exact u23HB)
 rintro e w14 ⟨v570, rfl, ho0, hi, hb, hk⟩
 refine ⟨_, rfl, ?_⟩
 replace BK560 := kp BK560 hk NB560_568
 replace BK564 := kp BK564 hk NB564_568
 have HO571 := am (Kd.R_lower ho0 (below_size u23HB))
 replace HB := am (hb)
 replace HI568 := am (hi)
 clear hb hk hi ho0
 obtain ⟨Ao15, co15, eo15⟩ := Kd.R_slice HO571.out
 (first | subst eo15 | (injection eo15 with f1_ f2_ f3_; have f4_ := f1_.symm; have f5_ := f3_.symm; clear f1_ f2_ f3_; subst f4_; subst f5_))
 refine hK.out _ _ ⟨bc BK564, bc BK564⟩ (fun hHeld => ?_)
 clear hK K
 refine nm 15 ?_
 refine og 5 16 [6, 2] Tryz.func22 #[.string t563, .slice Ao15 t569.length co15] (fun K hK => ?_)
 with_reducible refine (spec_Pieces.calls k t563 _ _ t569 t574 _ ?side1 ?side2 A5.out).mono ?_
 (case side1 => exact rc HO571)
 (case side2 => exact (Kd.R_reads' HO571.out).2.1)
 rintro e w16 ⟨v575, rfl, ho0, hb⟩
 refine ⟨_, rfl, ?_⟩
 replace HO571 := kr HO571 hb
 have HO576 := am (Kd.R_lower ho0 (below_size u23HB))
 replace BK560 := kb BK560 hb
 replace BK564 := kb BK564 hb
 replace HB := am (below_step u23HB hb)
 replace HI568 := am (IsS75.below u23HI568 hb)
 clear hb ho0
 refine hK.out _ _ ⟨bc BK564, bc BK564⟩ (fun hHeld => ?_)
 clear hK K
 refine nm 16 ?_
 refine one_ (i := 6) (N := none) #[true, true, true, true, true, true, true, false] rfl rfl (one_of HT_.out (by kernel_rfl)) (by decide) (fun K hK => ?_)
 have hs17 : w16.cell? ⟨gb560, 0, none⟩ = some (.string (⟨#[]⟩ : ByteArray)) := bc BK560
 have hfs17 := blk_frozen BK560.out 0
 have hns17_1 := NB564_560.out
 have hms17_1 := NB560_564.out
 have hs18 : w16.cell? ⟨gb560, 1, none⟩ = some (.bool false) := bc BK560
 have hfs18 := blk_frozen BK560.out 1
 have hns18_1 := NB564_560.out
 have hms18_1 := NB560_564.out
 refine skip_ (w1 := ?_) (by rfl) rfl ?_ ?_
 rotate_left
 ·go_simp
  rfl
 refine hK.out _ _ ⟨((cell_far (p := ⟨gb560, _, none⟩) NB564_560.out _).trans (((cell_far (p := ⟨gb560, _, none⟩) NB564_560.out _).trans (hHeld.1)))), ((cell_far (p := ⟨gb560, _, none⟩) NB564_560.out _).trans (((cell_far (p := ⟨gb560, _, none⟩) NB564_560.out _).trans (hHeld.2))))⟩ (fun hHeld => ?_)
 clear hK K
 refine pu 7 3 [8] ?_
 refine done_ (done_of HT_.out (by kernel_rfl)) ?_
 try go_wp2
 refine bodyPost_ret (results_ct rfl _ _ gb560 25 #[.string t561, .bool t562] (0, 0) _ rfl (pt0 BK560) Tryz.underlying25 rfl (by kernel_rfl)) rfl ?_
 exact ⟨_, rf, rj (Kd.R_types HO576.out BK560.out (by decide)) (fun _ hk => trivial), u23HB⟩

/-! ### laws_FnCut: function 5 -/
attribute [local go_sem high] eqA25
theorem u5HB {p : Prop} (h : p := by repeat (first | (with_reducible first | exact HB.out | apply below_alloc | apply pw_below_drewN | apply below_drew1) | exact HB.out)) : p := h
def laws_FnCut.l0 : Nat → List Int → ByteArray → List ByteArray → ByteArray → Int → Option (Bool)
 | 0, _, _, _, _, _ => none
 | k + 1, x0, x3, x5, x6, x7 => if x7 < (x5.length : Int) then (if 0 ≤ x7 then (if x6.size + (rdOf ByteArray.empty x5 x7).size ≤ 9223372036854775807 then (laws_FnCut.l0 k x0 x3 x5 (x6 ++ (rdOf ByteArray.empty x5 x7)) (wrap64 (x7 + 1))) else (none)) else (none)) else ((spec_DrawFeedAll.f k x0).bind fun bt605 => ((impl_FeedAll.f k bt605.1 bt605.2.1 bt605.2.2).bind fun bt611 => ((spec_FeedAll.f k bt605.1 bt605.2.1 bt605.2.2).bind fun bt617 => (if x6.toList = x3.toList then (if (bt611.1.toList == bt617.1.toList && (bt611.2.1 == bt617.2.1)) = true then (some ((bt611.2.2.length : Int) == (bt617.2.2.length : Int))) else (some false)) else (some false)))))
def laws_FnCut.f (k : Nat) (l0 : List Int) : Option (Bool) := (laws_big.f l0).bind fun t592 => (if t592 = true then (some true) else ((spec_DrawPieces.f k l0).bind fun bt593 => ((impl_Pieces.f k bt593.1 bt593.2).bind fun t597 => ((spec_Pieces.f k bt593.1 bt593.2).bind fun t600 => ((laws_sameTexts.f k t597 t600).bind fun t603 => (if t603 = true then (laws_FnCut.l0 k l0 bt593.1 t597 (⟨#[]⟩ : ByteArray) 0) else (some false)))))))
theorem laws_FnCut.mono_l : ∀ k, (∀ y0 y1 y2 y3 y4, LeO (laws_FnCut.l0 k y0 y1 y2 y3 y4) (laws_FnCut.l0 (k + 1) y0 y1 y2 y3 y4))
 | 0 => fun _ _ _ _ _ r h => by simp [laws_FnCut.l0] at h
 | k + 1 => by
  have ih0 := laws_FnCut.mono_l k
  ·intro y0 y1 y2 y3 y4
   unfold laws_FnCut.l0
   have m0 := @impl_FeedAll.mono
   have m1 := @impl_Pieces.mono
   have m2 := @laws_sameTexts.mono
   have m3 := @spec_DrawFeedAll.mono
   have m4 := @spec_DrawPieces.mono
   have m5 := @spec_FeedAll.mono
   have m6 := @spec_Pieces.mono
   exact mo
theorem laws_FnCut.mono : ∀ a0 k, LeO (laws_FnCut.f k a0) (laws_FnCut.f (k + 1) a0) := by
 intro a0 k
 have ih0 := laws_FnCut.mono_l k
 unfold laws_FnCut.f
 have m0 := @impl_FeedAll.mono
 have m1 := @impl_Pieces.mono
 have m2 := @laws_sameTexts.mono
 have m3 := @spec_DrawFeedAll.mono
 have m4 := @spec_DrawPieces.mono
 have m5 := @spec_FeedAll.mono
 have m6 := @spec_Pieces.mono
 exact mo
set_option maxHeartbeats 8000000 in
set_option maxRecDepth 100000 in
theorem laws_FnCut.calls (k : Nat) (A0 : Option Addr) (c0 : Nat) (l0 : List Int) (r : Bool) (w : World) (hGE : GLOBE w) (hGM : GLOBM w) (hGT : GLOBT w) (hr0 : Kd.C (Kd.int .u8) w A0 l0.length l0) (hc0 : l0.length ≤ c0) (ht_ : r = true) (h : laws_FnCut.f k l0 = some r) :
  Calls Tryz.prog 5 #[.slice A0 l0.length c0] w fun e w' => e = .returned (.bool r) ∧ Below w.heap.size w w' := by
 have hu25 := Tryz.underlying25
 have HR0 := am hr0
 have HC0 := am hc0
 clear hr0 hc0
 have HGE := am hGE
 clear hGE
 have HGM := am hGM
 clear hGM
 have HGT := am hGT
 clear hGT
 have HB := am (Below.refl w.heap.size w)
 unfold laws_FnCut.f at h
 have H := h
 clear h
 revert H
 refine ok1 fun t592 A2 H => ?_
 by_cases c3 : t592 = true
 ·subst c3
  rw [if_pos rfl] at H
  obtain rfl := Option.some.inj H
  go_enter Tryz.func5, Tryz.ntmps5
  go_wp2_with ((with_reducible refine gw ?_); first | (refine gl 15 Tryz.func7 #[.slice A0 l0.length c0] ?_; (with_reducible refine (laws_big.calls _ _ l0 true _ ?side1 ?side2 A2.out).mono ?_); (case side1 => exact cc HR0); (case side2 => exact HC0.out); rintro e w' ⟨rfl, ⟨nd, rfl⟩⟩; refine ⟨_, rfl, ?_⟩))
  go_ret
  exact ⟨rf, bl⟩
 replace c3 := Bool.eq_false_iff.mpr c3
 subst c3
 rw [if_neg (show ¬ (false = true) by decide)] at H
 revert H
 refine ok2 fun t593 t594 A4 H => ?_
 (try dsimp only at H)
 revert H
 refine ok1 fun t597 A5 H => ?_
 revert H
 refine ok1 fun t600 A6 H => ?_
 revert H
 refine ok1 fun t603 A7 H => ?_
 by_cases c8 : t603 = true
 rotate_left
 ·replace c8 := Bool.eq_false_iff.mpr c8
  subst c8
  rw [if_neg (show ¬ (false = true) by decide)] at H
  exact absurd (Option.some.inj H) (by rw [ht_]; decide)
 subst c8
 rw [if_pos rfl] at H
 have H' := am H
 clear H
 go_enter Tryz.func5, Tryz.ntmps5
 go_wp2_with ((with_reducible refine gw ?_); first | (refine gl 15 Tryz.func7 #[.slice A0 l0.length c0] ?_; (with_reducible refine (laws_big.calls _ _ l0 false _ ?side1 ?side2 A2.out).mono ?_); (case side1 => exact cc HR0); (case side2 => exact HC0.out); rintro e w' ⟨rfl, ⟨nd, rfl⟩⟩; refine ⟨_, rfl, ?_⟩) | (refine gl 18 Tryz.func11 #[.slice A0 l0.length c0] ?_; (with_reducible refine (spec_DrawPieces.calls k _ _ l0 t593 t594 _ ?side1 ?side2 A4.out).mono ?_); (case side1 => exact cc HR0); (case side2 => exact HC0.out); rintro e w9 ⟨v595, rfl, ho0, hb⟩; refine ⟨_, rfl, ?_⟩; have HO596 := am (Kd.R_lower ho0 (below_size bl)); replace HB := am (below_step bl hb); clear hb ho0; obtain ⟨Ao10, co10, eo10⟩ := Kd.R_slice HO596.out; subst eo10) | (refine gl 23 Tryz.func13 #[.string t593, .slice Ao10 t594.length co10] ?_; (with_reducible refine (impl_Pieces.calls k t593 _ _ t594 t597 _ ?side1 ?side2 A5.out).mono ?_); (case side1 => exact rc HO596); (case side2 => exact (Kd.R_reads' HO596.out).2.1); rintro e w11 ⟨v598, rfl, ho0, hb⟩; refine ⟨_, rfl, ?_⟩; replace HO596 := kr HO596 hb; have HO599 := am (Kd.R_lower ho0 (below_size bl)); replace HB := am (below_step bl hb); clear hb ho0) | (refine gl 27 Tryz.func22 #[.string t593, .slice Ao10 t594.length co10] ?_; (with_reducible refine (spec_Pieces.calls k t593 _ _ t594 t600 _ ?side1 ?side2 A6.out).mono ?_); (case side1 => exact rc HO596); (case side2 => exact (Kd.R_reads' HO596.out).2.1); rintro e w12 ⟨v601, rfl, ho0, hb⟩; refine ⟨_, rfl, ?_⟩; replace HO596 := kr HO596 hb; have HO602 := am (Kd.R_lower (Kd.R_new' ho0 (Kd.R_lt (ro HO599))) (below_size bl)); replace HO599 := am (Kd.R_elder' (ro HO599) (Kd.R_base ho0) hb); replace HB := am (below_step bl hb); clear hb ho0; obtain ⟨Ao13, co13, eo13⟩ := Kd.R_slice HO599.out; subst eo13; obtain ⟨Ao14, co14, eo14⟩ := Kd.R_slice HO602.out; subst eo14) | (refine gl 28 Tryz.func21 #[.slice Ao13 t597.length co13, .slice Ao14 t600.length co14] ?_; (with_reducible refine (laws_sameTexts.calls k _ _ t597 _ _ t600 true _ ?side1 ?side2 ?side3 ?side4 A7.out).mono ?_); (case side1 => exact rc HO599); (case side2 => exact (Kd.R_reads' HO599.out).2.1); (case side3 => exact rc HO602); (case side4 => exact (Kd.R_reads' HO602.out).2.1); rintro e w' ⟨rfl, ⟨nd, rfl⟩⟩; refine ⟨_, rfl, ?_⟩))
 (try simp only [Act.put, List.setIfInBounds_toArray, List.set_cons_zero, List.set_cons_succ])
 go_loopg [6, 7] k (fun kq v6 v7 w' => ∃ (x6_1 : ByteArray) (x7_1 : Int), v6 = .string x6_1 ∧ v7 = .int .i64 x7_1 ∧ Aside0 (laws_FnCut.l0 kq l0 t593 t597 x6_1 x7_1 = some r) ∧ Aside0 (kq ≤ k) ∧ Aside0 (Kd.R Kd.string 9 w' w.heap.size (fun _ => True) (.slice Ao13 t597.length co13) t597) ∧ Aside0 (Below w.heap.size w w'))
 case atStart => exact ⟨((⟨#[]⟩ : ByteArray)), (0), rs, rs, H', ⟨Nat.le_refl _⟩, ⟨by (with_reducible repeat (first | apply Kd.R_alloc | apply Kd.R_drewN | apply Kd.R_drew)); exact Kd.R_mono HO599.out (fun _ hk => trivial)⟩, ⟨u5HB⟩⟩
 case round =>
  clear H'
  try clear c1
  try clear c2
  try clear p2
  try clear c3
  try clear c5
  try clear c7
  try clear c8
  try clear c11
  try clear c13
  obtain ⟨x6_1, x7_1, rfl, rfl, HA, HK1, HO_5, HB⟩ := hrel
  cases gk with
  | zero => exact absurd HA.out (by simp [laws_FnCut.l0])
  | succ k1 =>
   have H := HA.out
   clear HA
   simp only [laws_FnCut.l0] at H
   by_cases c15 : x7_1 < (t597.length : Int)
   ·rw [if_pos c15] at H
    have c15b0 := decide_eq_true c15
    clear c15
    revert H
    refine ifn fun c16 H => ?_
    have c16b0 := decide_eq_true c16
    clear c16
    revert H
    refine ifn fun c17 H => ?_
    have c17b0 := eq_true c17
    have c17b1 := decide_eq_true c17
    try have c17b2 := eq_false (Nat.not_lt.2 c17)
    have H' := am H
    clear H
    have p604 : 0 ≤ (x7_1 : Int) := od
    have q604 : x7_1 < (t597.length : Int) := od
    obtain ⟨ad604, e604, hx604_0⟩ := Kd.at_string (Kd.R_reads' HO_5.out).2.2 x7_1 p604 q604
    cases e604
    replace p604 := eq_true p604
    replace q604 := eq_true q604
    go_wp2
    go_roundg k1
    case measure => have := HK1.out; omega
    case rel => exact ⟨(x6_1 ++ (rdOf ByteArray.empty t597 x7_1)), (wrap64 (x7_1 + 1)), rs, rs, H', ⟨by have := HK1.out; omega⟩, ⟨by (with_reducible repeat (first | apply Kd.R_alloc | apply Kd.R_drewN | apply Kd.R_drew)); exact HO_5.out⟩, ⟨u5HB⟩⟩
   rw [if_neg c15] at H
   have c15b0 := decide_eq_false c15
   clear c15
   revert H
   refine ok3 fun t605 t606 t607 A18 H => ?_
   (try dsimp only at H)
   revert H
   refine ok3 fun t611 t612 t613 A19 H => ?_
   (try dsimp only at H)
   revert H
   refine ok3 fun t617 t618 t619 A20 H => ?_
   (try dsimp only at H)
   by_cases c21 : x6_1.toList = t593.toList
   rotate_left
   ·rw [if_neg c21] at H
    have c21b0 : (x6_1.toList == t593.toList) = false := beq_eq_false_iff_ne.mpr c21
    have c21b1 : (x6_1.toList != t593.toList) = true := bne_iff_ne.mpr c21
    exact absurd (Option.some.inj H) (by rw [ht_]; decide)
   rw [if_pos c21] at H
   have c21b0 : (x6_1.toList == t593.toList) = true := beq_iff_eq.mpr c21
   have c21b1 : (x6_1.toList != t593.toList) = false := bne_eq_false_iff_eq.mpr c21
   clear c21
   by_cases c22 : (t611.toList == t617.toList && (t612 == t618)) = true
   rotate_left
   ·rw [if_neg c22] at H
    have c22b0 : (t611.toList == t617.toList && (t612 == t618)) = false := by simpa using c22
    (try (have c22b1 : decide (t611.toList = t617.toList && (t612 == t618)) = false := by simpa using c22))
    (try (have c22b2 : (t611.toList == t617.toList && (t612 == t618)) = false := by simpa using c22))
    (try (have c22b3 : ¬ (t611.toList = t617.toList && (t612 == t618)) := by simpa using c22))
    clear c22
    exact absurd (Option.some.inj H) (by rw [ht_]; decide)
   rw [if_pos c22] at H
   have c22b0 : (t611.toList == t617.toList && (t612 == t618)) = true := c22
   (try (have c22b1 : decide (t611.toList = t617.toList && (t612 == t618)) = true := by simpa using c22))
   (try (have c22b2 : (t611.toList == t617.toList && (t612 == t618)) = true := by simpa using c22))
   clear c22
   obtain rfl := Option.some.inj H
   go_wp2_with (first | ((with_reducible refine gw ?_); refine gl 44 Tryz.func23 #[.slice A0 l0.length c0] ?_; (with_reducible refine (spec_DrawFeedAll.calls k1 _ _ l0 t605 t606 t607 _ ?side1 ?side2 A18.out).mono ?_); (case side1 => exact cb HR0); (case side2 => exact HC0.out); rintro e w23 ⟨v608, rfl, ho0, hb⟩; refine ⟨_, rfl, ?_⟩; have HO609 := am (Kd.R_lower (Kd.R_new' ho0 (Kd.R_lt (ro HO_5))) (below_size bl)); replace HO_5 := am (Kd.R_elder' (ro HO_5) (Kd.R_base ho0) hb); replace HB := am (below_step bl hb); clear hb ho0) | ((with_reducible refine gate_dst (N := 8) rfl ?_); (try (refine gate_guard (by rfl) ?_; dsimp only)); refine box_event ?hg (N := 8) ?hd (cs := #[.string (⟨#[]⟩ : ByteArray), .bool false]) (t := 25) ?hr ?_; (case hd => rfl); (case hg => rfl); (case hr => first | (go_simp; done) | (go_simp; rfl)); intro gb610 hg w24 hbox hb; replace HO_5 := am (Kd.R_below (ro HO_5) hb); replace HO609 := am (Kd.R_below (ro HO609) hb); have BK610 := am (hbox); have GW610 := am (sz hg : w.heap.size ≤ gb610); have GE610 := am (sz hg : w.heap.size ≤ gb610); replace HB := am (below_step bl hb); clear hb hbox hg; obtain ⟨z25_0, y25_0, z25_1, y25_1⟩ := cl2 BK610; obtain ⟨Ao26, co26, eo26⟩ := Kd.R_slice HO609.out; subst eo26) | ((with_reducible refine gw ?_); refine gl 50 Tryz.func12 #[.agg #[.string t605, .bool t606], .slice Ao26 t607.length co26] ?_; (with_reducible refine (impl_FeedAll.calls k1 t605 t606 _ _ t607 t611 t612 t613 _ ?side1 ?side2 ?side3 ?side4 ?side5 A19.out).mono ?_); (case side1 => exact GLOBE.below HGE.out bl); (case side2 => exact GLOBM.below HGM.out bl); (case side3 => exact GLOBT.below HGT.out bl); (case side4 => refine (Kd.R_reads' (e := 9) (base := w.heap.size) (ok := fun k_ => (True ∧ some k_ ≠ (.slice Ao13 t597.length co13 : Value).ownBlock)) (n := t607.length) (c := co26) ?_).2.2; exact (rj (Kd.R_types HO609.out BK610.out (by decide)) (fun _ h_ => h_.1))); (case side5 => exact (Kd.R_reads' HO609.out).2.1); rintro e w27 ⟨v614, rfl, ho0, hb⟩; refine ⟨_, rfl, ?_⟩; have HO615 := am (Kd.N_lower (Kd.N_mono (ok' := fun k_ => some k_ ≠ (.slice Ao13 t597.length co13 : Value).ownBlock ∧ some k_ ≠ (.slice Ao26 t607.length co26 : Value).ownBlock ∧ k_ ≠ gb610) (Kd.S_N (Kd.S_bound ho0)) (fun k_ hk_ => ⟨(Kd.fresh' (Kd.R_lt (rj (Kd.R_types HO_5.out BK610.out (by decide)) (fun _ h_ => h_.1))) k_ hk_.2.1), (Kd.fresh' (Kd.R_lt (rj (Kd.R_types HO609.out BK610.out (by decide)) (fun _ h_ => h_.1))) k_ hk_.2.1), (Kd.freshB (g := gb610) (o := .cells #[.string t605, .bool t606] 25 (0, 0)) (pt0 BK610) k_ hk_.2.1)⟩)) (below_size bl)); replace HO_5 := am (Kd.R_below (rj (Kd.R_types HO_5.out BK610.out (by decide)) (fun _ h_ => h_.1)) hb); replace HO609 := am (Kd.R_below (rj (Kd.R_types HO609.out BK610.out (by decide)) (fun _ h_ => h_.1)) hb); replace BK610 := am (blk_below (g := gb610) (o := .cells #[.string t605, .bool t606] 25 (0, 0)) (pt0 BK610) hb); replace HB := am (below_step bl hb); clear hb ho0) | ((with_reducible refine gate_dst (N := 10) rfl ?_); (try (refine gate_guard (by rfl) ?_; dsimp only)); refine box_event ?hg (N := 10) ?hd (cs := #[.string (⟨#[]⟩ : ByteArray), .bool false]) (t := 25) ?hr ?_; (case hd => rfl); (case hg => rfl); (case hr => first | (go_simp; done) | (go_simp; rfl)); intro gb616 hg w28 hbox hb; have n0_ := am (Kd.R_below (ro HO_5) hb); have n1_ := am (Kd.R_below (ro HO609) hb); have n2_ := am (Kd.N_below (Kd.N_elderB (by (with_reducible repeat (first | apply Kd.N_alloc | apply Kd.N_drewN | apply Kd.N_drew)); exact HO615.out) gb616 (Nat.le_of_eq hg.symm)) hb); have n3_ := kb BK610 hb; have n4_ := am (below_step bl hb); have n5_ := am (hbox); have n6_ := am (sz hg : w.heap.size ≤ gb616); have n7_ := am (sz hg : w.heap.size ≤ gb616); have n8_ := am (nl hg BK610 : gb610 ≠ gb616); have n9_ := am (ng hg BK610 : gb616 ≠ gb610); clear HO_5; clear HO609; clear HO615; clear BK610; clear HB; have HO_5 := n0_; have HO609 := n1_; have HO615 := n2_; have BK610 := n3_; have HB := n4_; have BK616 := n5_; have GW616 := n6_; have GE616 := n7_; have NB610_616 := n8_; have NB616_610 := n9_; clear n0_ n1_ n2_ n3_ n4_ n5_ n6_ n7_ n8_ n9_; clear hb hbox hg; have hnb29 := NB616_610.out; have hnc29 := NB610_616.out; obtain ⟨z30_0, y30_0, z30_1, y30_1⟩ := cl2 BK616; obtain ⟨z31_0, y31_0, z31_1, y31_1⟩ := cl2 BK610) | ((with_reducible refine gw ?_); refine gl 56 Tryz.func24 #[.agg #[.string t605, .bool t606], .slice Ao26 t607.length co26] ?_; (with_reducible refine (spec_FeedAll.calls k1 t605 t606 _ _ t607 t617 t618 t619 _ ?side1 ?side2 A20.out).mono ?_); (case side1 => refine (Kd.R_reads' (e := 9) (base := w.heap.size) (ok := fun k_ => (True ∧ some k_ ≠ (.slice Ao13 t597.length co13 : Value).ownBlock)) (n := t607.length) (c := co26) ?_).2.2; exact (rj (Kd.R_types HO609.out BK616.out (by decide)) (fun _ h_ => h_.1))); (case side2 => exact (Kd.R_reads' HO609.out).2.1); rintro e w32 ⟨v620, rfl, ho0, hb⟩; refine ⟨_, rfl, ?_⟩; have n0_ := am (Kd.R_below (rj (Kd.R_types HO_5.out BK616.out (by decide)) (fun _ h_ => h_.1)) hb); have n1_ := am (Kd.R_below (rj (Kd.R_types HO609.out BK616.out (by decide)) (fun _ h_ => h_.1)) hb); have n2_ := am (Kd.N_elder' (by (with_reducible repeat (first | apply Kd.N_alloc | apply Kd.N_drewN | apply Kd.N_drew)); exact (Kd.N_mono (Kd.N_far (p := ⟨gb616, 1, none⟩) (Kd.N_far (p := ⟨gb616, 0, none⟩) (Kd.N_mono HO615.out (fun k_ hk => (⟨hk, hk.2⟩ : _ ∧ k_ ≠ gb616))) (fun _ hk => hk.2) (.string t611)) (fun _ hk => hk.2) (.bool t612)) (fun _ h_ => h_.1))) (Kd.N_base ho0) hb); have n3_ := am (Kd.N_lower (Kd.N_mono (ok' := fun k_ => some k_ ≠ (.slice Ao13 t597.length co13 : Value).ownBlock ∧ some k_ ≠ (.slice Ao26 t607.length co26 : Value).ownBlock ∧ some k_ ≠ (v614 : Value).ownBlock ∧ k_ ≠ gb610 ∧ k_ ≠ gb616) ho0 (fun k_ hk_ => ⟨(Kd.fresh' (Kd.R_lt (rj (Kd.R_types HO_5.out BK616.out (by decide)) (fun _ h_ => h_.1))) k_ hk_), (Kd.fresh' (Kd.R_lt (rj (Kd.R_types HO609.out BK616.out (by decide)) (fun _ h_ => h_.1))) k_ hk_), (Kd.fresh' (Kd.N_lt (by (with_reducible repeat (first | apply Kd.N_alloc | apply Kd.N_drewN | apply Kd.N_drew)); exact (Kd.N_mono (Kd.N_far (p := ⟨gb616, 1, none⟩) (Kd.N_far (p := ⟨gb616, 0, none⟩) (Kd.N_mono HO615.out (fun k_ hk => (⟨hk, hk.2⟩ : _ ∧ k_ ≠ gb616))) (fun _ hk => hk.2) (.string t611)) (fun _ hk => hk.2) (.bool t612)) (fun _ h_ => h_.1)))) k_ hk_), (Kd.freshB (g := gb610) (o := .cells #[.string t605, .bool t606] 25 (0, 0)) (bg1 BK610 NB610_616) k_ hk_), (Kd.freshB (g := gb616) (o := .cells #[.string t611, .bool t612] 25 (0, 0)) (pt0 BK616) k_ hk_)⟩)) (below_size bl)); have n4_ := kg1 BK610 NB610_616 hb; have n5_ := am (blk_below (g := gb616) (o := .cells #[.string t611, .bool t612] 25 (0, 0)) (pt0 BK616) hb); have n6_ := am (below_step bl hb); clear HO_5; clear HO609; clear HO615; clear BK610; clear BK616; clear HB; have HO_5 := n0_; have HO609 := n1_; have HO615 := n2_; have HO621 := n3_; have BK610 := n4_; have BK616 := n5_; have HB := n6_; clear n0_ n1_ n2_ n3_ n4_ n5_ n6_; clear hb ho0) | ((with_reducible refine gate_dst (N := 12) rfl ?_); (try (refine gate_guard (by rfl) ?_; dsimp only)); refine box_event ?hg (N := 12) ?hd (cs := #[.string (⟨#[]⟩ : ByteArray), .bool false]) (t := 25) ?hr ?_; (case hd => rfl); (case hg => rfl); (case hr => first | (go_simp; done) | (go_simp; rfl)); intro gb622 hg w33 hbox hb; have n0_ := am (Kd.R_below (ro HO_5) hb); have n1_ := am (Kd.R_below (ro HO609) hb); have n2_ := am (Kd.N_below (Kd.N_elderB (by (with_reducible repeat (first | apply Kd.N_alloc | apply Kd.N_drewN | apply Kd.N_drew)); exact HO615.out) gb622 (Nat.le_of_eq hg.symm)) hb); have n3_ := am (Kd.N_below (Kd.N_elderB (by (with_reducible repeat (first | apply Kd.N_alloc | apply Kd.N_drewN | apply Kd.N_drew)); exact HO621.out) gb622 (Nat.le_of_eq hg.symm)) hb); have n4_ := kb BK610 hb; have n5_ := kb BK616 hb; have n6_ := am (below_step bl hb); have n7_ := am (hbox); have n8_ := am (sz hg : w.heap.size ≤ gb622); have n9_ := am (sz hg : w.heap.size ≤ gb622); have n10_ := am (nl hg BK610 : gb610 ≠ gb622); have n11_ := am (ng hg BK610 : gb622 ≠ gb610); have n12_ := am (nl hg BK616 : gb616 ≠ gb622); have n13_ := am (ng hg BK616 : gb622 ≠ gb616); clear HO_5; clear HO609; clear HO615; clear HO621; clear BK610; clear BK616; clear HB; have HO_5 := n0_; have HO609 := n1_; have HO615 := n2_; have HO621 := n3_; have BK610 := n4_; have BK616 := n5_; have HB := n6_; have BK622 := n7_; have GW622 := n8_; have GE622 := n9_; have NB610_622 := n10_; have NB622_610 := n11_; have NB616_622 := n12_; have NB622_616 := n13_; clear n0_ n1_ n2_ n3_ n4_ n5_ n6_ n7_ n8_ n9_ n10_ n11_ n12_ n13_; clear hb hbox hg; have hnb34 := NB622_610.out; have hnc34 := NB610_622.out; have hnb35 := NB622_616.out; have hnc35 := NB616_622.out; obtain ⟨z36_0, y36_0, z36_1, y36_1⟩ := cl2 BK622; obtain ⟨z37_0, y37_0, z37_1, y37_1⟩ := cl2 BK616; obtain ⟨Ao38, co38, eo38⟩ := Kd.N_slice HO615.out; subst eo38; obtain ⟨Ao39, co39, eo39⟩ := Kd.N_slice HO621.out; subst eo39))
   go_ret
   exact ⟨rf, bl⟩

end Go.Proofs.YtjckfmipegemcaaGreatDoor.All
