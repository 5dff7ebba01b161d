-- Written by a program of this session (wip/tools/hprint.py) out of the translation. Lean checks it.
import Derived.Test.YtnmanegjgidgcaaGreatDoorAllx0
import Derived.Test.YtnmanegjgidgcaaGreatDoorAllx1
import Derived.Test.YtnmanegjgidgcaaGreatDoorAllx6
import Derived.Test.YtnmanegjgidgcaaGreatDoorAllx10
import Derived.Test.YtnmanegjgidgcaaGreatDoorAllx11
import Derived.Test.YtnmanegjgidgcaaGreatDoorAllx12
namespace Go.Proofs.YtnmanegjgidgcaaGreatDoor.All
open Go.RowKit Go.Proofs.YtnmanegjgidgcaaGreatDoorW.PrintWords Go.Proofs.YtnmanegjgidgcaaGreatDoorW.PrintLast Go.Proofs.YtnmanegjgidgcaaGreatDoorW.PrintMore
attribute [local go_sem] max2_int min2_int max_two min_two max_three min_three max_four min_four   -- for this text's walks alone
set_option linter.unusedVariables false
set_option linter.unusedSimpArgs false

/-! ### laws_FnRequests: function 4 -/
theorem u4HB {p : Prop} (h : p := by repeat (first | (with_reducible first | exact HB.out | apply below_alloc | apply pw_below_drewN | apply below_drew1 | refine below_set ?_ GE669.out | refine below_set ?_ GE680.out) | exact HB.out)) : p := h
mutual
def laws_FnRequests.j0 : Nat → List Int → ByteArray → Bool → Int → ByteArray → List (S100) → ByteArray → Option (Bool)
 | 0, _, _, _, _, _, _, _ => none
 | k + 1, x0, x4, x28, x670000, x670001, x670002, x670003 => if x28 = true then (some false) else (if x4.toList = ([] : List UInt8) then (laws_FnRequests.j1 k x0) else ((impl_ReqRead.f k x4).bind fun bt673 => (if bt673.2.2.2.2 = true then (if bt673.1 = x670000 then (if bt673.2.1.toList = x670001.toList then (if bt673.2.2.2.1.toList = x670003.toList then ((laws_sameFields.f k bt673.2.2.1 x670002).bind fun t681 => (if t681 = true then (laws_FnRequests.j1 k x0) else (some false))) else (some false)) else (some false)) else (some false)) else (some false))))
def laws_FnRequests.j1 : Nat → List Int → Option (Bool)
 | 0, _ => none
 | k + 1, x0 => (spec_DrawReqRead.f k x0).bind fun t682 => ((impl_ReqRead.f k t682).bind fun bt683 => ((spec_ReqRead.f k t682).bind fun bt691 => (if (bt683.2.2.2.2 == bt691.2.2.2.2) = true then (if bt683.2.2.2.2 = true then ((impl_ReqText.f k bt683.1 bt683.2.1 bt683.2.2.1 bt683.2.2.2.1).bind fun t699 => (if t699.toList = t682.toList then ((impl_ReqOk.f k bt683.1 bt683.2.1 bt683.2.2.1 bt683.2.2.2.1).bind fun t700 => (some t700)) else (some false))) else (if bt683.1 = 0 then (some true) else (some false))) else (some false))))
end
def laws_FnRequests.f (k : Nat) (l0 : List Int) : Option (Bool) := (laws_big.f l0).bind fun t662 => (if t662 = true then (some true) else ((spec_DrawReqText.f k l0).bind fun bt663 => ((impl_ReqText.f k bt663.1 bt663.2.1 bt663.2.2.1 bt663.2.2.2).bind fun t670 => ((spec_ReqText.f k bt663.1 bt663.2.1 bt663.2.2.1 bt663.2.2.2).bind fun t671 => (if t670.toList = t671.toList then ((impl_ReqOk.f k bt663.1 bt663.2.1 bt663.2.2.1 bt663.2.2.2).bind fun t672 => (laws_FnRequests.j0 k l0 t670 ((t670.toList != ([] : List UInt8)) != t672) bt663.1 bt663.2.1 bt663.2.2.1 bt663.2.2.2)) else (laws_FnRequests.j0 k l0 t670 true bt663.1 bt663.2.1 bt663.2.2.1 bt663.2.2.2))))))
theorem laws_FnRequests.mono_l : ∀ k, (∀ y0 y1 y2 y3 y4 y5 y6, LeO (laws_FnRequests.j0 k y0 y1 y2 y3 y4 y5 y6) (laws_FnRequests.j0 (k + 1) y0 y1 y2 y3 y4 y5 y6)) ∧ (∀ y0, LeO (laws_FnRequests.j1 k y0) (laws_FnRequests.j1 (k + 1) y0))
 | 0 => ⟨fun _ _ _ _ _ _ _ r h => by simp [laws_FnRequests.j0] at h, fun _ r h => by simp [laws_FnRequests.j1] at h⟩
 | k + 1 => by
  obtain ⟨ih0, ih1⟩ := laws_FnRequests.mono_l k
  refine ⟨?_, ?_⟩
  ·intro y0 y1 y2 y3 y4 y5 y6
   unfold laws_FnRequests.j0
   have m0 := @impl_ReqOk.mono
   have m1 := @impl_ReqRead.mono
   have m2 := @impl_ReqText.mono
   have m3 := @laws_sameFields.mono
   have m4 := @spec_DrawReqRead.mono
   have m5 := @spec_DrawReqText.mono
   have m6 := @spec_ReqRead.mono
   have m7 := @spec_ReqText.mono
   exact mo
  ·intro y0
   unfold laws_FnRequests.j1
   have m0 := @impl_ReqOk.mono
   have m1 := @impl_ReqRead.mono
   have m2 := @impl_ReqText.mono
   have m3 := @laws_sameFields.mono
   have m4 := @spec_DrawReqRead.mono
   have m5 := @spec_DrawReqText.mono
   have m6 := @spec_ReqRead.mono
   have m7 := @spec_ReqText.mono
   exact mo
theorem laws_FnRequests.mono : ∀ a0 k, LeO (laws_FnRequests.f k a0) (laws_FnRequests.f (k + 1) a0) := by
 intro a0 k
 obtain ⟨ih0, ih1⟩ := laws_FnRequests.mono_l k
 unfold laws_FnRequests.f
 have m0 := @impl_ReqOk.mono
 have m1 := @impl_ReqRead.mono
 have m2 := @impl_ReqText.mono
 have m3 := @laws_sameFields.mono
 have m4 := @spec_DrawReqRead.mono
 have m5 := @spec_DrawReqText.mono
 have m6 := @spec_ReqRead.mono
 have m7 := @spec_ReqText.mono
 exact mo
set_option maxHeartbeats 8000000 in
set_option maxRecDepth 100000 in
theorem laws_FnRequests.calls (k : Nat) (A0 : Option Addr) (c0 : Nat) (l0 : List Int) (r : Bool) (w : World) (hGM : GLOBM w) (hGT : GLOBT w) (hr0 : Kd.C (Kd.int .u8) w A0 l0.length l0) (hc0 : l0.length ≤ c0) (ht_ : r = true) (h : laws_FnRequests.f k l0 = some r) :
  Calls Tryz.prog 4 #[.slice A0 l0.length c0] w fun e w' => e = .returned (.bool r) ∧ Below w.heap.size w w' := by
 have hu40 := Tryz.underlying40
 have HR0 := am hr0
 have HC0 := am hc0
 clear hr0 hc0
 have HGM := am hGM
 clear hGM
 have HGT := am hGT
 clear hGT
 have HB := am (Below.refl w.heap.size w)
 unfold laws_FnRequests.f at h
 have H := h
 clear h
 revert H
 refine ok1 fun t662 A2 H => ?_
 by_cases c3 : t662 = true
 ·subst c3
  rw [if_pos rfl] at H
  obtain rfl := Option.some.inj H
  go_enter Tryz.func4, Tryz.ntmps4
  go_wp2_with (first | (refine gl 13 Tryz.func12 #[.slice A0 l0.length c0] ?_; (with_reducible refine (laws_big.calls _ _ l0 true _ ?side1 ?side2 A2.out).mono ?_); (case side1 => exact cc HR0); (case side2 => exact HC0.out); rintro e w' ⟨rfl, ⟨nd, rfl⟩⟩; refine ⟨_, rfl, ?_⟩))
  go_ret
  exact ⟨rf, bl⟩
 replace c3 := Bool.eq_false_iff.mpr c3
 subst c3
 rw [if_neg (show ¬ (false = true) by decide)] at H
 revert H
 refine ok4 fun t663 t664 t665 t668 A4 H => ?_
 (try dsimp only at H)
 revert H
 refine ok1 fun t670 A5 H => ?_
 have HC6 := am H
 clear H
 go_enter Tryz.func4, Tryz.ntmps4
 go_upto_region 5 with (first | (refine gl 13 Tryz.func12 #[.slice A0 l0.length c0] ?_; (with_reducible refine (laws_big.calls _ _ l0 false _ ?side1 ?side2 A2.out).mono ?_); (case side1 => exact cc HR0); (case side2 => exact HC0.out); rintro e w' ⟨rfl, ⟨nd, rfl⟩⟩; refine ⟨_, rfl, ?_⟩) | (refine gl 15 Tryz.func20 #[.slice A0 l0.length c0] ?_; (with_reducible refine (spec_DrawReqText.calls k _ _ l0 t663 t664 t665 t668 _ ?side1 ?side2 A4.out).mono ?_); (case side1 => exact cc HR0); (case side2 => exact HC0.out); rintro e w7 ⟨v666, rfl, ho0, hb⟩; refine ⟨_, rfl, ?_⟩; have HO667 := am (Kd.R_lower ho0 (below_size bl)); replace HB := am (below_step bl hb); clear hb ho0) | (refine bx 3 #[.int .i64 0, .string (⟨#[]⟩ : ByteArray), .slice none 0 0, .string (⟨#[]⟩ : ByteArray)] 40 ?_; intro gb669 hg w8 hbox hb; replace HO667 := am (Kd.R_below (ro HO667) hb); have BK669 := am (hbox); have GW669 := am (sz hg : w.heap.size ≤ gb669); have GE669 := am (sz hg : w.heap.size ≤ gb669); replace HB := am (below_step bl hb); clear hb hbox hg; obtain ⟨z9_0, y9_0, z9_1, y9_1, z9_2, y9_2, z9_3, y9_3⟩ := cl4 BK669; obtain ⟨Ao10, co10, eo10⟩ := Kd.R_slice HO667.out; subst eo10) | (refine gl 17 Tryz.func19 #[.agg #[.int .i64 t663, .string t664, .slice Ao10 t665.length co10, .string t668]] ?_; (with_reducible refine (impl_ReqText.calls k t663 t664 _ _ t665 t668 t670 _ ?side1 ?side2 ?side3 A5.out).mono ?_); (case side1 => exact GLOBT.below HGT.out bl); (case side2 => refine (Kd.R_reads' (e := 100) (base := w.heap.size) (ok := fun k_ => True) (n := t665.length) (c := co10) ?_).2.2; exact (by (with_reducible repeat (first | apply Kd.R_alloc | apply Kd.R_drewN | apply Kd.R_drew)); exact (Kd.R_mono (Kd.R_far (p := ⟨gb669, 3, none⟩) (Kd.R_far (p := ⟨gb669, 2, none⟩) (Kd.R_far (p := ⟨gb669, 1, none⟩) (Kd.R_far (p := ⟨gb669, 0, none⟩) (Kd.R_types HO667.out BK669.out (by decide)) (fun _ hk => hk.2) (.int .i64 t663)) (fun _ hk => hk.2) (.string t664)) (fun _ hk => hk.2) (.slice Ao10 t665.length co10)) (fun _ hk => hk.2) (.string t668)) (fun _ h_ => h_.1)))); (case side3 => exact (Kd.R_reads' HO667.out).2.1); rintro e w11 ⟨rfl, hb⟩; refine ⟨_, rfl, ?_⟩; have n0_ := am (Kd.R_below (by (with_reducible repeat (first | apply Kd.R_alloc | apply Kd.R_drewN | apply Kd.R_drew)); exact (Kd.R_mono (Kd.R_far (p := ⟨gb669, 3, none⟩) (Kd.R_far (p := ⟨gb669, 2, none⟩) (Kd.R_far (p := ⟨gb669, 1, none⟩) (Kd.R_far (p := ⟨gb669, 0, none⟩) (Kd.R_types HO667.out BK669.out (by decide)) (fun _ hk => hk.2) (.int .i64 t663)) (fun _ hk => hk.2) (.string t664)) (fun _ hk => hk.2) (.slice Ao10 t665.length co10)) (fun _ hk => hk.2) (.string t668)) (fun _ h_ => h_.1))) hb); have n1_ := am (blk_below (g := gb669) (o := .cells #[.int .i64 t663, .string t664, .slice Ao10 t665.length co10, .string t668] 40 (0, 0)) (pt0 BK669) hb); have n2_ := am (below_step bl hb); clear HO667; clear BK669; clear HB; have HO667 := n0_; have BK669 := n1_; have HB := n2_; clear n0_ n1_ n2_; clear hb))
 (try simp only [Act.put, List.setIfInBounds_toArray, List.set_cons_zero, List.set_cons_succ])
 go_cut [28] (fun v28 wc => ∃ (kq : Nat) (x28_5 : Bool), v28 = .bool x28_5 ∧ Aside0 (laws_FnRequests.j0 kq l0 t670 x28_5 t663 t664 t665 t668 = some r) ∧ Aside0 (kq ≤ k) ∧ Aside0 (Kd.R k100 100 wc w.heap.size (fun _ => True) (.slice Ao10 t665.length co10) t665) ∧ Aside0 (wc.heap[gb669]? = some (.cells #[.int .i64 t663, .string t664, (.slice Ao10 t665.length co10), .string t668] 40 (0, 0))) ∧ Aside0 (Below w.heap.size w wc))
 case first =>
  have H := HC6.out
  clear HC6
  revert H
  refine ok1 fun t671 A12 H => ?_
  by_cases c13 : t670.toList = t671.toList
  rotate_left
  ·rw [if_neg c13] at H
   have c13b0 : (t670.toList == t671.toList) = false := beq_eq_false_iff_ne.mpr c13
   have c13b1 : (t670.toList != t671.toList) = true := bne_iff_ne.mpr c13
   (first | rw [c13b0] | (simp only [i64_w, i32_w]; rw [c13b0]) | skip)
   cases k with
   | zero => exact absurd H (by simp [laws_FnRequests.j0])
   | succ k_ => simp only [laws_FnRequests.j0, if_true] at H; exact absurd (Option.some.inj H) (by rw [ht_]; decide)
  rw [if_pos c13] at H
  have c13b0 : (t670.toList == t671.toList) = true := beq_iff_eq.mpr c13
  have c13b1 : (t670.toList != t671.toList) = false := bne_eq_false_iff_eq.mpr c13
  clear c13
  (first | rw [c13b0] | (simp only [i64_w, i32_w]; rw [c13b0]) | skip)
  revert H
  refine ok1 fun t672 A14 H => ?_
  have H' := am H
  clear H
  obtain ⟨z15_0, y15_0, z15_1, y15_1, z15_2, y15_2, z15_3, y15_3⟩ := cl4 BK669
  go_wp2_with (first | (refine gl 20 Tryz.func21 #[.agg #[.int .i64 t663, .string t664, .slice Ao10 t665.length co10, .string t668]] ?_; (with_reducible refine (spec_ReqText.calls k t663 t664 _ _ t665 t668 t671 _ ?side1 ?side2 A12.out).mono ?_); (case side1 => exact rc HO667); (case side2 => exact (Kd.R_reads' HO667.out).2.1); rintro e w16 ⟨rfl, hb⟩; refine ⟨_, rfl, ?_⟩; replace HO667 := kr HO667 hb; replace BK669 := kb BK669 hb; replace HB := am (below_step bl hb); clear hb; obtain ⟨z17_0, y17_0, z17_1, y17_1, z17_2, y17_2, z17_3, y17_3⟩ := cl4 BK669) | (go_at_call 22; (with_reducible refine (impl_ReqOk.calls k t663 t664 _ _ t665 t668 t672 _ ?side1 ?side2 A14.out).mono ?_); (case side1 => exact rc HO667); (case side2 => exact (Kd.R_reads' HO667.out).2.1); rintro e w18 ⟨rfl, hb⟩; replace HO667 := kr HO667 hb; replace BK669 := kb BK669 hb; replace HB := am (below_step bl hb); clear hb))
  go_meet
  case rel => exact ⟨_, (((t670.toList != ([] : List UInt8)) != t672)), rs (by first | rfl | (simp; done) | (simp; cases h_ : t670.toList <;> cases t672 <;> first | rfl | simp)), H', ⟨by first | omega | exact Nat.le_refl _⟩, ⟨by (with_reducible repeat (first | apply Kd.R_alloc | apply Kd.R_drewN | apply Kd.R_drew)); exact HO667.out⟩, ⟨by (with_reducible repeat (first | refine blk_drewN ?_ _ | refine blk_drew ?_ | refine blk_alloc ?_ _)); exact BK669.out⟩, ⟨u4HB⟩⟩
 case rest =>
  clear HC6
  try clear c1
  try clear c2
  try clear p2
  try clear c3
  try clear c4
  try clear c12
  try clear c13
  try clear c13b0
  try clear c13b1
  try clear z15_0
  try clear z15_1
  try clear z15_2
  try clear z15_3
  try clear z17_0
  try clear z17_1
  try clear z17_2
  try clear z17_3
  try clear z9_0
  try clear z9_1
  try clear z9_2
  try clear z9_3
  try clear y15_0
  try clear y15_1
  try clear y15_2
  try clear y15_3
  try clear y17_0
  try clear y17_1
  try clear y17_2
  try clear y17_3
  try clear y9_0
  try clear y9_1
  try clear y9_2
  try clear y9_3
  obtain ⟨kq, x28_5, rfl, HA, HJ5, HO_670002, BK669, HB⟩ := hcut
  cases kq with
  | zero => exact absurd HA.out (by simp [laws_FnRequests.j0])
  | succ kj5 =>
   have H := HA.out
   clear HA
   simp only [laws_FnRequests.j0] at H
   by_cases c19 : x28_5 = true
   ·subst c19
    rw [if_pos rfl] at H
    exact absurd (Option.some.inj H) (by rw [ht_]; decide)
   replace c19 := Bool.eq_false_iff.mpr c19
   subst c19
   rw [if_neg (show ¬ (false = true) by decide)] at H
   have HC20 := am H
   clear H
   go_upto_if 30 with (fail)
   go_cut [] (fun wc => ∃ (kq : Nat), Aside0 (laws_FnRequests.j1 kq l0 = some r) ∧ Aside0 (kq ≤ kj5) ∧ Aside0 (Kd.R k100 100 wc w.heap.size (fun _ => True) (.slice Ao10 t665.length co10) t665) ∧ Aside0 (wc.heap[gb669]? = some (.cells #[.int .i64 t663, .string t664, (.slice Ao10 t665.length co10), .string t668] 40 (0, 0))) ∧ Aside0 (Below w.heap.size w wc))
   case first =>
    have H := HC20.out
    clear HC20
    by_cases c21 : t670.toList = ([] : List UInt8)
    ·rw [if_pos c21] at H
     have c21b0 : (t670.toList == ([] : List UInt8)) = true := beq_iff_eq.mpr c21
     have c21b2 : t670.toList.isEmpty = true := by rw [c21]; rfl
     have c21b1 : (t670.toList != ([] : List UInt8)) = false := bne_eq_false_iff_eq.mpr c21
     clear c21
     (first | rw [c21b0] | (simp only [i64_w, i32_w]; rw [c21b0]) | rw [c21b2] | skip)
     have H' := am H
     clear H
     go_wp2
     go_meet
     case rel => exact ⟨_, H', ⟨by have := HJ5.out; first | omega | exact Nat.le_refl _⟩, ⟨by (with_reducible repeat (first | apply Kd.R_alloc | apply Kd.R_drewN | apply Kd.R_drew)); exact HO_670002.out⟩, ⟨by (with_reducible repeat (first | refine blk_drewN ?_ _ | refine blk_drew ?_ | refine blk_alloc ?_ _)); exact BK669.out⟩, ⟨u4HB⟩⟩
    rw [if_neg c21] at H
    have c21b0 : (t670.toList == ([] : List UInt8)) = false := beq_eq_false_iff_ne.mpr c21
    have c21b2 : t670.toList.isEmpty = false := by cases h_ : t670.toList with | nil => exact absurd h_ c21 | cons _ _ => rfl
    have c21b1 : (t670.toList != ([] : List UInt8)) = true := bne_iff_ne.mpr c21
    (first | rw [c21b0] | (simp only [i64_w, i32_w]; rw [c21b0]) | rw [c21b2] | skip)
    revert H
    refine ok5 fun t673 t674 t675 t678 t679 A22 H => ?_
    (try dsimp only at H)
    by_cases c23 : t679 = true
    rotate_left
    ·replace c23 := Bool.eq_false_iff.mpr c23
     subst c23
     rw [if_neg (show ¬ (false = true) by decide)] at H
     exact absurd (Option.some.inj H) (by rw [ht_]; decide)
    subst c23
    rw [if_pos rfl] at H
    by_cases c24 : t673 = t663
    rotate_left
    ·rw [if_neg c24] at H
     have c24b0 : (t673 == t663) = false := beq_eq_false_iff_ne.mpr c24
     have c24b1 : (t673 != t663) = true := bne_iff_ne.mpr c24
     exact absurd (Option.some.inj H) (by rw [ht_]; decide)
    rw [if_pos c24] at H
    have c24b0 : (t673 == t663) = true := beq_iff_eq.mpr c24
    have c24b1 : (t673 != t663) = false := bne_eq_false_iff_eq.mpr c24
    clear c24
    by_cases c25 : t674.toList = t664.toList
    rotate_left
    ·rw [if_neg c25] at H
     have c25b0 : (t674.toList == t664.toList) = false := beq_eq_false_iff_ne.mpr c25
     have c25b1 : (t674.toList != t664.toList) = true := bne_iff_ne.mpr c25
     exact absurd (Option.some.inj H) (by rw [ht_]; decide)
    rw [if_pos c25] at H
    have c25b0 : (t674.toList == t664.toList) = true := beq_iff_eq.mpr c25
    have c25b1 : (t674.toList != t664.toList) = false := bne_eq_false_iff_eq.mpr c25
    clear c25
    by_cases c26 : t678.toList = t668.toList
    rotate_left
    ·rw [if_neg c26] at H
     have c26b0 : (t678.toList == t668.toList) = false := beq_eq_false_iff_ne.mpr c26
     have c26b1 : (t678.toList != t668.toList) = true := bne_iff_ne.mpr c26
     exact absurd (Option.some.inj H) (by rw [ht_]; decide)
    rw [if_pos c26] at H
    have c26b0 : (t678.toList == t668.toList) = true := beq_iff_eq.mpr c26
    have c26b1 : (t678.toList != t668.toList) = false := bne_eq_false_iff_eq.mpr c26
    clear c26
    revert H
    refine ok1 fun t681 A27 H => ?_
    by_cases c28 : t681 = true
    rotate_left
    ·replace c28 := Bool.eq_false_iff.mpr c28
     subst c28
     rw [if_neg (show ¬ (false = true) by decide)] at H
     exact absurd (Option.some.inj H) (by rw [ht_]; decide)
    subst c28
    rw [if_pos rfl] at H
    have H' := am H
    clear H
    go_wp2_with (first | (refine gl 33 Tryz.func23 #[.string t670] ?_; (with_reducible refine (impl_ReqRead.calls kj5 t670 t673 t674 t675 t678 true _ ?side1 ?side2 A22.out).mono ?_); (case side1 => exact GLOBM.below HGM.out bl); (case side2 => exact GLOBT.below HGT.out bl); rintro e w29 ⟨v676, rfl, ho0, hb⟩; refine ⟨_, rfl, ?_⟩; have HO677 := am (Kd.R_lower (Kd.R_new' ho0 (Kd.R_lt (ro HO_670002))) (below_size bl)); replace HO_670002 := am (Kd.R_elder' (ro HO_670002) (Kd.R_base ho0) hb); replace BK669 := kb BK669 hb; replace HB := am (below_step bl hb); clear hb ho0) | (refine bx 5 #[.int .i64 0, .string (⟨#[]⟩ : ByteArray), .slice none 0 0, .string (⟨#[]⟩ : ByteArray)] 40 ?_; intro gb680 hg w30 hbox hb; replace HO_670002 := am (Kd.R_below (ro HO_670002) hb); replace HO677 := am (Kd.R_below (ro HO677) hb); have BK680 := am (hbox); have GW680 := am (sz hg : w.heap.size ≤ gb680); have GE680 := am (sz hg : w.heap.size ≤ gb680); replace HB := am (below_step bl hb); have NB669_680 := am (nl hg BK669 : gb669 ≠ gb680); have NB680_669 := am (ng hg BK669 : gb680 ≠ gb669); replace BK669 := kb BK669 hb; clear hb hbox hg; have hnb31 := NB680_669.out; have hnc31 := NB669_680.out; obtain ⟨z32_0, y32_0, z32_1, y32_1, z32_2, y32_2, z32_3, y32_3⟩ := cl4 BK680; obtain ⟨Ao33, co33, eo33⟩ := Kd.R_slice HO677.out; subst eo33; obtain ⟨z34_0, y34_0, z34_1, y34_1, z34_2, y34_2, z34_3, y34_3⟩ := cl4 BK669) | (go_at_call 24; (with_reducible refine (laws_sameFields.calls kj5 _ _ t675 _ _ t665 true _ ?side1 ?side2 ?side3 ?side4 A27.out).mono ?_); (case side1 => refine (Kd.R_reads' (e := 100) (base := w.heap.size) (ok := fun k_ => (True ∧ some k_ ≠ (.slice Ao10 t665.length co10 : Value).ownBlock)) (n := t675.length) (c := co33) ?_).2.2; exact (by (with_reducible repeat (first | apply Kd.R_alloc | apply Kd.R_drewN | apply Kd.R_drew)); exact (Kd.R_mono (Kd.R_far (p := ⟨gb680, 3, none⟩) (Kd.R_far (p := ⟨gb680, 2, none⟩) (Kd.R_far (p := ⟨gb680, 1, none⟩) (Kd.R_far (p := ⟨gb680, 0, none⟩) (Kd.R_types HO677.out BK680.out (by decide)) (fun _ hk => hk.2) (.int .i64 t673)) (fun _ hk => hk.2) (.string t674)) (fun _ hk => hk.2) (.slice Ao33 t675.length co33)) (fun _ hk => hk.2) (.string t678)) (fun _ h_ => h_.1)))); (case side2 => exact (Kd.R_reads' HO677.out).2.1); (case side3 => refine (Kd.R_reads' (e := 100) (base := w.heap.size) (ok := fun k_ => (True ∧ some k_ ≠ (.slice Ao33 t675.length co33 : Value).ownBlock)) (n := t665.length) (c := co10) ?_).2.2; exact (by (with_reducible repeat (first | apply Kd.R_alloc | apply Kd.R_drewN | apply Kd.R_drew)); exact (Kd.R_mono (Kd.R_far (p := ⟨gb680, 3, none⟩) (Kd.R_far (p := ⟨gb680, 2, none⟩) (Kd.R_far (p := ⟨gb680, 1, none⟩) (Kd.R_far (p := ⟨gb680, 0, none⟩) (Kd.R_types HO_670002.out BK680.out (by decide)) (fun _ hk => hk.2) (.int .i64 t673)) (fun _ hk => hk.2) (.string t674)) (fun _ hk => hk.2) (.slice Ao33 t675.length co33)) (fun _ hk => hk.2) (.string t678)) (fun _ h_ => h_.1)))); (case side4 => exact (Kd.R_reads' HO_670002.out).2.1); rintro e w' ⟨rfl, ⟨nd, rfl⟩⟩))
    go_meet
    case rel => exact ⟨_, H', ⟨by have := HJ5.out; first | omega | exact Nat.le_refl _⟩, ⟨rg (Kd.R_types HO_670002.out BK680.out (by decide))⟩, ⟨by (with_reducible repeat (first | refine blk_drewN ?_ _ | refine blk_drew ?_ | refine blk_alloc ?_ _)); refine blk_far ?_ NB669_680.out _; (with_reducible repeat (first | refine blk_drewN ?_ _ | refine blk_drew ?_ | refine blk_alloc ?_ _)); refine blk_far ?_ NB669_680.out _; (with_reducible repeat (first | refine blk_drewN ?_ _ | refine blk_drew ?_ | refine blk_alloc ?_ _)); refine blk_far ?_ NB669_680.out _; (with_reducible repeat (first | refine blk_drewN ?_ _ | refine blk_drew ?_ | refine blk_alloc ?_ _)); refine blk_far ?_ NB669_680.out _; (with_reducible repeat (first | refine blk_drewN ?_ _ | refine blk_drew ?_ | refine blk_alloc ?_ _)); exact BK669.out⟩, ⟨u4HB⟩⟩
   case rest =>
    clear HC20
    try clear c1
    try clear c2
    try clear p2
    try clear c3
    try clear c4
    try clear c12
    try clear c13
    try clear c13b0
    try clear c13b1
    try clear c19
    try clear c20
    try clear c21
    try clear c21b0
    try clear c21b1
    try clear c23
    try clear c24
    try clear c24b0
    try clear c24b1
    try clear c25
    try clear c25b0
    try clear c25b1
    try clear c26
    try clear c26b0
    try clear c26b1
    try clear c28
    try clear c31
    try clear z15_0
    try clear z15_1
    try clear z15_2
    try clear z15_3
    try clear z17_0
    try clear z17_1
    try clear z17_2
    try clear z17_3
    try clear z32_0
    try clear z32_1
    try clear z32_2
    try clear z32_3
    try clear z34_0
    try clear z34_1
    try clear z34_2
    try clear z34_3
    try clear z9_0
    try clear z9_1
    try clear z9_2
    try clear z9_3
    try clear y15_0
    try clear y15_1
    try clear y15_2
    try clear y15_3
    try clear y17_0
    try clear y17_1
    try clear y17_2
    try clear y17_3
    try clear y32_0
    try clear y32_1
    try clear y32_2
    try clear y32_3
    try clear y34_0
    try clear y34_1
    try clear y34_2
    try clear y34_3
    try clear y9_0
    try clear y9_1
    try clear y9_2
    try clear y9_3
    try clear p2
    obtain ⟨kq, HA, HJ19, HO_670002, BK669, HB⟩ := hcut
    cases kq with
    | zero => exact absurd HA.out (by simp [laws_FnRequests.j1])
    | succ kj19 =>
     have H := HA.out
     clear HA
     simp only [laws_FnRequests.j1] at H
     revert H
     refine ok1 fun t682 A35 H => ?_
     revert H
     refine ok5 fun t683 t684 t685 t688 t689 A36 H => ?_
     (try dsimp only at H)
     revert H
     refine ok5 fun t691 t692 t693 t696 t697 A37 H => ?_
     (try dsimp only at H)
     by_cases c38 : (t689 == t697) = true
     rotate_left
     ·rw [if_neg c38] at H
      have c38b0 : (t689 == t697) = false := by simpa using c38
      (try (have c38b1 : decide (t689 = t697) = false := by simpa using c38))
      (try (have c38b2 : (t689 == t697) = false := by simpa using c38))
      (try (have c38b3 : ¬ (t689 = t697) := by simpa using c38))
      clear c38
      exact absurd (Option.some.inj H) (by rw [ht_]; decide)
     rw [if_pos c38] at H
     have c38b0 : (t689 == t697) = true := c38
     (try (have c38b1 : decide (t689 = t697) = true := by simpa using c38))
     (try (have c38b2 : (t689 == t697) = true := by simpa using c38))
     clear c38
     by_cases c39 : t689 = true
     rotate_left
     ·replace c39 := Bool.eq_false_iff.mpr c39
      subst c39
      rw [if_neg (show ¬ (false = true) by decide)] at H
      by_cases c59 : t683 = 0
      rotate_left
      ·rw [if_neg c59] at H
       have c59b0 : (t683 == 0) = false := beq_eq_false_iff_ne.mpr c59
       have c59b1 : (t683 != 0) = true := bne_iff_ne.mpr c59
       exact absurd (Option.some.inj H) (by rw [ht_]; decide)
      rw [if_pos c59] at H
      have c59b0 : (t683 == 0) = true := beq_iff_eq.mpr c59
      have c59b1 : (t683 != 0) = false := bne_eq_false_iff_eq.mpr c59
      clear c59
      obtain rfl := Option.some.inj H
      go_wp2_with (first | (refine gl 68 Tryz.func25 #[.slice A0 l0.length c0] ?_; (with_reducible refine (spec_DrawReqRead.calls kj19 _ _ l0 t682 _ ?side1 ?side2 A35.out).mono ?_); (case side1 => exact cb HR0); (case side2 => exact HC0.out); rintro e w60 ⟨rfl, hb⟩; refine ⟨_, rfl, ?_⟩; replace HO_670002 := kr HO_670002 hb; replace BK669 := kb BK669 hb; replace HB := am (below_step bl hb); clear hb) | (refine gl 71 Tryz.func23 #[.string t682] ?_; (with_reducible refine (impl_ReqRead.calls kj19 t682 t683 t684 t685 t688 false _ ?side1 ?side2 A36.out).mono ?_); (case side1 => exact GLOBM.below HGM.out bl); (case side2 => exact GLOBT.below HGT.out bl); rintro e w61 ⟨v686, rfl, ho0, hb⟩; refine ⟨_, rfl, ?_⟩; have HO687 := am (Kd.R_lower (Kd.R_new' ho0 (Kd.R_lt (ro HO_670002))) (below_size bl)); replace HO_670002 := am (Kd.R_elder' (ro HO_670002) (Kd.R_base ho0) hb); replace BK669 := kb BK669 hb; replace HB := am (below_step bl hb); clear hb ho0) | (refine bx 8 #[.int .i64 0, .string (⟨#[]⟩ : ByteArray), .slice none 0 0, .string (⟨#[]⟩ : ByteArray)] 40 ?_; intro gb690 hg w62 hbox hb; replace HO_670002 := am (Kd.R_below (ro HO_670002) hb); replace HO687 := am (Kd.R_below (ro HO687) hb); have BK690 := am (hbox); have GW690 := am (sz hg : w.heap.size ≤ gb690); have GE690 := am (sz hg : w.heap.size ≤ gb690); replace HB := am (below_step bl hb); have NB669_690 := am (nl hg BK669 : gb669 ≠ gb690); have NB690_669 := am (ng hg BK669 : gb690 ≠ gb669); replace BK669 := kb BK669 hb; clear hb hbox hg; have hnb63 := NB690_669.out; have hnc63 := NB669_690.out; obtain ⟨z64_0, y64_0, z64_1, y64_1, z64_2, y64_2, z64_3, y64_3⟩ := cl4 BK690; obtain ⟨Ao65, co65, eo65⟩ := Kd.R_slice HO687.out; subst eo65) | (refine gl 76 Tryz.func26 #[.string t682] ?_; (with_reducible refine (spec_ReqRead.calls kj19 t682 t691 t692 t693 t696 t697 _ A37.out).mono ?_); rintro e w66 ⟨v694, rfl, ho0, hb⟩; refine ⟨_, rfl, ?_⟩; have n0_ := am (Kd.R_elder' (by (with_reducible repeat (first | apply Kd.R_alloc | apply Kd.R_drewN | apply Kd.R_drew)); exact (Kd.R_mono (Kd.R_far (p := ⟨gb690, 3, none⟩) (Kd.R_far (p := ⟨gb690, 2, none⟩) (Kd.R_far (p := ⟨gb690, 1, none⟩) (Kd.R_far (p := ⟨gb690, 0, none⟩) (Kd.R_types HO_670002.out BK690.out (by decide)) (fun _ hk => hk.2) (.int .i64 t683)) (fun _ hk => hk.2) (.string t684)) (fun _ hk => hk.2) (.slice Ao65 t685.length co65)) (fun _ hk => hk.2) (.string t688)) (fun _ h_ => h_.1))) (Kd.R_base ho0) hb); have n1_ := am (Kd.R_elder' (by (with_reducible repeat (first | apply Kd.R_alloc | apply Kd.R_drewN | apply Kd.R_drew)); exact (Kd.R_mono (Kd.R_far (p := ⟨gb690, 3, none⟩) (Kd.R_far (p := ⟨gb690, 2, none⟩) (Kd.R_far (p := ⟨gb690, 1, none⟩) (Kd.R_far (p := ⟨gb690, 0, none⟩) (Kd.R_types HO687.out BK690.out (by decide)) (fun _ hk => hk.2) (.int .i64 t683)) (fun _ hk => hk.2) (.string t684)) (fun _ hk => hk.2) (.slice Ao65 t685.length co65)) (fun _ hk => hk.2) (.string t688)) (fun _ h_ => h_.1))) (Kd.R_base ho0) hb); have n2_ := am (Kd.R_lower (Kd.R_new' (Kd.R_new' ho0 (Kd.R_lt (by (with_reducible repeat (first | apply Kd.R_alloc | apply Kd.R_drewN | apply Kd.R_drew)); exact (Kd.R_mono (Kd.R_far (p := ⟨gb690, 3, none⟩) (Kd.R_far (p := ⟨gb690, 2, none⟩) (Kd.R_far (p := ⟨gb690, 1, none⟩) (Kd.R_far (p := ⟨gb690, 0, none⟩) (Kd.R_types HO_670002.out BK690.out (by decide)) (fun _ hk => hk.2) (.int .i64 t683)) (fun _ hk => hk.2) (.string t684)) (fun _ hk => hk.2) (.slice Ao65 t685.length co65)) (fun _ hk => hk.2) (.string t688)) (fun _ h_ => h_.1))))) (Kd.R_lt (by (with_reducible repeat (first | apply Kd.R_alloc | apply Kd.R_drewN | apply Kd.R_drew)); exact (Kd.R_mono (Kd.R_far (p := ⟨gb690, 3, none⟩) (Kd.R_far (p := ⟨gb690, 2, none⟩) (Kd.R_far (p := ⟨gb690, 1, none⟩) (Kd.R_far (p := ⟨gb690, 0, none⟩) (Kd.R_types HO687.out BK690.out (by decide)) (fun _ hk => hk.2) (.int .i64 t683)) (fun _ hk => hk.2) (.string t684)) (fun _ hk => hk.2) (.slice Ao65 t685.length co65)) (fun _ hk => hk.2) (.string t688)) (fun _ h_ => h_.1))))) (below_size bl)); have n3_ := kg1 BK669 NB669_690 hb; have n4_ := am (blk_below (g := gb690) (o := .cells #[.int .i64 t683, .string t684, .slice Ao65 t685.length co65, .string t688] 40 (0, 0)) (pt0 BK690) hb); have n5_ := am (below_step bl hb); clear HO_670002; clear HO687; clear BK669; clear BK690; clear HB; have HO_670002 := n0_; have HO687 := n1_; have HO695 := n2_; have BK669 := n3_; have BK690 := n4_; have HB := n5_; clear n0_ n1_ n2_ n3_ n4_ n5_; clear hb ho0) | (refine bx 10 #[.int .i64 0, .string (⟨#[]⟩ : ByteArray), .slice none 0 0, .string (⟨#[]⟩ : ByteArray)] 40 ?_; intro gb698 hg w67 hbox hb; replace HO_670002 := am (Kd.R_below (ro HO_670002) hb); replace HO687 := am (Kd.R_below (ro HO687) hb); replace HO695 := am (Kd.R_below (ro HO695) hb); have BK698 := am (hbox); have GW698 := am (sz hg : w.heap.size ≤ gb698); have GE698 := am (sz hg : w.heap.size ≤ gb698); replace HB := am (below_step bl hb); have NB669_698 := am (nl hg BK669 : gb669 ≠ gb698); have NB698_669 := am (ng hg BK669 : gb698 ≠ gb669); replace BK669 := kb BK669 hb; have NB690_698 := am (nl hg BK690 : gb690 ≠ gb698); have NB698_690 := am (ng hg BK690 : gb698 ≠ gb690); replace BK690 := kb BK690 hb; clear hb hbox hg; have hnb68 := NB698_669.out; have hnc68 := NB669_698.out; have hnb69 := NB698_690.out; have hnc69 := NB690_698.out; obtain ⟨z70_0, y70_0, z70_1, y70_1, z70_2, y70_2, z70_3, y70_3⟩ := cl4 BK698; obtain ⟨Ao71, co71, eo71⟩ := Kd.R_slice HO695.out; subst eo71; obtain ⟨z72_0, y72_0, z72_1, y72_1, z72_2, y72_2, z72_3, y72_3⟩ := cl4 BK690))
      go_ret
      exact ⟨rf, bl⟩
     subst c39
     rw [if_pos rfl] at H
     revert H
     refine ok1 fun t699 A40 H => ?_
     by_cases c41 : t699.toList = t682.toList
     rotate_left
     ·rw [if_neg c41] at H
      have c41b0 : (t699.toList == t682.toList) = false := beq_eq_false_iff_ne.mpr c41
      have c41b1 : (t699.toList != t682.toList) = true := bne_iff_ne.mpr c41
      exact absurd (Option.some.inj H) (by rw [ht_]; decide)
     rw [if_pos c41] at H
     have c41b0 : (t699.toList == t682.toList) = true := beq_iff_eq.mpr c41
     have c41b1 : (t699.toList != t682.toList) = false := bne_eq_false_iff_eq.mpr c41
     clear c41
     revert H
     refine ok1 fun t700 A42 H => ?_
     obtain rfl := Option.some.inj H
     go_wp2_with (first | (refine gl 68 Tryz.func25 #[.slice A0 l0.length c0] ?_; (with_reducible refine (spec_DrawReqRead.calls kj19 _ _ l0 t682 _ ?side1 ?side2 A35.out).mono ?_); (case side1 => exact cb HR0); (case side2 => exact HC0.out); rintro e w43 ⟨rfl, hb⟩; refine ⟨_, rfl, ?_⟩; replace HO_670002 := kr HO_670002 hb; replace BK669 := kb BK669 hb; replace HB := am (below_step bl hb); clear hb) | (refine gl 71 Tryz.func23 #[.string t682] ?_; (with_reducible refine (impl_ReqRead.calls kj19 t682 t683 t684 t685 t688 true _ ?side1 ?side2 A36.out).mono ?_); (case side1 => exact GLOBM.below HGM.out bl); (case side2 => exact GLOBT.below HGT.out bl); rintro e w44 ⟨v686, rfl, ho0, hb⟩; refine ⟨_, rfl, ?_⟩; have HO687 := am (Kd.R_lower (Kd.R_new' ho0 (Kd.R_lt (ro HO_670002))) (below_size bl)); replace HO_670002 := am (Kd.R_elder' (ro HO_670002) (Kd.R_base ho0) hb); replace BK669 := kb BK669 hb; replace HB := am (below_step bl hb); clear hb ho0) | (refine bx 8 #[.int .i64 0, .string (⟨#[]⟩ : ByteArray), .slice none 0 0, .string (⟨#[]⟩ : ByteArray)] 40 ?_; intro gb690 hg w45 hbox hb; replace HO_670002 := am (Kd.R_below (ro HO_670002) hb); replace HO687 := am (Kd.R_below (ro HO687) hb); have BK690 := am (hbox); have GW690 := am (sz hg : w.heap.size ≤ gb690); have GE690 := am (sz hg : w.heap.size ≤ gb690); replace HB := am (below_step bl hb); have NB669_690 := am (nl hg BK669 : gb669 ≠ gb690); have NB690_669 := am (ng hg BK669 : gb690 ≠ gb669); replace BK669 := kb BK669 hb; clear hb hbox hg; have hnb46 := NB690_669.out; have hnc46 := NB669_690.out; obtain ⟨z47_0, y47_0, z47_1, y47_1, z47_2, y47_2, z47_3, y47_3⟩ := cl4 BK690; obtain ⟨Ao48, co48, eo48⟩ := Kd.R_slice HO687.out; subst eo48) | (refine gl 76 Tryz.func26 #[.string t682] ?_; (with_reducible refine (spec_ReqRead.calls kj19 t682 t691 t692 t693 t696 t697 _ A37.out).mono ?_); rintro e w49 ⟨v694, rfl, ho0, hb⟩; refine ⟨_, rfl, ?_⟩; have n0_ := am (Kd.R_elder' (by (with_reducible repeat (first | apply Kd.R_alloc | apply Kd.R_drewN | apply Kd.R_drew)); exact (Kd.R_mono (Kd.R_far (p := ⟨gb690, 3, none⟩) (Kd.R_far (p := ⟨gb690, 2, none⟩) (Kd.R_far (p := ⟨gb690, 1, none⟩) (Kd.R_far (p := ⟨gb690, 0, none⟩) (Kd.R_types HO_670002.out BK690.out (by decide)) (fun _ hk => hk.2) (.int .i64 t683)) (fun _ hk => hk.2) (.string t684)) (fun _ hk => hk.2) (.slice Ao48 t685.length co48)) (fun _ hk => hk.2) (.string t688)) (fun _ h_ => h_.1))) (Kd.R_base ho0) hb); have n1_ := am (Kd.R_elder' (by (with_reducible repeat (first | apply Kd.R_alloc | apply Kd.R_drewN | apply Kd.R_drew)); exact (Kd.R_mono (Kd.R_far (p := ⟨gb690, 3, none⟩) (Kd.R_far (p := ⟨gb690, 2, none⟩) (Kd.R_far (p := ⟨gb690, 1, none⟩) (Kd.R_far (p := ⟨gb690, 0, none⟩) (Kd.R_types HO687.out BK690.out (by decide)) (fun _ hk => hk.2) (.int .i64 t683)) (fun _ hk => hk.2) (.string t684)) (fun _ hk => hk.2) (.slice Ao48 t685.length co48)) (fun _ hk => hk.2) (.string t688)) (fun _ h_ => h_.1))) (Kd.R_base ho0) hb); have n2_ := am (Kd.R_lower (Kd.R_new' (Kd.R_new' ho0 (Kd.R_lt (by (with_reducible repeat (first | apply Kd.R_alloc | apply Kd.R_drewN | apply Kd.R_drew)); exact (Kd.R_mono (Kd.R_far (p := ⟨gb690, 3, none⟩) (Kd.R_far (p := ⟨gb690, 2, none⟩) (Kd.R_far (p := ⟨gb690, 1, none⟩) (Kd.R_far (p := ⟨gb690, 0, none⟩) (Kd.R_types HO_670002.out BK690.out (by decide)) (fun _ hk => hk.2) (.int .i64 t683)) (fun _ hk => hk.2) (.string t684)) (fun _ hk => hk.2) (.slice Ao48 t685.length co48)) (fun _ hk => hk.2) (.string t688)) (fun _ h_ => h_.1))))) (Kd.R_lt (by (with_reducible repeat (first | apply Kd.R_alloc | apply Kd.R_drewN | apply Kd.R_drew)); exact (Kd.R_mono (Kd.R_far (p := ⟨gb690, 3, none⟩) (Kd.R_far (p := ⟨gb690, 2, none⟩) (Kd.R_far (p := ⟨gb690, 1, none⟩) (Kd.R_far (p := ⟨gb690, 0, none⟩) (Kd.R_types HO687.out BK690.out (by decide)) (fun _ hk => hk.2) (.int .i64 t683)) (fun _ hk => hk.2) (.string t684)) (fun _ hk => hk.2) (.slice Ao48 t685.length co48)) (fun _ hk => hk.2) (.string t688)) (fun _ h_ => h_.1))))) (below_size bl)); have n3_ := kg1 BK669 NB669_690 hb; have n4_ := am (blk_below (g := gb690) (o := .cells #[.int .i64 t683, .string t684, .slice Ao48 t685.length co48, .string t688] 40 (0, 0)) (pt0 BK690) hb); have n5_ := am (below_step bl hb); clear HO_670002; clear HO687; clear BK669; clear BK690; clear HB; have HO_670002 := n0_; have HO687 := n1_; have HO695 := n2_; have BK669 := n3_; have BK690 := n4_; have HB := n5_; clear n0_ n1_ n2_ n3_ n4_ n5_; clear hb ho0) | (refine bx 10 #[.int .i64 0, .string (⟨#[]⟩ : ByteArray), .slice none 0 0, .string (⟨#[]⟩ : ByteArray)] 40 ?_; intro gb698 hg w50 hbox hb; replace HO_670002 := am (Kd.R_below (ro HO_670002) hb); replace HO687 := am (Kd.R_below (ro HO687) hb); replace HO695 := am (Kd.R_below (ro HO695) hb); have BK698 := am (hbox); have GW698 := am (sz hg : w.heap.size ≤ gb698); have GE698 := am (sz hg : w.heap.size ≤ gb698); replace HB := am (below_step bl hb); have NB669_698 := am (nl hg BK669 : gb669 ≠ gb698); have NB698_669 := am (ng hg BK669 : gb698 ≠ gb669); replace BK669 := kb BK669 hb; have NB690_698 := am (nl hg BK690 : gb690 ≠ gb698); have NB698_690 := am (ng hg BK690 : gb698 ≠ gb690); replace BK690 := kb BK690 hb; clear hb hbox hg; have hnb51 := NB698_669.out; have hnc51 := NB669_698.out; have hnb52 := NB698_690.out; have hnc52 := NB690_698.out; obtain ⟨z53_0, y53_0, z53_1, y53_1, z53_2, y53_2, z53_3, y53_3⟩ := cl4 BK698; obtain ⟨Ao54, co54, eo54⟩ := Kd.R_slice HO695.out; subst eo54; obtain ⟨z55_0, y55_0, z55_1, y55_1, z55_2, y55_2, z55_3, y55_3⟩ := cl4 BK690) | (go_at_call 19; (with_reducible refine (impl_ReqText.calls kj19 t683 t684 _ _ t685 t688 t699 _ ?side1 ?side2 ?side3 A40.out).mono ?_); (case side1 => exact GLOBT.below HGT.out bl); (case side2 => refine (Kd.R_reads' (e := 100) (base := w.heap.size) (ok := fun k_ => ((True ∧ some k_ ≠ (.slice Ao10 t665.length co10 : Value).ownBlock) ∧ some k_ ≠ (.slice Ao54 t693.length co54 : Value).ownBlock)) (n := t685.length) (c := co48) ?_).2.2; exact (by (with_reducible repeat (first | apply Kd.R_alloc | apply Kd.R_drewN | apply Kd.R_drew)); exact (Kd.R_mono (Kd.R_far (p := ⟨gb698, 3, none⟩) (Kd.R_far (p := ⟨gb698, 2, none⟩) (Kd.R_far (p := ⟨gb698, 1, none⟩) (Kd.R_far (p := ⟨gb698, 0, none⟩) (Kd.R_types HO687.out BK698.out (by decide)) (fun _ hk => hk.2) (.int .i64 t691)) (fun _ hk => hk.2) (.string t692)) (fun _ hk => hk.2) (.slice Ao54 t693.length co54)) (fun _ hk => hk.2) (.string t696)) (fun _ h_ => h_.1)))); (case side3 => exact (Kd.R_reads' HO687.out).2.1); rintro e w56 ⟨rfl, hb⟩; have n0_ := am (Kd.R_below (by (with_reducible repeat (first | apply Kd.R_alloc | apply Kd.R_drewN | apply Kd.R_drew)); exact (Kd.R_mono (Kd.R_far (p := ⟨gb698, 3, none⟩) (Kd.R_far (p := ⟨gb698, 2, none⟩) (Kd.R_far (p := ⟨gb698, 1, none⟩) (Kd.R_far (p := ⟨gb698, 0, none⟩) (Kd.R_types HO_670002.out BK698.out (by decide)) (fun _ hk => hk.2) (.int .i64 t691)) (fun _ hk => hk.2) (.string t692)) (fun _ hk => hk.2) (.slice Ao54 t693.length co54)) (fun _ hk => hk.2) (.string t696)) (fun _ h_ => h_.1))) hb); have n1_ := am (Kd.R_below (by (with_reducible repeat (first | apply Kd.R_alloc | apply Kd.R_drewN | apply Kd.R_drew)); exact (Kd.R_mono (Kd.R_far (p := ⟨gb698, 3, none⟩) (Kd.R_far (p := ⟨gb698, 2, none⟩) (Kd.R_far (p := ⟨gb698, 1, none⟩) (Kd.R_far (p := ⟨gb698, 0, none⟩) (Kd.R_types HO687.out BK698.out (by decide)) (fun _ hk => hk.2) (.int .i64 t691)) (fun _ hk => hk.2) (.string t692)) (fun _ hk => hk.2) (.slice Ao54 t693.length co54)) (fun _ hk => hk.2) (.string t696)) (fun _ h_ => h_.1))) hb); have n2_ := am (Kd.R_below (by (with_reducible repeat (first | apply Kd.R_alloc | apply Kd.R_drewN | apply Kd.R_drew)); exact (Kd.R_mono (Kd.R_far (p := ⟨gb698, 3, none⟩) (Kd.R_far (p := ⟨gb698, 2, none⟩) (Kd.R_far (p := ⟨gb698, 1, none⟩) (Kd.R_far (p := ⟨gb698, 0, none⟩) (Kd.R_types HO695.out BK698.out (by decide)) (fun _ hk => hk.2) (.int .i64 t691)) (fun _ hk => hk.2) (.string t692)) (fun _ hk => hk.2) (.slice Ao54 t693.length co54)) (fun _ hk => hk.2) (.string t696)) (fun _ h_ => h_.1))) hb); have n3_ := kg1 BK669 NB669_698 hb; have n4_ := kg1 BK690 NB690_698 hb; have n5_ := am (blk_below (g := gb698) (o := .cells #[.int .i64 t691, .string t692, .slice Ao54 t693.length co54, .string t696] 40 (0, 0)) (pt0 BK698) hb); have n6_ := am (below_step bl hb); clear HO_670002; clear HO687; clear HO695; clear BK669; clear BK690; clear BK698; clear HB; have HO_670002 := n0_; have HO687 := n1_; have HO695 := n2_; have BK669 := n3_; have BK690 := n4_; have BK698 := n5_; have HB := n6_; clear n0_ n1_ n2_ n3_ n4_ n5_ n6_; clear hb; obtain ⟨z57_0, y57_0, z57_1, y57_1, z57_2, y57_2, z57_3, y57_3⟩ := cl4 BK690) | (go_at_call 22; (with_reducible refine (impl_ReqOk.calls kj19 t683 t684 _ _ t685 t688 t700 _ ?side1 ?side2 A42.out).mono ?_); (case side1 => exact rc HO687); (case side2 => exact (Kd.R_reads' HO687.out).2.1); rintro e w58 ⟨rfl, hb⟩; replace HO_670002 := kr HO_670002 hb; replace HO687 := kr HO687 hb; replace HO695 := kr HO695 hb; replace BK669 := kb BK669 hb; replace BK690 := kb BK690 hb; replace BK698 := kb BK698 hb; replace HB := am (below_step bl hb); clear hb))
     go_ret
     exact ⟨rf, bl⟩

end Go.Proofs.YtnmanegjgidgcaaGreatDoor.All
