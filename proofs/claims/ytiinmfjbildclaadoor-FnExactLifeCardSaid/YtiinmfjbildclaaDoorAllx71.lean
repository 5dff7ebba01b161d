-- Written by a program of this session (wip/tools/hprint.py) out of the translation. Lean checks it.
import Derived.Test.YtiinmfjbildclaaDoorAllx0
import Derived.Test.YtiinmfjbildclaaDoorAllx1
import Derived.Test.YtiinmfjbildclaaDoorAllx9
import Derived.Test.YtiinmfjbildclaaDoorAllx70
namespace Go.Proofs.YtiinmfjbildclaaDoor.All
open Go.RowKit Go.Proofs.YtiinmfjbildclaaDoorW.PrintWords Go.Proofs.YtiinmfjbildclaaDoorW.PrintLast Go.Proofs.YtiinmfjbildclaaDoorW.PrintMore
attribute [local go_sem] max2_int min2_int max_two min_two max_three min_three max_four min_four   -- for this text's walks alone
set_option linter.unusedVariables false
set_option linter.unusedSimpArgs false

/-! ### spec_Life: function 92 -/
def spec_Life.f (k : Nat) (l0 : List (S114)) : Option (Int) := (spec_CcOf.f k l0).bind fun bt1638 => (some bt1638.2.2.2.2.2)
theorem spec_Life.mono : ∀ a0 k, LeO (spec_Life.f k a0) (spec_Life.f (k + 1) a0) := by
 intro a0 k
 unfold spec_Life.f
 repeat' first
   | (with_reducible exact spec_CcOf.mono _ _)
   | (with_reducible exact LeO.refl _)
   | (with_reducible exact LeO.none _)
   | (with_reducible refine LeO.ite ?_ ?_)
   | (with_reducible refine LeO.bind ?_ (fun _ => ?_))
   | exact spec_CcOf.mono _ _
   | exact LeO.none _
   | refine LeO.ite ?_ ?_
   | refine LeO.bind ?_ (fun _ => ?_)
set_option maxHeartbeats 8000000 in
set_option maxRecDepth 100000 in
theorem spec_Life.calls (k : Nat) (A0 : Option Addr) (c0 : Nat) (l0 : List (S114)) (r : Int) (w : World) (hr0 : Kd.C k114 w A0 l0.length l0) (hc0 : l0.length ≤ c0) (h : spec_Life.f k l0 = some r) :
  Calls Tryd.prog 92 #[.slice A0 l0.length c0] w fun e w' => e = .returned (.int .i64 r) ∧ Below w.heap.size w w' := by
 have HR0 := am hr0
 have HC0 := am hc0
 clear hr0 hc0
 have HB := am (Below.refl w.heap.size w)
 have H : ((spec_CcOf.f k l0).bind fun bt1638 => (some bt1638.2.2.2.2.2)) = some r := h
 clear h
 replace H := ob H
 obtain ⟨⟨t1638, t1639, t1640, t1641, t1642, t1643⟩, A20, H⟩ := H
 replace H : (some t1643) = some r := H
 have A2 := am A20
 clear A20
 obtain rfl := Option.some.inj H
 have hu_ := Tryd.underlying106
 go_enter Tryd.func92, Tryd.ntmps92
 go_wp2_with (first | ((with_reducible refine gate_callee (f := 94) rfl ?_); refine goesL_ (some 4) rfl rfl Tryd.func94 (by kernel_rfl) rfl #[.slice A0 l0.length c0] rfl ma ?_; (with_reducible refine (spec_CcOf.calls k _ _ l0 t1638 t1639 t1640 t1641 t1642 t1643 _ ?side1 ?side2 A2.out).mono ?_); (case side1 => exact cc HR0); (case side2 => exact HC0.out); rintro e w3 ⟨rfl, hb⟩; refine ⟨_, rfl, ?_⟩; replace HB := am (below_step bl hb); (try clear hb); (try clear hb2); (try clear hk); (try clear hi)))
 simp [Instr.field, hu_, asAgg, part]
 go_wp2
 go_ret
 exact ⟨rf, bl⟩

/-! ### impl_Life: function 93 -/
def impl_Life.f (k : Nat) (l0 : List (S114)) : Option (Int) := (impl_CcOf.f k l0).bind fun bt1653 => (some bt1653.2.2.2.2.2)
theorem impl_Life.mono : ∀ a0 k, LeO (impl_Life.f k a0) (impl_Life.f (k + 1) a0) := by
 intro a0 k
 unfold impl_Life.f
 repeat' first
   | (with_reducible exact impl_CcOf.mono _ _)
   | (with_reducible exact LeO.refl _)
   | (with_reducible exact LeO.none _)
   | (with_reducible refine LeO.ite ?_ ?_)
   | (with_reducible refine LeO.bind ?_ (fun _ => ?_))
   | exact impl_CcOf.mono _ _
   | exact LeO.none _
   | refine LeO.ite ?_ ?_
   | refine LeO.bind ?_ (fun _ => ?_)
set_option maxHeartbeats 8000000 in
set_option maxRecDepth 100000 in
theorem impl_Life.calls (k : Nat) (A0 : Option Addr) (c0 : Nat) (l0 : List (S114)) (r : Int) (w : World) (hGE : GLOBE w) (hGM : GLOBM w) (hGT : GLOBT w) (hr0 : Kd.C k114 w A0 l0.length l0) (hc0 : l0.length ≤ c0) (h : impl_Life.f k l0 = some r) :
  Calls Tryd.prog 93 #[.slice A0 l0.length c0] w fun e w' => e = .returned (.int .i64 r) ∧ Below w.heap.size w w' := by
 have HR0 := am hr0
 have HC0 := am hc0
 clear hr0 hc0
 have HGE := am hGE
 clear hGE
 have HGM := am hGM
 clear hGM
 have HGT := am hGT
 clear hGT
 have HB := am (Below.refl w.heap.size w)
 have H : ((impl_CcOf.f k l0).bind fun bt1653 => (some bt1653.2.2.2.2.2)) = some r := h
 clear h
 replace H := ob H
 obtain ⟨⟨t1653, t1654, t1655, t1656, t1657, t1658⟩, A20, H⟩ := H
 replace H : (some t1658) = some r := H
 have A2 := am A20
 clear A20
 obtain rfl := Option.some.inj H
 have hu_ := Tryd.underlying106
 go_enter Tryd.func93, Tryd.ntmps93
 go_wp2_with (first | ((with_reducible refine gate_callee (f := 95) rfl ?_); refine goesL_ (some 4) rfl rfl Tryd.func95 (by kernel_rfl) rfl #[.slice A0 l0.length c0] rfl ma ?_; (with_reducible refine (impl_CcOf.calls k _ _ l0 t1653 t1654 t1655 t1656 t1657 t1658 _ ?side1 ?side2 ?side3 ?side4 ?side5 A2.out).mono ?_); (case side1 => exact GLOBE.below HGE.out bl); (case side2 => exact GLOBM.below HGM.out bl); (case side3 => exact GLOBT.below HGT.out bl); (case side4 => exact cc HR0); (case side5 => exact HC0.out); rintro e w3 ⟨rfl, hb⟩; refine ⟨_, rfl, ?_⟩; replace HB := am (below_step bl hb); (try clear hb); (try clear hb2); (try clear hk); (try clear hi)))
 simp [Instr.field, hu_, asAgg, part]
 go_wp2
 go_ret
 exact ⟨rf, bl⟩

/-! ### laws_FnExactLife: function 15 -/
def laws_FnExactLife.f (k : Nat) (l0 : List (S113)) : Option (Bool) := (laws_szFieldS.f k l0 1048576).bind fun t1659 => (if t1659 < 0 then (some true) else ((laws_toFieldS.f k l0).bind fun t1660 => ((spec_Life.f k t1660).bind fun t1663 => ((laws_toFieldS.f k l0).bind fun t1664 => ((impl_Life.f k t1664).bind fun t1667 => (if t1667 = t1663 then ((laws_toFieldS.f k l0).bind fun t1668 => ((laws_eqFieldS.f k t1664 t1668).bind fun t1671 => (if t1671 = true then (some true) else (some false)))) else (some false)))))))
theorem laws_FnExactLife.mono : ∀ a0 k, LeO (laws_FnExactLife.f k a0) (laws_FnExactLife.f (k + 1) a0) := by
 intro a0 k
 unfold laws_FnExactLife.f
 repeat' first
   | (with_reducible exact impl_Life.mono _ _)
   | (with_reducible exact laws_eqFieldS.mono _ _ _)
   | (with_reducible exact laws_szFieldS.mono _ _ _)
   | (with_reducible exact laws_toFieldS.mono _ _)
   | (with_reducible exact spec_Life.mono _ _)
   | (with_reducible exact LeO.refl _)
   | (with_reducible exact LeO.none _)
   | (with_reducible refine LeO.ite ?_ ?_)
   | (with_reducible refine LeO.bind ?_ (fun _ => ?_))
   | exact impl_Life.mono _ _
   | exact laws_eqFieldS.mono _ _ _
   | exact laws_szFieldS.mono _ _ _
   | exact laws_toFieldS.mono _ _
   | exact spec_Life.mono _ _
   | exact LeO.none _
   | refine LeO.ite ?_ ?_
   | refine LeO.bind ?_ (fun _ => ?_)
set_option maxHeartbeats 8000000 in
set_option maxRecDepth 100000 in
theorem laws_FnExactLife.calls (k : Nat) (A0 : Option Addr) (c0 : Nat) (l0 : List (S113)) (r : Bool) (w : World) (hGE : GLOBE w) (hGM : GLOBM w) (hGT : GLOBT w) (hr0 : Kd.C k113 w A0 l0.length l0) (hc0 : l0.length ≤ c0) (ht_ : r = true) (h : laws_FnExactLife.f k l0 = some r) :
  Calls Tryd.prog 15 #[.slice A0 l0.length c0] w fun e w' => e = .returned (.bool r) ∧ Below w.heap.size w w' := by
 have HR0 := am hr0
 have HC0 := am hc0
 clear hr0 hc0
 have HGE := am hGE
 clear hGE
 have HGM := am hGM
 clear hGM
 have HGT := am hGT
 clear hGT
 have HB := am (Below.refl w.heap.size w)
 have H : ((laws_szFieldS.f k l0 1048576).bind fun t1659 => (if t1659 < 0 then (some true) else ((laws_toFieldS.f k l0).bind fun t1660 => ((spec_Life.f k t1660).bind fun t1663 => ((laws_toFieldS.f k l0).bind fun t1664 => ((impl_Life.f k t1664).bind fun t1667 => (if t1667 = t1663 then ((laws_toFieldS.f k l0).bind fun t1668 => ((laws_eqFieldS.f k t1664 t1668).bind fun t1671 => (if t1671 = true then (some true) else (some false)))) else (some false)))))))) = some r := h
 clear h
 replace H := ob H
 obtain ⟨t1659, A20, H⟩ := H
 replace H : (if t1659 < 0 then (some true) else ((laws_toFieldS.f k l0).bind fun t1660 => ((spec_Life.f k t1660).bind fun t1663 => ((laws_toFieldS.f k l0).bind fun t1664 => ((impl_Life.f k t1664).bind fun t1667 => (if t1667 = t1663 then ((laws_toFieldS.f k l0).bind fun t1668 => ((laws_eqFieldS.f k t1664 t1668).bind fun t1671 => (if t1671 = true then (some true) else (some false)))) else (some false))))))) = some r := H
 have A2 := am A20
 clear A20
 by_cases c3 : t1659 < 0
 ·rw [if_pos c3] at H
  have c3b0 : decide (t1659 < 0) = true := decide_eq_true c3
  clear c3
  obtain rfl := Option.some.inj H
  go_enter Tryd.func15, Tryd.ntmps15
  go_wp2_with (first | ((with_reducible refine gate_callee (f := 17) rfl ?_); refine goesL_ (some 9) rfl rfl Tryd.func17 (by kernel_rfl) rfl #[.slice A0 l0.length c0, .int .i64 1048576] rfl ma ?_; (with_reducible refine (laws_szFieldS.calls k _ _ l0 1048576 t1659 _ ?side1 ?side2 A2.out).mono ?_); (case side1 => exact cc HR0); (case side2 => exact HC0.out); rintro e w4 ⟨rfl, hb⟩; refine ⟨_, rfl, ?_⟩; replace HB := am (below_step bl hb); (try clear hb); (try clear hb2); (try clear hk); (try clear hi)))
  go_ret
  exact ⟨rf, bl⟩
 ·rw [if_neg c3] at H
  have c3b0 : decide (t1659 < 0) = false := decide_eq_false c3
  clear c3
  replace H := ob H
  obtain ⟨t1660, A50, H⟩ := H
  replace H : ((spec_Life.f k t1660).bind fun t1663 => ((laws_toFieldS.f k l0).bind fun t1664 => ((impl_Life.f k t1664).bind fun t1667 => (if t1667 = t1663 then ((laws_toFieldS.f k l0).bind fun t1668 => ((laws_eqFieldS.f k t1664 t1668).bind fun t1671 => (if t1671 = true then (some true) else (some false)))) else (some false))))) = some r := H
  have A5 := am A50
  clear A50
  replace H := ob H
  obtain ⟨t1663, A60, H⟩ := H
  replace H : ((laws_toFieldS.f k l0).bind fun t1664 => ((impl_Life.f k t1664).bind fun t1667 => (if t1667 = t1663 then ((laws_toFieldS.f k l0).bind fun t1668 => ((laws_eqFieldS.f k t1664 t1668).bind fun t1671 => (if t1671 = true then (some true) else (some false)))) else (some false)))) = some r := H
  have A6 := am A60
  clear A60
  replace H := ob H
  obtain ⟨t1664, A70, H⟩ := H
  replace H : ((impl_Life.f k t1664).bind fun t1667 => (if t1667 = t1663 then ((laws_toFieldS.f k l0).bind fun t1668 => ((laws_eqFieldS.f k t1664 t1668).bind fun t1671 => (if t1671 = true then (some true) else (some false)))) else (some false))) = some r := H
  have A7 := am A70
  clear A70
  replace H := ob H
  obtain ⟨t1667, A80, H⟩ := H
  replace H : (if t1667 = t1663 then ((laws_toFieldS.f k l0).bind fun t1668 => ((laws_eqFieldS.f k t1664 t1668).bind fun t1671 => (if t1671 = true then (some true) else (some false)))) else (some false)) = some r := H
  have A8 := am A80
  clear A80
  by_cases c9 : t1667 = t1663
  ·rw [if_pos c9] at H
   have c9b0 : (t1667 == t1663) = true := beq_iff_eq.mpr c9
   have c9b1 : (t1667 != t1663) = false := bne_eq_false_iff_eq.mpr c9
   clear c9
   replace H := ob H
   obtain ⟨t1668, A100, H⟩ := H
   replace H : ((laws_eqFieldS.f k t1664 t1668).bind fun t1671 => (if t1671 = true then (some true) else (some false))) = some r := H
   have A10 := am A100
   clear A100
   replace H := ob H
   obtain ⟨t1671, A110, H⟩ := H
   replace H : (if t1671 = true then (some true) else (some false)) = some r := H
   have A11 := am A110
   clear A110
   by_cases c12 : t1671 = true
   ·subst c12
    have H1 : (some true) = some r := by rw [if_pos rfl] at H; exact H
    clear H
    have H := H1
    clear H1
    obtain rfl := Option.some.inj H
    go_enter Tryd.func15, Tryd.ntmps15
    go_wp2_with (first | ((with_reducible refine gate_callee (f := 17) rfl ?_); refine goesL_ (some 9) rfl rfl Tryd.func17 (by kernel_rfl) rfl #[.slice A0 l0.length c0, .int .i64 1048576] rfl ma ?_; (with_reducible refine (laws_szFieldS.calls k _ _ l0 1048576 t1659 _ ?side1 ?side2 A2.out).mono ?_); (case side1 => exact cc HR0); (case side2 => exact HC0.out); rintro e w13 ⟨rfl, hb⟩; refine ⟨_, rfl, ?_⟩; replace HB := am (below_step bl hb); (try clear hb); (try clear hb2); (try clear hk); (try clear hi)) | ((with_reducible refine gate_callee (f := 19) rfl ?_); refine goesL_ (some 13) rfl rfl Tryd.func19 (by kernel_rfl) rfl #[.slice A0 l0.length c0] rfl ma ?_; (with_reducible refine (laws_toFieldS.calls k _ _ l0 t1660 _ ?side1 ?side2 A5.out).mono ?_); (case side1 => exact cb HR0); (case side2 => exact HC0.out); rintro e w14 ⟨v1661, rfl, ho0, hb⟩; refine ⟨_, rfl, ?_⟩; have HO1662 := am (Kd.R_lower ho0 (below_size bl)); replace HB := am (below_step bl hb); (try clear hb); (try clear hb2); (try clear hk); (try clear hi); (try clear ho0); obtain ⟨Ao15, co15, eo15⟩ := Kd.R_slice HO1662.out; subst eo15) | ((with_reducible refine gate_callee (f := 92) rfl ?_); refine goesL_ (some 14) rfl rfl Tryd.func92 (by kernel_rfl) rfl #[.slice Ao15 t1660.length co15] rfl ma ?_; (with_reducible refine (spec_Life.calls k _ _ t1660 t1663 _ ?side1 ?side2 A6.out).mono ?_); (case side1 => exact rc HO1662); (case side2 => exact (Kd.R_reads' HO1662.out).2.1); rintro e w16 ⟨rfl, hb⟩; refine ⟨_, rfl, ?_⟩; replace HO1662 := kr HO1662 hb; replace HB := am (below_step bl hb); (try clear hb); (try clear hb2); (try clear hk); (try clear hi)) | ((with_reducible refine gate_callee (f := 19) rfl ?_); refine goesL_ (some 16) rfl rfl Tryd.func19 (by kernel_rfl) rfl #[.slice A0 l0.length c0] rfl ma ?_; (with_reducible refine (laws_toFieldS.calls k _ _ l0 t1664 _ ?side1 ?side2 A7.out).mono ?_); (case side1 => exact cb HR0); (case side2 => exact HC0.out); rintro e w17 ⟨v1665, rfl, ho0, hb⟩; refine ⟨_, rfl, ?_⟩; have HO1666 := am (Kd.R_lower (Kd.R_new' ho0 (Kd.R_lt (ro HO1662))) (below_size bl)); replace HO1662 := am (Kd.R_elder' (ro HO1662) (Kd.R_base ho0) hb); replace HB := am (below_step bl hb); (try clear hb); (try clear hb2); (try clear hk); (try clear hi); (try clear ho0); obtain ⟨Ao18, co18, eo18⟩ := Kd.R_slice HO1666.out; subst eo18) | ((with_reducible refine gate_callee (f := 93) rfl ?_); refine goesL_ (some 18) rfl rfl Tryd.func93 (by kernel_rfl) rfl #[.slice Ao18 t1664.length co18] rfl ma ?_; (with_reducible refine (impl_Life.calls k _ _ t1664 t1667 _ ?side1 ?side2 ?side3 ?side4 ?side5 A8.out).mono ?_); (case side1 => exact GLOBE.below HGE.out bl); (case side2 => exact GLOBM.below HGM.out bl); (case side3 => exact GLOBT.below HGT.out bl); (case side4 => exact rc HO1666); (case side5 => exact (Kd.R_reads' HO1666.out).2.1); rintro e w19 ⟨rfl, hb⟩; refine ⟨_, rfl, ?_⟩; replace HO1662 := kr HO1662 hb; replace HO1666 := kr HO1666 hb; replace HB := am (below_step bl hb); (try clear hb); (try clear hb2); (try clear hk); (try clear hi)) | ((with_reducible refine gate_callee (f := 19) rfl ?_); refine goesL_ (some 24) rfl rfl Tryd.func19 (by kernel_rfl) rfl #[.slice A0 l0.length c0] rfl ma ?_; (with_reducible refine (laws_toFieldS.calls k _ _ l0 t1668 _ ?side1 ?side2 A10.out).mono ?_); (case side1 => exact cb HR0); (case side2 => exact HC0.out); rintro e w20 ⟨v1669, rfl, ho0, hb⟩; refine ⟨_, rfl, ?_⟩; have HO1670 := am (Kd.R_lower (Kd.R_new' (Kd.R_new' ho0 (Kd.R_lt (ro HO1662))) (Kd.R_lt (ro HO1666))) (below_size bl)); replace HO1662 := am (Kd.R_elder' (ro HO1662) (Kd.R_base ho0) hb); replace HO1666 := am (Kd.R_elder' (ro HO1666) (Kd.R_base ho0) hb); replace HB := am (below_step bl hb); (try clear hb); (try clear hb2); (try clear hk); (try clear hi); (try clear ho0); obtain ⟨Ao21, co21, eo21⟩ := Kd.R_slice HO1670.out; subst eo21) | ((with_reducible refine gate_callee (f := 22) rfl ?_); refine goesL_ (some 25) rfl rfl Tryd.func22 (by kernel_rfl) rfl #[.slice Ao18 t1664.length co18, .slice Ao21 t1668.length co21] rfl ma ?_; (with_reducible refine (laws_eqFieldS.calls k _ _ t1664 _ _ t1668 true _ ?side1 ?side2 ?side3 ?side4 A11.out).mono ?_); (case side1 => exact rc HO1666); (case side2 => exact (Kd.R_reads' HO1666.out).2.1); (case side3 => exact rc HO1670); (case side4 => exact (Kd.R_reads' HO1670.out).2.1); rintro e w22 ⟨rfl, hb⟩; refine ⟨_, rfl, ?_⟩; replace HO1662 := kr HO1662 hb; replace HO1666 := kr HO1666 hb; replace HO1670 := kr HO1670 hb; replace HB := am (below_step bl hb); (try clear hb); (try clear hb2); (try clear hk); (try clear hi)))
    go_ret
    exact ⟨rf, bl⟩
   ·replace c12 := Bool.eq_false_iff.mpr c12
    subst c12
    have H1 : (some false) = some r := by rw [if_neg (show ¬ (false = true) by decide)] at H; exact H
    clear H
    have H := H1
    clear H1
    exact absurd (Option.some.inj H) (by rw [ht_]; decide)
  ·rw [if_neg c9] at H
   have c9b0 : (t1667 == t1663) = false := beq_eq_false_iff_ne.mpr c9
   have c9b1 : (t1667 != t1663) = true := bne_iff_ne.mpr c9
   exact absurd (Option.some.inj H) (by rw [ht_]; decide)

end Go.Proofs.YtiinmfjbildclaaDoor.All
