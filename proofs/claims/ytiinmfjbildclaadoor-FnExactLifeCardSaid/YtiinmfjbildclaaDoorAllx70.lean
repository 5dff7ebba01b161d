-- Written by a program of this session (wip/tools/hprint.py) out of the translation. Lean checks it.
import Derived.Test.YtiinmfjbildclaaDoorAllx0
import Derived.Test.YtiinmfjbildclaaDoorAllx5
import Derived.Test.YtiinmfjbildclaaDoorAllx66
import Derived.Test.YtiinmfjbildclaaDoorAllx67
namespace Go.Proofs.YtiinmfjbildclaaDoor.All
open Go.RowKit Go.Proofs.YtiinmfjbildclaaDoorW.PrintWords Go.Proofs.YtiinmfjbildclaaDoorW.PrintLast Go.Proofs.YtiinmfjbildclaaDoorW.PrintMore
attribute [local go_sem] max2_int min2_int max_two min_two max_three min_three max_four min_four   -- for this text's walks alone
set_option linter.unusedVariables false
set_option linter.unusedSimpArgs false

/-! ### spec_CcOf: function 94 -/
def spec_CcOf.f (k : Nat) (l0 : List (S114)) : Option (Bool × Bool × Bool × Bool × Bool × Int) := (spec_Get.f k l0 (⟨#[99, 97, 99, 104, 101, 45, 99, 111, 110, 116, 114, 111, 108]⟩ : ByteArray)).bind fun bt1630 => ((spec_CcRead.f k bt1630.1).bind fun bt1632 => (some (bt1632.1, bt1632.2.1, bt1632.2.2.1, bt1632.2.2.2.1, bt1632.2.2.2.2.1, bt1632.2.2.2.2.2)))
theorem spec_CcOf.mono : ∀ a0 k, LeO (spec_CcOf.f k a0) (spec_CcOf.f (k + 1) a0) := by
 intro a0 k
 unfold spec_CcOf.f
 repeat' first
   | (with_reducible exact spec_CcRead.mono _ _)
   | (with_reducible exact spec_Get.mono _ _ _)
   | (with_reducible exact LeO.refl _)
   | (with_reducible exact LeO.none _)
   | (with_reducible refine LeO.ite ?_ ?_)
   | (with_reducible refine LeO.bind ?_ (fun _ => ?_))
   | exact spec_CcRead.mono _ _
   | exact spec_Get.mono _ _ _
   | exact LeO.none _
   | refine LeO.ite ?_ ?_
   | refine LeO.bind ?_ (fun _ => ?_)
set_option maxHeartbeats 8000000 in
set_option maxRecDepth 100000 in
theorem spec_CcOf.calls (k : Nat) (A0 : Option Addr) (c0 : Nat) (l0 : List (S114)) (r1 : Bool) (r2 : Bool) (r3 : Bool) (r4 : Bool) (r5 : Bool) (r6 : Int) (w : World) (hr0 : Kd.C k114 w A0 l0.length l0) (hc0 : l0.length ≤ c0) (h : spec_CcOf.f k l0 = some (r1, r2, r3, r4, r5, r6)) :
  Calls Tryd.prog 94 #[.slice A0 l0.length c0] w fun e w' => e = .returned (.agg #[.bool r1, .bool r2, .bool r3, .bool r4, .bool r5, .int .i64 r6]) ∧ Below w.heap.size w w' := by
 have hu106 := Tryd.underlying106
 have HR0 := am hr0
 have HC0 := am hc0
 clear hr0 hc0
 have HB := am (Below.refl w.heap.size w)
 have H : ((spec_Get.f k l0 (⟨#[99, 97, 99, 104, 101, 45, 99, 111, 110, 116, 114, 111, 108]⟩ : ByteArray)).bind fun bt1630 => ((spec_CcRead.f k bt1630.1).bind fun bt1632 => (some (bt1632.1, bt1632.2.1, bt1632.2.2.1, bt1632.2.2.2.1, bt1632.2.2.2.2.1, bt1632.2.2.2.2.2)))) = some (r1, r2, r3, r4, r5, r6) := h
 clear h
 replace H := ob H
 obtain ⟨⟨t1630, t1631⟩, A20, H⟩ := H
 replace H : ((spec_CcRead.f k t1630).bind fun bt1632 => (some (bt1632.1, bt1632.2.1, bt1632.2.2.1, bt1632.2.2.2.1, bt1632.2.2.2.2.1, bt1632.2.2.2.2.2))) = some (r1, r2, r3, r4, r5, r6) := H
 have A2 := am A20
 clear A20
 replace H := ob H
 obtain ⟨⟨t1632, t1633, t1634, t1635, t1636, t1637⟩, A30, H⟩ := H
 replace H : (some (t1632, t1633, t1634, t1635, t1636, t1637)) = some (r1, r2, r3, r4, r5, r6) := H
 have A3 := am A30
 clear A30
 simp only [Option.some.injEq, Prod.mk.injEq] at H
 obtain ⟨rfl, rfl, rfl, rfl, rfl, rfl⟩ := H
 go_enter Tryd.func94, Tryd.ntmps94
 go_wp2_with (first | ((with_reducible refine gate_dst (N := 2) rfl ?_); refine box_event ?hg (N := 2) ?hd (cs := #[.bool false, .bool false, .bool false, .bool false, .bool false, .int .i64 0]) (t := 106) ?hr ?_; (case hd => rfl); (case hg => rfl); (case hr => first | (go_simp; done) | (go_simp; rfl)); intro gb1629 hg w4 hbox hb; have n0_ := am (below_step bl hb); have n1_ := am (hbox); have n2_ := am (sz hg : w.heap.size ≤ gb1629); have n3_ := am (sz hg : w.heap.size ≤ gb1629); clear HB; have HB := n0_; have BK1629 := n1_; have GW1629 := n2_; have GE1629 := n3_; clear n0_ n1_ n2_ n3_; clear hb hbox hg) | ((with_reducible refine gate_callee (f := 97) rfl ?_); refine goesL_ (some 7) rfl rfl Tryd.func97 (by kernel_rfl) rfl #[.slice A0 l0.length c0, .string (⟨#[99, 97, 99, 104, 101, 45, 99, 111, 110, 116, 114, 111, 108]⟩ : ByteArray)] rfl ma ?_; (with_reducible refine (spec_Get.calls k _ _ l0 (⟨#[99, 97, 99, 104, 101, 45, 99, 111, 110, 116, 114, 111, 108]⟩ : ByteArray) t1630 t1631 _ ?side1 ?side2 A2.out).mono ?_); (case side1 => exact cb HR0); (case side2 => exact HC0.out); rintro e w' ⟨rfl, ⟨nd, rfl⟩⟩; refine ⟨_, rfl, ?_⟩; (try (rw [drewN_self w4]; generalize hq_ : World.drewN w4 _ = w4; have n0_ : Aside0 (w4.heap[gb1629]? = some (.cells #[.bool false, .bool false, .bool false, .bool false, .bool false, .int .i64 0] 106 (0, 0))) := ⟨by rw [← hq_]; exact (bk BK1629)⟩; have n1_ : Aside0 (Below w.heap.size w w4) := ⟨by rw [← hq_]; exact bl⟩; clear BK1629 HB hq_; have BK1629 := n0_; have HB := n1_; clear n0_ n1_))) | ((with_reducible refine gate_callee (f := 89) rfl ?_); refine goesL_ (some 11) rfl rfl Tryd.func89 (by kernel_rfl) rfl #[.string t1630] rfl ma ?_; (with_reducible refine (spec_CcRead.calls k t1630 t1632 t1633 t1634 t1635 t1636 t1637 _ A3.out).mono ?_); rintro e w5 ⟨rfl, hb⟩; refine ⟨_, rfl, ?_⟩; replace BK1629 := kb BK1629 hb; replace HB := am (below_step bl hb); (try clear hb); (try clear hb2); (try clear hk); (try clear hi); have hcz6_0 : w5.cell? ⟨gb1629, 0, none⟩ = some (.bool false) := bc BK1629; have hcz6_1 : w5.cell? ⟨gb1629, 1, none⟩ = some (.bool false) := bc BK1629; have hcz6_2 : w5.cell? ⟨gb1629, 2, none⟩ = some (.bool false) := bc BK1629; have hcz6_3 : w5.cell? ⟨gb1629, 3, none⟩ = some (.bool false) := bc BK1629; have hcz6_4 : w5.cell? ⟨gb1629, 4, none⟩ = some (.bool false) := bc BK1629; have hcz6_5 : w5.cell? ⟨gb1629, 5, none⟩ = some (.int .i64 0) := bc BK1629; have hfz6_0 := blk_frozen BK1629.out 0; have hfz6_1 := blk_frozen BK1629.out 1; have hfz6_2 := blk_frozen BK1629.out 2; have hfz6_3 := blk_frozen BK1629.out 3; have hfz6_4 := blk_frozen BK1629.out 4; have hfz6_5 := blk_frozen BK1629.out 5))
 refine bodyPost_ret (results_cell_row rfl _ _ gb1629 106 #[.bool t1632, .bool t1633, .bool t1634, .bool t1635, .bool t1636, .int .i64 t1637] (0, 0) _ rfl (by (with_reducible repeat (first | refine blk_drewN ?_ _ | refine blk_drew ?_ | refine blk_alloc ?_ _)); refine blk_put (cs := #[.bool t1632, .bool t1633, .bool t1634, .bool t1635, .bool t1636, .int .i64 0]) ?_ 5 _ rfl; (with_reducible repeat (first | refine blk_drewN ?_ _ | refine blk_drew ?_ | refine blk_alloc ?_ _)); refine blk_put (cs := #[.bool t1632, .bool t1633, .bool t1634, .bool t1635, .bool false, .int .i64 0]) ?_ 4 _ rfl; (with_reducible repeat (first | refine blk_drewN ?_ _ | refine blk_drew ?_ | refine blk_alloc ?_ _)); refine blk_put (cs := #[.bool t1632, .bool t1633, .bool t1634, .bool false, .bool false, .int .i64 0]) ?_ 3 _ rfl; (with_reducible repeat (first | refine blk_drewN ?_ _ | refine blk_drew ?_ | refine blk_alloc ?_ _)); refine blk_put (cs := #[.bool t1632, .bool t1633, .bool false, .bool false, .bool false, .int .i64 0]) ?_ 2 _ rfl; (with_reducible repeat (first | refine blk_drewN ?_ _ | refine blk_drew ?_ | refine blk_alloc ?_ _)); refine blk_put (cs := #[.bool t1632, .bool false, .bool false, .bool false, .bool false, .int .i64 0]) ?_ 1 _ rfl; (with_reducible repeat (first | refine blk_drewN ?_ _ | refine blk_drew ?_ | refine blk_alloc ?_ _)); refine blk_put (cs := #[.bool false, .bool false, .bool false, .bool false, .bool false, .int .i64 0]) ?_ 0 _ rfl; (with_reducible repeat (first | refine blk_drewN ?_ _ | refine blk_drew ?_ | refine blk_alloc ?_ _)); exact BK1629.out) Tryd.underlying106 rfl (by kernel_rfl)) rfl ?_
 exact ⟨rf, bl⟩

/-! ### impl_CcOf: function 95 -/
def impl_CcOf.f (k : Nat) (l0 : List (S114)) : Option (Bool × Bool × Bool × Bool × Bool × Int) := (impl_Get.f l0 (⟨#[99, 97, 99, 104, 101, 45, 99, 111, 110, 116, 114, 111, 108]⟩ : ByteArray)).bind fun bt1645 => ((impl_CcRead.f k bt1645.1).bind fun bt1647 => (some (bt1647.1, bt1647.2.1, bt1647.2.2.1, bt1647.2.2.2.1, bt1647.2.2.2.2.1, bt1647.2.2.2.2.2)))
theorem impl_CcOf.mono : ∀ a0 k, LeO (impl_CcOf.f k a0) (impl_CcOf.f (k + 1) a0) := by
 intro a0 k
 unfold impl_CcOf.f
 repeat' first
   | (with_reducible exact impl_CcRead.mono _ _)
   | (with_reducible exact LeO.refl _)
   | (with_reducible exact LeO.none _)
   | (with_reducible refine LeO.ite ?_ ?_)
   | (with_reducible refine LeO.bind ?_ (fun _ => ?_))
   | exact impl_CcRead.mono _ _
   | exact LeO.none _
   | refine LeO.ite ?_ ?_
   | refine LeO.bind ?_ (fun _ => ?_)
set_option maxHeartbeats 8000000 in
set_option maxRecDepth 100000 in
theorem impl_CcOf.calls (k : Nat) (A0 : Option Addr) (c0 : Nat) (l0 : List (S114)) (r1 : Bool) (r2 : Bool) (r3 : Bool) (r4 : Bool) (r5 : Bool) (r6 : Int) (w : World) (hGE : GLOBE w) (hGM : GLOBM w) (hGT : GLOBT w) (hr0 : Kd.C k114 w A0 l0.length l0) (hc0 : l0.length ≤ c0) (h : impl_CcOf.f k l0 = some (r1, r2, r3, r4, r5, r6)) :
  Calls Tryd.prog 95 #[.slice A0 l0.length c0] w fun e w' => e = .returned (.agg #[.bool r1, .bool r2, .bool r3, .bool r4, .bool r5, .int .i64 r6]) ∧ Below w.heap.size w w' := by
 have hu106 := Tryd.underlying106
 have HR0 := am hr0
 have HC0 := am hc0
 clear hr0 hc0
 have HGE := am hGE
 clear hGE
 have HGM := am hGM
 clear hGM
 have HGT := am hGT
 clear hGT
 have HB := am (Below.refl w.heap.size w)
 have H : ((impl_Get.f l0 (⟨#[99, 97, 99, 104, 101, 45, 99, 111, 110, 116, 114, 111, 108]⟩ : ByteArray)).bind fun bt1645 => ((impl_CcRead.f k bt1645.1).bind fun bt1647 => (some (bt1647.1, bt1647.2.1, bt1647.2.2.1, bt1647.2.2.2.1, bt1647.2.2.2.2.1, bt1647.2.2.2.2.2)))) = some (r1, r2, r3, r4, r5, r6) := h
 clear h
 replace H := ob H
 obtain ⟨⟨t1645, t1646⟩, A20, H⟩ := H
 replace H : ((impl_CcRead.f k t1645).bind fun bt1647 => (some (bt1647.1, bt1647.2.1, bt1647.2.2.1, bt1647.2.2.2.1, bt1647.2.2.2.2.1, bt1647.2.2.2.2.2))) = some (r1, r2, r3, r4, r5, r6) := H
 have A2 := am A20
 clear A20
 replace H := ob H
 obtain ⟨⟨t1647, t1648, t1649, t1650, t1651, t1652⟩, A30, H⟩ := H
 replace H : (some (t1647, t1648, t1649, t1650, t1651, t1652)) = some (r1, r2, r3, r4, r5, r6) := H
 have A3 := am A30
 clear A30
 simp only [Option.some.injEq, Prod.mk.injEq] at H
 obtain ⟨rfl, rfl, rfl, rfl, rfl, rfl⟩ := H
 go_enter Tryd.func95, Tryd.ntmps95
 go_wp2_with (first | ((with_reducible refine gate_dst (N := 2) rfl ?_); refine box_event ?hg (N := 2) ?hd (cs := #[.bool false, .bool false, .bool false, .bool false, .bool false, .int .i64 0]) (t := 106) ?hr ?_; (case hd => rfl); (case hg => rfl); (case hr => first | (go_simp; done) | (go_simp; rfl)); intro gb1644 hg w4 hbox hb; have n0_ := am (below_step bl hb); have n1_ := am (hbox); have n2_ := am (sz hg : w.heap.size ≤ gb1644); have n3_ := am (sz hg : w.heap.size ≤ gb1644); clear HB; have HB := n0_; have BK1644 := n1_; have GW1644 := n2_; have GE1644 := n3_; clear n0_ n1_ n2_ n3_; clear hb hbox hg) | ((with_reducible refine gate_callee (f := 39) rfl ?_); refine goesL_ (some 7) rfl rfl Tryd.func39 (by kernel_rfl) rfl #[.slice A0 l0.length c0, .string (⟨#[99, 97, 99, 104, 101, 45, 99, 111, 110, 116, 114, 111, 108]⟩ : ByteArray)] rfl ma ?_; (with_reducible refine (impl_Get.calls _ _ l0 (⟨#[99, 97, 99, 104, 101, 45, 99, 111, 110, 116, 114, 111, 108]⟩ : ByteArray) t1645 t1646 _ ?side1 ?side2 A2.out).mono ?_); (case side1 => exact cb HR0); (case side2 => exact HC0.out); rintro e w5 ⟨rfl, hb⟩; refine ⟨_, rfl, ?_⟩; replace BK1644 := kb BK1644 hb; replace HB := am (below_step bl hb); (try clear hb); (try clear hb2); (try clear hk); (try clear hi)) | ((with_reducible refine gate_callee (f := 90) rfl ?_); refine goesL_ (some 11) rfl rfl Tryd.func90 (by kernel_rfl) rfl #[.string t1645] rfl ma ?_; (with_reducible refine (impl_CcRead.calls k t1645 t1647 t1648 t1649 t1650 t1651 t1652 _ ?side1 ?side2 ?side3 A3.out).mono ?_); (case side1 => exact GLOBE.below HGE.out bl); (case side2 => exact GLOBM.below HGM.out bl); (case side3 => exact GLOBT.below HGT.out bl); rintro e w6 ⟨rfl, hb⟩; refine ⟨_, rfl, ?_⟩; replace BK1644 := kb BK1644 hb; replace HB := am (below_step bl hb); (try clear hb); (try clear hb2); (try clear hk); (try clear hi); have hcz7_0 : w6.cell? ⟨gb1644, 0, none⟩ = some (.bool false) := bc BK1644; have hcz7_1 : w6.cell? ⟨gb1644, 1, none⟩ = some (.bool false) := bc BK1644; have hcz7_2 : w6.cell? ⟨gb1644, 2, none⟩ = some (.bool false) := bc BK1644; have hcz7_3 : w6.cell? ⟨gb1644, 3, none⟩ = some (.bool false) := bc BK1644; have hcz7_4 : w6.cell? ⟨gb1644, 4, none⟩ = some (.bool false) := bc BK1644; have hcz7_5 : w6.cell? ⟨gb1644, 5, none⟩ = some (.int .i64 0) := bc BK1644; have hfz7_0 := blk_frozen BK1644.out 0; have hfz7_1 := blk_frozen BK1644.out 1; have hfz7_2 := blk_frozen BK1644.out 2; have hfz7_3 := blk_frozen BK1644.out 3; have hfz7_4 := blk_frozen BK1644.out 4; have hfz7_5 := blk_frozen BK1644.out 5))
 refine bodyPost_ret (results_cell_row rfl _ _ gb1644 106 #[.bool t1647, .bool t1648, .bool t1649, .bool t1650, .bool t1651, .int .i64 t1652] (0, 0) _ rfl (by (with_reducible repeat (first | refine blk_drewN ?_ _ | refine blk_drew ?_ | refine blk_alloc ?_ _)); refine blk_put (cs := #[.bool t1647, .bool t1648, .bool t1649, .bool t1650, .bool t1651, .int .i64 0]) ?_ 5 _ rfl; (with_reducible repeat (first | refine blk_drewN ?_ _ | refine blk_drew ?_ | refine blk_alloc ?_ _)); refine blk_put (cs := #[.bool t1647, .bool t1648, .bool t1649, .bool t1650, .bool false, .int .i64 0]) ?_ 4 _ rfl; (with_reducible repeat (first | refine blk_drewN ?_ _ | refine blk_drew ?_ | refine blk_alloc ?_ _)); refine blk_put (cs := #[.bool t1647, .bool t1648, .bool t1649, .bool false, .bool false, .int .i64 0]) ?_ 3 _ rfl; (with_reducible repeat (first | refine blk_drewN ?_ _ | refine blk_drew ?_ | refine blk_alloc ?_ _)); refine blk_put (cs := #[.bool t1647, .bool t1648, .bool false, .bool false, .bool false, .int .i64 0]) ?_ 2 _ rfl; (with_reducible repeat (first | refine blk_drewN ?_ _ | refine blk_drew ?_ | refine blk_alloc ?_ _)); refine blk_put (cs := #[.bool t1647, .bool false, .bool false, .bool false, .bool false, .int .i64 0]) ?_ 1 _ rfl; (with_reducible repeat (first | refine blk_drewN ?_ _ | refine blk_drew ?_ | refine blk_alloc ?_ _)); refine blk_put (cs := #[.bool false, .bool false, .bool false, .bool false, .bool false, .int .i64 0]) ?_ 0 _ rfl; (with_reducible repeat (first | refine blk_drewN ?_ _ | refine blk_drew ?_ | refine blk_alloc ?_ _)); exact BK1644.out) Tryd.underlying106 rfl (by kernel_rfl)) rfl ?_
 exact ⟨rf, bl⟩

end Go.Proofs.YtiinmfjbildclaaDoor.All
