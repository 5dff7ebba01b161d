-- Written by a program of this session (wip/tools/hprint.py) out of the translation. Lean checks it.
import Derived.Test.YtiinmfjbildclaaDoorAllx0
import Derived.Test.YtiinmfjbildclaaDoorAllx66
import Derived.Test.YtiinmfjbildclaaDoorAllx67
import Derived.Test.YtiinmfjbildclaaDoorAllx68
namespace Go.Proofs.YtiinmfjbildclaaDoor.All
open Go.RowKit Go.Proofs.YtiinmfjbildclaaDoorW.PrintWords Go.Proofs.YtiinmfjbildclaaDoorW.PrintLast Go.Proofs.YtiinmfjbildclaaDoorW.PrintMore
attribute [local go_sem] max2_int min2_int max_two min_two max_three min_three max_four min_four   -- for this text's walks alone
set_option linter.unusedVariables false
set_option linter.unusedSimpArgs false

/-! ### laws_FnExactCcRead: function 14 -/
def laws_FnExactCcRead.f (k : Nat) (a0 : ByteArray) : Option (Bool) := if (a0.size : Int) > 1048576 then (some true) else ((spec_CcRead.f k a0).bind fun bt1614 => ((impl_CcRead.f k a0).bind fun bt1621 => ((laws_eqCc.f bt1621.1 bt1621.2.1 bt1621.2.2.1 bt1621.2.2.2.1 bt1621.2.2.2.2.1 bt1621.2.2.2.2.2 bt1614.1 bt1614.2.1 bt1614.2.2.1 bt1614.2.2.2.1 bt1614.2.2.2.2.1 bt1614.2.2.2.2.2).bind fun t1628 => (if t1628 = true then (some true) else (some false)))))
theorem laws_FnExactCcRead.mono : ∀ a0 k, LeO (laws_FnExactCcRead.f k a0) (laws_FnExactCcRead.f (k + 1) a0) := by
 intro a0 k
 unfold laws_FnExactCcRead.f
 repeat' first
   | (with_reducible exact impl_CcRead.mono _ _)
   | (with_reducible exact spec_CcRead.mono _ _)
   | (with_reducible exact LeO.refl _)
   | (with_reducible exact LeO.none _)
   | (with_reducible refine LeO.ite ?_ ?_)
   | (with_reducible refine LeO.bind ?_ (fun _ => ?_))
   | exact impl_CcRead.mono _ _
   | exact spec_CcRead.mono _ _
   | exact LeO.none _
   | refine LeO.ite ?_ ?_
   | refine LeO.bind ?_ (fun _ => ?_)
set_option maxHeartbeats 8000000 in
set_option maxRecDepth 100000 in
theorem laws_FnExactCcRead.calls (k : Nat) (a0 : ByteArray) (r : Bool) (w : World) (hGE : GLOBE w) (hGM : GLOBM w) (hGT : GLOBT w) (ht_ : r = true) (h : laws_FnExactCcRead.f k a0 = some r) :
  Calls Tryd.prog 14 #[.string a0] w fun e w' => e = .returned (.bool r) ∧ Below w.heap.size w w' := by
 have hu106 := Tryd.underlying106
 have HGE := am hGE
 clear hGE
 have HGM := am hGM
 clear hGM
 have HGT := am hGT
 clear hGT
 have HB := am (Below.refl w.heap.size w)
 have H : (if (a0.size : Int) > 1048576 then (some true) else ((spec_CcRead.f k a0).bind fun bt1614 => ((impl_CcRead.f k a0).bind fun bt1621 => ((laws_eqCc.f bt1621.1 bt1621.2.1 bt1621.2.2.1 bt1621.2.2.2.1 bt1621.2.2.2.2.1 bt1621.2.2.2.2.2 bt1614.1 bt1614.2.1 bt1614.2.2.1 bt1614.2.2.2.1 bt1614.2.2.2.2.1 bt1614.2.2.2.2.2).bind fun t1628 => (if t1628 = true then (some true) else (some false)))))) = some r := h
 clear h
 by_cases c2 : (a0.size : Int) > 1048576
 ·rw [if_pos c2] at H
  have c2b0 : decide (1048576 < (a0.size : Int)) = true := decide_eq_true c2
  have c2b1 : decide (1048576 < a0.size) = true := decide_eq_true (by omega)
  clear c2
  obtain rfl := Option.some.inj H
  go_enter Tryd.func14, Tryd.ntmps14
  go_wp2
  go_ret
  exact ⟨rf, bl⟩
 ·rw [if_neg c2] at H
  have c2b0 : decide (1048576 < (a0.size : Int)) = false := decide_eq_false c2
  have c2b1 : decide (1048576 < a0.size) = false := decide_eq_false (by omega)
  clear c2
  replace H := ob H
  obtain ⟨⟨t1614, t1615, t1616, t1617, t1618, t1619⟩, A30, H⟩ := H
  replace H : ((impl_CcRead.f k a0).bind fun bt1621 => ((laws_eqCc.f bt1621.1 bt1621.2.1 bt1621.2.2.1 bt1621.2.2.2.1 bt1621.2.2.2.2.1 bt1621.2.2.2.2.2 t1614 t1615 t1616 t1617 t1618 t1619).bind fun t1628 => (if t1628 = true then (some true) else (some false)))) = some r := H
  have A3 := am A30
  clear A30
  replace H := ob H
  obtain ⟨⟨t1621, t1622, t1623, t1624, t1625, t1626⟩, A40, H⟩ := H
  replace H : ((laws_eqCc.f t1621 t1622 t1623 t1624 t1625 t1626 t1614 t1615 t1616 t1617 t1618 t1619).bind fun t1628 => (if t1628 = true then (some true) else (some false))) = some r := H
  have A4 := am A40
  clear A40
  replace H := ob H
  obtain ⟨t1628, A50, H⟩ := H
  replace H : (if t1628 = true then (some true) else (some false)) = some r := H
  have A5 := am A50
  clear A50
  by_cases c6 : t1628 = true
  ·subst c6
   have H1 : (some true) = some r := by rw [if_pos rfl] at H; exact H
   clear H
   have H := H1
   clear H1
   obtain rfl := Option.some.inj H
   go_enter Tryd.func14, Tryd.ntmps14
   go_wp2_with (first | ((with_reducible refine gate_callee (f := 89) rfl ?_); refine goesL_ (some 9) rfl rfl Tryd.func89 (by kernel_rfl) rfl #[.string a0] rfl ma ?_; (with_reducible refine (spec_CcRead.calls k a0 t1614 t1615 t1616 t1617 t1618 t1619 _ A3.out).mono ?_); rintro e w7 ⟨rfl, hb⟩; refine ⟨_, rfl, ?_⟩; replace HB := am (below_step bl hb); (try clear hb); (try clear hb2); (try clear hk); (try clear hi)) | ((with_reducible refine gate_dst (N := 3) rfl ?_); refine box_event ?hg (N := 3) ?hd (cs := #[.bool false, .bool false, .bool false, .bool false, .bool false, .int .i64 0]) (t := 106) ?hr ?_; (case hd => rfl); (case hg => rfl); (case hr => first | (go_simp; done) | (go_simp; rfl)); intro gb1620 hg w8 hbox hb; have n0_ := am (below_step bl hb); have n1_ := am (hbox); have n2_ := am (sz hg : w.heap.size ≤ gb1620); have n3_ := am (sz hg : w.heap.size ≤ gb1620); clear HB; have HB := n0_; have BK1620 := n1_; have GW1620 := n2_; have GE1620 := n3_; clear n0_ n1_ n2_ n3_; clear hb hbox hg; have hcz9_0 : w8.cell? ⟨gb1620, 0, none⟩ = some (.bool false) := bc BK1620; have hcz9_1 : w8.cell? ⟨gb1620, 1, none⟩ = some (.bool false) := bc BK1620; have hcz9_2 : w8.cell? ⟨gb1620, 2, none⟩ = some (.bool false) := bc BK1620; have hcz9_3 : w8.cell? ⟨gb1620, 3, none⟩ = some (.bool false) := bc BK1620; have hcz9_4 : w8.cell? ⟨gb1620, 4, none⟩ = some (.bool false) := bc BK1620; have hcz9_5 : w8.cell? ⟨gb1620, 5, none⟩ = some (.int .i64 0) := bc BK1620; have hfz9_0 := blk_frozen BK1620.out 0; have hfz9_1 := blk_frozen BK1620.out 1; have hfz9_2 := blk_frozen BK1620.out 2; have hfz9_3 := blk_frozen BK1620.out 3; have hfz9_4 := blk_frozen BK1620.out 4; have hfz9_5 := blk_frozen BK1620.out 5) | ((with_reducible refine gate_callee (f := 90) rfl ?_); refine goesL_ (some 11) rfl rfl Tryd.func90 (by kernel_rfl) rfl #[.string a0] rfl ma ?_; (with_reducible refine (impl_CcRead.calls k a0 t1621 t1622 t1623 t1624 t1625 t1626 _ ?side1 ?side2 ?side3 A4.out).mono ?_); (case side1 => exact GLOBE.below HGE.out bl); (case side2 => exact GLOBM.below HGM.out bl); (case side3 => exact GLOBT.below HGT.out bl); rintro e w10 ⟨rfl, hb⟩; refine ⟨_, rfl, ?_⟩; have n0_ := am (blk_below (g := gb1620) (o := .cells #[.bool t1614, .bool t1615, .bool t1616, .bool t1617, .bool t1618, .int .i64 t1619] 106 (0, 0)) (by (with_reducible repeat (first | refine blk_drewN ?_ _ | refine blk_drew ?_ | refine blk_alloc ?_ _)); refine blk_put (cs := #[.bool t1614, .bool t1615, .bool t1616, .bool t1617, .bool t1618, .int .i64 0]) ?_ 5 _ rfl; (with_reducible repeat (first | refine blk_drewN ?_ _ | refine blk_drew ?_ | refine blk_alloc ?_ _)); refine blk_put (cs := #[.bool t1614, .bool t1615, .bool t1616, .bool t1617, .bool false, .int .i64 0]) ?_ 4 _ rfl; (with_reducible repeat (first | refine blk_drewN ?_ _ | refine blk_drew ?_ | refine blk_alloc ?_ _)); refine blk_put (cs := #[.bool t1614, .bool t1615, .bool t1616, .bool false, .bool false, .int .i64 0]) ?_ 3 _ rfl; (with_reducible repeat (first | refine blk_drewN ?_ _ | refine blk_drew ?_ | refine blk_alloc ?_ _)); refine blk_put (cs := #[.bool t1614, .bool t1615, .bool false, .bool false, .bool false, .int .i64 0]) ?_ 2 _ rfl; (with_reducible repeat (first | refine blk_drewN ?_ _ | refine blk_drew ?_ | refine blk_alloc ?_ _)); refine blk_put (cs := #[.bool t1614, .bool false, .bool false, .bool false, .bool false, .int .i64 0]) ?_ 1 _ rfl; (with_reducible repeat (first | refine blk_drewN ?_ _ | refine blk_drew ?_ | refine blk_alloc ?_ _)); refine blk_put (cs := #[.bool false, .bool false, .bool false, .bool false, .bool false, .int .i64 0]) ?_ 0 _ rfl; (with_reducible repeat (first | refine blk_drewN ?_ _ | refine blk_drew ?_ | refine blk_alloc ?_ _)); exact BK1620.out) hb); have n1_ := am (below_step bl hb); clear BK1620; clear HB; have BK1620 := n0_; have HB := n1_; clear n0_ n1_; (try clear hb); (try clear hb2); (try clear hk); (try clear hi)) | ((with_reducible refine gate_dst (N := 4) rfl ?_); refine box_event ?hg (N := 4) ?hd (cs := #[.bool false, .bool false, .bool false, .bool false, .bool false, .int .i64 0]) (t := 106) ?hr ?_; (case hd => rfl); (case hg => rfl); (case hr => first | (go_simp; done) | (go_simp; rfl)); intro gb1627 hg w11 hbox hb; have n0_ := kb BK1620 hb; have n1_ := am (below_step bl hb); have n2_ := am (hbox); have n3_ := am (sz hg : w.heap.size ≤ gb1627); have n4_ := am (sz hg : w.heap.size ≤ gb1627); have n5_ := am (nl hg BK1620 : gb1620 ≠ gb1627); have n6_ := am (ng hg BK1620 : gb1627 ≠ gb1620); clear BK1620; clear HB; have BK1620 := n0_; have HB := n1_; have BK1627 := n2_; have GW1627 := n3_; have GE1627 := n4_; have NB1620_1627 := n5_; have NB1627_1620 := n6_; clear n0_ n1_ n2_ n3_ n4_ n5_ n6_; clear hb hbox hg; have hnb12 := NB1627_1620.out; have hnc12 := NB1620_1627.out; have hcz13_0 : w11.cell? ⟨gb1627, 0, none⟩ = some (.bool false) := bc BK1627; have hcz13_1 : w11.cell? ⟨gb1627, 1, none⟩ = some (.bool false) := bc BK1627; have hcz13_2 : w11.cell? ⟨gb1627, 2, none⟩ = some (.bool false) := bc BK1627; have hcz13_3 : w11.cell? ⟨gb1627, 3, none⟩ = some (.bool false) := bc BK1627; have hcz13_4 : w11.cell? ⟨gb1627, 4, none⟩ = some (.bool false) := bc BK1627; have hcz13_5 : w11.cell? ⟨gb1627, 5, none⟩ = some (.int .i64 0) := bc BK1627; have hfz13_0 := blk_frozen BK1627.out 0; have hfz13_1 := blk_frozen BK1627.out 1; have hfz13_2 := blk_frozen BK1627.out 2; have hfz13_3 := blk_frozen BK1627.out 3; have hfz13_4 := blk_frozen BK1627.out 4; have hfz13_5 := blk_frozen BK1627.out 5; have hcz14_0 : w11.cell? ⟨gb1620, 0, none⟩ = some (.bool t1614) := bc BK1620; have hcz14_1 : w11.cell? ⟨gb1620, 1, none⟩ = some (.bool t1615) := bc BK1620; have hcz14_2 : w11.cell? ⟨gb1620, 2, none⟩ = some (.bool t1616) := bc BK1620; have hcz14_3 : w11.cell? ⟨gb1620, 3, none⟩ = some (.bool t1617) := bc BK1620; have hcz14_4 : w11.cell? ⟨gb1620, 4, none⟩ = some (.bool t1618) := bc BK1620; have hcz14_5 : w11.cell? ⟨gb1620, 5, none⟩ = some (.int .i64 t1619) := bc BK1620; have hfz14_0 := blk_frozen BK1620.out 0; have hfz14_1 := blk_frozen BK1620.out 1; have hfz14_2 := blk_frozen BK1620.out 2; have hfz14_3 := blk_frozen BK1620.out 3; have hfz14_4 := blk_frozen BK1620.out 4; have hfz14_5 := blk_frozen BK1620.out 5) | ((with_reducible refine gate_callee (f := 91) rfl ?_); refine goesL_ (some 14) rfl rfl Tryd.func91 (by kernel_rfl) rfl #[.agg #[.bool t1621, .bool t1622, .bool t1623, .bool t1624, .bool t1625, .int .i64 t1626], .agg #[.bool t1614, .bool t1615, .bool t1616, .bool t1617, .bool t1618, .int .i64 t1619]] rfl ma ?_; (with_reducible refine (laws_eqCc.calls t1621 t1622 t1623 t1624 t1625 t1626 t1614 t1615 t1616 t1617 t1618 t1619 true _ A5.out).mono ?_); rintro e w15 ⟨rfl, hb⟩; refine ⟨_, rfl, ?_⟩; have n0_ := kf BK1620 hb; have n1_ := am (blk_below (g := gb1627) (o := .cells #[.bool t1621, .bool t1622, .bool t1623, .bool t1624, .bool t1625, .int .i64 t1626] 106 (0, 0)) (by (with_reducible repeat (first | refine blk_drewN ?_ _ | refine blk_drew ?_ | refine blk_alloc ?_ _)); refine blk_put (cs := #[.bool t1621, .bool t1622, .bool t1623, .bool t1624, .bool t1625, .int .i64 0]) ?_ 5 _ rfl; (with_reducible repeat (first | refine blk_drewN ?_ _ | refine blk_drew ?_ | refine blk_alloc ?_ _)); refine blk_put (cs := #[.bool t1621, .bool t1622, .bool t1623, .bool t1624, .bool false, .int .i64 0]) ?_ 4 _ rfl; (with_reducible repeat (first | refine blk_drewN ?_ _ | refine blk_drew ?_ | refine blk_alloc ?_ _)); refine blk_put (cs := #[.bool t1621, .bool t1622, .bool t1623, .bool false, .bool false, .int .i64 0]) ?_ 3 _ rfl; (with_reducible repeat (first | refine blk_drewN ?_ _ | refine blk_drew ?_ | refine blk_alloc ?_ _)); refine blk_put (cs := #[.bool t1621, .bool t1622, .bool false, .bool false, .bool false, .int .i64 0]) ?_ 2 _ rfl; (with_reducible repeat (first | refine blk_drewN ?_ _ | refine blk_drew ?_ | refine blk_alloc ?_ _)); refine blk_put (cs := #[.bool t1621, .bool false, .bool false, .bool false, .bool false, .int .i64 0]) ?_ 1 _ rfl; (with_reducible repeat (first | refine blk_drewN ?_ _ | refine blk_drew ?_ | refine blk_alloc ?_ _)); refine blk_put (cs := #[.bool false, .bool false, .bool false, .bool false, .bool false, .int .i64 0]) ?_ 0 _ rfl; (with_reducible repeat (first | refine blk_drewN ?_ _ | refine blk_drew ?_ | refine blk_alloc ?_ _)); exact BK1627.out) hb); have n2_ := am (below_step bl hb); clear BK1620; clear BK1627; clear HB; have BK1620 := n0_; have BK1627 := n1_; have HB := n2_; clear n0_ n1_ n2_; (try clear hb); (try clear hb2); (try clear hk); (try clear hi)))
   go_ret
   exact ⟨rf, bl⟩
  ·replace c6 := Bool.eq_false_iff.mpr c6
   subst c6
   have H1 : (some false) = some r := by rw [if_neg (show ¬ (false = true) by decide)] at H; exact H
   clear H
   have H := H1
   clear H1
   exact absurd (Option.some.inj H) (by rw [ht_]; decide)

end Go.Proofs.YtiinmfjbildclaaDoor.All
