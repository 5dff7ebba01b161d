-- Written by a program of this session (wip/tools/hprint.py) out of the translation. Lean checks it.
import Derived.Test.YtiinmfjbildclaaDoorAllx0
import Derived.Test.YtiinmfjbildclaaDoorAllx1
import Derived.Test.YtiinmfjbildclaaDoorAllx9
import Derived.Test.YtiinmfjbildclaaDoorAllx12
import Derived.Test.YtiinmfjbildclaaDoorAllx21
namespace Go.Proofs.YtiinmfjbildclaaDoor.All
open Go.RowKit Go.Proofs.YtiinmfjbildclaaDoorW.PrintWords Go.Proofs.YtiinmfjbildclaaDoorW.PrintLast Go.Proofs.YtiinmfjbildclaaDoorW.PrintMore
attribute [local go_sem] max2_int min2_int max_two min_two max_three min_three max_four min_four   -- for this text's walks alone
set_option linter.unusedVariables false
set_option linter.unusedSimpArgs false

/-! ### laws_szResp: function 41 -/
def laws_szResp.f (k : Nat) (a0_0 : Int) (l0_1 : List (S113)) (a0_2 : ByteArray) (a1 : Int) : Option (Int) := (laws_szFieldS.f k l0_1 a1).bind fun t862 => (if t862 < 0 then (some (-1)) else (if (wrap64 (t862 - (a0_2.size : Int))) < 0 then (some (-1)) else (some (wrap64 (t862 - (a0_2.size : Int))))))
theorem laws_szResp.mono : ∀ a0 a1 a2 a3 k, LeO (laws_szResp.f k a0 a1 a2 a3) (laws_szResp.f (k + 1) a0 a1 a2 a3) := by
 intro a0 a1 a2 a3 k
 unfold laws_szResp.f
 repeat' first
   | (with_reducible exact laws_szFieldS.mono _ _ _)
   | (with_reducible exact LeO.refl _)
   | (with_reducible exact LeO.none _)
   | (with_reducible refine LeO.ite ?_ ?_)
   | (with_reducible refine LeO.bind ?_ (fun _ => ?_))
   | exact laws_szFieldS.mono _ _ _
   | exact LeO.none _
   | refine LeO.ite ?_ ?_
   | refine LeO.bind ?_ (fun _ => ?_)
set_option maxHeartbeats 8000000 in
set_option maxRecDepth 100000 in
theorem laws_szResp.calls (k : Nat) (a0_0 : Int) (A0_1 : Option Addr) (c0_1 : Nat) (l0_1 : List (S113)) (a0_2 : ByteArray) (a1 : Int) (r : Int) (w : World) (hr0_1 : Kd.C k113 w A0_1 l0_1.length l0_1) (hc0_1 : l0_1.length ≤ c0_1) (h : laws_szResp.f k a0_0 l0_1 a0_2 a1 = some r) :
  Calls Tryd.prog 41 #[.agg #[.int .i64 a0_0, .slice A0_1 l0_1.length c0_1, .string a0_2], .int .i64 a1] w fun e w' => e = .returned (.int .i64 r) ∧ Below w.heap.size w w' := by
 have hu51 := Tryd.underlying51
 have HR0_1 := am hr0_1
 have HC0_1 := am hc0_1
 clear hr0_1 hc0_1
 have HB := am (Below.refl w.heap.size w)
 have H : ((laws_szFieldS.f k l0_1 a1).bind fun t862 => (if t862 < 0 then (some (-1)) else (if (wrap64 (t862 - (a0_2.size : Int))) < 0 then (some (-1)) else (some (wrap64 (t862 - (a0_2.size : Int))))))) = some r := h
 clear h
 replace H := ob H
 obtain ⟨t862, A30, H⟩ := H
 replace H : (if t862 < 0 then (some (-1)) else (if (wrap64 (t862 - (a0_2.size : Int))) < 0 then (some (-1)) else (some (wrap64 (t862 - (a0_2.size : Int)))))) = some r := H
 have A3 := am A30
 clear A30
 by_cases c4 : t862 < 0
 ·rw [if_pos c4] at H
  have c4b0 : decide (t862 < 0) = true := decide_eq_true c4
  clear c4
  obtain rfl := Option.some.inj H
  go_enter Tryd.func41, Tryd.ntmps41
  go_wp2_with (first | ((with_reducible refine gate_dst (N := 2) rfl ?_); refine box_event ?hg (N := 2) ?hd (cs := #[.int .i64 a0_0, .slice A0_1 l0_1.length c0_1, .string a0_2]) (t := 51) ?hr ?_; (case hd => rfl); (case hg => rfl); (case hr => first | (go_simp; done) | (go_simp; rfl)); intro gb861 hg w5 hbox hb; have n0_ := am (below_step bl hb); have n1_ := am (hbox); have n2_ := am (sz hg : w.heap.size ≤ gb861); have n3_ := am (sz hg : w.heap.size ≤ gb861); clear HB; have HB := n0_; have BK861 := n1_; have GW861 := n2_; have GE861 := n3_; clear n0_ n1_ n2_ n3_; clear hb hbox hg; have hcz6_0 : w5.cell? ⟨gb861, 0, none⟩ = some (.int .i64 a0_0) := bc BK861; have hcz6_1 : w5.cell? ⟨gb861, 1, none⟩ = some (.slice A0_1 l0_1.length c0_1) := bc BK861; have hcz6_2 : w5.cell? ⟨gb861, 2, none⟩ = some (.string a0_2) := bc BK861; have hfz6_0 := blk_frozen BK861.out 0; have hfz6_1 := blk_frozen BK861.out 1; have hfz6_2 := blk_frozen BK861.out 2) | ((with_reducible refine gate_callee (f := 17) rfl ?_); refine goesL_ (some 8) rfl rfl Tryd.func17 (by kernel_rfl) rfl #[.slice A0_1 l0_1.length c0_1, .int .i64 a1] rfl ma ?_; (with_reducible refine (laws_szFieldS.calls k _ _ l0_1 a1 t862 _ ?side1 ?side2 A3.out).mono ?_); (case side1 => exact cb HR0_1); (case side2 => exact HC0_1.out); rintro e w7 ⟨rfl, hb⟩; refine ⟨_, rfl, ?_⟩; replace BK861 := kb BK861 hb; replace HB := am (below_step bl hb); (try clear hb); (try clear hb2); (try clear hk); (try clear hi)))
  go_ret
  exact ⟨rf, bl⟩
 ·rw [if_neg c4] at H
  have c4b0 : decide (t862 < 0) = false := decide_eq_false c4
  clear c4
  by_cases c8 : (wrap64 (t862 - (a0_2.size : Int))) < 0
  ·rw [if_pos c8] at H
   have c8b0 : decide ((wrap64 (t862 - (a0_2.size : Int))) < 0) = true := decide_eq_true c8
   clear c8
   obtain rfl := Option.some.inj H
   go_enter Tryd.func41, Tryd.ntmps41
   go_wp2_with (first | ((with_reducible refine gate_dst (N := 2) rfl ?_); refine box_event ?hg (N := 2) ?hd (cs := #[.int .i64 a0_0, .slice A0_1 l0_1.length c0_1, .string a0_2]) (t := 51) ?hr ?_; (case hd => rfl); (case hg => rfl); (case hr => first | (go_simp; done) | (go_simp; rfl)); intro gb861 hg w9 hbox hb; have n0_ := am (below_step bl hb); have n1_ := am (hbox); have n2_ := am (sz hg : w.heap.size ≤ gb861); have n3_ := am (sz hg : w.heap.size ≤ gb861); clear HB; have HB := n0_; have BK861 := n1_; have GW861 := n2_; have GE861 := n3_; clear n0_ n1_ n2_ n3_; clear hb hbox hg; have hcz10_0 : w9.cell? ⟨gb861, 0, none⟩ = some (.int .i64 a0_0) := bc BK861; have hcz10_1 : w9.cell? ⟨gb861, 1, none⟩ = some (.slice A0_1 l0_1.length c0_1) := bc BK861; have hcz10_2 : w9.cell? ⟨gb861, 2, none⟩ = some (.string a0_2) := bc BK861; have hfz10_0 := blk_frozen BK861.out 0; have hfz10_1 := blk_frozen BK861.out 1; have hfz10_2 := blk_frozen BK861.out 2) | ((with_reducible refine gate_callee (f := 17) rfl ?_); refine goesL_ (some 8) rfl rfl Tryd.func17 (by kernel_rfl) rfl #[.slice A0_1 l0_1.length c0_1, .int .i64 a1] rfl ma ?_; (with_reducible refine (laws_szFieldS.calls k _ _ l0_1 a1 t862 _ ?side1 ?side2 A3.out).mono ?_); (case side1 => exact cb HR0_1); (case side2 => exact HC0_1.out); rintro e w11 ⟨rfl, hb⟩; refine ⟨_, rfl, ?_⟩; replace BK861 := kb BK861 hb; replace HB := am (below_step bl hb); (try clear hb); (try clear hb2); (try clear hk); (try clear hi); have hcz12_0 : w11.cell? ⟨gb861, 0, none⟩ = some (.int .i64 a0_0) := bc BK861; have hcz12_1 : w11.cell? ⟨gb861, 1, none⟩ = some (.slice A0_1 l0_1.length c0_1) := bc BK861; have hcz12_2 : w11.cell? ⟨gb861, 2, none⟩ = some (.string a0_2) := bc BK861; have hfz12_0 := blk_frozen BK861.out 0; have hfz12_1 := blk_frozen BK861.out 1; have hfz12_2 := blk_frozen BK861.out 2))
   go_ret
   exact ⟨rf, bl⟩
  ·rw [if_neg c8] at H
   have c8b0 : decide ((wrap64 (t862 - (a0_2.size : Int))) < 0) = false := decide_eq_false c8
   clear c8
   obtain rfl := Option.some.inj H
   go_enter Tryd.func41, Tryd.ntmps41
   go_wp2_with (first | ((with_reducible refine gate_dst (N := 2) rfl ?_); refine box_event ?hg (N := 2) ?hd (cs := #[.int .i64 a0_0, .slice A0_1 l0_1.length c0_1, .string a0_2]) (t := 51) ?hr ?_; (case hd => rfl); (case hg => rfl); (case hr => first | (go_simp; done) | (go_simp; rfl)); intro gb861 hg w13 hbox hb; have n0_ := am (below_step bl hb); have n1_ := am (hbox); have n2_ := am (sz hg : w.heap.size ≤ gb861); have n3_ := am (sz hg : w.heap.size ≤ gb861); clear HB; have HB := n0_; have BK861 := n1_; have GW861 := n2_; have GE861 := n3_; clear n0_ n1_ n2_ n3_; clear hb hbox hg; have hcz14_0 : w13.cell? ⟨gb861, 0, none⟩ = some (.int .i64 a0_0) := bc BK861; have hcz14_1 : w13.cell? ⟨gb861, 1, none⟩ = some (.slice A0_1 l0_1.length c0_1) := bc BK861; have hcz14_2 : w13.cell? ⟨gb861, 2, none⟩ = some (.string a0_2) := bc BK861; have hfz14_0 := blk_frozen BK861.out 0; have hfz14_1 := blk_frozen BK861.out 1; have hfz14_2 := blk_frozen BK861.out 2) | ((with_reducible refine gate_callee (f := 17) rfl ?_); refine goesL_ (some 8) rfl rfl Tryd.func17 (by kernel_rfl) rfl #[.slice A0_1 l0_1.length c0_1, .int .i64 a1] rfl ma ?_; (with_reducible refine (laws_szFieldS.calls k _ _ l0_1 a1 t862 _ ?side1 ?side2 A3.out).mono ?_); (case side1 => exact cb HR0_1); (case side2 => exact HC0_1.out); rintro e w15 ⟨rfl, hb⟩; refine ⟨_, rfl, ?_⟩; replace BK861 := kb BK861 hb; replace HB := am (below_step bl hb); (try clear hb); (try clear hb2); (try clear hk); (try clear hi); have hcz16_0 : w15.cell? ⟨gb861, 0, none⟩ = some (.int .i64 a0_0) := bc BK861; have hcz16_1 : w15.cell? ⟨gb861, 1, none⟩ = some (.slice A0_1 l0_1.length c0_1) := bc BK861; have hcz16_2 : w15.cell? ⟨gb861, 2, none⟩ = some (.string a0_2) := bc BK861; have hfz16_0 := blk_frozen BK861.out 0; have hfz16_1 := blk_frozen BK861.out 1; have hfz16_2 := blk_frozen BK861.out 2))
   go_ret
   exact ⟨rf, bl⟩

/-! ### spec_RespOk: function 121 -/
def spec_RespOk.f (k : Nat) (a0_0 : Int) (l0_1 : List (S114)) (a0_2 : ByteArray) : Option (Bool) := (spec_l1In.f a0_0 100 599).bind fun t864 => (if t864 = true then ((spec_FieldsOk.f k l0_1).bind fun t865 => (if t865 = true then (some (decide ((a0_2.size : Int) ≤ 120))) else (some false))) else (some false))
theorem spec_RespOk.mono : ∀ a0 a1 a2 k, LeO (spec_RespOk.f k a0 a1 a2) (spec_RespOk.f (k + 1) a0 a1 a2) := by
 intro a0 a1 a2 k
 unfold spec_RespOk.f
 repeat' first
   | (with_reducible exact spec_FieldsOk.mono _ _)
   | (with_reducible exact LeO.refl _)
   | (with_reducible exact LeO.none _)
   | (with_reducible refine LeO.ite ?_ ?_)
   | (with_reducible refine LeO.bind ?_ (fun _ => ?_))
   | exact spec_FieldsOk.mono _ _
   | exact LeO.none _
   | refine LeO.ite ?_ ?_
   | refine LeO.bind ?_ (fun _ => ?_)
set_option maxHeartbeats 8000000 in
set_option maxRecDepth 100000 in
theorem spec_RespOk.calls (k : Nat) (a0_0 : Int) (A0_1 : Option Addr) (c0_1 : Nat) (l0_1 : List (S114)) (a0_2 : ByteArray) (r : Bool) (w : World) (hr0_1 : Kd.C k114 w A0_1 l0_1.length l0_1) (hc0_1 : l0_1.length ≤ c0_1) (h : spec_RespOk.f k a0_0 l0_1 a0_2 = some r) :
  Calls Tryd.prog 121 #[.agg #[.int .i64 a0_0, .slice A0_1 l0_1.length c0_1, .string a0_2]] w fun e w' => e = .returned (.bool r) ∧ Below w.heap.size w w' := by
 have hu43 := Tryd.underlying43
 have HR0_1 := am hr0_1
 have HC0_1 := am hc0_1
 clear hr0_1 hc0_1
 have HB := am (Below.refl w.heap.size w)
 have H : ((spec_l1In.f a0_0 100 599).bind fun t864 => (if t864 = true then ((spec_FieldsOk.f k l0_1).bind fun t865 => (if t865 = true then (some (decide ((a0_2.size : Int) ≤ 120))) else (some false))) else (some false))) = some r := h
 clear h
 replace H := ob H
 obtain ⟨t864, A20, H⟩ := H
 replace H : (if t864 = true then ((spec_FieldsOk.f k l0_1).bind fun t865 => (if t865 = true then (some (decide ((a0_2.size : Int) ≤ 120))) else (some false))) else (some false)) = some r := H
 have A2 := am A20
 clear A20
 by_cases c3 : t864 = true
 ·subst c3
  have H1 : ((spec_FieldsOk.f k l0_1).bind fun t865 => (if t865 = true then (some (decide ((a0_2.size : Int) ≤ 120))) else (some false))) = some r := by rw [if_pos rfl] at H; exact H
  clear H
  have H := H1
  clear H1
  replace H := ob H
  obtain ⟨t865, A40, H⟩ := H
  replace H : (if t865 = true then (some (decide ((a0_2.size : Int) ≤ 120))) else (some false)) = some r := H
  have A4 := am A40
  clear A40
  by_cases c5 : t865 = true
  ·subst c5
   have H1 : (some (decide ((a0_2.size : Int) ≤ 120))) = some r := by rw [if_pos rfl] at H; exact H
   clear H
   have H := H1
   clear H1
   obtain rfl := Option.some.inj H
   go_enter Tryd.func121, Tryd.ntmps121
   go_wp2_with (first | ((with_reducible refine gate_dst (N := 1) rfl ?_); (try (refine gate_guard (by rfl) ?_; dsimp only)); refine box_event ?hg (N := 1) ?hd (cs := #[.int .i64 a0_0, .slice A0_1 l0_1.length c0_1, .string a0_2]) (t := 43) ?hr ?_; (case hd => rfl); (case hg => rfl); (case hr => first | (go_simp; done) | (go_simp; rfl)); intro gb863 hg w6 hbox hb; have n0_ := am (below_step bl hb); have n1_ := am (hbox); have n2_ := am (sz hg : w.heap.size ≤ gb863); have n3_ := am (sz hg : w.heap.size ≤ gb863); clear HB; have HB := n0_; have BK863 := n1_; have GW863 := n2_; have GE863 := n3_; clear n0_ n1_ n2_ n3_; clear hb hbox hg; have hcz7_0 : w6.cell? ⟨gb863, 0, none⟩ = some (.int .i64 a0_0) := bc BK863; have hcz7_1 : w6.cell? ⟨gb863, 1, none⟩ = some (.slice A0_1 l0_1.length c0_1) := bc BK863; have hcz7_2 : w6.cell? ⟨gb863, 2, none⟩ = some (.string a0_2) := bc BK863; have hfz7_0 := blk_frozen BK863.out 0; have hfz7_1 := blk_frozen BK863.out 1; have hfz7_2 := blk_frozen BK863.out 2) | ((with_reducible refine gate_callee (f := 138) rfl ?_); refine goesL_ (some 5) rfl rfl Tryd.func138 (by kernel_rfl) rfl #[.int .i64 a0_0, .int .i64 100, .int .i64 599] rfl ma ?_; (with_reducible refine (spec_l1In.calls a0_0 100 599 true _ A2.out).mono ?_); rintro e w' ⟨rfl, ⟨nd, rfl⟩⟩; refine ⟨_, rfl, ?_⟩) | (go_at_call 169; (with_reducible refine (spec_FieldsOk.calls k _ _ l0_1 true _ ?side1 ?side2 A4.out).mono ?_); (case side1 => repeat (first | exact (Kd.C_below HR0_1.out bl) | (with_reducible refine Kd.C_alloc ?_ _) | (with_reducible refine Kd.C_drewN ?_ _) | (with_reducible refine Kd.C_drew ?_))); (case side2 => exact HC0_1.out); rintro e w' ⟨rfl, ⟨nd, rfl⟩⟩))
   go_ret
   exact ⟨rf, bl⟩
  ·replace c5 := Bool.eq_false_iff.mpr c5
   subst c5
   have H1 : (some false) = some r := by rw [if_neg (show ¬ (false = true) by decide)] at H; exact H
   clear H
   have H := H1
   clear H1
   obtain rfl := Option.some.inj H
   go_enter Tryd.func121, Tryd.ntmps121
   go_wp2_with (first | ((with_reducible refine gate_dst (N := 1) rfl ?_); (try (refine gate_guard (by rfl) ?_; dsimp only)); refine box_event ?hg (N := 1) ?hd (cs := #[.int .i64 a0_0, .slice A0_1 l0_1.length c0_1, .string a0_2]) (t := 43) ?hr ?_; (case hd => rfl); (case hg => rfl); (case hr => first | (go_simp; done) | (go_simp; rfl)); intro gb863 hg w8 hbox hb; have n0_ := am (below_step bl hb); have n1_ := am (hbox); have n2_ := am (sz hg : w.heap.size ≤ gb863); have n3_ := am (sz hg : w.heap.size ≤ gb863); clear HB; have HB := n0_; have BK863 := n1_; have GW863 := n2_; have GE863 := n3_; clear n0_ n1_ n2_ n3_; clear hb hbox hg; have hcz9_0 : w8.cell? ⟨gb863, 0, none⟩ = some (.int .i64 a0_0) := bc BK863; have hcz9_1 : w8.cell? ⟨gb863, 1, none⟩ = some (.slice A0_1 l0_1.length c0_1) := bc BK863; have hcz9_2 : w8.cell? ⟨gb863, 2, none⟩ = some (.string a0_2) := bc BK863; have hfz9_0 := blk_frozen BK863.out 0; have hfz9_1 := blk_frozen BK863.out 1; have hfz9_2 := blk_frozen BK863.out 2) | ((with_reducible refine gate_callee (f := 138) rfl ?_); refine goesL_ (some 5) rfl rfl Tryd.func138 (by kernel_rfl) rfl #[.int .i64 a0_0, .int .i64 100, .int .i64 599] rfl ma ?_; (with_reducible refine (spec_l1In.calls a0_0 100 599 true _ A2.out).mono ?_); rintro e w' ⟨rfl, ⟨nd, rfl⟩⟩; refine ⟨_, rfl, ?_⟩) | (go_at_call 169; (with_reducible refine (spec_FieldsOk.calls k _ _ l0_1 false _ ?side1 ?side2 A4.out).mono ?_); (case side1 => repeat (first | exact (Kd.C_below HR0_1.out bl) | (with_reducible refine Kd.C_alloc ?_ _) | (with_reducible refine Kd.C_drewN ?_ _) | (with_reducible refine Kd.C_drew ?_))); (case side2 => exact HC0_1.out); rintro e w' ⟨rfl, ⟨nd, rfl⟩⟩))
   go_ret
   exact ⟨rf, bl⟩
 ·replace c3 := Bool.eq_false_iff.mpr c3
  subst c3
  have H1 : (some false) = some r := by rw [if_neg (show ¬ (false = true) by decide)] at H; exact H
  clear H
  have H := H1
  clear H1
  obtain rfl := Option.some.inj H
  go_enter Tryd.func121, Tryd.ntmps121
  go_wp2_with (first | ((with_reducible refine gate_dst (N := 1) rfl ?_); (try (refine gate_guard (by rfl) ?_; dsimp only)); refine box_event ?hg (N := 1) ?hd (cs := #[.int .i64 a0_0, .slice A0_1 l0_1.length c0_1, .string a0_2]) (t := 43) ?hr ?_; (case hd => rfl); (case hg => rfl); (case hr => first | (go_simp; done) | (go_simp; rfl)); intro gb863 hg w10 hbox hb; have n0_ := am (below_step bl hb); have n1_ := am (hbox); have n2_ := am (sz hg : w.heap.size ≤ gb863); have n3_ := am (sz hg : w.heap.size ≤ gb863); clear HB; have HB := n0_; have BK863 := n1_; have GW863 := n2_; have GE863 := n3_; clear n0_ n1_ n2_ n3_; clear hb hbox hg; have hcz11_0 : w10.cell? ⟨gb863, 0, none⟩ = some (.int .i64 a0_0) := bc BK863; have hcz11_1 : w10.cell? ⟨gb863, 1, none⟩ = some (.slice A0_1 l0_1.length c0_1) := bc BK863; have hcz11_2 : w10.cell? ⟨gb863, 2, none⟩ = some (.string a0_2) := bc BK863; have hfz11_0 := blk_frozen BK863.out 0; have hfz11_1 := blk_frozen BK863.out 1; have hfz11_2 := blk_frozen BK863.out 2) | ((with_reducible refine gate_callee (f := 138) rfl ?_); refine goesL_ (some 5) rfl rfl Tryd.func138 (by kernel_rfl) rfl #[.int .i64 a0_0, .int .i64 100, .int .i64 599] rfl ma ?_; (with_reducible refine (spec_l1In.calls a0_0 100 599 false _ A2.out).mono ?_); rintro e w' ⟨rfl, ⟨nd, rfl⟩⟩; refine ⟨_, rfl, ?_⟩))
  go_ret
  exact ⟨rf, bl⟩

/-! ### laws_toResp: function 43 -/
def laws_toResp.f (k : Nat) (a0_0 : Int) (l0_1 : List (S113)) (a0_2 : ByteArray) : Option (Int × (List (S114)) × ByteArray) := (laws_toFieldS.f k l0_1).bind fun t876 => (some (a0_0, t876, a0_2))
theorem laws_toResp.mono : ∀ a0 a1 a2 k, LeO (laws_toResp.f k a0 a1 a2) (laws_toResp.f (k + 1) a0 a1 a2) := by
 intro a0 a1 a2 k
 unfold laws_toResp.f
 repeat' first
   | (with_reducible exact laws_toFieldS.mono _ _)
   | (with_reducible exact LeO.refl _)
   | (with_reducible exact LeO.none _)
   | (with_reducible refine LeO.ite ?_ ?_)
   | (with_reducible refine LeO.bind ?_ (fun _ => ?_))
   | exact laws_toFieldS.mono _ _
   | exact LeO.none _
   | refine LeO.ite ?_ ?_
   | refine LeO.bind ?_ (fun _ => ?_)
set_option maxHeartbeats 8000000 in
set_option maxRecDepth 100000 in
theorem laws_toResp.calls (k : Nat) (a0_0 : Int) (A0_1 : Option Addr) (c0_1 : Nat) (l0_1 : List (S113)) (a0_2 : ByteArray) (r1 : Int) (r2 : List (S114)) (r3 : ByteArray) (w : World) (hr0_1 : Kd.C k113 w A0_1 l0_1.length l0_1) (hc0_1 : l0_1.length ≤ c0_1) (h : laws_toResp.f k a0_0 l0_1 a0_2 = some (r1, r2, r3)) :
  Calls Tryd.prog 43 #[.agg #[.int .i64 a0_0, .slice A0_1 l0_1.length c0_1, .string a0_2]] w fun e w' => ∃ v1_ : Value, e = .returned (.agg #[.int .i64 r1, v1_, .string r3]) ∧ Kd.R k114 114 w' w.heap.size (fun _ => True) v1_ r2 ∧ Below w.heap.size w w' := by
 have hu51 := Tryd.underlying51
 have hu43 := Tryd.underlying43
 have HR0_1 := am hr0_1
 have HC0_1 := am hc0_1
 clear hr0_1 hc0_1
 have HB := am (Below.refl w.heap.size w)
 have H : ((laws_toFieldS.f k l0_1).bind fun t876 => (some (a0_0, t876, a0_2))) = some (r1, r2, r3) := h
 clear h
 replace H := ob H
 obtain ⟨t876, A20, H⟩ := H
 replace H : (some (a0_0, t876, a0_2)) = some (r1, r2, r3) := H
 have A2 := am A20
 clear A20
 simp only [Option.some.injEq, Prod.mk.injEq] at H
 obtain ⟨rfl, rfl, rfl⟩ := H
 go_enter Tryd.func43, Tryd.ntmps43
 go_wp2_with (first | ((with_reducible refine gate_dst (N := 1) rfl ?_); refine box_event ?hg (N := 1) ?hd (cs := #[.int .i64 a0_0, .slice A0_1 l0_1.length c0_1, .string a0_2]) (t := 51) ?hr ?_; (case hd => rfl); (case hg => rfl); (case hr => first | (go_simp; done) | (go_simp; rfl)); intro gb873 hg w3 hbox hb; have n0_ := am (below_step bl hb); have n1_ := am (hbox); have n2_ := am (sz hg : w.heap.size ≤ gb873); have n3_ := am (sz hg : w.heap.size ≤ gb873); clear HB; have HB := n0_; have BK873 := n1_; have GW873 := n2_; have GE873 := n3_; clear n0_ n1_ n2_ n3_; clear hb hbox hg) | ((with_reducible refine gate_dst (N := 2) rfl ?_); refine box_event ?hg (N := 2) ?hd (cs := #[.int .i64 0, .slice none 0 0, .string (⟨#[]⟩ : ByteArray)]) (t := 43) ?hr ?_; (case hd => rfl); (case hg => rfl); (case hr => first | (go_simp; done) | (go_simp; rfl)); intro gb874 hg w4 hbox hb; have n0_ := kb BK873 hb; have n1_ := am (below_step bl hb); have n2_ := am (hbox); have n3_ := am (sz hg : w.heap.size ≤ gb874); have n4_ := am (sz hg : w.heap.size ≤ gb874); have n5_ := am (nl hg BK873 : gb873 ≠ gb874); have n6_ := am (ng hg BK873 : gb874 ≠ gb873); clear BK873; clear HB; have BK873 := n0_; have HB := n1_; have BK874 := n2_; have GW874 := n3_; have GE874 := n4_; have NB873_874 := n5_; have NB874_873 := n6_; clear n0_ n1_ n2_ n3_ n4_ n5_ n6_; clear hb hbox hg) | ((with_reducible refine gate_dst (N := 3) rfl ?_); refine box_event ?hg (N := 3) ?hd (cs := #[.int .i64 0, .slice none 0 0, .string (⟨#[]⟩ : ByteArray)]) (t := 43) ?hr ?_; (case hd => rfl); (case hg => rfl); (case hr => first | (go_simp; done) | (go_simp; rfl)); intro gb875 hg w5 hbox hb; have n0_ := kb BK873 hb; have n1_ := kb BK874 hb; have n2_ := am (below_step bl hb); have n3_ := am (hbox); have n4_ := am (sz hg : w.heap.size ≤ gb875); have n5_ := am (sz hg : w.heap.size ≤ gb875); have n6_ := am (nl hg BK873 : gb873 ≠ gb875); have n7_ := am (ng hg BK873 : gb875 ≠ gb873); have n8_ := am (nl hg BK874 : gb874 ≠ gb875); have n9_ := am (ng hg BK874 : gb875 ≠ gb874); clear BK873; clear BK874; clear HB; have BK873 := n0_; have BK874 := n1_; have HB := n2_; have BK875 := n3_; have GW875 := n4_; have GE875 := n5_; have NB873_875 := n6_; have NB875_873 := n7_; have NB874_875 := n8_; have NB875_874 := n9_; clear n0_ n1_ n2_ n3_ n4_ n5_ n6_ n7_ n8_ n9_; clear hb hbox hg; have hnb6 := NB873_874.out; have hnc6 := NB874_873.out; have hnb7 := NB873_875.out; have hnc7 := NB875_873.out; have hcz8_0 : w5.cell? ⟨gb873, 0, none⟩ = some (.int .i64 a0_0) := bc BK873; have hcz8_1 : w5.cell? ⟨gb873, 1, none⟩ = some (.slice A0_1 l0_1.length c0_1) := bc BK873; have hcz8_2 : w5.cell? ⟨gb873, 2, none⟩ = some (.string a0_2) := bc BK873; have hfz8_0 := blk_frozen BK873.out 0; have hfz8_1 := blk_frozen BK873.out 1; have hfz8_2 := blk_frozen BK873.out 2; have hnb9 := NB875_874.out; have hnc9 := NB874_875.out; have hcz10_0 : w5.cell? ⟨gb875, 0, none⟩ = some (.int .i64 0) := bc BK875; have hcz10_1 : w5.cell? ⟨gb875, 1, none⟩ = some (.slice none 0 0) := bc BK875; have hcz10_2 : w5.cell? ⟨gb875, 2, none⟩ = some (.string (⟨#[]⟩ : ByteArray)) := bc BK875; have hfz10_0 := blk_frozen BK875.out 0; have hfz10_1 := blk_frozen BK875.out 1; have hfz10_2 := blk_frozen BK875.out 2) | ((with_reducible refine gate_callee (f := 19) rfl ?_); refine goesL_ (some 9) rfl rfl Tryd.func19 (by kernel_rfl) rfl #[.slice A0_1 l0_1.length c0_1] rfl ma ?_; (with_reducible refine (laws_toFieldS.calls k _ _ l0_1 t876 _ ?side1 ?side2 A2.out).mono ?_); (case side1 => exact Kd.C_below HR0_1.out bl); (case side2 => exact HC0_1.out); rintro e w11 ⟨v877, rfl, ho0, hb⟩; refine ⟨_, rfl, ?_⟩; have n0_ := am (Kd.R_lower ho0 (below_size bl)); have n1_ := kf BK873 hb; have n2_ := kf BK874 hb; have n3_ := am (blk_below (g := gb875) (o := .cells #[.int .i64 a0_0, .slice none 0 0, .string (⟨#[]⟩ : ByteArray)] 43 (0, 0)) (by (with_reducible repeat (first | refine blk_drewN ?_ _ | refine blk_drew ?_ | refine blk_alloc ?_ _)); refine blk_put (cs := #[.int .i64 0, .slice none 0 0, .string (⟨#[]⟩ : ByteArray)]) ?_ 0 _ rfl; (with_reducible repeat (first | refine blk_drewN ?_ _ | refine blk_drew ?_ | refine blk_alloc ?_ _)); exact BK875.out) hb); have n4_ := am (below_step bl hb); clear BK873; clear BK874; clear BK875; clear HB; have HO878 := n0_; have BK873 := n1_; have BK874 := n2_; have BK875 := n3_; have HB := n4_; clear n0_ n1_ n2_ n3_ n4_; (try clear hb); (try clear hb2); (try clear hk); (try clear hi); (try clear ho0); obtain ⟨Ao12, co12, eo12⟩ := Kd.R_slice HO878.out; subst eo12; have hcz13_0 : w11.cell? ⟨gb875, 0, none⟩ = some (.int .i64 a0_0) := bc BK875; have hcz13_1 : w11.cell? ⟨gb875, 1, none⟩ = some (.slice none 0 0) := bc BK875; have hcz13_2 : w11.cell? ⟨gb875, 2, none⟩ = some (.string (⟨#[]⟩ : ByteArray)) := bc BK875; have hfz13_0 := blk_frozen BK875.out 0; have hfz13_1 := blk_frozen BK875.out 1; have hfz13_2 := blk_frozen BK875.out 2; have hcz14_0 : w11.cell? ⟨gb873, 0, none⟩ = some (.int .i64 a0_0) := bc BK873; have hcz14_1 : w11.cell? ⟨gb873, 1, none⟩ = some (.slice A0_1 l0_1.length c0_1) := bc BK873; have hcz14_2 : w11.cell? ⟨gb873, 2, none⟩ = some (.string a0_2) := bc BK873; have hfz14_0 := blk_frozen BK873.out 0; have hfz14_1 := blk_frozen BK873.out 1; have hfz14_2 := blk_frozen BK873.out 2; have hcz15_0 : w11.cell? ⟨gb874, 0, none⟩ = some (.int .i64 0) := bc BK874; have hcz15_1 : w11.cell? ⟨gb874, 1, none⟩ = some (.slice none 0 0) := bc BK874; have hcz15_2 : w11.cell? ⟨gb874, 2, none⟩ = some (.string (⟨#[]⟩ : ByteArray)) := bc BK874; have hfz15_0 := blk_frozen BK874.out 0; have hfz15_1 := blk_frozen BK874.out 1; have hfz15_2 := blk_frozen BK874.out 2))
 refine bodyPost_ret (results_cell_row rfl _ _ gb874 43 #[.int .i64 a0_0, .slice Ao12 t876.length co12, .string a0_2] (0, 0) _ rfl (by (with_reducible repeat (first | refine blk_drewN ?_ _ | refine blk_drew ?_ | refine blk_alloc ?_ _)); refine blk_put (cs := #[.int .i64 a0_0, .slice Ao12 t876.length co12, .string (⟨#[]⟩ : ByteArray)]) ?_ 2 _ rfl; (with_reducible repeat (first | refine blk_drewN ?_ _ | refine blk_drew ?_ | refine blk_alloc ?_ _)); refine blk_put (cs := #[.int .i64 a0_0, .slice none 0 0, .string (⟨#[]⟩ : ByteArray)]) ?_ 1 _ rfl; (with_reducible repeat (first | refine blk_drewN ?_ _ | refine blk_drew ?_ | refine blk_alloc ?_ _)); refine blk_put (cs := #[.int .i64 0, .slice none 0 0, .string (⟨#[]⟩ : ByteArray)]) ?_ 0 _ rfl; (with_reducible repeat (first | refine blk_drewN ?_ _ | refine blk_drew ?_ | refine blk_alloc ?_ _)); refine blk_far ?_ NB874_875.out _; (with_reducible repeat (first | refine blk_drewN ?_ _ | refine blk_drew ?_ | refine blk_alloc ?_ _)); refine blk_far ?_ NB874_875.out _; (with_reducible repeat (first | refine blk_drewN ?_ _ | refine blk_drew ?_ | refine blk_alloc ?_ _)); exact BK874.out) Tryd.underlying43 rfl (by kernel_rfl)) rfl ?_
 exact ⟨_, rf, by (with_reducible repeat (first | apply Kd.R_alloc | apply Kd.R_drewN | apply Kd.R_drew)); exact Kd.R_mono (Kd.R_far (p := ⟨gb874, 2, none⟩) (Kd.R_far (p := ⟨gb874, 1, none⟩) (Kd.R_far (p := ⟨gb874, 0, none⟩) (Kd.R_far (p := ⟨gb875, 2, none⟩) (Kd.R_far (p := ⟨gb875, 1, none⟩) (Kd.R_types (Kd.R_types HO878.out BK875.out (by decide)) BK874.out (by decide)) (fun _ hk => hk.1.2) (.slice Ao12 t876.length co12)) (fun _ hk => hk.1.2) (.string a0_2)) (fun _ hk => hk.2) (.int .i64 a0_0)) (fun _ hk => hk.2) (.slice Ao12 t876.length co12)) (fun _ hk => hk.2) (.string a0_2)) (fun _ hk => trivial), bl⟩

/-! ### impl_RespOk: function 123 -/
def impl_RespOk.f (k : Nat) (a0_0 : Int) (l0_1 : List (S114)) (a0_2 : ByteArray) : Option (Bool) := (impl_inRange.f a0_0 100 599).bind fun t880 => (if t880 = true then (if (a0_2.size : Int) ≤ 120 then ((impl_FieldsOk.f k l0_1).bind fun t881 => (some t881)) else (some false)) else (some false))
theorem impl_RespOk.mono : ∀ a0 a1 a2 k, LeO (impl_RespOk.f k a0 a1 a2) (impl_RespOk.f (k + 1) a0 a1 a2) := by
 intro a0 a1 a2 k
 unfold impl_RespOk.f
 repeat' first
   | (with_reducible exact impl_FieldsOk.mono _ _)
   | (with_reducible exact LeO.refl _)
   | (with_reducible exact LeO.none _)
   | (with_reducible refine LeO.ite ?_ ?_)
   | (with_reducible refine LeO.bind ?_ (fun _ => ?_))
   | exact impl_FieldsOk.mono _ _
   | exact LeO.none _
   | refine LeO.ite ?_ ?_
   | refine LeO.bind ?_ (fun _ => ?_)
set_option maxHeartbeats 8000000 in
set_option maxRecDepth 100000 in
theorem impl_RespOk.calls (k : Nat) (a0_0 : Int) (A0_1 : Option Addr) (c0_1 : Nat) (l0_1 : List (S114)) (a0_2 : ByteArray) (r : Bool) (w : World) (hr0_1 : Kd.C k114 w A0_1 l0_1.length l0_1) (hc0_1 : l0_1.length ≤ c0_1) (h : impl_RespOk.f k a0_0 l0_1 a0_2 = some r) :
  Calls Tryd.prog 123 #[.agg #[.int .i64 a0_0, .slice A0_1 l0_1.length c0_1, .string a0_2]] w fun e w' => e = .returned (.bool r) ∧ Below w.heap.size w w' := by
 have hu43 := Tryd.underlying43
 have HR0_1 := am hr0_1
 have HC0_1 := am hc0_1
 clear hr0_1 hc0_1
 have HB := am (Below.refl w.heap.size w)
 have H : ((impl_inRange.f a0_0 100 599).bind fun t880 => (if t880 = true then (if (a0_2.size : Int) ≤ 120 then ((impl_FieldsOk.f k l0_1).bind fun t881 => (some t881)) else (some false)) else (some false))) = some r := h
 clear h
 replace H := ob H
 obtain ⟨t880, A20, H⟩ := H
 replace H : (if t880 = true then (if (a0_2.size : Int) ≤ 120 then ((impl_FieldsOk.f k l0_1).bind fun t881 => (some t881)) else (some false)) else (some false)) = some r := H
 have A2 := am A20
 clear A20
 by_cases c3 : t880 = true
 ·subst c3
  have H1 : (if (a0_2.size : Int) ≤ 120 then ((impl_FieldsOk.f k l0_1).bind fun t881 => (some t881)) else (some false)) = some r := by rw [if_pos rfl] at H; exact H
  clear H
  have H := H1
  clear H1
  by_cases c4 : (a0_2.size : Int) ≤ 120
  ·rw [if_pos c4] at H
   have c4b0 : decide ((a0_2.size : Int) ≤ 120) = true := decide_eq_true c4
   have c4b1 : decide (a0_2.size ≤ 120) = true := decide_eq_true (by omega)
   clear c4
   replace H := ob H
   obtain ⟨t881, A50, H⟩ := H
   replace H : (some t881) = some r := H
   have A5 := am A50
   clear A50
   obtain rfl := Option.some.inj H
   go_enter Tryd.func123, Tryd.ntmps123
   go_wp2_with (first | ((with_reducible refine gate_dst (N := 1) rfl ?_); (try (refine gate_guard (by rfl) ?_; dsimp only)); refine box_event ?hg (N := 1) ?hd (cs := #[.int .i64 a0_0, .slice A0_1 l0_1.length c0_1, .string a0_2]) (t := 43) ?hr ?_; (case hd => rfl); (case hg => rfl); (case hr => first | (go_simp; done) | (go_simp; rfl)); intro gb879 hg w6 hbox hb; have n0_ := am (below_step bl hb); have n1_ := am (hbox); have n2_ := am (sz hg : w.heap.size ≤ gb879); have n3_ := am (sz hg : w.heap.size ≤ gb879); clear HB; have HB := n0_; have BK879 := n1_; have GW879 := n2_; have GE879 := n3_; clear n0_ n1_ n2_ n3_; clear hb hbox hg; have hcz7_0 : w6.cell? ⟨gb879, 0, none⟩ = some (.int .i64 a0_0) := bc BK879; have hcz7_1 : w6.cell? ⟨gb879, 1, none⟩ = some (.slice A0_1 l0_1.length c0_1) := bc BK879; have hcz7_2 : w6.cell? ⟨gb879, 2, none⟩ = some (.string a0_2) := bc BK879; have hfz7_0 := blk_frozen BK879.out 0; have hfz7_1 := blk_frozen BK879.out 1; have hfz7_2 := blk_frozen BK879.out 2) | ((with_reducible refine gate_callee (f := 118) rfl ?_); refine goesL_ (some 5) rfl rfl Tryd.func118 (by kernel_rfl) rfl #[.int .i64 a0_0, .int .i64 100, .int .i64 599] rfl ma ?_; (with_reducible refine (impl_inRange.calls a0_0 100 599 true _ A2.out).mono ?_); rintro e w' ⟨rfl, ⟨nd, rfl⟩⟩; refine ⟨_, rfl, ?_⟩) | (go_at_call 120; (with_reducible refine (impl_FieldsOk.calls k _ _ l0_1 t881 _ ?side1 ?side2 A5.out).mono ?_); (case side1 => repeat (first | exact (Kd.C_below HR0_1.out bl) | (with_reducible refine Kd.C_alloc ?_ _) | (with_reducible refine Kd.C_drewN ?_ _) | (with_reducible refine Kd.C_drew ?_))); (case side2 => exact HC0_1.out); rintro e w8 ⟨rfl, hb⟩; replace BK879 := kb BK879 hb; replace HB := am (below_step bl hb); (try clear hb); (try clear hb2); (try clear hk); (try clear hi)))
   go_ret
   exact ⟨rf, bl⟩
  ·rw [if_neg c4] at H
   have c4b0 : decide ((a0_2.size : Int) ≤ 120) = false := decide_eq_false c4
   have c4b1 : decide (a0_2.size ≤ 120) = false := decide_eq_false (by omega)
   clear c4
   obtain rfl := Option.some.inj H
   go_enter Tryd.func123, Tryd.ntmps123
   go_wp2_with (first | ((with_reducible refine gate_dst (N := 1) rfl ?_); (try (refine gate_guard (by rfl) ?_; dsimp only)); refine box_event ?hg (N := 1) ?hd (cs := #[.int .i64 a0_0, .slice A0_1 l0_1.length c0_1, .string a0_2]) (t := 43) ?hr ?_; (case hd => rfl); (case hg => rfl); (case hr => first | (go_simp; done) | (go_simp; rfl)); intro gb879 hg w9 hbox hb; have n0_ := am (below_step bl hb); have n1_ := am (hbox); have n2_ := am (sz hg : w.heap.size ≤ gb879); have n3_ := am (sz hg : w.heap.size ≤ gb879); clear HB; have HB := n0_; have BK879 := n1_; have GW879 := n2_; have GE879 := n3_; clear n0_ n1_ n2_ n3_; clear hb hbox hg; have hcz10_0 : w9.cell? ⟨gb879, 0, none⟩ = some (.int .i64 a0_0) := bc BK879; have hcz10_1 : w9.cell? ⟨gb879, 1, none⟩ = some (.slice A0_1 l0_1.length c0_1) := bc BK879; have hcz10_2 : w9.cell? ⟨gb879, 2, none⟩ = some (.string a0_2) := bc BK879; have hfz10_0 := blk_frozen BK879.out 0; have hfz10_1 := blk_frozen BK879.out 1; have hfz10_2 := blk_frozen BK879.out 2) | ((with_reducible refine gate_callee (f := 118) rfl ?_); refine goesL_ (some 5) rfl rfl Tryd.func118 (by kernel_rfl) rfl #[.int .i64 a0_0, .int .i64 100, .int .i64 599] rfl ma ?_; (with_reducible refine (impl_inRange.calls a0_0 100 599 true _ A2.out).mono ?_); rintro e w' ⟨rfl, ⟨nd, rfl⟩⟩; refine ⟨_, rfl, ?_⟩))
   go_ret
   exact ⟨rf, bl⟩
 ·replace c3 := Bool.eq_false_iff.mpr c3
  subst c3
  have H1 : (some false) = some r := by rw [if_neg (show ¬ (false = true) by decide)] at H; exact H
  clear H
  have H := H1
  clear H1
  obtain rfl := Option.some.inj H
  go_enter Tryd.func123, Tryd.ntmps123
  go_wp2_with (first | ((with_reducible refine gate_dst (N := 1) rfl ?_); (try (refine gate_guard (by rfl) ?_; dsimp only)); refine box_event ?hg (N := 1) ?hd (cs := #[.int .i64 a0_0, .slice A0_1 l0_1.length c0_1, .string a0_2]) (t := 43) ?hr ?_; (case hd => rfl); (case hg => rfl); (case hr => first | (go_simp; done) | (go_simp; rfl)); intro gb879 hg w11 hbox hb; have n0_ := am (below_step bl hb); have n1_ := am (hbox); have n2_ := am (sz hg : w.heap.size ≤ gb879); have n3_ := am (sz hg : w.heap.size ≤ gb879); clear HB; have HB := n0_; have BK879 := n1_; have GW879 := n2_; have GE879 := n3_; clear n0_ n1_ n2_ n3_; clear hb hbox hg; have hcz12_0 : w11.cell? ⟨gb879, 0, none⟩ = some (.int .i64 a0_0) := bc BK879; have hcz12_1 : w11.cell? ⟨gb879, 1, none⟩ = some (.slice A0_1 l0_1.length c0_1) := bc BK879; have hcz12_2 : w11.cell? ⟨gb879, 2, none⟩ = some (.string a0_2) := bc BK879; have hfz12_0 := blk_frozen BK879.out 0; have hfz12_1 := blk_frozen BK879.out 1; have hfz12_2 := blk_frozen BK879.out 2) | ((with_reducible refine gate_callee (f := 118) rfl ?_); refine goesL_ (some 5) rfl rfl Tryd.func118 (by kernel_rfl) rfl #[.int .i64 a0_0, .int .i64 100, .int .i64 599] rfl ma ?_; (with_reducible refine (impl_inRange.calls a0_0 100 599 false _ A2.out).mono ?_); rintro e w' ⟨rfl, ⟨nd, rfl⟩⟩; refine ⟨_, rfl, ?_⟩))
  go_ret
  exact ⟨rf, bl⟩

/-! ### laws_eqResp: function 45 -/
def laws_eqResp.f (k : Nat) (a0_0 : Int) (l0_1 : List (S114)) (a0_2 : ByteArray) (a1_0 : Int) (l1_1 : List (S114)) (a1_2 : ByteArray) : Option (Bool) := if a0_0 = a1_0 then ((laws_eqFieldS.f k l0_1 l1_1).bind fun t890 => (if t890 = true then (if a0_2.toList = a1_2.toList then (some true) else (some false)) else (some false))) else (some false)
theorem laws_eqResp.mono : ∀ a0 a1 a2 a3 a4 a5 k, LeO (laws_eqResp.f k a0 a1 a2 a3 a4 a5) (laws_eqResp.f (k + 1) a0 a1 a2 a3 a4 a5) := by
 intro a0 a1 a2 a3 a4 a5 k
 unfold laws_eqResp.f
 repeat' first
   | (with_reducible exact laws_eqFieldS.mono _ _ _)
   | (with_reducible exact LeO.refl _)
   | (with_reducible exact LeO.none _)
   | (with_reducible refine LeO.ite ?_ ?_)
   | (with_reducible refine LeO.bind ?_ (fun _ => ?_))
   | exact laws_eqFieldS.mono _ _ _
   | exact LeO.none _
   | refine LeO.ite ?_ ?_
   | refine LeO.bind ?_ (fun _ => ?_)
set_option maxHeartbeats 8000000 in
set_option maxRecDepth 100000 in
theorem laws_eqResp.calls (k : Nat) (a0_0 : Int) (A0_1 : Option Addr) (c0_1 : Nat) (l0_1 : List (S114)) (a0_2 : ByteArray) (a1_0 : Int) (A1_1 : Option Addr) (c1_1 : Nat) (l1_1 : List (S114)) (a1_2 : ByteArray) (r : Bool) (w : World) (hr0_1 : Kd.C k114 w A0_1 l0_1.length l0_1) (hc0_1 : l0_1.length ≤ c0_1) (hr1_1 : Kd.C k114 w A1_1 l1_1.length l1_1) (hc1_1 : l1_1.length ≤ c1_1) (h : laws_eqResp.f k a0_0 l0_1 a0_2 a1_0 l1_1 a1_2 = some r) :
  Calls Tryd.prog 45 #[.agg #[.int .i64 a0_0, .slice A0_1 l0_1.length c0_1, .string a0_2], .agg #[.int .i64 a1_0, .slice A1_1 l1_1.length c1_1, .string a1_2]] w fun e w' => e = .returned (.bool r) ∧ Below w.heap.size w w' := by
 have hu43 := Tryd.underlying43
 have HR0_1 := am hr0_1
 have HC0_1 := am hc0_1
 clear hr0_1 hc0_1
 have HR1_1 := am hr1_1
 have HC1_1 := am hc1_1
 clear hr1_1 hc1_1
 have HB := am (Below.refl w.heap.size w)
 have H : (if a0_0 = a1_0 then ((laws_eqFieldS.f k l0_1 l1_1).bind fun t890 => (if t890 = true then (if a0_2.toList = a1_2.toList then (some true) else (some false)) else (some false))) else (some false)) = some r := h
 clear h
 by_cases c3 : a0_0 = a1_0
 ·rw [if_pos c3] at H
  have c3b0 : (a0_0 == a1_0) = true := beq_iff_eq.mpr c3
  have c3b1 : (a0_0 != a1_0) = false := bne_eq_false_iff_eq.mpr c3
  clear c3
  replace H := ob H
  obtain ⟨t890, A40, H⟩ := H
  replace H : (if t890 = true then (if a0_2.toList = a1_2.toList then (some true) else (some false)) else (some false)) = some r := H
  have A4 := am A40
  clear A40
  by_cases c5 : t890 = true
  ·subst c5
   have H1 : (if a0_2.toList = a1_2.toList then (some true) else (some false)) = some r := by rw [if_pos rfl] at H; exact H
   clear H
   have H := H1
   clear H1
   by_cases c6 : a0_2.toList = a1_2.toList
   ·rw [if_pos c6] at H
    have c6b0 : (a0_2.toList == a1_2.toList) = true := beq_iff_eq.mpr c6
    have c6b1 : (a0_2.toList != a1_2.toList) = false := bne_eq_false_iff_eq.mpr c6
    clear c6
    obtain rfl := Option.some.inj H
    go_enter Tryd.func45, Tryd.ntmps45
    go_wp2_with (first | ((with_reducible refine gate_dst (N := 2) rfl ?_); refine box_event ?hg (N := 2) ?hd (cs := #[.int .i64 a0_0, .slice A0_1 l0_1.length c0_1, .string a0_2]) (t := 43) ?hr ?_; (case hd => rfl); (case hg => rfl); (case hr => first | (go_simp; done) | (go_simp; rfl)); intro gb888 hg w7 hbox hb; have n0_ := am (below_step bl hb); have n1_ := am (hbox); have n2_ := am (sz hg : w.heap.size ≤ gb888); have n3_ := am (sz hg : w.heap.size ≤ gb888); clear HB; have HB := n0_; have BK888 := n1_; have GW888 := n2_; have GE888 := n3_; clear n0_ n1_ n2_ n3_; clear hb hbox hg) | ((with_reducible refine gate_dst (N := 3) rfl ?_); refine box_event ?hg (N := 3) ?hd (cs := #[.int .i64 a1_0, .slice A1_1 l1_1.length c1_1, .string a1_2]) (t := 43) ?hr ?_; (case hd => rfl); (case hg => rfl); (case hr => first | (go_simp; done) | (go_simp; rfl)); intro gb889 hg w8 hbox hb; have n0_ := kb BK888 hb; have n1_ := am (below_step bl hb); have n2_ := am (hbox); have n3_ := am (sz hg : w.heap.size ≤ gb889); have n4_ := am (sz hg : w.heap.size ≤ gb889); have n5_ := am (nl hg BK888 : gb888 ≠ gb889); have n6_ := am (ng hg BK888 : gb889 ≠ gb888); clear BK888; clear HB; have BK888 := n0_; have HB := n1_; have BK889 := n2_; have GW889 := n3_; have GE889 := n4_; have NB888_889 := n5_; have NB889_888 := n6_; clear n0_ n1_ n2_ n3_ n4_ n5_ n6_; clear hb hbox hg; have hnb9 := NB888_889.out; have hnc9 := NB889_888.out; have hcz10_0 : w8.cell? ⟨gb888, 0, none⟩ = some (.int .i64 a0_0) := bc BK888; have hcz10_1 : w8.cell? ⟨gb888, 1, none⟩ = some (.slice A0_1 l0_1.length c0_1) := bc BK888; have hcz10_2 : w8.cell? ⟨gb888, 2, none⟩ = some (.string a0_2) := bc BK888; have hfz10_0 := blk_frozen BK888.out 0; have hfz10_1 := blk_frozen BK888.out 1; have hfz10_2 := blk_frozen BK888.out 2; have hcz11_0 : w8.cell? ⟨gb889, 0, none⟩ = some (.int .i64 a1_0) := bc BK889; have hcz11_1 : w8.cell? ⟨gb889, 1, none⟩ = some (.slice A1_1 l1_1.length c1_1) := bc BK889; have hcz11_2 : w8.cell? ⟨gb889, 2, none⟩ = some (.string a1_2) := bc BK889; have hfz11_0 := blk_frozen BK889.out 0; have hfz11_1 := blk_frozen BK889.out 1; have hfz11_2 := blk_frozen BK889.out 2) | ((with_reducible refine gate_callee (f := 22) rfl ?_); refine goesL_ (some 14) rfl rfl Tryd.func22 (by kernel_rfl) rfl #[.slice A0_1 l0_1.length c0_1, .slice A1_1 l1_1.length c1_1] rfl ma ?_; (with_reducible refine (laws_eqFieldS.calls k _ _ l0_1 _ _ l1_1 true _ ?side1 ?side2 ?side3 ?side4 A4.out).mono ?_); (case side1 => exact cb HR0_1); (case side2 => exact HC0_1.out); (case side3 => exact cb HR1_1); (case side4 => exact HC1_1.out); rintro e w12 ⟨rfl, hb⟩; refine ⟨_, rfl, ?_⟩; replace BK888 := kb BK888 hb; replace BK889 := kb BK889 hb; replace HB := am (below_step bl hb); (try clear hb); (try clear hb2); (try clear hk); (try clear hi); have hcz13_0 : w12.cell? ⟨gb888, 0, none⟩ = some (.int .i64 a0_0) := bc BK888; have hcz13_1 : w12.cell? ⟨gb888, 1, none⟩ = some (.slice A0_1 l0_1.length c0_1) := bc BK888; have hcz13_2 : w12.cell? ⟨gb888, 2, none⟩ = some (.string a0_2) := bc BK888; have hfz13_0 := blk_frozen BK888.out 0; have hfz13_1 := blk_frozen BK888.out 1; have hfz13_2 := blk_frozen BK888.out 2; have hcz14_0 : w12.cell? ⟨gb889, 0, none⟩ = some (.int .i64 a1_0) := bc BK889; have hcz14_1 : w12.cell? ⟨gb889, 1, none⟩ = some (.slice A1_1 l1_1.length c1_1) := bc BK889; have hcz14_2 : w12.cell? ⟨gb889, 2, none⟩ = some (.string a1_2) := bc BK889; have hfz14_0 := blk_frozen BK889.out 0; have hfz14_1 := blk_frozen BK889.out 1; have hfz14_2 := blk_frozen BK889.out 2))
    go_ret
    exact ⟨rf, bl⟩
   ·rw [if_neg c6] at H
    have c6b0 : (a0_2.toList == a1_2.toList) = false := beq_eq_false_iff_ne.mpr c6
    have c6b1 : (a0_2.toList != a1_2.toList) = true := bne_iff_ne.mpr c6
    obtain rfl := Option.some.inj H
    go_enter Tryd.func45, Tryd.ntmps45
    go_wp2_with (first | ((with_reducible refine gate_dst (N := 2) rfl ?_); refine box_event ?hg (N := 2) ?hd (cs := #[.int .i64 a0_0, .slice A0_1 l0_1.length c0_1, .string a0_2]) (t := 43) ?hr ?_; (case hd => rfl); (case hg => rfl); (case hr => first | (go_simp; done) | (go_simp; rfl)); intro gb888 hg w15 hbox hb; have n0_ := am (below_step bl hb); have n1_ := am (hbox); have n2_ := am (sz hg : w.heap.size ≤ gb888); have n3_ := am (sz hg : w.heap.size ≤ gb888); clear HB; have HB := n0_; have BK888 := n1_; have GW888 := n2_; have GE888 := n3_; clear n0_ n1_ n2_ n3_; clear hb hbox hg) | ((with_reducible refine gate_dst (N := 3) rfl ?_); refine box_event ?hg (N := 3) ?hd (cs := #[.int .i64 a1_0, .slice A1_1 l1_1.length c1_1, .string a1_2]) (t := 43) ?hr ?_; (case hd => rfl); (case hg => rfl); (case hr => first | (go_simp; done) | (go_simp; rfl)); intro gb889 hg w16 hbox hb; have n0_ := kb BK888 hb; have n1_ := am (below_step bl hb); have n2_ := am (hbox); have n3_ := am (sz hg : w.heap.size ≤ gb889); have n4_ := am (sz hg : w.heap.size ≤ gb889); have n5_ := am (nl hg BK888 : gb888 ≠ gb889); have n6_ := am (ng hg BK888 : gb889 ≠ gb888); clear BK888; clear HB; have BK888 := n0_; have HB := n1_; have BK889 := n2_; have GW889 := n3_; have GE889 := n4_; have NB888_889 := n5_; have NB889_888 := n6_; clear n0_ n1_ n2_ n3_ n4_ n5_ n6_; clear hb hbox hg; have hnb17 := NB888_889.out; have hnc17 := NB889_888.out; have hcz18_0 : w16.cell? ⟨gb888, 0, none⟩ = some (.int .i64 a0_0) := bc BK888; have hcz18_1 : w16.cell? ⟨gb888, 1, none⟩ = some (.slice A0_1 l0_1.length c0_1) := bc BK888; have hcz18_2 : w16.cell? ⟨gb888, 2, none⟩ = some (.string a0_2) := bc BK888; have hfz18_0 := blk_frozen BK888.out 0; have hfz18_1 := blk_frozen BK888.out 1; have hfz18_2 := blk_frozen BK888.out 2; have hcz19_0 : w16.cell? ⟨gb889, 0, none⟩ = some (.int .i64 a1_0) := bc BK889; have hcz19_1 : w16.cell? ⟨gb889, 1, none⟩ = some (.slice A1_1 l1_1.length c1_1) := bc BK889; have hcz19_2 : w16.cell? ⟨gb889, 2, none⟩ = some (.string a1_2) := bc BK889; have hfz19_0 := blk_frozen BK889.out 0; have hfz19_1 := blk_frozen BK889.out 1; have hfz19_2 := blk_frozen BK889.out 2) | ((with_reducible refine gate_callee (f := 22) rfl ?_); refine goesL_ (some 14) rfl rfl Tryd.func22 (by kernel_rfl) rfl #[.slice A0_1 l0_1.length c0_1, .slice A1_1 l1_1.length c1_1] rfl ma ?_; (with_reducible refine (laws_eqFieldS.calls k _ _ l0_1 _ _ l1_1 true _ ?side1 ?side2 ?side3 ?side4 A4.out).mono ?_); (case side1 => exact cb HR0_1); (case side2 => exact HC0_1.out); (case side3 => exact cb HR1_1); (case side4 => exact HC1_1.out); rintro e w20 ⟨rfl, hb⟩; refine ⟨_, rfl, ?_⟩; replace BK888 := kb BK888 hb; replace BK889 := kb BK889 hb; replace HB := am (below_step bl hb); (try clear hb); (try clear hb2); (try clear hk); (try clear hi); have hcz21_0 : w20.cell? ⟨gb888, 0, none⟩ = some (.int .i64 a0_0) := bc BK888; have hcz21_1 : w20.cell? ⟨gb888, 1, none⟩ = some (.slice A0_1 l0_1.length c0_1) := bc BK888; have hcz21_2 : w20.cell? ⟨gb888, 2, none⟩ = some (.string a0_2) := bc BK888; have hfz21_0 := blk_frozen BK888.out 0; have hfz21_1 := blk_frozen BK888.out 1; have hfz21_2 := blk_frozen BK888.out 2; have hcz22_0 : w20.cell? ⟨gb889, 0, none⟩ = some (.int .i64 a1_0) := bc BK889; have hcz22_1 : w20.cell? ⟨gb889, 1, none⟩ = some (.slice A1_1 l1_1.length c1_1) := bc BK889; have hcz22_2 : w20.cell? ⟨gb889, 2, none⟩ = some (.string a1_2) := bc BK889; have hfz22_0 := blk_frozen BK889.out 0; have hfz22_1 := blk_frozen BK889.out 1; have hfz22_2 := blk_frozen BK889.out 2))
    go_ret
    exact ⟨rf, bl⟩
  ·replace c5 := Bool.eq_false_iff.mpr c5
   subst c5
   have H1 : (some false) = some r := by rw [if_neg (show ¬ (false = true) by decide)] at H; exact H
   clear H
   have H := H1
   clear H1
   obtain rfl := Option.some.inj H
   go_enter Tryd.func45, Tryd.ntmps45
   go_wp2_with (first | ((with_reducible refine gate_dst (N := 2) rfl ?_); refine box_event ?hg (N := 2) ?hd (cs := #[.int .i64 a0_0, .slice A0_1 l0_1.length c0_1, .string a0_2]) (t := 43) ?hr ?_; (case hd => rfl); (case hg => rfl); (case hr => first | (go_simp; done) | (go_simp; rfl)); intro gb888 hg w23 hbox hb; have n0_ := am (below_step bl hb); have n1_ := am (hbox); have n2_ := am (sz hg : w.heap.size ≤ gb888); have n3_ := am (sz hg : w.heap.size ≤ gb888); clear HB; have HB := n0_; have BK888 := n1_; have GW888 := n2_; have GE888 := n3_; clear n0_ n1_ n2_ n3_; clear hb hbox hg) | ((with_reducible refine gate_dst (N := 3) rfl ?_); refine box_event ?hg (N := 3) ?hd (cs := #[.int .i64 a1_0, .slice A1_1 l1_1.length c1_1, .string a1_2]) (t := 43) ?hr ?_; (case hd => rfl); (case hg => rfl); (case hr => first | (go_simp; done) | (go_simp; rfl)); intro gb889 hg w24 hbox hb; have n0_ := kb BK888 hb; have n1_ := am (below_step bl hb); have n2_ := am (hbox); have n3_ := am (sz hg : w.heap.size ≤ gb889); have n4_ := am (sz hg : w.heap.size ≤ gb889); have n5_ := am (nl hg BK888 : gb888 ≠ gb889); have n6_ := am (ng hg BK888 : gb889 ≠ gb888); clear BK888; clear HB; have BK888 := n0_; have HB := n1_; have BK889 := n2_; have GW889 := n3_; have GE889 := n4_; have NB888_889 := n5_; have NB889_888 := n6_; clear n0_ n1_ n2_ n3_ n4_ n5_ n6_; clear hb hbox hg; have hnb25 := NB888_889.out; have hnc25 := NB889_888.out; have hcz26_0 : w24.cell? ⟨gb888, 0, none⟩ = some (.int .i64 a0_0) := bc BK888; have hcz26_1 : w24.cell? ⟨gb888, 1, none⟩ = some (.slice A0_1 l0_1.length c0_1) := bc BK888; have hcz26_2 : w24.cell? ⟨gb888, 2, none⟩ = some (.string a0_2) := bc BK888; have hfz26_0 := blk_frozen BK888.out 0; have hfz26_1 := blk_frozen BK888.out 1; have hfz26_2 := blk_frozen BK888.out 2; have hcz27_0 : w24.cell? ⟨gb889, 0, none⟩ = some (.int .i64 a1_0) := bc BK889; have hcz27_1 : w24.cell? ⟨gb889, 1, none⟩ = some (.slice A1_1 l1_1.length c1_1) := bc BK889; have hcz27_2 : w24.cell? ⟨gb889, 2, none⟩ = some (.string a1_2) := bc BK889; have hfz27_0 := blk_frozen BK889.out 0; have hfz27_1 := blk_frozen BK889.out 1; have hfz27_2 := blk_frozen BK889.out 2) | ((with_reducible refine gate_callee (f := 22) rfl ?_); refine goesL_ (some 14) rfl rfl Tryd.func22 (by kernel_rfl) rfl #[.slice A0_1 l0_1.length c0_1, .slice A1_1 l1_1.length c1_1] rfl ma ?_; (with_reducible refine (laws_eqFieldS.calls k _ _ l0_1 _ _ l1_1 false _ ?side1 ?side2 ?side3 ?side4 A4.out).mono ?_); (case side1 => exact cb HR0_1); (case side2 => exact HC0_1.out); (case side3 => exact cb HR1_1); (case side4 => exact HC1_1.out); rintro e w28 ⟨rfl, hb⟩; refine ⟨_, rfl, ?_⟩; replace BK888 := kb BK888 hb; replace BK889 := kb BK889 hb; replace HB := am (below_step bl hb); (try clear hb); (try clear hb2); (try clear hk); (try clear hi)))
   go_ret
   exact ⟨rf, bl⟩
 ·rw [if_neg c3] at H
  have c3b0 : (a0_0 == a1_0) = false := beq_eq_false_iff_ne.mpr c3
  have c3b1 : (a0_0 != a1_0) = true := bne_iff_ne.mpr c3
  obtain rfl := Option.some.inj H
  go_enter Tryd.func45, Tryd.ntmps45
  go_wp2_with (first | ((with_reducible refine gate_dst (N := 2) rfl ?_); refine box_event ?hg (N := 2) ?hd (cs := #[.int .i64 a0_0, .slice A0_1 l0_1.length c0_1, .string a0_2]) (t := 43) ?hr ?_; (case hd => rfl); (case hg => rfl); (case hr => first | (go_simp; done) | (go_simp; rfl)); intro gb888 hg w29 hbox hb; have n0_ := am (below_step bl hb); have n1_ := am (hbox); have n2_ := am (sz hg : w.heap.size ≤ gb888); have n3_ := am (sz hg : w.heap.size ≤ gb888); clear HB; have HB := n0_; have BK888 := n1_; have GW888 := n2_; have GE888 := n3_; clear n0_ n1_ n2_ n3_; clear hb hbox hg) | ((with_reducible refine gate_dst (N := 3) rfl ?_); refine box_event ?hg (N := 3) ?hd (cs := #[.int .i64 a1_0, .slice A1_1 l1_1.length c1_1, .string a1_2]) (t := 43) ?hr ?_; (case hd => rfl); (case hg => rfl); (case hr => first | (go_simp; done) | (go_simp; rfl)); intro gb889 hg w30 hbox hb; have n0_ := kb BK888 hb; have n1_ := am (below_step bl hb); have n2_ := am (hbox); have n3_ := am (sz hg : w.heap.size ≤ gb889); have n4_ := am (sz hg : w.heap.size ≤ gb889); have n5_ := am (nl hg BK888 : gb888 ≠ gb889); have n6_ := am (ng hg BK888 : gb889 ≠ gb888); clear BK888; clear HB; have BK888 := n0_; have HB := n1_; have BK889 := n2_; have GW889 := n3_; have GE889 := n4_; have NB888_889 := n5_; have NB889_888 := n6_; clear n0_ n1_ n2_ n3_ n4_ n5_ n6_; clear hb hbox hg; have hnb31 := NB888_889.out; have hnc31 := NB889_888.out; have hcz32_0 : w30.cell? ⟨gb888, 0, none⟩ = some (.int .i64 a0_0) := bc BK888; have hcz32_1 : w30.cell? ⟨gb888, 1, none⟩ = some (.slice A0_1 l0_1.length c0_1) := bc BK888; have hcz32_2 : w30.cell? ⟨gb888, 2, none⟩ = some (.string a0_2) := bc BK888; have hfz32_0 := blk_frozen BK888.out 0; have hfz32_1 := blk_frozen BK888.out 1; have hfz32_2 := blk_frozen BK888.out 2; have hcz33_0 : w30.cell? ⟨gb889, 0, none⟩ = some (.int .i64 a1_0) := bc BK889; have hcz33_1 : w30.cell? ⟨gb889, 1, none⟩ = some (.slice A1_1 l1_1.length c1_1) := bc BK889; have hcz33_2 : w30.cell? ⟨gb889, 2, none⟩ = some (.string a1_2) := bc BK889; have hfz33_0 := blk_frozen BK889.out 0; have hfz33_1 := blk_frozen BK889.out 1; have hfz33_2 := blk_frozen BK889.out 2))
  go_ret
  exact ⟨rf, bl⟩

end Go.Proofs.YtiinmfjbildclaaDoor.All
