-- Written by a program of this session (wip/tools/hprint.py) out of the translation. Lean checks it.
import Derived.Test.YtiinmfjbildclaaDoorAllx0
import Derived.Test.YtiinmfjbildclaaDoorAllx12
import Derived.Test.YtiinmfjbildclaaDoorAllx21
import Derived.Test.YtiinmfjbildclaaDoorAllx22
namespace Go.Proofs.YtiinmfjbildclaaDoor.All
open Go.RowKit Go.Proofs.YtiinmfjbildclaaDoorW.PrintWords Go.Proofs.YtiinmfjbildclaaDoorW.PrintLast Go.Proofs.YtiinmfjbildclaaDoorW.PrintMore
attribute [local go_sem] max2_int min2_int max_two min_two max_three min_three max_four min_four   -- for this text's walks alone
set_option linter.unusedVariables false
set_option linter.unusedSimpArgs false

/-! ### impl_ReqOk: function 40 -/
def impl_ReqOk.f (k : Nat) (a0_0 : Int) (a0_1 : ByteArray) (l0_2 : List (S114)) (a0_3 : ByteArray) : Option (Bool) := (impl_inRange.f a0_0 1 4).bind fun t664 => (if t664 = true then ((impl_pathOk.f k a0_1).bind fun t665 => (if t665 = true then (if (a0_3.size : Int) ≤ 120 then ((impl_FieldsOk.f k l0_2).bind fun t666 => (some t666)) else (some false)) else (some false))) else (some false))
theorem impl_ReqOk.mono : ∀ a0 a1 a2 a3 k, LeO (impl_ReqOk.f k a0 a1 a2 a3) (impl_ReqOk.f (k + 1) a0 a1 a2 a3) := by
 intro a0 a1 a2 a3 k
 unfold impl_ReqOk.f
 repeat' first
   | (with_reducible exact impl_FieldsOk.mono _ _)
   | (with_reducible exact impl_pathOk.mono _ _)
   | (with_reducible exact LeO.refl _)
   | (with_reducible exact LeO.none _)
   | (with_reducible refine LeO.ite ?_ ?_)
   | (with_reducible refine LeO.bind ?_ (fun _ => ?_))
   | exact impl_FieldsOk.mono _ _
   | exact impl_pathOk.mono _ _
   | exact LeO.none _
   | refine LeO.ite ?_ ?_
   | refine LeO.bind ?_ (fun _ => ?_)
set_option maxHeartbeats 8000000 in
set_option maxRecDepth 100000 in
theorem impl_ReqOk.calls (k : Nat) (a0_0 : Int) (a0_1 : ByteArray) (A0_2 : Option Addr) (c0_2 : Nat) (l0_2 : List (S114)) (a0_3 : ByteArray) (r : Bool) (w : World) (hr0_2 : Kd.C k114 w A0_2 l0_2.length l0_2) (hc0_2 : l0_2.length ≤ c0_2) (h : impl_ReqOk.f k a0_0 a0_1 l0_2 a0_3 = some r) :
  Calls Tryd.prog 40 #[.agg #[.int .i64 a0_0, .string a0_1, .slice A0_2 l0_2.length c0_2, .string a0_3]] w fun e w' => e = .returned (.bool r) ∧ Below w.heap.size w w' := by
 have hu38 := Tryd.underlying38
 have HR0_2 := am hr0_2
 have HC0_2 := am hc0_2
 clear hr0_2 hc0_2
 have HB := am (Below.refl w.heap.size w)
 have H : ((impl_inRange.f a0_0 1 4).bind fun t664 => (if t664 = true then ((impl_pathOk.f k a0_1).bind fun t665 => (if t665 = true then (if (a0_3.size : Int) ≤ 120 then ((impl_FieldsOk.f k l0_2).bind fun t666 => (some t666)) else (some false)) else (some false))) else (some false))) = some r := h
 clear h
 replace H := ob H
 obtain ⟨t664, A20, H⟩ := H
 replace H : (if t664 = true then ((impl_pathOk.f k a0_1).bind fun t665 => (if t665 = true then (if (a0_3.size : Int) ≤ 120 then ((impl_FieldsOk.f k l0_2).bind fun t666 => (some t666)) else (some false)) else (some false))) else (some false)) = some r := H
 have A2 := am A20
 clear A20
 by_cases c3 : t664 = true
 ·subst c3
  have H1 : ((impl_pathOk.f k a0_1).bind fun t665 => (if t665 = true then (if (a0_3.size : Int) ≤ 120 then ((impl_FieldsOk.f k l0_2).bind fun t666 => (some t666)) else (some false)) else (some false))) = some r := by rw [if_pos rfl] at H; exact H
  clear H
  have H := H1
  clear H1
  replace H := ob H
  obtain ⟨t665, A40, H⟩ := H
  replace H : (if t665 = true then (if (a0_3.size : Int) ≤ 120 then ((impl_FieldsOk.f k l0_2).bind fun t666 => (some t666)) else (some false)) else (some false)) = some r := H
  have A4 := am A40
  clear A40
  by_cases c5 : t665 = true
  ·subst c5
   have H1 : (if (a0_3.size : Int) ≤ 120 then ((impl_FieldsOk.f k l0_2).bind fun t666 => (some t666)) else (some false)) = some r := by rw [if_pos rfl] at H; exact H
   clear H
   have H := H1
   clear H1
   by_cases c6 : (a0_3.size : Int) ≤ 120
   ·rw [if_pos c6] at H
    have c6b0 : decide ((a0_3.size : Int) ≤ 120) = true := decide_eq_true c6
    have c6b1 : decide (a0_3.size ≤ 120) = true := decide_eq_true (by omega)
    clear c6
    replace H := ob H
    obtain ⟨t666, A70, H⟩ := H
    replace H : (some t666) = some r := H
    have A7 := am A70
    clear A70
    obtain rfl := Option.some.inj H
    go_enter Tryd.func40, Tryd.ntmps40
    go_wp2_with (first | ((with_reducible refine gate_dst (N := 1) rfl ?_); (try (refine gate_guard (by rfl) ?_; dsimp only)); refine box_event ?hg (N := 1) ?hd (cs := #[.int .i64 a0_0, .string a0_1, .slice A0_2 l0_2.length c0_2, .string a0_3]) (t := 38) ?hr ?_; (case hd => rfl); (case hg => rfl); (case hr => first | (go_simp; done) | (go_simp; rfl)); intro gb663 hg w8 hbox hb; have n0_ := am (below_step bl hb); have n1_ := am (hbox); have n2_ := am (sz hg : w.heap.size ≤ gb663); have n3_ := am (sz hg : w.heap.size ≤ gb663); clear HB; have HB := n0_; have BK663 := n1_; have GW663 := n2_; have GE663 := n3_; clear n0_ n1_ n2_ n3_; clear hb hbox hg; have hcz9_0 : w8.cell? ⟨gb663, 0, none⟩ = some (.int .i64 a0_0) := bc BK663; have hcz9_1 : w8.cell? ⟨gb663, 1, none⟩ = some (.string a0_1) := bc BK663; have hcz9_2 : w8.cell? ⟨gb663, 2, none⟩ = some (.slice A0_2 l0_2.length c0_2) := bc BK663; have hcz9_3 : w8.cell? ⟨gb663, 3, none⟩ = some (.string a0_3) := bc BK663; have hfz9_0 := blk_frozen BK663.out 0; have hfz9_1 := blk_frozen BK663.out 1; have hfz9_2 := blk_frozen BK663.out 2; have hfz9_3 := blk_frozen BK663.out 3) | ((with_reducible refine gate_callee (f := 118) rfl ?_); refine goesL_ (some 5) rfl rfl Tryd.func118 (by kernel_rfl) rfl #[.int .i64 a0_0, .int .i64 1, .int .i64 4] rfl ma ?_; (with_reducible refine (impl_inRange.calls a0_0 1 4 true _ A2.out).mono ?_); rintro e w' ⟨rfl, ⟨nd, rfl⟩⟩; refine ⟨_, rfl, ?_⟩) | (go_at_call 119; (with_reducible refine (impl_pathOk.calls k a0_1 true _ A4.out).mono ?_); rintro e w' ⟨rfl, ⟨nd, rfl⟩⟩) | (go_at_call 120; (with_reducible refine (impl_FieldsOk.calls k _ _ l0_2 t666 _ ?side1 ?side2 A7.out).mono ?_); (case side1 => repeat (first | exact (Kd.C_below HR0_2.out bl) | (with_reducible refine Kd.C_alloc ?_ _) | (with_reducible refine Kd.C_drewN ?_ _) | (with_reducible refine Kd.C_drew ?_))); (case side2 => exact HC0_2.out); rintro e w10 ⟨rfl, hb⟩; replace BK663 := kb BK663 hb; replace HB := am (below_step bl hb); (try clear hb); (try clear hb2); (try clear hk); (try clear hi)))
    go_ret
    exact ⟨rf, bl⟩
   ·rw [if_neg c6] at H
    have c6b0 : decide ((a0_3.size : Int) ≤ 120) = false := decide_eq_false c6
    have c6b1 : decide (a0_3.size ≤ 120) = false := decide_eq_false (by omega)
    clear c6
    obtain rfl := Option.some.inj H
    go_enter Tryd.func40, Tryd.ntmps40
    go_wp2_with (first | ((with_reducible refine gate_dst (N := 1) rfl ?_); (try (refine gate_guard (by rfl) ?_; dsimp only)); refine box_event ?hg (N := 1) ?hd (cs := #[.int .i64 a0_0, .string a0_1, .slice A0_2 l0_2.length c0_2, .string a0_3]) (t := 38) ?hr ?_; (case hd => rfl); (case hg => rfl); (case hr => first | (go_simp; done) | (go_simp; rfl)); intro gb663 hg w11 hbox hb; have n0_ := am (below_step bl hb); have n1_ := am (hbox); have n2_ := am (sz hg : w.heap.size ≤ gb663); have n3_ := am (sz hg : w.heap.size ≤ gb663); clear HB; have HB := n0_; have BK663 := n1_; have GW663 := n2_; have GE663 := n3_; clear n0_ n1_ n2_ n3_; clear hb hbox hg; have hcz12_0 : w11.cell? ⟨gb663, 0, none⟩ = some (.int .i64 a0_0) := bc BK663; have hcz12_1 : w11.cell? ⟨gb663, 1, none⟩ = some (.string a0_1) := bc BK663; have hcz12_2 : w11.cell? ⟨gb663, 2, none⟩ = some (.slice A0_2 l0_2.length c0_2) := bc BK663; have hcz12_3 : w11.cell? ⟨gb663, 3, none⟩ = some (.string a0_3) := bc BK663; have hfz12_0 := blk_frozen BK663.out 0; have hfz12_1 := blk_frozen BK663.out 1; have hfz12_2 := blk_frozen BK663.out 2; have hfz12_3 := blk_frozen BK663.out 3) | ((with_reducible refine gate_callee (f := 118) rfl ?_); refine goesL_ (some 5) rfl rfl Tryd.func118 (by kernel_rfl) rfl #[.int .i64 a0_0, .int .i64 1, .int .i64 4] rfl ma ?_; (with_reducible refine (impl_inRange.calls a0_0 1 4 true _ A2.out).mono ?_); rintro e w' ⟨rfl, ⟨nd, rfl⟩⟩; refine ⟨_, rfl, ?_⟩) | (go_at_call 119; (with_reducible refine (impl_pathOk.calls k a0_1 true _ A4.out).mono ?_); rintro e w' ⟨rfl, ⟨nd, rfl⟩⟩))
    go_ret
    exact ⟨rf, bl⟩
  ·replace c5 := Bool.eq_false_iff.mpr c5
   subst c5
   have H1 : (some false) = some r := by rw [if_neg (show ¬ (false = true) by decide)] at H; exact H
   clear H
   have H := H1
   clear H1
   obtain rfl := Option.some.inj H
   go_enter Tryd.func40, Tryd.ntmps40
   go_wp2_with (first | ((with_reducible refine gate_dst (N := 1) rfl ?_); (try (refine gate_guard (by rfl) ?_; dsimp only)); refine box_event ?hg (N := 1) ?hd (cs := #[.int .i64 a0_0, .string a0_1, .slice A0_2 l0_2.length c0_2, .string a0_3]) (t := 38) ?hr ?_; (case hd => rfl); (case hg => rfl); (case hr => first | (go_simp; done) | (go_simp; rfl)); intro gb663 hg w13 hbox hb; have n0_ := am (below_step bl hb); have n1_ := am (hbox); have n2_ := am (sz hg : w.heap.size ≤ gb663); have n3_ := am (sz hg : w.heap.size ≤ gb663); clear HB; have HB := n0_; have BK663 := n1_; have GW663 := n2_; have GE663 := n3_; clear n0_ n1_ n2_ n3_; clear hb hbox hg; have hcz14_0 : w13.cell? ⟨gb663, 0, none⟩ = some (.int .i64 a0_0) := bc BK663; have hcz14_1 : w13.cell? ⟨gb663, 1, none⟩ = some (.string a0_1) := bc BK663; have hcz14_2 : w13.cell? ⟨gb663, 2, none⟩ = some (.slice A0_2 l0_2.length c0_2) := bc BK663; have hcz14_3 : w13.cell? ⟨gb663, 3, none⟩ = some (.string a0_3) := bc BK663; have hfz14_0 := blk_frozen BK663.out 0; have hfz14_1 := blk_frozen BK663.out 1; have hfz14_2 := blk_frozen BK663.out 2; have hfz14_3 := blk_frozen BK663.out 3) | ((with_reducible refine gate_callee (f := 118) rfl ?_); refine goesL_ (some 5) rfl rfl Tryd.func118 (by kernel_rfl) rfl #[.int .i64 a0_0, .int .i64 1, .int .i64 4] rfl ma ?_; (with_reducible refine (impl_inRange.calls a0_0 1 4 true _ A2.out).mono ?_); rintro e w' ⟨rfl, ⟨nd, rfl⟩⟩; refine ⟨_, rfl, ?_⟩) | (go_at_call 119; (with_reducible refine (impl_pathOk.calls k a0_1 false _ A4.out).mono ?_); rintro e w' ⟨rfl, ⟨nd, rfl⟩⟩))
   go_ret
   exact ⟨rf, bl⟩
 ·replace c3 := Bool.eq_false_iff.mpr c3
  subst c3
  have H1 : (some false) = some r := by rw [if_neg (show ¬ (false = true) by decide)] at H; exact H
  clear H
  have H := H1
  clear H1
  obtain rfl := Option.some.inj H
  go_enter Tryd.func40, Tryd.ntmps40
  go_wp2_with (first | ((with_reducible refine gate_dst (N := 1) rfl ?_); (try (refine gate_guard (by rfl) ?_; dsimp only)); refine box_event ?hg (N := 1) ?hd (cs := #[.int .i64 a0_0, .string a0_1, .slice A0_2 l0_2.length c0_2, .string a0_3]) (t := 38) ?hr ?_; (case hd => rfl); (case hg => rfl); (case hr => first | (go_simp; done) | (go_simp; rfl)); intro gb663 hg w15 hbox hb; have n0_ := am (below_step bl hb); have n1_ := am (hbox); have n2_ := am (sz hg : w.heap.size ≤ gb663); have n3_ := am (sz hg : w.heap.size ≤ gb663); clear HB; have HB := n0_; have BK663 := n1_; have GW663 := n2_; have GE663 := n3_; clear n0_ n1_ n2_ n3_; clear hb hbox hg; have hcz16_0 : w15.cell? ⟨gb663, 0, none⟩ = some (.int .i64 a0_0) := bc BK663; have hcz16_1 : w15.cell? ⟨gb663, 1, none⟩ = some (.string a0_1) := bc BK663; have hcz16_2 : w15.cell? ⟨gb663, 2, none⟩ = some (.slice A0_2 l0_2.length c0_2) := bc BK663; have hcz16_3 : w15.cell? ⟨gb663, 3, none⟩ = some (.string a0_3) := bc BK663; have hfz16_0 := blk_frozen BK663.out 0; have hfz16_1 := blk_frozen BK663.out 1; have hfz16_2 := blk_frozen BK663.out 2; have hfz16_3 := blk_frozen BK663.out 3) | ((with_reducible refine gate_callee (f := 118) rfl ?_); refine goesL_ (some 5) rfl rfl Tryd.func118 (by kernel_rfl) rfl #[.int .i64 a0_0, .int .i64 1, .int .i64 4] rfl ma ?_; (with_reducible refine (impl_inRange.calls a0_0 1 4 false _ A2.out).mono ?_); rintro e w' ⟨rfl, ⟨nd, rfl⟩⟩; refine ⟨_, rfl, ?_⟩))
  go_ret
  exact ⟨rf, bl⟩

/-! ### spec_ReqOk: function 115 -/
def spec_ReqOk.f (k : Nat) (a0_0 : Int) (a0_1 : ByteArray) (l0_2 : List (S114)) (a0_3 : ByteArray) : Option (Bool) := (spec_l1In.f a0_0 1 4).bind fun t715 => (if t715 = true then ((spec_l3Path.f k a0_1).bind fun t716 => (if t716 = true then ((spec_FieldsOk.f k l0_2).bind fun t717 => (if t717 = true then (some (decide ((a0_3.size : Int) ≤ 120))) else (some false))) else (some false))) else (some false))
theorem spec_ReqOk.mono : ∀ a0 a1 a2 a3 k, LeO (spec_ReqOk.f k a0 a1 a2 a3) (spec_ReqOk.f (k + 1) a0 a1 a2 a3) := by
 intro a0 a1 a2 a3 k
 unfold spec_ReqOk.f
 repeat' first
   | (with_reducible exact spec_FieldsOk.mono _ _)
   | (with_reducible exact spec_l3Path.mono _ _)
   | (with_reducible exact LeO.refl _)
   | (with_reducible exact LeO.none _)
   | (with_reducible refine LeO.ite ?_ ?_)
   | (with_reducible refine LeO.bind ?_ (fun _ => ?_))
   | exact spec_FieldsOk.mono _ _
   | exact spec_l3Path.mono _ _
   | exact LeO.none _
   | refine LeO.ite ?_ ?_
   | refine LeO.bind ?_ (fun _ => ?_)
set_option maxHeartbeats 8000000 in
set_option maxRecDepth 100000 in
theorem spec_ReqOk.calls (k : Nat) (a0_0 : Int) (a0_1 : ByteArray) (A0_2 : Option Addr) (c0_2 : Nat) (l0_2 : List (S114)) (a0_3 : ByteArray) (r : Bool) (w : World) (hr0_2 : Kd.C k114 w A0_2 l0_2.length l0_2) (hc0_2 : l0_2.length ≤ c0_2) (h : spec_ReqOk.f k a0_0 a0_1 l0_2 a0_3 = some r) :
  Calls Tryd.prog 115 #[.agg #[.int .i64 a0_0, .string a0_1, .slice A0_2 l0_2.length c0_2, .string a0_3]] w fun e w' => e = .returned (.bool r) ∧ Below w.heap.size w w' := by
 have hu38 := Tryd.underlying38
 have HR0_2 := am hr0_2
 have HC0_2 := am hc0_2
 clear hr0_2 hc0_2
 have HB := am (Below.refl w.heap.size w)
 have H : ((spec_l1In.f a0_0 1 4).bind fun t715 => (if t715 = true then ((spec_l3Path.f k a0_1).bind fun t716 => (if t716 = true then ((spec_FieldsOk.f k l0_2).bind fun t717 => (if t717 = true then (some (decide ((a0_3.size : Int) ≤ 120))) else (some false))) else (some false))) else (some false))) = some r := h
 clear h
 replace H := ob H
 obtain ⟨t715, A20, H⟩ := H
 replace H : (if t715 = true then ((spec_l3Path.f k a0_1).bind fun t716 => (if t716 = true then ((spec_FieldsOk.f k l0_2).bind fun t717 => (if t717 = true then (some (decide ((a0_3.size : Int) ≤ 120))) else (some false))) else (some false))) else (some false)) = some r := H
 have A2 := am A20
 clear A20
 by_cases c3 : t715 = true
 ·subst c3
  have H1 : ((spec_l3Path.f k a0_1).bind fun t716 => (if t716 = true then ((spec_FieldsOk.f k l0_2).bind fun t717 => (if t717 = true then (some (decide ((a0_3.size : Int) ≤ 120))) else (some false))) else (some false))) = some r := by rw [if_pos rfl] at H; exact H
  clear H
  have H := H1
  clear H1
  replace H := ob H
  obtain ⟨t716, A40, H⟩ := H
  replace H : (if t716 = true then ((spec_FieldsOk.f k l0_2).bind fun t717 => (if t717 = true then (some (decide ((a0_3.size : Int) ≤ 120))) else (some false))) else (some false)) = some r := H
  have A4 := am A40
  clear A40
  by_cases c5 : t716 = true
  ·subst c5
   have H1 : ((spec_FieldsOk.f k l0_2).bind fun t717 => (if t717 = true then (some (decide ((a0_3.size : Int) ≤ 120))) else (some false))) = some r := by rw [if_pos rfl] at H; exact H
   clear H
   have H := H1
   clear H1
   replace H := ob H
   obtain ⟨t717, A60, H⟩ := H
   replace H : (if t717 = true then (some (decide ((a0_3.size : Int) ≤ 120))) else (some false)) = some r := H
   have A6 := am A60
   clear A60
   by_cases c7 : t717 = true
   ·subst c7
    have H1 : (some (decide ((a0_3.size : Int) ≤ 120))) = some r := by rw [if_pos rfl] at H; exact H
    clear H
    have H := H1
    clear H1
    obtain rfl := Option.some.inj H
    go_enter Tryd.func115, Tryd.ntmps115
    go_wp2_with (first | ((with_reducible refine gate_dst (N := 1) rfl ?_); (try (refine gate_guard (by rfl) ?_; dsimp only)); refine box_event ?hg (N := 1) ?hd (cs := #[.int .i64 a0_0, .string a0_1, .slice A0_2 l0_2.length c0_2, .string a0_3]) (t := 38) ?hr ?_; (case hd => rfl); (case hg => rfl); (case hr => first | (go_simp; done) | (go_simp; rfl)); intro gb714 hg w8 hbox hb; have n0_ := am (below_step bl hb); have n1_ := am (hbox); have n2_ := am (sz hg : w.heap.size ≤ gb714); have n3_ := am (sz hg : w.heap.size ≤ gb714); clear HB; have HB := n0_; have BK714 := n1_; have GW714 := n2_; have GE714 := n3_; clear n0_ n1_ n2_ n3_; clear hb hbox hg; have hcz9_0 : w8.cell? ⟨gb714, 0, none⟩ = some (.int .i64 a0_0) := bc BK714; have hcz9_1 : w8.cell? ⟨gb714, 1, none⟩ = some (.string a0_1) := bc BK714; have hcz9_2 : w8.cell? ⟨gb714, 2, none⟩ = some (.slice A0_2 l0_2.length c0_2) := bc BK714; have hcz9_3 : w8.cell? ⟨gb714, 3, none⟩ = some (.string a0_3) := bc BK714; have hfz9_0 := blk_frozen BK714.out 0; have hfz9_1 := blk_frozen BK714.out 1; have hfz9_2 := blk_frozen BK714.out 2; have hfz9_3 := blk_frozen BK714.out 3) | ((with_reducible refine gate_callee (f := 138) rfl ?_); refine goesL_ (some 5) rfl rfl Tryd.func138 (by kernel_rfl) rfl #[.int .i64 a0_0, .int .i64 1, .int .i64 4] rfl ma ?_; (with_reducible refine (spec_l1In.calls a0_0 1 4 true _ A2.out).mono ?_); rintro e w' ⟨rfl, ⟨nd, rfl⟩⟩; refine ⟨_, rfl, ?_⟩) | (go_at_call 137; (with_reducible refine (spec_l3Path.calls k a0_1 true _ A4.out).mono ?_); rintro e w' ⟨rfl, ⟨nd, rfl⟩⟩) | (go_at_call 169; (with_reducible refine (spec_FieldsOk.calls k _ _ l0_2 true _ ?side1 ?side2 A6.out).mono ?_); (case side1 => repeat (first | exact (Kd.C_below HR0_2.out bl) | (with_reducible refine Kd.C_alloc ?_ _) | (with_reducible refine Kd.C_drewN ?_ _) | (with_reducible refine Kd.C_drew ?_))); (case side2 => exact HC0_2.out); rintro e w' ⟨rfl, ⟨nd, rfl⟩⟩))
    go_ret
    exact ⟨rf, bl⟩
   ·replace c7 := Bool.eq_false_iff.mpr c7
    subst c7
    have H1 : (some false) = some r := by rw [if_neg (show ¬ (false = true) by decide)] at H; exact H
    clear H
    have H := H1
    clear H1
    obtain rfl := Option.some.inj H
    go_enter Tryd.func115, Tryd.ntmps115
    go_wp2_with (first | ((with_reducible refine gate_dst (N := 1) rfl ?_); (try (refine gate_guard (by rfl) ?_; dsimp only)); refine box_event ?hg (N := 1) ?hd (cs := #[.int .i64 a0_0, .string a0_1, .slice A0_2 l0_2.length c0_2, .string a0_3]) (t := 38) ?hr ?_; (case hd => rfl); (case hg => rfl); (case hr => first | (go_simp; done) | (go_simp; rfl)); intro gb714 hg w10 hbox hb; have n0_ := am (below_step bl hb); have n1_ := am (hbox); have n2_ := am (sz hg : w.heap.size ≤ gb714); have n3_ := am (sz hg : w.heap.size ≤ gb714); clear HB; have HB := n0_; have BK714 := n1_; have GW714 := n2_; have GE714 := n3_; clear n0_ n1_ n2_ n3_; clear hb hbox hg; have hcz11_0 : w10.cell? ⟨gb714, 0, none⟩ = some (.int .i64 a0_0) := bc BK714; have hcz11_1 : w10.cell? ⟨gb714, 1, none⟩ = some (.string a0_1) := bc BK714; have hcz11_2 : w10.cell? ⟨gb714, 2, none⟩ = some (.slice A0_2 l0_2.length c0_2) := bc BK714; have hcz11_3 : w10.cell? ⟨gb714, 3, none⟩ = some (.string a0_3) := bc BK714; have hfz11_0 := blk_frozen BK714.out 0; have hfz11_1 := blk_frozen BK714.out 1; have hfz11_2 := blk_frozen BK714.out 2; have hfz11_3 := blk_frozen BK714.out 3) | ((with_reducible refine gate_callee (f := 138) rfl ?_); refine goesL_ (some 5) rfl rfl Tryd.func138 (by kernel_rfl) rfl #[.int .i64 a0_0, .int .i64 1, .int .i64 4] rfl ma ?_; (with_reducible refine (spec_l1In.calls a0_0 1 4 true _ A2.out).mono ?_); rintro e w' ⟨rfl, ⟨nd, rfl⟩⟩; refine ⟨_, rfl, ?_⟩) | (go_at_call 137; (with_reducible refine (spec_l3Path.calls k a0_1 true _ A4.out).mono ?_); rintro e w' ⟨rfl, ⟨nd, rfl⟩⟩) | (go_at_call 169; (with_reducible refine (spec_FieldsOk.calls k _ _ l0_2 false _ ?side1 ?side2 A6.out).mono ?_); (case side1 => repeat (first | exact (Kd.C_below HR0_2.out bl) | (with_reducible refine Kd.C_alloc ?_ _) | (with_reducible refine Kd.C_drewN ?_ _) | (with_reducible refine Kd.C_drew ?_))); (case side2 => exact HC0_2.out); rintro e w' ⟨rfl, ⟨nd, rfl⟩⟩))
    go_ret
    exact ⟨rf, bl⟩
  ·replace c5 := Bool.eq_false_iff.mpr c5
   subst c5
   have H1 : (some false) = some r := by rw [if_neg (show ¬ (false = true) by decide)] at H; exact H
   clear H
   have H := H1
   clear H1
   obtain rfl := Option.some.inj H
   go_enter Tryd.func115, Tryd.ntmps115
   go_wp2_with (first | ((with_reducible refine gate_dst (N := 1) rfl ?_); (try (refine gate_guard (by rfl) ?_; dsimp only)); refine box_event ?hg (N := 1) ?hd (cs := #[.int .i64 a0_0, .string a0_1, .slice A0_2 l0_2.length c0_2, .string a0_3]) (t := 38) ?hr ?_; (case hd => rfl); (case hg => rfl); (case hr => first | (go_simp; done) | (go_simp; rfl)); intro gb714 hg w12 hbox hb; have n0_ := am (below_step bl hb); have n1_ := am (hbox); have n2_ := am (sz hg : w.heap.size ≤ gb714); have n3_ := am (sz hg : w.heap.size ≤ gb714); clear HB; have HB := n0_; have BK714 := n1_; have GW714 := n2_; have GE714 := n3_; clear n0_ n1_ n2_ n3_; clear hb hbox hg; have hcz13_0 : w12.cell? ⟨gb714, 0, none⟩ = some (.int .i64 a0_0) := bc BK714; have hcz13_1 : w12.cell? ⟨gb714, 1, none⟩ = some (.string a0_1) := bc BK714; have hcz13_2 : w12.cell? ⟨gb714, 2, none⟩ = some (.slice A0_2 l0_2.length c0_2) := bc BK714; have hcz13_3 : w12.cell? ⟨gb714, 3, none⟩ = some (.string a0_3) := bc BK714; have hfz13_0 := blk_frozen BK714.out 0; have hfz13_1 := blk_frozen BK714.out 1; have hfz13_2 := blk_frozen BK714.out 2; have hfz13_3 := blk_frozen BK714.out 3) | ((with_reducible refine gate_callee (f := 138) rfl ?_); refine goesL_ (some 5) rfl rfl Tryd.func138 (by kernel_rfl) rfl #[.int .i64 a0_0, .int .i64 1, .int .i64 4] rfl ma ?_; (with_reducible refine (spec_l1In.calls a0_0 1 4 true _ A2.out).mono ?_); rintro e w' ⟨rfl, ⟨nd, rfl⟩⟩; refine ⟨_, rfl, ?_⟩) | (go_at_call 137; (with_reducible refine (spec_l3Path.calls k a0_1 false _ A4.out).mono ?_); rintro e w' ⟨rfl, ⟨nd, rfl⟩⟩))
   go_ret
   exact ⟨rf, bl⟩
 ·replace c3 := Bool.eq_false_iff.mpr c3
  subst c3
  have H1 : (some false) = some r := by rw [if_neg (show ¬ (false = true) by decide)] at H; exact H
  clear H
  have H := H1
  clear H1
  obtain rfl := Option.some.inj H
  go_enter Tryd.func115, Tryd.ntmps115
  go_wp2_with (first | ((with_reducible refine gate_dst (N := 1) rfl ?_); (try (refine gate_guard (by rfl) ?_; dsimp only)); refine box_event ?hg (N := 1) ?hd (cs := #[.int .i64 a0_0, .string a0_1, .slice A0_2 l0_2.length c0_2, .string a0_3]) (t := 38) ?hr ?_; (case hd => rfl); (case hg => rfl); (case hr => first | (go_simp; done) | (go_simp; rfl)); intro gb714 hg w14 hbox hb; have n0_ := am (below_step bl hb); have n1_ := am (hbox); have n2_ := am (sz hg : w.heap.size ≤ gb714); have n3_ := am (sz hg : w.heap.size ≤ gb714); clear HB; have HB := n0_; have BK714 := n1_; have GW714 := n2_; have GE714 := n3_; clear n0_ n1_ n2_ n3_; clear hb hbox hg; have hcz15_0 : w14.cell? ⟨gb714, 0, none⟩ = some (.int .i64 a0_0) := bc BK714; have hcz15_1 : w14.cell? ⟨gb714, 1, none⟩ = some (.string a0_1) := bc BK714; have hcz15_2 : w14.cell? ⟨gb714, 2, none⟩ = some (.slice A0_2 l0_2.length c0_2) := bc BK714; have hcz15_3 : w14.cell? ⟨gb714, 3, none⟩ = some (.string a0_3) := bc BK714; have hfz15_0 := blk_frozen BK714.out 0; have hfz15_1 := blk_frozen BK714.out 1; have hfz15_2 := blk_frozen BK714.out 2; have hfz15_3 := blk_frozen BK714.out 3) | ((with_reducible refine gate_callee (f := 138) rfl ?_); refine goesL_ (some 5) rfl rfl Tryd.func138 (by kernel_rfl) rfl #[.int .i64 a0_0, .int .i64 1, .int .i64 4] rfl ma ?_; (with_reducible refine (spec_l1In.calls a0_0 1 4 false _ A2.out).mono ?_); rintro e w' ⟨rfl, ⟨nd, rfl⟩⟩; refine ⟨_, rfl, ?_⟩))
  go_ret
  exact ⟨rf, bl⟩

end Go.Proofs.YtiinmfjbildclaaDoor.All
