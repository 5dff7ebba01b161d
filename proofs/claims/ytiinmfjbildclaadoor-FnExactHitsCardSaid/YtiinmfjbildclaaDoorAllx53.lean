-- Written by a program of this session (wip/tools/hprint.py) out of the translation. Lean checks it.
import Derived.Test.YtiinmfjbildclaaDoorAllx0
import Derived.Test.YtiinmfjbildclaaDoorAllx5
import Derived.Test.YtiinmfjbildclaaDoorAllx12
import Derived.Test.YtiinmfjbildclaaDoorAllx21
import Derived.Test.YtiinmfjbildclaaDoorAllx22
import Derived.Test.YtiinmfjbildclaaDoorAllx48
namespace Go.Proofs.YtiinmfjbildclaaDoor.All
open Go.RowKit Go.Proofs.YtiinmfjbildclaaDoorW.PrintWords Go.Proofs.YtiinmfjbildclaaDoorW.PrintLast Go.Proofs.YtiinmfjbildclaaDoorW.PrintMore
attribute [local go_sem] max2_int min2_int max_two min_two max_three min_three max_four min_four   -- for this text's walks alone
set_option linter.unusedVariables false
set_option linter.unusedSimpArgs false

/-! ### laws_szBan: function 64 -/
def laws_szBan.f (a0_0 : Int) (a0_1 : ByteArray) (a0_2 : ByteArray) (a0_3 : Int) (a1 : Int) : Option (Int) := if (wrap64 (a1 - (a0_1.size : Int))) < 0 then (some (-1)) else (if (wrap64 ((wrap64 (a1 - (a0_1.size : Int))) - (a0_2.size : Int))) < 0 then (some (-1)) else (some (wrap64 ((wrap64 (a1 - (a0_1.size : Int))) - (a0_2.size : Int)))))
set_option maxHeartbeats 8000000 in
set_option maxRecDepth 100000 in
theorem laws_szBan.calls (a0_0 : Int) (a0_1 : ByteArray) (a0_2 : ByteArray) (a0_3 : Int) (a1 : Int) (r : Int) (w : World) (h : laws_szBan.f a0_0 a0_1 a0_2 a0_3 a1 = some r) :
  Calls Tryd.prog 64 #[.agg #[.int .i64 a0_0, .string a0_1, .string a0_2, .int .i64 a0_3], .int .i64 a1] w fun e w' => e = .returned (.int .i64 r) ∧ Below w.heap.size w w' := by
 have hu81 := Tryd.underlying81
 have HB := am (Below.refl w.heap.size w)
 have H : (if (wrap64 (a1 - (a0_1.size : Int))) < 0 then (some (-1)) else (if (wrap64 ((wrap64 (a1 - (a0_1.size : Int))) - (a0_2.size : Int))) < 0 then (some (-1)) else (some (wrap64 ((wrap64 (a1 - (a0_1.size : Int))) - (a0_2.size : Int)))))) = some r := h
 clear h
 by_cases c3 : (wrap64 (a1 - (a0_1.size : Int))) < 0
 ·rw [if_pos c3] at H
  have c3b0 : decide ((wrap64 (a1 - (a0_1.size : Int))) < 0) = true := decide_eq_true c3
  clear c3
  obtain rfl := Option.some.inj H
  go_enter Tryd.func64, Tryd.ntmps64
  go_wp2_with (first | ((with_reducible refine gate_dst (N := 2) rfl ?_); refine box_event ?hg (N := 2) ?hd (cs := #[.int .i64 a0_0, .string a0_1, .string a0_2, .int .i64 a0_3]) (t := 81) ?hr ?_; (case hd => rfl); (case hg => rfl); (case hr => first | (go_simp; done) | (go_simp; rfl)); intro gb1222 hg w4 hbox hb; have n0_ := am (below_step bl hb); have n1_ := am (hbox); have n2_ := am (sz hg : w.heap.size ≤ gb1222); have n3_ := am (sz hg : w.heap.size ≤ gb1222); clear HB; have HB := n0_; have BK1222 := n1_; have GW1222 := n2_; have GE1222 := n3_; clear n0_ n1_ n2_ n3_; clear hb hbox hg; have hcz5_0 : w4.cell? ⟨gb1222, 0, none⟩ = some (.int .i64 a0_0) := bc BK1222; have hcz5_1 : w4.cell? ⟨gb1222, 1, none⟩ = some (.string a0_1) := bc BK1222; have hcz5_2 : w4.cell? ⟨gb1222, 2, none⟩ = some (.string a0_2) := bc BK1222; have hcz5_3 : w4.cell? ⟨gb1222, 3, none⟩ = some (.int .i64 a0_3) := bc BK1222; have hfz5_0 := blk_frozen BK1222.out 0; have hfz5_1 := blk_frozen BK1222.out 1; have hfz5_2 := blk_frozen BK1222.out 2; have hfz5_3 := blk_frozen BK1222.out 3))
  go_ret
  exact ⟨rf, bl⟩
 ·rw [if_neg c3] at H
  have c3b0 : decide ((wrap64 (a1 - (a0_1.size : Int))) < 0) = false := decide_eq_false c3
  clear c3
  by_cases c6 : (wrap64 ((wrap64 (a1 - (a0_1.size : Int))) - (a0_2.size : Int))) < 0
  ·rw [if_pos c6] at H
   have c6b0 : decide ((wrap64 ((wrap64 (a1 - (a0_1.size : Int))) - (a0_2.size : Int))) < 0) = true := decide_eq_true c6
   clear c6
   obtain rfl := Option.some.inj H
   go_enter Tryd.func64, Tryd.ntmps64
   go_wp2_with (first | ((with_reducible refine gate_dst (N := 2) rfl ?_); refine box_event ?hg (N := 2) ?hd (cs := #[.int .i64 a0_0, .string a0_1, .string a0_2, .int .i64 a0_3]) (t := 81) ?hr ?_; (case hd => rfl); (case hg => rfl); (case hr => first | (go_simp; done) | (go_simp; rfl)); intro gb1222 hg w7 hbox hb; have n0_ := am (below_step bl hb); have n1_ := am (hbox); have n2_ := am (sz hg : w.heap.size ≤ gb1222); have n3_ := am (sz hg : w.heap.size ≤ gb1222); clear HB; have HB := n0_; have BK1222 := n1_; have GW1222 := n2_; have GE1222 := n3_; clear n0_ n1_ n2_ n3_; clear hb hbox hg; have hcz8_0 : w7.cell? ⟨gb1222, 0, none⟩ = some (.int .i64 a0_0) := bc BK1222; have hcz8_1 : w7.cell? ⟨gb1222, 1, none⟩ = some (.string a0_1) := bc BK1222; have hcz8_2 : w7.cell? ⟨gb1222, 2, none⟩ = some (.string a0_2) := bc BK1222; have hcz8_3 : w7.cell? ⟨gb1222, 3, none⟩ = some (.int .i64 a0_3) := bc BK1222; have hfz8_0 := blk_frozen BK1222.out 0; have hfz8_1 := blk_frozen BK1222.out 1; have hfz8_2 := blk_frozen BK1222.out 2; have hfz8_3 := blk_frozen BK1222.out 3))
   go_ret
   exact ⟨rf, bl⟩
  ·rw [if_neg c6] at H
   have c6b0 : decide ((wrap64 ((wrap64 (a1 - (a0_1.size : Int))) - (a0_2.size : Int))) < 0) = false := decide_eq_false c6
   clear c6
   obtain rfl := Option.some.inj H
   go_enter Tryd.func64, Tryd.ntmps64
   go_wp2_with (first | ((with_reducible refine gate_dst (N := 2) rfl ?_); refine box_event ?hg (N := 2) ?hd (cs := #[.int .i64 a0_0, .string a0_1, .string a0_2, .int .i64 a0_3]) (t := 81) ?hr ?_; (case hd => rfl); (case hg => rfl); (case hr => first | (go_simp; done) | (go_simp; rfl)); intro gb1222 hg w9 hbox hb; have n0_ := am (below_step bl hb); have n1_ := am (hbox); have n2_ := am (sz hg : w.heap.size ≤ gb1222); have n3_ := am (sz hg : w.heap.size ≤ gb1222); clear HB; have HB := n0_; have BK1222 := n1_; have GW1222 := n2_; have GE1222 := n3_; clear n0_ n1_ n2_ n3_; clear hb hbox hg; have hcz10_0 : w9.cell? ⟨gb1222, 0, none⟩ = some (.int .i64 a0_0) := bc BK1222; have hcz10_1 : w9.cell? ⟨gb1222, 1, none⟩ = some (.string a0_1) := bc BK1222; have hcz10_2 : w9.cell? ⟨gb1222, 2, none⟩ = some (.string a0_2) := bc BK1222; have hcz10_3 : w9.cell? ⟨gb1222, 3, none⟩ = some (.int .i64 a0_3) := bc BK1222; have hfz10_0 := blk_frozen BK1222.out 0; have hfz10_1 := blk_frozen BK1222.out 1; have hfz10_2 := blk_frozen BK1222.out 2; have hfz10_3 := blk_frozen BK1222.out 3))
   go_ret
   exact ⟨rf, bl⟩

/-! ### spec_BanOk: function 145 -/
def spec_BanOk.j0 : Nat → Int → Bool → Int → ByteArray → ByteArray → Int → Option (Bool)
 | 0, _, _, _, _, _, _ => none
 | k + 1, x8, x9, x1224000, x1224001, x1224002, x1224003 => if x9 = true then ((spec_l3Path.f k x1224001).bind fun t1225 => (if t1225 = true then (some (x1224002.toList == ([] : List UInt8))) else (some false))) else (if x8 = 3 then ((spec_TokenOk.f k x1224001).bind fun t1226 => (if t1226 = true then ((spec_ValueOk.f k x1224002).bind fun t1227 => (some t1227)) else (some false))) else (some false))
def spec_BanOk.f (k : Nat) (a0_0 : Int) (a0_1 : ByteArray) (a0_2 : ByteArray) (a0_3 : Int) : Option (Bool) := (spec_l1In.f a0_3 0 1000000).bind fun t1224 => (if t1224 = true then (if a0_0 = 1 then (spec_BanOk.j0 k a0_0 (a0_0 == 1) a0_0 a0_1 a0_2 a0_3) else (spec_BanOk.j0 k a0_0 (a0_0 == 2) a0_0 a0_1 a0_2 a0_3)) else (some false))
theorem spec_BanOk.mono_l : ∀ k, (∀ y0 y1 y2 y3 y4 y5, LeO (spec_BanOk.j0 k y0 y1 y2 y3 y4 y5) (spec_BanOk.j0 (k + 1) y0 y1 y2 y3 y4 y5))
 | 0 => fun _ _ _ _ _ _ r h => by simp [spec_BanOk.j0] at h
 | k + 1 => by
  have ih0 := spec_BanOk.mono_l k
  ·intro y0 y1 y2 y3 y4 y5
   unfold spec_BanOk.j0
   repeat' first
   | (with_reducible exact ih0 _ _ _ _ _ _)
   | (with_reducible exact spec_TokenOk.mono _ _)
   | (with_reducible exact spec_ValueOk.mono _ _)
   | (with_reducible exact spec_l3Path.mono _ _)
   | (with_reducible exact LeO.refl _)
   | (with_reducible exact LeO.none _)
   | (with_reducible refine LeO.ite ?_ ?_)
   | (with_reducible refine LeO.bind ?_ (fun _ => ?_))
   | exact ih0 _ _ _ _ _ _
   | exact spec_TokenOk.mono _ _
   | exact spec_ValueOk.mono _ _
   | exact spec_l3Path.mono _ _
   | exact LeO.none _
   | refine LeO.ite ?_ ?_
   | refine LeO.bind ?_ (fun _ => ?_)
theorem spec_BanOk.mono : ∀ a0 a1 a2 a3 k, LeO (spec_BanOk.f k a0 a1 a2 a3) (spec_BanOk.f (k + 1) a0 a1 a2 a3) := by
 intro a0 a1 a2 a3 k
 have ih0 := spec_BanOk.mono_l k
 unfold spec_BanOk.f
 repeat' first
   | (with_reducible exact ih0 _ _ _ _ _ _)
   | (with_reducible exact spec_TokenOk.mono _ _)
   | (with_reducible exact spec_ValueOk.mono _ _)
   | (with_reducible exact spec_l3Path.mono _ _)
   | (with_reducible exact LeO.refl _)
   | (with_reducible exact LeO.none _)
   | (with_reducible refine LeO.ite ?_ ?_)
   | (with_reducible refine LeO.bind ?_ (fun _ => ?_))
   | exact ih0 _ _ _ _ _ _
   | exact spec_TokenOk.mono _ _
   | exact spec_ValueOk.mono _ _
   | exact spec_l3Path.mono _ _
   | exact LeO.none _
   | refine LeO.ite ?_ ?_
   | refine LeO.bind ?_ (fun _ => ?_)
set_option maxHeartbeats 8000000 in
set_option maxRecDepth 100000 in
theorem spec_BanOk.calls (k : Nat) (a0_0 : Int) (a0_1 : ByteArray) (a0_2 : ByteArray) (a0_3 : Int) (r : Bool) (w : World) (h : spec_BanOk.f k a0_0 a0_1 a0_2 a0_3 = some r) :
  Calls Tryd.prog 145 #[.agg #[.int .i64 a0_0, .string a0_1, .string a0_2, .int .i64 a0_3]] w fun e w' => e = .returned (.bool r) ∧ Below w.heap.size w w' := by
 have hu84 := Tryd.underlying84
 have HB := am (Below.refl w.heap.size w)
 have H : ((spec_l1In.f a0_3 0 1000000).bind fun t1224 => (if t1224 = true then (if a0_0 = 1 then (spec_BanOk.j0 k a0_0 (a0_0 == 1) a0_0 a0_1 a0_2 a0_3) else (spec_BanOk.j0 k a0_0 (a0_0 == 2) a0_0 a0_1 a0_2 a0_3)) else (some false))) = some r := h
 clear h
 replace H := ob H
 obtain ⟨t1224, A20, H⟩ := H
 replace H : (if t1224 = true then (if a0_0 = 1 then (spec_BanOk.j0 k a0_0 (a0_0 == 1) a0_0 a0_1 a0_2 a0_3) else (spec_BanOk.j0 k a0_0 (a0_0 == 2) a0_0 a0_1 a0_2 a0_3)) else (some false)) = some r := H
 have A2 := am A20
 clear A20
 by_cases c3 : t1224 = true
 ·subst c3
  have H1 : (if a0_0 = 1 then (spec_BanOk.j0 k a0_0 (a0_0 == 1) a0_0 a0_1 a0_2 a0_3) else (spec_BanOk.j0 k a0_0 (a0_0 == 2) a0_0 a0_1 a0_2 a0_3)) = some r := by rw [if_pos rfl] at H; exact H
  clear H
  have H := H1
  clear H1
  have HC4 := am H
  clear H
  go_enter Tryd.func145, Tryd.ntmps145
  go_upto_if 9 with (first | ((with_reducible refine gate_dst (N := 1) rfl ?_); refine box_event ?hg (N := 1) ?hd (cs := #[.int .i64 a0_0, .string a0_1, .string a0_2, .int .i64 a0_3]) (t := 84) ?hr ?_; (case hd => rfl); (case hg => rfl); (case hr => first | (go_simp; done) | (go_simp; rfl)); intro gb1223 hg w5 hbox hb; have n0_ := am (below_step bl hb); have n1_ := am (hbox); have n2_ := am (sz hg : w.heap.size ≤ gb1223); have n3_ := am (sz hg : w.heap.size ≤ gb1223); clear HB; have HB := n0_; have BK1223 := n1_; have GW1223 := n2_; have GE1223 := n3_; clear n0_ n1_ n2_ n3_; clear hb hbox hg; have hcz6_0 : w5.cell? ⟨gb1223, 0, none⟩ = some (.int .i64 a0_0) := bc BK1223; have hcz6_1 : w5.cell? ⟨gb1223, 1, none⟩ = some (.string a0_1) := bc BK1223; have hcz6_2 : w5.cell? ⟨gb1223, 2, none⟩ = some (.string a0_2) := bc BK1223; have hcz6_3 : w5.cell? ⟨gb1223, 3, none⟩ = some (.int .i64 a0_3) := bc BK1223; have hfz6_0 := blk_frozen BK1223.out 0; have hfz6_1 := blk_frozen BK1223.out 1; have hfz6_2 := blk_frozen BK1223.out 2; have hfz6_3 := blk_frozen BK1223.out 3) | ((with_reducible refine gate_callee (f := 138) rfl ?_); refine goesL_ (some 5) rfl rfl Tryd.func138 (by kernel_rfl) rfl #[.int .i64 a0_3, .int .i64 0, .int .i64 1000000] rfl ma ?_; (with_reducible refine (spec_l1In.calls a0_3 0 1000000 true _ A2.out).mono ?_); rintro e w' ⟨rfl, ⟨nd, rfl⟩⟩; refine ⟨_, rfl, ?_⟩))
  (try simp only [Act.put, List.setIfInBounds_toArray, List.set_cons_zero, List.set_cons_succ])
  go_cut [9] (fun v9 wc => ∃ (kq : Nat) (x9_3 : Bool), v9 = .bool x9_3 ∧ Aside0 (spec_BanOk.j0 kq a0_0 x9_3 a0_0 a0_1 a0_2 a0_3 = some r) ∧ Aside0 (kq ≤ k) ∧ Aside0 (wc.heap[gb1223]? = some (.cells #[.int .i64 a0_0, .string a0_1, .string a0_2, .int .i64 a0_3] 84 (0, 0))) ∧ Aside0 (Below w.heap.size w wc))
  case first =>
   have H := HC4.out
   clear HC4
   by_cases c7 : a0_0 = 1
   ·rw [if_pos c7] at H
    have c7b0 : (a0_0 == 1) = true := beq_iff_eq.mpr c7
    have c7b1 : (a0_0 != 1) = false := bne_eq_false_iff_eq.mpr c7
    clear c7
    (first | rw [c7b0] | (simp only [i64_w, i32_w]; rw [c7b0]) | skip)
    have H' := am H
    clear H
    go_wp2
    go_meet
    case rel => exact ⟨_, ((a0_0 == 1)), rs, H', ⟨by first | omega | exact Nat.le_refl _⟩, ⟨by (with_reducible repeat (first | refine blk_drewN ?_ _ | refine blk_drew ?_ | refine blk_alloc ?_ _)); exact BK1223.out⟩, ⟨by repeat (first | (with_reducible first | exact HB.out | apply below_alloc | apply pw_below_drewN | apply below_drew1 | refine below_set ?_ GE1223.out) | exact HB.out)⟩⟩
   ·rw [if_neg c7] at H
    have c7b0 : (a0_0 == 1) = false := beq_eq_false_iff_ne.mpr c7
    have c7b1 : (a0_0 != 1) = true := bne_iff_ne.mpr c7
    (first | rw [c7b0] | (simp only [i64_w, i32_w]; rw [c7b0]) | skip)
    have H' := am H
    clear H
    go_wp2
    go_meet
    case rel => exact ⟨_, ((a0_0 == 2)), rs, H', ⟨by first | omega | exact Nat.le_refl _⟩, ⟨by (with_reducible repeat (first | refine blk_drewN ?_ _ | refine blk_drew ?_ | refine blk_alloc ?_ _)); exact BK1223.out⟩, ⟨by repeat (first | (with_reducible first | exact HB.out | apply below_alloc | apply pw_below_drewN | apply below_drew1 | refine below_set ?_ GE1223.out) | exact HB.out)⟩⟩
  case rest =>
   clear HC4
   try clear c1
   try clear p2
   try clear c3
   try clear c7
   try clear c7b0
   try clear c7b1
   try clear hcz6_0
   try clear hcz6_1
   try clear hcz6_2
   try clear hcz6_3
   try clear hfz6_0
   try clear hfz6_1
   try clear hfz6_2
   try clear hfz6_3
   obtain ⟨kq, x9_3, rfl, HA, HJ3, BK1223, HB⟩ := hcut
   cases kq with
   | zero => exact absurd HA.out (by simp [spec_BanOk.j0])
   | succ kj3 =>
    have H := HA.out
    clear HA
    simp only [spec_BanOk.j0] at H
    by_cases c8 : x9_3 = true
    ·subst c8
     have H1 : ((spec_l3Path.f kj3 a0_1).bind fun t1225 => (if t1225 = true then (some (a0_2.toList == ([] : List UInt8))) else (some false))) = some r := by rw [if_pos rfl] at H; exact H
     clear H
     have H := H1
     clear H1
     replace H := ob H
     obtain ⟨t1225, A90, H⟩ := H
     replace H : (if t1225 = true then (some (a0_2.toList == ([] : List UInt8))) else (some false)) = some r := H
     have A9 := am A90
     clear A90
     by_cases c10 : t1225 = true
     ·subst c10
      have H1 : (some (a0_2.toList == ([] : List UInt8))) = some r := by rw [if_pos rfl] at H; exact H
      clear H
      have H := H1
      clear H1
      obtain rfl := Option.some.inj H
      have hcz11_0 : wc.cell? ⟨gb1223, 0, none⟩ = some (.int .i64 a0_0) := bc BK1223
      have hcz11_1 : wc.cell? ⟨gb1223, 1, none⟩ = some (.string a0_1) := bc BK1223
      have hcz11_2 : wc.cell? ⟨gb1223, 2, none⟩ = some (.string a0_2) := bc BK1223
      have hcz11_3 : wc.cell? ⟨gb1223, 3, none⟩ = some (.int .i64 a0_3) := bc BK1223
      have hfz11_0 := blk_frozen BK1223.out 0
      have hfz11_1 := blk_frozen BK1223.out 1
      have hfz11_2 := blk_frozen BK1223.out 2
      have hfz11_3 := blk_frozen BK1223.out 3
      go_wp2_with (first | ((with_reducible refine gate_callee (f := 137) rfl ?_); refine goesL_ (some 14) rfl rfl Tryd.func137 (by kernel_rfl) rfl #[.string a0_1] rfl ma ?_; (with_reducible refine (spec_l3Path.calls kj3 a0_1 true _ A9.out).mono ?_); rintro e w' ⟨rfl, ⟨nd, rfl⟩⟩; refine ⟨_, rfl, ?_⟩))
      go_ret
      exact ⟨rf, bl⟩
     ·replace c10 := Bool.eq_false_iff.mpr c10
      subst c10
      have H1 : (some false) = some r := by rw [if_neg (show ¬ (false = true) by decide)] at H; exact H
      clear H
      have H := H1
      clear H1
      obtain rfl := Option.some.inj H
      have hcz12_0 : wc.cell? ⟨gb1223, 0, none⟩ = some (.int .i64 a0_0) := bc BK1223
      have hcz12_1 : wc.cell? ⟨gb1223, 1, none⟩ = some (.string a0_1) := bc BK1223
      have hcz12_2 : wc.cell? ⟨gb1223, 2, none⟩ = some (.string a0_2) := bc BK1223
      have hcz12_3 : wc.cell? ⟨gb1223, 3, none⟩ = some (.int .i64 a0_3) := bc BK1223
      have hfz12_0 := blk_frozen BK1223.out 0
      have hfz12_1 := blk_frozen BK1223.out 1
      have hfz12_2 := blk_frozen BK1223.out 2
      have hfz12_3 := blk_frozen BK1223.out 3
      go_wp2_with (first | ((with_reducible refine gate_callee (f := 137) rfl ?_); refine goesL_ (some 14) rfl rfl Tryd.func137 (by kernel_rfl) rfl #[.string a0_1] rfl ma ?_; (with_reducible refine (spec_l3Path.calls kj3 a0_1 false _ A9.out).mono ?_); rintro e w' ⟨rfl, ⟨nd, rfl⟩⟩; refine ⟨_, rfl, ?_⟩))
      go_ret
      exact ⟨rf, bl⟩
    ·replace c8 := Bool.eq_false_iff.mpr c8
     subst c8
     have H1 : (if a0_0 = 3 then ((spec_TokenOk.f kj3 a0_1).bind fun t1226 => (if t1226 = true then ((spec_ValueOk.f kj3 a0_2).bind fun t1227 => (some t1227)) else (some false))) else (some false)) = some r := by rw [if_neg (show ¬ (false = true) by decide)] at H; exact H
     clear H
     have H := H1
     clear H1
     by_cases c13 : a0_0 = 3
     ·rw [if_pos c13] at H
      have c13b0 : (a0_0 == 3) = true := beq_iff_eq.mpr c13
      have c13b1 : (a0_0 != 3) = false := bne_eq_false_iff_eq.mpr c13
      clear c13
      replace H := ob H
      obtain ⟨t1226, A140, H⟩ := H
      replace H : (if t1226 = true then ((spec_ValueOk.f kj3 a0_2).bind fun t1227 => (some t1227)) else (some false)) = some r := H
      have A14 := am A140
      clear A140
      by_cases c15 : t1226 = true
      ·subst c15
       have H1 : ((spec_ValueOk.f kj3 a0_2).bind fun t1227 => (some t1227)) = some r := by rw [if_pos rfl] at H; exact H
       clear H
       have H := H1
       clear H1
       replace H := ob H
       obtain ⟨t1227, A160, H⟩ := H
       replace H : (some t1227) = some r := H
       have A16 := am A160
       clear A160
       obtain rfl := Option.some.inj H
       have hcz17_0 : wc.cell? ⟨gb1223, 0, none⟩ = some (.int .i64 a0_0) := bc BK1223
       have hcz17_1 : wc.cell? ⟨gb1223, 1, none⟩ = some (.string a0_1) := bc BK1223
       have hcz17_2 : wc.cell? ⟨gb1223, 2, none⟩ = some (.string a0_2) := bc BK1223
       have hcz17_3 : wc.cell? ⟨gb1223, 3, none⟩ = some (.int .i64 a0_3) := bc BK1223
       have hfz17_0 := blk_frozen BK1223.out 0
       have hfz17_1 := blk_frozen BK1223.out 1
       have hfz17_2 := blk_frozen BK1223.out 2
       have hfz17_3 := blk_frozen BK1223.out 3
       go_wp2_with (first | ((with_reducible refine gate_callee (f := 181) rfl ?_); refine goesL_ (some 24) rfl rfl Tryd.func181 (by kernel_rfl) rfl #[.string a0_1] rfl ma ?_; (with_reducible refine (spec_TokenOk.calls kj3 a0_1 true _ A14.out).mono ?_); rintro e w' ⟨rfl, ⟨nd, rfl⟩⟩; refine ⟨_, rfl, ?_⟩) | (go_at_call 140; (with_reducible refine (spec_ValueOk.calls kj3 a0_2 t1227 _ A16.out).mono ?_); rintro e w' ⟨rfl, ⟨nd, rfl⟩⟩))
       go_ret
       exact ⟨rf, bl⟩
      ·replace c15 := Bool.eq_false_iff.mpr c15
       subst c15
       have H1 : (some false) = some r := by rw [if_neg (show ¬ (false = true) by decide)] at H; exact H
       clear H
       have H := H1
       clear H1
       obtain rfl := Option.some.inj H
       have hcz18_0 : wc.cell? ⟨gb1223, 0, none⟩ = some (.int .i64 a0_0) := bc BK1223
       have hcz18_1 : wc.cell? ⟨gb1223, 1, none⟩ = some (.string a0_1) := bc BK1223
       have hcz18_2 : wc.cell? ⟨gb1223, 2, none⟩ = some (.string a0_2) := bc BK1223
       have hcz18_3 : wc.cell? ⟨gb1223, 3, none⟩ = some (.int .i64 a0_3) := bc BK1223
       have hfz18_0 := blk_frozen BK1223.out 0
       have hfz18_1 := blk_frozen BK1223.out 1
       have hfz18_2 := blk_frozen BK1223.out 2
       have hfz18_3 := blk_frozen BK1223.out 3
       go_wp2_with (first | ((with_reducible refine gate_callee (f := 181) rfl ?_); refine goesL_ (some 24) rfl rfl Tryd.func181 (by kernel_rfl) rfl #[.string a0_1] rfl ma ?_; (with_reducible refine (spec_TokenOk.calls kj3 a0_1 false _ A14.out).mono ?_); rintro e w' ⟨rfl, ⟨nd, rfl⟩⟩; refine ⟨_, rfl, ?_⟩))
       go_ret
       exact ⟨rf, bl⟩
     ·rw [if_neg c13] at H
      have c13b0 : (a0_0 == 3) = false := beq_eq_false_iff_ne.mpr c13
      have c13b1 : (a0_0 != 3) = true := bne_iff_ne.mpr c13
      obtain rfl := Option.some.inj H
      go_wp2
      go_ret
      exact ⟨rf, bl⟩
 ·replace c3 := Bool.eq_false_iff.mpr c3
  subst c3
  have H1 : (some false) = some r := by rw [if_neg (show ¬ (false = true) by decide)] at H; exact H
  clear H
  have H := H1
  clear H1
  obtain rfl := Option.some.inj H
  go_enter Tryd.func145, Tryd.ntmps145
  go_wp2_with (first | ((with_reducible refine gate_dst (N := 1) rfl ?_); refine box_event ?hg (N := 1) ?hd (cs := #[.int .i64 a0_0, .string a0_1, .string a0_2, .int .i64 a0_3]) (t := 84) ?hr ?_; (case hd => rfl); (case hg => rfl); (case hr => first | (go_simp; done) | (go_simp; rfl)); intro gb1223 hg w19 hbox hb; have n0_ := am (below_step bl hb); have n1_ := am (hbox); have n2_ := am (sz hg : w.heap.size ≤ gb1223); have n3_ := am (sz hg : w.heap.size ≤ gb1223); clear HB; have HB := n0_; have BK1223 := n1_; have GW1223 := n2_; have GE1223 := n3_; clear n0_ n1_ n2_ n3_; clear hb hbox hg; have hcz20_0 : w19.cell? ⟨gb1223, 0, none⟩ = some (.int .i64 a0_0) := bc BK1223; have hcz20_1 : w19.cell? ⟨gb1223, 1, none⟩ = some (.string a0_1) := bc BK1223; have hcz20_2 : w19.cell? ⟨gb1223, 2, none⟩ = some (.string a0_2) := bc BK1223; have hcz20_3 : w19.cell? ⟨gb1223, 3, none⟩ = some (.int .i64 a0_3) := bc BK1223; have hfz20_0 := blk_frozen BK1223.out 0; have hfz20_1 := blk_frozen BK1223.out 1; have hfz20_2 := blk_frozen BK1223.out 2; have hfz20_3 := blk_frozen BK1223.out 3) | ((with_reducible refine gate_callee (f := 138) rfl ?_); refine goesL_ (some 5) rfl rfl Tryd.func138 (by kernel_rfl) rfl #[.int .i64 a0_3, .int .i64 0, .int .i64 1000000] rfl ma ?_; (with_reducible refine (spec_l1In.calls a0_3 0 1000000 false _ A2.out).mono ?_); rintro e w' ⟨rfl, ⟨nd, rfl⟩⟩; refine ⟨_, rfl, ?_⟩))
  go_ret
  exact ⟨rf, bl⟩

/-! ### spec_Hits: function 65 -/
def spec_Hits.j0 : Nat → Bool → Int → ByteArray → ByteArray → Int → ByteArray → List ByteArray → List ByteArray → Int → List (S114) → ByteArray → Int → Option (Bool)
 | 0, _, _, _, _, _, _, _, _, _, _, _, _ => none
 | k + 1, x21, x1229000, x1229001, x1229002, x1229003, x1230000, x1230001, x1230002, x1230003, x1230004, x1230005, x1230006 => if x21 = true then (some false) else (if x1229000 = 1 then (some (x1230000.toList == x1229001.toList)) else (if x1229000 = 2 then (if (x1230000.size : Int) ≥ (x1229001.size : Int) then (if 0 ≤ (x1229001.size : Int) then (if (x1229001.size : Int) ≤ (x1230000.size : Int) then (some ((x1230000.extract 0 ((x1229001.size : Int) : Int).toNat).toList == x1229001.toList)) else (none)) else (none)) else (some false)) else ((spec_Get.f k x1230004 x1229001).bind fun bt1232 => (if bt1232.2 = true then (some (bt1232.1.toList == x1229002.toList)) else (some false)))))
def spec_Hits.f (k : Nat) (a0_0 : Int) (a0_1 : ByteArray) (a0_2 : ByteArray) (a0_3 : Int) (a1_0 : ByteArray) (l1_1 : List ByteArray) (l1_2 : List ByteArray) (a1_3 : Int) (l1_4 : List (S114)) (a1_5 : ByteArray) (a1_6 : Int) : Option (Bool) := (spec_BanOk.f k a0_0 a0_1 a0_2 a0_3).bind fun t1230 => (if t1230 = true then ((spec_ObjOk.f k a1_0 l1_1 l1_2 a1_3 l1_4 a1_5 a1_6).bind fun t1231 => (if t1231 = true then (spec_Hits.j0 k (decide (a1_6 > a0_3)) a0_0 a0_1 a0_2 a0_3 a1_0 l1_1 l1_2 a1_3 l1_4 a1_5 a1_6) else (spec_Hits.j0 k true a0_0 a0_1 a0_2 a0_3 a1_0 l1_1 l1_2 a1_3 l1_4 a1_5 a1_6))) else (spec_Hits.j0 k true a0_0 a0_1 a0_2 a0_3 a1_0 l1_1 l1_2 a1_3 l1_4 a1_5 a1_6))
theorem spec_Hits.mono_l : ∀ k, (∀ y0 y1 y2 y3 y4 y5 y6 y7 y8 y9 y10 y11, LeO (spec_Hits.j0 k y0 y1 y2 y3 y4 y5 y6 y7 y8 y9 y10 y11) (spec_Hits.j0 (k + 1) y0 y1 y2 y3 y4 y5 y6 y7 y8 y9 y10 y11))
 | 0 => fun _ _ _ _ _ _ _ _ _ _ _ _ r h => by simp [spec_Hits.j0] at h
 | k + 1 => by
  have ih0 := spec_Hits.mono_l k
  ·intro y0 y1 y2 y3 y4 y5 y6 y7 y8 y9 y10 y11
   unfold spec_Hits.j0
   repeat' first
   | (with_reducible exact ih0 _ _ _ _ _ _ _ _ _ _ _ _)
   | (with_reducible exact spec_BanOk.mono _ _ _ _ _)
   | (with_reducible exact spec_Get.mono _ _ _)
   | (with_reducible exact spec_ObjOk.mono _ _ _ _ _ _ _ _)
   | (with_reducible exact LeO.refl _)
   | (with_reducible exact LeO.none _)
   | (with_reducible refine LeO.ite ?_ ?_)
   | (with_reducible refine LeO.bind ?_ (fun _ => ?_))
   | exact ih0 _ _ _ _ _ _ _ _ _ _ _ _
   | exact spec_BanOk.mono _ _ _ _ _
   | exact spec_Get.mono _ _ _
   | exact spec_ObjOk.mono _ _ _ _ _ _ _ _
   | exact LeO.none _
   | refine LeO.ite ?_ ?_
   | refine LeO.bind ?_ (fun _ => ?_)
theorem spec_Hits.mono : ∀ a0 a1 a2 a3 a4 a5 a6 a7 a8 a9 a10 k, LeO (spec_Hits.f k a0 a1 a2 a3 a4 a5 a6 a7 a8 a9 a10) (spec_Hits.f (k + 1) a0 a1 a2 a3 a4 a5 a6 a7 a8 a9 a10) := by
 intro a0 a1 a2 a3 a4 a5 a6 a7 a8 a9 a10 k
 have ih0 := spec_Hits.mono_l k
 unfold spec_Hits.f
 repeat' first
   | (with_reducible exact ih0 _ _ _ _ _ _ _ _ _ _ _ _)
   | (with_reducible exact spec_BanOk.mono _ _ _ _ _)
   | (with_reducible exact spec_Get.mono _ _ _)
   | (with_reducible exact spec_ObjOk.mono _ _ _ _ _ _ _ _)
   | (with_reducible exact LeO.refl _)
   | (with_reducible exact LeO.none _)
   | (with_reducible refine LeO.ite ?_ ?_)
   | (with_reducible refine LeO.bind ?_ (fun _ => ?_))
   | exact ih0 _ _ _ _ _ _ _ _ _ _ _ _
   | exact spec_BanOk.mono _ _ _ _ _
   | exact spec_Get.mono _ _ _
   | exact spec_ObjOk.mono _ _ _ _ _ _ _ _
   | exact LeO.none _
   | refine LeO.ite ?_ ?_
   | refine LeO.bind ?_ (fun _ => ?_)
set_option maxHeartbeats 8000000 in
set_option maxRecDepth 100000 in
theorem spec_Hits.calls (k : Nat) (a0_0 : Int) (a0_1 : ByteArray) (a0_2 : ByteArray) (a0_3 : Int) (a1_0 : ByteArray) (A1_1 : Option Addr) (c1_1 : Nat) (l1_1 : List ByteArray) (A1_2 : Option Addr) (c1_2 : Nat) (l1_2 : List ByteArray) (a1_3 : Int) (A1_4 : Option Addr) (c1_4 : Nat) (l1_4 : List (S114)) (a1_5 : ByteArray) (a1_6 : Int) (r : Bool) (w : World) (hr1_1 : Kd.C Kd.string w A1_1 l1_1.length l1_1) (hc1_1 : l1_1.length ≤ c1_1) (hr1_2 : Kd.C Kd.string w A1_2 l1_2.length l1_2) (hc1_2 : l1_2.length ≤ c1_2) (hr1_4 : Kd.C k114 w A1_4 l1_4.length l1_4) (hc1_4 : l1_4.length ≤ c1_4) (h : spec_Hits.f k a0_0 a0_1 a0_2 a0_3 a1_0 l1_1 l1_2 a1_3 l1_4 a1_5 a1_6 = some r) :
  Calls Tryd.prog 65 #[.agg #[.int .i64 a0_0, .string a0_1, .string a0_2, .int .i64 a0_3], .agg #[.string a1_0, .slice A1_1 l1_1.length c1_1, .slice A1_2 l1_2.length c1_2, .int .i64 a1_3, .slice A1_4 l1_4.length c1_4, .string a1_5, .int .i64 a1_6]] w fun e w' => e = .returned (.bool r) ∧ Below w.heap.size w w' := by
 have hu84 := Tryd.underlying84
 have hu76 := Tryd.underlying76
 have HR1_1 := am hr1_1
 have HC1_1 := am hc1_1
 clear hr1_1 hc1_1
 have HR1_2 := am hr1_2
 have HC1_2 := am hc1_2
 clear hr1_2 hc1_2
 have HR1_4 := am hr1_4
 have HC1_4 := am hc1_4
 clear hr1_4 hc1_4
 have HB := am (Below.refl w.heap.size w)
 have H : ((spec_BanOk.f k a0_0 a0_1 a0_2 a0_3).bind fun t1230 => (if t1230 = true then ((spec_ObjOk.f k a1_0 l1_1 l1_2 a1_3 l1_4 a1_5 a1_6).bind fun t1231 => (if t1231 = true then (spec_Hits.j0 k (decide (a1_6 > a0_3)) a0_0 a0_1 a0_2 a0_3 a1_0 l1_1 l1_2 a1_3 l1_4 a1_5 a1_6) else (spec_Hits.j0 k true a0_0 a0_1 a0_2 a0_3 a1_0 l1_1 l1_2 a1_3 l1_4 a1_5 a1_6))) else (spec_Hits.j0 k true a0_0 a0_1 a0_2 a0_3 a1_0 l1_1 l1_2 a1_3 l1_4 a1_5 a1_6))) = some r := h
 clear h
 have HC3 := am H
 clear H
 go_enter Tryd.func65, Tryd.ntmps65
 go_upto_region 1 with (first | ((with_reducible refine gate_dst (N := 2) rfl ?_); (try (refine gate_guard (by rfl) ?_; dsimp only)); refine box_event ?hg (N := 2) ?hd (cs := #[.int .i64 a0_0, .string a0_1, .string a0_2, .int .i64 a0_3]) (t := 84) ?hr ?_; (case hd => rfl); (case hg => rfl); (case hr => first | (go_simp; done) | (go_simp; rfl)); intro gb1228 hg w4 hbox hb; have n0_ := am (below_step bl hb); have n1_ := am (hbox); have n2_ := am (sz hg : w.heap.size ≤ gb1228); have n3_ := am (sz hg : w.heap.size ≤ gb1228); clear HB; have HB := n0_; have BK1228 := n1_; have GW1228 := n2_; have GE1228 := n3_; clear n0_ n1_ n2_ n3_; clear hb hbox hg) | ((with_reducible refine gate_dst (N := 3) rfl ?_); (try (refine gate_guard (by rfl) ?_; dsimp only)); refine box_event ?hg (N := 3) ?hd (cs := #[.string a1_0, .slice A1_1 l1_1.length c1_1, .slice A1_2 l1_2.length c1_2, .int .i64 a1_3, .slice A1_4 l1_4.length c1_4, .string a1_5, .int .i64 a1_6]) (t := 76) ?hr ?_; (case hd => rfl); (case hg => rfl); (case hr => first | (go_simp; done) | (go_simp; rfl)); intro gb1229 hg w5 hbox hb; have n0_ := kb BK1228 hb; have n1_ := am (below_step bl hb); have n2_ := am (hbox); have n3_ := am (sz hg : w.heap.size ≤ gb1229); have n4_ := am (sz hg : w.heap.size ≤ gb1229); have n5_ := am (nl hg BK1228 : gb1228 ≠ gb1229); have n6_ := am (ng hg BK1228 : gb1229 ≠ gb1228); clear BK1228; clear HB; have BK1228 := n0_; have HB := n1_; have BK1229 := n2_; have GW1229 := n3_; have GE1229 := n4_; have NB1228_1229 := n5_; have NB1229_1228 := n6_; clear n0_ n1_ n2_ n3_ n4_ n5_ n6_; clear hb hbox hg))
 repeat (go_quiet (first | ((with_reducible refine gate_dst (N := 2) rfl ?_); (try (refine gate_guard (by rfl) ?_; dsimp only)); refine box_event ?hg (N := 2) ?hd (cs := #[.int .i64 a0_0, .string a0_1, .string a0_2, .int .i64 a0_3]) (t := 84) ?hr ?_; (case hd => rfl); (case hg => rfl); (case hr => first | (go_simp; done) | (go_simp; rfl)); intro gb1228 hg w4 hbox hb; have n0_ := am (below_step bl hb); have n1_ := am (hbox); have n2_ := am (sz hg : w.heap.size ≤ gb1228); have n3_ := am (sz hg : w.heap.size ≤ gb1228); clear HB; have HB := n0_; have BK1228 := n1_; have GW1228 := n2_; have GE1228 := n3_; clear n0_ n1_ n2_ n3_; clear hb hbox hg) | ((with_reducible refine gate_dst (N := 3) rfl ?_); (try (refine gate_guard (by rfl) ?_; dsimp only)); refine box_event ?hg (N := 3) ?hd (cs := #[.string a1_0, .slice A1_1 l1_1.length c1_1, .slice A1_2 l1_2.length c1_2, .int .i64 a1_3, .slice A1_4 l1_4.length c1_4, .string a1_5, .int .i64 a1_6]) (t := 76) ?hr ?_; (case hd => rfl); (case hg => rfl); (case hr => first | (go_simp; done) | (go_simp; rfl)); intro gb1229 hg w5 hbox hb; have n0_ := kb BK1228 hb; have n1_ := am (below_step bl hb); have n2_ := am (hbox); have n3_ := am (sz hg : w.heap.size ≤ gb1229); have n4_ := am (sz hg : w.heap.size ≤ gb1229); have n5_ := am (nl hg BK1228 : gb1228 ≠ gb1229); have n6_ := am (ng hg BK1228 : gb1229 ≠ gb1228); clear BK1228; clear HB; have BK1228 := n0_; have HB := n1_; have BK1229 := n2_; have GW1229 := n3_; have GE1229 := n4_; have NB1228_1229 := n5_; have NB1229_1228 := n6_; clear n0_ n1_ n2_ n3_ n4_ n5_ n6_; clear hb hbox hg)); go_upto_region 1 with (first | ((with_reducible refine gate_dst (N := 2) rfl ?_); (try (refine gate_guard (by rfl) ?_; dsimp only)); refine box_event ?hg (N := 2) ?hd (cs := #[.int .i64 a0_0, .string a0_1, .string a0_2, .int .i64 a0_3]) (t := 84) ?hr ?_; (case hd => rfl); (case hg => rfl); (case hr => first | (go_simp; done) | (go_simp; rfl)); intro gb1228 hg w4 hbox hb; have n0_ := am (below_step bl hb); have n1_ := am (hbox); have n2_ := am (sz hg : w.heap.size ≤ gb1228); have n3_ := am (sz hg : w.heap.size ≤ gb1228); clear HB; have HB := n0_; have BK1228 := n1_; have GW1228 := n2_; have GE1228 := n3_; clear n0_ n1_ n2_ n3_; clear hb hbox hg) | ((with_reducible refine gate_dst (N := 3) rfl ?_); (try (refine gate_guard (by rfl) ?_; dsimp only)); refine box_event ?hg (N := 3) ?hd (cs := #[.string a1_0, .slice A1_1 l1_1.length c1_1, .slice A1_2 l1_2.length c1_2, .int .i64 a1_3, .slice A1_4 l1_4.length c1_4, .string a1_5, .int .i64 a1_6]) (t := 76) ?hr ?_; (case hd => rfl); (case hg => rfl); (case hr => first | (go_simp; done) | (go_simp; rfl)); intro gb1229 hg w5 hbox hb; have n0_ := kb BK1228 hb; have n1_ := am (below_step bl hb); have n2_ := am (hbox); have n3_ := am (sz hg : w.heap.size ≤ gb1229); have n4_ := am (sz hg : w.heap.size ≤ gb1229); have n5_ := am (nl hg BK1228 : gb1228 ≠ gb1229); have n6_ := am (ng hg BK1228 : gb1229 ≠ gb1228); clear BK1228; clear HB; have BK1228 := n0_; have HB := n1_; have BK1229 := n2_; have GW1229 := n3_; have GE1229 := n4_; have NB1228_1229 := n5_; have NB1229_1228 := n6_; clear n0_ n1_ n2_ n3_ n4_ n5_ n6_; clear hb hbox hg)))
 (try simp only [Act.put, List.setIfInBounds_toArray, List.set_cons_zero, List.set_cons_succ])
 go_cut [21] (fun v21 wc => ∃ (kq : Nat) (x21_2 : Bool), v21 = .bool x21_2 ∧ Aside0 (spec_Hits.j0 kq x21_2 a0_0 a0_1 a0_2 a0_3 a1_0 l1_1 l1_2 a1_3 l1_4 a1_5 a1_6 = some r) ∧ Aside0 (kq ≤ k) ∧ Aside0 (wc.heap[gb1228]? = some (.cells #[.int .i64 a0_0, .string a0_1, .string a0_2, .int .i64 a0_3] 84 (0, 0))) ∧ Aside0 (wc.heap[gb1229]? = some (.cells #[.string a1_0, (.slice A1_1 l1_1.length c1_1), (.slice A1_2 l1_2.length c1_2), .int .i64 a1_3, (.slice A1_4 l1_4.length c1_4), .string a1_5, .int .i64 a1_6] 76 (0, 0))) ∧ Aside0 (Below w.heap.size w wc))
 case first =>
  have H := HC3.out
  clear HC3
  replace H := ob H
  obtain ⟨t1230, A60, H⟩ := H
  replace H : (if t1230 = true then ((spec_ObjOk.f k a1_0 l1_1 l1_2 a1_3 l1_4 a1_5 a1_6).bind fun t1231 => (if t1231 = true then (spec_Hits.j0 k (decide (a1_6 > a0_3)) a0_0 a0_1 a0_2 a0_3 a1_0 l1_1 l1_2 a1_3 l1_4 a1_5 a1_6) else (spec_Hits.j0 k true a0_0 a0_1 a0_2 a0_3 a1_0 l1_1 l1_2 a1_3 l1_4 a1_5 a1_6))) else (spec_Hits.j0 k true a0_0 a0_1 a0_2 a0_3 a1_0 l1_1 l1_2 a1_3 l1_4 a1_5 a1_6)) = some r := H
  have A6 := am A60
  clear A60
  by_cases c7 : t1230 = true
  ·subst c7
   have H1 : ((spec_ObjOk.f k a1_0 l1_1 l1_2 a1_3 l1_4 a1_5 a1_6).bind fun t1231 => (if t1231 = true then (spec_Hits.j0 k (decide (a1_6 > a0_3)) a0_0 a0_1 a0_2 a0_3 a1_0 l1_1 l1_2 a1_3 l1_4 a1_5 a1_6) else (spec_Hits.j0 k true a0_0 a0_1 a0_2 a0_3 a1_0 l1_1 l1_2 a1_3 l1_4 a1_5 a1_6))) = some r := by rw [if_pos rfl] at H; exact H
   clear H
   have H := H1
   clear H1
   replace H := ob H
   obtain ⟨t1231, A80, H⟩ := H
   replace H : (if t1231 = true then (spec_Hits.j0 k (decide (a1_6 > a0_3)) a0_0 a0_1 a0_2 a0_3 a1_0 l1_1 l1_2 a1_3 l1_4 a1_5 a1_6) else (spec_Hits.j0 k true a0_0 a0_1 a0_2 a0_3 a1_0 l1_1 l1_2 a1_3 l1_4 a1_5 a1_6)) = some r := H
   have A8 := am A80
   clear A80
   by_cases c9 : t1231 = true
   ·subst c9
    have H1 : (spec_Hits.j0 k (decide (a1_6 > a0_3)) a0_0 a0_1 a0_2 a0_3 a1_0 l1_1 l1_2 a1_3 l1_4 a1_5 a1_6) = some r := by rw [if_pos rfl] at H; exact H
    clear H
    have H := H1
    clear H1
    have H' := am H
    clear H
    have hnb10 := NB1228_1229.out
    have hnc10 := NB1229_1228.out
    have hcz11_0 : w5.cell? ⟨gb1228, 0, none⟩ = some (.int .i64 a0_0) := bc BK1228
    have hcz11_1 : w5.cell? ⟨gb1228, 1, none⟩ = some (.string a0_1) := bc BK1228
    have hcz11_2 : w5.cell? ⟨gb1228, 2, none⟩ = some (.string a0_2) := bc BK1228
    have hcz11_3 : w5.cell? ⟨gb1228, 3, none⟩ = some (.int .i64 a0_3) := bc BK1228
    have hfz11_0 := blk_frozen BK1228.out 0
    have hfz11_1 := blk_frozen BK1228.out 1
    have hfz11_2 := blk_frozen BK1228.out 2
    have hfz11_3 := blk_frozen BK1228.out 3
    go_wp2_with (first | (go_at_call 145; (with_reducible refine (spec_BanOk.calls k a0_0 a0_1 a0_2 a0_3 true _ A6.out).mono ?_); rintro e w12 ⟨rfl, hb⟩; replace BK1228 := kb BK1228 hb; replace BK1229 := kb BK1229 hb; replace HB := am (below_step bl hb); (try clear hb); (try clear hb2); (try clear hk); (try clear hi); have hcz13_0 : w12.cell? ⟨gb1229, 0, none⟩ = some (.string a1_0) := bc BK1229; have hcz13_1 : w12.cell? ⟨gb1229, 1, none⟩ = some (.slice A1_1 l1_1.length c1_1) := bc BK1229; have hcz13_2 : w12.cell? ⟨gb1229, 2, none⟩ = some (.slice A1_2 l1_2.length c1_2) := bc BK1229; have hcz13_3 : w12.cell? ⟨gb1229, 3, none⟩ = some (.int .i64 a1_3) := bc BK1229; have hcz13_4 : w12.cell? ⟨gb1229, 4, none⟩ = some (.slice A1_4 l1_4.length c1_4) := bc BK1229; have hcz13_5 : w12.cell? ⟨gb1229, 5, none⟩ = some (.string a1_5) := bc BK1229; have hcz13_6 : w12.cell? ⟨gb1229, 6, none⟩ = some (.int .i64 a1_6) := bc BK1229; have hfz13_0 := blk_frozen BK1229.out 0; have hfz13_1 := blk_frozen BK1229.out 1; have hfz13_2 := blk_frozen BK1229.out 2; have hfz13_3 := blk_frozen BK1229.out 3; have hfz13_4 := blk_frozen BK1229.out 4; have hfz13_5 := blk_frozen BK1229.out 5; have hfz13_6 := blk_frozen BK1229.out 6) | (go_at_call 60; (with_reducible refine (spec_ObjOk.calls k a1_0 _ _ l1_1 _ _ l1_2 a1_3 _ _ l1_4 a1_5 a1_6 true _ ?side1 ?side2 ?side3 ?side4 ?side5 ?side6 A8.out).mono ?_); (case side1 => exact cb HR1_1); (case side2 => exact HC1_1.out); (case side3 => exact cb HR1_2); (case side4 => exact HC1_2.out); (case side5 => exact cb HR1_4); (case side6 => exact HC1_4.out); rintro e w14 ⟨rfl, hb⟩; replace BK1228 := kb BK1228 hb; replace BK1229 := kb BK1229 hb; replace HB := am (below_step bl hb); (try clear hb); (try clear hb2); (try clear hk); (try clear hi); have hcz15_0 : w14.cell? ⟨gb1229, 0, none⟩ = some (.string a1_0) := bc BK1229; have hcz15_1 : w14.cell? ⟨gb1229, 1, none⟩ = some (.slice A1_1 l1_1.length c1_1) := bc BK1229; have hcz15_2 : w14.cell? ⟨gb1229, 2, none⟩ = some (.slice A1_2 l1_2.length c1_2) := bc BK1229; have hcz15_3 : w14.cell? ⟨gb1229, 3, none⟩ = some (.int .i64 a1_3) := bc BK1229; have hcz15_4 : w14.cell? ⟨gb1229, 4, none⟩ = some (.slice A1_4 l1_4.length c1_4) := bc BK1229; have hcz15_5 : w14.cell? ⟨gb1229, 5, none⟩ = some (.string a1_5) := bc BK1229; have hcz15_6 : w14.cell? ⟨gb1229, 6, none⟩ = some (.int .i64 a1_6) := bc BK1229; have hfz15_0 := blk_frozen BK1229.out 0; have hfz15_1 := blk_frozen BK1229.out 1; have hfz15_2 := blk_frozen BK1229.out 2; have hfz15_3 := blk_frozen BK1229.out 3; have hfz15_4 := blk_frozen BK1229.out 4; have hfz15_5 := blk_frozen BK1229.out 5; have hfz15_6 := blk_frozen BK1229.out 6; have hcz16_0 : w14.cell? ⟨gb1228, 0, none⟩ = some (.int .i64 a0_0) := bc BK1228; have hcz16_1 : w14.cell? ⟨gb1228, 1, none⟩ = some (.string a0_1) := bc BK1228; have hcz16_2 : w14.cell? ⟨gb1228, 2, none⟩ = some (.string a0_2) := bc BK1228; have hcz16_3 : w14.cell? ⟨gb1228, 3, none⟩ = some (.int .i64 a0_3) := bc BK1228; have hfz16_0 := blk_frozen BK1228.out 0; have hfz16_1 := blk_frozen BK1228.out 1; have hfz16_2 := blk_frozen BK1228.out 2; have hfz16_3 := blk_frozen BK1228.out 3))
    repeat (go_quiet (first | (go_at_call 145; (with_reducible refine (spec_BanOk.calls k a0_0 a0_1 a0_2 a0_3 true _ A6.out).mono ?_); rintro e w12 ⟨rfl, hb⟩; replace BK1228 := kb BK1228 hb; replace BK1229 := kb BK1229 hb; replace HB := am (below_step bl hb); (try clear hb); (try clear hb2); (try clear hk); (try clear hi); have hcz13_0 : w12.cell? ⟨gb1229, 0, none⟩ = some (.string a1_0) := bc BK1229; have hcz13_1 : w12.cell? ⟨gb1229, 1, none⟩ = some (.slice A1_1 l1_1.length c1_1) := bc BK1229; have hcz13_2 : w12.cell? ⟨gb1229, 2, none⟩ = some (.slice A1_2 l1_2.length c1_2) := bc BK1229; have hcz13_3 : w12.cell? ⟨gb1229, 3, none⟩ = some (.int .i64 a1_3) := bc BK1229; have hcz13_4 : w12.cell? ⟨gb1229, 4, none⟩ = some (.slice A1_4 l1_4.length c1_4) := bc BK1229; have hcz13_5 : w12.cell? ⟨gb1229, 5, none⟩ = some (.string a1_5) := bc BK1229; have hcz13_6 : w12.cell? ⟨gb1229, 6, none⟩ = some (.int .i64 a1_6) := bc BK1229; have hfz13_0 := blk_frozen BK1229.out 0; have hfz13_1 := blk_frozen BK1229.out 1; have hfz13_2 := blk_frozen BK1229.out 2; have hfz13_3 := blk_frozen BK1229.out 3; have hfz13_4 := blk_frozen BK1229.out 4; have hfz13_5 := blk_frozen BK1229.out 5; have hfz13_6 := blk_frozen BK1229.out 6) | (go_at_call 60; (with_reducible refine (spec_ObjOk.calls k a1_0 _ _ l1_1 _ _ l1_2 a1_3 _ _ l1_4 a1_5 a1_6 true _ ?side1 ?side2 ?side3 ?side4 ?side5 ?side6 A8.out).mono ?_); (case side1 => exact cb HR1_1); (case side2 => exact HC1_1.out); (case side3 => exact cb HR1_2); (case side4 => exact HC1_2.out); (case side5 => exact cb HR1_4); (case side6 => exact HC1_4.out); rintro e w14 ⟨rfl, hb⟩; replace BK1228 := kb BK1228 hb; replace BK1229 := kb BK1229 hb; replace HB := am (below_step bl hb); (try clear hb); (try clear hb2); (try clear hk); (try clear hi); have hcz15_0 : w14.cell? ⟨gb1229, 0, none⟩ = some (.string a1_0) := bc BK1229; have hcz15_1 : w14.cell? ⟨gb1229, 1, none⟩ = some (.slice A1_1 l1_1.length c1_1) := bc BK1229; have hcz15_2 : w14.cell? ⟨gb1229, 2, none⟩ = some (.slice A1_2 l1_2.length c1_2) := bc BK1229; have hcz15_3 : w14.cell? ⟨gb1229, 3, none⟩ = some (.int .i64 a1_3) := bc BK1229; have hcz15_4 : w14.cell? ⟨gb1229, 4, none⟩ = some (.slice A1_4 l1_4.length c1_4) := bc BK1229; have hcz15_5 : w14.cell? ⟨gb1229, 5, none⟩ = some (.string a1_5) := bc BK1229; have hcz15_6 : w14.cell? ⟨gb1229, 6, none⟩ = some (.int .i64 a1_6) := bc BK1229; have hfz15_0 := blk_frozen BK1229.out 0; have hfz15_1 := blk_frozen BK1229.out 1; have hfz15_2 := blk_frozen BK1229.out 2; have hfz15_3 := blk_frozen BK1229.out 3; have hfz15_4 := blk_frozen BK1229.out 4; have hfz15_5 := blk_frozen BK1229.out 5; have hfz15_6 := blk_frozen BK1229.out 6; have hcz16_0 : w14.cell? ⟨gb1228, 0, none⟩ = some (.int .i64 a0_0) := bc BK1228; have hcz16_1 : w14.cell? ⟨gb1228, 1, none⟩ = some (.string a0_1) := bc BK1228; have hcz16_2 : w14.cell? ⟨gb1228, 2, none⟩ = some (.string a0_2) := bc BK1228; have hcz16_3 : w14.cell? ⟨gb1228, 3, none⟩ = some (.int .i64 a0_3) := bc BK1228; have hfz16_0 := blk_frozen BK1228.out 0; have hfz16_1 := blk_frozen BK1228.out 1; have hfz16_2 := blk_frozen BK1228.out 2; have hfz16_3 := blk_frozen BK1228.out 3)); try go_wp2_with (first | (go_at_call 145; (with_reducible refine (spec_BanOk.calls k a0_0 a0_1 a0_2 a0_3 true _ A6.out).mono ?_); rintro e w12 ⟨rfl, hb⟩; replace BK1228 := kb BK1228 hb; replace BK1229 := kb BK1229 hb; replace HB := am (below_step bl hb); (try clear hb); (try clear hb2); (try clear hk); (try clear hi); have hcz13_0 : w12.cell? ⟨gb1229, 0, none⟩ = some (.string a1_0) := bc BK1229; have hcz13_1 : w12.cell? ⟨gb1229, 1, none⟩ = some (.slice A1_1 l1_1.length c1_1) := bc BK1229; have hcz13_2 : w12.cell? ⟨gb1229, 2, none⟩ = some (.slice A1_2 l1_2.length c1_2) := bc BK1229; have hcz13_3 : w12.cell? ⟨gb1229, 3, none⟩ = some (.int .i64 a1_3) := bc BK1229; have hcz13_4 : w12.cell? ⟨gb1229, 4, none⟩ = some (.slice A1_4 l1_4.length c1_4) := bc BK1229; have hcz13_5 : w12.cell? ⟨gb1229, 5, none⟩ = some (.string a1_5) := bc BK1229; have hcz13_6 : w12.cell? ⟨gb1229, 6, none⟩ = some (.int .i64 a1_6) := bc BK1229; have hfz13_0 := blk_frozen BK1229.out 0; have hfz13_1 := blk_frozen BK1229.out 1; have hfz13_2 := blk_frozen BK1229.out 2; have hfz13_3 := blk_frozen BK1229.out 3; have hfz13_4 := blk_frozen BK1229.out 4; have hfz13_5 := blk_frozen BK1229.out 5; have hfz13_6 := blk_frozen BK1229.out 6) | (go_at_call 60; (with_reducible refine (spec_ObjOk.calls k a1_0 _ _ l1_1 _ _ l1_2 a1_3 _ _ l1_4 a1_5 a1_6 true _ ?side1 ?side2 ?side3 ?side4 ?side5 ?side6 A8.out).mono ?_); (case side1 => exact cb HR1_1); (case side2 => exact HC1_1.out); (case side3 => exact cb HR1_2); (case side4 => exact HC1_2.out); (case side5 => exact cb HR1_4); (case side6 => exact HC1_4.out); rintro e w14 ⟨rfl, hb⟩; replace BK1228 := kb BK1228 hb; replace BK1229 := kb BK1229 hb; replace HB := am (below_step bl hb); (try clear hb); (try clear hb2); (try clear hk); (try clear hi); have hcz15_0 : w14.cell? ⟨gb1229, 0, none⟩ = some (.string a1_0) := bc BK1229; have hcz15_1 : w14.cell? ⟨gb1229, 1, none⟩ = some (.slice A1_1 l1_1.length c1_1) := bc BK1229; have hcz15_2 : w14.cell? ⟨gb1229, 2, none⟩ = some (.slice A1_2 l1_2.length c1_2) := bc BK1229; have hcz15_3 : w14.cell? ⟨gb1229, 3, none⟩ = some (.int .i64 a1_3) := bc BK1229; have hcz15_4 : w14.cell? ⟨gb1229, 4, none⟩ = some (.slice A1_4 l1_4.length c1_4) := bc BK1229; have hcz15_5 : w14.cell? ⟨gb1229, 5, none⟩ = some (.string a1_5) := bc BK1229; have hcz15_6 : w14.cell? ⟨gb1229, 6, none⟩ = some (.int .i64 a1_6) := bc BK1229; have hfz15_0 := blk_frozen BK1229.out 0; have hfz15_1 := blk_frozen BK1229.out 1; have hfz15_2 := blk_frozen BK1229.out 2; have hfz15_3 := blk_frozen BK1229.out 3; have hfz15_4 := blk_frozen BK1229.out 4; have hfz15_5 := blk_frozen BK1229.out 5; have hfz15_6 := blk_frozen BK1229.out 6; have hcz16_0 : w14.cell? ⟨gb1228, 0, none⟩ = some (.int .i64 a0_0) := bc BK1228; have hcz16_1 : w14.cell? ⟨gb1228, 1, none⟩ = some (.string a0_1) := bc BK1228; have hcz16_2 : w14.cell? ⟨gb1228, 2, none⟩ = some (.string a0_2) := bc BK1228; have hcz16_3 : w14.cell? ⟨gb1228, 3, none⟩ = some (.int .i64 a0_3) := bc BK1228; have hfz16_0 := blk_frozen BK1228.out 0; have hfz16_1 := blk_frozen BK1228.out 1; have hfz16_2 := blk_frozen BK1228.out 2; have hfz16_3 := blk_frozen BK1228.out 3)))
    go_meet
    case rel => exact ⟨_, (decide (a1_6 > a0_3)), rs, H', ⟨by first | omega | exact Nat.le_refl _⟩, ⟨by (with_reducible repeat (first | refine blk_drewN ?_ _ | refine blk_drew ?_ | refine blk_alloc ?_ _)); exact BK1228.out⟩, ⟨by (with_reducible repeat (first | refine blk_drewN ?_ _ | refine blk_drew ?_ | refine blk_alloc ?_ _)); exact BK1229.out⟩, ⟨by repeat (first | (with_reducible first | exact HB.out | apply below_alloc | apply pw_below_drewN | apply below_drew1 | refine below_set ?_ GE1228.out | refine below_set ?_ GE1229.out) | exact HB.out)⟩⟩
   ·replace c9 := Bool.eq_false_iff.mpr c9
    subst c9
    have H1 : (spec_Hits.j0 k true a0_0 a0_1 a0_2 a0_3 a1_0 l1_1 l1_2 a1_3 l1_4 a1_5 a1_6) = some r := by rw [if_neg (show ¬ (false = true) by decide)] at H; exact H
    clear H
    have H := H1
    clear H1
    have H' := am H
    clear H
    have hnb17 := NB1228_1229.out
    have hnc17 := NB1229_1228.out
    have hcz18_0 : w5.cell? ⟨gb1228, 0, none⟩ = some (.int .i64 a0_0) := bc BK1228
    have hcz18_1 : w5.cell? ⟨gb1228, 1, none⟩ = some (.string a0_1) := bc BK1228
    have hcz18_2 : w5.cell? ⟨gb1228, 2, none⟩ = some (.string a0_2) := bc BK1228
    have hcz18_3 : w5.cell? ⟨gb1228, 3, none⟩ = some (.int .i64 a0_3) := bc BK1228
    have hfz18_0 := blk_frozen BK1228.out 0
    have hfz18_1 := blk_frozen BK1228.out 1
    have hfz18_2 := blk_frozen BK1228.out 2
    have hfz18_3 := blk_frozen BK1228.out 3
    go_wp2_with (first | (go_at_call 145; (with_reducible refine (spec_BanOk.calls k a0_0 a0_1 a0_2 a0_3 true _ A6.out).mono ?_); rintro e w19 ⟨rfl, hb⟩; replace BK1228 := kb BK1228 hb; replace BK1229 := kb BK1229 hb; replace HB := am (below_step bl hb); (try clear hb); (try clear hb2); (try clear hk); (try clear hi); have hcz20_0 : w19.cell? ⟨gb1229, 0, none⟩ = some (.string a1_0) := bc BK1229; have hcz20_1 : w19.cell? ⟨gb1229, 1, none⟩ = some (.slice A1_1 l1_1.length c1_1) := bc BK1229; have hcz20_2 : w19.cell? ⟨gb1229, 2, none⟩ = some (.slice A1_2 l1_2.length c1_2) := bc BK1229; have hcz20_3 : w19.cell? ⟨gb1229, 3, none⟩ = some (.int .i64 a1_3) := bc BK1229; have hcz20_4 : w19.cell? ⟨gb1229, 4, none⟩ = some (.slice A1_4 l1_4.length c1_4) := bc BK1229; have hcz20_5 : w19.cell? ⟨gb1229, 5, none⟩ = some (.string a1_5) := bc BK1229; have hcz20_6 : w19.cell? ⟨gb1229, 6, none⟩ = some (.int .i64 a1_6) := bc BK1229; have hfz20_0 := blk_frozen BK1229.out 0; have hfz20_1 := blk_frozen BK1229.out 1; have hfz20_2 := blk_frozen BK1229.out 2; have hfz20_3 := blk_frozen BK1229.out 3; have hfz20_4 := blk_frozen BK1229.out 4; have hfz20_5 := blk_frozen BK1229.out 5; have hfz20_6 := blk_frozen BK1229.out 6) | (go_at_call 60; (with_reducible refine (spec_ObjOk.calls k a1_0 _ _ l1_1 _ _ l1_2 a1_3 _ _ l1_4 a1_5 a1_6 false _ ?side1 ?side2 ?side3 ?side4 ?side5 ?side6 A8.out).mono ?_); (case side1 => exact cb HR1_1); (case side2 => exact HC1_1.out); (case side3 => exact cb HR1_2); (case side4 => exact HC1_2.out); (case side5 => exact cb HR1_4); (case side6 => exact HC1_4.out); rintro e w21 ⟨rfl, hb⟩; replace BK1228 := kb BK1228 hb; replace BK1229 := kb BK1229 hb; replace HB := am (below_step bl hb); (try clear hb); (try clear hb2); (try clear hk); (try clear hi)))
    repeat (go_quiet (first | (go_at_call 145; (with_reducible refine (spec_BanOk.calls k a0_0 a0_1 a0_2 a0_3 true _ A6.out).mono ?_); rintro e w19 ⟨rfl, hb⟩; replace BK1228 := kb BK1228 hb; replace BK1229 := kb BK1229 hb; replace HB := am (below_step bl hb); (try clear hb); (try clear hb2); (try clear hk); (try clear hi); have hcz20_0 : w19.cell? ⟨gb1229, 0, none⟩ = some (.string a1_0) := bc BK1229; have hcz20_1 : w19.cell? ⟨gb1229, 1, none⟩ = some (.slice A1_1 l1_1.length c1_1) := bc BK1229; have hcz20_2 : w19.cell? ⟨gb1229, 2, none⟩ = some (.slice A1_2 l1_2.length c1_2) := bc BK1229; have hcz20_3 : w19.cell? ⟨gb1229, 3, none⟩ = some (.int .i64 a1_3) := bc BK1229; have hcz20_4 : w19.cell? ⟨gb1229, 4, none⟩ = some (.slice A1_4 l1_4.length c1_4) := bc BK1229; have hcz20_5 : w19.cell? ⟨gb1229, 5, none⟩ = some (.string a1_5) := bc BK1229; have hcz20_6 : w19.cell? ⟨gb1229, 6, none⟩ = some (.int .i64 a1_6) := bc BK1229; have hfz20_0 := blk_frozen BK1229.out 0; have hfz20_1 := blk_frozen BK1229.out 1; have hfz20_2 := blk_frozen BK1229.out 2; have hfz20_3 := blk_frozen BK1229.out 3; have hfz20_4 := blk_frozen BK1229.out 4; have hfz20_5 := blk_frozen BK1229.out 5; have hfz20_6 := blk_frozen BK1229.out 6) | (go_at_call 60; (with_reducible refine (spec_ObjOk.calls k a1_0 _ _ l1_1 _ _ l1_2 a1_3 _ _ l1_4 a1_5 a1_6 false _ ?side1 ?side2 ?side3 ?side4 ?side5 ?side6 A8.out).mono ?_); (case side1 => exact cb HR1_1); (case side2 => exact HC1_1.out); (case side3 => exact cb HR1_2); (case side4 => exact HC1_2.out); (case side5 => exact cb HR1_4); (case side6 => exact HC1_4.out); rintro e w21 ⟨rfl, hb⟩; replace BK1228 := kb BK1228 hb; replace BK1229 := kb BK1229 hb; replace HB := am (below_step bl hb); (try clear hb); (try clear hb2); (try clear hk); (try clear hi))); try go_wp2_with (first | (go_at_call 145; (with_reducible refine (spec_BanOk.calls k a0_0 a0_1 a0_2 a0_3 true _ A6.out).mono ?_); rintro e w19 ⟨rfl, hb⟩; replace BK1228 := kb BK1228 hb; replace BK1229 := kb BK1229 hb; replace HB := am (below_step bl hb); (try clear hb); (try clear hb2); (try clear hk); (try clear hi); have hcz20_0 : w19.cell? ⟨gb1229, 0, none⟩ = some (.string a1_0) := bc BK1229; have hcz20_1 : w19.cell? ⟨gb1229, 1, none⟩ = some (.slice A1_1 l1_1.length c1_1) := bc BK1229; have hcz20_2 : w19.cell? ⟨gb1229, 2, none⟩ = some (.slice A1_2 l1_2.length c1_2) := bc BK1229; have hcz20_3 : w19.cell? ⟨gb1229, 3, none⟩ = some (.int .i64 a1_3) := bc BK1229; have hcz20_4 : w19.cell? ⟨gb1229, 4, none⟩ = some (.slice A1_4 l1_4.length c1_4) := bc BK1229; have hcz20_5 : w19.cell? ⟨gb1229, 5, none⟩ = some (.string a1_5) := bc BK1229; have hcz20_6 : w19.cell? ⟨gb1229, 6, none⟩ = some (.int .i64 a1_6) := bc BK1229; have hfz20_0 := blk_frozen BK1229.out 0; have hfz20_1 := blk_frozen BK1229.out 1; have hfz20_2 := blk_frozen BK1229.out 2; have hfz20_3 := blk_frozen BK1229.out 3; have hfz20_4 := blk_frozen BK1229.out 4; have hfz20_5 := blk_frozen BK1229.out 5; have hfz20_6 := blk_frozen BK1229.out 6) | (go_at_call 60; (with_reducible refine (spec_ObjOk.calls k a1_0 _ _ l1_1 _ _ l1_2 a1_3 _ _ l1_4 a1_5 a1_6 false _ ?side1 ?side2 ?side3 ?side4 ?side5 ?side6 A8.out).mono ?_); (case side1 => exact cb HR1_1); (case side2 => exact HC1_1.out); (case side3 => exact cb HR1_2); (case side4 => exact HC1_2.out); (case side5 => exact cb HR1_4); (case side6 => exact HC1_4.out); rintro e w21 ⟨rfl, hb⟩; replace BK1228 := kb BK1228 hb; replace BK1229 := kb BK1229 hb; replace HB := am (below_step bl hb); (try clear hb); (try clear hb2); (try clear hk); (try clear hi))))
    go_meet
    case rel => exact ⟨_, (true), rs, H', ⟨by first | omega | exact Nat.le_refl _⟩, ⟨by (with_reducible repeat (first | refine blk_drewN ?_ _ | refine blk_drew ?_ | refine blk_alloc ?_ _)); exact BK1228.out⟩, ⟨by (with_reducible repeat (first | refine blk_drewN ?_ _ | refine blk_drew ?_ | refine blk_alloc ?_ _)); exact BK1229.out⟩, ⟨by repeat (first | (with_reducible first | exact HB.out | apply below_alloc | apply pw_below_drewN | apply below_drew1 | refine below_set ?_ GE1228.out | refine below_set ?_ GE1229.out) | exact HB.out)⟩⟩
  ·replace c7 := Bool.eq_false_iff.mpr c7
   subst c7
   have H1 : (spec_Hits.j0 k true a0_0 a0_1 a0_2 a0_3 a1_0 l1_1 l1_2 a1_3 l1_4 a1_5 a1_6) = some r := by rw [if_neg (show ¬ (false = true) by decide)] at H; exact H
   clear H
   have H := H1
   clear H1
   have H' := am H
   clear H
   have hnb22 := NB1228_1229.out
   have hnc22 := NB1229_1228.out
   have hcz23_0 : w5.cell? ⟨gb1228, 0, none⟩ = some (.int .i64 a0_0) := bc BK1228
   have hcz23_1 : w5.cell? ⟨gb1228, 1, none⟩ = some (.string a0_1) := bc BK1228
   have hcz23_2 : w5.cell? ⟨gb1228, 2, none⟩ = some (.string a0_2) := bc BK1228
   have hcz23_3 : w5.cell? ⟨gb1228, 3, none⟩ = some (.int .i64 a0_3) := bc BK1228
   have hfz23_0 := blk_frozen BK1228.out 0
   have hfz23_1 := blk_frozen BK1228.out 1
   have hfz23_2 := blk_frozen BK1228.out 2
   have hfz23_3 := blk_frozen BK1228.out 3
   go_wp2_with (first | (go_at_call 145; (with_reducible refine (spec_BanOk.calls k a0_0 a0_1 a0_2 a0_3 false _ A6.out).mono ?_); rintro e w24 ⟨rfl, hb⟩; replace BK1228 := kb BK1228 hb; replace BK1229 := kb BK1229 hb; replace HB := am (below_step bl hb); (try clear hb); (try clear hb2); (try clear hk); (try clear hi)))
   repeat (go_quiet (first | (go_at_call 145; (with_reducible refine (spec_BanOk.calls k a0_0 a0_1 a0_2 a0_3 false _ A6.out).mono ?_); rintro e w24 ⟨rfl, hb⟩; replace BK1228 := kb BK1228 hb; replace BK1229 := kb BK1229 hb; replace HB := am (below_step bl hb); (try clear hb); (try clear hb2); (try clear hk); (try clear hi))); try go_wp2_with (first | (go_at_call 145; (with_reducible refine (spec_BanOk.calls k a0_0 a0_1 a0_2 a0_3 false _ A6.out).mono ?_); rintro e w24 ⟨rfl, hb⟩; replace BK1228 := kb BK1228 hb; replace BK1229 := kb BK1229 hb; replace HB := am (below_step bl hb); (try clear hb); (try clear hb2); (try clear hk); (try clear hi))))
   go_meet
   case rel => exact ⟨_, (true), rs, H', ⟨by first | omega | exact Nat.le_refl _⟩, ⟨by (with_reducible repeat (first | refine blk_drewN ?_ _ | refine blk_drew ?_ | refine blk_alloc ?_ _)); exact BK1228.out⟩, ⟨by (with_reducible repeat (first | refine blk_drewN ?_ _ | refine blk_drew ?_ | refine blk_alloc ?_ _)); exact BK1229.out⟩, ⟨by repeat (first | (with_reducible first | exact HB.out | apply below_alloc | apply pw_below_drewN | apply below_drew1 | refine below_set ?_ GE1228.out | refine below_set ?_ GE1229.out) | exact HB.out)⟩⟩
 case rest =>
  clear HC3
  try clear c1
  try clear c2
  try clear p2
  try clear c6
  try clear c7
  try clear c9
  try clear c10
  try clear c17
  try clear c22
  try clear hcz11_0
  try clear hcz11_1
  try clear hcz11_2
  try clear hcz11_3
  try clear hcz13_0
  try clear hcz13_1
  try clear hcz13_2
  try clear hcz13_3
  try clear hcz13_4
  try clear hcz13_5
  try clear hcz13_6
  try clear hcz15_0
  try clear hcz15_1
  try clear hcz15_2
  try clear hcz15_3
  try clear hcz15_4
  try clear hcz15_5
  try clear hcz15_6
  try clear hcz16_0
  try clear hcz16_1
  try clear hcz16_2
  try clear hcz16_3
  try clear hcz18_0
  try clear hcz18_1
  try clear hcz18_2
  try clear hcz18_3
  try clear hcz20_0
  try clear hcz20_1
  try clear hcz20_2
  try clear hcz20_3
  try clear hcz20_4
  try clear hcz20_5
  try clear hcz20_6
  try clear hcz23_0
  try clear hcz23_1
  try clear hcz23_2
  try clear hcz23_3
  try clear hfz11_0
  try clear hfz11_1
  try clear hfz11_2
  try clear hfz11_3
  try clear hfz13_0
  try clear hfz13_1
  try clear hfz13_2
  try clear hfz13_3
  try clear hfz13_4
  try clear hfz13_5
  try clear hfz13_6
  try clear hfz15_0
  try clear hfz15_1
  try clear hfz15_2
  try clear hfz15_3
  try clear hfz15_4
  try clear hfz15_5
  try clear hfz15_6
  try clear hfz16_0
  try clear hfz16_1
  try clear hfz16_2
  try clear hfz16_3
  try clear hfz18_0
  try clear hfz18_1
  try clear hfz18_2
  try clear hfz18_3
  try clear hfz20_0
  try clear hfz20_1
  try clear hfz20_2
  try clear hfz20_3
  try clear hfz20_4
  try clear hfz20_5
  try clear hfz20_6
  try clear hfz23_0
  try clear hfz23_1
  try clear hfz23_2
  try clear hfz23_3
  obtain ⟨kq, x21_2, rfl, HA, HJ2, BK1228, BK1229, HB⟩ := hcut
  cases kq with
  | zero => exact absurd HA.out (by simp [spec_Hits.j0])
  | succ kj2 =>
   have H := HA.out
   clear HA
   simp only [spec_Hits.j0] at H
   by_cases c25 : x21_2 = true
   ·subst c25
    have H1 : (some false) = some r := by rw [if_pos rfl] at H; exact H
    clear H
    have H := H1
    clear H1
    obtain rfl := Option.some.inj H
    go_wp2
    repeat (go_quiet (fail); try go_wp2)
    go_ret
    exact ⟨rf, bl⟩
   ·replace c25 := Bool.eq_false_iff.mpr c25
    subst c25
    have H1 : (if a0_0 = 1 then (some (a1_0.toList == a0_1.toList)) else (if a0_0 = 2 then (if (a1_0.size : Int) ≥ (a0_1.size : Int) then (if 0 ≤ (a0_1.size : Int) then (if (a0_1.size : Int) ≤ (a1_0.size : Int) then (some ((a1_0.extract 0 ((a0_1.size : Int) : Int).toNat).toList == a0_1.toList)) else (none)) else (none)) else (some false)) else ((spec_Get.f kj2 l1_4 a0_1).bind fun bt1232 => (if bt1232.2 = true then (some (bt1232.1.toList == a0_2.toList)) else (some false))))) = some r := by rw [if_neg (show ¬ (false = true) by decide)] at H; exact H
    clear H
    have H := H1
    clear H1
    by_cases c26 : a0_0 = 1
    ·rw [if_pos c26] at H
     have c26b0 : (a0_0 == 1) = true := beq_iff_eq.mpr c26
     have c26b1 : (a0_0 != 1) = false := bne_eq_false_iff_eq.mpr c26
     clear c26
     obtain rfl := Option.some.inj H
     have hnb27 := NB1228_1229.out
     have hnc27 := NB1229_1228.out
     have hcz28_0 : wc.cell? ⟨gb1228, 0, none⟩ = some (.int .i64 a0_0) := bc BK1228
     have hcz28_1 : wc.cell? ⟨gb1228, 1, none⟩ = some (.string a0_1) := bc BK1228
     have hcz28_2 : wc.cell? ⟨gb1228, 2, none⟩ = some (.string a0_2) := bc BK1228
     have hcz28_3 : wc.cell? ⟨gb1228, 3, none⟩ = some (.int .i64 a0_3) := bc BK1228
     have hfz28_0 := blk_frozen BK1228.out 0
     have hfz28_1 := blk_frozen BK1228.out 1
     have hfz28_2 := blk_frozen BK1228.out 2
     have hfz28_3 := blk_frozen BK1228.out 3
     have hcz29_0 : wc.cell? ⟨gb1229, 0, none⟩ = some (.string a1_0) := bc BK1229
     have hcz29_1 : wc.cell? ⟨gb1229, 1, none⟩ = some (.slice A1_1 l1_1.length c1_1) := bc BK1229
     have hcz29_2 : wc.cell? ⟨gb1229, 2, none⟩ = some (.slice A1_2 l1_2.length c1_2) := bc BK1229
     have hcz29_3 : wc.cell? ⟨gb1229, 3, none⟩ = some (.int .i64 a1_3) := bc BK1229
     have hcz29_4 : wc.cell? ⟨gb1229, 4, none⟩ = some (.slice A1_4 l1_4.length c1_4) := bc BK1229
     have hcz29_5 : wc.cell? ⟨gb1229, 5, none⟩ = some (.string a1_5) := bc BK1229
     have hcz29_6 : wc.cell? ⟨gb1229, 6, none⟩ = some (.int .i64 a1_6) := bc BK1229
     have hfz29_0 := blk_frozen BK1229.out 0
     have hfz29_1 := blk_frozen BK1229.out 1
     have hfz29_2 := blk_frozen BK1229.out 2
     have hfz29_3 := blk_frozen BK1229.out 3
     have hfz29_4 := blk_frozen BK1229.out 4
     have hfz29_5 := blk_frozen BK1229.out 5
     have hfz29_6 := blk_frozen BK1229.out 6
     go_wp2
     repeat (go_quiet (fail); try go_wp2)
     go_ret
     exact ⟨rf, bl⟩
    ·rw [if_neg c26] at H
     have c26b0 : (a0_0 == 1) = false := beq_eq_false_iff_ne.mpr c26
     have c26b1 : (a0_0 != 1) = true := bne_iff_ne.mpr c26
     by_cases c30 : a0_0 = 2
     ·rw [if_pos c30] at H
      have c30b0 : (a0_0 == 2) = true := beq_iff_eq.mpr c30
      have c30b1 : (a0_0 != 2) = false := bne_eq_false_iff_eq.mpr c30
      clear c30
      by_cases c31 : (a1_0.size : Int) ≥ (a0_1.size : Int)
      ·rw [if_pos c31] at H
       have c31b0 : decide ((a0_1.size : Int) ≤ (a1_0.size : Int)) = true := decide_eq_true c31
       have c31b1 : decide (a0_1.size ≤ a1_0.size) = true := decide_eq_true (Int.ofNat_le.mp c31)
       clear c31
       by_cases c32 : 0 ≤ (a0_1.size : Int)
       ·rw [if_pos c32] at H
        have c32b0 := eq_true c32
        have c32b1 : decide (0 ≤ (a0_1.size : Int)) = true := decide_eq_true c32
        clear c32
        by_cases c33 : (a0_1.size : Int) ≤ (a1_0.size : Int)
        ·rw [if_pos c33] at H
         have c33b0 := eq_true c33
         have c33b1 : decide ((a0_1.size : Int) ≤ (a1_0.size : Int)) = true := decide_eq_true c33
         clear c33
         obtain rfl := Option.some.inj H
         have hnb34 := NB1228_1229.out
         have hnc34 := NB1229_1228.out
         have hcz35_0 : wc.cell? ⟨gb1228, 0, none⟩ = some (.int .i64 a0_0) := bc BK1228
         have hcz35_1 : wc.cell? ⟨gb1228, 1, none⟩ = some (.string a0_1) := bc BK1228
         have hcz35_2 : wc.cell? ⟨gb1228, 2, none⟩ = some (.string a0_2) := bc BK1228
         have hcz35_3 : wc.cell? ⟨gb1228, 3, none⟩ = some (.int .i64 a0_3) := bc BK1228
         have hfz35_0 := blk_frozen BK1228.out 0
         have hfz35_1 := blk_frozen BK1228.out 1
         have hfz35_2 := blk_frozen BK1228.out 2
         have hfz35_3 := blk_frozen BK1228.out 3
         have hcz36_0 : wc.cell? ⟨gb1229, 0, none⟩ = some (.string a1_0) := bc BK1229
         have hcz36_1 : wc.cell? ⟨gb1229, 1, none⟩ = some (.slice A1_1 l1_1.length c1_1) := bc BK1229
         have hcz36_2 : wc.cell? ⟨gb1229, 2, none⟩ = some (.slice A1_2 l1_2.length c1_2) := bc BK1229
         have hcz36_3 : wc.cell? ⟨gb1229, 3, none⟩ = some (.int .i64 a1_3) := bc BK1229
         have hcz36_4 : wc.cell? ⟨gb1229, 4, none⟩ = some (.slice A1_4 l1_4.length c1_4) := bc BK1229
         have hcz36_5 : wc.cell? ⟨gb1229, 5, none⟩ = some (.string a1_5) := bc BK1229
         have hcz36_6 : wc.cell? ⟨gb1229, 6, none⟩ = some (.int .i64 a1_6) := bc BK1229
         have hfz36_0 := blk_frozen BK1229.out 0
         have hfz36_1 := blk_frozen BK1229.out 1
         have hfz36_2 := blk_frozen BK1229.out 2
         have hfz36_3 := blk_frozen BK1229.out 3
         have hfz36_4 := blk_frozen BK1229.out 4
         have hfz36_5 := blk_frozen BK1229.out 5
         have hfz36_6 := blk_frozen BK1229.out 6
         go_wp2
         repeat (go_quiet (fail); try go_wp2)
         go_ret
         exact ⟨rf, bl⟩
        ·rw [if_neg c33] at H
         exact absurd H (by simp)
       ·rw [if_neg c32] at H
        exact absurd H (by simp)
      ·rw [if_neg c31] at H
       have c31b0 : decide ((a0_1.size : Int) ≤ (a1_0.size : Int)) = false := decide_eq_false c31
       have c31b1 : decide (a0_1.size ≤ a1_0.size) = false := decide_eq_false (fun h => c31 (Int.ofNat_le.mpr h))
       clear c31
       obtain rfl := Option.some.inj H
       have hnb37 := NB1228_1229.out
       have hnc37 := NB1229_1228.out
       have hcz38_0 : wc.cell? ⟨gb1228, 0, none⟩ = some (.int .i64 a0_0) := bc BK1228
       have hcz38_1 : wc.cell? ⟨gb1228, 1, none⟩ = some (.string a0_1) := bc BK1228
       have hcz38_2 : wc.cell? ⟨gb1228, 2, none⟩ = some (.string a0_2) := bc BK1228
       have hcz38_3 : wc.cell? ⟨gb1228, 3, none⟩ = some (.int .i64 a0_3) := bc BK1228
       have hfz38_0 := blk_frozen BK1228.out 0
       have hfz38_1 := blk_frozen BK1228.out 1
       have hfz38_2 := blk_frozen BK1228.out 2
       have hfz38_3 := blk_frozen BK1228.out 3
       have hcz39_0 : wc.cell? ⟨gb1229, 0, none⟩ = some (.string a1_0) := bc BK1229
       have hcz39_1 : wc.cell? ⟨gb1229, 1, none⟩ = some (.slice A1_1 l1_1.length c1_1) := bc BK1229
       have hcz39_2 : wc.cell? ⟨gb1229, 2, none⟩ = some (.slice A1_2 l1_2.length c1_2) := bc BK1229
       have hcz39_3 : wc.cell? ⟨gb1229, 3, none⟩ = some (.int .i64 a1_3) := bc BK1229
       have hcz39_4 : wc.cell? ⟨gb1229, 4, none⟩ = some (.slice A1_4 l1_4.length c1_4) := bc BK1229
       have hcz39_5 : wc.cell? ⟨gb1229, 5, none⟩ = some (.string a1_5) := bc BK1229
       have hcz39_6 : wc.cell? ⟨gb1229, 6, none⟩ = some (.int .i64 a1_6) := bc BK1229
       have hfz39_0 := blk_frozen BK1229.out 0
       have hfz39_1 := blk_frozen BK1229.out 1
       have hfz39_2 := blk_frozen BK1229.out 2
       have hfz39_3 := blk_frozen BK1229.out 3
       have hfz39_4 := blk_frozen BK1229.out 4
       have hfz39_5 := blk_frozen BK1229.out 5
       have hfz39_6 := blk_frozen BK1229.out 6
       go_wp2
       repeat (go_quiet (fail); try go_wp2)
       go_ret
       exact ⟨rf, bl⟩
     ·rw [if_neg c30] at H
      have c30b0 : (a0_0 == 2) = false := beq_eq_false_iff_ne.mpr c30
      have c30b1 : (a0_0 != 2) = true := bne_iff_ne.mpr c30
      replace H := ob H
      obtain ⟨⟨t1232, t1233⟩, A400, H⟩ := H
      replace H : (if t1233 = true then (some (t1232.toList == a0_2.toList)) else (some false)) = some r := H
      have A40 := am A400
      clear A400
      by_cases c41 : t1233 = true
      ·subst c41
       have H1 : (some (t1232.toList == a0_2.toList)) = some r := by rw [if_pos rfl] at H; exact H
       clear H
       have H := H1
       clear H1
       obtain rfl := Option.some.inj H
       have hnb42 := NB1228_1229.out
       have hnc42 := NB1229_1228.out
       have hcz43_0 : wc.cell? ⟨gb1228, 0, none⟩ = some (.int .i64 a0_0) := bc BK1228
       have hcz43_1 : wc.cell? ⟨gb1228, 1, none⟩ = some (.string a0_1) := bc BK1228
       have hcz43_2 : wc.cell? ⟨gb1228, 2, none⟩ = some (.string a0_2) := bc BK1228
       have hcz43_3 : wc.cell? ⟨gb1228, 3, none⟩ = some (.int .i64 a0_3) := bc BK1228
       have hfz43_0 := blk_frozen BK1228.out 0
       have hfz43_1 := blk_frozen BK1228.out 1
       have hfz43_2 := blk_frozen BK1228.out 2
       have hfz43_3 := blk_frozen BK1228.out 3
       have hcz44_0 : wc.cell? ⟨gb1229, 0, none⟩ = some (.string a1_0) := bc BK1229
       have hcz44_1 : wc.cell? ⟨gb1229, 1, none⟩ = some (.slice A1_1 l1_1.length c1_1) := bc BK1229
       have hcz44_2 : wc.cell? ⟨gb1229, 2, none⟩ = some (.slice A1_2 l1_2.length c1_2) := bc BK1229
       have hcz44_3 : wc.cell? ⟨gb1229, 3, none⟩ = some (.int .i64 a1_3) := bc BK1229
       have hcz44_4 : wc.cell? ⟨gb1229, 4, none⟩ = some (.slice A1_4 l1_4.length c1_4) := bc BK1229
       have hcz44_5 : wc.cell? ⟨gb1229, 5, none⟩ = some (.string a1_5) := bc BK1229
       have hcz44_6 : wc.cell? ⟨gb1229, 6, none⟩ = some (.int .i64 a1_6) := bc BK1229
       have hfz44_0 := blk_frozen BK1229.out 0
       have hfz44_1 := blk_frozen BK1229.out 1
       have hfz44_2 := blk_frozen BK1229.out 2
       have hfz44_3 := blk_frozen BK1229.out 3
       have hfz44_4 := blk_frozen BK1229.out 4
       have hfz44_5 := blk_frozen BK1229.out 5
       have hfz44_6 := blk_frozen BK1229.out 6
       go_wp2_with (first | (go_at_call 97; (with_reducible refine (spec_Get.calls kj2 _ _ l1_4 a0_1 t1232 true _ ?side1 ?side2 A40.out).mono ?_); (case side1 => exact cb HR1_4); (case side2 => exact HC1_4.out); rintro e w' ⟨rfl, ⟨nd, rfl⟩⟩; (try first | exact ⟨rfl, _, World.drewN_drewN _ _ _⟩ | exact ⟨rfl, _, Eq.trans (World.drewN_drewN _ _ _) (congrArg (World.drewN _) (Nat.add_assoc _ _ _))⟩)))
       repeat (go_quiet (first | (go_at_call 97; (with_reducible refine (spec_Get.calls kj2 _ _ l1_4 a0_1 t1232 true _ ?side1 ?side2 A40.out).mono ?_); (case side1 => exact cb HR1_4); (case side2 => exact HC1_4.out); rintro e w' ⟨rfl, ⟨nd, rfl⟩⟩; (try first | exact ⟨rfl, _, World.drewN_drewN _ _ _⟩ | exact ⟨rfl, _, Eq.trans (World.drewN_drewN _ _ _) (congrArg (World.drewN _) (Nat.add_assoc _ _ _))⟩))); try go_wp2_with (first | (go_at_call 97; (with_reducible refine (spec_Get.calls kj2 _ _ l1_4 a0_1 t1232 true _ ?side1 ?side2 A40.out).mono ?_); (case side1 => exact cb HR1_4); (case side2 => exact HC1_4.out); rintro e w' ⟨rfl, ⟨nd, rfl⟩⟩; (try first | exact ⟨rfl, _, World.drewN_drewN _ _ _⟩ | exact ⟨rfl, _, Eq.trans (World.drewN_drewN _ _ _) (congrArg (World.drewN _) (Nat.add_assoc _ _ _))⟩))))
       go_ret
       exact ⟨rf, bl⟩
      ·replace c41 := Bool.eq_false_iff.mpr c41
       subst c41
       have H1 : (some false) = some r := by rw [if_neg (show ¬ (false = true) by decide)] at H; exact H
       clear H
       have H := H1
       clear H1
       obtain rfl := Option.some.inj H
       have hnb45 := NB1228_1229.out
       have hnc45 := NB1229_1228.out
       have hcz46_0 : wc.cell? ⟨gb1228, 0, none⟩ = some (.int .i64 a0_0) := bc BK1228
       have hcz46_1 : wc.cell? ⟨gb1228, 1, none⟩ = some (.string a0_1) := bc BK1228
       have hcz46_2 : wc.cell? ⟨gb1228, 2, none⟩ = some (.string a0_2) := bc BK1228
       have hcz46_3 : wc.cell? ⟨gb1228, 3, none⟩ = some (.int .i64 a0_3) := bc BK1228
       have hfz46_0 := blk_frozen BK1228.out 0
       have hfz46_1 := blk_frozen BK1228.out 1
       have hfz46_2 := blk_frozen BK1228.out 2
       have hfz46_3 := blk_frozen BK1228.out 3
       have hcz47_0 : wc.cell? ⟨gb1229, 0, none⟩ = some (.string a1_0) := bc BK1229
       have hcz47_1 : wc.cell? ⟨gb1229, 1, none⟩ = some (.slice A1_1 l1_1.length c1_1) := bc BK1229
       have hcz47_2 : wc.cell? ⟨gb1229, 2, none⟩ = some (.slice A1_2 l1_2.length c1_2) := bc BK1229
       have hcz47_3 : wc.cell? ⟨gb1229, 3, none⟩ = some (.int .i64 a1_3) := bc BK1229
       have hcz47_4 : wc.cell? ⟨gb1229, 4, none⟩ = some (.slice A1_4 l1_4.length c1_4) := bc BK1229
       have hcz47_5 : wc.cell? ⟨gb1229, 5, none⟩ = some (.string a1_5) := bc BK1229
       have hcz47_6 : wc.cell? ⟨gb1229, 6, none⟩ = some (.int .i64 a1_6) := bc BK1229
       have hfz47_0 := blk_frozen BK1229.out 0
       have hfz47_1 := blk_frozen BK1229.out 1
       have hfz47_2 := blk_frozen BK1229.out 2
       have hfz47_3 := blk_frozen BK1229.out 3
       have hfz47_4 := blk_frozen BK1229.out 4
       have hfz47_5 := blk_frozen BK1229.out 5
       have hfz47_6 := blk_frozen BK1229.out 6
       go_wp2_with (first | (go_at_call 97; (with_reducible refine (spec_Get.calls kj2 _ _ l1_4 a0_1 t1232 false _ ?side1 ?side2 A40.out).mono ?_); (case side1 => exact cb HR1_4); (case side2 => exact HC1_4.out); rintro e w' ⟨rfl, ⟨nd, rfl⟩⟩; (try first | exact ⟨rfl, _, World.drewN_drewN _ _ _⟩ | exact ⟨rfl, _, Eq.trans (World.drewN_drewN _ _ _) (congrArg (World.drewN _) (Nat.add_assoc _ _ _))⟩)))
       repeat (go_quiet (first | (go_at_call 97; (with_reducible refine (spec_Get.calls kj2 _ _ l1_4 a0_1 t1232 false _ ?side1 ?side2 A40.out).mono ?_); (case side1 => exact cb HR1_4); (case side2 => exact HC1_4.out); rintro e w' ⟨rfl, ⟨nd, rfl⟩⟩; (try first | exact ⟨rfl, _, World.drewN_drewN _ _ _⟩ | exact ⟨rfl, _, Eq.trans (World.drewN_drewN _ _ _) (congrArg (World.drewN _) (Nat.add_assoc _ _ _))⟩))); try go_wp2_with (first | (go_at_call 97; (with_reducible refine (spec_Get.calls kj2 _ _ l1_4 a0_1 t1232 false _ ?side1 ?side2 A40.out).mono ?_); (case side1 => exact cb HR1_4); (case side2 => exact HC1_4.out); rintro e w' ⟨rfl, ⟨nd, rfl⟩⟩; (try first | exact ⟨rfl, _, World.drewN_drewN _ _ _⟩ | exact ⟨rfl, _, Eq.trans (World.drewN_drewN _ _ _) (congrArg (World.drewN _) (Nat.add_assoc _ _ _))⟩))))
       go_ret
       exact ⟨rf, bl⟩

/-! ### laws_toBan: function 66 -/
def laws_toBan.f (a0_0 : Int) (a0_1 : ByteArray) (a0_2 : ByteArray) (a0_3 : Int) : Option (Int × ByteArray × ByteArray × Int) := some (a0_0, a0_1, a0_2, a0_3)
set_option maxHeartbeats 8000000 in
set_option maxRecDepth 100000 in
theorem laws_toBan.calls (a0_0 : Int) (a0_1 : ByteArray) (a0_2 : ByteArray) (a0_3 : Int) (r1 : Int) (r2 : ByteArray) (r3 : ByteArray) (r4 : Int) (w : World) (h : laws_toBan.f a0_0 a0_1 a0_2 a0_3 = some (r1, r2, r3, r4)) :
  Calls Tryd.prog 66 #[.agg #[.int .i64 a0_0, .string a0_1, .string a0_2, .int .i64 a0_3]] w fun e w' => e = .returned (.agg #[.int .i64 r1, .string r2, .string r3, .int .i64 r4]) ∧ Below w.heap.size w w' := by
 have hu81 := Tryd.underlying81
 have hu84 := Tryd.underlying84
 have HB := am (Below.refl w.heap.size w)
 have H : (some (a0_0, a0_1, a0_2, a0_3)) = some (r1, r2, r3, r4) := h
 clear h
 simp only [Option.some.injEq, Prod.mk.injEq] at H
 obtain ⟨rfl, rfl, rfl, rfl⟩ := H
 go_enter Tryd.func66, Tryd.ntmps66
 go_wp2_with (first | ((with_reducible refine gate_dst (N := 1) rfl ?_); refine box_event ?hg (N := 1) ?hd (cs := #[.int .i64 a0_0, .string a0_1, .string a0_2, .int .i64 a0_3]) (t := 81) ?hr ?_; (case hd => rfl); (case hg => rfl); (case hr => first | (go_simp; done) | (go_simp; rfl)); intro gb1234 hg w2 hbox hb; have n0_ := am (below_step bl hb); have n1_ := am (hbox); have n2_ := am (sz hg : w.heap.size ≤ gb1234); have n3_ := am (sz hg : w.heap.size ≤ gb1234); clear HB; have HB := n0_; have BK1234 := n1_; have GW1234 := n2_; have GE1234 := n3_; clear n0_ n1_ n2_ n3_; clear hb hbox hg) | ((with_reducible refine gate_dst (N := 2) rfl ?_); refine box_event ?hg (N := 2) ?hd (cs := #[.int .i64 0, .string (⟨#[]⟩ : ByteArray), .string (⟨#[]⟩ : ByteArray), .int .i64 0]) (t := 84) ?hr ?_; (case hd => rfl); (case hg => rfl); (case hr => first | (go_simp; done) | (go_simp; rfl)); intro gb1235 hg w3 hbox hb; have n0_ := kb BK1234 hb; have n1_ := am (below_step bl hb); have n2_ := am (hbox); have n3_ := am (sz hg : w.heap.size ≤ gb1235); have n4_ := am (sz hg : w.heap.size ≤ gb1235); have n5_ := am (nl hg BK1234 : gb1234 ≠ gb1235); have n6_ := am (ng hg BK1234 : gb1235 ≠ gb1234); clear BK1234; clear HB; have BK1234 := n0_; have HB := n1_; have BK1235 := n2_; have GW1235 := n3_; have GE1235 := n4_; have NB1234_1235 := n5_; have NB1235_1234 := n6_; clear n0_ n1_ n2_ n3_ n4_ n5_ n6_; clear hb hbox hg) | ((with_reducible refine gate_dst (N := 3) rfl ?_); refine box_event ?hg (N := 3) ?hd (cs := #[.int .i64 0, .string (⟨#[]⟩ : ByteArray), .string (⟨#[]⟩ : ByteArray), .int .i64 0]) (t := 84) ?hr ?_; (case hd => rfl); (case hg => rfl); (case hr => first | (go_simp; done) | (go_simp; rfl)); intro gb1236 hg w4 hbox hb; have n0_ := kb BK1234 hb; have n1_ := kb BK1235 hb; have n2_ := am (below_step bl hb); have n3_ := am (hbox); have n4_ := am (sz hg : w.heap.size ≤ gb1236); have n5_ := am (sz hg : w.heap.size ≤ gb1236); have n6_ := am (nl hg BK1234 : gb1234 ≠ gb1236); have n7_ := am (ng hg BK1234 : gb1236 ≠ gb1234); have n8_ := am (nl hg BK1235 : gb1235 ≠ gb1236); have n9_ := am (ng hg BK1235 : gb1236 ≠ gb1235); clear BK1234; clear BK1235; clear HB; have BK1234 := n0_; have BK1235 := n1_; have HB := n2_; have BK1236 := n3_; have GW1236 := n4_; have GE1236 := n5_; have NB1234_1236 := n6_; have NB1236_1234 := n7_; have NB1235_1236 := n8_; have NB1236_1235 := n9_; clear n0_ n1_ n2_ n3_ n4_ n5_ n6_ n7_ n8_ n9_; clear hb hbox hg; have hnb5 := NB1234_1235.out; have hnc5 := NB1235_1234.out; have hnb6 := NB1234_1236.out; have hnc6 := NB1236_1234.out; have hcz7_0 : w4.cell? ⟨gb1234, 0, none⟩ = some (.int .i64 a0_0) := bc BK1234; have hcz7_1 : w4.cell? ⟨gb1234, 1, none⟩ = some (.string a0_1) := bc BK1234; have hcz7_2 : w4.cell? ⟨gb1234, 2, none⟩ = some (.string a0_2) := bc BK1234; have hcz7_3 : w4.cell? ⟨gb1234, 3, none⟩ = some (.int .i64 a0_3) := bc BK1234; have hfz7_0 := blk_frozen BK1234.out 0; have hfz7_1 := blk_frozen BK1234.out 1; have hfz7_2 := blk_frozen BK1234.out 2; have hfz7_3 := blk_frozen BK1234.out 3; have hnb8 := NB1236_1235.out; have hnc8 := NB1235_1236.out; have hcz9_0 : w4.cell? ⟨gb1236, 0, none⟩ = some (.int .i64 0) := bc BK1236; have hcz9_1 : w4.cell? ⟨gb1236, 1, none⟩ = some (.string (⟨#[]⟩ : ByteArray)) := bc BK1236; have hcz9_2 : w4.cell? ⟨gb1236, 2, none⟩ = some (.string (⟨#[]⟩ : ByteArray)) := bc BK1236; have hcz9_3 : w4.cell? ⟨gb1236, 3, none⟩ = some (.int .i64 0) := bc BK1236; have hfz9_0 := blk_frozen BK1236.out 0; have hfz9_1 := blk_frozen BK1236.out 1; have hfz9_2 := blk_frozen BK1236.out 2; have hfz9_3 := blk_frozen BK1236.out 3; have hcz10_0 : w4.cell? ⟨gb1235, 0, none⟩ = some (.int .i64 0) := bc BK1235; have hcz10_1 : w4.cell? ⟨gb1235, 1, none⟩ = some (.string (⟨#[]⟩ : ByteArray)) := bc BK1235; have hcz10_2 : w4.cell? ⟨gb1235, 2, none⟩ = some (.string (⟨#[]⟩ : ByteArray)) := bc BK1235; have hcz10_3 : w4.cell? ⟨gb1235, 3, none⟩ = some (.int .i64 0) := bc BK1235; have hfz10_0 := blk_frozen BK1235.out 0; have hfz10_1 := blk_frozen BK1235.out 1; have hfz10_2 := blk_frozen BK1235.out 2; have hfz10_3 := blk_frozen BK1235.out 3))
 refine bodyPost_ret (results_cell_row rfl _ _ gb1235 84 #[.int .i64 a0_0, .string a0_1, .string a0_2, .int .i64 a0_3] (0, 0) _ rfl (by (with_reducible repeat (first | refine blk_drewN ?_ _ | refine blk_drew ?_ | refine blk_alloc ?_ _)); refine blk_put (cs := #[.int .i64 a0_0, .string a0_1, .string a0_2, .int .i64 0]) ?_ 3 _ rfl; (with_reducible repeat (first | refine blk_drewN ?_ _ | refine blk_drew ?_ | refine blk_alloc ?_ _)); refine blk_put (cs := #[.int .i64 a0_0, .string a0_1, .string (⟨#[]⟩ : ByteArray), .int .i64 0]) ?_ 2 _ rfl; (with_reducible repeat (first | refine blk_drewN ?_ _ | refine blk_drew ?_ | refine blk_alloc ?_ _)); refine blk_put (cs := #[.int .i64 a0_0, .string (⟨#[]⟩ : ByteArray), .string (⟨#[]⟩ : ByteArray), .int .i64 0]) ?_ 1 _ rfl; (with_reducible repeat (first | refine blk_drewN ?_ _ | refine blk_drew ?_ | refine blk_alloc ?_ _)); refine blk_put (cs := #[.int .i64 0, .string (⟨#[]⟩ : ByteArray), .string (⟨#[]⟩ : ByteArray), .int .i64 0]) ?_ 0 _ rfl; (with_reducible repeat (first | refine blk_drewN ?_ _ | refine blk_drew ?_ | refine blk_alloc ?_ _)); refine blk_far ?_ NB1235_1236.out _; (with_reducible repeat (first | refine blk_drewN ?_ _ | refine blk_drew ?_ | refine blk_alloc ?_ _)); refine blk_far ?_ NB1235_1236.out _; (with_reducible repeat (first | refine blk_drewN ?_ _ | refine blk_drew ?_ | refine blk_alloc ?_ _)); refine blk_far ?_ NB1235_1236.out _; (with_reducible repeat (first | refine blk_drewN ?_ _ | refine blk_drew ?_ | refine blk_alloc ?_ _)); refine blk_far ?_ NB1235_1236.out _; (with_reducible repeat (first | refine blk_drewN ?_ _ | refine blk_drew ?_ | refine blk_alloc ?_ _)); exact BK1235.out) Tryd.underlying84 rfl (by kernel_rfl)) rfl ?_
 exact ⟨rf, bl⟩

end Go.Proofs.YtiinmfjbildclaaDoor.All
