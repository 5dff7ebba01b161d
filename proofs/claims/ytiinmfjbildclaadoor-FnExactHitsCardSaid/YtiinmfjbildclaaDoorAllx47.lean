-- Written by a program of this session (wip/tools/hprint.py) out of the translation. Lean checks it.
import Derived.Test.YtiinmfjbildclaaDoorAllx0
import Derived.Test.YtiinmfjbildclaaDoorAllx21
import Derived.Test.YtiinmfjbildclaaDoorAllx35
namespace Go.Proofs.YtiinmfjbildclaaDoor.All
open Go.RowKit Go.Proofs.YtiinmfjbildclaaDoorW.PrintWords Go.Proofs.YtiinmfjbildclaaDoorW.PrintLast Go.Proofs.YtiinmfjbildclaaDoorW.PrintMore
attribute [local go_sem] max2_int min2_int max_two min_two max_three min_three max_four min_four   -- for this text's walks alone
set_option linter.unusedVariables false
set_option linter.unusedSimpArgs false

/-! ### laws_szStringS: function 136 -/
def laws_szStringS.l0 : Nat → List ByteArray → Int → Int → Option (Int)
 | 0, _, _, _ => none
 | k + 1, x0, x1, x5 => if x5 < (x0.length : Int) then (if 0 ≤ x5 then (if (wrap64 (x1 - ((rdOf ByteArray.empty x0 x5).size : Int))) < 0 then (some (-1)) else (laws_szStringS.l0 k x0 (wrap64 (x1 - ((rdOf ByteArray.empty x0 x5).size : Int))) (wrap64 (x5 + 1)))) else (none)) else (some x1)
def laws_szStringS.f (k : Nat) (l0 : List ByteArray) (a1 : Int) : Option (Int) := if (wrap64 (a1 - (l0.length : Int))) < 0 then (some (-1)) else (laws_szStringS.l0 k l0 (wrap64 (a1 - (l0.length : Int))) 0)
theorem laws_szStringS.mono_l : ∀ k, (∀ y0 y1 y2, LeO (laws_szStringS.l0 k y0 y1 y2) (laws_szStringS.l0 (k + 1) y0 y1 y2))
 | 0 => fun _ _ _ r h => by simp [laws_szStringS.l0] at h
 | k + 1 => by
  have ih0 := laws_szStringS.mono_l k
  ·intro y0 y1 y2
   unfold laws_szStringS.l0
   repeat' first
   | (with_reducible exact ih0 _ _ _)
   | (with_reducible exact LeO.refl _)
   | (with_reducible exact LeO.none _)
   | (with_reducible refine LeO.ite ?_ ?_)
   | (with_reducible refine LeO.bind ?_ (fun _ => ?_))
   | exact ih0 _ _ _
   | exact LeO.none _
   | refine LeO.ite ?_ ?_
   | refine LeO.bind ?_ (fun _ => ?_)
theorem laws_szStringS.mono : ∀ a0 a1 k, LeO (laws_szStringS.f k a0 a1) (laws_szStringS.f (k + 1) a0 a1) := by
 intro a0 a1 k
 have ih0 := laws_szStringS.mono_l k
 unfold laws_szStringS.f
 repeat' first
   | (with_reducible exact ih0 _ _ _)
   | (with_reducible exact LeO.refl _)
   | (with_reducible exact LeO.none _)
   | (with_reducible refine LeO.ite ?_ ?_)
   | (with_reducible refine LeO.bind ?_ (fun _ => ?_))
   | exact ih0 _ _ _
   | exact LeO.none _
   | refine LeO.ite ?_ ?_
   | refine LeO.bind ?_ (fun _ => ?_)
set_option maxHeartbeats 8000000 in
set_option maxRecDepth 100000 in
theorem laws_szStringS.calls (k : Nat) (A0 : Option Addr) (c0 : Nat) (l0 : List ByteArray) (a1 : Int) (r : Int) (w : World) (hr0 : Kd.C Kd.string w A0 l0.length l0) (hc0 : l0.length ≤ c0) (h : laws_szStringS.f k l0 a1 = some r) :
  Calls Tryd.prog 136 #[.slice A0 l0.length c0, .int .i64 a1] w fun e w' => e = .returned (.int .i64 r) ∧ Drawn0 w w' := by
 have HR0 := am hr0
 have HC0 := am hc0
 clear hr0 hc0
 have H : (if (wrap64 (a1 - (l0.length : Int))) < 0 then (some (-1)) else (laws_szStringS.l0 k l0 (wrap64 (a1 - (l0.length : Int))) 0)) = some r := h
 clear h
 by_cases c3 : (wrap64 (a1 - (l0.length : Int))) < 0
 ·rw [if_pos c3] at H
  have c3b0 : decide ((wrap64 (a1 - (l0.length : Int))) < 0) = true := decide_eq_true c3
  clear c3
  obtain rfl := Option.some.inj H
  go_enter Tryd.func136, Tryd.ntmps136
  go_wp2
  go_ret
  exact ⟨rs, dr⟩
 ·rw [if_neg c3] at H
  have c3b0 : decide ((wrap64 (a1 - (l0.length : Int))) < 0) = false := decide_eq_false c3
  clear c3
  have H' := am H
  clear H
  go_enter Tryd.func136, Tryd.ntmps136
  go_wp2
  (try simp only [Act.put, List.setIfInBounds_toArray, List.set_cons_zero, List.set_cons_succ])
  go_loopg [1, 5] k (fun kq v1 v5 w' => ∃ (x1_1 : Int) (x5_1 : Int), v1 = .int .i64 x1_1 ∧ v5 = .int .i64 x5_1 ∧ Aside0 (laws_szStringS.l0 kq l0 x1_1 x5_1 = some r) ∧ Aside0 (kq ≤ k) ∧ Drawn0 w w')
  case atStart => exact ⟨(wrap64 (a1 - (l0.length : Int))), (0), rs, rs, H', ⟨Nat.le_refl _⟩, dr⟩
  case round =>
   clear H'
   try clear c1
   try clear p2
   try clear c3
   try clear c3b0
   obtain ⟨x1_1, x5_1, rfl, rfl, HA, HK1, ⟨m1, rfl⟩⟩ := hrel
   cases gk with
   | zero => exact absurd HA.out (by simp [laws_szStringS.l0])
   | succ k1 =>
    have H := HA.out
    clear HA
    simp only [laws_szStringS.l0] at H
    by_cases c4 : x5_1 < (l0.length : Int)
    ·rw [if_pos c4] at H
     have c4b0 : decide (x5_1 < (l0.length : Int)) = true := decide_eq_true c4
     clear c4
     by_cases c5 : 0 ≤ x5_1
     ·rw [if_pos c5] at H
      have c5b0 : decide (0 ≤ x5_1) = true := decide_eq_true c5
      clear c5
      by_cases c6 : (wrap64 (x1_1 - ((rdOf ByteArray.empty l0 x5_1).size : Int))) < 0
      ·rw [if_pos c6] at H
       have c6b0 : decide ((wrap64 (x1_1 - ((rdOf ByteArray.empty l0 x5_1).size : Int))) < 0) = true := decide_eq_true c6
       clear c6
       obtain rfl := Option.some.inj H
       have p1121 : 0 ≤ (x5_1 : Int) := od
       have q1121 : x5_1 < (l0.length : Int) := od
       obtain ⟨ad1121, e1121, hx1121_0⟩ := Kd.at_string HR0.out x5_1 p1121 q1121
       cases e1121
       replace p1121 := eq_true p1121
       replace q1121 := eq_true q1121
       go_wp2
       go_ret
       exact ⟨rs, dr⟩
      ·rw [if_neg c6] at H
       have c6b0 : decide ((wrap64 (x1_1 - ((rdOf ByteArray.empty l0 x5_1).size : Int))) < 0) = false := decide_eq_false c6
       clear c6
       have H' := am H
       clear H
       have p1121 : 0 ≤ (x5_1 : Int) := od
       have q1121 : x5_1 < (l0.length : Int) := od
       obtain ⟨ad1121, e1121, hx1121_0⟩ := Kd.at_string HR0.out x5_1 p1121 q1121
       cases e1121
       replace p1121 := eq_true p1121
       replace q1121 := eq_true q1121
       go_wp2
       go_roundg k1
       case measure => have := HK1.out; omega
       case rel => exact ⟨(wrap64 (x1_1 - ((rdOf ByteArray.empty l0 x5_1).size : Int))), (wrap64 (x5_1 + 1)), rs, rs, H', ⟨by have := HK1.out; omega⟩, dr⟩
     ·rw [if_neg c5] at H
      exact absurd H (by simp)
    ·rw [if_neg c4] at H
     have c4b0 : decide (x5_1 < (l0.length : Int)) = false := decide_eq_false c4
     clear c4
     obtain rfl := Option.some.inj H
     go_wp2
     go_ret
     exact ⟨rs, dr⟩

/-! ### laws_szObj: function 59 -/
def laws_szObj.f (k : Nat) (a0_0 : ByteArray) (l0_1 : List ByteArray) (l0_2 : List ByteArray) (a0_3 : Int) (l0_4 : List (S113)) (a0_5 : ByteArray) (a0_6 : Int) (a1 : Int) : Option (Int) := if (wrap64 (a1 - (a0_0.size : Int))) < 0 then (some (-1)) else ((laws_szStringS.f k l0_1 (wrap64 (a1 - (a0_0.size : Int)))).bind fun t1123 => (if t1123 < 0 then (some (-1)) else ((laws_szStringS.f k l0_2 t1123).bind fun t1124 => (if t1124 < 0 then (some (-1)) else ((laws_szResp.f k a0_3 l0_4 a0_5 t1124).bind fun t1125 => (if t1125 < 0 then (some (-1)) else (some t1125)))))))
theorem laws_szObj.mono : ∀ a0 a1 a2 a3 a4 a5 a6 a7 k, LeO (laws_szObj.f k a0 a1 a2 a3 a4 a5 a6 a7) (laws_szObj.f (k + 1) a0 a1 a2 a3 a4 a5 a6 a7) := by
 intro a0 a1 a2 a3 a4 a5 a6 a7 k
 unfold laws_szObj.f
 repeat' first
   | (with_reducible exact laws_szResp.mono _ _ _ _ _)
   | (with_reducible exact laws_szStringS.mono _ _ _)
   | (with_reducible exact LeO.refl _)
   | (with_reducible exact LeO.none _)
   | (with_reducible refine LeO.ite ?_ ?_)
   | (with_reducible refine LeO.bind ?_ (fun _ => ?_))
   | exact laws_szResp.mono _ _ _ _ _
   | exact laws_szStringS.mono _ _ _
   | exact LeO.none _
   | refine LeO.ite ?_ ?_
   | refine LeO.bind ?_ (fun _ => ?_)
set_option maxHeartbeats 8000000 in
set_option maxRecDepth 100000 in
theorem laws_szObj.calls (k : Nat) (a0_0 : ByteArray) (A0_1 : Option Addr) (c0_1 : Nat) (l0_1 : List ByteArray) (A0_2 : Option Addr) (c0_2 : Nat) (l0_2 : List ByteArray) (a0_3 : Int) (A0_4 : Option Addr) (c0_4 : Nat) (l0_4 : List (S113)) (a0_5 : ByteArray) (a0_6 : Int) (a1 : Int) (r : Int) (w : World) (hr0_1 : Kd.C Kd.string w A0_1 l0_1.length l0_1) (hc0_1 : l0_1.length ≤ c0_1) (hr0_2 : Kd.C Kd.string w A0_2 l0_2.length l0_2) (hc0_2 : l0_2.length ≤ c0_2) (hr0_4 : Kd.C k113 w A0_4 l0_4.length l0_4) (hc0_4 : l0_4.length ≤ c0_4) (h : laws_szObj.f k a0_0 l0_1 l0_2 a0_3 l0_4 a0_5 a0_6 a1 = some r) :
  Calls Tryd.prog 59 #[.agg #[.string a0_0, .slice A0_1 l0_1.length c0_1, .slice A0_2 l0_2.length c0_2, .int .i64 a0_3, .slice A0_4 l0_4.length c0_4, .string a0_5, .int .i64 a0_6], .int .i64 a1] w fun e w' => e = .returned (.int .i64 r) ∧ Below w.heap.size w w' := by
 have hu72 := Tryd.underlying72
 have hu51 := Tryd.underlying51
 have HR0_1 := am hr0_1
 have HC0_1 := am hc0_1
 clear hr0_1 hc0_1
 have HR0_2 := am hr0_2
 have HC0_2 := am hc0_2
 clear hr0_2 hc0_2
 have HR0_4 := am hr0_4
 have HC0_4 := am hc0_4
 clear hr0_4 hc0_4
 have HB := am (Below.refl w.heap.size w)
 have H : (if (wrap64 (a1 - (a0_0.size : Int))) < 0 then (some (-1)) else ((laws_szStringS.f k l0_1 (wrap64 (a1 - (a0_0.size : Int)))).bind fun t1123 => (if t1123 < 0 then (some (-1)) else ((laws_szStringS.f k l0_2 t1123).bind fun t1124 => (if t1124 < 0 then (some (-1)) else ((laws_szResp.f k a0_3 l0_4 a0_5 t1124).bind fun t1125 => (if t1125 < 0 then (some (-1)) else (some t1125)))))))) = some r := h
 clear h
 by_cases c3 : (wrap64 (a1 - (a0_0.size : Int))) < 0
 ·rw [if_pos c3] at H
  have c3b0 : decide ((wrap64 (a1 - (a0_0.size : Int))) < 0) = true := decide_eq_true c3
  clear c3
  obtain rfl := Option.some.inj H
  go_enter Tryd.func59, Tryd.ntmps59
  go_wp2_with (first | ((with_reducible refine gate_dst (N := 2) rfl ?_); refine box_event ?hg (N := 2) ?hd (cs := #[.string a0_0, .slice A0_1 l0_1.length c0_1, .slice A0_2 l0_2.length c0_2, .int .i64 a0_3, .slice A0_4 l0_4.length c0_4, .string a0_5, .int .i64 a0_6]) (t := 72) ?hr ?_; (case hd => rfl); (case hg => rfl); (case hr => first | (go_simp; done) | (go_simp; rfl)); intro gb1122 hg w4 hbox hb; have n0_ := am (below_step bl hb); have n1_ := am (hbox); have n2_ := am (sz hg : w.heap.size ≤ gb1122); have n3_ := am (sz hg : w.heap.size ≤ gb1122); clear HB; have HB := n0_; have BK1122 := n1_; have GW1122 := n2_; have GE1122 := n3_; clear n0_ n1_ n2_ n3_; clear hb hbox hg; have hcz5_0 : w4.cell? ⟨gb1122, 0, none⟩ = some (.string a0_0) := bc BK1122; have hcz5_1 : w4.cell? ⟨gb1122, 1, none⟩ = some (.slice A0_1 l0_1.length c0_1) := bc BK1122; have hcz5_2 : w4.cell? ⟨gb1122, 2, none⟩ = some (.slice A0_2 l0_2.length c0_2) := bc BK1122; have hcz5_3 : w4.cell? ⟨gb1122, 3, none⟩ = some (.int .i64 a0_3) := bc BK1122; have hcz5_4 : w4.cell? ⟨gb1122, 4, none⟩ = some (.slice A0_4 l0_4.length c0_4) := bc BK1122; have hcz5_5 : w4.cell? ⟨gb1122, 5, none⟩ = some (.string a0_5) := bc BK1122; have hcz5_6 : w4.cell? ⟨gb1122, 6, none⟩ = some (.int .i64 a0_6) := bc BK1122; have hfz5_0 := blk_frozen BK1122.out 0; have hfz5_1 := blk_frozen BK1122.out 1; have hfz5_2 := blk_frozen BK1122.out 2; have hfz5_3 := blk_frozen BK1122.out 3; have hfz5_4 := blk_frozen BK1122.out 4; have hfz5_5 := blk_frozen BK1122.out 5; have hfz5_6 := blk_frozen BK1122.out 6))
  go_ret
  exact ⟨rf, bl⟩
 ·rw [if_neg c3] at H
  have c3b0 : decide ((wrap64 (a1 - (a0_0.size : Int))) < 0) = false := decide_eq_false c3
  clear c3
  replace H := ob H
  obtain ⟨t1123, A60, H⟩ := H
  replace H : (if t1123 < 0 then (some (-1)) else ((laws_szStringS.f k l0_2 t1123).bind fun t1124 => (if t1124 < 0 then (some (-1)) else ((laws_szResp.f k a0_3 l0_4 a0_5 t1124).bind fun t1125 => (if t1125 < 0 then (some (-1)) else (some t1125)))))) = some r := H
  have A6 := am A60
  clear A60
  by_cases c7 : t1123 < 0
  ·rw [if_pos c7] at H
   have c7b0 : decide (t1123 < 0) = true := decide_eq_true c7
   clear c7
   obtain rfl := Option.some.inj H
   go_enter Tryd.func59, Tryd.ntmps59
   go_wp2_with (first | ((with_reducible refine gate_dst (N := 2) rfl ?_); refine box_event ?hg (N := 2) ?hd (cs := #[.string a0_0, .slice A0_1 l0_1.length c0_1, .slice A0_2 l0_2.length c0_2, .int .i64 a0_3, .slice A0_4 l0_4.length c0_4, .string a0_5, .int .i64 a0_6]) (t := 72) ?hr ?_; (case hd => rfl); (case hg => rfl); (case hr => first | (go_simp; done) | (go_simp; rfl)); intro gb1122 hg w8 hbox hb; have n0_ := am (below_step bl hb); have n1_ := am (hbox); have n2_ := am (sz hg : w.heap.size ≤ gb1122); have n3_ := am (sz hg : w.heap.size ≤ gb1122); clear HB; have HB := n0_; have BK1122 := n1_; have GW1122 := n2_; have GE1122 := n3_; clear n0_ n1_ n2_ n3_; clear hb hbox hg; have hcz9_0 : w8.cell? ⟨gb1122, 0, none⟩ = some (.string a0_0) := bc BK1122; have hcz9_1 : w8.cell? ⟨gb1122, 1, none⟩ = some (.slice A0_1 l0_1.length c0_1) := bc BK1122; have hcz9_2 : w8.cell? ⟨gb1122, 2, none⟩ = some (.slice A0_2 l0_2.length c0_2) := bc BK1122; have hcz9_3 : w8.cell? ⟨gb1122, 3, none⟩ = some (.int .i64 a0_3) := bc BK1122; have hcz9_4 : w8.cell? ⟨gb1122, 4, none⟩ = some (.slice A0_4 l0_4.length c0_4) := bc BK1122; have hcz9_5 : w8.cell? ⟨gb1122, 5, none⟩ = some (.string a0_5) := bc BK1122; have hcz9_6 : w8.cell? ⟨gb1122, 6, none⟩ = some (.int .i64 a0_6) := bc BK1122; have hfz9_0 := blk_frozen BK1122.out 0; have hfz9_1 := blk_frozen BK1122.out 1; have hfz9_2 := blk_frozen BK1122.out 2; have hfz9_3 := blk_frozen BK1122.out 3; have hfz9_4 := blk_frozen BK1122.out 4; have hfz9_5 := blk_frozen BK1122.out 5; have hfz9_6 := blk_frozen BK1122.out 6) | ((with_reducible refine gate_callee (f := 136) rfl ?_); refine goesL_ (some 15) rfl rfl Tryd.func136 (by kernel_rfl) rfl #[.slice A0_1 l0_1.length c0_1, .int .i64 (wrap64 (a1 - (a0_0.size : Int)))] rfl ma ?_; (with_reducible refine (laws_szStringS.calls k _ _ l0_1 (wrap64 (a1 - (a0_0.size : Int))) t1123 _ ?side1 ?side2 A6.out).mono ?_); (case side1 => exact cb HR0_1); (case side2 => exact HC0_1.out); rintro e w' ⟨rfl, ⟨nd, rfl⟩⟩; refine ⟨_, rfl, ?_⟩))
   go_ret
   exact ⟨rf, bl⟩
  ·rw [if_neg c7] at H
   have c7b0 : decide (t1123 < 0) = false := decide_eq_false c7
   clear c7
   replace H := ob H
   obtain ⟨t1124, A100, H⟩ := H
   replace H : (if t1124 < 0 then (some (-1)) else ((laws_szResp.f k a0_3 l0_4 a0_5 t1124).bind fun t1125 => (if t1125 < 0 then (some (-1)) else (some t1125)))) = some r := H
   have A10 := am A100
   clear A100
   by_cases c11 : t1124 < 0
   ·rw [if_pos c11] at H
    have c11b0 : decide (t1124 < 0) = true := decide_eq_true c11
    clear c11
    obtain rfl := Option.some.inj H
    go_enter Tryd.func59, Tryd.ntmps59
    go_wp2_with (first | ((with_reducible refine gate_dst (N := 2) rfl ?_); refine box_event ?hg (N := 2) ?hd (cs := #[.string a0_0, .slice A0_1 l0_1.length c0_1, .slice A0_2 l0_2.length c0_2, .int .i64 a0_3, .slice A0_4 l0_4.length c0_4, .string a0_5, .int .i64 a0_6]) (t := 72) ?hr ?_; (case hd => rfl); (case hg => rfl); (case hr => first | (go_simp; done) | (go_simp; rfl)); intro gb1122 hg w12 hbox hb; have n0_ := am (below_step bl hb); have n1_ := am (hbox); have n2_ := am (sz hg : w.heap.size ≤ gb1122); have n3_ := am (sz hg : w.heap.size ≤ gb1122); clear HB; have HB := n0_; have BK1122 := n1_; have GW1122 := n2_; have GE1122 := n3_; clear n0_ n1_ n2_ n3_; clear hb hbox hg; have hcz13_0 : w12.cell? ⟨gb1122, 0, none⟩ = some (.string a0_0) := bc BK1122; have hcz13_1 : w12.cell? ⟨gb1122, 1, none⟩ = some (.slice A0_1 l0_1.length c0_1) := bc BK1122; have hcz13_2 : w12.cell? ⟨gb1122, 2, none⟩ = some (.slice A0_2 l0_2.length c0_2) := bc BK1122; have hcz13_3 : w12.cell? ⟨gb1122, 3, none⟩ = some (.int .i64 a0_3) := bc BK1122; have hcz13_4 : w12.cell? ⟨gb1122, 4, none⟩ = some (.slice A0_4 l0_4.length c0_4) := bc BK1122; have hcz13_5 : w12.cell? ⟨gb1122, 5, none⟩ = some (.string a0_5) := bc BK1122; have hcz13_6 : w12.cell? ⟨gb1122, 6, none⟩ = some (.int .i64 a0_6) := bc BK1122; have hfz13_0 := blk_frozen BK1122.out 0; have hfz13_1 := blk_frozen BK1122.out 1; have hfz13_2 := blk_frozen BK1122.out 2; have hfz13_3 := blk_frozen BK1122.out 3; have hfz13_4 := blk_frozen BK1122.out 4; have hfz13_5 := blk_frozen BK1122.out 5; have hfz13_6 := blk_frozen BK1122.out 6) | ((with_reducible refine gate_callee (f := 136) rfl ?_); refine goesL_ (some 15) rfl rfl Tryd.func136 (by kernel_rfl) rfl #[.slice A0_1 l0_1.length c0_1, .int .i64 (wrap64 (a1 - (a0_0.size : Int)))] rfl ma ?_; (with_reducible refine (laws_szStringS.calls k _ _ l0_1 (wrap64 (a1 - (a0_0.size : Int))) t1123 _ ?side1 ?side2 A6.out).mono ?_); (case side1 => exact cb HR0_1); (case side2 => exact HC0_1.out); rintro e w' ⟨rfl, ⟨nd, rfl⟩⟩; refine ⟨_, rfl, ?_⟩) | ((with_reducible refine gate_callee (f := 136) rfl ?_); refine goesL_ (some 21) rfl rfl Tryd.func136 (by kernel_rfl) rfl #[.slice A0_2 l0_2.length c0_2, .int .i64 t1123] rfl ma ?_; (with_reducible refine (laws_szStringS.calls k _ _ l0_2 t1123 t1124 _ ?side1 ?side2 A10.out).mono ?_); (case side1 => repeat (first | exact (Kd.C_below HR0_2.out bl) | (with_reducible refine Kd.C_alloc ?_ _) | (with_reducible refine Kd.C_drewN ?_ _) | (with_reducible refine Kd.C_drew ?_))); (case side2 => exact HC0_2.out); rintro e w' ⟨rfl, ⟨nd, rfl⟩⟩; refine ⟨_, rfl, ?_⟩))
    go_ret
    exact ⟨rf, bl⟩
   ·rw [if_neg c11] at H
    have c11b0 : decide (t1124 < 0) = false := decide_eq_false c11
    clear c11
    replace H := ob H
    obtain ⟨t1125, A140, H⟩ := H
    replace H : (if t1125 < 0 then (some (-1)) else (some t1125)) = some r := H
    have A14 := am A140
    clear A140
    by_cases c15 : t1125 < 0
    ·rw [if_pos c15] at H
     have c15b0 : decide (t1125 < 0) = true := decide_eq_true c15
     clear c15
     obtain rfl := Option.some.inj H
     go_enter Tryd.func59, Tryd.ntmps59
     go_wp2_with (first | ((with_reducible refine gate_dst (N := 2) rfl ?_); refine box_event ?hg (N := 2) ?hd (cs := #[.string a0_0, .slice A0_1 l0_1.length c0_1, .slice A0_2 l0_2.length c0_2, .int .i64 a0_3, .slice A0_4 l0_4.length c0_4, .string a0_5, .int .i64 a0_6]) (t := 72) ?hr ?_; (case hd => rfl); (case hg => rfl); (case hr => first | (go_simp; done) | (go_simp; rfl)); intro gb1122 hg w16 hbox hb; have n0_ := am (below_step bl hb); have n1_ := am (hbox); have n2_ := am (sz hg : w.heap.size ≤ gb1122); have n3_ := am (sz hg : w.heap.size ≤ gb1122); clear HB; have HB := n0_; have BK1122 := n1_; have GW1122 := n2_; have GE1122 := n3_; clear n0_ n1_ n2_ n3_; clear hb hbox hg; have hcz17_0 : w16.cell? ⟨gb1122, 0, none⟩ = some (.string a0_0) := bc BK1122; have hcz17_1 : w16.cell? ⟨gb1122, 1, none⟩ = some (.slice A0_1 l0_1.length c0_1) := bc BK1122; have hcz17_2 : w16.cell? ⟨gb1122, 2, none⟩ = some (.slice A0_2 l0_2.length c0_2) := bc BK1122; have hcz17_3 : w16.cell? ⟨gb1122, 3, none⟩ = some (.int .i64 a0_3) := bc BK1122; have hcz17_4 : w16.cell? ⟨gb1122, 4, none⟩ = some (.slice A0_4 l0_4.length c0_4) := bc BK1122; have hcz17_5 : w16.cell? ⟨gb1122, 5, none⟩ = some (.string a0_5) := bc BK1122; have hcz17_6 : w16.cell? ⟨gb1122, 6, none⟩ = some (.int .i64 a0_6) := bc BK1122; have hfz17_0 := blk_frozen BK1122.out 0; have hfz17_1 := blk_frozen BK1122.out 1; have hfz17_2 := blk_frozen BK1122.out 2; have hfz17_3 := blk_frozen BK1122.out 3; have hfz17_4 := blk_frozen BK1122.out 4; have hfz17_5 := blk_frozen BK1122.out 5; have hfz17_6 := blk_frozen BK1122.out 6) | ((with_reducible refine gate_callee (f := 136) rfl ?_); refine goesL_ (some 15) rfl rfl Tryd.func136 (by kernel_rfl) rfl #[.slice A0_1 l0_1.length c0_1, .int .i64 (wrap64 (a1 - (a0_0.size : Int)))] rfl ma ?_; (with_reducible refine (laws_szStringS.calls k _ _ l0_1 (wrap64 (a1 - (a0_0.size : Int))) t1123 _ ?side1 ?side2 A6.out).mono ?_); (case side1 => exact cb HR0_1); (case side2 => exact HC0_1.out); rintro e w' ⟨rfl, ⟨nd, rfl⟩⟩; refine ⟨_, rfl, ?_⟩) | ((with_reducible refine gate_callee (f := 136) rfl ?_); refine goesL_ (some 21) rfl rfl Tryd.func136 (by kernel_rfl) rfl #[.slice A0_2 l0_2.length c0_2, .int .i64 t1123] rfl ma ?_; (with_reducible refine (laws_szStringS.calls k _ _ l0_2 t1123 t1124 _ ?side1 ?side2 A10.out).mono ?_); (case side1 => repeat (first | exact (Kd.C_below HR0_2.out bl) | (with_reducible refine Kd.C_alloc ?_ _) | (with_reducible refine Kd.C_drewN ?_ _) | (with_reducible refine Kd.C_drew ?_))); (case side2 => exact HC0_2.out); rintro e w' ⟨rfl, ⟨nd, rfl⟩⟩; refine ⟨_, rfl, ?_⟩) | ((with_reducible refine gate_callee (f := 41) rfl ?_); refine goesL_ (some 27) rfl rfl Tryd.func41 (by kernel_rfl) rfl #[.agg #[.int .i64 a0_3, .slice A0_4 l0_4.length c0_4, .string a0_5], .int .i64 t1124] rfl ma ?_; (with_reducible refine (laws_szResp.calls k a0_3 _ _ l0_4 a0_5 t1124 t1125 _ ?side1 ?side2 A14.out).mono ?_); (case side1 => repeat (first | exact (Kd.C_below HR0_4.out bl) | (with_reducible refine Kd.C_alloc ?_ _) | (with_reducible refine Kd.C_drewN ?_ _) | (with_reducible refine Kd.C_drew ?_))); (case side2 => exact HC0_4.out); rintro e w18 ⟨rfl, hb⟩; refine ⟨_, rfl, ?_⟩; replace BK1122 := kb BK1122 hb; replace HB := am (below_step bl hb); (try clear hb); (try clear hb2); (try clear hk); (try clear hi)))
     go_ret
     exact ⟨rf, bl⟩
    ·rw [if_neg c15] at H
     have c15b0 : decide (t1125 < 0) = false := decide_eq_false c15
     clear c15
     obtain rfl := Option.some.inj H
     go_enter Tryd.func59, Tryd.ntmps59
     go_wp2_with (first | ((with_reducible refine gate_dst (N := 2) rfl ?_); refine box_event ?hg (N := 2) ?hd (cs := #[.string a0_0, .slice A0_1 l0_1.length c0_1, .slice A0_2 l0_2.length c0_2, .int .i64 a0_3, .slice A0_4 l0_4.length c0_4, .string a0_5, .int .i64 a0_6]) (t := 72) ?hr ?_; (case hd => rfl); (case hg => rfl); (case hr => first | (go_simp; done) | (go_simp; rfl)); intro gb1122 hg w19 hbox hb; have n0_ := am (below_step bl hb); have n1_ := am (hbox); have n2_ := am (sz hg : w.heap.size ≤ gb1122); have n3_ := am (sz hg : w.heap.size ≤ gb1122); clear HB; have HB := n0_; have BK1122 := n1_; have GW1122 := n2_; have GE1122 := n3_; clear n0_ n1_ n2_ n3_; clear hb hbox hg; have hcz20_0 : w19.cell? ⟨gb1122, 0, none⟩ = some (.string a0_0) := bc BK1122; have hcz20_1 : w19.cell? ⟨gb1122, 1, none⟩ = some (.slice A0_1 l0_1.length c0_1) := bc BK1122; have hcz20_2 : w19.cell? ⟨gb1122, 2, none⟩ = some (.slice A0_2 l0_2.length c0_2) := bc BK1122; have hcz20_3 : w19.cell? ⟨gb1122, 3, none⟩ = some (.int .i64 a0_3) := bc BK1122; have hcz20_4 : w19.cell? ⟨gb1122, 4, none⟩ = some (.slice A0_4 l0_4.length c0_4) := bc BK1122; have hcz20_5 : w19.cell? ⟨gb1122, 5, none⟩ = some (.string a0_5) := bc BK1122; have hcz20_6 : w19.cell? ⟨gb1122, 6, none⟩ = some (.int .i64 a0_6) := bc BK1122; have hfz20_0 := blk_frozen BK1122.out 0; have hfz20_1 := blk_frozen BK1122.out 1; have hfz20_2 := blk_frozen BK1122.out 2; have hfz20_3 := blk_frozen BK1122.out 3; have hfz20_4 := blk_frozen BK1122.out 4; have hfz20_5 := blk_frozen BK1122.out 5; have hfz20_6 := blk_frozen BK1122.out 6) | ((with_reducible refine gate_callee (f := 136) rfl ?_); refine goesL_ (some 15) rfl rfl Tryd.func136 (by kernel_rfl) rfl #[.slice A0_1 l0_1.length c0_1, .int .i64 (wrap64 (a1 - (a0_0.size : Int)))] rfl ma ?_; (with_reducible refine (laws_szStringS.calls k _ _ l0_1 (wrap64 (a1 - (a0_0.size : Int))) t1123 _ ?side1 ?side2 A6.out).mono ?_); (case side1 => exact cb HR0_1); (case side2 => exact HC0_1.out); rintro e w' ⟨rfl, ⟨nd, rfl⟩⟩; refine ⟨_, rfl, ?_⟩) | ((with_reducible refine gate_callee (f := 136) rfl ?_); refine goesL_ (some 21) rfl rfl Tryd.func136 (by kernel_rfl) rfl #[.slice A0_2 l0_2.length c0_2, .int .i64 t1123] rfl ma ?_; (with_reducible refine (laws_szStringS.calls k _ _ l0_2 t1123 t1124 _ ?side1 ?side2 A10.out).mono ?_); (case side1 => repeat (first | exact (Kd.C_below HR0_2.out bl) | (with_reducible refine Kd.C_alloc ?_ _) | (with_reducible refine Kd.C_drewN ?_ _) | (with_reducible refine Kd.C_drew ?_))); (case side2 => exact HC0_2.out); rintro e w' ⟨rfl, ⟨nd, rfl⟩⟩; refine ⟨_, rfl, ?_⟩) | ((with_reducible refine gate_callee (f := 41) rfl ?_); refine goesL_ (some 27) rfl rfl Tryd.func41 (by kernel_rfl) rfl #[.agg #[.int .i64 a0_3, .slice A0_4 l0_4.length c0_4, .string a0_5], .int .i64 t1124] rfl ma ?_; (with_reducible refine (laws_szResp.calls k a0_3 _ _ l0_4 a0_5 t1124 t1125 _ ?side1 ?side2 A14.out).mono ?_); (case side1 => repeat (first | exact (Kd.C_below HR0_4.out bl) | (with_reducible refine Kd.C_alloc ?_ _) | (with_reducible refine Kd.C_drewN ?_ _) | (with_reducible refine Kd.C_drew ?_))); (case side2 => exact HC0_4.out); rintro e w21 ⟨rfl, hb⟩; refine ⟨_, rfl, ?_⟩; replace BK1122 := kb BK1122 hb; replace HB := am (below_step bl hb); (try clear hb); (try clear hb2); (try clear hk); (try clear hi)))
     go_ret
     exact ⟨rf, bl⟩

/-! ### spec_l9Names: function 139 -/
def spec_l9Names.l0 : Nat → List ByteArray → Int → Option (Bool)
 | 0, _, _ => none
 | k + 1, x0, x3 => if x3 < (x0.length : Int) then (if 0 ≤ x3 then ((spec_TokenOk.f k (rdOf ByteArray.empty x0 x3)).bind fun t1127 => (if t1127 = true then (spec_l9Names.l0 k x0 (wrap64 (x3 + 1))) else (some false))) else (none)) else (some (decide ((x0.length : Int) ≤ 4)))
def spec_l9Names.f (k : Nat) (l0 : List ByteArray) : Option (Bool) := spec_l9Names.l0 k l0 0
theorem spec_l9Names.mono_l : ∀ k, (∀ y0 y1, LeO (spec_l9Names.l0 k y0 y1) (spec_l9Names.l0 (k + 1) y0 y1))
 | 0 => fun _ _ r h => by simp [spec_l9Names.l0] at h
 | k + 1 => by
  have ih0 := spec_l9Names.mono_l k
  ·intro y0 y1
   unfold spec_l9Names.l0
   repeat' first
   | (with_reducible exact ih0 _ _)
   | (with_reducible exact spec_TokenOk.mono _ _)
   | (with_reducible exact LeO.refl _)
   | (with_reducible exact LeO.none _)
   | (with_reducible refine LeO.ite ?_ ?_)
   | (with_reducible refine LeO.bind ?_ (fun _ => ?_))
   | exact ih0 _ _
   | exact spec_TokenOk.mono _ _
   | exact LeO.none _
   | refine LeO.ite ?_ ?_
   | refine LeO.bind ?_ (fun _ => ?_)
theorem spec_l9Names.mono : ∀ a0 k, LeO (spec_l9Names.f k a0) (spec_l9Names.f (k + 1) a0) := by
 intro a0 k
 have ih0 := spec_l9Names.mono_l k
 unfold spec_l9Names.f
 repeat' first
   | (with_reducible exact ih0 _ _)
   | (with_reducible exact spec_TokenOk.mono _ _)
   | (with_reducible exact LeO.refl _)
   | (with_reducible exact LeO.none _)
   | (with_reducible refine LeO.ite ?_ ?_)
   | (with_reducible refine LeO.bind ?_ (fun _ => ?_))
   | exact ih0 _ _
   | exact spec_TokenOk.mono _ _
   | exact LeO.none _
   | refine LeO.ite ?_ ?_
   | refine LeO.bind ?_ (fun _ => ?_)
set_option maxHeartbeats 8000000 in
set_option maxRecDepth 100000 in
theorem spec_l9Names.calls (k : Nat) (A0 : Option Addr) (c0 : Nat) (l0 : List ByteArray) (r : Bool) (w : World) (hr0 : Kd.C Kd.string w A0 l0.length l0) (hc0 : l0.length ≤ c0) (h : spec_l9Names.f k l0 = some r) :
  Calls Tryd.prog 139 #[.slice A0 l0.length c0] w fun e w' => e = .returned (.bool r) ∧ Drawn0 w w' := by
 have HR0 := am hr0
 have HC0 := am hc0
 clear hr0 hc0
 have H : (spec_l9Names.l0 k l0 0) = some r := h
 clear h
 have H' := am H
 clear H
 go_enter Tryd.func139, Tryd.ntmps139
 go_wp2
 (try simp only [Act.put, List.setIfInBounds_toArray, List.set_cons_zero, List.set_cons_succ])
 go_loopg [3] k (fun kq v3 w' => ∃ (x3_1 : Int), v3 = .int .i64 x3_1 ∧ Aside0 (spec_l9Names.l0 kq l0 x3_1 = some r) ∧ Aside0 (kq ≤ k) ∧ Drawn0 w w')
 case atStart => exact ⟨(0), rs, H', ⟨Nat.le_refl _⟩, dr⟩
 case round =>
  clear H'
  try clear c1
  obtain ⟨x3_1, rfl, HA, HK1, ⟨m1, rfl⟩⟩ := hrel
  cases gk with
  | zero => exact absurd HA.out (by simp [spec_l9Names.l0])
  | succ k1 =>
   have H := HA.out
   clear HA
   simp only [spec_l9Names.l0] at H
   by_cases c2 : x3_1 < (l0.length : Int)
   ·rw [if_pos c2] at H
    have c2b0 : decide (x3_1 < (l0.length : Int)) = true := decide_eq_true c2
    clear c2
    by_cases c3 : 0 ≤ x3_1
    ·rw [if_pos c3] at H
     have c3b0 : decide (0 ≤ x3_1) = true := decide_eq_true c3
     clear c3
     replace H := ob H
     obtain ⟨t1127, A40, H⟩ := H
     replace H : (if t1127 = true then (spec_l9Names.l0 k1 l0 (wrap64 (x3_1 + 1))) else (some false)) = some r := H
     have A4 := am A40
     clear A40
     by_cases c5 : t1127 = true
     ·subst c5
      have H1 : (spec_l9Names.l0 k1 l0 (wrap64 (x3_1 + 1))) = some r := by rw [if_pos rfl] at H; exact H
      clear H
      have H := H1
      clear H1
      have H' := am H
      clear H
      have p1126 : 0 ≤ (x3_1 : Int) := od
      have q1126 : x3_1 < (l0.length : Int) := od
      obtain ⟨ad1126, e1126, hx1126_0⟩ := Kd.at_string HR0.out x3_1 p1126 q1126
      cases e1126
      replace p1126 := eq_true p1126
      replace q1126 := eq_true q1126
      go_wp2_with (first | ((with_reducible refine gate_callee (f := 181) rfl ?_); refine goesL_ (some 14) rfl rfl Tryd.func181 (by kernel_rfl) rfl #[.string (rdOf ByteArray.empty l0 x3_1)] rfl ma ?_; (with_reducible refine (spec_TokenOk.calls k1 (rdOf ByteArray.empty l0 x3_1) true _ A4.out).mono ?_); rintro e w' ⟨rfl, ⟨nd, rfl⟩⟩; refine ⟨_, rfl, ?_⟩))
      go_roundg k1
      case measure => have := HK1.out; omega
      case rel => exact ⟨(wrap64 (x3_1 + 1)), rs, H', ⟨by have := HK1.out; omega⟩, dr⟩
     ·replace c5 := Bool.eq_false_iff.mpr c5
      subst c5
      have H1 : (some false) = some r := by rw [if_neg (show ¬ (false = true) by decide)] at H; exact H
      clear H
      have H := H1
      clear H1
      obtain rfl := Option.some.inj H
      have p1126 : 0 ≤ (x3_1 : Int) := od
      have q1126 : x3_1 < (l0.length : Int) := od
      obtain ⟨ad1126, e1126, hx1126_0⟩ := Kd.at_string HR0.out x3_1 p1126 q1126
      cases e1126
      replace p1126 := eq_true p1126
      replace q1126 := eq_true q1126
      go_wp2_with (first | ((with_reducible refine gate_callee (f := 181) rfl ?_); refine goesL_ (some 14) rfl rfl Tryd.func181 (by kernel_rfl) rfl #[.string (rdOf ByteArray.empty l0 x3_1)] rfl ma ?_; (with_reducible refine (spec_TokenOk.calls k1 (rdOf ByteArray.empty l0 x3_1) false _ A4.out).mono ?_); rintro e w' ⟨rfl, ⟨nd, rfl⟩⟩; refine ⟨_, rfl, ?_⟩))
      go_ret
      exact ⟨rs, dr⟩
    ·rw [if_neg c3] at H
     exact absurd H (by simp)
   ·rw [if_neg c2] at H
    have c2b0 : decide (x3_1 < (l0.length : Int)) = false := decide_eq_false c2
    clear c2
    obtain rfl := Option.some.inj H
    go_wp2
    go_ret
    exact ⟨rs, dr⟩

end Go.Proofs.YtiinmfjbildclaaDoor.All
