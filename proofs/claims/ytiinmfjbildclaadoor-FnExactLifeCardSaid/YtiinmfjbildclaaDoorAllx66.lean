-- Written by a program of this session (wip/tools/hprint.py) out of the translation. Lean checks it.
import Derived.Test.YtiinmfjbildclaaDoorAllx0
import Derived.Test.YtiinmfjbildclaaDoorAllx3
import Derived.Test.YtiinmfjbildclaaDoorAllx6
import Derived.Test.YtiinmfjbildclaaDoorAllx14
import Derived.Test.YtiinmfjbildclaaDoorAllx52
namespace Go.Proofs.YtiinmfjbildclaaDoor.All
open Go.RowKit Go.Proofs.YtiinmfjbildclaaDoorW.PrintWords Go.Proofs.YtiinmfjbildclaaDoorW.PrintLast Go.Proofs.YtiinmfjbildclaaDoorW.PrintMore
attribute [local go_sem] max2_int min2_int max_two min_two max_three min_three max_four min_four   -- for this text's walks alone
set_option linter.unusedVariables false
set_option linter.unusedSimpArgs false

/-! ### spec_l6Age: function 159 -/
def spec_l6Age.f (k : Nat) (a0 : ByteArray) : Option (Int × Bool) := if (a0.size : Int) < 8 then (some (0, false)) else (if 0 ≤ 8 then (if 8 ≤ (a0.size : Int) then (if (a0.extract 0 8).toList = ([109, 97, 120, 45, 97, 103, 101, 61] : List UInt8) then ((spec_NumRead.f k (a0.extract 8 a0.size)).bind fun bt1593 => (some (bt1593.1, true))) else (some (0, false))) else (none)) else (none))
theorem spec_l6Age.mono : ∀ a0 k, LeO (spec_l6Age.f k a0) (spec_l6Age.f (k + 1) a0) := by
 intro a0 k
 unfold spec_l6Age.f
 repeat' first
   | (with_reducible exact spec_NumRead.mono _ _)
   | (with_reducible exact LeO.refl _)
   | (with_reducible exact LeO.none _)
   | (with_reducible refine LeO.ite ?_ ?_)
   | (with_reducible refine LeO.bind ?_ (fun _ => ?_))
   | exact spec_NumRead.mono _ _
   | exact LeO.none _
   | refine LeO.ite ?_ ?_
   | refine LeO.bind ?_ (fun _ => ?_)
set_option maxHeartbeats 8000000 in
set_option maxRecDepth 100000 in
theorem spec_l6Age.calls (k : Nat) (a0 : ByteArray) (r1 : Int) (r2 : Bool) (w : World) (h : spec_l6Age.f k a0 = some (r1, r2)) :
  Calls Tryd.prog 159 #[.string a0] w fun e w' => e = .returned (.tuple #[.int .i64 r1, .bool r2]) ∧ Below w.heap.size w w' := by
 have HB := am (Below.refl w.heap.size w)
 have H : (if (a0.size : Int) < 8 then (some (0, false)) else (if 0 ≤ 8 then (if 8 ≤ (a0.size : Int) then (if (a0.extract 0 8).toList = ([109, 97, 120, 45, 97, 103, 101, 61] : List UInt8) then ((spec_NumRead.f k (a0.extract 8 a0.size)).bind fun bt1593 => (some (bt1593.1, true))) else (some (0, false))) else (none)) else (none))) = some (r1, r2) := h
 clear h
 by_cases c2 : (a0.size : Int) < 8
 ·rw [if_pos c2] at H
  have c2b0 : decide ((a0.size : Int) < 8) = true := decide_eq_true c2
  have c2b1 : decide (a0.size < 8) = true := decide_eq_true (by omega)
  clear c2
  simp only [Option.some.injEq, Prod.mk.injEq] at H
  obtain ⟨rfl, rfl⟩ := H
  go_enter Tryd.func159, Tryd.ntmps159
  go_wp2
  go_ret2
  exact ⟨rf, bl⟩
 ·rw [if_neg c2] at H
  have c2b0 : decide ((a0.size : Int) < 8) = false := decide_eq_false c2
  have c2b1 : decide (a0.size < 8) = false := decide_eq_false (by omega)
  clear c2
  by_cases c3 : 0 ≤ 8
  ·rw [if_pos c3] at H
   have c3b0 := eq_true c3
   have c3b1 : decide (0 ≤ 8) = true := decide_eq_true c3
   clear c3
   by_cases c4 : 8 ≤ (a0.size : Int)
   ·rw [if_pos c4] at H
    have c4b0 := eq_true c4
    have c4b1 : decide (8 ≤ (a0.size : Int)) = true := decide_eq_true c4
    clear c4
    by_cases c5 : (a0.extract 0 8).toList = ([109, 97, 120, 45, 97, 103, 101, 61] : List UInt8)
    ·rw [if_pos c5] at H
     have c5b0 : ((a0.extract 0 8).toList == ([109, 97, 120, 45, 97, 103, 101, 61] : List UInt8)) = true := beq_iff_eq.mpr c5
     have c5b1 : ((a0.extract 0 8).toList != ([109, 97, 120, 45, 97, 103, 101, 61] : List UInt8)) = false := bne_eq_false_iff_eq.mpr c5
     clear c5
     have c6b0 := eq_true (od : 8 ≤ (a0.size : Int))
     replace H := ob H
     obtain ⟨⟨t1593, t1594⟩, A70, H⟩ := H
     replace H : (some (t1593, true)) = some (r1, r2) := H
     have A7 := am A70
     clear A70
     simp only [Option.some.injEq, Prod.mk.injEq] at H
     obtain ⟨rfl, rfl⟩ := H
     go_enter Tryd.func159, Tryd.ntmps159
     go_wp2_with (first | ((with_reducible refine gate_callee (f := 82) rfl ?_); refine goesL_ (some 25) rfl rfl Tryd.func82 (by kernel_rfl) rfl #[.string (a0.extract 8 a0.size)] rfl ma ?_; (with_reducible refine (spec_NumRead.calls k (a0.extract 8 a0.size) t1593 t1594 _ A7.out).mono ?_); rintro e w8 ⟨rfl, hb⟩; refine ⟨_, rfl, ?_⟩; replace HB := am (below_step bl hb); (try clear hb); (try clear hb2); (try clear hk); (try clear hi)))
     go_ret2
     exact ⟨rf, bl⟩
    ·rw [if_neg c5] at H
     have c5b0 : ((a0.extract 0 8).toList == ([109, 97, 120, 45, 97, 103, 101, 61] : List UInt8)) = false := beq_eq_false_iff_ne.mpr c5
     have c5b1 : ((a0.extract 0 8).toList != ([109, 97, 120, 45, 97, 103, 101, 61] : List UInt8)) = true := bne_iff_ne.mpr c5
     simp only [Option.some.injEq, Prod.mk.injEq] at H
     obtain ⟨rfl, rfl⟩ := H
     go_enter Tryd.func159, Tryd.ntmps159
     go_wp2
     go_ret2
     exact ⟨rf, bl⟩
   ·rw [if_neg c4] at H
    exact absurd H (by simp)
  ·rw [if_neg c3] at H
   exact absurd H (by simp)

/-! ### spec_CcRead: function 89 -/
mutual
def spec_CcRead.l0 : Nat → List ByteArray → Int → Bool → Bool → Bool → Bool → Bool → Int → Option (Bool × Bool × Bool × Bool × Bool × Int)
 | 0, _, _, _, _, _, _, _, _ => none
 | k + 1, x4, x5, x1597000, x1597001, x1597002, x1597003, x1597004, x1597005 => if x5 < (x4.length : Int) then (if 0 ≤ x5 then ((spec_Lower.f k (rdOf ByteArray.empty x4 x5)).bind fun t1601 => ((spec_l6Age.f k t1601).bind fun bt1602 => (if t1601.toList = ([110, 111, 45, 115, 116, 111, 114, 101] : List UInt8) then (spec_CcRead.l0 k x4 (wrap64 (x5 + 1)) true x1597001 x1597002 x1597003 x1597004 x1597005) else (if t1601.toList = ([110, 111, 45, 99, 97, 99, 104, 101] : List UInt8) then (spec_CcRead.l0 k x4 (wrap64 (x5 + 1)) x1597000 true x1597002 x1597003 x1597004 x1597005) else (if t1601.toList = ([112, 114, 105, 118, 97, 116, 101] : List UInt8) then (spec_CcRead.l0 k x4 (wrap64 (x5 + 1)) x1597000 x1597001 true x1597003 x1597004 x1597005) else (if t1601.toList = ([109, 117, 115, 116, 45, 114, 101, 118, 97, 108, 105, 100, 97, 116, 101] : List UInt8) then (spec_CcRead.l0 k x4 (wrap64 (x5 + 1)) x1597000 x1597001 x1597002 true x1597004 x1597005) else (if bt1602.2 = true then (spec_CcRead.j1 k x4 x5 bt1602.1 bt1602.2 x1597004 x1597000 x1597001 x1597002 x1597003 x1597004 x1597005) else (spec_CcRead.j1 k x4 x5 bt1602.1 bt1602.2 false x1597000 x1597001 x1597002 x1597003 x1597004 x1597005)))))))) else (none)) else (some (x1597000, x1597001, x1597002, x1597003, x1597004, x1597005))
def spec_CcRead.j1 : Nat → List ByteArray → Int → Int → Bool → Bool → Bool → Bool → Bool → Bool → Bool → Int → Option (Bool × Bool × Bool × Bool × Bool × Int)
 | 0, _, _, _, _, _, _, _, _, _, _, _ => none
 | k + 1, x4, x5, x7, x8, x44, x1597000, x1597001, x1597002, x1597003, x1597004, x1597005 => if x44 = true then ((spec_l1Min.f x1597005 x7).bind fun t1604 => (spec_CcRead.l0 k x4 (wrap64 (x5 + 1)) x1597000 x1597001 x1597002 x1597003 x1597004 t1604)) else (if x8 = true then (spec_CcRead.l0 k x4 (wrap64 (x5 + 1)) x1597000 x1597001 x1597002 x1597003 true x7) else (spec_CcRead.l0 k x4 (wrap64 (x5 + 1)) x1597000 x1597001 x1597002 x1597003 x1597004 x1597005))
end
def spec_CcRead.f (k : Nat) (a0 : ByteArray) : Option (Bool × Bool × Bool × Bool × Bool × Int) := (spec_Split.f k a0).bind fun t1597 => (spec_CcRead.l0 k t1597 0 false false false false false 0)
theorem spec_CcRead.mono_l : ∀ k, (∀ y0 y1 y2 y3 y4 y5 y6 y7, LeO (spec_CcRead.l0 k y0 y1 y2 y3 y4 y5 y6 y7) (spec_CcRead.l0 (k + 1) y0 y1 y2 y3 y4 y5 y6 y7)) ∧ (∀ y0 y1 y2 y3 y4 y5 y6 y7 y8 y9 y10, LeO (spec_CcRead.j1 k y0 y1 y2 y3 y4 y5 y6 y7 y8 y9 y10) (spec_CcRead.j1 (k + 1) y0 y1 y2 y3 y4 y5 y6 y7 y8 y9 y10))
 | 0 => ⟨fun _ _ _ _ _ _ _ _ r h => by simp [spec_CcRead.l0] at h, fun _ _ _ _ _ _ _ _ _ _ _ r h => by simp [spec_CcRead.j1] at h⟩
 | k + 1 => by
  obtain ⟨ih0, ih1⟩ := spec_CcRead.mono_l k
  refine ⟨?_, ?_⟩
  ·intro y0 y1 y2 y3 y4 y5 y6 y7
   unfold spec_CcRead.l0
   repeat' first
   | (with_reducible exact ih0 _ _ _ _ _ _ _ _)
   | (with_reducible exact ih1 _ _ _ _ _ _ _ _ _ _ _)
   | (with_reducible exact spec_Lower.mono _ _)
   | (with_reducible exact spec_Split.mono _ _)
   | (with_reducible exact spec_l6Age.mono _ _)
   | (with_reducible exact LeO.refl _)
   | (with_reducible exact LeO.none _)
   | (with_reducible refine LeO.ite ?_ ?_)
   | (with_reducible refine LeO.bind ?_ (fun _ => ?_))
   | exact ih0 _ _ _ _ _ _ _ _
   | exact ih1 _ _ _ _ _ _ _ _ _ _ _
   | exact spec_Lower.mono _ _
   | exact spec_Split.mono _ _
   | exact spec_l6Age.mono _ _
   | exact LeO.none _
   | refine LeO.ite ?_ ?_
   | refine LeO.bind ?_ (fun _ => ?_)
  ·intro y0 y1 y2 y3 y4 y5 y6 y7 y8 y9 y10
   unfold spec_CcRead.j1
   repeat' first
   | (with_reducible exact ih0 _ _ _ _ _ _ _ _)
   | (with_reducible exact ih1 _ _ _ _ _ _ _ _ _ _ _)
   | (with_reducible exact spec_Lower.mono _ _)
   | (with_reducible exact spec_Split.mono _ _)
   | (with_reducible exact spec_l6Age.mono _ _)
   | (with_reducible exact LeO.refl _)
   | (with_reducible exact LeO.none _)
   | (with_reducible refine LeO.ite ?_ ?_)
   | (with_reducible refine LeO.bind ?_ (fun _ => ?_))
   | exact ih0 _ _ _ _ _ _ _ _
   | exact ih1 _ _ _ _ _ _ _ _ _ _ _
   | exact spec_Lower.mono _ _
   | exact spec_Split.mono _ _
   | exact spec_l6Age.mono _ _
   | exact LeO.none _
   | refine LeO.ite ?_ ?_
   | refine LeO.bind ?_ (fun _ => ?_)
theorem spec_CcRead.mono : ∀ a0 k, LeO (spec_CcRead.f k a0) (spec_CcRead.f (k + 1) a0) := by
 intro a0 k
 obtain ⟨ih0, ih1⟩ := spec_CcRead.mono_l k
 unfold spec_CcRead.f
 repeat' first
   | (with_reducible exact ih0 _ _ _ _ _ _ _ _)
   | (with_reducible exact ih1 _ _ _ _ _ _ _ _ _ _ _)
   | (with_reducible exact spec_Lower.mono _ _)
   | (with_reducible exact spec_Split.mono _ _)
   | (with_reducible exact spec_l6Age.mono _ _)
   | (with_reducible exact LeO.refl _)
   | (with_reducible exact LeO.none _)
   | (with_reducible refine LeO.ite ?_ ?_)
   | (with_reducible refine LeO.bind ?_ (fun _ => ?_))
   | exact ih0 _ _ _ _ _ _ _ _
   | exact ih1 _ _ _ _ _ _ _ _ _ _ _
   | exact spec_Lower.mono _ _
   | exact spec_Split.mono _ _
   | exact spec_l6Age.mono _ _
   | exact LeO.none _
   | refine LeO.ite ?_ ?_
   | refine LeO.bind ?_ (fun _ => ?_)
set_option maxHeartbeats 8000000 in
set_option maxRecDepth 100000 in
theorem spec_CcRead.calls (k : Nat) (a0 : ByteArray) (r1 : Bool) (r2 : Bool) (r3 : Bool) (r4 : Bool) (r5 : Bool) (r6 : Int) (w : World) (h : spec_CcRead.f k a0 = some (r1, r2, r3, r4, r5, r6)) :
  Calls Tryd.prog 89 #[.string a0] w fun e w' => e = .returned (.agg #[.bool r1, .bool r2, .bool r3, .bool r4, .bool r5, .int .i64 r6]) ∧ Below w.heap.size w w' := by
 have hu106 := Tryd.underlying106
 have HB := am (Below.refl w.heap.size w)
 have H : ((spec_Split.f k a0).bind fun t1597 => (spec_CcRead.l0 k t1597 0 false false false false false 0)) = some (r1, r2, r3, r4, r5, r6) := h
 clear h
 replace H := ob H
 obtain ⟨t1597, A20, H⟩ := H
 replace H : (spec_CcRead.l0 k t1597 0 false false false false false 0) = some (r1, r2, r3, r4, r5, r6) := H
 have A2 := am A20
 clear A20
 have H' := am H
 clear H
 go_enter Tryd.func89, Tryd.ntmps89
 go_wp2_with (first | ((with_reducible refine gate_dst (N := 2) rfl ?_); refine box_event ?hg (N := 2) ?hd (cs := #[.bool false, .bool false, .bool false, .bool false, .bool false, .int .i64 0]) (t := 106) ?hr ?_; (case hd => rfl); (case hg => rfl); (case hr => first | (go_simp; done) | (go_simp; rfl)); intro gb1595 hg w3 hbox hb; have n0_ := am (below_step bl hb); have n1_ := am (hbox); have n2_ := am (sz hg : w.heap.size ≤ gb1595); have n3_ := am (sz hg : w.heap.size ≤ gb1595); clear HB; have HB := n0_; have BK1595 := n1_; have GW1595 := n2_; have GE1595 := n3_; clear n0_ n1_ n2_ n3_; clear hb hbox hg) | ((with_reducible refine gate_dst (N := 3) rfl ?_); refine box_event ?hg (N := 3) ?hd (cs := #[.bool false, .bool false, .bool false, .bool false, .bool false, .int .i64 0]) (t := 106) ?hr ?_; (case hd => rfl); (case hg => rfl); (case hr => first | (go_simp; done) | (go_simp; rfl)); intro gb1596 hg w4 hbox hb; have n0_ := kb BK1595 hb; have n1_ := am (below_step bl hb); have n2_ := am (hbox); have n3_ := am (sz hg : w.heap.size ≤ gb1596); have n4_ := am (sz hg : w.heap.size ≤ gb1596); have n5_ := am (nl hg BK1595 : gb1595 ≠ gb1596); have n6_ := am (ng hg BK1595 : gb1596 ≠ gb1595); clear BK1595; clear HB; have BK1595 := n0_; have HB := n1_; have BK1596 := n2_; have GW1596 := n3_; have GE1596 := n4_; have NB1595_1596 := n5_; have NB1596_1595 := n6_; clear n0_ n1_ n2_ n3_ n4_ n5_ n6_; clear hb hbox hg; have hnb5 := NB1596_1595.out; have hnc5 := NB1595_1596.out; have hcz6_0 : w4.cell? ⟨gb1596, 0, none⟩ = some (.bool false) := bc BK1596; have hcz6_1 : w4.cell? ⟨gb1596, 1, none⟩ = some (.bool false) := bc BK1596; have hcz6_2 : w4.cell? ⟨gb1596, 2, none⟩ = some (.bool false) := bc BK1596; have hcz6_3 : w4.cell? ⟨gb1596, 3, none⟩ = some (.bool false) := bc BK1596; have hcz6_4 : w4.cell? ⟨gb1596, 4, none⟩ = some (.bool false) := bc BK1596; have hcz6_5 : w4.cell? ⟨gb1596, 5, none⟩ = some (.int .i64 0) := bc BK1596; have hfz6_0 := blk_frozen BK1596.out 0; have hfz6_1 := blk_frozen BK1596.out 1; have hfz6_2 := blk_frozen BK1596.out 2; have hfz6_3 := blk_frozen BK1596.out 3; have hfz6_4 := blk_frozen BK1596.out 4; have hfz6_5 := blk_frozen BK1596.out 5) | ((with_reducible refine gate_callee (f := 88) rfl ?_); refine goesL_ (some 11) rfl rfl Tryd.func88 (by kernel_rfl) rfl #[.string a0] rfl ma ?_; (with_reducible refine (spec_Split.calls k a0 t1597 _ A2.out).mono ?_); rintro e w7 ⟨v1598, rfl, ho0, hb⟩; refine ⟨_, rfl, ?_⟩; have n0_ := am (Kd.R_lower ho0 (below_size bl)); have n1_ := kf BK1595 hb; have n2_ := am (blk_below (g := gb1596) (o := .cells #[.bool false, .bool false, .bool false, .bool false, .bool false, .int .i64 0] 106 (0, 0)) (by (with_reducible repeat (first | refine blk_drewN ?_ _ | refine blk_drew ?_ | refine blk_alloc ?_ _)); refine blk_put (cs := #[.bool false, .bool false, .bool false, .bool false, .bool false, .int .i64 0]) ?_ 5 _ rfl; (with_reducible repeat (first | refine blk_drewN ?_ _ | refine blk_drew ?_ | refine blk_alloc ?_ _)); refine blk_put (cs := #[.bool false, .bool false, .bool false, .bool false, .bool false, .int .i64 0]) ?_ 4 _ rfl; (with_reducible repeat (first | refine blk_drewN ?_ _ | refine blk_drew ?_ | refine blk_alloc ?_ _)); refine blk_put (cs := #[.bool false, .bool false, .bool false, .bool false, .bool false, .int .i64 0]) ?_ 3 _ rfl; (with_reducible repeat (first | refine blk_drewN ?_ _ | refine blk_drew ?_ | refine blk_alloc ?_ _)); refine blk_put (cs := #[.bool false, .bool false, .bool false, .bool false, .bool false, .int .i64 0]) ?_ 2 _ rfl; (with_reducible repeat (first | refine blk_drewN ?_ _ | refine blk_drew ?_ | refine blk_alloc ?_ _)); refine blk_put (cs := #[.bool false, .bool false, .bool false, .bool false, .bool false, .int .i64 0]) ?_ 1 _ rfl; (with_reducible repeat (first | refine blk_drewN ?_ _ | refine blk_drew ?_ | refine blk_alloc ?_ _)); refine blk_put (cs := #[.bool false, .bool false, .bool false, .bool false, .bool false, .int .i64 0]) ?_ 0 _ rfl; (with_reducible repeat (first | refine blk_drewN ?_ _ | refine blk_drew ?_ | refine blk_alloc ?_ _)); exact BK1596.out) hb); have n3_ := am (below_step bl hb); clear BK1595; clear BK1596; clear HB; have HO1599 := n0_; have BK1595 := n1_; have BK1596 := n2_; have HB := n3_; clear n0_ n1_ n2_ n3_; (try clear hb); (try clear hb2); (try clear hk); (try clear hi); (try clear ho0)))
 (try simp only [Act.put, List.setIfInBounds_toArray, List.set_cons_zero, List.set_cons_succ])
 go_loopg [5] k (fun kq v5 w' => ∃ (x5_1 : Int) (x1597000_1 : Bool) (x1597001_1 : Bool) (x1597002_1 : Bool) (x1597003_1 : Bool) (x1597004_1 : Bool) (x1597005_1 : Int), v5 = .int .i64 x5_1 ∧ Aside0 (spec_CcRead.l0 kq t1597 x5_1 x1597000_1 x1597001_1 x1597002_1 x1597003_1 x1597004_1 x1597005_1 = some (r1, r2, r3, r4, r5, r6)) ∧ Aside0 (kq ≤ k) ∧ Aside0 (Kd.R Kd.string 9 w' w.heap.size (fun _ => True) v1598 t1597) ∧ Aside0 (w'.heap[gb1595]? = some (.cells #[.bool false, .bool false, .bool false, .bool false, .bool false, .int .i64 0] 106 (0, 0))) ∧ Aside0 (w'.heap[gb1596]? = some (.cells #[.bool x1597000_1, .bool x1597001_1, .bool x1597002_1, .bool x1597003_1, .bool x1597004_1, .int .i64 x1597005_1] 106 (0, 0))) ∧ Aside0 (Below w.heap.size w w'))
 case atStart => exact ⟨(0), (false), (false), (false), (false), (false), (0), rs, H', ⟨Nat.le_refl _⟩, ⟨by (with_reducible repeat (first | apply Kd.R_alloc | apply Kd.R_drewN | apply Kd.R_drew)); exact HO1599.out⟩, ⟨by (with_reducible repeat (first | refine blk_drewN ?_ _ | refine blk_drew ?_ | refine blk_alloc ?_ _)); exact BK1595.out⟩, ⟨by (with_reducible repeat (first | refine blk_drewN ?_ _ | refine blk_drew ?_ | refine blk_alloc ?_ _)); exact BK1596.out⟩, ⟨by repeat (first | (with_reducible first | exact HB.out | apply below_alloc | apply pw_below_drewN | apply below_drew1 | refine below_set ?_ GE1595.out | refine below_set ?_ GE1596.out) | exact HB.out)⟩⟩
 case round =>
  clear H'
  try clear p2
  try clear c5
  try clear hcz6_0
  try clear hcz6_1
  try clear hcz6_2
  try clear hcz6_3
  try clear hcz6_4
  try clear hcz6_5
  try clear hfz6_0
  try clear hfz6_1
  try clear hfz6_2
  try clear hfz6_3
  try clear hfz6_4
  try clear hfz6_5
  obtain ⟨x5_1, x1597000_1, x1597001_1, x1597002_1, x1597003_1, x1597004_1, x1597005_1, rfl, HA, HK1, HO_4, BK1595, BK1596, HB⟩ := hrel
  cases gk with
  | zero => exact absurd HA.out (by simp [spec_CcRead.l0])
  | succ k1 =>
   have H := HA.out
   clear HA
   simp only [spec_CcRead.l0] at H
   by_cases c8 : x5_1 < (t1597.length : Int)
   ·rw [if_pos c8] at H
    have c8b0 : decide (x5_1 < (t1597.length : Int)) = true := decide_eq_true c8
    clear c8
    by_cases c9 : 0 ≤ x5_1
    ·rw [if_pos c9] at H
     have c9b0 : decide (0 ≤ x5_1) = true := decide_eq_true c9
     clear c9
     replace H := ob H
     obtain ⟨t1601, A100, H⟩ := H
     replace H : ((spec_l6Age.f k1 t1601).bind fun bt1602 => (if t1601.toList = ([110, 111, 45, 115, 116, 111, 114, 101] : List UInt8) then (spec_CcRead.l0 k1 t1597 (wrap64 (x5_1 + 1)) true x1597001_1 x1597002_1 x1597003_1 x1597004_1 x1597005_1) else (if t1601.toList = ([110, 111, 45, 99, 97, 99, 104, 101] : List UInt8) then (spec_CcRead.l0 k1 t1597 (wrap64 (x5_1 + 1)) x1597000_1 true x1597002_1 x1597003_1 x1597004_1 x1597005_1) else (if t1601.toList = ([112, 114, 105, 118, 97, 116, 101] : List UInt8) then (spec_CcRead.l0 k1 t1597 (wrap64 (x5_1 + 1)) x1597000_1 x1597001_1 true x1597003_1 x1597004_1 x1597005_1) else (if t1601.toList = ([109, 117, 115, 116, 45, 114, 101, 118, 97, 108, 105, 100, 97, 116, 101] : List UInt8) then (spec_CcRead.l0 k1 t1597 (wrap64 (x5_1 + 1)) x1597000_1 x1597001_1 x1597002_1 true x1597004_1 x1597005_1) else (if bt1602.2 = true then (spec_CcRead.j1 k1 t1597 x5_1 bt1602.1 bt1602.2 x1597004_1 x1597000_1 x1597001_1 x1597002_1 x1597003_1 x1597004_1 x1597005_1) else (spec_CcRead.j1 k1 t1597 x5_1 bt1602.1 bt1602.2 false x1597000_1 x1597001_1 x1597002_1 x1597003_1 x1597004_1 x1597005_1))))))) = some (r1, r2, r3, r4, r5, r6) := H
     have A10 := am A100
     clear A100
     replace H := ob H
     obtain ⟨⟨t1602, t1603⟩, A110, H⟩ := H
     replace H : (if t1601.toList = ([110, 111, 45, 115, 116, 111, 114, 101] : List UInt8) then (spec_CcRead.l0 k1 t1597 (wrap64 (x5_1 + 1)) true x1597001_1 x1597002_1 x1597003_1 x1597004_1 x1597005_1) else (if t1601.toList = ([110, 111, 45, 99, 97, 99, 104, 101] : List UInt8) then (spec_CcRead.l0 k1 t1597 (wrap64 (x5_1 + 1)) x1597000_1 true x1597002_1 x1597003_1 x1597004_1 x1597005_1) else (if t1601.toList = ([112, 114, 105, 118, 97, 116, 101] : List UInt8) then (spec_CcRead.l0 k1 t1597 (wrap64 (x5_1 + 1)) x1597000_1 x1597001_1 true x1597003_1 x1597004_1 x1597005_1) else (if t1601.toList = ([109, 117, 115, 116, 45, 114, 101, 118, 97, 108, 105, 100, 97, 116, 101] : List UInt8) then (spec_CcRead.l0 k1 t1597 (wrap64 (x5_1 + 1)) x1597000_1 x1597001_1 x1597002_1 true x1597004_1 x1597005_1) else (if t1603 = true then (spec_CcRead.j1 k1 t1597 x5_1 t1602 t1603 x1597004_1 x1597000_1 x1597001_1 x1597002_1 x1597003_1 x1597004_1 x1597005_1) else (spec_CcRead.j1 k1 t1597 x5_1 t1602 t1603 false x1597000_1 x1597001_1 x1597002_1 x1597003_1 x1597004_1 x1597005_1)))))) = some (r1, r2, r3, r4, r5, r6) := H
     have A11 := am A110
     clear A110
     by_cases c12 : t1601.toList = ([110, 111, 45, 115, 116, 111, 114, 101] : List UInt8)
     ·rw [if_pos c12] at H
      have c12b0 : (t1601.toList == ([110, 111, 45, 115, 116, 111, 114, 101] : List UInt8)) = true := beq_iff_eq.mpr c12
      have c12b1 : (t1601.toList != ([110, 111, 45, 115, 116, 111, 114, 101] : List UInt8)) = false := bne_eq_false_iff_eq.mpr c12
      clear c12
      have H' := am H
      clear H
      obtain ⟨Ao13, co13, eo13⟩ := Kd.R_slice HO_4.out
      subst eo13
      have p1600 : 0 ≤ (x5_1 : Int) := od
      have q1600 : x5_1 < (t1597.length : Int) := od
      obtain ⟨ad1600, e1600, hx1600_0⟩ := Kd.at_string (Kd.R_reads' HO_4.out).2.2 x5_1 p1600 q1600
      cases e1600
      replace p1600 := eq_true p1600
      replace q1600 := eq_true q1600
      go_wp2_with (first | ((with_reducible refine gate_callee (f := 98) rfl ?_); refine goesL_ (some 22) rfl rfl Tryd.func98 (by kernel_rfl) rfl #[.string (rdOf ByteArray.empty t1597 x5_1)] rfl ma ?_; (with_reducible refine (spec_Lower.calls k1 (rdOf ByteArray.empty t1597 x5_1) t1601 _ A10.out).mono ?_); rintro e w14 ⟨rfl, hb⟩; refine ⟨_, rfl, ?_⟩; replace HO_4 := kr HO_4 hb; replace BK1595 := kb BK1595 hb; replace BK1596 := kb BK1596 hb; replace HB := am (below_step bl hb); (try clear hb); (try clear hb2); (try clear hk); (try clear hi)) | ((with_reducible refine gate_callee (f := 159) rfl ?_); refine goesL_ (some 25) rfl rfl Tryd.func159 (by kernel_rfl) rfl #[.string t1601] rfl ma ?_; (with_reducible refine (spec_l6Age.calls k1 t1601 t1602 t1603 _ A11.out).mono ?_); rintro e w15 ⟨rfl, hb⟩; refine ⟨_, rfl, ?_⟩; replace HO_4 := kr HO_4 hb; replace BK1595 := kb BK1595 hb; replace BK1596 := kb BK1596 hb; replace HB := am (below_step bl hb); (try clear hb); (try clear hb2); (try clear hk); (try clear hi); have hnb16 := NB1596_1595.out; have hnc16 := NB1595_1596.out; have hcz17_0 : w15.cell? ⟨gb1596, 0, none⟩ = some (.bool x1597000_1) := bc BK1596; have hcz17_1 : w15.cell? ⟨gb1596, 1, none⟩ = some (.bool x1597001_1) := bc BK1596; have hcz17_2 : w15.cell? ⟨gb1596, 2, none⟩ = some (.bool x1597002_1) := bc BK1596; have hcz17_3 : w15.cell? ⟨gb1596, 3, none⟩ = some (.bool x1597003_1) := bc BK1596; have hcz17_4 : w15.cell? ⟨gb1596, 4, none⟩ = some (.bool x1597004_1) := bc BK1596; have hcz17_5 : w15.cell? ⟨gb1596, 5, none⟩ = some (.int .i64 x1597005_1) := bc BK1596; have hfz17_0 := blk_frozen BK1596.out 0; have hfz17_1 := blk_frozen BK1596.out 1; have hfz17_2 := blk_frozen BK1596.out 2; have hfz17_3 := blk_frozen BK1596.out 3; have hfz17_4 := blk_frozen BK1596.out 4; have hfz17_5 := blk_frozen BK1596.out 5))
      go_roundg k1
      case measure => have := HK1.out; omega
      case rel => exact ⟨(wrap64 (x5_1 + 1)), (true), (x1597001_1), (x1597002_1), (x1597003_1), (x1597004_1), (x1597005_1), rs, H', ⟨by have := HK1.out; omega⟩, ⟨by (with_reducible repeat (first | apply Kd.R_alloc | apply Kd.R_drewN | apply Kd.R_drew)); exact Kd.R_mono (Kd.R_far (p := ⟨gb1596, 0, none⟩) (Kd.R_types HO_4.out BK1596.out (by decide)) (fun _ hk => hk.2) (.bool true)) (fun _ hk => trivial)⟩, ⟨by (with_reducible repeat (first | refine blk_drewN ?_ _ | refine blk_drew ?_ | refine blk_alloc ?_ _)); refine blk_far ?_ NB1595_1596.out _; (with_reducible repeat (first | refine blk_drewN ?_ _ | refine blk_drew ?_ | refine blk_alloc ?_ _)); exact BK1595.out⟩, ⟨by (with_reducible repeat (first | refine blk_drewN ?_ _ | refine blk_drew ?_ | refine blk_alloc ?_ _)); refine blk_put (cs := #[.bool x1597000_1, .bool x1597001_1, .bool x1597002_1, .bool x1597003_1, .bool x1597004_1, .int .i64 x1597005_1]) ?_ 0 _ rfl; (with_reducible repeat (first | refine blk_drewN ?_ _ | refine blk_drew ?_ | refine blk_alloc ?_ _)); exact BK1596.out⟩, ⟨by repeat (first | (with_reducible first | exact HB.out | apply below_alloc | apply pw_below_drewN | apply below_drew1 | refine below_set ?_ GE1595.out | refine below_set ?_ GE1596.out) | exact HB.out)⟩⟩
     ·rw [if_neg c12] at H
      have c12b0 : (t1601.toList == ([110, 111, 45, 115, 116, 111, 114, 101] : List UInt8)) = false := beq_eq_false_iff_ne.mpr c12
      have c12b1 : (t1601.toList != ([110, 111, 45, 115, 116, 111, 114, 101] : List UInt8)) = true := bne_iff_ne.mpr c12
      by_cases c18 : t1601.toList = ([110, 111, 45, 99, 97, 99, 104, 101] : List UInt8)
      ·rw [if_pos c18] at H
       have c18b0 : (t1601.toList == ([110, 111, 45, 99, 97, 99, 104, 101] : List UInt8)) = true := beq_iff_eq.mpr c18
       have c18b1 : (t1601.toList != ([110, 111, 45, 99, 97, 99, 104, 101] : List UInt8)) = false := bne_eq_false_iff_eq.mpr c18
       clear c18
       have H' := am H
       clear H
       obtain ⟨Ao19, co19, eo19⟩ := Kd.R_slice HO_4.out
       subst eo19
       have p1600 : 0 ≤ (x5_1 : Int) := od
       have q1600 : x5_1 < (t1597.length : Int) := od
       obtain ⟨ad1600, e1600, hx1600_0⟩ := Kd.at_string (Kd.R_reads' HO_4.out).2.2 x5_1 p1600 q1600
       cases e1600
       replace p1600 := eq_true p1600
       replace q1600 := eq_true q1600
       go_wp2_with (first | ((with_reducible refine gate_callee (f := 98) rfl ?_); refine goesL_ (some 22) rfl rfl Tryd.func98 (by kernel_rfl) rfl #[.string (rdOf ByteArray.empty t1597 x5_1)] rfl ma ?_; (with_reducible refine (spec_Lower.calls k1 (rdOf ByteArray.empty t1597 x5_1) t1601 _ A10.out).mono ?_); rintro e w20 ⟨rfl, hb⟩; refine ⟨_, rfl, ?_⟩; replace HO_4 := kr HO_4 hb; replace BK1595 := kb BK1595 hb; replace BK1596 := kb BK1596 hb; replace HB := am (below_step bl hb); (try clear hb); (try clear hb2); (try clear hk); (try clear hi)) | ((with_reducible refine gate_callee (f := 159) rfl ?_); refine goesL_ (some 25) rfl rfl Tryd.func159 (by kernel_rfl) rfl #[.string t1601] rfl ma ?_; (with_reducible refine (spec_l6Age.calls k1 t1601 t1602 t1603 _ A11.out).mono ?_); rintro e w21 ⟨rfl, hb⟩; refine ⟨_, rfl, ?_⟩; replace HO_4 := kr HO_4 hb; replace BK1595 := kb BK1595 hb; replace BK1596 := kb BK1596 hb; replace HB := am (below_step bl hb); (try clear hb); (try clear hb2); (try clear hk); (try clear hi); have hnb22 := NB1596_1595.out; have hnc22 := NB1595_1596.out; have hcz23_0 : w21.cell? ⟨gb1596, 0, none⟩ = some (.bool x1597000_1) := bc BK1596; have hcz23_1 : w21.cell? ⟨gb1596, 1, none⟩ = some (.bool x1597001_1) := bc BK1596; have hcz23_2 : w21.cell? ⟨gb1596, 2, none⟩ = some (.bool x1597002_1) := bc BK1596; have hcz23_3 : w21.cell? ⟨gb1596, 3, none⟩ = some (.bool x1597003_1) := bc BK1596; have hcz23_4 : w21.cell? ⟨gb1596, 4, none⟩ = some (.bool x1597004_1) := bc BK1596; have hcz23_5 : w21.cell? ⟨gb1596, 5, none⟩ = some (.int .i64 x1597005_1) := bc BK1596; have hfz23_0 := blk_frozen BK1596.out 0; have hfz23_1 := blk_frozen BK1596.out 1; have hfz23_2 := blk_frozen BK1596.out 2; have hfz23_3 := blk_frozen BK1596.out 3; have hfz23_4 := blk_frozen BK1596.out 4; have hfz23_5 := blk_frozen BK1596.out 5))
       go_roundg k1
       case measure => have := HK1.out; omega
       case rel => exact ⟨(wrap64 (x5_1 + 1)), (x1597000_1), (true), (x1597002_1), (x1597003_1), (x1597004_1), (x1597005_1), rs, H', ⟨by have := HK1.out; omega⟩, ⟨by (with_reducible repeat (first | apply Kd.R_alloc | apply Kd.R_drewN | apply Kd.R_drew)); exact Kd.R_mono (Kd.R_far (p := ⟨gb1596, 1, none⟩) (Kd.R_types HO_4.out BK1596.out (by decide)) (fun _ hk => hk.2) (.bool true)) (fun _ hk => trivial)⟩, ⟨by (with_reducible repeat (first | refine blk_drewN ?_ _ | refine blk_drew ?_ | refine blk_alloc ?_ _)); refine blk_far ?_ NB1595_1596.out _; (with_reducible repeat (first | refine blk_drewN ?_ _ | refine blk_drew ?_ | refine blk_alloc ?_ _)); exact BK1595.out⟩, ⟨by (with_reducible repeat (first | refine blk_drewN ?_ _ | refine blk_drew ?_ | refine blk_alloc ?_ _)); refine blk_put (cs := #[.bool x1597000_1, .bool x1597001_1, .bool x1597002_1, .bool x1597003_1, .bool x1597004_1, .int .i64 x1597005_1]) ?_ 1 _ rfl; (with_reducible repeat (first | refine blk_drewN ?_ _ | refine blk_drew ?_ | refine blk_alloc ?_ _)); exact BK1596.out⟩, ⟨by repeat (first | (with_reducible first | exact HB.out | apply below_alloc | apply pw_below_drewN | apply below_drew1 | refine below_set ?_ GE1595.out | refine below_set ?_ GE1596.out) | exact HB.out)⟩⟩
      ·rw [if_neg c18] at H
       have c18b0 : (t1601.toList == ([110, 111, 45, 99, 97, 99, 104, 101] : List UInt8)) = false := beq_eq_false_iff_ne.mpr c18
       have c18b1 : (t1601.toList != ([110, 111, 45, 99, 97, 99, 104, 101] : List UInt8)) = true := bne_iff_ne.mpr c18
       by_cases c24 : t1601.toList = ([112, 114, 105, 118, 97, 116, 101] : List UInt8)
       ·rw [if_pos c24] at H
        have c24b0 : (t1601.toList == ([112, 114, 105, 118, 97, 116, 101] : List UInt8)) = true := beq_iff_eq.mpr c24
        have c24b1 : (t1601.toList != ([112, 114, 105, 118, 97, 116, 101] : List UInt8)) = false := bne_eq_false_iff_eq.mpr c24
        clear c24
        have H' := am H
        clear H
        obtain ⟨Ao25, co25, eo25⟩ := Kd.R_slice HO_4.out
        subst eo25
        have p1600 : 0 ≤ (x5_1 : Int) := od
        have q1600 : x5_1 < (t1597.length : Int) := od
        obtain ⟨ad1600, e1600, hx1600_0⟩ := Kd.at_string (Kd.R_reads' HO_4.out).2.2 x5_1 p1600 q1600
        cases e1600
        replace p1600 := eq_true p1600
        replace q1600 := eq_true q1600
        go_wp2_with (first | ((with_reducible refine gate_callee (f := 98) rfl ?_); refine goesL_ (some 22) rfl rfl Tryd.func98 (by kernel_rfl) rfl #[.string (rdOf ByteArray.empty t1597 x5_1)] rfl ma ?_; (with_reducible refine (spec_Lower.calls k1 (rdOf ByteArray.empty t1597 x5_1) t1601 _ A10.out).mono ?_); rintro e w26 ⟨rfl, hb⟩; refine ⟨_, rfl, ?_⟩; replace HO_4 := kr HO_4 hb; replace BK1595 := kb BK1595 hb; replace BK1596 := kb BK1596 hb; replace HB := am (below_step bl hb); (try clear hb); (try clear hb2); (try clear hk); (try clear hi)) | ((with_reducible refine gate_callee (f := 159) rfl ?_); refine goesL_ (some 25) rfl rfl Tryd.func159 (by kernel_rfl) rfl #[.string t1601] rfl ma ?_; (with_reducible refine (spec_l6Age.calls k1 t1601 t1602 t1603 _ A11.out).mono ?_); rintro e w27 ⟨rfl, hb⟩; refine ⟨_, rfl, ?_⟩; replace HO_4 := kr HO_4 hb; replace BK1595 := kb BK1595 hb; replace BK1596 := kb BK1596 hb; replace HB := am (below_step bl hb); (try clear hb); (try clear hb2); (try clear hk); (try clear hi); have hnb28 := NB1596_1595.out; have hnc28 := NB1595_1596.out; have hcz29_0 : w27.cell? ⟨gb1596, 0, none⟩ = some (.bool x1597000_1) := bc BK1596; have hcz29_1 : w27.cell? ⟨gb1596, 1, none⟩ = some (.bool x1597001_1) := bc BK1596; have hcz29_2 : w27.cell? ⟨gb1596, 2, none⟩ = some (.bool x1597002_1) := bc BK1596; have hcz29_3 : w27.cell? ⟨gb1596, 3, none⟩ = some (.bool x1597003_1) := bc BK1596; have hcz29_4 : w27.cell? ⟨gb1596, 4, none⟩ = some (.bool x1597004_1) := bc BK1596; have hcz29_5 : w27.cell? ⟨gb1596, 5, none⟩ = some (.int .i64 x1597005_1) := bc BK1596; have hfz29_0 := blk_frozen BK1596.out 0; have hfz29_1 := blk_frozen BK1596.out 1; have hfz29_2 := blk_frozen BK1596.out 2; have hfz29_3 := blk_frozen BK1596.out 3; have hfz29_4 := blk_frozen BK1596.out 4; have hfz29_5 := blk_frozen BK1596.out 5))
        go_roundg k1
        case measure => have := HK1.out; omega
        case rel => exact ⟨(wrap64 (x5_1 + 1)), (x1597000_1), (x1597001_1), (true), (x1597003_1), (x1597004_1), (x1597005_1), rs, H', ⟨by have := HK1.out; omega⟩, ⟨by (with_reducible repeat (first | apply Kd.R_alloc | apply Kd.R_drewN | apply Kd.R_drew)); exact Kd.R_mono (Kd.R_far (p := ⟨gb1596, 2, none⟩) (Kd.R_types HO_4.out BK1596.out (by decide)) (fun _ hk => hk.2) (.bool true)) (fun _ hk => trivial)⟩, ⟨by (with_reducible repeat (first | refine blk_drewN ?_ _ | refine blk_drew ?_ | refine blk_alloc ?_ _)); refine blk_far ?_ NB1595_1596.out _; (with_reducible repeat (first | refine blk_drewN ?_ _ | refine blk_drew ?_ | refine blk_alloc ?_ _)); exact BK1595.out⟩, ⟨by (with_reducible repeat (first | refine blk_drewN ?_ _ | refine blk_drew ?_ | refine blk_alloc ?_ _)); refine blk_put (cs := #[.bool x1597000_1, .bool x1597001_1, .bool x1597002_1, .bool x1597003_1, .bool x1597004_1, .int .i64 x1597005_1]) ?_ 2 _ rfl; (with_reducible repeat (first | refine blk_drewN ?_ _ | refine blk_drew ?_ | refine blk_alloc ?_ _)); exact BK1596.out⟩, ⟨by repeat (first | (with_reducible first | exact HB.out | apply below_alloc | apply pw_below_drewN | apply below_drew1 | refine below_set ?_ GE1595.out | refine below_set ?_ GE1596.out) | exact HB.out)⟩⟩
       ·rw [if_neg c24] at H
        have c24b0 : (t1601.toList == ([112, 114, 105, 118, 97, 116, 101] : List UInt8)) = false := beq_eq_false_iff_ne.mpr c24
        have c24b1 : (t1601.toList != ([112, 114, 105, 118, 97, 116, 101] : List UInt8)) = true := bne_iff_ne.mpr c24
        by_cases c30 : t1601.toList = ([109, 117, 115, 116, 45, 114, 101, 118, 97, 108, 105, 100, 97, 116, 101] : List UInt8)
        ·rw [if_pos c30] at H
         have c30b0 : (t1601.toList == ([109, 117, 115, 116, 45, 114, 101, 118, 97, 108, 105, 100, 97, 116, 101] : List UInt8)) = true := beq_iff_eq.mpr c30
         have c30b1 : (t1601.toList != ([109, 117, 115, 116, 45, 114, 101, 118, 97, 108, 105, 100, 97, 116, 101] : List UInt8)) = false := bne_eq_false_iff_eq.mpr c30
         clear c30
         have H' := am H
         clear H
         obtain ⟨Ao31, co31, eo31⟩ := Kd.R_slice HO_4.out
         subst eo31
         have p1600 : 0 ≤ (x5_1 : Int) := od
         have q1600 : x5_1 < (t1597.length : Int) := od
         obtain ⟨ad1600, e1600, hx1600_0⟩ := Kd.at_string (Kd.R_reads' HO_4.out).2.2 x5_1 p1600 q1600
         cases e1600
         replace p1600 := eq_true p1600
         replace q1600 := eq_true q1600
         go_wp2_with (first | ((with_reducible refine gate_callee (f := 98) rfl ?_); refine goesL_ (some 22) rfl rfl Tryd.func98 (by kernel_rfl) rfl #[.string (rdOf ByteArray.empty t1597 x5_1)] rfl ma ?_; (with_reducible refine (spec_Lower.calls k1 (rdOf ByteArray.empty t1597 x5_1) t1601 _ A10.out).mono ?_); rintro e w32 ⟨rfl, hb⟩; refine ⟨_, rfl, ?_⟩; replace HO_4 := kr HO_4 hb; replace BK1595 := kb BK1595 hb; replace BK1596 := kb BK1596 hb; replace HB := am (below_step bl hb); (try clear hb); (try clear hb2); (try clear hk); (try clear hi)) | ((with_reducible refine gate_callee (f := 159) rfl ?_); refine goesL_ (some 25) rfl rfl Tryd.func159 (by kernel_rfl) rfl #[.string t1601] rfl ma ?_; (with_reducible refine (spec_l6Age.calls k1 t1601 t1602 t1603 _ A11.out).mono ?_); rintro e w33 ⟨rfl, hb⟩; refine ⟨_, rfl, ?_⟩; replace HO_4 := kr HO_4 hb; replace BK1595 := kb BK1595 hb; replace BK1596 := kb BK1596 hb; replace HB := am (below_step bl hb); (try clear hb); (try clear hb2); (try clear hk); (try clear hi); have hnb34 := NB1596_1595.out; have hnc34 := NB1595_1596.out; have hcz35_0 : w33.cell? ⟨gb1596, 0, none⟩ = some (.bool x1597000_1) := bc BK1596; have hcz35_1 : w33.cell? ⟨gb1596, 1, none⟩ = some (.bool x1597001_1) := bc BK1596; have hcz35_2 : w33.cell? ⟨gb1596, 2, none⟩ = some (.bool x1597002_1) := bc BK1596; have hcz35_3 : w33.cell? ⟨gb1596, 3, none⟩ = some (.bool x1597003_1) := bc BK1596; have hcz35_4 : w33.cell? ⟨gb1596, 4, none⟩ = some (.bool x1597004_1) := bc BK1596; have hcz35_5 : w33.cell? ⟨gb1596, 5, none⟩ = some (.int .i64 x1597005_1) := bc BK1596; have hfz35_0 := blk_frozen BK1596.out 0; have hfz35_1 := blk_frozen BK1596.out 1; have hfz35_2 := blk_frozen BK1596.out 2; have hfz35_3 := blk_frozen BK1596.out 3; have hfz35_4 := blk_frozen BK1596.out 4; have hfz35_5 := blk_frozen BK1596.out 5))
         go_roundg k1
         case measure => have := HK1.out; omega
         case rel => exact ⟨(wrap64 (x5_1 + 1)), (x1597000_1), (x1597001_1), (x1597002_1), (true), (x1597004_1), (x1597005_1), rs, H', ⟨by have := HK1.out; omega⟩, ⟨by (with_reducible repeat (first | apply Kd.R_alloc | apply Kd.R_drewN | apply Kd.R_drew)); exact Kd.R_mono (Kd.R_far (p := ⟨gb1596, 3, none⟩) (Kd.R_types HO_4.out BK1596.out (by decide)) (fun _ hk => hk.2) (.bool true)) (fun _ hk => trivial)⟩, ⟨by (with_reducible repeat (first | refine blk_drewN ?_ _ | refine blk_drew ?_ | refine blk_alloc ?_ _)); refine blk_far ?_ NB1595_1596.out _; (with_reducible repeat (first | refine blk_drewN ?_ _ | refine blk_drew ?_ | refine blk_alloc ?_ _)); exact BK1595.out⟩, ⟨by (with_reducible repeat (first | refine blk_drewN ?_ _ | refine blk_drew ?_ | refine blk_alloc ?_ _)); refine blk_put (cs := #[.bool x1597000_1, .bool x1597001_1, .bool x1597002_1, .bool x1597003_1, .bool x1597004_1, .int .i64 x1597005_1]) ?_ 3 _ rfl; (with_reducible repeat (first | refine blk_drewN ?_ _ | refine blk_drew ?_ | refine blk_alloc ?_ _)); exact BK1596.out⟩, ⟨by repeat (first | (with_reducible first | exact HB.out | apply below_alloc | apply pw_below_drewN | apply below_drew1 | refine below_set ?_ GE1595.out | refine below_set ?_ GE1596.out) | exact HB.out)⟩⟩
        ·rw [if_neg c30] at H
         have c30b0 : (t1601.toList == ([109, 117, 115, 116, 45, 114, 101, 118, 97, 108, 105, 100, 97, 116, 101] : List UInt8)) = false := beq_eq_false_iff_ne.mpr c30
         have c30b1 : (t1601.toList != ([109, 117, 115, 116, 45, 114, 101, 118, 97, 108, 105, 100, 97, 116, 101] : List UInt8)) = true := bne_iff_ne.mpr c30
         have HC36 := am H
         clear H
         obtain ⟨Ao37, co37, eo37⟩ := Kd.R_slice HO_4.out
         subst eo37
         have p1600 : 0 ≤ (x5_1 : Int) := od
         have q1600 : x5_1 < (t1597.length : Int) := od
         obtain ⟨ad1600, e1600, hx1600_0⟩ := Kd.at_string (Kd.R_reads' HO_4.out).2.2 x5_1 p1600 q1600
         cases e1600
         replace p1600 := eq_true p1600
         replace q1600 := eq_true q1600
         go_upto_region 16 with (first | ((with_reducible refine gate_callee (f := 98) rfl ?_); refine goesL_ (some 22) rfl rfl Tryd.func98 (by kernel_rfl) rfl #[.string (rdOf ByteArray.empty t1597 x5_1)] rfl ma ?_; (with_reducible refine (spec_Lower.calls k1 (rdOf ByteArray.empty t1597 x5_1) t1601 _ A10.out).mono ?_); rintro e w38 ⟨rfl, hb⟩; refine ⟨_, rfl, ?_⟩; replace HO_4 := kr HO_4 hb; replace BK1595 := kb BK1595 hb; replace BK1596 := kb BK1596 hb; replace HB := am (below_step bl hb); (try clear hb); (try clear hb2); (try clear hk); (try clear hi)) | ((with_reducible refine gate_callee (f := 159) rfl ?_); refine goesL_ (some 25) rfl rfl Tryd.func159 (by kernel_rfl) rfl #[.string t1601] rfl ma ?_; (with_reducible refine (spec_l6Age.calls k1 t1601 t1602 t1603 _ A11.out).mono ?_); rintro e w39 ⟨rfl, hb⟩; refine ⟨_, rfl, ?_⟩; replace HO_4 := kr HO_4 hb; replace BK1595 := kb BK1595 hb; replace BK1596 := kb BK1596 hb; replace HB := am (below_step bl hb); (try clear hb); (try clear hb2); (try clear hk); (try clear hi)))
         (try simp only [Act.put, List.setIfInBounds_toArray, List.set_cons_zero, List.set_cons_succ])
         go_cut [44] (fun v44 wc => ∃ (kq : Nat) (x44_35 : Bool), v44 = .bool x44_35 ∧ Aside0 (spec_CcRead.j1 kq t1597 x5_1 t1602 t1603 x44_35 x1597000_1 x1597001_1 x1597002_1 x1597003_1 x1597004_1 x1597005_1 = some (r1, r2, r3, r4, r5, r6)) ∧ Aside0 (kq ≤ k1) ∧ Aside0 (Kd.R Kd.string 9 wc w.heap.size (fun _ => True) (.slice (some ad1600) t1597.length co37) t1597) ∧ Aside0 (wc.heap[gb1595]? = some (.cells #[.bool false, .bool false, .bool false, .bool false, .bool false, .int .i64 0] 106 (0, 0))) ∧ Aside0 (wc.heap[gb1596]? = some (.cells #[.bool x1597000_1, .bool x1597001_1, .bool x1597002_1, .bool x1597003_1, .bool x1597004_1, .int .i64 x1597005_1] 106 (0, 0))) ∧ Aside0 (Below w.heap.size w wc))
         case first =>
          have H := HC36.out
          clear HC36
          by_cases c40 : t1603 = true
          ·subst c40
           have H1 : (spec_CcRead.j1 k1 t1597 x5_1 t1602 true x1597004_1 x1597000_1 x1597001_1 x1597002_1 x1597003_1 x1597004_1 x1597005_1) = some (r1, r2, r3, r4, r5, r6) := by rw [if_pos rfl] at H; exact H
           clear H
           have H := H1
           clear H1
           have H' := am H
           clear H
           have hnb41 := NB1596_1595.out
           have hnc41 := NB1595_1596.out
           have hcz42_0 : w39.cell? ⟨gb1596, 0, none⟩ = some (.bool x1597000_1) := bc BK1596
           have hcz42_1 : w39.cell? ⟨gb1596, 1, none⟩ = some (.bool x1597001_1) := bc BK1596
           have hcz42_2 : w39.cell? ⟨gb1596, 2, none⟩ = some (.bool x1597002_1) := bc BK1596
           have hcz42_3 : w39.cell? ⟨gb1596, 3, none⟩ = some (.bool x1597003_1) := bc BK1596
           have hcz42_4 : w39.cell? ⟨gb1596, 4, none⟩ = some (.bool x1597004_1) := bc BK1596
           have hcz42_5 : w39.cell? ⟨gb1596, 5, none⟩ = some (.int .i64 x1597005_1) := bc BK1596
           have hfz42_0 := blk_frozen BK1596.out 0
           have hfz42_1 := blk_frozen BK1596.out 1
           have hfz42_2 := blk_frozen BK1596.out 2
           have hfz42_3 := blk_frozen BK1596.out 3
           have hfz42_4 := blk_frozen BK1596.out 4
           have hfz42_5 := blk_frozen BK1596.out 5
           go_wp2
           go_meet
           case rel => exact ⟨_, (x1597004_1), rs, H', ⟨by have := HK1.out; first | omega | exact Nat.le_refl _⟩, ⟨by (with_reducible repeat (first | apply Kd.R_alloc | apply Kd.R_drewN | apply Kd.R_drew)); exact HO_4.out⟩, ⟨by (with_reducible repeat (first | refine blk_drewN ?_ _ | refine blk_drew ?_ | refine blk_alloc ?_ _)); exact BK1595.out⟩, ⟨by (with_reducible repeat (first | refine blk_drewN ?_ _ | refine blk_drew ?_ | refine blk_alloc ?_ _)); exact BK1596.out⟩, ⟨by repeat (first | (with_reducible first | exact HB.out | apply below_alloc | apply pw_below_drewN | apply below_drew1 | refine below_set ?_ GE1595.out | refine below_set ?_ GE1596.out) | exact HB.out)⟩⟩
          ·replace c40 := Bool.eq_false_iff.mpr c40
           subst c40
           have H1 : (spec_CcRead.j1 k1 t1597 x5_1 t1602 false false x1597000_1 x1597001_1 x1597002_1 x1597003_1 x1597004_1 x1597005_1) = some (r1, r2, r3, r4, r5, r6) := by rw [if_neg (show ¬ (false = true) by decide)] at H; exact H
           clear H
           have H := H1
           clear H1
           have H' := am H
           clear H
           go_wp2
           go_meet
           case rel => exact ⟨_, (false), rs, H', ⟨by have := HK1.out; first | omega | exact Nat.le_refl _⟩, ⟨by (with_reducible repeat (first | apply Kd.R_alloc | apply Kd.R_drewN | apply Kd.R_drew)); exact HO_4.out⟩, ⟨by (with_reducible repeat (first | refine blk_drewN ?_ _ | refine blk_drew ?_ | refine blk_alloc ?_ _)); exact BK1595.out⟩, ⟨by (with_reducible repeat (first | refine blk_drewN ?_ _ | refine blk_drew ?_ | refine blk_alloc ?_ _)); exact BK1596.out⟩, ⟨by repeat (first | (with_reducible first | exact HB.out | apply below_alloc | apply pw_below_drewN | apply below_drew1 | refine below_set ?_ GE1595.out | refine below_set ?_ GE1596.out) | exact HB.out)⟩⟩
         case rest =>
          clear HC36
          try clear c1
          try clear p1
          try clear q1
          try clear hx1
          try clear c2
          try clear p2
          try clear c3
          try clear c4
          try clear c5
          try clear p6
          try clear c8
          try clear c8b0
          try clear c9
          try clear c9b0
          try clear c12
          try clear c12b0
          try clear c12b1
          try clear c15
          try clear c16
          try clear p16
          try clear q16
          try clear hx16
          try clear c18
          try clear c18b0
          try clear c18b1
          try clear c22
          try clear c24
          try clear c24b0
          try clear c24b1
          try clear c28
          try clear c30
          try clear c30b0
          try clear c30b1
          try clear c34
          try clear c40
          try clear c41
          try clear hcz17_0
          try clear hcz17_1
          try clear hcz17_2
          try clear hcz17_3
          try clear hcz17_4
          try clear hcz17_5
          try clear hcz23_0
          try clear hcz23_1
          try clear hcz23_2
          try clear hcz23_3
          try clear hcz23_4
          try clear hcz23_5
          try clear hcz29_0
          try clear hcz29_1
          try clear hcz29_2
          try clear hcz29_3
          try clear hcz29_4
          try clear hcz29_5
          try clear hcz35_0
          try clear hcz35_1
          try clear hcz35_2
          try clear hcz35_3
          try clear hcz35_4
          try clear hcz35_5
          try clear hcz42_0
          try clear hcz42_1
          try clear hcz42_2
          try clear hcz42_3
          try clear hcz42_4
          try clear hcz42_5
          try clear hcz6_0
          try clear hcz6_1
          try clear hcz6_2
          try clear hcz6_3
          try clear hcz6_4
          try clear hcz6_5
          try clear hfz17_0
          try clear hfz17_1
          try clear hfz17_2
          try clear hfz17_3
          try clear hfz17_4
          try clear hfz17_5
          try clear hfz23_0
          try clear hfz23_1
          try clear hfz23_2
          try clear hfz23_3
          try clear hfz23_4
          try clear hfz23_5
          try clear hfz29_0
          try clear hfz29_1
          try clear hfz29_2
          try clear hfz29_3
          try clear hfz29_4
          try clear hfz29_5
          try clear hfz35_0
          try clear hfz35_1
          try clear hfz35_2
          try clear hfz35_3
          try clear hfz35_4
          try clear hfz35_5
          try clear hfz42_0
          try clear hfz42_1
          try clear hfz42_2
          try clear hfz42_3
          try clear hfz42_4
          try clear hfz42_5
          try clear hfz6_0
          try clear hfz6_1
          try clear hfz6_2
          try clear hfz6_3
          try clear hfz6_4
          try clear hfz6_5
          try clear hx1600_0
          try clear p1600
          try clear p2
          try clear q1600
          obtain ⟨kq, x44_35, rfl, HA, HJ35, HO_4, BK1595, BK1596, HB⟩ := hcut
          cases kq with
          | zero => exact absurd HA.out (by simp [spec_CcRead.j1])
          | succ kj35 =>
           have H := HA.out
           clear HA
           simp only [spec_CcRead.j1] at H
           by_cases c43 : x44_35 = true
           ·subst c43
            have H1 : ((spec_l1Min.f x1597005_1 t1602).bind fun t1604 => (spec_CcRead.l0 kj35 t1597 (wrap64 (x5_1 + 1)) x1597000_1 x1597001_1 x1597002_1 x1597003_1 x1597004_1 t1604)) = some (r1, r2, r3, r4, r5, r6) := by rw [if_pos rfl] at H; exact H
            clear H
            have H := H1
            clear H1
            replace H := ob H
            obtain ⟨t1604, A440, H⟩ := H
            replace H : (spec_CcRead.l0 kj35 t1597 (wrap64 (x5_1 + 1)) x1597000_1 x1597001_1 x1597002_1 x1597003_1 x1597004_1 t1604) = some (r1, r2, r3, r4, r5, r6) := H
            have A44 := am A440
            clear A440
            have H' := am H
            clear H
            have hnb45 := NB1596_1595.out
            have hnc45 := NB1595_1596.out
            have hcz46_0 : wc.cell? ⟨gb1596, 0, none⟩ = some (.bool x1597000_1) := bc BK1596
            have hcz46_1 : wc.cell? ⟨gb1596, 1, none⟩ = some (.bool x1597001_1) := bc BK1596
            have hcz46_2 : wc.cell? ⟨gb1596, 2, none⟩ = some (.bool x1597002_1) := bc BK1596
            have hcz46_3 : wc.cell? ⟨gb1596, 3, none⟩ = some (.bool x1597003_1) := bc BK1596
            have hcz46_4 : wc.cell? ⟨gb1596, 4, none⟩ = some (.bool x1597004_1) := bc BK1596
            have hcz46_5 : wc.cell? ⟨gb1596, 5, none⟩ = some (.int .i64 x1597005_1) := bc BK1596
            have hfz46_0 := blk_frozen BK1596.out 0
            have hfz46_1 := blk_frozen BK1596.out 1
            have hfz46_2 := blk_frozen BK1596.out 2
            have hfz46_3 := blk_frozen BK1596.out 3
            have hfz46_4 := blk_frozen BK1596.out 4
            have hfz46_5 := blk_frozen BK1596.out 5
            go_wp2_with (first | ((with_reducible refine gate_callee (f := 160) rfl ?_); refine goesL_ (some 53) rfl rfl Tryd.func160 (by kernel_rfl) rfl #[.int .i64 x1597005_1, .int .i64 t1602] rfl ma ?_; (with_reducible refine (spec_l1Min.calls x1597005_1 t1602 t1604 _ A44.out).mono ?_); rintro e w' ⟨rfl, ⟨nd, rfl⟩⟩; refine ⟨_, rfl, ?_⟩; (try (rw [drewN_self wc]; generalize hq_ : World.drewN wc _ = wc; have n0_ : Aside0 (Kd.R Kd.string 9 wc w.heap.size (fun _ => True) (.slice (some ad1600) t1597.length co37) t1597) := ⟨by rw [← hq_]; exact (ro HO_4)⟩; have n1_ : Aside0 (wc.heap[gb1595]? = some (.cells #[.bool false, .bool false, .bool false, .bool false, .bool false, .int .i64 0] 106 (0, 0))) := ⟨by rw [← hq_]; exact (bk BK1595)⟩; have n2_ : Aside0 (wc.heap[gb1596]? = some (.cells #[.bool x1597000_1, .bool x1597001_1, .bool x1597002_1, .bool x1597003_1, .bool x1597004_1, .int .i64 x1597005_1] 106 (0, 0))) := ⟨by rw [← hq_]; exact (bk BK1596)⟩; have n3_ : Aside0 (Below w.heap.size w wc) := ⟨by rw [← hq_]; exact bl⟩; clear HO_4 BK1595 BK1596 HB hq_; have HO_4 := n0_; have BK1595 := n1_; have BK1596 := n2_; have HB := n3_; clear n0_ n1_ n2_ n3_; have hcz46_0 : wc.cell? ⟨gb1596, 0, none⟩ = some (.bool x1597000_1) := bc BK1596; have hcz46_1 : wc.cell? ⟨gb1596, 1, none⟩ = some (.bool x1597001_1) := bc BK1596; have hcz46_2 : wc.cell? ⟨gb1596, 2, none⟩ = some (.bool x1597002_1) := bc BK1596; have hcz46_3 : wc.cell? ⟨gb1596, 3, none⟩ = some (.bool x1597003_1) := bc BK1596; have hcz46_4 : wc.cell? ⟨gb1596, 4, none⟩ = some (.bool x1597004_1) := bc BK1596; have hcz46_5 : wc.cell? ⟨gb1596, 5, none⟩ = some (.int .i64 x1597005_1) := bc BK1596; have hfz46_0 := blk_frozen BK1596.out 0; have hfz46_1 := blk_frozen BK1596.out 1; have hfz46_2 := blk_frozen BK1596.out 2; have hfz46_3 := blk_frozen BK1596.out 3; have hfz46_4 := blk_frozen BK1596.out 4; have hfz46_5 := blk_frozen BK1596.out 5))))
            go_roundg kj35
            case measure => have := HK1.out; have := HJ35.out; omega
            case rel => exact ⟨(wrap64 (x5_1 + 1)), (x1597000_1), (x1597001_1), (x1597002_1), (x1597003_1), (x1597004_1), (t1604), rs, H', ⟨by have := HK1.out; have := HJ35.out; omega⟩, ⟨by (with_reducible repeat (first | apply Kd.R_alloc | apply Kd.R_drewN | apply Kd.R_drew)); exact Kd.R_mono (Kd.R_far (p := ⟨gb1596, 5, none⟩) (Kd.R_types HO_4.out BK1596.out (by decide)) (fun _ hk => hk.2) (.int .i64 t1604)) (fun _ hk => trivial)⟩, ⟨by (with_reducible repeat (first | refine blk_drewN ?_ _ | refine blk_drew ?_ | refine blk_alloc ?_ _)); refine blk_far ?_ NB1595_1596.out _; (with_reducible repeat (first | refine blk_drewN ?_ _ | refine blk_drew ?_ | refine blk_alloc ?_ _)); exact BK1595.out⟩, ⟨by (with_reducible repeat (first | refine blk_drewN ?_ _ | refine blk_drew ?_ | refine blk_alloc ?_ _)); refine blk_put (cs := #[.bool x1597000_1, .bool x1597001_1, .bool x1597002_1, .bool x1597003_1, .bool x1597004_1, .int .i64 x1597005_1]) ?_ 5 _ rfl; (with_reducible repeat (first | refine blk_drewN ?_ _ | refine blk_drew ?_ | refine blk_alloc ?_ _)); exact BK1596.out⟩, ⟨by repeat (first | (with_reducible first | exact HB.out | apply below_alloc | apply pw_below_drewN | apply below_drew1 | refine below_set ?_ GE1595.out | refine below_set ?_ GE1596.out) | exact HB.out)⟩⟩
           ·replace c43 := Bool.eq_false_iff.mpr c43
            subst c43
            have H1 : (if t1603 = true then (spec_CcRead.l0 kj35 t1597 (wrap64 (x5_1 + 1)) x1597000_1 x1597001_1 x1597002_1 x1597003_1 true t1602) else (spec_CcRead.l0 kj35 t1597 (wrap64 (x5_1 + 1)) x1597000_1 x1597001_1 x1597002_1 x1597003_1 x1597004_1 x1597005_1)) = some (r1, r2, r3, r4, r5, r6) := by rw [if_neg (show ¬ (false = true) by decide)] at H; exact H
            clear H
            have H := H1
            clear H1
            by_cases c47 : t1603 = true
            ·subst c47
             have H1 : (spec_CcRead.l0 kj35 t1597 (wrap64 (x5_1 + 1)) x1597000_1 x1597001_1 x1597002_1 x1597003_1 true t1602) = some (r1, r2, r3, r4, r5, r6) := by rw [if_pos rfl] at H; exact H
             clear H
             have H := H1
             clear H1
             have H' := am H
             clear H
             have hnb48 := NB1596_1595.out
             have hnc48 := NB1595_1596.out
             have hcz49_0 : wc.cell? ⟨gb1596, 0, none⟩ = some (.bool x1597000_1) := bc BK1596
             have hcz49_1 : wc.cell? ⟨gb1596, 1, none⟩ = some (.bool x1597001_1) := bc BK1596
             have hcz49_2 : wc.cell? ⟨gb1596, 2, none⟩ = some (.bool x1597002_1) := bc BK1596
             have hcz49_3 : wc.cell? ⟨gb1596, 3, none⟩ = some (.bool x1597003_1) := bc BK1596
             have hcz49_4 : wc.cell? ⟨gb1596, 4, none⟩ = some (.bool x1597004_1) := bc BK1596
             have hcz49_5 : wc.cell? ⟨gb1596, 5, none⟩ = some (.int .i64 x1597005_1) := bc BK1596
             have hfz49_0 := blk_frozen BK1596.out 0
             have hfz49_1 := blk_frozen BK1596.out 1
             have hfz49_2 := blk_frozen BK1596.out 2
             have hfz49_3 := blk_frozen BK1596.out 3
             have hfz49_4 := blk_frozen BK1596.out 4
             have hfz49_5 := blk_frozen BK1596.out 5
             go_wp2
             go_roundg kj35
             case measure => have := HK1.out; have := HJ35.out; omega
             case rel => exact ⟨(wrap64 (x5_1 + 1)), (x1597000_1), (x1597001_1), (x1597002_1), (x1597003_1), (true), (t1602), rs, H', ⟨by have := HK1.out; have := HJ35.out; omega⟩, ⟨by (with_reducible repeat (first | apply Kd.R_alloc | apply Kd.R_drewN | apply Kd.R_drew)); exact Kd.R_mono (Kd.R_far (p := ⟨gb1596, 5, none⟩) (Kd.R_far (p := ⟨gb1596, 4, none⟩) (Kd.R_types HO_4.out BK1596.out (by decide)) (fun _ hk => hk.2) (.bool true)) (fun _ hk => hk.2) (.int .i64 t1602)) (fun _ hk => trivial)⟩, ⟨by (with_reducible repeat (first | refine blk_drewN ?_ _ | refine blk_drew ?_ | refine blk_alloc ?_ _)); refine blk_far ?_ NB1595_1596.out _; (with_reducible repeat (first | refine blk_drewN ?_ _ | refine blk_drew ?_ | refine blk_alloc ?_ _)); refine blk_far ?_ NB1595_1596.out _; (with_reducible repeat (first | refine blk_drewN ?_ _ | refine blk_drew ?_ | refine blk_alloc ?_ _)); exact BK1595.out⟩, ⟨by (with_reducible repeat (first | refine blk_drewN ?_ _ | refine blk_drew ?_ | refine blk_alloc ?_ _)); refine blk_put (cs := #[.bool x1597000_1, .bool x1597001_1, .bool x1597002_1, .bool x1597003_1, .bool true, .int .i64 x1597005_1]) ?_ 5 _ rfl; (with_reducible repeat (first | refine blk_drewN ?_ _ | refine blk_drew ?_ | refine blk_alloc ?_ _)); refine blk_put (cs := #[.bool x1597000_1, .bool x1597001_1, .bool x1597002_1, .bool x1597003_1, .bool x1597004_1, .int .i64 x1597005_1]) ?_ 4 _ rfl; (with_reducible repeat (first | refine blk_drewN ?_ _ | refine blk_drew ?_ | refine blk_alloc ?_ _)); exact BK1596.out⟩, ⟨by repeat (first | (with_reducible first | exact HB.out | apply below_alloc | apply pw_below_drewN | apply below_drew1 | refine below_set ?_ GE1595.out | refine below_set ?_ GE1596.out) | exact HB.out)⟩⟩
            ·replace c47 := Bool.eq_false_iff.mpr c47
             subst c47
             have H1 : (spec_CcRead.l0 kj35 t1597 (wrap64 (x5_1 + 1)) x1597000_1 x1597001_1 x1597002_1 x1597003_1 x1597004_1 x1597005_1) = some (r1, r2, r3, r4, r5, r6) := by rw [if_neg (show ¬ (false = true) by decide)] at H; exact H
             clear H
             have H := H1
             clear H1
             have H' := am H
             clear H
             go_wp2
             go_roundg kj35
             case measure => have := HK1.out; have := HJ35.out; omega
             case rel => exact ⟨(wrap64 (x5_1 + 1)), (x1597000_1), (x1597001_1), (x1597002_1), (x1597003_1), (x1597004_1), (x1597005_1), rs, H', ⟨by have := HK1.out; have := HJ35.out; omega⟩, ⟨by (with_reducible repeat (first | apply Kd.R_alloc | apply Kd.R_drewN | apply Kd.R_drew)); exact HO_4.out⟩, ⟨by (with_reducible repeat (first | refine blk_drewN ?_ _ | refine blk_drew ?_ | refine blk_alloc ?_ _)); exact BK1595.out⟩, ⟨by (with_reducible repeat (first | refine blk_drewN ?_ _ | refine blk_drew ?_ | refine blk_alloc ?_ _)); exact BK1596.out⟩, ⟨by repeat (first | (with_reducible first | exact HB.out | apply below_alloc | apply pw_below_drewN | apply below_drew1 | refine below_set ?_ GE1595.out | refine below_set ?_ GE1596.out) | exact HB.out)⟩⟩
    ·rw [if_neg c9] at H
     exact absurd H (by simp)
   ·rw [if_neg c8] at H
    have c8b0 : decide (x5_1 < (t1597.length : Int)) = false := decide_eq_false c8
    clear c8
    simp only [Option.some.injEq, Prod.mk.injEq] at H
    obtain ⟨rfl, rfl, rfl, rfl, rfl, rfl⟩ := H
    obtain ⟨Ao50, co50, eo50⟩ := Kd.R_slice HO_4.out
    subst eo50
    have hnb51 := NB1596_1595.out
    have hnc51 := NB1595_1596.out
    have hcz52_0 : wr.cell? ⟨gb1596, 0, none⟩ = some (.bool x1597000_1) := bc BK1596
    have hcz52_1 : wr.cell? ⟨gb1596, 1, none⟩ = some (.bool x1597001_1) := bc BK1596
    have hcz52_2 : wr.cell? ⟨gb1596, 2, none⟩ = some (.bool x1597002_1) := bc BK1596
    have hcz52_3 : wr.cell? ⟨gb1596, 3, none⟩ = some (.bool x1597003_1) := bc BK1596
    have hcz52_4 : wr.cell? ⟨gb1596, 4, none⟩ = some (.bool x1597004_1) := bc BK1596
    have hcz52_5 : wr.cell? ⟨gb1596, 5, none⟩ = some (.int .i64 x1597005_1) := bc BK1596
    have hfz52_0 := blk_frozen BK1596.out 0
    have hfz52_1 := blk_frozen BK1596.out 1
    have hfz52_2 := blk_frozen BK1596.out 2
    have hfz52_3 := blk_frozen BK1596.out 3
    have hfz52_4 := blk_frozen BK1596.out 4
    have hfz52_5 := blk_frozen BK1596.out 5
    have hcz53_0 : wr.cell? ⟨gb1595, 0, none⟩ = some (.bool false) := bc BK1595
    have hcz53_1 : wr.cell? ⟨gb1595, 1, none⟩ = some (.bool false) := bc BK1595
    have hcz53_2 : wr.cell? ⟨gb1595, 2, none⟩ = some (.bool false) := bc BK1595
    have hcz53_3 : wr.cell? ⟨gb1595, 3, none⟩ = some (.bool false) := bc BK1595
    have hcz53_4 : wr.cell? ⟨gb1595, 4, none⟩ = some (.bool false) := bc BK1595
    have hcz53_5 : wr.cell? ⟨gb1595, 5, none⟩ = some (.int .i64 0) := bc BK1595
    have hfz53_0 := blk_frozen BK1595.out 0
    have hfz53_1 := blk_frozen BK1595.out 1
    have hfz53_2 := blk_frozen BK1595.out 2
    have hfz53_3 := blk_frozen BK1595.out 3
    have hfz53_4 := blk_frozen BK1595.out 4
    have hfz53_5 := blk_frozen BK1595.out 5
    go_wp2
    refine bodyPost_ret (results_cell_row rfl _ _ gb1595 106 #[.bool x1597000_1, .bool x1597001_1, .bool x1597002_1, .bool x1597003_1, .bool x1597004_1, .int .i64 x1597005_1] (0, 0) _ rfl (by (with_reducible repeat (first | refine blk_drewN ?_ _ | refine blk_drew ?_ | refine blk_alloc ?_ _)); refine blk_put (cs := #[.bool x1597000_1, .bool x1597001_1, .bool x1597002_1, .bool x1597003_1, .bool x1597004_1, .int .i64 0]) ?_ 5 _ rfl; (with_reducible repeat (first | refine blk_drewN ?_ _ | refine blk_drew ?_ | refine blk_alloc ?_ _)); refine blk_put (cs := #[.bool x1597000_1, .bool x1597001_1, .bool x1597002_1, .bool x1597003_1, .bool false, .int .i64 0]) ?_ 4 _ rfl; (with_reducible repeat (first | refine blk_drewN ?_ _ | refine blk_drew ?_ | refine blk_alloc ?_ _)); refine blk_put (cs := #[.bool x1597000_1, .bool x1597001_1, .bool x1597002_1, .bool false, .bool false, .int .i64 0]) ?_ 3 _ rfl; (with_reducible repeat (first | refine blk_drewN ?_ _ | refine blk_drew ?_ | refine blk_alloc ?_ _)); refine blk_put (cs := #[.bool x1597000_1, .bool x1597001_1, .bool false, .bool false, .bool false, .int .i64 0]) ?_ 2 _ rfl; (with_reducible repeat (first | refine blk_drewN ?_ _ | refine blk_drew ?_ | refine blk_alloc ?_ _)); refine blk_put (cs := #[.bool x1597000_1, .bool false, .bool false, .bool false, .bool false, .int .i64 0]) ?_ 1 _ rfl; (with_reducible repeat (first | refine blk_drewN ?_ _ | refine blk_drew ?_ | refine blk_alloc ?_ _)); refine blk_put (cs := #[.bool false, .bool false, .bool false, .bool false, .bool false, .int .i64 0]) ?_ 0 _ rfl; (with_reducible repeat (first | refine blk_drewN ?_ _ | refine blk_drew ?_ | refine blk_alloc ?_ _)); exact BK1595.out) Tryd.underlying106 rfl (by kernel_rfl)) rfl ?_
    exact ⟨rf, bl⟩

/-! ### stringslite_CutPrefix: function 213 -/
def stringslite_CutPrefix.f (a0 : ByteArray) (a1 : ByteArray) : Option (ByteArray × Bool) := (stringslite_HasPrefix.f a0 a1).bind fun t1605 => (if t1605 = true then (if 0 ≤ (a1.size : Int) then (if (a1.size : Int) ≤ (a0.size : Int) then (some (a0.extract ((a1.size : Int) : Int).toNat a0.size, true)) else (none)) else (none)) else (some (a0, false)))
set_option maxHeartbeats 8000000 in
set_option maxRecDepth 100000 in
theorem stringslite_CutPrefix.calls (a0 : ByteArray) (a1 : ByteArray) (r1 : ByteArray) (r2 : Bool) (w : World) (h : stringslite_CutPrefix.f a0 a1 = some (r1, r2)) :
  Calls Tryd.prog 213 #[.string a0, .string a1] w fun e w' => e = .returned (.tuple #[.string r1, .bool r2]) ∧ Drawn0 w w' := by
 have H : ((stringslite_HasPrefix.f a0 a1).bind fun t1605 => (if t1605 = true then (if 0 ≤ (a1.size : Int) then (if (a1.size : Int) ≤ (a0.size : Int) then (some (a0.extract ((a1.size : Int) : Int).toNat a0.size, true)) else (none)) else (none)) else (some (a0, false)))) = some (r1, r2) := h
 clear h
 replace H := ob H
 obtain ⟨t1605, A30, H⟩ := H
 replace H : (if t1605 = true then (if 0 ≤ (a1.size : Int) then (if (a1.size : Int) ≤ (a0.size : Int) then (some (a0.extract ((a1.size : Int) : Int).toNat a0.size, true)) else (none)) else (none)) else (some (a0, false))) = some (r1, r2) := H
 have A3 := am A30
 clear A30
 by_cases c4 : t1605 = true
 ·subst c4
  have H1 : (if 0 ≤ (a1.size : Int) then (if (a1.size : Int) ≤ (a0.size : Int) then (some (a0.extract ((a1.size : Int) : Int).toNat a0.size, true)) else (none)) else (none)) = some (r1, r2) := by rw [if_pos rfl] at H; exact H
  clear H
  have H := H1
  clear H1
  by_cases c5 : 0 ≤ (a1.size : Int)
  ·rw [if_pos c5] at H
   have c5b0 := eq_true c5
   have c5b1 : decide (0 ≤ (a1.size : Int)) = true := decide_eq_true c5
   clear c5
   by_cases c6 : (a1.size : Int) ≤ (a0.size : Int)
   ·rw [if_pos c6] at H
    have c6b0 := eq_true c6
    have c6b1 : decide ((a1.size : Int) ≤ (a0.size : Int)) = true := decide_eq_true c6
    clear c6
    simp only [Option.some.injEq, Prod.mk.injEq] at H
    obtain ⟨rfl, rfl⟩ := H
    go_enter Tryd.func213, Tryd.ntmps213
    go_wp2_with (first | ((with_reducible refine gate_callee (f := 182) rfl ?_); refine goesL_ (some 8) rfl rfl Tryd.func182 (by kernel_rfl) rfl #[.string a0, .string a1] rfl ma ?_; (with_reducible refine (stringslite_HasPrefix.calls a0 a1 true _ A3.out).mono ?_); rintro e w' ⟨rfl, ⟨nd, rfl⟩⟩; refine ⟨_, rfl, ?_⟩))
    go_ret2
    exact ⟨rs, dr⟩
   ·rw [if_neg c6] at H
    exact absurd H (by simp)
  ·rw [if_neg c5] at H
   exact absurd H (by simp)
 ·replace c4 := Bool.eq_false_iff.mpr c4
  subst c4
  have H1 : (some (a0, false)) = some (r1, r2) := by rw [if_neg (show ¬ (false = true) by decide)] at H; exact H
  clear H
  have H := H1
  clear H1
  simp only [Option.some.injEq, Prod.mk.injEq] at H
  obtain ⟨rfl, rfl⟩ := H
  go_enter Tryd.func213, Tryd.ntmps213
  go_wp2_with (first | ((with_reducible refine gate_callee (f := 182) rfl ?_); refine goesL_ (some 8) rfl rfl Tryd.func182 (by kernel_rfl) rfl #[.string a0, .string a1] rfl ma ?_; (with_reducible refine (stringslite_HasPrefix.calls a0 a1 false _ A3.out).mono ?_); rintro e w' ⟨rfl, ⟨nd, rfl⟩⟩; refine ⟨_, rfl, ?_⟩))
  go_ret2
  exact ⟨rs, dr⟩

/-! ### strings_CutPrefix: function 194 -/
def strings_CutPrefix.f (a0 : ByteArray) (a1 : ByteArray) : Option (ByteArray × Bool) := (stringslite_CutPrefix.f a0 a1).bind fun bt1606 => (some (bt1606.1, bt1606.2))
set_option maxHeartbeats 8000000 in
set_option maxRecDepth 100000 in
theorem strings_CutPrefix.calls (a0 : ByteArray) (a1 : ByteArray) (r1 : ByteArray) (r2 : Bool) (w : World) (h : strings_CutPrefix.f a0 a1 = some (r1, r2)) :
  Calls Tryd.prog 194 #[.string a0, .string a1] w fun e w' => e = .returned (.tuple #[.string r1, .bool r2]) ∧ Drawn0 w w' := by
 have H : ((stringslite_CutPrefix.f a0 a1).bind fun bt1606 => (some (bt1606.1, bt1606.2))) = some (r1, r2) := h
 clear h
 replace H := ob H
 obtain ⟨⟨t1606, t1607⟩, A30, H⟩ := H
 replace H : (some (t1606, t1607)) = some (r1, r2) := H
 have A3 := am A30
 clear A30
 simp only [Option.some.injEq, Prod.mk.injEq] at H
 obtain ⟨rfl, rfl⟩ := H
 go_enter Tryd.func194, Tryd.ntmps194
 go_wp2_with (first | ((with_reducible refine gate_callee (f := 213) rfl ?_); refine goesL_ (some 8) rfl rfl Tryd.func213 (by kernel_rfl) rfl #[.string a0, .string a1] rfl ma ?_; (with_reducible refine (stringslite_CutPrefix.calls a0 a1 t1606 t1607 _ A3.out).mono ?_); rintro e w' ⟨rfl, ⟨nd, rfl⟩⟩; refine ⟨_, rfl, ?_⟩))
 go_ret2
 exact ⟨rs, dr⟩

/-! #### words -/
/-- A state of type 106 at block g of W; what its slices lead to came in by w0. -/
def IsS106 (w0 W : World) (g : Nat) (f0 : Bool) (f1 : Bool) (f2 : Bool) (f3 : Bool) (f4 : Bool) (f5 : Int) : Prop := W.heap[g]? = some (.cells #[.bool f0, .bool f1, .bool f2, .bool f3, .bool f4, .int .i64 f5] 106 (0, 0)) ∧ w0.heap.size ≤ g
theorem IsS106.grown {w0 W : World} {g : Nat} {f0 : Bool} {f1 : Bool} {f2 : Bool} {f3 : Bool} {f4 : Bool} {f5 : Int} {W1 : World} {row : Option Nat} (h : IsS106 w0 W g f0 f1 f2 f3 f4 f5) (hw : W.grownBy W1 row) (hne : some g ≠ row) : IsS106 w0 W1 g f0 f1 f2 f3 f4 f5 := by
 obtain ⟨hb, hg⟩ := h
 exact ⟨blk_grown hb hw hne, hg⟩
theorem IsS106.own_neN {w0 W : World} {g : Nat} {f0 : Bool} {f1 : Bool} {f2 : Bool} {f3 : Bool} {f4 : Bool} {f5 : Int} {α : Type} {d : Kd α} {e : Nat} {base : Nat} {ok : Nat → Prop} {v : Value} {xs : List α} (h : IsS106 w0 W g f0 f1 f2 f3 f4 f5) (ho : Kd.N d e W base ok v xs) (ht : e ≠ 106) : some g ≠ v.ownBlock := by
 obtain ⟨hb, hg⟩ := h
 exact Kd.N_ne ho hb ht
theorem IsS106.fresh {w0 W : World} {g : Nat} {f0 : Bool} {f1 : Bool} {f2 : Bool} {f3 : Bool} {f4 : Bool} {f5 : Int} (h : IsS106 w0 W g f0 f1 f2 f3 f4 f5) : ∀ k, W.heap.size ≤ k → k ≠ g := by
 obtain ⟨hb, hg⟩ := h
 exact Kd.freshB hb
theorem IsS106.kept {w0 W : World} {g : Nat} {f0 : Bool} {f1 : Bool} {f2 : Bool} {f3 : Bool} {f4 : Bool} {f5 : Int} {W1 : World} {S : Nat → Prop} (h : IsS106 w0 W g f0 f1 f2 f3 f4 f5) (hk : Kept W W1 S) (hne : ¬ S g) : IsS106 w0 W1 g f0 f1 f2 f3 f4 f5 := by
 obtain ⟨hb, hg⟩ := h
 exact ⟨blk_kept hb hk hne, hg⟩
theorem IsS106.below {w0 W : World} {g : Nat} {f0 : Bool} {f1 : Bool} {f2 : Bool} {f3 : Bool} {f4 : Bool} {f5 : Int} {W1 : World} (h : IsS106 w0 W g f0 f1 f2 f3 f4 f5) (hw : Below W.heap.size W W1) : IsS106 w0 W1 g f0 f1 f2 f3 f4 f5 := h.grown (grown_of_below hw none) (by simp)
theorem IsS106.alloc {w0 W : World} {g : Nat} {f0 : Bool} {f1 : Bool} {f2 : Bool} {f3 : Bool} {f4 : Bool} {f5 : Int} (h : IsS106 w0 W g f0 f1 f2 f3 f4 f5) (o : Obj) : IsS106 w0 (W.alloc o) g f0 f1 f2 f3 f4 f5 := h.below (below_alloc (Below.refl _ _) o)
theorem IsS106.drewN {w0 W : World} {g : Nat} {f0 : Bool} {f1 : Bool} {f2 : Bool} {f3 : Bool} {f4 : Bool} {f5 : Int} (h : IsS106 w0 W g f0 f1 f2 f3 f4 f5) (m : Nat) : IsS106 w0 (W.drewN m) g f0 f1 f2 f3 f4 f5 := h
theorem IsS106.drew {w0 W : World} {g : Nat} {f0 : Bool} {f1 : Bool} {f2 : Bool} {f3 : Bool} {f4 : Bool} {f5 : Int} (h : IsS106 w0 W g f0 f1 f2 f3 f4 f5) : IsS106 w0 W.drew g f0 f1 f2 f3 f4 f5 := h
theorem IsS106.at_ {w0 W : World} {g : Nat} {f0 : Bool} {f1 : Bool} {f2 : Bool} {f3 : Bool} {f4 : Bool} {f5 : Int} {w' : World} {m : Nat} (hq : W.drewN m = w') (h : IsS106 w0 W g f0 f1 f2 f3 f4 f5) : IsS106 w0 w' g f0 f1 f2 f3 f4 f5 := by subst hq; exact IsS106.drewN h m
theorem IsS106.apart {w0 W : World} {g : Nat} {f0 : Bool} {f1 : Bool} {f2 : Bool} {f3 : Bool} {f4 : Bool} {f5 : Int} {α : Type} {d : Kd α} {e : Nat} {base : Nat} {ok : Nat → Prop} {v : Value} {xs : List α} (h : IsS106 w0 W g f0 f1 f2 f3 f4 f5) (ho : d.R e W base ok v xs) (ht : ∀ q, q ∈ e :: d.E → q ≠ 106) : d.R e W base (fun k => ok k ∧ k ≠ g) v xs := by
 obtain ⟨hb, hg⟩ := h
 exact Kd.R_types ho hb ht
theorem IsS106.own_ne {w0 W : World} {g : Nat} {f0 : Bool} {f1 : Bool} {f2 : Bool} {f3 : Bool} {f4 : Bool} {f5 : Int} {α : Type} {d : Kd α} {e : Nat} {base : Nat} {ok : Nat → Prop} {v : Value} {xs : List α} (h : IsS106 w0 W g f0 f1 f2 f3 f4 f5) (ho : d.R e W base ok v xs) (ht : e ≠ 106) : some g ≠ v.ownBlock := by
 obtain ⟨hb, hg⟩ := h
 exact Kd.R_ne ho hb ht
theorem IsS106.apartQ {w0 W : World} {g : Nat} {f0 : Bool} {f1 : Bool} {f2 : Bool} {f3 : Bool} {f4 : Bool} {f5 : Int} {α : Type} {d : Kd α} {e : Nat} {base : Nat} {ok : Nat → Prop} {v : Value} {xs : List α} (h : IsS106 w0 W g f0 f1 f2 f3 f4 f5) (ho : d.Q e W base ok v xs) (ht : ∀ q, q ∈ e :: d.E → q ≠ 106) : d.Q e W base (fun k => ok k ∧ k ≠ g) v xs := by
 obtain ⟨hb, hg⟩ := h
 exact Kd.Q_types ho hb ht
theorem IsS106.own_neQ {w0 W : World} {g : Nat} {f0 : Bool} {f1 : Bool} {f2 : Bool} {f3 : Bool} {f4 : Bool} {f5 : Int} {α : Type} {d : Kd α} {e : Nat} {base : Nat} {ok : Nat → Prop} {v : Value} {xs : List α} (h : IsS106 w0 W g f0 f1 f2 f3 f4 f5) (ho : d.Q e W base ok v xs) (ht : e ≠ 106) : some g ≠ v.ownBlock := by
 obtain ⟨hb, hg⟩ := h
 exact Kd.Q_ne ho hb ht
theorem IsS106.apartS {w0 W : World} {g : Nat} {f0 : Bool} {f1 : Bool} {f2 : Bool} {f3 : Bool} {f4 : Bool} {f5 : Int} {α : Type} {d : Kd α} {e : Nat} {base : Nat} {ok : Nat → Prop} {v : Value} {xs : List α} (h : IsS106 w0 W g f0 f1 f2 f3 f4 f5) (ho : d.S e W base ok v xs) (ht : ∀ q, q ∈ e :: d.E → q ≠ 106) : d.S e W base (fun k => ok k ∧ k ≠ g) v xs := by
 obtain ⟨hb, hg⟩ := h
 exact Kd.S_types ho hb ht
theorem IsS106.own_neS {w0 W : World} {g : Nat} {f0 : Bool} {f1 : Bool} {f2 : Bool} {f3 : Bool} {f4 : Bool} {f5 : Int} {α : Type} {d : Kd α} {e : Nat} {base : Nat} {ok : Nat → Prop} {v : Value} {xs : List α} (h : IsS106 w0 W g f0 f1 f2 f3 f4 f5) (ho : d.S e W base ok v xs) (ht : e ≠ 106) : some g ≠ v.ownBlock := by
 obtain ⟨hb, hg⟩ := h
 exact Kd.S_ne ho hb ht
theorem IsS106.lt {w0 W : World} {g : Nat} {f0 : Bool} {f1 : Bool} {f2 : Bool} {f3 : Bool} {f4 : Bool} {f5 : Int} (h : IsS106 w0 W g f0 f1 f2 f3 f4 f5) : g < W.heap.size := by
 obtain ⟨hb, hg⟩ := h
 exact blk_lt hb
theorem IsS106.ge {w0 W : World} {g : Nat} {f0 : Bool} {f1 : Bool} {f2 : Bool} {f3 : Bool} {f4 : Bool} {f5 : Int} (h : IsS106 w0 W g f0 f1 f2 f3 f4 f5) : w0.heap.size ≤ g := by
 obtain ⟨hb, hg⟩ := h
 exact hg
theorem IsS106.ne_blk {w0 W : World} {g : Nat} {f0 : Bool} {f1 : Bool} {f2 : Bool} {f3 : Bool} {f4 : Bool} {f5 : Int} {a : Nat} {cs : Array Value} {t : TypeId} {fr : Nat × Nat} (h : IsS106 w0 W g f0 f1 f2 f3 f4 f5) (hb2 : W.heap[a]? = some (.cells cs t fr)) (ht : t ≠ 106) : g ≠ a := by
 obtain ⟨hb, hg⟩ := h
 rintro rfl
 rw [hb] at hb2
 injection hb2 with hb2
 injection hb2 with _ ht2
 exact ht ht2.symm
theorem IsS106.far {w0 W : World} {g : Nat} {f0 : Bool} {f1 : Bool} {f2 : Bool} {f3 : Bool} {f4 : Bool} {f5 : Int} {p : Addr} (h : IsS106 w0 W g f0 f1 f2 f3 f4 f5) (hne : g ≠ p.block) (u : Value) : IsS106 w0 (W.setCell p u) g f0 f1 f2 f3 f4 f5 := by
 obtain ⟨hb, hg⟩ := h
 exact ⟨blk_far hb hne u, hg⟩
theorem cellS106_0 {W : World} {g : Nat} {f0 : Bool} {f1 : Bool} {f2 : Bool} {f3 : Bool} {f4 : Bool} {f5 : Int} (h : W.heap[g]? = some (.cells #[.bool f0, .bool f1, .bool f2, .bool f3, .bool f4, .int .i64 f5] 106 (0, 0))) : W.cell? ⟨g, 0, none⟩ = some (.bool f0) := (blk_cell h 0).trans rfl
theorem IsS106.set_0 {w0 W : World} {g : Nat} {f0 : Bool} {f1 : Bool} {f2 : Bool} {f3 : Bool} {f4 : Bool} {f5 : Int} (h : IsS106 w0 W g f0 f1 f2 f3 f4 f5) (x : Bool) : IsS106 w0 (W.setCell ⟨g, 0, none⟩ (.bool x)) g x f1 f2 f3 f4 f5 := by
 obtain ⟨hb, hg⟩ := h
 exact ⟨by simpa using blk_set hb 0 (.bool x), hg⟩
theorem cellS106_1 {W : World} {g : Nat} {f0 : Bool} {f1 : Bool} {f2 : Bool} {f3 : Bool} {f4 : Bool} {f5 : Int} (h : W.heap[g]? = some (.cells #[.bool f0, .bool f1, .bool f2, .bool f3, .bool f4, .int .i64 f5] 106 (0, 0))) : W.cell? ⟨g, 1, none⟩ = some (.bool f1) := (blk_cell h 1).trans rfl
theorem IsS106.set_1 {w0 W : World} {g : Nat} {f0 : Bool} {f1 : Bool} {f2 : Bool} {f3 : Bool} {f4 : Bool} {f5 : Int} (h : IsS106 w0 W g f0 f1 f2 f3 f4 f5) (x : Bool) : IsS106 w0 (W.setCell ⟨g, 1, none⟩ (.bool x)) g f0 x f2 f3 f4 f5 := by
 obtain ⟨hb, hg⟩ := h
 exact ⟨by simpa using blk_set hb 1 (.bool x), hg⟩
theorem cellS106_2 {W : World} {g : Nat} {f0 : Bool} {f1 : Bool} {f2 : Bool} {f3 : Bool} {f4 : Bool} {f5 : Int} (h : W.heap[g]? = some (.cells #[.bool f0, .bool f1, .bool f2, .bool f3, .bool f4, .int .i64 f5] 106 (0, 0))) : W.cell? ⟨g, 2, none⟩ = some (.bool f2) := (blk_cell h 2).trans rfl
theorem IsS106.set_2 {w0 W : World} {g : Nat} {f0 : Bool} {f1 : Bool} {f2 : Bool} {f3 : Bool} {f4 : Bool} {f5 : Int} (h : IsS106 w0 W g f0 f1 f2 f3 f4 f5) (x : Bool) : IsS106 w0 (W.setCell ⟨g, 2, none⟩ (.bool x)) g f0 f1 x f3 f4 f5 := by
 obtain ⟨hb, hg⟩ := h
 exact ⟨by simpa using blk_set hb 2 (.bool x), hg⟩
theorem cellS106_3 {W : World} {g : Nat} {f0 : Bool} {f1 : Bool} {f2 : Bool} {f3 : Bool} {f4 : Bool} {f5 : Int} (h : W.heap[g]? = some (.cells #[.bool f0, .bool f1, .bool f2, .bool f3, .bool f4, .int .i64 f5] 106 (0, 0))) : W.cell? ⟨g, 3, none⟩ = some (.bool f3) := (blk_cell h 3).trans rfl
theorem IsS106.set_3 {w0 W : World} {g : Nat} {f0 : Bool} {f1 : Bool} {f2 : Bool} {f3 : Bool} {f4 : Bool} {f5 : Int} (h : IsS106 w0 W g f0 f1 f2 f3 f4 f5) (x : Bool) : IsS106 w0 (W.setCell ⟨g, 3, none⟩ (.bool x)) g f0 f1 f2 x f4 f5 := by
 obtain ⟨hb, hg⟩ := h
 exact ⟨by simpa using blk_set hb 3 (.bool x), hg⟩
theorem cellS106_4 {W : World} {g : Nat} {f0 : Bool} {f1 : Bool} {f2 : Bool} {f3 : Bool} {f4 : Bool} {f5 : Int} (h : W.heap[g]? = some (.cells #[.bool f0, .bool f1, .bool f2, .bool f3, .bool f4, .int .i64 f5] 106 (0, 0))) : W.cell? ⟨g, 4, none⟩ = some (.bool f4) := (blk_cell h 4).trans rfl
theorem IsS106.set_4 {w0 W : World} {g : Nat} {f0 : Bool} {f1 : Bool} {f2 : Bool} {f3 : Bool} {f4 : Bool} {f5 : Int} (h : IsS106 w0 W g f0 f1 f2 f3 f4 f5) (x : Bool) : IsS106 w0 (W.setCell ⟨g, 4, none⟩ (.bool x)) g f0 f1 f2 f3 x f5 := by
 obtain ⟨hb, hg⟩ := h
 exact ⟨by simpa using blk_set hb 4 (.bool x), hg⟩
theorem cellS106_5 {W : World} {g : Nat} {f0 : Bool} {f1 : Bool} {f2 : Bool} {f3 : Bool} {f4 : Bool} {f5 : Int} (h : W.heap[g]? = some (.cells #[.bool f0, .bool f1, .bool f2, .bool f3, .bool f4, .int .i64 f5] 106 (0, 0))) : W.cell? ⟨g, 5, none⟩ = some (.int .i64 f5) := (blk_cell h 5).trans rfl
theorem IsS106.set_5 {w0 W : World} {g : Nat} {f0 : Bool} {f1 : Bool} {f2 : Bool} {f3 : Bool} {f4 : Bool} {f5 : Int} (h : IsS106 w0 W g f0 f1 f2 f3 f4 f5) (x : Int) : IsS106 w0 (W.setCell ⟨g, 5, none⟩ (.int .i64 x)) g f0 f1 f2 f3 f4 x := by
 obtain ⟨hb, hg⟩ := h
 exact ⟨by simpa using blk_set hb 5 (.int .i64 x), hg⟩
theorem IsS106.new (w0 W : World) (f0 : Bool) (f1 : Bool) (f2 : Bool) (f3 : Bool) (f4 : Bool) (f5 : Int) (hB : Below w0.heap.size w0 W) : IsS106 w0 (W.alloc (.cells #[.bool f0, .bool f1, .bool f2, .bool f3, .bool f4, .int .i64 f5] 106)) W.heap.size f0 f1 f2 f3 f4 f5 := ⟨by simpa using heap_alloc_new W _, hB.size⟩

end Go.Proofs.YtiinmfjbildclaaDoor.All
