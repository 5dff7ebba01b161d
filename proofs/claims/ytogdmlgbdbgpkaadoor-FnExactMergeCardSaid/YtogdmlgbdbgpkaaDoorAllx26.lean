-- Written by a program of this session (wip/tools/hprint.py) out of the translation. Lean checks it.
import Derived.Test.YtogdmlgbdbgpkaaDoorAllx0
import Derived.Test.YtogdmlgbdbgpkaaDoorAllx15
import Derived.Test.YtogdmlgbdbgpkaaDoorAllx24
import Derived.Test.YtogdmlgbdbgpkaaDoorAllx25
namespace Go.Proofs.YtogdmlgbdbgpkaaDoor.All
open Go.RowKit Go.Proofs.YtogdmlgbdbgpkaaDoorW.PrintWords Go.Proofs.YtogdmlgbdbgpkaaDoorW.PrintLast Go.Proofs.YtogdmlgbdbgpkaaDoorW.PrintMore
attribute [local go_sem] max2_int min2_int max_two min_two max_three min_three max_four min_four   -- for this text's walks alone
set_option linter.unusedVariables false
set_option linter.unusedSimpArgs false

/-! ### laws_FnExactMerge: function 11 -/
def laws_FnExactMerge.j0 : Nat → Bool → Int → List (S118) → ByteArray → Int → List (S118) → ByteArray → Int → List (S78) → ByteArray → Int → List (S78) → ByteArray → Option (Bool)
  | 0, _, _, _, _, _, _, _, _, _, _, _, _, _ => none
  | k + 1, x63, x550000, x550001, x550002, x551000, x551001, x551002, x569000, x569001, x569002, x587000, x587001, x587002 => if x63 = true then (some false) else ((laws_markResp.f k x587000 x587001 x587002 1).bind fun bt605 => ((laws_heldResp.f k x587000 bt605.2 x587002 1).bind fun t607 => (if t607 < 0 then (some false) else (if t607 = bt605.1 then ((laws_toResp.f k x550000 x550001 x550002).bind fun bt608 => ((laws_toResp.f k x551000 x551001 x551002).bind fun bt613 => ((impl_Merge.f k bt608.1 bt608.2.1 bt608.2.2 bt613.1 bt613.2.1 bt613.2.2).bind fun bt618 => ((laws_eqResp.f k bt618.1 bt618.2.1 bt618.2.2 x569000 x569001 x569002).bind fun t624 => (if t624 = true then ((laws_heldResp.f k x587000 bt605.2 x587002 1).bind fun t625 => (if t625 < 0 then (some false) else (if t625 = bt605.1 then (some true) else (some false)))) else (some false)))))) else (some false)))))
def laws_FnExactMerge.f (k : Nat) (a0_0 : Int) (l0_1 : List (S118)) (a0_2 : ByteArray) (a1_0 : Int) (l1_1 : List (S118)) (a1_2 : ByteArray) : Option (Bool) := (laws_szResp.f k a0_0 l0_1 a0_2 1048576).bind fun t551 => (if t551 < 0 then (some true) else ((laws_szResp.f k a1_0 l1_1 a1_2 t551).bind fun t552 => (if t552 < 0 then (some true) else ((laws_toResp.f k a0_0 l0_1 a0_2).bind fun bt553 => ((laws_toResp.f k a1_0 l1_1 a1_2).bind fun bt558 => ((spec_Merge.f k bt553.1 bt553.2.1 bt553.2.2 bt558.1 bt558.2.1 bt558.2.2).bind fun bt563 => ((laws_toResp.f k a0_0 l0_1 a0_2).bind fun bt569 => ((laws_toResp.f k a1_0 l1_1 a1_2).bind fun bt575 => ((impl_Merge.f k bt569.1 bt569.2.1 bt569.2.2 bt575.1 bt575.2.1 bt575.2.2).bind fun bt581 => ((laws_eqResp.f k bt581.1 bt581.2.1 bt581.2.2 bt563.1 bt563.2.1 bt563.2.2).bind fun t587 => (if t587 = true then ((laws_toResp.f k a0_0 l0_1 a0_2).bind fun bt588 => ((laws_eqResp.f k bt569.1 bt569.2.1 bt569.2.2 bt588.1 bt588.2.1 bt588.2.2).bind fun t593 => (if t593 = true then ((laws_toResp.f k a1_0 l1_1 a1_2).bind fun bt594 => ((laws_eqResp.f k bt575.1 bt575.2.1 bt575.2.2 bt594.1 bt594.2.1 bt594.2.2).bind fun t599 => (if t599 = true then ((laws_markResp.f k bt569.1 bt569.2.1 bt569.2.2 1).bind fun bt600 => ((laws_markResp.f k bt575.1 bt575.2.1 bt575.2.2 bt600.1).bind fun bt602 => (if bt602.1 < 0 then (laws_FnExactMerge.j0 k true a0_0 l0_1 a0_2 a1_0 l1_1 a1_2 bt563.1 bt563.2.1 bt563.2.2 bt581.1 bt581.2.1 bt581.2.2) else ((laws_eqResp.f k bt581.1 bt581.2.1 bt581.2.2 bt563.1 bt563.2.1 bt563.2.2).bind fun t604 => (laws_FnExactMerge.j0 k (!t604) a0_0 l0_1 a0_2 a1_0 l1_1 a1_2 bt563.1 bt563.2.1 bt563.2.2 bt581.1 bt581.2.1 bt581.2.2))))) else (some false)))) else (some false)))) else (some false))))))))))))
theorem laws_FnExactMerge.mono_l : ∀ k, (∀ y0 y1 y2 y3 y4 y5 y6 y7 y8 y9 y10 y11 y12, LeO (laws_FnExactMerge.j0 k y0 y1 y2 y3 y4 y5 y6 y7 y8 y9 y10 y11 y12) (laws_FnExactMerge.j0 (k + 1) y0 y1 y2 y3 y4 y5 y6 y7 y8 y9 y10 y11 y12))
  | 0 => fun _ _ _ _ _ _ _ _ _ _ _ _ _ r h => by simp [laws_FnExactMerge.j0] at h
  | k + 1 => by
    have ih0 := laws_FnExactMerge.mono_l k
    · intro y0 y1 y2 y3 y4 y5 y6 y7 y8 y9 y10 y11 y12
      unfold laws_FnExactMerge.j0
      repeat' first
      | (with_reducible exact ih0 _ _ _ _ _ _ _ _ _ _ _ _ _)
      | (with_reducible exact impl_Merge.mono _ _ _ _ _ _ _)
      | (with_reducible exact laws_eqResp.mono _ _ _ _ _ _ _)
      | (with_reducible exact laws_heldResp.mono _ _ _ _ _)
      | (with_reducible exact laws_markResp.mono _ _ _ _ _)
      | (with_reducible exact laws_szResp.mono _ _ _ _ _)
      | (with_reducible exact laws_toResp.mono _ _ _ _)
      | (with_reducible exact spec_Merge.mono _ _ _ _ _ _ _)
      | (with_reducible exact LeO.refl _)
      | (with_reducible exact LeO.none _)
      | (with_reducible refine LeO.ite ?_ ?_)
      | (with_reducible refine LeO.bind ?_ (fun _ => ?_))
      | exact ih0 _ _ _ _ _ _ _ _ _ _ _ _ _
      | exact impl_Merge.mono _ _ _ _ _ _ _
      | exact laws_eqResp.mono _ _ _ _ _ _ _
      | exact laws_heldResp.mono _ _ _ _ _
      | exact laws_markResp.mono _ _ _ _ _
      | exact laws_szResp.mono _ _ _ _ _
      | exact laws_toResp.mono _ _ _ _
      | exact spec_Merge.mono _ _ _ _ _ _ _
      | exact LeO.none _
      | refine LeO.ite ?_ ?_
      | refine LeO.bind ?_ (fun _ => ?_)
theorem laws_FnExactMerge.mono : ∀ a0 a1 a2 a3 a4 a5 k, LeO (laws_FnExactMerge.f k a0 a1 a2 a3 a4 a5) (laws_FnExactMerge.f (k + 1) a0 a1 a2 a3 a4 a5) := by
  intro a0 a1 a2 a3 a4 a5 k
  have ih0 := laws_FnExactMerge.mono_l k
  unfold laws_FnExactMerge.f
  repeat' first
      | (with_reducible exact ih0 _ _ _ _ _ _ _ _ _ _ _ _ _)
      | (with_reducible exact impl_Merge.mono _ _ _ _ _ _ _)
      | (with_reducible exact laws_eqResp.mono _ _ _ _ _ _ _)
      | (with_reducible exact laws_heldResp.mono _ _ _ _ _)
      | (with_reducible exact laws_markResp.mono _ _ _ _ _)
      | (with_reducible exact laws_szResp.mono _ _ _ _ _)
      | (with_reducible exact laws_toResp.mono _ _ _ _)
      | (with_reducible exact spec_Merge.mono _ _ _ _ _ _ _)
      | (with_reducible exact LeO.refl _)
      | (with_reducible exact LeO.none _)
      | (with_reducible refine LeO.ite ?_ ?_)
      | (with_reducible refine LeO.bind ?_ (fun _ => ?_))
      | exact ih0 _ _ _ _ _ _ _ _ _ _ _ _ _
      | exact impl_Merge.mono _ _ _ _ _ _ _
      | exact laws_eqResp.mono _ _ _ _ _ _ _
      | exact laws_heldResp.mono _ _ _ _ _
      | exact laws_markResp.mono _ _ _ _ _
      | exact laws_szResp.mono _ _ _ _ _
      | exact laws_toResp.mono _ _ _ _
      | exact spec_Merge.mono _ _ _ _ _ _ _
      | exact LeO.none _
      | refine LeO.ite ?_ ?_
      | refine LeO.bind ?_ (fun _ => ?_)
set_option maxHeartbeats 8000000 in
set_option maxRecDepth 100000 in
theorem laws_FnExactMerge.calls (k : Nat) (a0_0 : Int) (A0_1 : Option Addr) (c0_1 : Nat) (l0_1 : List (S118)) (a0_2 : ByteArray) (a1_0 : Int) (A1_1 : Option Addr) (c1_1 : Nat) (l1_1 : List (S118)) (a1_2 : ByteArray) (r : Bool) (w : World) (hr0_1 : Kd.C k118 w A0_1 l0_1.length l0_1) (hc0_1 : l0_1.length ≤ c0_1) (hr1_1 : Kd.C k118 w A1_1 l1_1.length l1_1) (hc1_1 : l1_1.length ≤ c1_1) (ht_ : r = true) (h : laws_FnExactMerge.f k a0_0 l0_1 a0_2 a1_0 l1_1 a1_2 = some r) :
    Calls Tryd.prog 11 #[.agg #[.int .i64 a0_0, .slice A0_1 l0_1.length c0_1, .string a0_2], .agg #[.int .i64 a1_0, .slice A1_1 l1_1.length c1_1, .string a1_2]] w fun e w' => e = .returned (.bool r) ∧ Below w.heap.size w w' := by
  have hu48 := Tryd.underlying48
  have hu52 := Tryd.underlying52
  have HR0_1 := Aside0.mk hr0_1
  have HC0_1 := Aside0.mk hc0_1
  clear hr0_1 hc0_1
  have HR1_1 := Aside0.mk hr1_1
  have HC1_1 := Aside0.mk hc1_1
  clear hr1_1 hc1_1
  have HB := Aside0.mk (Below.refl w.heap.size w)
  have H : ((laws_szResp.f k a0_0 l0_1 a0_2 1048576).bind fun t551 => (if t551 < 0 then (some true) else ((laws_szResp.f k a1_0 l1_1 a1_2 t551).bind fun t552 => (if t552 < 0 then (some true) else ((laws_toResp.f k a0_0 l0_1 a0_2).bind fun bt553 => ((laws_toResp.f k a1_0 l1_1 a1_2).bind fun bt558 => ((spec_Merge.f k bt553.1 bt553.2.1 bt553.2.2 bt558.1 bt558.2.1 bt558.2.2).bind fun bt563 => ((laws_toResp.f k a0_0 l0_1 a0_2).bind fun bt569 => ((laws_toResp.f k a1_0 l1_1 a1_2).bind fun bt575 => ((impl_Merge.f k bt569.1 bt569.2.1 bt569.2.2 bt575.1 bt575.2.1 bt575.2.2).bind fun bt581 => ((laws_eqResp.f k bt581.1 bt581.2.1 bt581.2.2 bt563.1 bt563.2.1 bt563.2.2).bind fun t587 => (if t587 = true then ((laws_toResp.f k a0_0 l0_1 a0_2).bind fun bt588 => ((laws_eqResp.f k bt569.1 bt569.2.1 bt569.2.2 bt588.1 bt588.2.1 bt588.2.2).bind fun t593 => (if t593 = true then ((laws_toResp.f k a1_0 l1_1 a1_2).bind fun bt594 => ((laws_eqResp.f k bt575.1 bt575.2.1 bt575.2.2 bt594.1 bt594.2.1 bt594.2.2).bind fun t599 => (if t599 = true then ((laws_markResp.f k bt569.1 bt569.2.1 bt569.2.2 1).bind fun bt600 => ((laws_markResp.f k bt575.1 bt575.2.1 bt575.2.2 bt600.1).bind fun bt602 => (if bt602.1 < 0 then (laws_FnExactMerge.j0 k true a0_0 l0_1 a0_2 a1_0 l1_1 a1_2 bt563.1 bt563.2.1 bt563.2.2 bt581.1 bt581.2.1 bt581.2.2) else ((laws_eqResp.f k bt581.1 bt581.2.1 bt581.2.2 bt563.1 bt563.2.1 bt563.2.2).bind fun t604 => (laws_FnExactMerge.j0 k (!t604) a0_0 l0_1 a0_2 a1_0 l1_1 a1_2 bt563.1 bt563.2.1 bt563.2.2 bt581.1 bt581.2.1 bt581.2.2))))) else (some false)))) else (some false)))) else (some false))))))))))))) = some r := h
  clear h
  replace H := Option.bind_eq_some_iff.mp H
  obtain ⟨t551, A30, H⟩ := H
  replace H : (if t551 < 0 then (some true) else ((laws_szResp.f k a1_0 l1_1 a1_2 t551).bind fun t552 => (if t552 < 0 then (some true) else ((laws_toResp.f k a0_0 l0_1 a0_2).bind fun bt553 => ((laws_toResp.f k a1_0 l1_1 a1_2).bind fun bt558 => ((spec_Merge.f k bt553.1 bt553.2.1 bt553.2.2 bt558.1 bt558.2.1 bt558.2.2).bind fun bt563 => ((laws_toResp.f k a0_0 l0_1 a0_2).bind fun bt569 => ((laws_toResp.f k a1_0 l1_1 a1_2).bind fun bt575 => ((impl_Merge.f k bt569.1 bt569.2.1 bt569.2.2 bt575.1 bt575.2.1 bt575.2.2).bind fun bt581 => ((laws_eqResp.f k bt581.1 bt581.2.1 bt581.2.2 bt563.1 bt563.2.1 bt563.2.2).bind fun t587 => (if t587 = true then ((laws_toResp.f k a0_0 l0_1 a0_2).bind fun bt588 => ((laws_eqResp.f k bt569.1 bt569.2.1 bt569.2.2 bt588.1 bt588.2.1 bt588.2.2).bind fun t593 => (if t593 = true then ((laws_toResp.f k a1_0 l1_1 a1_2).bind fun bt594 => ((laws_eqResp.f k bt575.1 bt575.2.1 bt575.2.2 bt594.1 bt594.2.1 bt594.2.2).bind fun t599 => (if t599 = true then ((laws_markResp.f k bt569.1 bt569.2.1 bt569.2.2 1).bind fun bt600 => ((laws_markResp.f k bt575.1 bt575.2.1 bt575.2.2 bt600.1).bind fun bt602 => (if bt602.1 < 0 then (laws_FnExactMerge.j0 k true a0_0 l0_1 a0_2 a1_0 l1_1 a1_2 bt563.1 bt563.2.1 bt563.2.2 bt581.1 bt581.2.1 bt581.2.2) else ((laws_eqResp.f k bt581.1 bt581.2.1 bt581.2.2 bt563.1 bt563.2.1 bt563.2.2).bind fun t604 => (laws_FnExactMerge.j0 k (!t604) a0_0 l0_1 a0_2 a1_0 l1_1 a1_2 bt563.1 bt563.2.1 bt563.2.2 bt581.1 bt581.2.1 bt581.2.2))))) else (some false)))) else (some false)))) else (some false)))))))))))) = some r := H
  have A3 := Aside0.mk A30
  clear A30
  by_cases c4 : t551 < 0
  · rw [if_pos c4] at H
    have c4b0 : decide (t551 < 0) = true := decide_eq_true c4
    clear c4
    obtain rfl := Option.some.inj H
    go_enter Tryd.func11, Tryd.ntmps11
    go_wp2_with (first | ((with_reducible refine gate_dst (N := 2) rfl ?_); refine box_event ?hg (N := 2) ?hd (cs := #[.int .i64 a0_0, .slice A0_1 l0_1.length c0_1, .string a0_2]) (t := 48) ?hr ?_; (case hd => rfl); (case hg => rfl); (case hr => first | (go_simp; done) | (go_simp; rfl)); intro gb549 hg w5 hbox hb; have n0_ := Aside0.mk (below_step bl hb); have n1_ := Aside0.mk (hbox); have n2_ := Aside0.mk ((by rw [hg]; exact (below_size bl) : w.heap.size ≤ gb549)); have n3_ := Aside0.mk ((by rw [hg]; exact (below_size bl) : w.heap.size ≤ gb549)); clear HB; have HB := n0_; have BK549 := n1_; have GW549 := n2_; have GE549 := n3_; clear n0_ n1_ n2_ n3_; clear hb hbox hg) | ((with_reducible refine gate_dst (N := 3) rfl ?_); refine box_event ?hg (N := 3) ?hd (cs := #[.int .i64 a1_0, .slice A1_1 l1_1.length c1_1, .string a1_2]) (t := 48) ?hr ?_; (case hd => rfl); (case hg => rfl); (case hr => first | (go_simp; done) | (go_simp; rfl)); intro gb550 hg w6 hbox hb; have n0_ := Aside0.mk (blk_below (g := gb549) (o := .cells #[.int .i64 a0_0, .slice A0_1 l0_1.length c0_1, .string a0_2] 48 (0, 0)) (bk BK549) hb); have n1_ := Aside0.mk (below_step bl hb); have n2_ := Aside0.mk (hbox); have n3_ := Aside0.mk ((by rw [hg]; exact (below_size bl) : w.heap.size ≤ gb550)); have n4_ := Aside0.mk ((by rw [hg]; exact (below_size bl) : w.heap.size ≤ gb550)); have n5_ := Aside0.mk ((by rw [hg]; exact Nat.ne_of_lt (blk_lt (g := gb549) (o := .cells #[.int .i64 a0_0, .slice A0_1 l0_1.length c0_1, .string a0_2] 48 (0, 0)) (bk BK549)) : gb549 ≠ gb550)); have n6_ := Aside0.mk ((by rw [hg]; exact Nat.ne_of_gt (blk_lt (g := gb549) (o := .cells #[.int .i64 a0_0, .slice A0_1 l0_1.length c0_1, .string a0_2] 48 (0, 0)) (bk BK549)) : gb550 ≠ gb549)); clear BK549; clear HB; have BK549 := n0_; have HB := n1_; have BK550 := n2_; have GW550 := n3_; have GE550 := n4_; have NB549_550 := n5_; have NB550_549 := n6_; clear n0_ n1_ n2_ n3_ n4_ n5_ n6_; clear hb hbox hg; have hnb7 := NB549_550.out; have hnc7 := NB550_549.out; have hcz8_0 : w6.cell? ⟨gb549, 0, none⟩ = some (.int .i64 a0_0) := (blk_cell BK549.out 0).trans rfl; have hcz8_1 : w6.cell? ⟨gb549, 1, none⟩ = some (.slice A0_1 l0_1.length c0_1) := (blk_cell BK549.out 1).trans rfl; have hcz8_2 : w6.cell? ⟨gb549, 2, none⟩ = some (.string a0_2) := (blk_cell BK549.out 2).trans rfl; have hfz8_0 := blk_frozen BK549.out 0; have hfz8_1 := blk_frozen BK549.out 1; have hfz8_2 := blk_frozen BK549.out 2) | ((with_reducible refine gate_callee (f := 40) rfl ?_); refine goesL_ (some 16) rfl rfl Tryd.func40 (by kernel_rfl) rfl #[.agg #[.int .i64 a0_0, .slice A0_1 l0_1.length c0_1, .string a0_2], .int .i64 1048576] rfl ma ?_; (with_reducible refine (laws_szResp.calls k a0_0 _ _ l0_1 a0_2 1048576 t551 _ ?side1 ?side2 A3.out).mono ?_); (case side1 => repeat (first | exact (Kd.C_below HR0_1.out HB.out) | (with_reducible refine Kd.C_alloc ?_ _) | (with_reducible refine Kd.C_drewN ?_ _) | (with_reducible refine Kd.C_drew ?_))); (case side2 => exact HC0_1.out); rintro e w9 ⟨rfl, hb⟩; refine ⟨_, rfl, ?_⟩; replace BK549 := kb BK549 hb; replace BK550 := kb BK550 hb; replace HB := Aside0.mk (below_step bl hb); (try clear hb); (try clear hb2); (try clear hk); (try clear hi)))
    go_ret
    exact ⟨rf, bl⟩
  · rw [if_neg c4] at H
    have c4b0 : decide (t551 < 0) = false := decide_eq_false c4
    clear c4
    replace H := Option.bind_eq_some_iff.mp H
    obtain ⟨t552, A100, H⟩ := H
    replace H : (if t552 < 0 then (some true) else ((laws_toResp.f k a0_0 l0_1 a0_2).bind fun bt553 => ((laws_toResp.f k a1_0 l1_1 a1_2).bind fun bt558 => ((spec_Merge.f k bt553.1 bt553.2.1 bt553.2.2 bt558.1 bt558.2.1 bt558.2.2).bind fun bt563 => ((laws_toResp.f k a0_0 l0_1 a0_2).bind fun bt569 => ((laws_toResp.f k a1_0 l1_1 a1_2).bind fun bt575 => ((impl_Merge.f k bt569.1 bt569.2.1 bt569.2.2 bt575.1 bt575.2.1 bt575.2.2).bind fun bt581 => ((laws_eqResp.f k bt581.1 bt581.2.1 bt581.2.2 bt563.1 bt563.2.1 bt563.2.2).bind fun t587 => (if t587 = true then ((laws_toResp.f k a0_0 l0_1 a0_2).bind fun bt588 => ((laws_eqResp.f k bt569.1 bt569.2.1 bt569.2.2 bt588.1 bt588.2.1 bt588.2.2).bind fun t593 => (if t593 = true then ((laws_toResp.f k a1_0 l1_1 a1_2).bind fun bt594 => ((laws_eqResp.f k bt575.1 bt575.2.1 bt575.2.2 bt594.1 bt594.2.1 bt594.2.2).bind fun t599 => (if t599 = true then ((laws_markResp.f k bt569.1 bt569.2.1 bt569.2.2 1).bind fun bt600 => ((laws_markResp.f k bt575.1 bt575.2.1 bt575.2.2 bt600.1).bind fun bt602 => (if bt602.1 < 0 then (laws_FnExactMerge.j0 k true a0_0 l0_1 a0_2 a1_0 l1_1 a1_2 bt563.1 bt563.2.1 bt563.2.2 bt581.1 bt581.2.1 bt581.2.2) else ((laws_eqResp.f k bt581.1 bt581.2.1 bt581.2.2 bt563.1 bt563.2.1 bt563.2.2).bind fun t604 => (laws_FnExactMerge.j0 k (!t604) a0_0 l0_1 a0_2 a1_0 l1_1 a1_2 bt563.1 bt563.2.1 bt563.2.2 bt581.1 bt581.2.1 bt581.2.2))))) else (some false)))) else (some false)))) else (some false)))))))))) = some r := H
    have A10 := Aside0.mk A100
    clear A100
    by_cases c11 : t552 < 0
    · rw [if_pos c11] at H
      have c11b0 : decide (t552 < 0) = true := decide_eq_true c11
      clear c11
      obtain rfl := Option.some.inj H
      go_enter Tryd.func11, Tryd.ntmps11
      go_wp2_with (first | ((with_reducible refine gate_dst (N := 2) rfl ?_); refine box_event ?hg (N := 2) ?hd (cs := #[.int .i64 a0_0, .slice A0_1 l0_1.length c0_1, .string a0_2]) (t := 48) ?hr ?_; (case hd => rfl); (case hg => rfl); (case hr => first | (go_simp; done) | (go_simp; rfl)); intro gb549 hg w12 hbox hb; have n0_ := Aside0.mk (below_step bl hb); have n1_ := Aside0.mk (hbox); have n2_ := Aside0.mk ((by rw [hg]; exact (below_size bl) : w.heap.size ≤ gb549)); have n3_ := Aside0.mk ((by rw [hg]; exact (below_size bl) : w.heap.size ≤ gb549)); clear HB; have HB := n0_; have BK549 := n1_; have GW549 := n2_; have GE549 := n3_; clear n0_ n1_ n2_ n3_; clear hb hbox hg) | ((with_reducible refine gate_dst (N := 3) rfl ?_); refine box_event ?hg (N := 3) ?hd (cs := #[.int .i64 a1_0, .slice A1_1 l1_1.length c1_1, .string a1_2]) (t := 48) ?hr ?_; (case hd => rfl); (case hg => rfl); (case hr => first | (go_simp; done) | (go_simp; rfl)); intro gb550 hg w13 hbox hb; have n0_ := Aside0.mk (blk_below (g := gb549) (o := .cells #[.int .i64 a0_0, .slice A0_1 l0_1.length c0_1, .string a0_2] 48 (0, 0)) (bk BK549) hb); have n1_ := Aside0.mk (below_step bl hb); have n2_ := Aside0.mk (hbox); have n3_ := Aside0.mk ((by rw [hg]; exact (below_size bl) : w.heap.size ≤ gb550)); have n4_ := Aside0.mk ((by rw [hg]; exact (below_size bl) : w.heap.size ≤ gb550)); have n5_ := Aside0.mk ((by rw [hg]; exact Nat.ne_of_lt (blk_lt (g := gb549) (o := .cells #[.int .i64 a0_0, .slice A0_1 l0_1.length c0_1, .string a0_2] 48 (0, 0)) (bk BK549)) : gb549 ≠ gb550)); have n6_ := Aside0.mk ((by rw [hg]; exact Nat.ne_of_gt (blk_lt (g := gb549) (o := .cells #[.int .i64 a0_0, .slice A0_1 l0_1.length c0_1, .string a0_2] 48 (0, 0)) (bk BK549)) : gb550 ≠ gb549)); clear BK549; clear HB; have BK549 := n0_; have HB := n1_; have BK550 := n2_; have GW550 := n3_; have GE550 := n4_; have NB549_550 := n5_; have NB550_549 := n6_; clear n0_ n1_ n2_ n3_ n4_ n5_ n6_; clear hb hbox hg; have hnb14 := NB549_550.out; have hnc14 := NB550_549.out; have hcz15_0 : w13.cell? ⟨gb549, 0, none⟩ = some (.int .i64 a0_0) := (blk_cell BK549.out 0).trans rfl; have hcz15_1 : w13.cell? ⟨gb549, 1, none⟩ = some (.slice A0_1 l0_1.length c0_1) := (blk_cell BK549.out 1).trans rfl; have hcz15_2 : w13.cell? ⟨gb549, 2, none⟩ = some (.string a0_2) := (blk_cell BK549.out 2).trans rfl; have hfz15_0 := blk_frozen BK549.out 0; have hfz15_1 := blk_frozen BK549.out 1; have hfz15_2 := blk_frozen BK549.out 2) | ((with_reducible refine gate_callee (f := 40) rfl ?_); refine goesL_ (some 16) rfl rfl Tryd.func40 (by kernel_rfl) rfl #[.agg #[.int .i64 a0_0, .slice A0_1 l0_1.length c0_1, .string a0_2], .int .i64 1048576] rfl ma ?_; (with_reducible refine (laws_szResp.calls k a0_0 _ _ l0_1 a0_2 1048576 t551 _ ?side1 ?side2 A3.out).mono ?_); (case side1 => repeat (first | exact (Kd.C_below HR0_1.out HB.out) | (with_reducible refine Kd.C_alloc ?_ _) | (with_reducible refine Kd.C_drewN ?_ _) | (with_reducible refine Kd.C_drew ?_))); (case side2 => exact HC0_1.out); rintro e w16 ⟨rfl, hb⟩; refine ⟨_, rfl, ?_⟩; replace BK549 := kb BK549 hb; replace BK550 := kb BK550 hb; replace HB := Aside0.mk (below_step bl hb); (try clear hb); (try clear hb2); (try clear hk); (try clear hi); have hcz17_0 : w16.cell? ⟨gb550, 0, none⟩ = some (.int .i64 a1_0) := (blk_cell BK550.out 0).trans rfl; have hcz17_1 : w16.cell? ⟨gb550, 1, none⟩ = some (.slice A1_1 l1_1.length c1_1) := (blk_cell BK550.out 1).trans rfl; have hcz17_2 : w16.cell? ⟨gb550, 2, none⟩ = some (.string a1_2) := (blk_cell BK550.out 2).trans rfl; have hfz17_0 := blk_frozen BK550.out 0; have hfz17_1 := blk_frozen BK550.out 1; have hfz17_2 := blk_frozen BK550.out 2) | ((with_reducible refine gate_callee (f := 40) rfl ?_); refine goesL_ (some 21) rfl rfl Tryd.func40 (by kernel_rfl) rfl #[.agg #[.int .i64 a1_0, .slice A1_1 l1_1.length c1_1, .string a1_2], .int .i64 t551] rfl ma ?_; (with_reducible refine (laws_szResp.calls k a1_0 _ _ l1_1 a1_2 t551 t552 _ ?side1 ?side2 A10.out).mono ?_); (case side1 => repeat (first | exact (Kd.C_below HR1_1.out HB.out) | (with_reducible refine Kd.C_alloc ?_ _) | (with_reducible refine Kd.C_drewN ?_ _) | (with_reducible refine Kd.C_drew ?_))); (case side2 => exact HC1_1.out); rintro e w18 ⟨rfl, hb⟩; refine ⟨_, rfl, ?_⟩; replace BK549 := kb BK549 hb; replace BK550 := kb BK550 hb; replace HB := Aside0.mk (below_step bl hb); (try clear hb); (try clear hb2); (try clear hk); (try clear hi)))
      go_ret
      exact ⟨rf, bl⟩
    · rw [if_neg c11] at H
      have c11b0 : decide (t552 < 0) = false := decide_eq_false c11
      clear c11
      replace H := Option.bind_eq_some_iff.mp H
      obtain ⟨⟨t553, t554, t557⟩, A190, H⟩ := H
      replace H : ((laws_toResp.f k a1_0 l1_1 a1_2).bind fun bt558 => ((spec_Merge.f k t553 t554 t557 bt558.1 bt558.2.1 bt558.2.2).bind fun bt563 => ((laws_toResp.f k a0_0 l0_1 a0_2).bind fun bt569 => ((laws_toResp.f k a1_0 l1_1 a1_2).bind fun bt575 => ((impl_Merge.f k bt569.1 bt569.2.1 bt569.2.2 bt575.1 bt575.2.1 bt575.2.2).bind fun bt581 => ((laws_eqResp.f k bt581.1 bt581.2.1 bt581.2.2 bt563.1 bt563.2.1 bt563.2.2).bind fun t587 => (if t587 = true then ((laws_toResp.f k a0_0 l0_1 a0_2).bind fun bt588 => ((laws_eqResp.f k bt569.1 bt569.2.1 bt569.2.2 bt588.1 bt588.2.1 bt588.2.2).bind fun t593 => (if t593 = true then ((laws_toResp.f k a1_0 l1_1 a1_2).bind fun bt594 => ((laws_eqResp.f k bt575.1 bt575.2.1 bt575.2.2 bt594.1 bt594.2.1 bt594.2.2).bind fun t599 => (if t599 = true then ((laws_markResp.f k bt569.1 bt569.2.1 bt569.2.2 1).bind fun bt600 => ((laws_markResp.f k bt575.1 bt575.2.1 bt575.2.2 bt600.1).bind fun bt602 => (if bt602.1 < 0 then (laws_FnExactMerge.j0 k true a0_0 l0_1 a0_2 a1_0 l1_1 a1_2 bt563.1 bt563.2.1 bt563.2.2 bt581.1 bt581.2.1 bt581.2.2) else ((laws_eqResp.f k bt581.1 bt581.2.1 bt581.2.2 bt563.1 bt563.2.1 bt563.2.2).bind fun t604 => (laws_FnExactMerge.j0 k (!t604) a0_0 l0_1 a0_2 a1_0 l1_1 a1_2 bt563.1 bt563.2.1 bt563.2.2 bt581.1 bt581.2.1 bt581.2.2))))) else (some false)))) else (some false)))) else (some false)))))))) = some r := H
      have A19 := Aside0.mk A190
      clear A190
      replace H := Option.bind_eq_some_iff.mp H
      obtain ⟨⟨t558, t559, t562⟩, A200, H⟩ := H
      replace H : ((spec_Merge.f k t553 t554 t557 t558 t559 t562).bind fun bt563 => ((laws_toResp.f k a0_0 l0_1 a0_2).bind fun bt569 => ((laws_toResp.f k a1_0 l1_1 a1_2).bind fun bt575 => ((impl_Merge.f k bt569.1 bt569.2.1 bt569.2.2 bt575.1 bt575.2.1 bt575.2.2).bind fun bt581 => ((laws_eqResp.f k bt581.1 bt581.2.1 bt581.2.2 bt563.1 bt563.2.1 bt563.2.2).bind fun t587 => (if t587 = true then ((laws_toResp.f k a0_0 l0_1 a0_2).bind fun bt588 => ((laws_eqResp.f k bt569.1 bt569.2.1 bt569.2.2 bt588.1 bt588.2.1 bt588.2.2).bind fun t593 => (if t593 = true then ((laws_toResp.f k a1_0 l1_1 a1_2).bind fun bt594 => ((laws_eqResp.f k bt575.1 bt575.2.1 bt575.2.2 bt594.1 bt594.2.1 bt594.2.2).bind fun t599 => (if t599 = true then ((laws_markResp.f k bt569.1 bt569.2.1 bt569.2.2 1).bind fun bt600 => ((laws_markResp.f k bt575.1 bt575.2.1 bt575.2.2 bt600.1).bind fun bt602 => (if bt602.1 < 0 then (laws_FnExactMerge.j0 k true a0_0 l0_1 a0_2 a1_0 l1_1 a1_2 bt563.1 bt563.2.1 bt563.2.2 bt581.1 bt581.2.1 bt581.2.2) else ((laws_eqResp.f k bt581.1 bt581.2.1 bt581.2.2 bt563.1 bt563.2.1 bt563.2.2).bind fun t604 => (laws_FnExactMerge.j0 k (!t604) a0_0 l0_1 a0_2 a1_0 l1_1 a1_2 bt563.1 bt563.2.1 bt563.2.2 bt581.1 bt581.2.1 bt581.2.2))))) else (some false)))) else (some false)))) else (some false))))))) = some r := H
      have A20 := Aside0.mk A200
      clear A200
      replace H := Option.bind_eq_some_iff.mp H
      obtain ⟨⟨t563, t564, t567⟩, A210, H⟩ := H
      replace H : ((laws_toResp.f k a0_0 l0_1 a0_2).bind fun bt569 => ((laws_toResp.f k a1_0 l1_1 a1_2).bind fun bt575 => ((impl_Merge.f k bt569.1 bt569.2.1 bt569.2.2 bt575.1 bt575.2.1 bt575.2.2).bind fun bt581 => ((laws_eqResp.f k bt581.1 bt581.2.1 bt581.2.2 t563 t564 t567).bind fun t587 => (if t587 = true then ((laws_toResp.f k a0_0 l0_1 a0_2).bind fun bt588 => ((laws_eqResp.f k bt569.1 bt569.2.1 bt569.2.2 bt588.1 bt588.2.1 bt588.2.2).bind fun t593 => (if t593 = true then ((laws_toResp.f k a1_0 l1_1 a1_2).bind fun bt594 => ((laws_eqResp.f k bt575.1 bt575.2.1 bt575.2.2 bt594.1 bt594.2.1 bt594.2.2).bind fun t599 => (if t599 = true then ((laws_markResp.f k bt569.1 bt569.2.1 bt569.2.2 1).bind fun bt600 => ((laws_markResp.f k bt575.1 bt575.2.1 bt575.2.2 bt600.1).bind fun bt602 => (if bt602.1 < 0 then (laws_FnExactMerge.j0 k true a0_0 l0_1 a0_2 a1_0 l1_1 a1_2 t563 t564 t567 bt581.1 bt581.2.1 bt581.2.2) else ((laws_eqResp.f k bt581.1 bt581.2.1 bt581.2.2 t563 t564 t567).bind fun t604 => (laws_FnExactMerge.j0 k (!t604) a0_0 l0_1 a0_2 a1_0 l1_1 a1_2 t563 t564 t567 bt581.1 bt581.2.1 bt581.2.2))))) else (some false)))) else (some false)))) else (some false)))))) = some r := H
      have A21 := Aside0.mk A210
      clear A210
      replace H := Option.bind_eq_some_iff.mp H
      obtain ⟨⟨t569, t570, t573⟩, A220, H⟩ := H
      replace H : ((laws_toResp.f k a1_0 l1_1 a1_2).bind fun bt575 => ((impl_Merge.f k t569 t570 t573 bt575.1 bt575.2.1 bt575.2.2).bind fun bt581 => ((laws_eqResp.f k bt581.1 bt581.2.1 bt581.2.2 t563 t564 t567).bind fun t587 => (if t587 = true then ((laws_toResp.f k a0_0 l0_1 a0_2).bind fun bt588 => ((laws_eqResp.f k t569 t570 t573 bt588.1 bt588.2.1 bt588.2.2).bind fun t593 => (if t593 = true then ((laws_toResp.f k a1_0 l1_1 a1_2).bind fun bt594 => ((laws_eqResp.f k bt575.1 bt575.2.1 bt575.2.2 bt594.1 bt594.2.1 bt594.2.2).bind fun t599 => (if t599 = true then ((laws_markResp.f k t569 t570 t573 1).bind fun bt600 => ((laws_markResp.f k bt575.1 bt575.2.1 bt575.2.2 bt600.1).bind fun bt602 => (if bt602.1 < 0 then (laws_FnExactMerge.j0 k true a0_0 l0_1 a0_2 a1_0 l1_1 a1_2 t563 t564 t567 bt581.1 bt581.2.1 bt581.2.2) else ((laws_eqResp.f k bt581.1 bt581.2.1 bt581.2.2 t563 t564 t567).bind fun t604 => (laws_FnExactMerge.j0 k (!t604) a0_0 l0_1 a0_2 a1_0 l1_1 a1_2 t563 t564 t567 bt581.1 bt581.2.1 bt581.2.2))))) else (some false)))) else (some false)))) else (some false))))) = some r := H
      have A22 := Aside0.mk A220
      clear A220
      replace H := Option.bind_eq_some_iff.mp H
      obtain ⟨⟨t575, t576, t579⟩, A230, H⟩ := H
      replace H : ((impl_Merge.f k t569 t570 t573 t575 t576 t579).bind fun bt581 => ((laws_eqResp.f k bt581.1 bt581.2.1 bt581.2.2 t563 t564 t567).bind fun t587 => (if t587 = true then ((laws_toResp.f k a0_0 l0_1 a0_2).bind fun bt588 => ((laws_eqResp.f k t569 t570 t573 bt588.1 bt588.2.1 bt588.2.2).bind fun t593 => (if t593 = true then ((laws_toResp.f k a1_0 l1_1 a1_2).bind fun bt594 => ((laws_eqResp.f k t575 t576 t579 bt594.1 bt594.2.1 bt594.2.2).bind fun t599 => (if t599 = true then ((laws_markResp.f k t569 t570 t573 1).bind fun bt600 => ((laws_markResp.f k t575 t576 t579 bt600.1).bind fun bt602 => (if bt602.1 < 0 then (laws_FnExactMerge.j0 k true a0_0 l0_1 a0_2 a1_0 l1_1 a1_2 t563 t564 t567 bt581.1 bt581.2.1 bt581.2.2) else ((laws_eqResp.f k bt581.1 bt581.2.1 bt581.2.2 t563 t564 t567).bind fun t604 => (laws_FnExactMerge.j0 k (!t604) a0_0 l0_1 a0_2 a1_0 l1_1 a1_2 t563 t564 t567 bt581.1 bt581.2.1 bt581.2.2))))) else (some false)))) else (some false)))) else (some false)))) = some r := H
      have A23 := Aside0.mk A230
      clear A230
      replace H := Option.bind_eq_some_iff.mp H
      obtain ⟨⟨t581, t582, t585⟩, A240, H⟩ := H
      replace H : ((laws_eqResp.f k t581 t582 t585 t563 t564 t567).bind fun t587 => (if t587 = true then ((laws_toResp.f k a0_0 l0_1 a0_2).bind fun bt588 => ((laws_eqResp.f k t569 t570 t573 bt588.1 bt588.2.1 bt588.2.2).bind fun t593 => (if t593 = true then ((laws_toResp.f k a1_0 l1_1 a1_2).bind fun bt594 => ((laws_eqResp.f k t575 t576 t579 bt594.1 bt594.2.1 bt594.2.2).bind fun t599 => (if t599 = true then ((laws_markResp.f k t569 t570 t573 1).bind fun bt600 => ((laws_markResp.f k t575 t576 t579 bt600.1).bind fun bt602 => (if bt602.1 < 0 then (laws_FnExactMerge.j0 k true a0_0 l0_1 a0_2 a1_0 l1_1 a1_2 t563 t564 t567 t581 t582 t585) else ((laws_eqResp.f k t581 t582 t585 t563 t564 t567).bind fun t604 => (laws_FnExactMerge.j0 k (!t604) a0_0 l0_1 a0_2 a1_0 l1_1 a1_2 t563 t564 t567 t581 t582 t585))))) else (some false)))) else (some false)))) else (some false))) = some r := H
      have A24 := Aside0.mk A240
      clear A240
      replace H := Option.bind_eq_some_iff.mp H
      obtain ⟨t587, A250, H⟩ := H
      replace H : (if t587 = true then ((laws_toResp.f k a0_0 l0_1 a0_2).bind fun bt588 => ((laws_eqResp.f k t569 t570 t573 bt588.1 bt588.2.1 bt588.2.2).bind fun t593 => (if t593 = true then ((laws_toResp.f k a1_0 l1_1 a1_2).bind fun bt594 => ((laws_eqResp.f k t575 t576 t579 bt594.1 bt594.2.1 bt594.2.2).bind fun t599 => (if t599 = true then ((laws_markResp.f k t569 t570 t573 1).bind fun bt600 => ((laws_markResp.f k t575 t576 t579 bt600.1).bind fun bt602 => (if bt602.1 < 0 then (laws_FnExactMerge.j0 k true a0_0 l0_1 a0_2 a1_0 l1_1 a1_2 t563 t564 t567 t581 t582 t585) else ((laws_eqResp.f k t581 t582 t585 t563 t564 t567).bind fun t604 => (laws_FnExactMerge.j0 k (!t604) a0_0 l0_1 a0_2 a1_0 l1_1 a1_2 t563 t564 t567 t581 t582 t585))))) else (some false)))) else (some false)))) else (some false)) = some r := H
      have A25 := Aside0.mk A250
      clear A250
      by_cases c26 : t587 = true
      · subst c26
        have H1 : ((laws_toResp.f k a0_0 l0_1 a0_2).bind fun bt588 => ((laws_eqResp.f k t569 t570 t573 bt588.1 bt588.2.1 bt588.2.2).bind fun t593 => (if t593 = true then ((laws_toResp.f k a1_0 l1_1 a1_2).bind fun bt594 => ((laws_eqResp.f k t575 t576 t579 bt594.1 bt594.2.1 bt594.2.2).bind fun t599 => (if t599 = true then ((laws_markResp.f k t569 t570 t573 1).bind fun bt600 => ((laws_markResp.f k t575 t576 t579 bt600.1).bind fun bt602 => (if bt602.1 < 0 then (laws_FnExactMerge.j0 k true a0_0 l0_1 a0_2 a1_0 l1_1 a1_2 t563 t564 t567 t581 t582 t585) else ((laws_eqResp.f k t581 t582 t585 t563 t564 t567).bind fun t604 => (laws_FnExactMerge.j0 k (!t604) a0_0 l0_1 a0_2 a1_0 l1_1 a1_2 t563 t564 t567 t581 t582 t585))))) else (some false)))) else (some false)))) = some r := by rw [if_pos rfl] at H; exact H
        clear H
        have H := H1
        clear H1
        replace H := Option.bind_eq_some_iff.mp H
        obtain ⟨⟨t588, t589, t592⟩, A270, H⟩ := H
        replace H : ((laws_eqResp.f k t569 t570 t573 t588 t589 t592).bind fun t593 => (if t593 = true then ((laws_toResp.f k a1_0 l1_1 a1_2).bind fun bt594 => ((laws_eqResp.f k t575 t576 t579 bt594.1 bt594.2.1 bt594.2.2).bind fun t599 => (if t599 = true then ((laws_markResp.f k t569 t570 t573 1).bind fun bt600 => ((laws_markResp.f k t575 t576 t579 bt600.1).bind fun bt602 => (if bt602.1 < 0 then (laws_FnExactMerge.j0 k true a0_0 l0_1 a0_2 a1_0 l1_1 a1_2 t563 t564 t567 t581 t582 t585) else ((laws_eqResp.f k t581 t582 t585 t563 t564 t567).bind fun t604 => (laws_FnExactMerge.j0 k (!t604) a0_0 l0_1 a0_2 a1_0 l1_1 a1_2 t563 t564 t567 t581 t582 t585))))) else (some false)))) else (some false))) = some r := H
        have A27 := Aside0.mk A270
        clear A270
        replace H := Option.bind_eq_some_iff.mp H
        obtain ⟨t593, A280, H⟩ := H
        replace H : (if t593 = true then ((laws_toResp.f k a1_0 l1_1 a1_2).bind fun bt594 => ((laws_eqResp.f k t575 t576 t579 bt594.1 bt594.2.1 bt594.2.2).bind fun t599 => (if t599 = true then ((laws_markResp.f k t569 t570 t573 1).bind fun bt600 => ((laws_markResp.f k t575 t576 t579 bt600.1).bind fun bt602 => (if bt602.1 < 0 then (laws_FnExactMerge.j0 k true a0_0 l0_1 a0_2 a1_0 l1_1 a1_2 t563 t564 t567 t581 t582 t585) else ((laws_eqResp.f k t581 t582 t585 t563 t564 t567).bind fun t604 => (laws_FnExactMerge.j0 k (!t604) a0_0 l0_1 a0_2 a1_0 l1_1 a1_2 t563 t564 t567 t581 t582 t585))))) else (some false)))) else (some false)) = some r := H
        have A28 := Aside0.mk A280
        clear A280
        by_cases c29 : t593 = true
        · subst c29
          have H1 : ((laws_toResp.f k a1_0 l1_1 a1_2).bind fun bt594 => ((laws_eqResp.f k t575 t576 t579 bt594.1 bt594.2.1 bt594.2.2).bind fun t599 => (if t599 = true then ((laws_markResp.f k t569 t570 t573 1).bind fun bt600 => ((laws_markResp.f k t575 t576 t579 bt600.1).bind fun bt602 => (if bt602.1 < 0 then (laws_FnExactMerge.j0 k true a0_0 l0_1 a0_2 a1_0 l1_1 a1_2 t563 t564 t567 t581 t582 t585) else ((laws_eqResp.f k t581 t582 t585 t563 t564 t567).bind fun t604 => (laws_FnExactMerge.j0 k (!t604) a0_0 l0_1 a0_2 a1_0 l1_1 a1_2 t563 t564 t567 t581 t582 t585))))) else (some false)))) = some r := by rw [if_pos rfl] at H; exact H
          clear H
          have H := H1
          clear H1
          replace H := Option.bind_eq_some_iff.mp H
          obtain ⟨⟨t594, t595, t598⟩, A300, H⟩ := H
          replace H : ((laws_eqResp.f k t575 t576 t579 t594 t595 t598).bind fun t599 => (if t599 = true then ((laws_markResp.f k t569 t570 t573 1).bind fun bt600 => ((laws_markResp.f k t575 t576 t579 bt600.1).bind fun bt602 => (if bt602.1 < 0 then (laws_FnExactMerge.j0 k true a0_0 l0_1 a0_2 a1_0 l1_1 a1_2 t563 t564 t567 t581 t582 t585) else ((laws_eqResp.f k t581 t582 t585 t563 t564 t567).bind fun t604 => (laws_FnExactMerge.j0 k (!t604) a0_0 l0_1 a0_2 a1_0 l1_1 a1_2 t563 t564 t567 t581 t582 t585))))) else (some false))) = some r := H
          have A30 := Aside0.mk A300
          clear A300
          replace H := Option.bind_eq_some_iff.mp H
          obtain ⟨t599, A310, H⟩ := H
          replace H : (if t599 = true then ((laws_markResp.f k t569 t570 t573 1).bind fun bt600 => ((laws_markResp.f k t575 t576 t579 bt600.1).bind fun bt602 => (if bt602.1 < 0 then (laws_FnExactMerge.j0 k true a0_0 l0_1 a0_2 a1_0 l1_1 a1_2 t563 t564 t567 t581 t582 t585) else ((laws_eqResp.f k t581 t582 t585 t563 t564 t567).bind fun t604 => (laws_FnExactMerge.j0 k (!t604) a0_0 l0_1 a0_2 a1_0 l1_1 a1_2 t563 t564 t567 t581 t582 t585))))) else (some false)) = some r := H
          have A31 := Aside0.mk A310
          clear A310
          by_cases c32 : t599 = true
          · subst c32
            have H1 : ((laws_markResp.f k t569 t570 t573 1).bind fun bt600 => ((laws_markResp.f k t575 t576 t579 bt600.1).bind fun bt602 => (if bt602.1 < 0 then (laws_FnExactMerge.j0 k true a0_0 l0_1 a0_2 a1_0 l1_1 a1_2 t563 t564 t567 t581 t582 t585) else ((laws_eqResp.f k t581 t582 t585 t563 t564 t567).bind fun t604 => (laws_FnExactMerge.j0 k (!t604) a0_0 l0_1 a0_2 a1_0 l1_1 a1_2 t563 t564 t567 t581 t582 t585))))) = some r := by rw [if_pos rfl] at H; exact H
            clear H
            have H := H1
            clear H1
            replace H := Option.bind_eq_some_iff.mp H
            obtain ⟨⟨t600, t601⟩, A330, H⟩ := H
            replace H : ((laws_markResp.f k t575 t576 t579 t600).bind fun bt602 => (if bt602.1 < 0 then (laws_FnExactMerge.j0 k true a0_0 l0_1 a0_2 a1_0 l1_1 a1_2 t563 t564 t567 t581 t582 t585) else ((laws_eqResp.f k t581 t582 t585 t563 t564 t567).bind fun t604 => (laws_FnExactMerge.j0 k (!t604) a0_0 l0_1 a0_2 a1_0 l1_1 a1_2 t563 t564 t567 t581 t582 t585)))) = some r := H
            have A33 := Aside0.mk A330
            clear A330
            replace H := Option.bind_eq_some_iff.mp H
            obtain ⟨⟨t602, t603⟩, A340, H⟩ := H
            replace H : (if t602 < 0 then (laws_FnExactMerge.j0 k true a0_0 l0_1 a0_2 a1_0 l1_1 a1_2 t563 t564 t567 t581 t582 t585) else ((laws_eqResp.f k t581 t582 t585 t563 t564 t567).bind fun t604 => (laws_FnExactMerge.j0 k (!t604) a0_0 l0_1 a0_2 a1_0 l1_1 a1_2 t563 t564 t567 t581 t582 t585))) = some r := H
            have A34 := Aside0.mk A340
            clear A340
            have HC35 := Aside0.mk H
            clear H
            go_enter Tryd.func11, Tryd.ntmps11
            try go_wp2_with (first | ((with_reducible refine gate_dst (N := 2) rfl ?_); refine box_event ?hg (N := 2) ?hd (cs := #[.int .i64 a0_0, .slice A0_1 l0_1.length c0_1, .string a0_2]) (t := 48) ?hr ?_; (case hd => rfl); (case hg => rfl); (case hr => first | (go_simp; done) | (go_simp; rfl)); intro gb549 hg w36 hbox hb; have n0_ := Aside0.mk (below_step bl hb); have n1_ := Aside0.mk (hbox); have n2_ := Aside0.mk ((by rw [hg]; exact (below_size bl) : w.heap.size ≤ gb549)); have n3_ := Aside0.mk ((by rw [hg]; exact (below_size bl) : w.heap.size ≤ gb549)); clear HB; have HB := n0_; have BK549 := n1_; have GW549 := n2_; have GE549 := n3_; clear n0_ n1_ n2_ n3_; clear hb hbox hg) | ((with_reducible refine gate_dst (N := 3) rfl ?_); refine box_event ?hg (N := 3) ?hd (cs := #[.int .i64 a1_0, .slice A1_1 l1_1.length c1_1, .string a1_2]) (t := 48) ?hr ?_; (case hd => rfl); (case hg => rfl); (case hr => first | (go_simp; done) | (go_simp; rfl)); intro gb550 hg w37 hbox hb; have n0_ := Aside0.mk (blk_below (g := gb549) (o := .cells #[.int .i64 a0_0, .slice A0_1 l0_1.length c0_1, .string a0_2] 48 (0, 0)) (bk BK549) hb); have n1_ := Aside0.mk (below_step bl hb); have n2_ := Aside0.mk (hbox); have n3_ := Aside0.mk ((by rw [hg]; exact (below_size bl) : w.heap.size ≤ gb550)); have n4_ := Aside0.mk ((by rw [hg]; exact (below_size bl) : w.heap.size ≤ gb550)); have n5_ := Aside0.mk ((by rw [hg]; exact Nat.ne_of_lt (blk_lt (g := gb549) (o := .cells #[.int .i64 a0_0, .slice A0_1 l0_1.length c0_1, .string a0_2] 48 (0, 0)) (bk BK549)) : gb549 ≠ gb550)); have n6_ := Aside0.mk ((by rw [hg]; exact Nat.ne_of_gt (blk_lt (g := gb549) (o := .cells #[.int .i64 a0_0, .slice A0_1 l0_1.length c0_1, .string a0_2] 48 (0, 0)) (bk BK549)) : gb550 ≠ gb549)); clear BK549; clear HB; have BK549 := n0_; have HB := n1_; have BK550 := n2_; have GW550 := n3_; have GE550 := n4_; have NB549_550 := n5_; have NB550_549 := n6_; clear n0_ n1_ n2_ n3_ n4_ n5_ n6_; clear hb hbox hg; have hnb38 := NB549_550.out; have hnc38 := NB550_549.out; have hcz39_0 : w37.cell? ⟨gb549, 0, none⟩ = some (.int .i64 a0_0) := (blk_cell BK549.out 0).trans rfl; have hcz39_1 : w37.cell? ⟨gb549, 1, none⟩ = some (.slice A0_1 l0_1.length c0_1) := (blk_cell BK549.out 1).trans rfl; have hcz39_2 : w37.cell? ⟨gb549, 2, none⟩ = some (.string a0_2) := (blk_cell BK549.out 2).trans rfl; have hfz39_0 := blk_frozen BK549.out 0; have hfz39_1 := blk_frozen BK549.out 1; have hfz39_2 := blk_frozen BK549.out 2) | ((with_reducible refine gate_callee (f := 40) rfl ?_); refine goesL_ (some 16) rfl rfl Tryd.func40 (by kernel_rfl) rfl #[.agg #[.int .i64 a0_0, .slice A0_1 l0_1.length c0_1, .string a0_2], .int .i64 1048576] rfl ma ?_; (with_reducible refine (laws_szResp.calls k a0_0 _ _ l0_1 a0_2 1048576 t551 _ ?side1 ?side2 A3.out).mono ?_); (case side1 => repeat (first | exact (Kd.C_below HR0_1.out HB.out) | (with_reducible refine Kd.C_alloc ?_ _) | (with_reducible refine Kd.C_drewN ?_ _) | (with_reducible refine Kd.C_drew ?_))); (case side2 => exact HC0_1.out); rintro e w40 ⟨rfl, hb⟩; refine ⟨_, rfl, ?_⟩; replace BK549 := kb BK549 hb; replace BK550 := kb BK550 hb; replace HB := Aside0.mk (below_step bl hb); (try clear hb); (try clear hb2); (try clear hk); (try clear hi); have hcz41_0 : w40.cell? ⟨gb550, 0, none⟩ = some (.int .i64 a1_0) := (blk_cell BK550.out 0).trans rfl; have hcz41_1 : w40.cell? ⟨gb550, 1, none⟩ = some (.slice A1_1 l1_1.length c1_1) := (blk_cell BK550.out 1).trans rfl; have hcz41_2 : w40.cell? ⟨gb550, 2, none⟩ = some (.string a1_2) := (blk_cell BK550.out 2).trans rfl; have hfz41_0 := blk_frozen BK550.out 0; have hfz41_1 := blk_frozen BK550.out 1; have hfz41_2 := blk_frozen BK550.out 2) | ((with_reducible refine gate_callee (f := 40) rfl ?_); refine goesL_ (some 21) rfl rfl Tryd.func40 (by kernel_rfl) rfl #[.agg #[.int .i64 a1_0, .slice A1_1 l1_1.length c1_1, .string a1_2], .int .i64 t551] rfl ma ?_; (with_reducible refine (laws_szResp.calls k a1_0 _ _ l1_1 a1_2 t551 t552 _ ?side1 ?side2 A10.out).mono ?_); (case side1 => repeat (first | exact (Kd.C_below HR1_1.out HB.out) | (with_reducible refine Kd.C_alloc ?_ _) | (with_reducible refine Kd.C_drewN ?_ _) | (with_reducible refine Kd.C_drew ?_))); (case side2 => exact HC1_1.out); rintro e w42 ⟨rfl, hb⟩; refine ⟨_, rfl, ?_⟩; replace BK549 := kb BK549 hb; replace BK550 := kb BK550 hb; replace HB := Aside0.mk (below_step bl hb); (try clear hb); (try clear hb2); (try clear hk); (try clear hi)))
            replace BK549 := Aside0.mk (blk_drew BK549.out)
            replace BK550 := Aside0.mk (blk_drew BK550.out)
            replace HB := Aside0.mk (below_drew1 HB.out)
            refine start_ (n := 7) (S := fun w' => w'.cell? ⟨gb549, 0, none⟩ = some (.int .i64 a0_0) ∧ w'.cell? ⟨gb549, 1, none⟩ = some (.slice A0_1 l0_1.length c0_1) ∧ w'.cell? ⟨gb549, 2, none⟩ = some (.string a0_2) ∧ w'.cell? ⟨gb550, 0, none⟩ = some (.int .i64 a1_0) ∧ w'.cell? ⟨gb550, 1, none⟩ = some (.slice A1_1 l1_1.length c1_1) ∧ w'.cell? ⟨gb550, 2, none⟩ = some (.string a1_2)) (ds := []) #[false, false, false, false, false, false, false] (by kernel_rfl) rfl rfl ⟨(blk_cell BK549.out 0).trans rfl, (blk_cell BK549.out 1).trans rfl, (blk_cell BK549.out 2).trans rfl, (blk_cell BK550.out 0).trans rfl, (blk_cell BK550.out 1).trans rfl, (blk_cell BK550.out 2).trans rfl⟩ (fun hHeld => ?_)
            generalize w42.drew = w43 at BK549 BK550 HB hHeld ⊢
            refine take_ (i := 0) (N := some 24) (v := ?_) (a' := ?_) #[true, false, false, false, false, false, false] rfl rfl (by kernel_rfl) (fun _ _ _ h => h) (Or.inl ⟨by rfl, ?_⟩) hHeld ?_ ?_
            rotate_left
            · rintro w' ⟨s0, s1, s2, s3, s4, s5⟩
              go_simp
              with_reducible rfl
            rotate_left
            · simp only [Act.put, List.setIfInBounds_toArray, List.set_cons_zero, List.set_cons_succ, i64_w, i32_w]
              rfl
            refine take_ (i := 2) (N := some 26) (v := ?_) (a' := ?_) #[true, false, true, false, false, false, false] rfl rfl (by kernel_rfl) (fun _ _ _ h => h) (Or.inl ⟨by rfl, ?_⟩) hHeld ?_ ?_
            rotate_left
            · rintro w' ⟨s0, s1, s2, s3, s4, s5⟩
              go_simp
              with_reducible rfl
            rotate_left
            · simp only [Act.put, List.setIfInBounds_toArray, List.set_cons_zero, List.set_cons_succ, i64_w, i32_w]
              rfl
            refine join_ (σ := Value × Value × Value × Nat) 1 #[true, true, true, true, true, true, false] (fun s_ => [(25, .agg #[.int .i64 t553, s_.1, .string t557]), (27, .agg #[.int .i64 t558, s_.2.1, .string t562]), (28, .agg #[.int .i64 t563, s_.2.2.1, .string t567]), (6, .pointer (some ⟨s_.2.2.2, 0, none⟩))]) (fun s_ w' => (w'.cell? ⟨gb549, 0, none⟩ = some (.int .i64 a0_0) ∧ w'.cell? ⟨gb549, 1, none⟩ = some (.slice A0_1 l0_1.length c0_1) ∧ w'.cell? ⟨gb549, 2, none⟩ = some (.string a0_2) ∧ w'.cell? ⟨gb550, 0, none⟩ = some (.int .i64 a1_0) ∧ w'.cell? ⟨gb550, 1, none⟩ = some (.slice A1_1 l1_1.length c1_1) ∧ w'.cell? ⟨gb550, 2, none⟩ = some (.string a1_2)) ∧ (Kd.R k78 78 w' w.heap.size (fun k_ => some k_ ≠ (s_.2.1 : Value).ownBlock ∧ some k_ ≠ (s_.2.2.1 : Value).ownBlock) s_.1 t554) ∧ (Kd.R k78 78 w' w.heap.size (fun k_ => some k_ ≠ (s_.1 : Value).ownBlock ∧ some k_ ≠ (s_.2.2.1 : Value).ownBlock) s_.2.1 t559) ∧ (Kd.R k78 78 w' w.heap.size (fun k_ => some k_ ≠ (s_.1 : Value).ownBlock ∧ some k_ ≠ (s_.2.1 : Value).ownBlock) s_.2.2.1 t564) ∧ (w'.heap[gb549]? = some (.cells #[.int .i64 a0_0, .slice A0_1 l0_1.length c0_1, .string a0_2] 48 (0, 0))) ∧ (w'.heap[gb550]? = some (.cells #[.int .i64 a1_0, .slice A1_1 l1_1.length c1_1, .string a1_2] 48 (0, 0))) ∧ (w'.heap[s_.2.2.2]? = some (.cells #[.int .i64 0, .slice none 0 0, .string (⟨#[]⟩ : ByteArray)] 52 (0, 0))) ∧ (w.heap.size ≤ s_.2.2.2) ∧ (w.heap.size ≤ s_.2.2.2) ∧ (gb549 ≠ s_.2.2.2) ∧ (s_.2.2.2 ≠ gb549) ∧ (gb550 ≠ s_.2.2.2) ∧ (s_.2.2.2 ≠ gb550) ∧ (Below w.heap.size w w')) ?_ ?_
            rotate_left
            · intro hCont
              refine two_ (i := 1) (j := 5) (Ni := some 25) (Nj := some 6) #[true, true, true, false, false, false, false] #[true, false, true, false, false, true, false] rfl rfl rfl rfl (by kernel_rfl) (by decide) (by decide) (fun K hK => ?_) (fun K hK => ?_)
              · skip
                refine goes_ Tryd.func42 (by kernel_rfl) rfl #[.agg #[.int .i64 a0_0, .slice A0_1 l0_1.length c0_1, .string a0_2]] (by rfl) rfl rfl ma ?_
                with_reducible refine (laws_toResp.calls k a0_0 _ _ l0_1 a0_2 t553 t554 t557 _ ?side1 ?side2 A19.out).mono ?_
                (case side1 => repeat (first | exact (Kd.C_below HR0_1.out HB.out) | (with_reducible refine Kd.C_alloc ?_ _) | (with_reducible refine Kd.C_drewN ?_ _) | (with_reducible refine Kd.C_drew ?_)))
                (case side2 => exact HC0_1.out)
                rintro e w44 ⟨v555, rfl, ho0, hb⟩
                refine ⟨_, rfl, ?_⟩
                have HO556 := Aside0.mk (Kd.R_lower ho0 (below_size bl))
                replace BK549 := kb BK549 hb
                replace BK550 := kb BK550 hb
                replace HB := Aside0.mk (below_step bl hb)
                (try clear hb)
                (try clear hb2)
                (try clear hk)
                (try clear hi)
                (try clear ho0)
                refine hK.out _ _ ⟨(blk_cell BK549.out 0).trans rfl, (blk_cell BK549.out 1).trans rfl, (blk_cell BK549.out 2).trans rfl, (blk_cell BK550.out 0).trans rfl, (blk_cell BK550.out 1).trans rfl, (blk_cell BK550.out 2).trans rfl⟩ (fun hHeld => ?_)
                clear hK K
                refine norm_ (a' := ?_) ?_ ?_
                rotate_left
                · show Act.put _ (some 25) _ = _
                  simp only [Act.put, List.setIfInBounds_toArray, List.set_cons_zero, List.set_cons_succ, i64_w, i32_w]
                  rfl
                refine two_ (i := 3) (j := 5) (Ni := some 27) (Nj := some 6) #[true, true, true, true, false, false, false] #[true, true, true, false, false, true, false] rfl rfl rfl rfl (by kernel_rfl) (by decide) (by decide) (fun K hK => ?_) (fun K hK => ?_)
                · skip
                  refine goes_ Tryd.func42 (by kernel_rfl) rfl #[.agg #[.int .i64 a1_0, .slice A1_1 l1_1.length c1_1, .string a1_2]] (by rfl) rfl rfl ma ?_
                  with_reducible refine (laws_toResp.calls k a1_0 _ _ l1_1 a1_2 t558 t559 t562 _ ?side1 ?side2 A20.out).mono ?_
                  (case side1 => repeat (first | exact (Kd.C_below HR1_1.out HB.out) | (with_reducible refine Kd.C_alloc ?_ _) | (with_reducible refine Kd.C_drewN ?_ _) | (with_reducible refine Kd.C_drew ?_)))
                  (case side2 => exact HC1_1.out)
                  rintro e w45 ⟨v560, rfl, ho0, hb⟩
                  refine ⟨_, rfl, ?_⟩
                  have HO561 := Aside0.mk (Kd.R_lower (Kd.R_new' ho0 (Kd.R_lt (ro HO556))) (below_size bl))
                  replace HO556 := Aside0.mk (Kd.R_elder' (ro HO556) (Kd.R_base ho0) hb)
                  replace BK549 := kb BK549 hb
                  replace BK550 := kb BK550 hb
                  replace HB := Aside0.mk (below_step bl hb)
                  (try clear hb)
                  (try clear hb2)
                  (try clear hk)
                  (try clear hi)
                  (try clear ho0)
                  obtain ⟨Ao46, co46, eo46⟩ := Kd.R_slice HO556.out
                  (first | subst eo46 | (injection eo46 with f1_ f2_ f3_; have f4_ := f1_.symm; have f5_ := f3_.symm; clear f1_ f2_ f3_; subst f4_; subst f5_))
                  obtain ⟨Ao47, co47, eo47⟩ := Kd.R_slice HO561.out
                  (first | subst eo47 | (injection eo47 with f1_ f2_ f3_; have f4_ := f1_.symm; have f5_ := f3_.symm; clear f1_ f2_ f3_; subst f4_; subst f5_))
                  refine hK.out _ _ ⟨(blk_cell BK549.out 0).trans rfl, (blk_cell BK549.out 1).trans rfl, (blk_cell BK549.out 2).trans rfl, (blk_cell BK550.out 0).trans rfl, (blk_cell BK550.out 1).trans rfl, (blk_cell BK550.out 2).trans rfl⟩ (fun hHeld => ?_)
                  clear hK K
                  refine norm_ (a' := ?_) ?_ ?_
                  rotate_left
                  · show Act.put _ (some 27) _ = _
                    simp only [Act.put, List.setIfInBounds_toArray, List.set_cons_zero, List.set_cons_succ, i64_w, i32_w]
                    rfl
                  refine two_ (i := 4) (j := 5) (Ni := some 28) (Nj := some 6) #[true, true, true, true, true, false, false] #[true, true, true, true, false, true, false] rfl rfl rfl rfl (by kernel_rfl) (by decide) (by decide) (fun K hK => ?_) (fun K hK => ?_)
                  · skip
                    refine goes_ Tryd.func55 (by kernel_rfl) rfl #[.agg #[.int .i64 t553, .slice Ao46 t554.length co46, .string t557], .agg #[.int .i64 t558, .slice Ao47 t559.length co47, .string t562]] (by rfl) rfl rfl ma ?_
                    with_reducible refine (spec_Merge.calls k t553 _ _ t554 t557 t558 _ _ t559 t562 t563 t564 t567 _ ?side1 ?side2 ?side3 ?side4 A21.out).mono ?_
                    (case side1 => repeat (first | exact (Kd.R_reads' HO556.out).2.2 | (with_reducible refine Kd.C_alloc ?_ _) | (with_reducible refine Kd.C_drewN ?_ _) | (with_reducible refine Kd.C_drew ?_)))
                    (case side2 => exact (Kd.R_reads' HO556.out).2.1)
                    (case side3 => repeat (first | exact (Kd.R_reads' HO561.out).2.2 | (with_reducible refine Kd.C_alloc ?_ _) | (with_reducible refine Kd.C_drewN ?_ _) | (with_reducible refine Kd.C_drew ?_)))
                    (case side4 => exact (Kd.R_reads' HO561.out).2.1)
                    rintro e w48 ⟨v565, rfl, ho0, hb⟩
                    refine ⟨_, rfl, ?_⟩
                    have HO566 := Aside0.mk (Kd.R_lower (Kd.R_new' (Kd.R_new' ho0 (Kd.R_lt (ro HO556))) (Kd.R_lt (ro HO561))) (below_size bl))
                    replace HO556 := Aside0.mk (Kd.R_elder' (ro HO556) (Kd.R_base ho0) hb)
                    replace HO561 := Aside0.mk (Kd.R_elder' (ro HO561) (Kd.R_base ho0) hb)
                    replace BK549 := kb BK549 hb
                    replace BK550 := kb BK550 hb
                    replace HB := Aside0.mk (below_step bl hb)
                    (try clear hb)
                    (try clear hb2)
                    (try clear hk)
                    (try clear hi)
                    (try clear ho0)
                    refine hK.out _ _ ⟨(blk_cell BK549.out 0).trans rfl, (blk_cell BK549.out 1).trans rfl, (blk_cell BK549.out 2).trans rfl, (blk_cell BK550.out 0).trans rfl, (blk_cell BK550.out 1).trans rfl, (blk_cell BK550.out 2).trans rfl⟩ (fun hHeld => ?_)
                    clear hK K
                    refine norm_ (a' := ?_) ?_ ?_
                    rotate_left
                    · show Act.put _ (some 28) _ = _
                      simp only [Act.put, List.setIfInBounds_toArray, List.set_cons_zero, List.set_cons_succ, i64_w, i32_w]
                      rfl
                    refine one_ (i := 5) (N := some 6) #[true, true, true, true, true, true, false] rfl rfl (by kernel_rfl) (by decide) (fun K hK => ?_)
                    refine box_step ?hg (N := 6) ?hd (cs := #[.int .i64 0, .slice none 0 0, .string (⟨#[]⟩ : ByteArray)]) (t := 52) ?hr ?_; (case hd => rfl); (case hg => rfl); (case hr => first | (go_simp; done) | (go_simp; rfl))
                    intro gb568 hg w49 hbox hb
                    have n0_ := Aside0.mk (Kd.R_below (ro HO556) hb)
                    have n1_ := Aside0.mk (Kd.R_below (ro HO561) hb)
                    have n2_ := Aside0.mk (Kd.R_below (ro HO566) hb)
                    have n3_ := Aside0.mk (blk_below (g := gb549) (o := .cells #[.int .i64 a0_0, .slice A0_1 l0_1.length c0_1, .string a0_2] 48 (0, 0)) (bk BK549) hb)
                    have n4_ := Aside0.mk (blk_below (g := gb550) (o := .cells #[.int .i64 a1_0, .slice A1_1 l1_1.length c1_1, .string a1_2] 48 (0, 0)) (bk BK550) hb)
                    have n5_ := Aside0.mk (below_step bl hb)
                    have n6_ := Aside0.mk (hbox)
                    have n7_ := Aside0.mk ((by rw [hg]; exact (below_size bl) : w.heap.size ≤ gb568))
                    have n8_ := Aside0.mk ((by rw [hg]; exact (below_size bl) : w.heap.size ≤ gb568))
                    have n9_ := Aside0.mk ((by rw [hg]; exact Nat.ne_of_lt (blk_lt (g := gb549) (o := .cells #[.int .i64 a0_0, .slice A0_1 l0_1.length c0_1, .string a0_2] 48 (0, 0)) (bk BK549)) : gb549 ≠ gb568))
                    have n10_ := Aside0.mk ((by rw [hg]; exact Nat.ne_of_gt (blk_lt (g := gb549) (o := .cells #[.int .i64 a0_0, .slice A0_1 l0_1.length c0_1, .string a0_2] 48 (0, 0)) (bk BK549)) : gb568 ≠ gb549))
                    have n11_ := Aside0.mk ((by rw [hg]; exact Nat.ne_of_lt (blk_lt (g := gb550) (o := .cells #[.int .i64 a1_0, .slice A1_1 l1_1.length c1_1, .string a1_2] 48 (0, 0)) (bk BK550)) : gb550 ≠ gb568))
                    have n12_ := Aside0.mk ((by rw [hg]; exact Nat.ne_of_gt (blk_lt (g := gb550) (o := .cells #[.int .i64 a1_0, .slice A1_1 l1_1.length c1_1, .string a1_2] 48 (0, 0)) (bk BK550)) : gb568 ≠ gb550))
                    clear HO556
                    clear HO561
                    clear HO566
                    clear BK549
                    clear BK550
                    clear HB
                    have HO556 := n0_
                    have HO561 := n1_
                    have HO566 := n2_
                    have BK549 := n3_
                    have BK550 := n4_
                    have HB := n5_
                    have BK568 := n6_
                    have GW568 := n7_
                    have GE568 := n8_
                    have NB549_568 := n9_
                    have NB568_549 := n10_
                    have NB550_568 := n11_
                    have NB568_550 := n12_
                    clear n0_ n1_ n2_ n3_ n4_ n5_ n6_ n7_ n8_ n9_ n10_ n11_ n12_
                    clear hb hbox hg
                    refine hK.out _ _ ⟨(blk_cell BK549.out 0).trans rfl, (blk_cell BK549.out 1).trans rfl, (blk_cell BK549.out 2).trans rfl, (blk_cell BK550.out 0).trans rfl, (blk_cell BK550.out 1).trans rfl, (blk_cell BK550.out 2).trans rfl⟩ (fun hHeld => ?_)
                    clear hK K
                    refine norm_ (a' := ?_) ?_ ?_
                    rotate_left
                    · show Act.put _ (some 6) _ = _
                      simp only [Act.put, List.setIfInBounds_toArray, List.set_cons_zero, List.set_cons_succ, i64_w, i32_w]
                      rfl
                    exact norm_ (by simp only [putAll, Act.put, List.setIfInBounds_toArray, List.set_cons_zero, List.set_cons_succ]) (hCont (.slice Ao46 t554.length co46, .slice Ao47 t559.length co47, v565, gb568) _ ⟨hHeld, (by (with_reducible repeat (first | apply Kd.R_alloc | apply Kd.R_drewN | apply Kd.R_drew)); exact Kd.R_mono HO556.out (fun _ hk => ⟨hk.1.2, hk.2⟩)), (by (with_reducible repeat (first | apply Kd.R_alloc | apply Kd.R_drewN | apply Kd.R_drew)); exact Kd.R_mono HO561.out (fun _ hk => ⟨hk.1.2, hk.2⟩)), (by (with_reducible repeat (first | apply Kd.R_alloc | apply Kd.R_drewN | apply Kd.R_drew)); exact Kd.R_mono HO566.out (fun _ hk => ⟨hk.1.2, hk.2⟩)), (bk BK549), (bk BK550), (bk BK568), GW568.out, GE568.out, NB549_568.out, NB568_549.out, NB550_568.out, NB568_550.out, bl⟩)
                  · skip
                    refine box_step ?hg (N := 6) ?hd (cs := #[.int .i64 0, .slice none 0 0, .string (⟨#[]⟩ : ByteArray)]) (t := 52) ?hr ?_; (case hd => rfl); (case hg => rfl); (case hr => first | (go_simp; done) | (go_simp; rfl))
                    intro gb568 hg w46 hbox hb
                    have n0_ := Aside0.mk (Kd.R_below (ro HO556) hb)
                    have n1_ := Aside0.mk (Kd.R_below (ro HO561) hb)
                    have n2_ := Aside0.mk (blk_below (g := gb549) (o := .cells #[.int .i64 a0_0, .slice A0_1 l0_1.length c0_1, .string a0_2] 48 (0, 0)) (bk BK549) hb)
                    have n3_ := Aside0.mk (blk_below (g := gb550) (o := .cells #[.int .i64 a1_0, .slice A1_1 l1_1.length c1_1, .string a1_2] 48 (0, 0)) (bk BK550) hb)
                    have n4_ := Aside0.mk (below_step bl hb)
                    have n5_ := Aside0.mk (hbox)
                    have n6_ := Aside0.mk ((by rw [hg]; exact (below_size bl) : w.heap.size ≤ gb568))
                    have n7_ := Aside0.mk ((by rw [hg]; exact (below_size bl) : w.heap.size ≤ gb568))
                    have n8_ := Aside0.mk ((by rw [hg]; exact Nat.ne_of_lt (blk_lt (g := gb549) (o := .cells #[.int .i64 a0_0, .slice A0_1 l0_1.length c0_1, .string a0_2] 48 (0, 0)) (bk BK549)) : gb549 ≠ gb568))
                    have n9_ := Aside0.mk ((by rw [hg]; exact Nat.ne_of_gt (blk_lt (g := gb549) (o := .cells #[.int .i64 a0_0, .slice A0_1 l0_1.length c0_1, .string a0_2] 48 (0, 0)) (bk BK549)) : gb568 ≠ gb549))
                    have n10_ := Aside0.mk ((by rw [hg]; exact Nat.ne_of_lt (blk_lt (g := gb550) (o := .cells #[.int .i64 a1_0, .slice A1_1 l1_1.length c1_1, .string a1_2] 48 (0, 0)) (bk BK550)) : gb550 ≠ gb568))
                    have n11_ := Aside0.mk ((by rw [hg]; exact Nat.ne_of_gt (blk_lt (g := gb550) (o := .cells #[.int .i64 a1_0, .slice A1_1 l1_1.length c1_1, .string a1_2] 48 (0, 0)) (bk BK550)) : gb568 ≠ gb550))
                    clear HO556
                    clear HO561
                    clear BK549
                    clear BK550
                    clear HB
                    have HO556 := n0_
                    have HO561 := n1_
                    have BK549 := n2_
                    have BK550 := n3_
                    have HB := n4_
                    have BK568 := n5_
                    have GW568 := n6_
                    have GE568 := n7_
                    have NB549_568 := n8_
                    have NB568_549 := n9_
                    have NB550_568 := n10_
                    have NB568_550 := n11_
                    clear n0_ n1_ n2_ n3_ n4_ n5_ n6_ n7_ n8_ n9_ n10_ n11_
                    clear hb hbox hg
                    obtain ⟨Ao47, co47, eo47⟩ := Kd.R_slice HO556.out
                    (first | subst eo47 | (injection eo47 with f1_ f2_ f3_; have f4_ := f1_.symm; have f5_ := f3_.symm; clear f1_ f2_ f3_; subst f4_; subst f5_))
                    obtain ⟨Ao48, co48, eo48⟩ := Kd.R_slice HO561.out
                    (first | subst eo48 | (injection eo48 with f1_ f2_ f3_; have f4_ := f1_.symm; have f5_ := f3_.symm; clear f1_ f2_ f3_; subst f4_; subst f5_))
                    refine hK.out _ _ ⟨(blk_cell BK549.out 0).trans rfl, (blk_cell BK549.out 1).trans rfl, (blk_cell BK549.out 2).trans rfl, (blk_cell BK550.out 0).trans rfl, (blk_cell BK550.out 1).trans rfl, (blk_cell BK550.out 2).trans rfl⟩ (fun hHeld => ?_)
                    clear hK K
                    refine norm_ (a' := ?_) ?_ ?_
                    rotate_left
                    · show Act.put _ (some 6) _ = _
                      simp only [Act.put, List.setIfInBounds_toArray, List.set_cons_zero, List.set_cons_succ, i64_w, i32_w]
                      rfl
                    refine one_ (i := 4) (N := some 28) #[true, true, true, true, true, true, false] rfl rfl (by kernel_rfl) (by decide) (fun K hK => ?_)
                    refine goes_ Tryd.func55 (by kernel_rfl) rfl #[.agg #[.int .i64 t553, .slice Ao47 t554.length co47, .string t557], .agg #[.int .i64 t558, .slice Ao48 t559.length co48, .string t562]] (by rfl) rfl rfl ma ?_
                    with_reducible refine (spec_Merge.calls k t553 _ _ t554 t557 t558 _ _ t559 t562 t563 t564 t567 _ ?side1 ?side2 ?side3 ?side4 A21.out).mono ?_
                    (case side1 => repeat (first | exact (Kd.R_reads' HO556.out).2.2 | (with_reducible refine Kd.C_alloc ?_ _) | (with_reducible refine Kd.C_drewN ?_ _) | (with_reducible refine Kd.C_drew ?_)))
                    (case side2 => exact (Kd.R_reads' HO556.out).2.1)
                    (case side3 => repeat (first | exact (Kd.R_reads' HO561.out).2.2 | (with_reducible refine Kd.C_alloc ?_ _) | (with_reducible refine Kd.C_drewN ?_ _) | (with_reducible refine Kd.C_drew ?_)))
                    (case side4 => exact (Kd.R_reads' HO561.out).2.1)
                    rintro e w49 ⟨v565, rfl, ho0, hb⟩
                    refine ⟨_, rfl, ?_⟩
                    have HO566 := Aside0.mk (Kd.R_lower (Kd.R_new' (Kd.R_new' ho0 (Kd.R_lt (ro HO556))) (Kd.R_lt (ro HO561))) (below_size bl))
                    replace HO556 := Aside0.mk (Kd.R_elder' (ro HO556) (Kd.R_base ho0) hb)
                    replace HO561 := Aside0.mk (Kd.R_elder' (ro HO561) (Kd.R_base ho0) hb)
                    replace BK549 := kb BK549 hb
                    replace BK550 := kb BK550 hb
                    replace BK568 := kb BK568 hb
                    replace HB := Aside0.mk (below_step bl hb)
                    (try clear hb)
                    (try clear hb2)
                    (try clear hk)
                    (try clear hi)
                    (try clear ho0)
                    refine hK.out _ _ ⟨(blk_cell BK549.out 0).trans rfl, (blk_cell BK549.out 1).trans rfl, (blk_cell BK549.out 2).trans rfl, (blk_cell BK550.out 0).trans rfl, (blk_cell BK550.out 1).trans rfl, (blk_cell BK550.out 2).trans rfl⟩ (fun hHeld => ?_)
                    clear hK K
                    refine norm_ (a' := ?_) ?_ ?_
                    rotate_left
                    · show Act.put _ (some 28) _ = _
                      simp only [Act.put, List.setIfInBounds_toArray, List.set_cons_zero, List.set_cons_succ, i64_w, i32_w]
                      rfl
                    exact norm_ (by simp only [putAll, Act.put, List.setIfInBounds_toArray, List.set_cons_zero, List.set_cons_succ]) (hCont (.slice Ao47 t554.length co47, .slice Ao48 t559.length co48, v565, gb568) _ ⟨hHeld, (by (with_reducible repeat (first | apply Kd.R_alloc | apply Kd.R_drewN | apply Kd.R_drew)); exact Kd.R_mono HO556.out (fun _ hk => ⟨hk.1.2, hk.2⟩)), (by (with_reducible repeat (first | apply Kd.R_alloc | apply Kd.R_drewN | apply Kd.R_drew)); exact Kd.R_mono HO561.out (fun _ hk => ⟨hk.1.2, hk.2⟩)), (by (with_reducible repeat (first | apply Kd.R_alloc | apply Kd.R_drewN | apply Kd.R_drew)); exact Kd.R_mono HO566.out (fun _ hk => ⟨hk.1.2, hk.2⟩)), (bk BK549), (bk BK550), (bk BK568), GW568.out, GE568.out, NB549_568.out, NB568_549.out, NB550_568.out, NB568_550.out, bl⟩)
                · skip
                  refine box_step ?hg (N := 6) ?hd (cs := #[.int .i64 0, .slice none 0 0, .string (⟨#[]⟩ : ByteArray)]) (t := 52) ?hr ?_; (case hd => rfl); (case hg => rfl); (case hr => first | (go_simp; done) | (go_simp; rfl))
                  intro gb568 hg w45 hbox hb
                  have n0_ := Aside0.mk (Kd.R_below (ro HO556) hb)
                  have n1_ := Aside0.mk (blk_below (g := gb549) (o := .cells #[.int .i64 a0_0, .slice A0_1 l0_1.length c0_1, .string a0_2] 48 (0, 0)) (bk BK549) hb)
                  have n2_ := Aside0.mk (blk_below (g := gb550) (o := .cells #[.int .i64 a1_0, .slice A1_1 l1_1.length c1_1, .string a1_2] 48 (0, 0)) (bk BK550) hb)
                  have n3_ := Aside0.mk (below_step bl hb)
                  have n4_ := Aside0.mk (hbox)
                  have n5_ := Aside0.mk ((by rw [hg]; exact (below_size bl) : w.heap.size ≤ gb568))
                  have n6_ := Aside0.mk ((by rw [hg]; exact (below_size bl) : w.heap.size ≤ gb568))
                  have n7_ := Aside0.mk ((by rw [hg]; exact Nat.ne_of_lt (blk_lt (g := gb549) (o := .cells #[.int .i64 a0_0, .slice A0_1 l0_1.length c0_1, .string a0_2] 48 (0, 0)) (bk BK549)) : gb549 ≠ gb568))
                  have n8_ := Aside0.mk ((by rw [hg]; exact Nat.ne_of_gt (blk_lt (g := gb549) (o := .cells #[.int .i64 a0_0, .slice A0_1 l0_1.length c0_1, .string a0_2] 48 (0, 0)) (bk BK549)) : gb568 ≠ gb549))
                  have n9_ := Aside0.mk ((by rw [hg]; exact Nat.ne_of_lt (blk_lt (g := gb550) (o := .cells #[.int .i64 a1_0, .slice A1_1 l1_1.length c1_1, .string a1_2] 48 (0, 0)) (bk BK550)) : gb550 ≠ gb568))
                  have n10_ := Aside0.mk ((by rw [hg]; exact Nat.ne_of_gt (blk_lt (g := gb550) (o := .cells #[.int .i64 a1_0, .slice A1_1 l1_1.length c1_1, .string a1_2] 48 (0, 0)) (bk BK550)) : gb568 ≠ gb550))
                  clear HO556
                  clear BK549
                  clear BK550
                  clear HB
                  have HO556 := n0_
                  have BK549 := n1_
                  have BK550 := n2_
                  have HB := n3_
                  have BK568 := n4_
                  have GW568 := n5_
                  have GE568 := n6_
                  have NB549_568 := n7_
                  have NB568_549 := n8_
                  have NB550_568 := n9_
                  have NB568_550 := n10_
                  clear n0_ n1_ n2_ n3_ n4_ n5_ n6_ n7_ n8_ n9_ n10_
                  clear hb hbox hg
                  refine hK.out _ _ ⟨(blk_cell BK549.out 0).trans rfl, (blk_cell BK549.out 1).trans rfl, (blk_cell BK549.out 2).trans rfl, (blk_cell BK550.out 0).trans rfl, (blk_cell BK550.out 1).trans rfl, (blk_cell BK550.out 2).trans rfl⟩ (fun hHeld => ?_)
                  clear hK K
                  refine norm_ (a' := ?_) ?_ ?_
                  rotate_left
                  · show Act.put _ (some 6) _ = _
                    simp only [Act.put, List.setIfInBounds_toArray, List.set_cons_zero, List.set_cons_succ, i64_w, i32_w]
                    rfl
                  refine one_ (i := 3) (N := some 27) #[true, true, true, true, false, true, false] rfl rfl (by kernel_rfl) (by decide) (fun K hK => ?_)
                  refine goes_ Tryd.func42 (by kernel_rfl) rfl #[.agg #[.int .i64 a1_0, .slice A1_1 l1_1.length c1_1, .string a1_2]] (by rfl) rfl rfl ma ?_
                  with_reducible refine (laws_toResp.calls k a1_0 _ _ l1_1 a1_2 t558 t559 t562 _ ?side1 ?side2 A20.out).mono ?_
                  (case side1 => repeat (first | exact (Kd.C_below HR1_1.out HB.out) | (with_reducible refine Kd.C_alloc ?_ _) | (with_reducible refine Kd.C_drewN ?_ _) | (with_reducible refine Kd.C_drew ?_)))
                  (case side2 => exact HC1_1.out)
                  rintro e w46 ⟨v560, rfl, ho0, hb⟩
                  refine ⟨_, rfl, ?_⟩
                  have HO561 := Aside0.mk (Kd.R_lower (Kd.R_new' ho0 (Kd.R_lt (ro HO556))) (below_size bl))
                  replace HO556 := Aside0.mk (Kd.R_elder' (ro HO556) (Kd.R_base ho0) hb)
                  replace BK549 := kb BK549 hb
                  replace BK550 := kb BK550 hb
                  replace BK568 := kb BK568 hb
                  replace HB := Aside0.mk (below_step bl hb)
                  (try clear hb)
                  (try clear hb2)
                  (try clear hk)
                  (try clear hi)
                  (try clear ho0)
                  obtain ⟨Ao47, co47, eo47⟩ := Kd.R_slice HO556.out
                  (first | subst eo47 | (injection eo47 with f1_ f2_ f3_; have f4_ := f1_.symm; have f5_ := f3_.symm; clear f1_ f2_ f3_; subst f4_; subst f5_))
                  obtain ⟨Ao48, co48, eo48⟩ := Kd.R_slice HO561.out
                  (first | subst eo48 | (injection eo48 with f1_ f2_ f3_; have f4_ := f1_.symm; have f5_ := f3_.symm; clear f1_ f2_ f3_; subst f4_; subst f5_))
                  refine hK.out _ _ ⟨(blk_cell BK549.out 0).trans rfl, (blk_cell BK549.out 1).trans rfl, (blk_cell BK549.out 2).trans rfl, (blk_cell BK550.out 0).trans rfl, (blk_cell BK550.out 1).trans rfl, (blk_cell BK550.out 2).trans rfl⟩ (fun hHeld => ?_)
                  clear hK K
                  refine norm_ (a' := ?_) ?_ ?_
                  rotate_left
                  · show Act.put _ (some 27) _ = _
                    simp only [Act.put, List.setIfInBounds_toArray, List.set_cons_zero, List.set_cons_succ, i64_w, i32_w]
                    rfl
                  refine one_ (i := 4) (N := some 28) #[true, true, true, true, true, true, false] rfl rfl (by kernel_rfl) (by decide) (fun K hK => ?_)
                  refine goes_ Tryd.func55 (by kernel_rfl) rfl #[.agg #[.int .i64 t553, .slice Ao47 t554.length co47, .string t557], .agg #[.int .i64 t558, .slice Ao48 t559.length co48, .string t562]] (by rfl) rfl rfl ma ?_
                  with_reducible refine (spec_Merge.calls k t553 _ _ t554 t557 t558 _ _ t559 t562 t563 t564 t567 _ ?side1 ?side2 ?side3 ?side4 A21.out).mono ?_
                  (case side1 => repeat (first | exact (Kd.R_reads' HO556.out).2.2 | (with_reducible refine Kd.C_alloc ?_ _) | (with_reducible refine Kd.C_drewN ?_ _) | (with_reducible refine Kd.C_drew ?_)))
                  (case side2 => exact (Kd.R_reads' HO556.out).2.1)
                  (case side3 => repeat (first | exact (Kd.R_reads' HO561.out).2.2 | (with_reducible refine Kd.C_alloc ?_ _) | (with_reducible refine Kd.C_drewN ?_ _) | (with_reducible refine Kd.C_drew ?_)))
                  (case side4 => exact (Kd.R_reads' HO561.out).2.1)
                  rintro e w49 ⟨v565, rfl, ho0, hb⟩
                  refine ⟨_, rfl, ?_⟩
                  have HO566 := Aside0.mk (Kd.R_lower (Kd.R_new' (Kd.R_new' ho0 (Kd.R_lt (ro HO556))) (Kd.R_lt (ro HO561))) (below_size bl))
                  replace HO556 := Aside0.mk (Kd.R_elder' (ro HO556) (Kd.R_base ho0) hb)
                  replace HO561 := Aside0.mk (Kd.R_elder' (ro HO561) (Kd.R_base ho0) hb)
                  replace BK549 := kb BK549 hb
                  replace BK550 := kb BK550 hb
                  replace BK568 := kb BK568 hb
                  replace HB := Aside0.mk (below_step bl hb)
                  (try clear hb)
                  (try clear hb2)
                  (try clear hk)
                  (try clear hi)
                  (try clear ho0)
                  refine hK.out _ _ ⟨(blk_cell BK549.out 0).trans rfl, (blk_cell BK549.out 1).trans rfl, (blk_cell BK549.out 2).trans rfl, (blk_cell BK550.out 0).trans rfl, (blk_cell BK550.out 1).trans rfl, (blk_cell BK550.out 2).trans rfl⟩ (fun hHeld => ?_)
                  clear hK K
                  refine norm_ (a' := ?_) ?_ ?_
                  rotate_left
                  · show Act.put _ (some 28) _ = _
                    simp only [Act.put, List.setIfInBounds_toArray, List.set_cons_zero, List.set_cons_succ, i64_w, i32_w]
                    rfl
                  exact norm_ (by simp only [putAll, Act.put, List.setIfInBounds_toArray, List.set_cons_zero, List.set_cons_succ]) (hCont (.slice Ao47 t554.length co47, .slice Ao48 t559.length co48, v565, gb568) _ ⟨hHeld, (by (with_reducible repeat (first | apply Kd.R_alloc | apply Kd.R_drewN | apply Kd.R_drew)); exact Kd.R_mono HO556.out (fun _ hk => ⟨hk.1.2, hk.2⟩)), (by (with_reducible repeat (first | apply Kd.R_alloc | apply Kd.R_drewN | apply Kd.R_drew)); exact Kd.R_mono HO561.out (fun _ hk => ⟨hk.1.2, hk.2⟩)), (by (with_reducible repeat (first | apply Kd.R_alloc | apply Kd.R_drewN | apply Kd.R_drew)); exact Kd.R_mono HO566.out (fun _ hk => ⟨hk.1.2, hk.2⟩)), (bk BK549), (bk BK550), (bk BK568), GW568.out, GE568.out, NB549_568.out, NB568_549.out, NB550_568.out, NB568_550.out, bl⟩)
              · skip
                refine box_step ?hg (N := 6) ?hd (cs := #[.int .i64 0, .slice none 0 0, .string (⟨#[]⟩ : ByteArray)]) (t := 52) ?hr ?_; (case hd => rfl); (case hg => rfl); (case hr => first | (go_simp; done) | (go_simp; rfl))
                intro gb568 hg w44 hbox hb
                have n0_ := Aside0.mk (blk_below (g := gb549) (o := .cells #[.int .i64 a0_0, .slice A0_1 l0_1.length c0_1, .string a0_2] 48 (0, 0)) (bk BK549) hb)
                have n1_ := Aside0.mk (blk_below (g := gb550) (o := .cells #[.int .i64 a1_0, .slice A1_1 l1_1.length c1_1, .string a1_2] 48 (0, 0)) (bk BK550) hb)
                have n2_ := Aside0.mk (below_step bl hb)
                have n3_ := Aside0.mk (hbox)
                have n4_ := Aside0.mk ((by rw [hg]; exact (below_size bl) : w.heap.size ≤ gb568))
                have n5_ := Aside0.mk ((by rw [hg]; exact (below_size bl) : w.heap.size ≤ gb568))
                have n6_ := Aside0.mk ((by rw [hg]; exact Nat.ne_of_lt (blk_lt (g := gb549) (o := .cells #[.int .i64 a0_0, .slice A0_1 l0_1.length c0_1, .string a0_2] 48 (0, 0)) (bk BK549)) : gb549 ≠ gb568))
                have n7_ := Aside0.mk ((by rw [hg]; exact Nat.ne_of_gt (blk_lt (g := gb549) (o := .cells #[.int .i64 a0_0, .slice A0_1 l0_1.length c0_1, .string a0_2] 48 (0, 0)) (bk BK549)) : gb568 ≠ gb549))
                have n8_ := Aside0.mk ((by rw [hg]; exact Nat.ne_of_lt (blk_lt (g := gb550) (o := .cells #[.int .i64 a1_0, .slice A1_1 l1_1.length c1_1, .string a1_2] 48 (0, 0)) (bk BK550)) : gb550 ≠ gb568))
                have n9_ := Aside0.mk ((by rw [hg]; exact Nat.ne_of_gt (blk_lt (g := gb550) (o := .cells #[.int .i64 a1_0, .slice A1_1 l1_1.length c1_1, .string a1_2] 48 (0, 0)) (bk BK550)) : gb568 ≠ gb550))
                clear BK549
                clear BK550
                clear HB
                have BK549 := n0_
                have BK550 := n1_
                have HB := n2_
                have BK568 := n3_
                have GW568 := n4_
                have GE568 := n5_
                have NB549_568 := n6_
                have NB568_549 := n7_
                have NB550_568 := n8_
                have NB568_550 := n9_
                clear n0_ n1_ n2_ n3_ n4_ n5_ n6_ n7_ n8_ n9_
                clear hb hbox hg
                refine hK.out _ _ ⟨(blk_cell BK549.out 0).trans rfl, (blk_cell BK549.out 1).trans rfl, (blk_cell BK549.out 2).trans rfl, (blk_cell BK550.out 0).trans rfl, (blk_cell BK550.out 1).trans rfl, (blk_cell BK550.out 2).trans rfl⟩ (fun hHeld => ?_)
                clear hK K
                refine norm_ (a' := ?_) ?_ ?_
                rotate_left
                · show Act.put _ (some 6) _ = _
                  simp only [Act.put, List.setIfInBounds_toArray, List.set_cons_zero, List.set_cons_succ, i64_w, i32_w]
                  rfl
                refine one_ (i := 1) (N := some 25) #[true, true, true, false, false, true, false] rfl rfl (by kernel_rfl) (by decide) (fun K hK => ?_)
                refine goes_ Tryd.func42 (by kernel_rfl) rfl #[.agg #[.int .i64 a0_0, .slice A0_1 l0_1.length c0_1, .string a0_2]] (by rfl) rfl rfl ma ?_
                with_reducible refine (laws_toResp.calls k a0_0 _ _ l0_1 a0_2 t553 t554 t557 _ ?side1 ?side2 A19.out).mono ?_
                (case side1 => repeat (first | exact (Kd.C_below HR0_1.out HB.out) | (with_reducible refine Kd.C_alloc ?_ _) | (with_reducible refine Kd.C_drewN ?_ _) | (with_reducible refine Kd.C_drew ?_)))
                (case side2 => exact HC0_1.out)
                rintro e w45 ⟨v555, rfl, ho0, hb⟩
                refine ⟨_, rfl, ?_⟩
                have HO556 := Aside0.mk (Kd.R_lower ho0 (below_size bl))
                replace BK549 := kb BK549 hb
                replace BK550 := kb BK550 hb
                replace BK568 := kb BK568 hb
                replace HB := Aside0.mk (below_step bl hb)
                (try clear hb)
                (try clear hb2)
                (try clear hk)
                (try clear hi)
                (try clear ho0)
                refine hK.out _ _ ⟨(blk_cell BK549.out 0).trans rfl, (blk_cell BK549.out 1).trans rfl, (blk_cell BK549.out 2).trans rfl, (blk_cell BK550.out 0).trans rfl, (blk_cell BK550.out 1).trans rfl, (blk_cell BK550.out 2).trans rfl⟩ (fun hHeld => ?_)
                clear hK K
                refine norm_ (a' := ?_) ?_ ?_
                rotate_left
                · show Act.put _ (some 25) _ = _
                  simp only [Act.put, List.setIfInBounds_toArray, List.set_cons_zero, List.set_cons_succ, i64_w, i32_w]
                  rfl
                refine one_ (i := 3) (N := some 27) #[true, true, true, true, false, true, false] rfl rfl (by kernel_rfl) (by decide) (fun K hK => ?_)
                refine goes_ Tryd.func42 (by kernel_rfl) rfl #[.agg #[.int .i64 a1_0, .slice A1_1 l1_1.length c1_1, .string a1_2]] (by rfl) rfl rfl ma ?_
                with_reducible refine (laws_toResp.calls k a1_0 _ _ l1_1 a1_2 t558 t559 t562 _ ?side1 ?side2 A20.out).mono ?_
                (case side1 => repeat (first | exact (Kd.C_below HR1_1.out HB.out) | (with_reducible refine Kd.C_alloc ?_ _) | (with_reducible refine Kd.C_drewN ?_ _) | (with_reducible refine Kd.C_drew ?_)))
                (case side2 => exact HC1_1.out)
                rintro e w46 ⟨v560, rfl, ho0, hb⟩
                refine ⟨_, rfl, ?_⟩
                have HO561 := Aside0.mk (Kd.R_lower (Kd.R_new' ho0 (Kd.R_lt (ro HO556))) (below_size bl))
                replace HO556 := Aside0.mk (Kd.R_elder' (ro HO556) (Kd.R_base ho0) hb)
                replace BK549 := kb BK549 hb
                replace BK550 := kb BK550 hb
                replace BK568 := kb BK568 hb
                replace HB := Aside0.mk (below_step bl hb)
                (try clear hb)
                (try clear hb2)
                (try clear hk)
                (try clear hi)
                (try clear ho0)
                obtain ⟨Ao47, co47, eo47⟩ := Kd.R_slice HO556.out
                (first | subst eo47 | (injection eo47 with f1_ f2_ f3_; have f4_ := f1_.symm; have f5_ := f3_.symm; clear f1_ f2_ f3_; subst f4_; subst f5_))
                obtain ⟨Ao48, co48, eo48⟩ := Kd.R_slice HO561.out
                (first | subst eo48 | (injection eo48 with f1_ f2_ f3_; have f4_ := f1_.symm; have f5_ := f3_.symm; clear f1_ f2_ f3_; subst f4_; subst f5_))
                refine hK.out _ _ ⟨(blk_cell BK549.out 0).trans rfl, (blk_cell BK549.out 1).trans rfl, (blk_cell BK549.out 2).trans rfl, (blk_cell BK550.out 0).trans rfl, (blk_cell BK550.out 1).trans rfl, (blk_cell BK550.out 2).trans rfl⟩ (fun hHeld => ?_)
                clear hK K
                refine norm_ (a' := ?_) ?_ ?_
                rotate_left
                · show Act.put _ (some 27) _ = _
                  simp only [Act.put, List.setIfInBounds_toArray, List.set_cons_zero, List.set_cons_succ, i64_w, i32_w]
                  rfl
                refine one_ (i := 4) (N := some 28) #[true, true, true, true, true, true, false] rfl rfl (by kernel_rfl) (by decide) (fun K hK => ?_)
                refine goes_ Tryd.func55 (by kernel_rfl) rfl #[.agg #[.int .i64 t553, .slice Ao47 t554.length co47, .string t557], .agg #[.int .i64 t558, .slice Ao48 t559.length co48, .string t562]] (by rfl) rfl rfl ma ?_
                with_reducible refine (spec_Merge.calls k t553 _ _ t554 t557 t558 _ _ t559 t562 t563 t564 t567 _ ?side1 ?side2 ?side3 ?side4 A21.out).mono ?_
                (case side1 => repeat (first | exact (Kd.R_reads' HO556.out).2.2 | (with_reducible refine Kd.C_alloc ?_ _) | (with_reducible refine Kd.C_drewN ?_ _) | (with_reducible refine Kd.C_drew ?_)))
                (case side2 => exact (Kd.R_reads' HO556.out).2.1)
                (case side3 => repeat (first | exact (Kd.R_reads' HO561.out).2.2 | (with_reducible refine Kd.C_alloc ?_ _) | (with_reducible refine Kd.C_drewN ?_ _) | (with_reducible refine Kd.C_drew ?_)))
                (case side4 => exact (Kd.R_reads' HO561.out).2.1)
                rintro e w49 ⟨v565, rfl, ho0, hb⟩
                refine ⟨_, rfl, ?_⟩
                have HO566 := Aside0.mk (Kd.R_lower (Kd.R_new' (Kd.R_new' ho0 (Kd.R_lt (ro HO556))) (Kd.R_lt (ro HO561))) (below_size bl))
                replace HO556 := Aside0.mk (Kd.R_elder' (ro HO556) (Kd.R_base ho0) hb)
                replace HO561 := Aside0.mk (Kd.R_elder' (ro HO561) (Kd.R_base ho0) hb)
                replace BK549 := kb BK549 hb
                replace BK550 := kb BK550 hb
                replace BK568 := kb BK568 hb
                replace HB := Aside0.mk (below_step bl hb)
                (try clear hb)
                (try clear hb2)
                (try clear hk)
                (try clear hi)
                (try clear ho0)
                refine hK.out _ _ ⟨(blk_cell BK549.out 0).trans rfl, (blk_cell BK549.out 1).trans rfl, (blk_cell BK549.out 2).trans rfl, (blk_cell BK550.out 0).trans rfl, (blk_cell BK550.out 1).trans rfl, (blk_cell BK550.out 2).trans rfl⟩ (fun hHeld => ?_)
                clear hK K
                refine norm_ (a' := ?_) ?_ ?_
                rotate_left
                · show Act.put _ (some 28) _ = _
                  simp only [Act.put, List.setIfInBounds_toArray, List.set_cons_zero, List.set_cons_succ, i64_w, i32_w]
                  rfl
                exact norm_ (by simp only [putAll, Act.put, List.setIfInBounds_toArray, List.set_cons_zero, List.set_cons_succ]) (hCont (.slice Ao47 t554.length co47, .slice Ao48 t559.length co48, v565, gb568) _ ⟨hHeld, (by (with_reducible repeat (first | apply Kd.R_alloc | apply Kd.R_drewN | apply Kd.R_drew)); exact Kd.R_mono HO556.out (fun _ hk => ⟨hk.1.2, hk.2⟩)), (by (with_reducible repeat (first | apply Kd.R_alloc | apply Kd.R_drewN | apply Kd.R_drew)); exact Kd.R_mono HO561.out (fun _ hk => ⟨hk.1.2, hk.2⟩)), (by (with_reducible repeat (first | apply Kd.R_alloc | apply Kd.R_drewN | apply Kd.R_drew)); exact Kd.R_mono HO566.out (fun _ hk => ⟨hk.1.2, hk.2⟩)), (bk BK549), (bk BK550), (bk BK568), GW568.out, GE568.out, NB549_568.out, NB568_549.out, NB550_568.out, NB568_550.out, bl⟩)
            rintro ⟨v555, v560, v565, gb568⟩ w50 ⟨hS_, h0_, h1_, h2_, h3_, h4_, h5_, h6_, h7_, h8_, h9_, h10_, h11_, h12_⟩
            have n0_ : Aside0 (Kd.R k78 78 w50 w.heap.size (fun k_ => some k_ ≠ (v560 : Value).ownBlock ∧ some k_ ≠ (v565 : Value).ownBlock) v555 t554) := ⟨h0_⟩
            have n1_ : Aside0 (Kd.R k78 78 w50 w.heap.size (fun k_ => some k_ ≠ (v555 : Value).ownBlock ∧ some k_ ≠ (v565 : Value).ownBlock) v560 t559) := ⟨h1_⟩
            have n2_ : Aside0 (Kd.R k78 78 w50 w.heap.size (fun k_ => some k_ ≠ (v555 : Value).ownBlock ∧ some k_ ≠ (v560 : Value).ownBlock) v565 t564) := ⟨h2_⟩
            have n3_ : Aside0 (w50.heap[gb549]? = some (.cells #[.int .i64 a0_0, .slice A0_1 l0_1.length c0_1, .string a0_2] 48 (0, 0))) := ⟨h3_⟩
            have n4_ : Aside0 (w50.heap[gb550]? = some (.cells #[.int .i64 a1_0, .slice A1_1 l1_1.length c1_1, .string a1_2] 48 (0, 0))) := ⟨h4_⟩
            have n5_ : Aside0 (w50.heap[gb568]? = some (.cells #[.int .i64 0, .slice none 0 0, .string (⟨#[]⟩ : ByteArray)] 52 (0, 0))) := ⟨h5_⟩
            have n6_ : Aside0 (w.heap.size ≤ gb568) := ⟨h6_⟩
            have n7_ : Aside0 (w.heap.size ≤ gb568) := ⟨h7_⟩
            have n8_ : Aside0 (gb549 ≠ gb568) := ⟨h8_⟩
            have n9_ : Aside0 (gb568 ≠ gb549) := ⟨h9_⟩
            have n10_ : Aside0 (gb550 ≠ gb568) := ⟨h10_⟩
            have n11_ : Aside0 (gb568 ≠ gb550) := ⟨h11_⟩
            have n12_ : Aside0 (Below w.heap.size w w50) := ⟨h12_⟩
            clear BK549
            clear BK550
            clear HB
            clear h0_ h1_ h2_ h3_ h4_ h5_ h6_ h7_ h8_ h9_ h10_ h11_ h12_
            have HO556 := n0_
            have HO561 := n1_
            have HO566 := n2_
            have BK549 := n3_
            have BK550 := n4_
            have BK568 := n5_
            have GW568 := n6_
            have GE568 := n7_
            have NB549_568 := n8_
            have NB568_549 := n9_
            have NB550_568 := n10_
            have NB568_550 := n11_
            have HB := n12_
            clear n0_ n1_ n2_ n3_ n4_ n5_ n6_ n7_ n8_ n9_ n10_ n11_ n12_
            have hHeld : w50.cell? ⟨gb549, 0, none⟩ = some (.int .i64 a0_0) ∧ w50.cell? ⟨gb549, 1, none⟩ = some (.slice A0_1 l0_1.length c0_1) ∧ w50.cell? ⟨gb549, 2, none⟩ = some (.string a0_2) ∧ w50.cell? ⟨gb550, 0, none⟩ = some (.int .i64 a1_0) ∧ w50.cell? ⟨gb550, 1, none⟩ = some (.slice A1_1 l1_1.length c1_1) ∧ w50.cell? ⟨gb550, 2, none⟩ = some (.string a1_2) := hS_
            obtain ⟨Ao52, co52, eo52⟩ := Kd.R_slice HO566.out
            (first | subst eo52 | (injection eo52 with f1_ f2_ f3_; have f4_ := f1_.symm; have f5_ := f3_.symm; clear f1_ f2_ f3_; subst f4_; subst f5_))
            refine norm_ (a' := ?_) ?_ ?_
            rotate_left
            · simp only [putAll, Act.put, List.setIfInBounds_toArray, List.set_cons_zero, List.set_cons_succ]
              rfl
            refine one_ (i := 6) (N := none) #[true, true, true, true, true, true, true] rfl rfl (by kernel_rfl) (by decide) (fun K hK => ?_)
            have hs51 : w50.cell? ⟨gb568, 0, none⟩ = some (.int .i64 0) := (blk_cell BK568.out 0).trans rfl
            have hfs51 := blk_frozen BK568.out 0
            have hns51_0 := NB549_568.out
            have hns51_1 := NB550_568.out
            have hms51_0 := NB568_549.out
            have hms51_1 := NB568_550.out
            have hs53 : w50.cell? ⟨gb568, 1, none⟩ = some (.slice none 0 0) := (blk_cell BK568.out 1).trans rfl
            have hfs53 := blk_frozen BK568.out 1
            have hns53_0 := NB549_568.out
            have hns53_1 := NB550_568.out
            have hms53_0 := NB568_549.out
            have hms53_1 := NB568_550.out
            have hs54 : w50.cell? ⟨gb568, 2, none⟩ = some (.string (⟨#[]⟩ : ByteArray)) := (blk_cell BK568.out 2).trans rfl
            have hfs54 := blk_frozen BK568.out 2
            have hns54_0 := NB549_568.out
            have hns54_1 := NB550_568.out
            have hms54_0 := NB568_549.out
            have hms54_1 := NB568_550.out
            refine skip_ (w1 := ?_) (by rfl) rfl ?_ ?_
            rotate_left
            · go_simp
              rfl
            refine hK.out _ _ ⟨((cell_far (p := ⟨gb568, _, none⟩) NB549_568.out _).trans (((cell_far (p := ⟨gb568, _, none⟩) NB549_568.out _).trans (((cell_far (p := ⟨gb568, _, none⟩) NB549_568.out _).trans (hHeld.1)))))), ((cell_far (p := ⟨gb568, _, none⟩) NB549_568.out _).trans (((cell_far (p := ⟨gb568, _, none⟩) NB549_568.out _).trans (((cell_far (p := ⟨gb568, _, none⟩) NB549_568.out _).trans (hHeld.2.1)))))), ((cell_far (p := ⟨gb568, _, none⟩) NB549_568.out _).trans (((cell_far (p := ⟨gb568, _, none⟩) NB549_568.out _).trans (((cell_far (p := ⟨gb568, _, none⟩) NB549_568.out _).trans (hHeld.2.2.1)))))), ((cell_far (p := ⟨gb568, _, none⟩) NB550_568.out _).trans (((cell_far (p := ⟨gb568, _, none⟩) NB550_568.out _).trans (((cell_far (p := ⟨gb568, _, none⟩) NB550_568.out _).trans (hHeld.2.2.2.1)))))), ((cell_far (p := ⟨gb568, _, none⟩) NB550_568.out _).trans (((cell_far (p := ⟨gb568, _, none⟩) NB550_568.out _).trans (((cell_far (p := ⟨gb568, _, none⟩) NB550_568.out _).trans (hHeld.2.2.2.2.1)))))), ((cell_far (p := ⟨gb568, _, none⟩) NB550_568.out _).trans (((cell_far (p := ⟨gb568, _, none⟩) NB550_568.out _).trans (((cell_far (p := ⟨gb568, _, none⟩) NB550_568.out _).trans (hHeld.2.2.2.2.2))))))⟩ (fun hHeld => ?_)
            clear hK K
            refine done_ (by kernel_rfl) ?_
            have hnb55 := NB549_568.out
            have hnc55 := NB568_549.out
            have hcz56_0 : w50.cell? ⟨gb549, 0, none⟩ = some (.int .i64 a0_0) := (blk_cell BK549.out 0).trans rfl
            have hcz56_1 : w50.cell? ⟨gb549, 1, none⟩ = some (.slice A0_1 l0_1.length c0_1) := (blk_cell BK549.out 1).trans rfl
            have hcz56_2 : w50.cell? ⟨gb549, 2, none⟩ = some (.string a0_2) := (blk_cell BK549.out 2).trans rfl
            have hfz56_0 := blk_frozen BK549.out 0
            have hfz56_1 := blk_frozen BK549.out 1
            have hfz56_2 := blk_frozen BK549.out 2
            try go_wp2_with (first | ((with_reducible refine gate_callee (f := 42) rfl ?_); refine goesL_ (some 30) rfl rfl Tryd.func42 (by kernel_rfl) rfl #[.agg #[.int .i64 a0_0, .slice A0_1 l0_1.length c0_1, .string a0_2]] rfl ma ?_; (with_reducible refine (laws_toResp.calls k a0_0 _ _ l0_1 a0_2 t569 t570 t573 _ ?side1 ?side2 A22.out).mono ?_); (case side1 => exact Kd.C_below HR0_1.out bl); (case side2 => exact HC0_1.out); rintro e w57 ⟨v571, rfl, ho0, hb⟩; refine ⟨_, rfl, ?_⟩; have n0_ := Aside0.mk (Kd.R_elder' (by (with_reducible repeat (first | apply Kd.R_alloc | apply Kd.R_drewN | apply Kd.R_drew)); exact (Kd.R_mono (Kd.R_far (p := ⟨gb568, 2, none⟩) (Kd.R_far (p := ⟨gb568, 1, none⟩) (Kd.R_far (p := ⟨gb568, 0, none⟩) (Kd.R_types HO556.out BK568.out (by decide)) (fun _ hk => hk.2) (.int .i64 t563)) (fun _ hk => hk.2) (.slice Ao52 t564.length co52)) (fun _ hk => hk.2) (.string t567)) (fun _ h_ => h_.1))) (Kd.R_base ho0) hb); have n1_ := Aside0.mk (Kd.R_elder' (by (with_reducible repeat (first | apply Kd.R_alloc | apply Kd.R_drewN | apply Kd.R_drew)); exact (Kd.R_mono (Kd.R_far (p := ⟨gb568, 2, none⟩) (Kd.R_far (p := ⟨gb568, 1, none⟩) (Kd.R_far (p := ⟨gb568, 0, none⟩) (Kd.R_types HO561.out BK568.out (by decide)) (fun _ hk => hk.2) (.int .i64 t563)) (fun _ hk => hk.2) (.slice Ao52 t564.length co52)) (fun _ hk => hk.2) (.string t567)) (fun _ h_ => h_.1))) (Kd.R_base ho0) hb); have n2_ := Aside0.mk (Kd.R_elder' (by (with_reducible repeat (first | apply Kd.R_alloc | apply Kd.R_drewN | apply Kd.R_drew)); exact (Kd.R_mono (Kd.R_far (p := ⟨gb568, 2, none⟩) (Kd.R_far (p := ⟨gb568, 1, none⟩) (Kd.R_far (p := ⟨gb568, 0, none⟩) (Kd.R_types HO566.out BK568.out (by decide)) (fun _ hk => hk.2) (.int .i64 t563)) (fun _ hk => hk.2) (.slice Ao52 t564.length co52)) (fun _ hk => hk.2) (.string t567)) (fun _ h_ => h_.1))) (Kd.R_base ho0) hb); have n3_ := Aside0.mk (Kd.R_lower (Kd.R_new' (Kd.R_new' (Kd.R_new' ho0 (Kd.R_lt (by (with_reducible repeat (first | apply Kd.R_alloc | apply Kd.R_drewN | apply Kd.R_drew)); exact (Kd.R_mono (Kd.R_far (p := ⟨gb568, 2, none⟩) (Kd.R_far (p := ⟨gb568, 1, none⟩) (Kd.R_far (p := ⟨gb568, 0, none⟩) (Kd.R_types HO556.out BK568.out (by decide)) (fun _ hk => hk.2) (.int .i64 t563)) (fun _ hk => hk.2) (.slice Ao52 t564.length co52)) (fun _ hk => hk.2) (.string t567)) (fun _ h_ => h_.1))))) (Kd.R_lt (by (with_reducible repeat (first | apply Kd.R_alloc | apply Kd.R_drewN | apply Kd.R_drew)); exact (Kd.R_mono (Kd.R_far (p := ⟨gb568, 2, none⟩) (Kd.R_far (p := ⟨gb568, 1, none⟩) (Kd.R_far (p := ⟨gb568, 0, none⟩) (Kd.R_types HO561.out BK568.out (by decide)) (fun _ hk => hk.2) (.int .i64 t563)) (fun _ hk => hk.2) (.slice Ao52 t564.length co52)) (fun _ hk => hk.2) (.string t567)) (fun _ h_ => h_.1))))) (Kd.R_lt (by (with_reducible repeat (first | apply Kd.R_alloc | apply Kd.R_drewN | apply Kd.R_drew)); exact (Kd.R_mono (Kd.R_far (p := ⟨gb568, 2, none⟩) (Kd.R_far (p := ⟨gb568, 1, none⟩) (Kd.R_far (p := ⟨gb568, 0, none⟩) (Kd.R_types HO566.out BK568.out (by decide)) (fun _ hk => hk.2) (.int .i64 t563)) (fun _ hk => hk.2) (.slice Ao52 t564.length co52)) (fun _ hk => hk.2) (.string t567)) (fun _ h_ => h_.1))))) (below_size bl)); have n4_ := Aside0.mk (blk_below (g := gb549) (o := .cells #[.int .i64 a0_0, .slice A0_1 l0_1.length c0_1, .string a0_2] 48 (0, 0)) (bf BK549) hb); have n5_ := Aside0.mk (blk_below (g := gb550) (o := .cells #[.int .i64 a1_0, .slice A1_1 l1_1.length c1_1, .string a1_2] 48 (0, 0)) (bf BK550) hb); have n6_ := Aside0.mk (blk_below (g := gb568) (o := .cells #[.int .i64 t563, .slice Ao52 t564.length co52, .string t567] 52 (0, 0)) (by (with_reducible repeat (first | refine blk_drewN ?_ _ | refine blk_drew ?_ | refine blk_alloc ?_ _)); refine blk_put (cs := #[.int .i64 t563, .slice Ao52 t564.length co52, .string (⟨#[]⟩ : ByteArray)]) ?_ 2 _ rfl; (with_reducible repeat (first | refine blk_drewN ?_ _ | refine blk_drew ?_ | refine blk_alloc ?_ _)); refine blk_put (cs := #[.int .i64 t563, .slice none 0 0, .string (⟨#[]⟩ : ByteArray)]) ?_ 1 _ rfl; (with_reducible repeat (first | refine blk_drewN ?_ _ | refine blk_drew ?_ | refine blk_alloc ?_ _)); refine blk_put (cs := #[.int .i64 0, .slice none 0 0, .string (⟨#[]⟩ : ByteArray)]) ?_ 0 _ rfl; (with_reducible repeat (first | refine blk_drewN ?_ _ | refine blk_drew ?_ | refine blk_alloc ?_ _)); exact BK568.out) hb); have n7_ := Aside0.mk (below_step bl hb); clear HO556; clear HO561; clear HO566; clear BK549; clear BK550; clear BK568; clear HB; have HO556 := n0_; have HO561 := n1_; have HO566 := n2_; have HO572 := n3_; have BK549 := n4_; have BK550 := n5_; have BK568 := n6_; have HB := n7_; clear n0_ n1_ n2_ n3_ n4_ n5_ n6_ n7_; (try clear hb); (try clear hb2); (try clear hk); (try clear hi); (try clear ho0)) | ((with_reducible refine gate_dst (N := 7) rfl ?_); refine box_event ?hg (N := 7) ?hd (cs := #[.int .i64 0, .slice none 0 0, .string (⟨#[]⟩ : ByteArray)]) (t := 52) ?hr ?_; (case hd => rfl); (case hg => rfl); (case hr => first | (go_simp; done) | (go_simp; rfl)); intro gb574 hg w58 hbox hb; have n0_ := Aside0.mk (Kd.R_below (ro HO556) hb); have n1_ := Aside0.mk (Kd.R_below (ro HO561) hb); have n2_ := Aside0.mk (Kd.R_below (ro HO566) hb); have n3_ := Aside0.mk (Kd.R_below (ro HO572) hb); have n4_ := Aside0.mk (blk_below (g := gb549) (o := .cells #[.int .i64 a0_0, .slice A0_1 l0_1.length c0_1, .string a0_2] 48 (0, 0)) (bk BK549) hb); have n5_ := Aside0.mk (blk_below (g := gb550) (o := .cells #[.int .i64 a1_0, .slice A1_1 l1_1.length c1_1, .string a1_2] 48 (0, 0)) (bk BK550) hb); have n6_ := Aside0.mk (blk_below (g := gb568) (o := .cells #[.int .i64 t563, .slice Ao52 t564.length co52, .string t567] 52 (0, 0)) (bk BK568) hb); have n7_ := Aside0.mk (below_step bl hb); have n8_ := Aside0.mk (hbox); have n9_ := Aside0.mk ((by rw [hg]; exact (below_size bl) : w.heap.size ≤ gb574)); have n10_ := Aside0.mk ((by rw [hg]; exact (below_size bl) : w.heap.size ≤ gb574)); have n11_ := Aside0.mk ((by rw [hg]; exact Nat.ne_of_lt (blk_lt (g := gb549) (o := .cells #[.int .i64 a0_0, .slice A0_1 l0_1.length c0_1, .string a0_2] 48 (0, 0)) (bk BK549)) : gb549 ≠ gb574)); have n12_ := Aside0.mk ((by rw [hg]; exact Nat.ne_of_gt (blk_lt (g := gb549) (o := .cells #[.int .i64 a0_0, .slice A0_1 l0_1.length c0_1, .string a0_2] 48 (0, 0)) (bk BK549)) : gb574 ≠ gb549)); have n13_ := Aside0.mk ((by rw [hg]; exact Nat.ne_of_lt (blk_lt (g := gb550) (o := .cells #[.int .i64 a1_0, .slice A1_1 l1_1.length c1_1, .string a1_2] 48 (0, 0)) (bk BK550)) : gb550 ≠ gb574)); have n14_ := Aside0.mk ((by rw [hg]; exact Nat.ne_of_gt (blk_lt (g := gb550) (o := .cells #[.int .i64 a1_0, .slice A1_1 l1_1.length c1_1, .string a1_2] 48 (0, 0)) (bk BK550)) : gb574 ≠ gb550)); have n15_ := Aside0.mk ((by rw [hg]; exact Nat.ne_of_lt (blk_lt (g := gb568) (o := .cells #[.int .i64 t563, .slice Ao52 t564.length co52, .string t567] 52 (0, 0)) (bk BK568)) : gb568 ≠ gb574)); have n16_ := Aside0.mk ((by rw [hg]; exact Nat.ne_of_gt (blk_lt (g := gb568) (o := .cells #[.int .i64 t563, .slice Ao52 t564.length co52, .string t567] 52 (0, 0)) (bk BK568)) : gb574 ≠ gb568)); clear HO556; clear HO561; clear HO566; clear HO572; clear BK549; clear BK550; clear BK568; clear HB; have HO556 := n0_; have HO561 := n1_; have HO566 := n2_; have HO572 := n3_; have BK549 := n4_; have BK550 := n5_; have BK568 := n6_; have HB := n7_; have BK574 := n8_; have GW574 := n9_; have GE574 := n10_; have NB549_574 := n11_; have NB574_549 := n12_; have NB550_574 := n13_; have NB574_550 := n14_; have NB568_574 := n15_; have NB574_568 := n16_; clear n0_ n1_ n2_ n3_ n4_ n5_ n6_ n7_ n8_ n9_ n10_ n11_ n12_ n13_ n14_ n15_ n16_; clear hb hbox hg; have hnb59 := NB574_549.out; have hnc59 := NB549_574.out; have hnb60 := NB574_550.out; have hnc60 := NB550_574.out; have hnb61 := NB574_568.out; have hnc61 := NB568_574.out; have hcz62_0 : w58.cell? ⟨gb574, 0, none⟩ = some (.int .i64 0) := (blk_cell BK574.out 0).trans rfl; have hcz62_1 : w58.cell? ⟨gb574, 1, none⟩ = some (.slice none 0 0) := (blk_cell BK574.out 1).trans rfl; have hcz62_2 : w58.cell? ⟨gb574, 2, none⟩ = some (.string (⟨#[]⟩ : ByteArray)) := (blk_cell BK574.out 2).trans rfl; have hfz62_0 := blk_frozen BK574.out 0; have hfz62_1 := blk_frozen BK574.out 1; have hfz62_2 := blk_frozen BK574.out 2; obtain ⟨Ao63, co63, eo63⟩ := Kd.R_slice HO572.out; subst eo63; have hnb64 := NB550_568.out; have hnc64 := NB568_550.out; have hcz65_0 : w58.cell? ⟨gb550, 0, none⟩ = some (.int .i64 a1_0) := (blk_cell BK550.out 0).trans rfl; have hcz65_1 : w58.cell? ⟨gb550, 1, none⟩ = some (.slice A1_1 l1_1.length c1_1) := (blk_cell BK550.out 1).trans rfl; have hcz65_2 : w58.cell? ⟨gb550, 2, none⟩ = some (.string a1_2) := (blk_cell BK550.out 2).trans rfl; have hfz65_0 := blk_frozen BK550.out 0; have hfz65_1 := blk_frozen BK550.out 1; have hfz65_2 := blk_frozen BK550.out 2) | ((with_reducible refine gate_callee (f := 42) rfl ?_); refine goesL_ (some 32) rfl rfl Tryd.func42 (by kernel_rfl) rfl #[.agg #[.int .i64 a1_0, .slice A1_1 l1_1.length c1_1, .string a1_2]] rfl ma ?_; (with_reducible refine (laws_toResp.calls k a1_0 _ _ l1_1 a1_2 t575 t576 t579 _ ?side1 ?side2 A23.out).mono ?_); (case side1 => exact Kd.C_below HR1_1.out bl); (case side2 => exact HC1_1.out); rintro e w66 ⟨v577, rfl, ho0, hb⟩; refine ⟨_, rfl, ?_⟩; have n0_ := Aside0.mk (Kd.R_elder' (by (with_reducible repeat (first | apply Kd.R_alloc | apply Kd.R_drewN | apply Kd.R_drew)); exact (Kd.R_mono (Kd.R_far (p := ⟨gb574, 2, none⟩) (Kd.R_far (p := ⟨gb574, 1, none⟩) (Kd.R_far (p := ⟨gb574, 0, none⟩) (Kd.R_types HO556.out BK574.out (by decide)) (fun _ hk => hk.2) (.int .i64 t569)) (fun _ hk => hk.2) (.slice Ao63 t570.length co63)) (fun _ hk => hk.2) (.string t573)) (fun _ h_ => h_.1))) (Kd.R_base ho0) hb); have n1_ := Aside0.mk (Kd.R_elder' (by (with_reducible repeat (first | apply Kd.R_alloc | apply Kd.R_drewN | apply Kd.R_drew)); exact (Kd.R_mono (Kd.R_far (p := ⟨gb574, 2, none⟩) (Kd.R_far (p := ⟨gb574, 1, none⟩) (Kd.R_far (p := ⟨gb574, 0, none⟩) (Kd.R_types HO561.out BK574.out (by decide)) (fun _ hk => hk.2) (.int .i64 t569)) (fun _ hk => hk.2) (.slice Ao63 t570.length co63)) (fun _ hk => hk.2) (.string t573)) (fun _ h_ => h_.1))) (Kd.R_base ho0) hb); have n2_ := Aside0.mk (Kd.R_elder' (by (with_reducible repeat (first | apply Kd.R_alloc | apply Kd.R_drewN | apply Kd.R_drew)); exact (Kd.R_mono (Kd.R_far (p := ⟨gb574, 2, none⟩) (Kd.R_far (p := ⟨gb574, 1, none⟩) (Kd.R_far (p := ⟨gb574, 0, none⟩) (Kd.R_types HO566.out BK574.out (by decide)) (fun _ hk => hk.2) (.int .i64 t569)) (fun _ hk => hk.2) (.slice Ao63 t570.length co63)) (fun _ hk => hk.2) (.string t573)) (fun _ h_ => h_.1))) (Kd.R_base ho0) hb); have n3_ := Aside0.mk (Kd.R_elder' (by (with_reducible repeat (first | apply Kd.R_alloc | apply Kd.R_drewN | apply Kd.R_drew)); exact (Kd.R_mono (Kd.R_far (p := ⟨gb574, 2, none⟩) (Kd.R_far (p := ⟨gb574, 1, none⟩) (Kd.R_far (p := ⟨gb574, 0, none⟩) (Kd.R_types HO572.out BK574.out (by decide)) (fun _ hk => hk.2) (.int .i64 t569)) (fun _ hk => hk.2) (.slice Ao63 t570.length co63)) (fun _ hk => hk.2) (.string t573)) (fun _ h_ => h_.1))) (Kd.R_base ho0) hb); have n4_ := Aside0.mk (Kd.R_lower (Kd.R_new' (Kd.R_new' (Kd.R_new' (Kd.R_new' ho0 (Kd.R_lt (by (with_reducible repeat (first | apply Kd.R_alloc | apply Kd.R_drewN | apply Kd.R_drew)); exact (Kd.R_mono (Kd.R_far (p := ⟨gb574, 2, none⟩) (Kd.R_far (p := ⟨gb574, 1, none⟩) (Kd.R_far (p := ⟨gb574, 0, none⟩) (Kd.R_types HO556.out BK574.out (by decide)) (fun _ hk => hk.2) (.int .i64 t569)) (fun _ hk => hk.2) (.slice Ao63 t570.length co63)) (fun _ hk => hk.2) (.string t573)) (fun _ h_ => h_.1))))) (Kd.R_lt (by (with_reducible repeat (first | apply Kd.R_alloc | apply Kd.R_drewN | apply Kd.R_drew)); exact (Kd.R_mono (Kd.R_far (p := ⟨gb574, 2, none⟩) (Kd.R_far (p := ⟨gb574, 1, none⟩) (Kd.R_far (p := ⟨gb574, 0, none⟩) (Kd.R_types HO561.out BK574.out (by decide)) (fun _ hk => hk.2) (.int .i64 t569)) (fun _ hk => hk.2) (.slice Ao63 t570.length co63)) (fun _ hk => hk.2) (.string t573)) (fun _ h_ => h_.1))))) (Kd.R_lt (by (with_reducible repeat (first | apply Kd.R_alloc | apply Kd.R_drewN | apply Kd.R_drew)); exact (Kd.R_mono (Kd.R_far (p := ⟨gb574, 2, none⟩) (Kd.R_far (p := ⟨gb574, 1, none⟩) (Kd.R_far (p := ⟨gb574, 0, none⟩) (Kd.R_types HO566.out BK574.out (by decide)) (fun _ hk => hk.2) (.int .i64 t569)) (fun _ hk => hk.2) (.slice Ao63 t570.length co63)) (fun _ hk => hk.2) (.string t573)) (fun _ h_ => h_.1))))) (Kd.R_lt (by (with_reducible repeat (first | apply Kd.R_alloc | apply Kd.R_drewN | apply Kd.R_drew)); exact (Kd.R_mono (Kd.R_far (p := ⟨gb574, 2, none⟩) (Kd.R_far (p := ⟨gb574, 1, none⟩) (Kd.R_far (p := ⟨gb574, 0, none⟩) (Kd.R_types HO572.out BK574.out (by decide)) (fun _ hk => hk.2) (.int .i64 t569)) (fun _ hk => hk.2) (.slice Ao63 t570.length co63)) (fun _ hk => hk.2) (.string t573)) (fun _ h_ => h_.1))))) (below_size bl)); have n5_ := Aside0.mk (blk_below (g := gb549) (o := .cells #[.int .i64 a0_0, .slice A0_1 l0_1.length c0_1, .string a0_2] 48 (0, 0)) (bf BK549) hb); have n6_ := Aside0.mk (blk_below (g := gb550) (o := .cells #[.int .i64 a1_0, .slice A1_1 l1_1.length c1_1, .string a1_2] 48 (0, 0)) (bf BK550) hb); have n7_ := Aside0.mk (blk_below (g := gb568) (o := .cells #[.int .i64 t563, .slice Ao52 t564.length co52, .string t567] 52 (0, 0)) (bf BK568) hb); have n8_ := Aside0.mk (blk_below (g := gb574) (o := .cells #[.int .i64 t569, .slice Ao63 t570.length co63, .string t573] 52 (0, 0)) (by (with_reducible repeat (first | refine blk_drewN ?_ _ | refine blk_drew ?_ | refine blk_alloc ?_ _)); refine blk_put (cs := #[.int .i64 t569, .slice Ao63 t570.length co63, .string (⟨#[]⟩ : ByteArray)]) ?_ 2 _ rfl; (with_reducible repeat (first | refine blk_drewN ?_ _ | refine blk_drew ?_ | refine blk_alloc ?_ _)); refine blk_put (cs := #[.int .i64 t569, .slice none 0 0, .string (⟨#[]⟩ : ByteArray)]) ?_ 1 _ rfl; (with_reducible repeat (first | refine blk_drewN ?_ _ | refine blk_drew ?_ | refine blk_alloc ?_ _)); refine blk_put (cs := #[.int .i64 0, .slice none 0 0, .string (⟨#[]⟩ : ByteArray)]) ?_ 0 _ rfl; (with_reducible repeat (first | refine blk_drewN ?_ _ | refine blk_drew ?_ | refine blk_alloc ?_ _)); exact BK574.out) hb); have n9_ := Aside0.mk (below_step bl hb); clear HO556; clear HO561; clear HO566; clear HO572; clear BK549; clear BK550; clear BK568; clear BK574; clear HB; have HO556 := n0_; have HO561 := n1_; have HO566 := n2_; have HO572 := n3_; have HO578 := n4_; have BK549 := n5_; have BK550 := n6_; have BK568 := n7_; have BK574 := n8_; have HB := n9_; clear n0_ n1_ n2_ n3_ n4_ n5_ n6_ n7_ n8_ n9_; (try clear hb); (try clear hb2); (try clear hk); (try clear hi); (try clear ho0)) | ((with_reducible refine gate_dst (N := 8) rfl ?_); refine box_event ?hg (N := 8) ?hd (cs := #[.int .i64 0, .slice none 0 0, .string (⟨#[]⟩ : ByteArray)]) (t := 52) ?hr ?_; (case hd => rfl); (case hg => rfl); (case hr => first | (go_simp; done) | (go_simp; rfl)); intro gb580 hg w67 hbox hb; have n0_ := Aside0.mk (Kd.R_below (ro HO556) hb); have n1_ := Aside0.mk (Kd.R_below (ro HO561) hb); have n2_ := Aside0.mk (Kd.R_below (ro HO566) hb); have n3_ := Aside0.mk (Kd.R_below (ro HO572) hb); have n4_ := Aside0.mk (Kd.R_below (ro HO578) hb); have n5_ := Aside0.mk (blk_below (g := gb549) (o := .cells #[.int .i64 a0_0, .slice A0_1 l0_1.length c0_1, .string a0_2] 48 (0, 0)) (bk BK549) hb); have n6_ := Aside0.mk (blk_below (g := gb550) (o := .cells #[.int .i64 a1_0, .slice A1_1 l1_1.length c1_1, .string a1_2] 48 (0, 0)) (bk BK550) hb); have n7_ := Aside0.mk (blk_below (g := gb568) (o := .cells #[.int .i64 t563, .slice Ao52 t564.length co52, .string t567] 52 (0, 0)) (bk BK568) hb); have n8_ := Aside0.mk (blk_below (g := gb574) (o := .cells #[.int .i64 t569, .slice Ao63 t570.length co63, .string t573] 52 (0, 0)) (bk BK574) hb); have n9_ := Aside0.mk (below_step bl hb); have n10_ := Aside0.mk (hbox); have n11_ := Aside0.mk ((by rw [hg]; exact (below_size bl) : w.heap.size ≤ gb580)); have n12_ := Aside0.mk ((by rw [hg]; exact (below_size bl) : w.heap.size ≤ gb580)); have n13_ := Aside0.mk ((by rw [hg]; exact Nat.ne_of_lt (blk_lt (g := gb549) (o := .cells #[.int .i64 a0_0, .slice A0_1 l0_1.length c0_1, .string a0_2] 48 (0, 0)) (bk BK549)) : gb549 ≠ gb580)); have n14_ := Aside0.mk ((by rw [hg]; exact Nat.ne_of_gt (blk_lt (g := gb549) (o := .cells #[.int .i64 a0_0, .slice A0_1 l0_1.length c0_1, .string a0_2] 48 (0, 0)) (bk BK549)) : gb580 ≠ gb549)); have n15_ := Aside0.mk ((by rw [hg]; exact Nat.ne_of_lt (blk_lt (g := gb550) (o := .cells #[.int .i64 a1_0, .slice A1_1 l1_1.length c1_1, .string a1_2] 48 (0, 0)) (bk BK550)) : gb550 ≠ gb580)); have n16_ := Aside0.mk ((by rw [hg]; exact Nat.ne_of_gt (blk_lt (g := gb550) (o := .cells #[.int .i64 a1_0, .slice A1_1 l1_1.length c1_1, .string a1_2] 48 (0, 0)) (bk BK550)) : gb580 ≠ gb550)); have n17_ := Aside0.mk ((by rw [hg]; exact Nat.ne_of_lt (blk_lt (g := gb568) (o := .cells #[.int .i64 t563, .slice Ao52 t564.length co52, .string t567] 52 (0, 0)) (bk BK568)) : gb568 ≠ gb580)); have n18_ := Aside0.mk ((by rw [hg]; exact Nat.ne_of_gt (blk_lt (g := gb568) (o := .cells #[.int .i64 t563, .slice Ao52 t564.length co52, .string t567] 52 (0, 0)) (bk BK568)) : gb580 ≠ gb568)); have n19_ := Aside0.mk ((by rw [hg]; exact Nat.ne_of_lt (blk_lt (g := gb574) (o := .cells #[.int .i64 t569, .slice Ao63 t570.length co63, .string t573] 52 (0, 0)) (bk BK574)) : gb574 ≠ gb580)); have n20_ := Aside0.mk ((by rw [hg]; exact Nat.ne_of_gt (blk_lt (g := gb574) (o := .cells #[.int .i64 t569, .slice Ao63 t570.length co63, .string t573] 52 (0, 0)) (bk BK574)) : gb580 ≠ gb574)); clear HO556; clear HO561; clear HO566; clear HO572; clear HO578; clear BK549; clear BK550; clear BK568; clear BK574; clear HB; have HO556 := n0_; have HO561 := n1_; have HO566 := n2_; have HO572 := n3_; have HO578 := n4_; have BK549 := n5_; have BK550 := n6_; have BK568 := n7_; have BK574 := n8_; have HB := n9_; have BK580 := n10_; have GW580 := n11_; have GE580 := n12_; have NB549_580 := n13_; have NB580_549 := n14_; have NB550_580 := n15_; have NB580_550 := n16_; have NB568_580 := n17_; have NB580_568 := n18_; have NB574_580 := n19_; have NB580_574 := n20_; clear n0_ n1_ n2_ n3_ n4_ n5_ n6_ n7_ n8_ n9_ n10_ n11_ n12_ n13_ n14_ n15_ n16_ n17_ n18_ n19_ n20_; clear hb hbox hg; have hnb68 := NB580_549.out; have hnc68 := NB549_580.out; have hnb69 := NB580_550.out; have hnc69 := NB550_580.out; have hnb70 := NB580_568.out; have hnc70 := NB568_580.out; have hnb71 := NB580_574.out; have hnc71 := NB574_580.out; have hcz72_0 : w67.cell? ⟨gb580, 0, none⟩ = some (.int .i64 0) := (blk_cell BK580.out 0).trans rfl; have hcz72_1 : w67.cell? ⟨gb580, 1, none⟩ = some (.slice none 0 0) := (blk_cell BK580.out 1).trans rfl; have hcz72_2 : w67.cell? ⟨gb580, 2, none⟩ = some (.string (⟨#[]⟩ : ByteArray)) := (blk_cell BK580.out 2).trans rfl; have hfz72_0 := blk_frozen BK580.out 0; have hfz72_1 := blk_frozen BK580.out 1; have hfz72_2 := blk_frozen BK580.out 2; obtain ⟨Ao73, co73, eo73⟩ := Kd.R_slice HO578.out; subst eo73; have hcz74_0 : w67.cell? ⟨gb574, 0, none⟩ = some (.int .i64 t569) := (blk_cell BK574.out 0).trans rfl; have hcz74_1 : w67.cell? ⟨gb574, 1, none⟩ = some (.slice Ao63 t570.length co63) := (blk_cell BK574.out 1).trans rfl; have hcz74_2 : w67.cell? ⟨gb574, 2, none⟩ = some (.string t573) := (blk_cell BK574.out 2).trans rfl; have hfz74_0 := blk_frozen BK574.out 0; have hfz74_1 := blk_frozen BK574.out 1; have hfz74_2 := blk_frozen BK574.out 2) | ((with_reducible refine gate_callee (f := 56) rfl ?_); refine goesL_ (some 35) rfl rfl Tryd.func56 (by kernel_rfl) rfl #[.agg #[.int .i64 t569, .slice Ao63 t570.length co63, .string t573], .agg #[.int .i64 t575, .slice Ao73 t576.length co73, .string t579]] rfl ma ?_; (with_reducible refine (impl_Merge.calls k t569 _ _ t570 t573 t575 _ _ t576 t579 t581 t582 t585 _ ?side1 ?side2 ?side3 ?side4 A24.out).mono ?_); (case side1 => refine (Kd.R_reads' (e := 78) (base := w.heap.size) (ok := fun k_ => ((((True ∧ some k_ ≠ (v555 : Value).ownBlock) ∧ some k_ ≠ (v560 : Value).ownBlock) ∧ some k_ ≠ (.slice Ao52 t564.length co52 : Value).ownBlock) ∧ some k_ ≠ (.slice Ao73 t576.length co73 : Value).ownBlock)) (n := t570.length) (c := co63) ?_).2.2; exact (by (with_reducible repeat (first | apply Kd.R_alloc | apply Kd.R_drewN | apply Kd.R_drew)); exact (Kd.R_mono (Kd.R_far (p := ⟨gb580, 2, none⟩) (Kd.R_far (p := ⟨gb580, 1, none⟩) (Kd.R_far (p := ⟨gb580, 0, none⟩) (Kd.R_types HO572.out BK580.out (by decide)) (fun _ hk => hk.2) (.int .i64 t575)) (fun _ hk => hk.2) (.slice Ao73 t576.length co73)) (fun _ hk => hk.2) (.string t579)) (fun _ h_ => h_.1)))); (case side2 => exact (Kd.R_reads' HO572.out).2.1); (case side3 => refine (Kd.R_reads' (e := 78) (base := w.heap.size) (ok := fun k_ => ((((True ∧ some k_ ≠ (v555 : Value).ownBlock) ∧ some k_ ≠ (v560 : Value).ownBlock) ∧ some k_ ≠ (.slice Ao52 t564.length co52 : Value).ownBlock) ∧ some k_ ≠ (.slice Ao63 t570.length co63 : Value).ownBlock)) (n := t576.length) (c := co73) ?_).2.2; exact (by (with_reducible repeat (first | apply Kd.R_alloc | apply Kd.R_drewN | apply Kd.R_drew)); exact (Kd.R_mono (Kd.R_far (p := ⟨gb580, 2, none⟩) (Kd.R_far (p := ⟨gb580, 1, none⟩) (Kd.R_far (p := ⟨gb580, 0, none⟩) (Kd.R_types HO578.out BK580.out (by decide)) (fun _ hk => hk.2) (.int .i64 t575)) (fun _ hk => hk.2) (.slice Ao73 t576.length co73)) (fun _ hk => hk.2) (.string t579)) (fun _ h_ => h_.1)))); (case side4 => exact (Kd.R_reads' HO578.out).2.1); rintro e w75 ⟨v583, rfl, ho0, hb⟩; refine ⟨_, rfl, ?_⟩; have n0_ := Aside0.mk (Kd.R_elder' (by (with_reducible repeat (first | apply Kd.R_alloc | apply Kd.R_drewN | apply Kd.R_drew)); exact (Kd.R_mono (Kd.R_far (p := ⟨gb580, 2, none⟩) (Kd.R_far (p := ⟨gb580, 1, none⟩) (Kd.R_far (p := ⟨gb580, 0, none⟩) (Kd.R_types HO556.out BK580.out (by decide)) (fun _ hk => hk.2) (.int .i64 t575)) (fun _ hk => hk.2) (.slice Ao73 t576.length co73)) (fun _ hk => hk.2) (.string t579)) (fun _ h_ => h_.1))) (Kd.R_base ho0) hb); have n1_ := Aside0.mk (Kd.R_elder' (by (with_reducible repeat (first | apply Kd.R_alloc | apply Kd.R_drewN | apply Kd.R_drew)); exact (Kd.R_mono (Kd.R_far (p := ⟨gb580, 2, none⟩) (Kd.R_far (p := ⟨gb580, 1, none⟩) (Kd.R_far (p := ⟨gb580, 0, none⟩) (Kd.R_types HO561.out BK580.out (by decide)) (fun _ hk => hk.2) (.int .i64 t575)) (fun _ hk => hk.2) (.slice Ao73 t576.length co73)) (fun _ hk => hk.2) (.string t579)) (fun _ h_ => h_.1))) (Kd.R_base ho0) hb); have n2_ := Aside0.mk (Kd.R_elder' (by (with_reducible repeat (first | apply Kd.R_alloc | apply Kd.R_drewN | apply Kd.R_drew)); exact (Kd.R_mono (Kd.R_far (p := ⟨gb580, 2, none⟩) (Kd.R_far (p := ⟨gb580, 1, none⟩) (Kd.R_far (p := ⟨gb580, 0, none⟩) (Kd.R_types HO566.out BK580.out (by decide)) (fun _ hk => hk.2) (.int .i64 t575)) (fun _ hk => hk.2) (.slice Ao73 t576.length co73)) (fun _ hk => hk.2) (.string t579)) (fun _ h_ => h_.1))) (Kd.R_base ho0) hb); have n3_ := Aside0.mk (Kd.R_elder' (by (with_reducible repeat (first | apply Kd.R_alloc | apply Kd.R_drewN | apply Kd.R_drew)); exact (Kd.R_mono (Kd.R_far (p := ⟨gb580, 2, none⟩) (Kd.R_far (p := ⟨gb580, 1, none⟩) (Kd.R_far (p := ⟨gb580, 0, none⟩) (Kd.R_types HO572.out BK580.out (by decide)) (fun _ hk => hk.2) (.int .i64 t575)) (fun _ hk => hk.2) (.slice Ao73 t576.length co73)) (fun _ hk => hk.2) (.string t579)) (fun _ h_ => h_.1))) (Kd.R_base ho0) hb); have n4_ := Aside0.mk (Kd.R_elder' (by (with_reducible repeat (first | apply Kd.R_alloc | apply Kd.R_drewN | apply Kd.R_drew)); exact (Kd.R_mono (Kd.R_far (p := ⟨gb580, 2, none⟩) (Kd.R_far (p := ⟨gb580, 1, none⟩) (Kd.R_far (p := ⟨gb580, 0, none⟩) (Kd.R_types HO578.out BK580.out (by decide)) (fun _ hk => hk.2) (.int .i64 t575)) (fun _ hk => hk.2) (.slice Ao73 t576.length co73)) (fun _ hk => hk.2) (.string t579)) (fun _ h_ => h_.1))) (Kd.R_base ho0) hb); have n5_ := Aside0.mk (Kd.R_lower (Kd.R_new' (Kd.R_new' (Kd.R_new' (Kd.R_new' (Kd.R_new' ho0 (Kd.R_lt (by (with_reducible repeat (first | apply Kd.R_alloc | apply Kd.R_drewN | apply Kd.R_drew)); exact (Kd.R_mono (Kd.R_far (p := ⟨gb580, 2, none⟩) (Kd.R_far (p := ⟨gb580, 1, none⟩) (Kd.R_far (p := ⟨gb580, 0, none⟩) (Kd.R_types HO556.out BK580.out (by decide)) (fun _ hk => hk.2) (.int .i64 t575)) (fun _ hk => hk.2) (.slice Ao73 t576.length co73)) (fun _ hk => hk.2) (.string t579)) (fun _ h_ => h_.1))))) (Kd.R_lt (by (with_reducible repeat (first | apply Kd.R_alloc | apply Kd.R_drewN | apply Kd.R_drew)); exact (Kd.R_mono (Kd.R_far (p := ⟨gb580, 2, none⟩) (Kd.R_far (p := ⟨gb580, 1, none⟩) (Kd.R_far (p := ⟨gb580, 0, none⟩) (Kd.R_types HO561.out BK580.out (by decide)) (fun _ hk => hk.2) (.int .i64 t575)) (fun _ hk => hk.2) (.slice Ao73 t576.length co73)) (fun _ hk => hk.2) (.string t579)) (fun _ h_ => h_.1))))) (Kd.R_lt (by (with_reducible repeat (first | apply Kd.R_alloc | apply Kd.R_drewN | apply Kd.R_drew)); exact (Kd.R_mono (Kd.R_far (p := ⟨gb580, 2, none⟩) (Kd.R_far (p := ⟨gb580, 1, none⟩) (Kd.R_far (p := ⟨gb580, 0, none⟩) (Kd.R_types HO566.out BK580.out (by decide)) (fun _ hk => hk.2) (.int .i64 t575)) (fun _ hk => hk.2) (.slice Ao73 t576.length co73)) (fun _ hk => hk.2) (.string t579)) (fun _ h_ => h_.1))))) (Kd.R_lt (by (with_reducible repeat (first | apply Kd.R_alloc | apply Kd.R_drewN | apply Kd.R_drew)); exact (Kd.R_mono (Kd.R_far (p := ⟨gb580, 2, none⟩) (Kd.R_far (p := ⟨gb580, 1, none⟩) (Kd.R_far (p := ⟨gb580, 0, none⟩) (Kd.R_types HO572.out BK580.out (by decide)) (fun _ hk => hk.2) (.int .i64 t575)) (fun _ hk => hk.2) (.slice Ao73 t576.length co73)) (fun _ hk => hk.2) (.string t579)) (fun _ h_ => h_.1))))) (Kd.R_lt (by (with_reducible repeat (first | apply Kd.R_alloc | apply Kd.R_drewN | apply Kd.R_drew)); exact (Kd.R_mono (Kd.R_far (p := ⟨gb580, 2, none⟩) (Kd.R_far (p := ⟨gb580, 1, none⟩) (Kd.R_far (p := ⟨gb580, 0, none⟩) (Kd.R_types HO578.out BK580.out (by decide)) (fun _ hk => hk.2) (.int .i64 t575)) (fun _ hk => hk.2) (.slice Ao73 t576.length co73)) (fun _ hk => hk.2) (.string t579)) (fun _ h_ => h_.1))))) (below_size bl)); have n6_ := Aside0.mk (blk_below (g := gb549) (o := .cells #[.int .i64 a0_0, .slice A0_1 l0_1.length c0_1, .string a0_2] 48 (0, 0)) (bf BK549) hb); have n7_ := Aside0.mk (blk_below (g := gb550) (o := .cells #[.int .i64 a1_0, .slice A1_1 l1_1.length c1_1, .string a1_2] 48 (0, 0)) (bf BK550) hb); have n8_ := Aside0.mk (blk_below (g := gb568) (o := .cells #[.int .i64 t563, .slice Ao52 t564.length co52, .string t567] 52 (0, 0)) (bf BK568) hb); have n9_ := Aside0.mk (blk_below (g := gb574) (o := .cells #[.int .i64 t569, .slice Ao63 t570.length co63, .string t573] 52 (0, 0)) (bf BK574) hb); have n10_ := Aside0.mk (blk_below (g := gb580) (o := .cells #[.int .i64 t575, .slice Ao73 t576.length co73, .string t579] 52 (0, 0)) (by (with_reducible repeat (first | refine blk_drewN ?_ _ | refine blk_drew ?_ | refine blk_alloc ?_ _)); refine blk_put (cs := #[.int .i64 t575, .slice Ao73 t576.length co73, .string (⟨#[]⟩ : ByteArray)]) ?_ 2 _ rfl; (with_reducible repeat (first | refine blk_drewN ?_ _ | refine blk_drew ?_ | refine blk_alloc ?_ _)); refine blk_put (cs := #[.int .i64 t575, .slice none 0 0, .string (⟨#[]⟩ : ByteArray)]) ?_ 1 _ rfl; (with_reducible repeat (first | refine blk_drewN ?_ _ | refine blk_drew ?_ | refine blk_alloc ?_ _)); refine blk_put (cs := #[.int .i64 0, .slice none 0 0, .string (⟨#[]⟩ : ByteArray)]) ?_ 0 _ rfl; (with_reducible repeat (first | refine blk_drewN ?_ _ | refine blk_drew ?_ | refine blk_alloc ?_ _)); exact BK580.out) hb); have n11_ := Aside0.mk (below_step bl hb); clear HO556; clear HO561; clear HO566; clear HO572; clear HO578; clear BK549; clear BK550; clear BK568; clear BK574; clear BK580; clear HB; have HO556 := n0_; have HO561 := n1_; have HO566 := n2_; have HO572 := n3_; have HO578 := n4_; have HO584 := n5_; have BK549 := n6_; have BK550 := n7_; have BK568 := n8_; have BK574 := n9_; have BK580 := n10_; have HB := n11_; clear n0_ n1_ n2_ n3_ n4_ n5_ n6_ n7_ n8_ n9_ n10_ n11_; (try clear hb); (try clear hb2); (try clear hk); (try clear hi); (try clear ho0)) | ((with_reducible refine gate_dst (N := 9) rfl ?_); refine box_event ?hg (N := 9) ?hd (cs := #[.int .i64 0, .slice none 0 0, .string (⟨#[]⟩ : ByteArray)]) (t := 52) ?hr ?_; (case hd => rfl); (case hg => rfl); (case hr => first | (go_simp; done) | (go_simp; rfl)); intro gb586 hg w76 hbox hb; have n0_ := Aside0.mk (Kd.R_below (ro HO556) hb); have n1_ := Aside0.mk (Kd.R_below (ro HO561) hb); have n2_ := Aside0.mk (Kd.R_below (ro HO566) hb); have n3_ := Aside0.mk (Kd.R_below (ro HO572) hb); have n4_ := Aside0.mk (Kd.R_below (ro HO578) hb); have n5_ := Aside0.mk (Kd.R_below (ro HO584) hb); have n6_ := Aside0.mk (blk_below (g := gb549) (o := .cells #[.int .i64 a0_0, .slice A0_1 l0_1.length c0_1, .string a0_2] 48 (0, 0)) (bk BK549) hb); have n7_ := Aside0.mk (blk_below (g := gb550) (o := .cells #[.int .i64 a1_0, .slice A1_1 l1_1.length c1_1, .string a1_2] 48 (0, 0)) (bk BK550) hb); have n8_ := Aside0.mk (blk_below (g := gb568) (o := .cells #[.int .i64 t563, .slice Ao52 t564.length co52, .string t567] 52 (0, 0)) (bk BK568) hb); have n9_ := Aside0.mk (blk_below (g := gb574) (o := .cells #[.int .i64 t569, .slice Ao63 t570.length co63, .string t573] 52 (0, 0)) (bk BK574) hb); have n10_ := Aside0.mk (blk_below (g := gb580) (o := .cells #[.int .i64 t575, .slice Ao73 t576.length co73, .string t579] 52 (0, 0)) (bk BK580) hb); have n11_ := Aside0.mk (below_step bl hb); have n12_ := Aside0.mk (hbox); have n13_ := Aside0.mk ((by rw [hg]; exact (below_size bl) : w.heap.size ≤ gb586)); have n14_ := Aside0.mk ((by rw [hg]; exact (below_size bl) : w.heap.size ≤ gb586)); have n15_ := Aside0.mk ((by rw [hg]; exact Nat.ne_of_lt (blk_lt (g := gb549) (o := .cells #[.int .i64 a0_0, .slice A0_1 l0_1.length c0_1, .string a0_2] 48 (0, 0)) (bk BK549)) : gb549 ≠ gb586)); have n16_ := Aside0.mk ((by rw [hg]; exact Nat.ne_of_gt (blk_lt (g := gb549) (o := .cells #[.int .i64 a0_0, .slice A0_1 l0_1.length c0_1, .string a0_2] 48 (0, 0)) (bk BK549)) : gb586 ≠ gb549)); have n17_ := Aside0.mk ((by rw [hg]; exact Nat.ne_of_lt (blk_lt (g := gb550) (o := .cells #[.int .i64 a1_0, .slice A1_1 l1_1.length c1_1, .string a1_2] 48 (0, 0)) (bk BK550)) : gb550 ≠ gb586)); have n18_ := Aside0.mk ((by rw [hg]; exact Nat.ne_of_gt (blk_lt (g := gb550) (o := .cells #[.int .i64 a1_0, .slice A1_1 l1_1.length c1_1, .string a1_2] 48 (0, 0)) (bk BK550)) : gb586 ≠ gb550)); have n19_ := Aside0.mk ((by rw [hg]; exact Nat.ne_of_lt (blk_lt (g := gb568) (o := .cells #[.int .i64 t563, .slice Ao52 t564.length co52, .string t567] 52 (0, 0)) (bk BK568)) : gb568 ≠ gb586)); have n20_ := Aside0.mk ((by rw [hg]; exact Nat.ne_of_gt (blk_lt (g := gb568) (o := .cells #[.int .i64 t563, .slice Ao52 t564.length co52, .string t567] 52 (0, 0)) (bk BK568)) : gb586 ≠ gb568)); have n21_ := Aside0.mk ((by rw [hg]; exact Nat.ne_of_lt (blk_lt (g := gb574) (o := .cells #[.int .i64 t569, .slice Ao63 t570.length co63, .string t573] 52 (0, 0)) (bk BK574)) : gb574 ≠ gb586)); have n22_ := Aside0.mk ((by rw [hg]; exact Nat.ne_of_gt (blk_lt (g := gb574) (o := .cells #[.int .i64 t569, .slice Ao63 t570.length co63, .string t573] 52 (0, 0)) (bk BK574)) : gb586 ≠ gb574)); have n23_ := Aside0.mk ((by rw [hg]; exact Nat.ne_of_lt (blk_lt (g := gb580) (o := .cells #[.int .i64 t575, .slice Ao73 t576.length co73, .string t579] 52 (0, 0)) (bk BK580)) : gb580 ≠ gb586)); have n24_ := Aside0.mk ((by rw [hg]; exact Nat.ne_of_gt (blk_lt (g := gb580) (o := .cells #[.int .i64 t575, .slice Ao73 t576.length co73, .string t579] 52 (0, 0)) (bk BK580)) : gb586 ≠ gb580)); clear HO556; clear HO561; clear HO566; clear HO572; clear HO578; clear HO584; clear BK549; clear BK550; clear BK568; clear BK574; clear BK580; clear HB; have HO556 := n0_; have HO561 := n1_; have HO566 := n2_; have HO572 := n3_; have HO578 := n4_; have HO584 := n5_; have BK549 := n6_; have BK550 := n7_; have BK568 := n8_; have BK574 := n9_; have BK580 := n10_; have HB := n11_; have BK586 := n12_; have GW586 := n13_; have GE586 := n14_; have NB549_586 := n15_; have NB586_549 := n16_; have NB550_586 := n17_; have NB586_550 := n18_; have NB568_586 := n19_; have NB586_568 := n20_; have NB574_586 := n21_; have NB586_574 := n22_; have NB580_586 := n23_; have NB586_580 := n24_; clear n0_ n1_ n2_ n3_ n4_ n5_ n6_ n7_ n8_ n9_ n10_ n11_ n12_ n13_ n14_ n15_ n16_ n17_ n18_ n19_ n20_ n21_ n22_ n23_ n24_; clear hb hbox hg; have hnb77 := NB586_549.out; have hnc77 := NB549_586.out; have hnb78 := NB586_550.out; have hnc78 := NB550_586.out; have hnb79 := NB586_568.out; have hnc79 := NB568_586.out; have hnb80 := NB586_574.out; have hnc80 := NB574_586.out; have hnb81 := NB586_580.out; have hnc81 := NB580_586.out; have hcz82_0 : w76.cell? ⟨gb586, 0, none⟩ = some (.int .i64 0) := (blk_cell BK586.out 0).trans rfl; have hcz82_1 : w76.cell? ⟨gb586, 1, none⟩ = some (.slice none 0 0) := (blk_cell BK586.out 1).trans rfl; have hcz82_2 : w76.cell? ⟨gb586, 2, none⟩ = some (.string (⟨#[]⟩ : ByteArray)) := (blk_cell BK586.out 2).trans rfl; have hfz82_0 := blk_frozen BK586.out 0; have hfz82_1 := blk_frozen BK586.out 1; have hfz82_2 := blk_frozen BK586.out 2; obtain ⟨Ao83, co83, eo83⟩ := Kd.R_slice HO584.out; subst eo83; have hcz84_0 : w76.cell? ⟨gb568, 0, none⟩ = some (.int .i64 t563) := (blk_cell BK568.out 0).trans rfl; have hcz84_1 : w76.cell? ⟨gb568, 1, none⟩ = some (.slice Ao52 t564.length co52) := (blk_cell BK568.out 1).trans rfl; have hcz84_2 : w76.cell? ⟨gb568, 2, none⟩ = some (.string t567) := (blk_cell BK568.out 2).trans rfl; have hfz84_0 := blk_frozen BK568.out 0; have hfz84_1 := blk_frozen BK568.out 1; have hfz84_2 := blk_frozen BK568.out 2) | ((with_reducible refine gate_callee (f := 44) rfl ?_); refine goesL_ (some 38) rfl rfl Tryd.func44 (by kernel_rfl) rfl #[.agg #[.int .i64 t581, .slice Ao83 t582.length co83, .string t585], .agg #[.int .i64 t563, .slice Ao52 t564.length co52, .string t567]] rfl ma ?_; (with_reducible refine (laws_eqResp.calls k t581 _ _ t582 t585 t563 _ _ t564 t567 true _ ?side1 ?side2 ?side3 ?side4 A25.out).mono ?_); (case side1 => refine (Kd.R_reads' (e := 78) (base := w.heap.size) (ok := fun k_ => (((((True ∧ some k_ ≠ (v555 : Value).ownBlock) ∧ some k_ ≠ (v560 : Value).ownBlock) ∧ some k_ ≠ (.slice Ao52 t564.length co52 : Value).ownBlock) ∧ some k_ ≠ (.slice Ao63 t570.length co63 : Value).ownBlock) ∧ some k_ ≠ (.slice Ao73 t576.length co73 : Value).ownBlock)) (n := t582.length) (c := co83) ?_).2.2; exact (by (with_reducible repeat (first | apply Kd.R_alloc | apply Kd.R_drewN | apply Kd.R_drew)); exact (Kd.R_mono (Kd.R_far (p := ⟨gb586, 2, none⟩) (Kd.R_far (p := ⟨gb586, 1, none⟩) (Kd.R_far (p := ⟨gb586, 0, none⟩) (Kd.R_types HO584.out BK586.out (by decide)) (fun _ hk => hk.2) (.int .i64 t581)) (fun _ hk => hk.2) (.slice Ao83 t582.length co83)) (fun _ hk => hk.2) (.string t585)) (fun _ h_ => h_.1)))); (case side2 => exact (Kd.R_reads' HO584.out).2.1); (case side3 => refine (Kd.R_reads' (e := 78) (base := w.heap.size) (ok := fun k_ => ((((some k_ ≠ (v555 : Value).ownBlock ∧ some k_ ≠ (v560 : Value).ownBlock) ∧ some k_ ≠ (.slice Ao63 t570.length co63 : Value).ownBlock) ∧ some k_ ≠ (.slice Ao73 t576.length co73 : Value).ownBlock) ∧ some k_ ≠ (.slice Ao83 t582.length co83 : Value).ownBlock)) (n := t564.length) (c := co52) ?_).2.2; exact (by (with_reducible repeat (first | apply Kd.R_alloc | apply Kd.R_drewN | apply Kd.R_drew)); exact (Kd.R_mono (Kd.R_far (p := ⟨gb586, 2, none⟩) (Kd.R_far (p := ⟨gb586, 1, none⟩) (Kd.R_far (p := ⟨gb586, 0, none⟩) (Kd.R_types HO566.out BK586.out (by decide)) (fun _ hk => hk.2) (.int .i64 t581)) (fun _ hk => hk.2) (.slice Ao83 t582.length co83)) (fun _ hk => hk.2) (.string t585)) (fun _ h_ => h_.1)))); (case side4 => exact (Kd.R_reads' HO566.out).2.1); rintro e w85 ⟨rfl, hb⟩; refine ⟨_, rfl, ?_⟩; have n0_ := Aside0.mk (Kd.R_below (by (with_reducible repeat (first | apply Kd.R_alloc | apply Kd.R_drewN | apply Kd.R_drew)); exact (Kd.R_mono (Kd.R_far (p := ⟨gb586, 2, none⟩) (Kd.R_far (p := ⟨gb586, 1, none⟩) (Kd.R_far (p := ⟨gb586, 0, none⟩) (Kd.R_types HO556.out BK586.out (by decide)) (fun _ hk => hk.2) (.int .i64 t581)) (fun _ hk => hk.2) (.slice Ao83 t582.length co83)) (fun _ hk => hk.2) (.string t585)) (fun _ h_ => h_.1))) hb); have n1_ := Aside0.mk (Kd.R_below (by (with_reducible repeat (first | apply Kd.R_alloc | apply Kd.R_drewN | apply Kd.R_drew)); exact (Kd.R_mono (Kd.R_far (p := ⟨gb586, 2, none⟩) (Kd.R_far (p := ⟨gb586, 1, none⟩) (Kd.R_far (p := ⟨gb586, 0, none⟩) (Kd.R_types HO561.out BK586.out (by decide)) (fun _ hk => hk.2) (.int .i64 t581)) (fun _ hk => hk.2) (.slice Ao83 t582.length co83)) (fun _ hk => hk.2) (.string t585)) (fun _ h_ => h_.1))) hb); have n2_ := Aside0.mk (Kd.R_below (by (with_reducible repeat (first | apply Kd.R_alloc | apply Kd.R_drewN | apply Kd.R_drew)); exact (Kd.R_mono (Kd.R_far (p := ⟨gb586, 2, none⟩) (Kd.R_far (p := ⟨gb586, 1, none⟩) (Kd.R_far (p := ⟨gb586, 0, none⟩) (Kd.R_types HO566.out BK586.out (by decide)) (fun _ hk => hk.2) (.int .i64 t581)) (fun _ hk => hk.2) (.slice Ao83 t582.length co83)) (fun _ hk => hk.2) (.string t585)) (fun _ h_ => h_.1))) hb); have n3_ := Aside0.mk (Kd.R_below (by (with_reducible repeat (first | apply Kd.R_alloc | apply Kd.R_drewN | apply Kd.R_drew)); exact (Kd.R_mono (Kd.R_far (p := ⟨gb586, 2, none⟩) (Kd.R_far (p := ⟨gb586, 1, none⟩) (Kd.R_far (p := ⟨gb586, 0, none⟩) (Kd.R_types HO572.out BK586.out (by decide)) (fun _ hk => hk.2) (.int .i64 t581)) (fun _ hk => hk.2) (.slice Ao83 t582.length co83)) (fun _ hk => hk.2) (.string t585)) (fun _ h_ => h_.1))) hb); have n4_ := Aside0.mk (Kd.R_below (by (with_reducible repeat (first | apply Kd.R_alloc | apply Kd.R_drewN | apply Kd.R_drew)); exact (Kd.R_mono (Kd.R_far (p := ⟨gb586, 2, none⟩) (Kd.R_far (p := ⟨gb586, 1, none⟩) (Kd.R_far (p := ⟨gb586, 0, none⟩) (Kd.R_types HO578.out BK586.out (by decide)) (fun _ hk => hk.2) (.int .i64 t581)) (fun _ hk => hk.2) (.slice Ao83 t582.length co83)) (fun _ hk => hk.2) (.string t585)) (fun _ h_ => h_.1))) hb); have n5_ := Aside0.mk (Kd.R_below (by (with_reducible repeat (first | apply Kd.R_alloc | apply Kd.R_drewN | apply Kd.R_drew)); exact (Kd.R_mono (Kd.R_far (p := ⟨gb586, 2, none⟩) (Kd.R_far (p := ⟨gb586, 1, none⟩) (Kd.R_far (p := ⟨gb586, 0, none⟩) (Kd.R_types HO584.out BK586.out (by decide)) (fun _ hk => hk.2) (.int .i64 t581)) (fun _ hk => hk.2) (.slice Ao83 t582.length co83)) (fun _ hk => hk.2) (.string t585)) (fun _ h_ => h_.1))) hb); have n6_ := Aside0.mk (blk_below (g := gb549) (o := .cells #[.int .i64 a0_0, .slice A0_1 l0_1.length c0_1, .string a0_2] 48 (0, 0)) (bf BK549) hb); have n7_ := Aside0.mk (blk_below (g := gb550) (o := .cells #[.int .i64 a1_0, .slice A1_1 l1_1.length c1_1, .string a1_2] 48 (0, 0)) (bf BK550) hb); have n8_ := Aside0.mk (blk_below (g := gb568) (o := .cells #[.int .i64 t563, .slice Ao52 t564.length co52, .string t567] 52 (0, 0)) (bf BK568) hb); have n9_ := Aside0.mk (blk_below (g := gb574) (o := .cells #[.int .i64 t569, .slice Ao63 t570.length co63, .string t573] 52 (0, 0)) (bf BK574) hb); have n10_ := Aside0.mk (blk_below (g := gb580) (o := .cells #[.int .i64 t575, .slice Ao73 t576.length co73, .string t579] 52 (0, 0)) (bf BK580) hb); have n11_ := Aside0.mk (blk_below (g := gb586) (o := .cells #[.int .i64 t581, .slice Ao83 t582.length co83, .string t585] 52 (0, 0)) (by (with_reducible repeat (first | refine blk_drewN ?_ _ | refine blk_drew ?_ | refine blk_alloc ?_ _)); refine blk_put (cs := #[.int .i64 t581, .slice Ao83 t582.length co83, .string (⟨#[]⟩ : ByteArray)]) ?_ 2 _ rfl; (with_reducible repeat (first | refine blk_drewN ?_ _ | refine blk_drew ?_ | refine blk_alloc ?_ _)); refine blk_put (cs := #[.int .i64 t581, .slice none 0 0, .string (⟨#[]⟩ : ByteArray)]) ?_ 1 _ rfl; (with_reducible repeat (first | refine blk_drewN ?_ _ | refine blk_drew ?_ | refine blk_alloc ?_ _)); refine blk_put (cs := #[.int .i64 0, .slice none 0 0, .string (⟨#[]⟩ : ByteArray)]) ?_ 0 _ rfl; (with_reducible repeat (first | refine blk_drewN ?_ _ | refine blk_drew ?_ | refine blk_alloc ?_ _)); exact BK586.out) hb); have n12_ := Aside0.mk (below_step bl hb); clear HO556; clear HO561; clear HO566; clear HO572; clear HO578; clear HO584; clear BK549; clear BK550; clear BK568; clear BK574; clear BK580; clear BK586; clear HB; have HO556 := n0_; have HO561 := n1_; have HO566 := n2_; have HO572 := n3_; have HO578 := n4_; have HO584 := n5_; have BK549 := n6_; have BK550 := n7_; have BK568 := n8_; have BK574 := n9_; have BK580 := n10_; have BK586 := n11_; have HB := n12_; clear n0_ n1_ n2_ n3_ n4_ n5_ n6_ n7_ n8_ n9_ n10_ n11_ n12_; (try clear hb); (try clear hb2); (try clear hk); (try clear hi)))
            replace HO556 := Aside0.mk (Kd.R_drew HO556.out)
            replace HO561 := Aside0.mk (Kd.R_drew HO561.out)
            replace HO566 := Aside0.mk (Kd.R_drew HO566.out)
            replace HO572 := Aside0.mk (Kd.R_drew HO572.out)
            replace HO578 := Aside0.mk (Kd.R_drew HO578.out)
            replace HO584 := Aside0.mk (Kd.R_drew HO584.out)
            replace BK549 := Aside0.mk (blk_drew BK549.out)
            replace BK550 := Aside0.mk (blk_drew BK550.out)
            replace BK568 := Aside0.mk (blk_drew BK568.out)
            replace BK574 := Aside0.mk (blk_drew BK574.out)
            replace BK580 := Aside0.mk (blk_drew BK580.out)
            replace BK586 := Aside0.mk (blk_drew BK586.out)
            replace HB := Aside0.mk (below_drew1 HB.out)
            refine start_ (n := 5) (S := fun w' => w'.cell? ⟨gb574, 0, none⟩ = some (.int .i64 t569) ∧ w'.cell? ⟨gb574, 1, none⟩ = some (.slice Ao63 t570.length co63) ∧ w'.cell? ⟨gb574, 2, none⟩ = some (.string t573) ∧ w'.cell? ⟨gb549, 0, none⟩ = some (.int .i64 a0_0) ∧ w'.cell? ⟨gb549, 1, none⟩ = some (.slice A0_1 l0_1.length c0_1) ∧ w'.cell? ⟨gb549, 2, none⟩ = some (.string a0_2)) (ds := []) #[false, false, false, false, false] (by kernel_rfl) rfl rfl ⟨(blk_cell BK574.out 0).trans rfl, (blk_cell BK574.out 1).trans rfl, (blk_cell BK574.out 2).trans rfl, (blk_cell BK549.out 0).trans rfl, (blk_cell BK549.out 1).trans rfl, (blk_cell BK549.out 2).trans rfl⟩ (fun hHeld => ?_)
            generalize w85.drew = w86 at HO556 HO561 HO566 HO572 HO578 HO584 BK549 BK550 BK568 BK574 BK580 BK586 HB hHeld ⊢
            refine take_ (i := 0) (N := some 40) (v := ?_) (a' := ?_) #[true, false, false, false, false] rfl rfl (by kernel_rfl) (fun _ _ _ h => h) (Or.inl ⟨by rfl, ?_⟩) hHeld ?_ ?_
            rotate_left
            · rintro w' ⟨s0, s1, s2, s3, s4, s5⟩
              go_simp
              with_reducible rfl
            rotate_left
            · simp only [Act.put, List.setIfInBounds_toArray, List.set_cons_zero, List.set_cons_succ, i64_w, i32_w]
              rfl
            refine take_ (i := 1) (N := some 41) (v := ?_) (a' := ?_) #[true, true, false, false, false] rfl rfl (by kernel_rfl) (fun _ _ _ h => h) (Or.inl ⟨by rfl, ?_⟩) hHeld ?_ ?_
            rotate_left
            · rintro w' ⟨s0, s1, s2, s3, s4, s5⟩
              go_simp
              with_reducible rfl
            rotate_left
            · simp only [Act.put, List.setIfInBounds_toArray, List.set_cons_zero, List.set_cons_succ, i64_w, i32_w]
              rfl
            refine one_ (i := 2) (N := some 42) #[true, true, true, false, false] rfl rfl (by kernel_rfl) (by decide) (fun K hK => ?_)
            refine goes_ Tryd.func42 (by kernel_rfl) rfl #[.agg #[.int .i64 a0_0, .slice A0_1 l0_1.length c0_1, .string a0_2]] (by rfl) rfl rfl ma ?_
            with_reducible refine (laws_toResp.calls k a0_0 _ _ l0_1 a0_2 t588 t589 t592 _ ?side1 ?side2 A27.out).mono ?_
            (case side1 => repeat (first | exact (Kd.C_below HR0_1.out HB.out) | (with_reducible refine Kd.C_alloc ?_ _) | (with_reducible refine Kd.C_drewN ?_ _) | (with_reducible refine Kd.C_drew ?_)))
            (case side2 => exact HC0_1.out)
            rintro e w87 ⟨v590, rfl, ho0, hb⟩
            refine ⟨_, rfl, ?_⟩
            have HO591 := Aside0.mk (Kd.R_lower (Kd.R_new' (Kd.R_new' (Kd.R_new' (Kd.R_new' (Kd.R_new' (Kd.R_new' ho0 (Kd.R_lt (ro HO556))) (Kd.R_lt (ro HO561))) (Kd.R_lt (ro HO566))) (Kd.R_lt (ro HO572))) (Kd.R_lt (ro HO578))) (Kd.R_lt (ro HO584))) (below_size bl))
            replace HO556 := Aside0.mk (Kd.R_elder' (ro HO556) (Kd.R_base ho0) hb)
            replace HO561 := Aside0.mk (Kd.R_elder' (ro HO561) (Kd.R_base ho0) hb)
            replace HO566 := Aside0.mk (Kd.R_elder' (ro HO566) (Kd.R_base ho0) hb)
            replace HO572 := Aside0.mk (Kd.R_elder' (ro HO572) (Kd.R_base ho0) hb)
            replace HO578 := Aside0.mk (Kd.R_elder' (ro HO578) (Kd.R_base ho0) hb)
            replace HO584 := Aside0.mk (Kd.R_elder' (ro HO584) (Kd.R_base ho0) hb)
            replace BK549 := kb BK549 hb
            replace BK550 := kb BK550 hb
            replace BK568 := kb BK568 hb
            replace BK574 := kb BK574 hb
            replace BK580 := kb BK580 hb
            replace BK586 := kb BK586 hb
            replace HB := Aside0.mk (below_step bl hb)
            (try clear hb)
            (try clear hb2)
            (try clear hk)
            (try clear hi)
            (try clear ho0)
            obtain ⟨Ao88, co88, eo88⟩ := Kd.R_slice HO591.out
            (first | subst eo88 | (injection eo88 with f1_ f2_ f3_; have f4_ := f1_.symm; have f5_ := f3_.symm; clear f1_ f2_ f3_; subst f4_; subst f5_))
            refine hK.out _ _ ⟨(blk_cell BK574.out 0).trans rfl, (blk_cell BK574.out 1).trans rfl, (blk_cell BK574.out 2).trans rfl, (blk_cell BK549.out 0).trans rfl, (blk_cell BK549.out 1).trans rfl, (blk_cell BK549.out 2).trans rfl⟩ (fun hHeld => ?_)
            clear hK K
            refine norm_ (a' := ?_) ?_ ?_
            rotate_left
            · show Act.put _ (some 42) _ = _
              simp only [Act.put, List.setIfInBounds_toArray, List.set_cons_zero, List.set_cons_succ, i64_w, i32_w]
              rfl
            refine one_ (i := 3) (N := some 43) #[true, true, true, true, false] rfl rfl (by kernel_rfl) (by decide) (fun K hK => ?_)
            refine goes_ Tryd.func44 (by kernel_rfl) rfl #[.agg #[.int .i64 t569, .slice Ao63 t570.length co63, .string t573], .agg #[.int .i64 t588, .slice Ao88 t589.length co88, .string t592]] (by rfl) rfl rfl ma ?_
            with_reducible refine (laws_eqResp.calls k t569 _ _ t570 t573 t588 _ _ t589 t592 true _ ?side1 ?side2 ?side3 ?side4 A28.out).mono ?_
            (case side1 => repeat (first | exact (Kd.R_reads' HO572.out).2.2 | (with_reducible refine Kd.C_alloc ?_ _) | (with_reducible refine Kd.C_drewN ?_ _) | (with_reducible refine Kd.C_drew ?_)))
            (case side2 => exact (Kd.R_reads' HO572.out).2.1)
            (case side3 => repeat (first | exact (Kd.R_reads' HO591.out).2.2 | (with_reducible refine Kd.C_alloc ?_ _) | (with_reducible refine Kd.C_drewN ?_ _) | (with_reducible refine Kd.C_drew ?_)))
            (case side4 => exact (Kd.R_reads' HO591.out).2.1)
            rintro e w89 ⟨rfl, hb⟩
            refine ⟨_, rfl, ?_⟩
            replace HO556 := kr HO556 hb
            replace HO561 := kr HO561 hb
            replace HO566 := kr HO566 hb
            replace HO572 := kr HO572 hb
            replace HO578 := kr HO578 hb
            replace HO584 := kr HO584 hb
            replace HO591 := kr HO591 hb
            replace BK549 := kb BK549 hb
            replace BK550 := kb BK550 hb
            replace BK568 := kb BK568 hb
            replace BK574 := kb BK574 hb
            replace BK580 := kb BK580 hb
            replace BK586 := kb BK586 hb
            replace HB := Aside0.mk (below_step bl hb)
            (try clear hb)
            (try clear hb2)
            (try clear hk)
            (try clear hi)
            refine hK.out _ _ ⟨(blk_cell BK574.out 0).trans rfl, (blk_cell BK574.out 1).trans rfl, (blk_cell BK574.out 2).trans rfl, (blk_cell BK549.out 0).trans rfl, (blk_cell BK549.out 1).trans rfl, (blk_cell BK549.out 2).trans rfl⟩ (fun hHeld => ?_)
            clear hK K
            refine norm_ (a' := ?_) ?_ ?_
            rotate_left
            · show Act.put _ (some 43) _ = _
              simp only [Act.put, List.setIfInBounds_toArray, List.set_cons_zero, List.set_cons_succ, i64_w, i32_w]
              rfl
            refine pure_ (i := 4) (N := some 44) (v := ?_) (a' := ?_) #[true, true, true, true, true] rfl rfl (by kernel_rfl) (fun _ _ _ h => h) (Or.inl ⟨by rfl, ?_⟩) ?_ ?_
            rotate_left
            · intro w'
              go_simp
              with_reducible rfl
            rotate_left
            · simp only [Act.put, List.setIfInBounds_toArray, List.set_cons_zero, List.set_cons_succ, i64_w, i32_w]
              rfl
            refine done_ (by kernel_rfl) ?_
            try go_wp2
            replace HO556 := Aside0.mk (Kd.R_drew HO556.out)
            replace HO561 := Aside0.mk (Kd.R_drew HO561.out)
            replace HO566 := Aside0.mk (Kd.R_drew HO566.out)
            replace HO572 := Aside0.mk (Kd.R_drew HO572.out)
            replace HO578 := Aside0.mk (Kd.R_drew HO578.out)
            replace HO584 := Aside0.mk (Kd.R_drew HO584.out)
            replace HO591 := Aside0.mk (Kd.R_drew HO591.out)
            replace BK549 := Aside0.mk (blk_drew BK549.out)
            replace BK550 := Aside0.mk (blk_drew BK550.out)
            replace BK568 := Aside0.mk (blk_drew BK568.out)
            replace BK574 := Aside0.mk (blk_drew BK574.out)
            replace BK580 := Aside0.mk (blk_drew BK580.out)
            replace BK586 := Aside0.mk (blk_drew BK586.out)
            replace HB := Aside0.mk (below_drew1 HB.out)
            refine start_ (n := 5) (S := fun w' => w'.cell? ⟨gb580, 0, none⟩ = some (.int .i64 t575) ∧ w'.cell? ⟨gb580, 1, none⟩ = some (.slice Ao73 t576.length co73) ∧ w'.cell? ⟨gb580, 2, none⟩ = some (.string t579) ∧ w'.cell? ⟨gb550, 0, none⟩ = some (.int .i64 a1_0) ∧ w'.cell? ⟨gb550, 1, none⟩ = some (.slice A1_1 l1_1.length c1_1) ∧ w'.cell? ⟨gb550, 2, none⟩ = some (.string a1_2)) (ds := []) #[false, false, false, false, false] (by kernel_rfl) rfl rfl ⟨(blk_cell BK580.out 0).trans rfl, (blk_cell BK580.out 1).trans rfl, (blk_cell BK580.out 2).trans rfl, (blk_cell BK550.out 0).trans rfl, (blk_cell BK550.out 1).trans rfl, (blk_cell BK550.out 2).trans rfl⟩ (fun hHeld => ?_)
            generalize w89.drew = w90 at HO556 HO561 HO566 HO572 HO578 HO584 HO591 BK549 BK550 BK568 BK574 BK580 BK586 HB hHeld ⊢
            refine take_ (i := 0) (N := some 45) (v := ?_) (a' := ?_) #[true, false, false, false, false] rfl rfl (by kernel_rfl) (fun _ _ _ h => h) (Or.inl ⟨by rfl, ?_⟩) hHeld ?_ ?_
            rotate_left
            · rintro w' ⟨s0, s1, s2, s3, s4, s5⟩
              go_simp
              with_reducible rfl
            rotate_left
            · simp only [Act.put, List.setIfInBounds_toArray, List.set_cons_zero, List.set_cons_succ, i64_w, i32_w]
              rfl
            refine take_ (i := 1) (N := some 46) (v := ?_) (a' := ?_) #[true, true, false, false, false] rfl rfl (by kernel_rfl) (fun _ _ _ h => h) (Or.inl ⟨by rfl, ?_⟩) hHeld ?_ ?_
            rotate_left
            · rintro w' ⟨s0, s1, s2, s3, s4, s5⟩
              go_simp
              with_reducible rfl
            rotate_left
            · simp only [Act.put, List.setIfInBounds_toArray, List.set_cons_zero, List.set_cons_succ, i64_w, i32_w]
              rfl
            refine one_ (i := 2) (N := some 47) #[true, true, true, false, false] rfl rfl (by kernel_rfl) (by decide) (fun K hK => ?_)
            refine goes_ Tryd.func42 (by kernel_rfl) rfl #[.agg #[.int .i64 a1_0, .slice A1_1 l1_1.length c1_1, .string a1_2]] (by rfl) rfl rfl ma ?_
            with_reducible refine (laws_toResp.calls k a1_0 _ _ l1_1 a1_2 t594 t595 t598 _ ?side1 ?side2 A30.out).mono ?_
            (case side1 => repeat (first | exact (Kd.C_below HR1_1.out HB.out) | (with_reducible refine Kd.C_alloc ?_ _) | (with_reducible refine Kd.C_drewN ?_ _) | (with_reducible refine Kd.C_drew ?_)))
            (case side2 => exact HC1_1.out)
            rintro e w91 ⟨v596, rfl, ho0, hb⟩
            refine ⟨_, rfl, ?_⟩
            have HO597 := Aside0.mk (Kd.R_lower (Kd.R_new' (Kd.R_new' (Kd.R_new' (Kd.R_new' (Kd.R_new' (Kd.R_new' (Kd.R_new' ho0 (Kd.R_lt (ro HO556))) (Kd.R_lt (ro HO561))) (Kd.R_lt (ro HO566))) (Kd.R_lt (ro HO572))) (Kd.R_lt (ro HO578))) (Kd.R_lt (ro HO584))) (Kd.R_lt (ro HO591))) (below_size bl))
            replace HO556 := Aside0.mk (Kd.R_elder' (ro HO556) (Kd.R_base ho0) hb)
            replace HO561 := Aside0.mk (Kd.R_elder' (ro HO561) (Kd.R_base ho0) hb)
            replace HO566 := Aside0.mk (Kd.R_elder' (ro HO566) (Kd.R_base ho0) hb)
            replace HO572 := Aside0.mk (Kd.R_elder' (ro HO572) (Kd.R_base ho0) hb)
            replace HO578 := Aside0.mk (Kd.R_elder' (ro HO578) (Kd.R_base ho0) hb)
            replace HO584 := Aside0.mk (Kd.R_elder' (ro HO584) (Kd.R_base ho0) hb)
            replace HO591 := Aside0.mk (Kd.R_elder' (ro HO591) (Kd.R_base ho0) hb)
            replace BK549 := kb BK549 hb
            replace BK550 := kb BK550 hb
            replace BK568 := kb BK568 hb
            replace BK574 := kb BK574 hb
            replace BK580 := kb BK580 hb
            replace BK586 := kb BK586 hb
            replace HB := Aside0.mk (below_step bl hb)
            (try clear hb)
            (try clear hb2)
            (try clear hk)
            (try clear hi)
            (try clear ho0)
            obtain ⟨Ao92, co92, eo92⟩ := Kd.R_slice HO597.out
            (first | subst eo92 | (injection eo92 with f1_ f2_ f3_; have f4_ := f1_.symm; have f5_ := f3_.symm; clear f1_ f2_ f3_; subst f4_; subst f5_))
            refine hK.out _ _ ⟨(blk_cell BK580.out 0).trans rfl, (blk_cell BK580.out 1).trans rfl, (blk_cell BK580.out 2).trans rfl, (blk_cell BK550.out 0).trans rfl, (blk_cell BK550.out 1).trans rfl, (blk_cell BK550.out 2).trans rfl⟩ (fun hHeld => ?_)
            clear hK K
            refine norm_ (a' := ?_) ?_ ?_
            rotate_left
            · show Act.put _ (some 47) _ = _
              simp only [Act.put, List.setIfInBounds_toArray, List.set_cons_zero, List.set_cons_succ, i64_w, i32_w]
              rfl
            refine one_ (i := 3) (N := some 48) #[true, true, true, true, false] rfl rfl (by kernel_rfl) (by decide) (fun K hK => ?_)
            refine goes_ Tryd.func44 (by kernel_rfl) rfl #[.agg #[.int .i64 t575, .slice Ao73 t576.length co73, .string t579], .agg #[.int .i64 t594, .slice Ao92 t595.length co92, .string t598]] (by rfl) rfl rfl ma ?_
            with_reducible refine (laws_eqResp.calls k t575 _ _ t576 t579 t594 _ _ t595 t598 true _ ?side1 ?side2 ?side3 ?side4 A31.out).mono ?_
            (case side1 => repeat (first | exact (Kd.R_reads' HO578.out).2.2 | (with_reducible refine Kd.C_alloc ?_ _) | (with_reducible refine Kd.C_drewN ?_ _) | (with_reducible refine Kd.C_drew ?_)))
            (case side2 => exact (Kd.R_reads' HO578.out).2.1)
            (case side3 => repeat (first | exact (Kd.R_reads' HO597.out).2.2 | (with_reducible refine Kd.C_alloc ?_ _) | (with_reducible refine Kd.C_drewN ?_ _) | (with_reducible refine Kd.C_drew ?_)))
            (case side4 => exact (Kd.R_reads' HO597.out).2.1)
            rintro e w93 ⟨rfl, hb⟩
            refine ⟨_, rfl, ?_⟩
            replace HO556 := kr HO556 hb
            replace HO561 := kr HO561 hb
            replace HO566 := kr HO566 hb
            replace HO572 := kr HO572 hb
            replace HO578 := kr HO578 hb
            replace HO584 := kr HO584 hb
            replace HO591 := kr HO591 hb
            replace HO597 := kr HO597 hb
            replace BK549 := kb BK549 hb
            replace BK550 := kb BK550 hb
            replace BK568 := kb BK568 hb
            replace BK574 := kb BK574 hb
            replace BK580 := kb BK580 hb
            replace BK586 := kb BK586 hb
            replace HB := Aside0.mk (below_step bl hb)
            (try clear hb)
            (try clear hb2)
            (try clear hk)
            (try clear hi)
            refine hK.out _ _ ⟨(blk_cell BK580.out 0).trans rfl, (blk_cell BK580.out 1).trans rfl, (blk_cell BK580.out 2).trans rfl, (blk_cell BK550.out 0).trans rfl, (blk_cell BK550.out 1).trans rfl, (blk_cell BK550.out 2).trans rfl⟩ (fun hHeld => ?_)
            clear hK K
            refine norm_ (a' := ?_) ?_ ?_
            rotate_left
            · show Act.put _ (some 48) _ = _
              simp only [Act.put, List.setIfInBounds_toArray, List.set_cons_zero, List.set_cons_succ, i64_w, i32_w]
              rfl
            refine pure_ (i := 4) (N := some 49) (v := ?_) (a' := ?_) #[true, true, true, true, true] rfl rfl (by kernel_rfl) (fun _ _ _ h => h) (Or.inl ⟨by rfl, ?_⟩) ?_ ?_
            rotate_left
            · intro w'
              go_simp
              with_reducible rfl
            rotate_left
            · simp only [Act.put, List.setIfInBounds_toArray, List.set_cons_zero, List.set_cons_succ, i64_w, i32_w]
              rfl
            refine done_ (by kernel_rfl) ?_
            have hcz94_0 : w93.cell? ⟨gb574, 0, none⟩ = some (.int .i64 t569) := (blk_cell BK574.out 0).trans rfl
            have hcz94_1 : w93.cell? ⟨gb574, 1, none⟩ = some (.slice Ao63 t570.length co63) := (blk_cell BK574.out 1).trans rfl
            have hcz94_2 : w93.cell? ⟨gb574, 2, none⟩ = some (.string t573) := (blk_cell BK574.out 2).trans rfl
            have hfz94_0 := blk_frozen BK574.out 0
            have hfz94_1 := blk_frozen BK574.out 1
            have hfz94_2 := blk_frozen BK574.out 2
            go_upto_region 21 with (first | ((with_reducible refine gate_callee (f := 57) rfl ?_); refine goesL_ (some 52) rfl rfl Tryd.func57 (by kernel_rfl) rfl #[.agg #[.int .i64 t569, .slice Ao63 t570.length co63, .string t573], .int .i64 1] rfl ma ?_; (with_reducible refine (laws_markResp.calls k t569 (fun k_ => some k_ = (.slice Ao63 t570.length co63 : Value).ownBlock) (.slice Ao63 t570.length co63) t570 t573 1 t600 t601 w _ ?side1 ?side2 A33.out).mono ?_); (case side1 => repeat (first | (with_reducible first | exact HB.out | apply below_alloc | apply pw_below_drewN | apply below_drew1 | refine below_set ?_ GE549.out | refine below_set ?_ GE550.out | refine below_set ?_ GE568.out | refine below_set ?_ GE574.out | refine below_set ?_ GE580.out | refine below_set ?_ GE586.out) | exact HB.out)); (case side2 => exact Kd.R_tight rfl HO572.out); rintro e w95 ⟨rfl, hy0, hb, hkp⟩; refine ⟨_, rfl, ?_⟩; replace BK549 := Aside0.mk (blk_kept (bk BK549) hkp (fun hs_ => (fun e_ => (Kd.R_ne HO572.out BK549.out (by decide)) e_) hs_)); replace BK550 := Aside0.mk (blk_kept (bk BK550) hkp (fun hs_ => (fun e_ => (Kd.R_ne HO572.out BK550.out (by decide)) e_) hs_)); replace HO556 := Aside0.mk (Kd.R_mono (ok' := fun k_ => some k_ ≠ (v560 : Value).ownBlock ∧ some k_ ≠ (.slice Ao52 t564.length co52 : Value).ownBlock ∧ some k_ ≠ (.slice Ao63 t570.length co63 : Value).ownBlock ∧ some k_ ≠ (.slice Ao73 t576.length co73 : Value).ownBlock ∧ some k_ ≠ (.slice Ao83 t582.length co83 : Value).ownBlock ∧ some k_ ≠ (.slice Ao88 t589.length co88 : Value).ownBlock ∧ some k_ ≠ (.slice Ao92 t595.length co92 : Value).ownBlock) (Kd.R_keptB (HO556.out) hkp (fun k_ hk_ hs_ => (hk_.1.1.1.1.2) hs_)) (fun k_ hk_ => ⟨hk_.1.1.1.1.1.1.1, hk_.1.1.1.1.1.1.2, hk_.1.1.1.1.1.2, hk_.1.1.1.1.2, hk_.1.1.1.2, hk_.1.1.2, hk_.1.2⟩)); replace HO561 := Aside0.mk (Kd.R_mono (ok' := fun k_ => some k_ ≠ (v555 : Value).ownBlock ∧ some k_ ≠ (.slice Ao52 t564.length co52 : Value).ownBlock ∧ some k_ ≠ (.slice Ao63 t570.length co63 : Value).ownBlock ∧ some k_ ≠ (.slice Ao73 t576.length co73 : Value).ownBlock ∧ some k_ ≠ (.slice Ao83 t582.length co83 : Value).ownBlock ∧ some k_ ≠ (.slice Ao88 t589.length co88 : Value).ownBlock ∧ some k_ ≠ (.slice Ao92 t595.length co92 : Value).ownBlock) (Kd.R_keptB (HO561.out) hkp (fun k_ hk_ hs_ => (hk_.1.1.1.1.2) hs_)) (fun k_ hk_ => ⟨hk_.1.1.1.1.1.1.1, hk_.1.1.1.1.1.1.2, hk_.1.1.1.1.1.2, hk_.1.1.1.1.2, hk_.1.1.1.2, hk_.1.1.2, hk_.1.2⟩)); replace HO566 := Aside0.mk (Kd.R_mono (ok' := fun k_ => some k_ ≠ (v555 : Value).ownBlock ∧ some k_ ≠ (v560 : Value).ownBlock ∧ some k_ ≠ (.slice Ao63 t570.length co63 : Value).ownBlock ∧ some k_ ≠ (.slice Ao73 t576.length co73 : Value).ownBlock ∧ some k_ ≠ (.slice Ao83 t582.length co83 : Value).ownBlock ∧ some k_ ≠ (.slice Ao88 t589.length co88 : Value).ownBlock ∧ some k_ ≠ (.slice Ao92 t595.length co92 : Value).ownBlock) (Kd.R_keptB (HO566.out) hkp (fun k_ hk_ hs_ => (hk_.1.1.1.1.2) hs_)) (fun k_ hk_ => ⟨hk_.1.1.1.1.1.1.1, hk_.1.1.1.1.1.1.2, hk_.1.1.1.1.1.2, hk_.1.1.1.1.2, hk_.1.1.1.2, hk_.1.1.2, hk_.1.2⟩)); replace BK568 := Aside0.mk (blk_kept (bk BK568) hkp (fun hs_ => (fun e_ => (Kd.R_ne HO572.out BK568.out (by decide)) e_) hs_)); replace BK574 := Aside0.mk (blk_kept (bk BK574) hkp (fun hs_ => (fun e_ => (Kd.R_ne HO572.out BK574.out (by decide)) e_) hs_)); replace HO578 := Aside0.mk (Kd.R_mono (ok' := fun k_ => some k_ ≠ (v555 : Value).ownBlock ∧ some k_ ≠ (v560 : Value).ownBlock ∧ some k_ ≠ (.slice Ao52 t564.length co52 : Value).ownBlock ∧ some k_ ≠ (.slice Ao63 t570.length co63 : Value).ownBlock ∧ some k_ ≠ (.slice Ao83 t582.length co83 : Value).ownBlock ∧ some k_ ≠ (.slice Ao88 t589.length co88 : Value).ownBlock ∧ some k_ ≠ (.slice Ao92 t595.length co92 : Value).ownBlock) (Kd.R_keptB (HO578.out) hkp (fun k_ hk_ hs_ => (hk_.1.1.1.2) hs_)) (fun k_ hk_ => ⟨hk_.1.1.1.1.1.1.1.2, hk_.1.1.1.1.1.1.2, hk_.1.1.1.1.1.2, hk_.1.1.1.1.2, hk_.1.1.1.2, hk_.1.1.2, hk_.1.2⟩)); replace BK580 := Aside0.mk (blk_kept (bk BK580) hkp (fun hs_ => (fun e_ => (Kd.R_ne HO572.out BK580.out (by decide)) e_) hs_)); replace HO584 := Aside0.mk (Kd.R_mono (ok' := fun k_ => some k_ ≠ (v555 : Value).ownBlock ∧ some k_ ≠ (v560 : Value).ownBlock ∧ some k_ ≠ (.slice Ao52 t564.length co52 : Value).ownBlock ∧ some k_ ≠ (.slice Ao63 t570.length co63 : Value).ownBlock ∧ some k_ ≠ (.slice Ao73 t576.length co73 : Value).ownBlock ∧ some k_ ≠ (.slice Ao88 t589.length co88 : Value).ownBlock ∧ some k_ ≠ (.slice Ao92 t595.length co92 : Value).ownBlock) (Kd.R_keptB (HO584.out) hkp (fun k_ hk_ hs_ => (hk_.1.1.1.2) hs_)) (fun k_ hk_ => ⟨hk_.1.1.1.1.1.1.1.2, hk_.1.1.1.1.1.1.2, hk_.1.1.1.1.1.2, hk_.1.1.1.1.2, hk_.1.1.1.2, hk_.1.1.2, hk_.1.2⟩)); replace BK586 := Aside0.mk (blk_kept (bk BK586) hkp (fun hs_ => (fun e_ => (Kd.R_ne HO572.out BK586.out (by decide)) e_) hs_)); replace HO572 := Aside0.mk (Kd.R_reok rfl hy0 (fun k_ e_ => HO572.out.1 k_ e_)); replace HO591 := Aside0.mk (Kd.R_mono (ok' := fun k_ => some k_ ≠ (v555 : Value).ownBlock ∧ some k_ ≠ (v560 : Value).ownBlock ∧ some k_ ≠ (.slice Ao52 t564.length co52 : Value).ownBlock ∧ some k_ ≠ (.slice Ao63 t570.length co63 : Value).ownBlock ∧ some k_ ≠ (.slice Ao73 t576.length co73 : Value).ownBlock ∧ some k_ ≠ (.slice Ao83 t582.length co83 : Value).ownBlock ∧ some k_ ≠ (.slice Ao92 t595.length co92 : Value).ownBlock) (Kd.R_keptB (HO591.out) hkp (fun k_ hk_ hs_ => (hk_.1.1.1.2) hs_)) (fun k_ hk_ => ⟨hk_.1.1.1.1.1.1.1.2, hk_.1.1.1.1.1.1.2, hk_.1.1.1.1.1.2, hk_.1.1.1.1.2, hk_.1.1.1.2, hk_.1.1.2, hk_.1.2⟩)); replace HO597 := Aside0.mk (Kd.R_mono (ok' := fun k_ => some k_ ≠ (v555 : Value).ownBlock ∧ some k_ ≠ (v560 : Value).ownBlock ∧ some k_ ≠ (.slice Ao52 t564.length co52 : Value).ownBlock ∧ some k_ ≠ (.slice Ao63 t570.length co63 : Value).ownBlock ∧ some k_ ≠ (.slice Ao73 t576.length co73 : Value).ownBlock ∧ some k_ ≠ (.slice Ao83 t582.length co83 : Value).ownBlock ∧ some k_ ≠ (.slice Ao88 t589.length co88 : Value).ownBlock) (Kd.R_keptB (HO597.out) hkp (fun k_ hk_ hs_ => (hk_.1.1.1.2) hs_)) (fun k_ hk_ => ⟨hk_.1.1.1.1.1.1.1.2, hk_.1.1.1.1.1.1.2, hk_.1.1.1.1.1.2, hk_.1.1.1.1.2, hk_.1.1.1.2, hk_.1.1.2, hk_.1.2⟩)); replace HB := Aside0.mk (hb); (try clear hb); (try clear hkp); (try clear hy0); have hcz96_0 : w95.cell? ⟨gb580, 0, none⟩ = some (.int .i64 t575) := (blk_cell BK580.out 0).trans rfl; have hcz96_1 : w95.cell? ⟨gb580, 1, none⟩ = some (.slice Ao73 t576.length co73) := (blk_cell BK580.out 1).trans rfl; have hcz96_2 : w95.cell? ⟨gb580, 2, none⟩ = some (.string t579) := (blk_cell BK580.out 2).trans rfl; have hfz96_0 := blk_frozen BK580.out 0; have hfz96_1 := blk_frozen BK580.out 1; have hfz96_2 := blk_frozen BK580.out 2) | ((with_reducible refine gate_callee (f := 57) rfl ?_); refine goesL_ (some 55) rfl rfl Tryd.func57 (by kernel_rfl) rfl #[.agg #[.int .i64 t575, .slice Ao73 t576.length co73, .string t579], .int .i64 t600] rfl ma ?_; (with_reducible refine (laws_markResp.calls k t575 (fun k_ => some k_ = (.slice Ao73 t576.length co73 : Value).ownBlock) (.slice Ao73 t576.length co73) t576 t579 t600 t602 t603 w _ ?side1 ?side2 A34.out).mono ?_); (case side1 => repeat (first | (with_reducible first | exact HB.out | apply below_alloc | apply pw_below_drewN | apply below_drew1 | refine below_set ?_ GE549.out | refine below_set ?_ GE550.out | refine below_set ?_ GE568.out | refine below_set ?_ GE574.out | refine below_set ?_ GE580.out | refine below_set ?_ GE586.out) | exact HB.out)); (case side2 => exact Kd.R_tight rfl HO578.out); rintro e w97 ⟨rfl, hy0, hb, hkp⟩; refine ⟨_, rfl, ?_⟩; replace BK549 := Aside0.mk (blk_kept (bk BK549) hkp (fun hs_ => (fun e_ => (Kd.R_ne HO578.out BK549.out (by decide)) e_) hs_)); replace BK550 := Aside0.mk (blk_kept (bk BK550) hkp (fun hs_ => (fun e_ => (Kd.R_ne HO578.out BK550.out (by decide)) e_) hs_)); replace HO556 := Aside0.mk (Kd.R_mono (ok' := fun k_ => some k_ ≠ (v560 : Value).ownBlock ∧ some k_ ≠ (.slice Ao52 t564.length co52 : Value).ownBlock ∧ some k_ ≠ (.slice Ao63 t570.length co63 : Value).ownBlock ∧ some k_ ≠ (.slice Ao73 t576.length co73 : Value).ownBlock ∧ some k_ ≠ (.slice Ao83 t582.length co83 : Value).ownBlock ∧ some k_ ≠ (.slice Ao88 t589.length co88 : Value).ownBlock ∧ some k_ ≠ (.slice Ao92 t595.length co92 : Value).ownBlock) (Kd.R_keptB (HO556.out) hkp (fun k_ hk_ hs_ => (hk_.2.2.2.1) hs_)) (fun k_ hk_ => ⟨hk_.1.1, hk_.1.2.1, hk_.1.2.2.1, hk_.1.2.2.2.1, hk_.1.2.2.2.2.1, hk_.1.2.2.2.2.2.1, hk_.1.2.2.2.2.2.2⟩)); replace HO561 := Aside0.mk (Kd.R_mono (ok' := fun k_ => some k_ ≠ (v555 : Value).ownBlock ∧ some k_ ≠ (.slice Ao52 t564.length co52 : Value).ownBlock ∧ some k_ ≠ (.slice Ao63 t570.length co63 : Value).ownBlock ∧ some k_ ≠ (.slice Ao73 t576.length co73 : Value).ownBlock ∧ some k_ ≠ (.slice Ao83 t582.length co83 : Value).ownBlock ∧ some k_ ≠ (.slice Ao88 t589.length co88 : Value).ownBlock ∧ some k_ ≠ (.slice Ao92 t595.length co92 : Value).ownBlock) (Kd.R_keptB (HO561.out) hkp (fun k_ hk_ hs_ => (hk_.2.2.2.1) hs_)) (fun k_ hk_ => ⟨hk_.1.1, hk_.1.2.1, hk_.1.2.2.1, hk_.1.2.2.2.1, hk_.1.2.2.2.2.1, hk_.1.2.2.2.2.2.1, hk_.1.2.2.2.2.2.2⟩)); replace HO566 := Aside0.mk (Kd.R_mono (ok' := fun k_ => some k_ ≠ (v555 : Value).ownBlock ∧ some k_ ≠ (v560 : Value).ownBlock ∧ some k_ ≠ (.slice Ao63 t570.length co63 : Value).ownBlock ∧ some k_ ≠ (.slice Ao73 t576.length co73 : Value).ownBlock ∧ some k_ ≠ (.slice Ao83 t582.length co83 : Value).ownBlock ∧ some k_ ≠ (.slice Ao88 t589.length co88 : Value).ownBlock ∧ some k_ ≠ (.slice Ao92 t595.length co92 : Value).ownBlock) (Kd.R_keptB (HO566.out) hkp (fun k_ hk_ hs_ => (hk_.2.2.2.1) hs_)) (fun k_ hk_ => ⟨hk_.1.1, hk_.1.2.1, hk_.1.2.2.1, hk_.1.2.2.2.1, hk_.1.2.2.2.2.1, hk_.1.2.2.2.2.2.1, hk_.1.2.2.2.2.2.2⟩)); replace BK568 := Aside0.mk (blk_kept (bk BK568) hkp (fun hs_ => (fun e_ => (Kd.R_ne HO578.out BK568.out (by decide)) e_) hs_)); replace HO572 := Aside0.mk (Kd.R_mono (ok' := fun k_ => some k_ ≠ (v555 : Value).ownBlock ∧ some k_ ≠ (v560 : Value).ownBlock ∧ some k_ ≠ (.slice Ao52 t564.length co52 : Value).ownBlock ∧ some k_ ≠ (.slice Ao73 t576.length co73 : Value).ownBlock ∧ some k_ ≠ (.slice Ao83 t582.length co83 : Value).ownBlock ∧ some k_ ≠ (.slice Ao88 t589.length co88 : Value).ownBlock ∧ some k_ ≠ (.slice Ao92 t595.length co92 : Value).ownBlock) (Kd.R_keptB (HO572.out) hkp (fun k_ hk_ hs_ => (hk_.1.1.1.2) hs_)) (fun k_ hk_ => ⟨hk_.1.1.1.1.1.1.1.2, hk_.1.1.1.1.1.1.2, hk_.1.1.1.1.1.2, hk_.1.1.1.1.2, hk_.1.1.1.2, hk_.1.1.2, hk_.1.2⟩)); replace BK574 := Aside0.mk (blk_kept (bk BK574) hkp (fun hs_ => (fun e_ => (Kd.R_ne HO578.out BK574.out (by decide)) e_) hs_)); replace BK580 := Aside0.mk (blk_kept (bk BK580) hkp (fun hs_ => (fun e_ => (Kd.R_ne HO578.out BK580.out (by decide)) e_) hs_)); replace HO584 := Aside0.mk (Kd.R_mono (ok' := fun k_ => some k_ ≠ (v555 : Value).ownBlock ∧ some k_ ≠ (v560 : Value).ownBlock ∧ some k_ ≠ (.slice Ao52 t564.length co52 : Value).ownBlock ∧ some k_ ≠ (.slice Ao63 t570.length co63 : Value).ownBlock ∧ some k_ ≠ (.slice Ao73 t576.length co73 : Value).ownBlock ∧ some k_ ≠ (.slice Ao88 t589.length co88 : Value).ownBlock ∧ some k_ ≠ (.slice Ao92 t595.length co92 : Value).ownBlock) (Kd.R_keptB (HO584.out) hkp (fun k_ hk_ hs_ => (hk_.2.2.2.2.1) hs_)) (fun k_ hk_ => ⟨hk_.1.1, hk_.1.2.1, hk_.1.2.2.1, hk_.1.2.2.2.1, hk_.1.2.2.2.2.1, hk_.1.2.2.2.2.2.1, hk_.1.2.2.2.2.2.2⟩)); replace BK586 := Aside0.mk (blk_kept (bk BK586) hkp (fun hs_ => (fun e_ => (Kd.R_ne HO578.out BK586.out (by decide)) e_) hs_)); replace HO578 := Aside0.mk (Kd.R_reok rfl hy0 (fun k_ e_ => HO578.out.1 k_ e_)); replace HO591 := Aside0.mk (Kd.R_mono (ok' := fun k_ => some k_ ≠ (v555 : Value).ownBlock ∧ some k_ ≠ (v560 : Value).ownBlock ∧ some k_ ≠ (.slice Ao52 t564.length co52 : Value).ownBlock ∧ some k_ ≠ (.slice Ao63 t570.length co63 : Value).ownBlock ∧ some k_ ≠ (.slice Ao73 t576.length co73 : Value).ownBlock ∧ some k_ ≠ (.slice Ao83 t582.length co83 : Value).ownBlock ∧ some k_ ≠ (.slice Ao92 t595.length co92 : Value).ownBlock) (Kd.R_keptB (HO591.out) hkp (fun k_ hk_ hs_ => (hk_.2.2.2.2.1) hs_)) (fun k_ hk_ => ⟨hk_.1.1, hk_.1.2.1, hk_.1.2.2.1, hk_.1.2.2.2.1, hk_.1.2.2.2.2.1, hk_.1.2.2.2.2.2.1, hk_.1.2.2.2.2.2.2⟩)); replace HO597 := Aside0.mk (Kd.R_mono (ok' := fun k_ => some k_ ≠ (v555 : Value).ownBlock ∧ some k_ ≠ (v560 : Value).ownBlock ∧ some k_ ≠ (.slice Ao52 t564.length co52 : Value).ownBlock ∧ some k_ ≠ (.slice Ao63 t570.length co63 : Value).ownBlock ∧ some k_ ≠ (.slice Ao73 t576.length co73 : Value).ownBlock ∧ some k_ ≠ (.slice Ao83 t582.length co83 : Value).ownBlock ∧ some k_ ≠ (.slice Ao88 t589.length co88 : Value).ownBlock) (Kd.R_keptB (HO597.out) hkp (fun k_ hk_ hs_ => (hk_.2.2.2.2.1) hs_)) (fun k_ hk_ => ⟨hk_.1.1, hk_.1.2.1, hk_.1.2.2.1, hk_.1.2.2.2.1, hk_.1.2.2.2.2.1, hk_.1.2.2.2.2.2.1, hk_.1.2.2.2.2.2.2⟩)); replace HB := Aside0.mk (hb); (try clear hb); (try clear hkp); (try clear hy0)))
            (try simp only [Act.put, List.setIfInBounds_toArray, List.set_cons_zero, List.set_cons_succ])
            go_cut [63] (fun v63 wc => ∃ (kq : Nat) (x63_34 : Bool), v63 = .bool x63_34 ∧ Aside0 (laws_FnExactMerge.j0 kq x63_34 a0_0 l0_1 a0_2 a1_0 l1_1 a1_2 t563 t564 t567 t581 t582 t585 = some r) ∧ Aside0 (kq ≤ k) ∧ Aside0 (Kd.R k78 78 wc w.heap.size (fun k_ => some k_ ≠ ((.slice Ao63 t570.length co63) : Value).ownBlock ∧ some k_ ≠ ((.slice Ao73 t576.length co73) : Value).ownBlock ∧ some k_ ≠ ((.slice Ao83 t582.length co83) : Value).ownBlock) (.slice Ao52 t564.length co52) t564) ∧ Aside0 (Kd.R k78 78 wc w.heap.size (fun k_ => some k_ ≠ ((.slice Ao52 t564.length co52) : Value).ownBlock ∧ some k_ ≠ ((.slice Ao73 t576.length co73) : Value).ownBlock ∧ some k_ ≠ ((.slice Ao83 t582.length co83) : Value).ownBlock) (.slice Ao63 t570.length co63) t601) ∧ Aside0 (Kd.R k78 78 wc w.heap.size (fun k_ => some k_ ≠ ((.slice Ao52 t564.length co52) : Value).ownBlock ∧ some k_ ≠ ((.slice Ao63 t570.length co63) : Value).ownBlock ∧ some k_ ≠ ((.slice Ao83 t582.length co83) : Value).ownBlock) (.slice Ao73 t576.length co73) t603) ∧ Aside0 (Kd.R k78 78 wc w.heap.size (fun k_ => some k_ ≠ ((.slice Ao52 t564.length co52) : Value).ownBlock ∧ some k_ ≠ ((.slice Ao63 t570.length co63) : Value).ownBlock ∧ some k_ ≠ ((.slice Ao73 t576.length co73) : Value).ownBlock) (.slice Ao83 t582.length co83) t582) ∧ Aside0 (wc.heap[gb549]? = some (.cells #[.int .i64 a0_0, (.slice A0_1 l0_1.length c0_1), .string a0_2] 48 (0, 0))) ∧ Aside0 (wc.heap[gb550]? = some (.cells #[.int .i64 a1_0, (.slice A1_1 l1_1.length c1_1), .string a1_2] 48 (0, 0))) ∧ Aside0 (wc.heap[gb568]? = some (.cells #[.int .i64 t563, (.slice Ao52 t564.length co52), .string t567] 52 (0, 0))) ∧ Aside0 (wc.heap[gb574]? = some (.cells #[.int .i64 t569, (.slice Ao63 t570.length co63), .string t573] 52 (0, 0))) ∧ Aside0 (wc.heap[gb580]? = some (.cells #[.int .i64 t575, (.slice Ao73 t576.length co73), .string t579] 52 (0, 0))) ∧ Aside0 (wc.heap[gb586]? = some (.cells #[.int .i64 t581, (.slice Ao83 t582.length co83), .string t585] 52 (0, 0))) ∧ Aside0 (Below w.heap.size w wc))
            case first =>
              have H := HC35.out
              clear HC35
              by_cases c98 : t602 < 0
              · rw [if_pos c98] at H
                have c98b0 : decide (t602 < 0) = true := decide_eq_true c98
                clear c98
                (first | rw [c98b0] | (simp only [i64_w, i32_w]; rw [c98b0]) | skip)
                cases k with
                | zero => exact absurd H (by simp [laws_FnExactMerge.j0])
                | succ k_ => simp only [laws_FnExactMerge.j0, if_true] at H; exact absurd (Option.some.inj H) (by rw [ht_]; decide)
              · rw [if_neg c98] at H
                have c98b0 : decide (t602 < 0) = false := decide_eq_false c98
                clear c98
                (first | rw [c98b0] | (simp only [i64_w, i32_w]; rw [c98b0]) | skip)
                replace H := Option.bind_eq_some_iff.mp H
                obtain ⟨t604, A990, H⟩ := H
                replace H : (laws_FnExactMerge.j0 k (!t604) a0_0 l0_1 a0_2 a1_0 l1_1 a1_2 t563 t564 t567 t581 t582 t585) = some r := H
                have A99 := Aside0.mk A990
                clear A990
                have H' := Aside0.mk H
                clear H
                have hnb100 := NB586_549.out
                have hnc100 := NB549_586.out
                have hnb101 := NB586_550.out
                have hnc101 := NB550_586.out
                have hnb102 := NB586_568.out
                have hnc102 := NB568_586.out
                have hnb103 := NB586_574.out
                have hnc103 := NB574_586.out
                have hnb104 := NB586_580.out
                have hnc104 := NB580_586.out
                have hcz105_0 : w97.cell? ⟨gb586, 0, none⟩ = some (.int .i64 t581) := (blk_cell BK586.out 0).trans rfl
                have hcz105_1 : w97.cell? ⟨gb586, 1, none⟩ = some (.slice Ao83 t582.length co83) := (blk_cell BK586.out 1).trans rfl
                have hcz105_2 : w97.cell? ⟨gb586, 2, none⟩ = some (.string t585) := (blk_cell BK586.out 2).trans rfl
                have hfz105_0 := blk_frozen BK586.out 0
                have hfz105_1 := blk_frozen BK586.out 1
                have hfz105_2 := blk_frozen BK586.out 2
                have hnb106 := NB568_549.out
                have hnc106 := NB549_568.out
                have hnb107 := NB568_550.out
                have hnc107 := NB550_568.out
                have hnb108 := NB568_574.out
                have hnc108 := NB574_568.out
                have hnb109 := NB568_580.out
                have hnc109 := NB580_568.out
                have hcz110_0 : w97.cell? ⟨gb568, 0, none⟩ = some (.int .i64 t563) := (blk_cell BK568.out 0).trans rfl
                have hcz110_1 : w97.cell? ⟨gb568, 1, none⟩ = some (.slice Ao52 t564.length co52) := (blk_cell BK568.out 1).trans rfl
                have hcz110_2 : w97.cell? ⟨gb568, 2, none⟩ = some (.string t567) := (blk_cell BK568.out 2).trans rfl
                have hfz110_0 := blk_frozen BK568.out 0
                have hfz110_1 := blk_frozen BK568.out 1
                have hfz110_2 := blk_frozen BK568.out 2
                go_wp2_with (first | (go_at_call 44; (with_reducible refine (laws_eqResp.calls k t581 _ _ t582 t585 t563 _ _ t564 t567 t604 _ ?side1 ?side2 ?side3 ?side4 A99.out).mono ?_); (case side1 => repeat (first | exact (Kd.R_reads' HO584.out).2.2 | (with_reducible refine Kd.C_alloc ?_ _) | (with_reducible refine Kd.C_drewN ?_ _) | (with_reducible refine Kd.C_drew ?_))); (case side2 => exact (Kd.R_reads' HO584.out).2.1); (case side3 => repeat (first | exact (Kd.R_reads' HO566.out).2.2 | (with_reducible refine Kd.C_alloc ?_ _) | (with_reducible refine Kd.C_drewN ?_ _) | (with_reducible refine Kd.C_drew ?_))); (case side4 => exact (Kd.R_reads' HO566.out).2.1); rintro e w111 ⟨rfl, hb⟩; replace HO556 := kr HO556 hb; replace HO561 := kr HO561 hb; replace HO566 := kr HO566 hb; replace HO572 := kr HO572 hb; replace HO578 := kr HO578 hb; replace HO584 := kr HO584 hb; replace HO591 := kr HO591 hb; replace HO597 := kr HO597 hb; replace BK549 := kb BK549 hb; replace BK550 := kb BK550 hb; replace BK568 := kb BK568 hb; replace BK574 := kb BK574 hb; replace BK580 := kb BK580 hb; replace BK586 := kb BK586 hb; replace HB := Aside0.mk (below_step bl hb); (try clear hb); (try clear hb2); (try clear hk); (try clear hi)))
                go_meet
                case rel => exact ⟨_, (!t604), (by first | rfl | (simp; done) | (simp [*]; done)), H', ⟨by first | omega | exact Nat.le_refl _⟩, ⟨by (with_reducible repeat (first | apply Kd.R_alloc | apply Kd.R_drewN | apply Kd.R_drew)); exact Kd.R_mono HO566.out (fun _ hk => ⟨hk.2.2.1, ⟨hk.2.2.2.1, hk.2.2.2.2.1⟩⟩)⟩, ⟨by (with_reducible repeat (first | apply Kd.R_alloc | apply Kd.R_drewN | apply Kd.R_drew)); exact Kd.R_mono HO572.out (fun _ hk => ⟨hk.2.2.1, ⟨hk.2.2.2.1, hk.2.2.2.2.1⟩⟩)⟩, ⟨by (with_reducible repeat (first | apply Kd.R_alloc | apply Kd.R_drewN | apply Kd.R_drew)); exact Kd.R_mono HO578.out (fun _ hk => ⟨hk.2.2.1, ⟨hk.2.2.2.1, hk.2.2.2.2.1⟩⟩)⟩, ⟨by (with_reducible repeat (first | apply Kd.R_alloc | apply Kd.R_drewN | apply Kd.R_drew)); exact Kd.R_mono HO584.out (fun _ hk => ⟨hk.2.2.1, ⟨hk.2.2.2.1, hk.2.2.2.2.1⟩⟩)⟩, ⟨by (with_reducible repeat (first | refine blk_drewN ?_ _ | refine blk_drew ?_ | refine blk_alloc ?_ _)); exact BK549.out⟩, ⟨by (with_reducible repeat (first | refine blk_drewN ?_ _ | refine blk_drew ?_ | refine blk_alloc ?_ _)); exact BK550.out⟩, ⟨by (with_reducible repeat (first | refine blk_drewN ?_ _ | refine blk_drew ?_ | refine blk_alloc ?_ _)); exact BK568.out⟩, ⟨by (with_reducible repeat (first | refine blk_drewN ?_ _ | refine blk_drew ?_ | refine blk_alloc ?_ _)); exact BK574.out⟩, ⟨by (with_reducible repeat (first | refine blk_drewN ?_ _ | refine blk_drew ?_ | refine blk_alloc ?_ _)); exact BK580.out⟩, ⟨by (with_reducible repeat (first | refine blk_drewN ?_ _ | refine blk_drew ?_ | refine blk_alloc ?_ _)); exact BK586.out⟩, ⟨by repeat (first | (with_reducible first | exact HB.out | apply below_alloc | apply pw_below_drewN | apply below_drew1 | refine below_set ?_ GE549.out | refine below_set ?_ GE550.out | refine below_set ?_ GE568.out | refine below_set ?_ GE574.out | refine below_set ?_ GE580.out | refine below_set ?_ GE586.out) | exact HB.out)⟩⟩
            case rest =>
              clear HC35
              try clear c1
              try clear p2
              try clear c4
              try clear c5
              try clear c6
              try clear c7
              try clear c8
              try clear c9
              try clear c10
              try clear c42
              try clear c44
              try clear c55
              try clear c56
              try clear c57
              try clear c59
              try clear c60
              try clear c61
              try clear c64
              try clear c68
              try clear c69
              try clear c70
              try clear c71
              try clear c77
              try clear c78
              try clear c79
              try clear c80
              try clear c81
              try clear c98
              try clear c98b0
              try clear c100
              try clear c101
              try clear c102
              try clear c103
              try clear c104
              try clear c106
              try clear c107
              try clear c108
              try clear c109
              try clear hcz105_0
              try clear hcz105_1
              try clear hcz105_2
              try clear hcz110_0
              try clear hcz110_1
              try clear hcz110_2
              try clear hcz56_0
              try clear hcz56_1
              try clear hcz56_2
              try clear hcz62_0
              try clear hcz62_1
              try clear hcz62_2
              try clear hcz65_0
              try clear hcz65_1
              try clear hcz65_2
              try clear hcz72_0
              try clear hcz72_1
              try clear hcz72_2
              try clear hcz74_0
              try clear hcz74_1
              try clear hcz74_2
              try clear hcz82_0
              try clear hcz82_1
              try clear hcz82_2
              try clear hcz84_0
              try clear hcz84_1
              try clear hcz84_2
              try clear hcz94_0
              try clear hcz94_1
              try clear hcz94_2
              try clear hcz96_0
              try clear hcz96_1
              try clear hcz96_2
              try clear hfz105_0
              try clear hfz105_1
              try clear hfz105_2
              try clear hfz110_0
              try clear hfz110_1
              try clear hfz110_2
              try clear hfz56_0
              try clear hfz56_1
              try clear hfz56_2
              try clear hfz62_0
              try clear hfz62_1
              try clear hfz62_2
              try clear hfz65_0
              try clear hfz65_1
              try clear hfz65_2
              try clear hfz72_0
              try clear hfz72_1
              try clear hfz72_2
              try clear hfz74_0
              try clear hfz74_1
              try clear hfz74_2
              try clear hfz82_0
              try clear hfz82_1
              try clear hfz82_2
              try clear hfz84_0
              try clear hfz84_1
              try clear hfz84_2
              try clear hfz94_0
              try clear hfz94_1
              try clear hfz94_2
              try clear hfz96_0
              try clear hfz96_1
              try clear hfz96_2
              obtain ⟨kq, x63_34, rfl, HA, HJ34, HO_569001, HO_575001, HO_581001, HO_587001, BK549, BK550, BK568, BK574, BK580, BK586, HB⟩ := hcut
              have hl575001_34 := (Kd.R_reads' HO_575001.out).1
              rw [hl575001_34] at HO_575001
              (try simp only [hl575001_34])
              (try simp only [hl575001_34] at BK549)
              (try simp only [hl575001_34] at BK550)
              (try simp only [hl575001_34] at BK568)
              (try simp only [hl575001_34] at BK574)
              (try simp only [hl575001_34] at BK580)
              (try simp only [hl575001_34] at BK586)
              (try simp only [hl575001_34] at HO_569001)
              (try simp only [hl575001_34] at HO_581001)
              (try simp only [hl575001_34] at HO_587001)
              have hl581001_34 := (Kd.R_reads' HO_581001.out).1
              rw [hl581001_34] at HO_581001
              (try simp only [hl581001_34])
              (try simp only [hl581001_34] at BK549)
              (try simp only [hl581001_34] at BK550)
              (try simp only [hl581001_34] at BK568)
              (try simp only [hl581001_34] at BK574)
              (try simp only [hl581001_34] at BK580)
              (try simp only [hl581001_34] at BK586)
              (try simp only [hl581001_34] at HO_569001)
              (try simp only [hl581001_34] at HO_575001)
              (try simp only [hl581001_34] at HO_587001)
              cases kq with
              | zero => exact absurd HA.out (by simp [laws_FnExactMerge.j0])
              | succ kj34 =>
                have H := HA.out
                clear HA
                simp only [laws_FnExactMerge.j0] at H
                by_cases c112 : x63_34 = true
                · subst c112
                  have H1 : (some false) = some r := by rw [if_pos rfl] at H; exact H
                  clear H
                  have H := H1
                  clear H1
                  exact absurd (Option.some.inj H) (by rw [ht_]; decide)
                · replace c112 := Bool.eq_false_iff.mpr c112
                  subst c112
                  have H1 : ((laws_markResp.f kj34 t581 t582 t585 1).bind fun bt605 => ((laws_heldResp.f kj34 t581 bt605.2 t585 1).bind fun t607 => (if t607 < 0 then (some false) else (if t607 = bt605.1 then ((laws_toResp.f kj34 a0_0 l0_1 a0_2).bind fun bt608 => ((laws_toResp.f kj34 a1_0 l1_1 a1_2).bind fun bt613 => ((impl_Merge.f kj34 bt608.1 bt608.2.1 bt608.2.2 bt613.1 bt613.2.1 bt613.2.2).bind fun bt618 => ((laws_eqResp.f kj34 bt618.1 bt618.2.1 bt618.2.2 t563 t564 t567).bind fun t624 => (if t624 = true then ((laws_heldResp.f kj34 t581 bt605.2 t585 1).bind fun t625 => (if t625 < 0 then (some false) else (if t625 = bt605.1 then (some true) else (some false)))) else (some false)))))) else (some false))))) = some r := by rw [if_neg (show ¬ (false = true) by decide)] at H; exact H
                  clear H
                  have H := H1
                  clear H1
                  replace H := Option.bind_eq_some_iff.mp H
                  obtain ⟨⟨t605, t606⟩, A1130, H⟩ := H
                  replace H : ((laws_heldResp.f kj34 t581 t606 t585 1).bind fun t607 => (if t607 < 0 then (some false) else (if t607 = t605 then ((laws_toResp.f kj34 a0_0 l0_1 a0_2).bind fun bt608 => ((laws_toResp.f kj34 a1_0 l1_1 a1_2).bind fun bt613 => ((impl_Merge.f kj34 bt608.1 bt608.2.1 bt608.2.2 bt613.1 bt613.2.1 bt613.2.2).bind fun bt618 => ((laws_eqResp.f kj34 bt618.1 bt618.2.1 bt618.2.2 t563 t564 t567).bind fun t624 => (if t624 = true then ((laws_heldResp.f kj34 t581 t606 t585 1).bind fun t625 => (if t625 < 0 then (some false) else (if t625 = t605 then (some true) else (some false)))) else (some false)))))) else (some false)))) = some r := H
                  have A113 := Aside0.mk A1130
                  clear A1130
                  replace H := Option.bind_eq_some_iff.mp H
                  obtain ⟨t607, A1140, H⟩ := H
                  replace H : (if t607 < 0 then (some false) else (if t607 = t605 then ((laws_toResp.f kj34 a0_0 l0_1 a0_2).bind fun bt608 => ((laws_toResp.f kj34 a1_0 l1_1 a1_2).bind fun bt613 => ((impl_Merge.f kj34 bt608.1 bt608.2.1 bt608.2.2 bt613.1 bt613.2.1 bt613.2.2).bind fun bt618 => ((laws_eqResp.f kj34 bt618.1 bt618.2.1 bt618.2.2 t563 t564 t567).bind fun t624 => (if t624 = true then ((laws_heldResp.f kj34 t581 t606 t585 1).bind fun t625 => (if t625 < 0 then (some false) else (if t625 = t605 then (some true) else (some false)))) else (some false)))))) else (some false))) = some r := H
                  have A114 := Aside0.mk A1140
                  clear A1140
                  by_cases c115 : t607 < 0
                  · rw [if_pos c115] at H
                    have c115b0 : decide (t607 < 0) = true := decide_eq_true c115
                    clear c115
                    exact absurd (Option.some.inj H) (by rw [ht_]; decide)
                  · rw [if_neg c115] at H
                    have c115b0 : decide (t607 < 0) = false := decide_eq_false c115
                    clear c115
                    by_cases c116 : t607 = t605
                    · rw [if_pos c116] at H
                      have c116b0 : (t607 == t605) = true := beq_iff_eq.mpr c116
                      have c116b1 : (t607 != t605) = false := bne_eq_false_iff_eq.mpr c116
                      clear c116
                      replace H := Option.bind_eq_some_iff.mp H
                      obtain ⟨⟨t608, t609, t612⟩, A1170, H⟩ := H
                      replace H : ((laws_toResp.f kj34 a1_0 l1_1 a1_2).bind fun bt613 => ((impl_Merge.f kj34 t608 t609 t612 bt613.1 bt613.2.1 bt613.2.2).bind fun bt618 => ((laws_eqResp.f kj34 bt618.1 bt618.2.1 bt618.2.2 t563 t564 t567).bind fun t624 => (if t624 = true then ((laws_heldResp.f kj34 t581 t606 t585 1).bind fun t625 => (if t625 < 0 then (some false) else (if t625 = t605 then (some true) else (some false)))) else (some false))))) = some r := H
                      have A117 := Aside0.mk A1170
                      clear A1170
                      replace H := Option.bind_eq_some_iff.mp H
                      obtain ⟨⟨t613, t614, t617⟩, A1180, H⟩ := H
                      replace H : ((impl_Merge.f kj34 t608 t609 t612 t613 t614 t617).bind fun bt618 => ((laws_eqResp.f kj34 bt618.1 bt618.2.1 bt618.2.2 t563 t564 t567).bind fun t624 => (if t624 = true then ((laws_heldResp.f kj34 t581 t606 t585 1).bind fun t625 => (if t625 < 0 then (some false) else (if t625 = t605 then (some true) else (some false)))) else (some false)))) = some r := H
                      have A118 := Aside0.mk A1180
                      clear A1180
                      replace H := Option.bind_eq_some_iff.mp H
                      obtain ⟨⟨t618, t619, t622⟩, A1190, H⟩ := H
                      replace H : ((laws_eqResp.f kj34 t618 t619 t622 t563 t564 t567).bind fun t624 => (if t624 = true then ((laws_heldResp.f kj34 t581 t606 t585 1).bind fun t625 => (if t625 < 0 then (some false) else (if t625 = t605 then (some true) else (some false)))) else (some false))) = some r := H
                      have A119 := Aside0.mk A1190
                      clear A1190
                      replace H := Option.bind_eq_some_iff.mp H
                      obtain ⟨t624, A1200, H⟩ := H
                      replace H : (if t624 = true then ((laws_heldResp.f kj34 t581 t606 t585 1).bind fun t625 => (if t625 < 0 then (some false) else (if t625 = t605 then (some true) else (some false)))) else (some false)) = some r := H
                      have A120 := Aside0.mk A1200
                      clear A1200
                      by_cases c121 : t624 = true
                      · subst c121
                        have H1 : ((laws_heldResp.f kj34 t581 t606 t585 1).bind fun t625 => (if t625 < 0 then (some false) else (if t625 = t605 then (some true) else (some false)))) = some r := by rw [if_pos rfl] at H; exact H
                        clear H
                        have H := H1
                        clear H1
                        replace H := Option.bind_eq_some_iff.mp H
                        obtain ⟨t625, A1220, H⟩ := H
                        replace H : (if t625 < 0 then (some false) else (if t625 = t605 then (some true) else (some false))) = some r := H
                        have A122 := Aside0.mk A1220
                        clear A1220
                        by_cases c123 : t625 < 0
                        · rw [if_pos c123] at H
                          have c123b0 : decide (t625 < 0) = true := decide_eq_true c123
                          clear c123
                          exact absurd (Option.some.inj H) (by rw [ht_]; decide)
                        · rw [if_neg c123] at H
                          have c123b0 : decide (t625 < 0) = false := decide_eq_false c123
                          clear c123
                          by_cases c124 : t625 = t605
                          · rw [if_pos c124] at H
                            have c124b0 : (t625 == t605) = true := beq_iff_eq.mpr c124
                            have c124b1 : (t625 != t605) = false := bne_eq_false_iff_eq.mpr c124
                            clear c124
                            obtain rfl := Option.some.inj H
                            have hnb125 := NB586_549.out
                            have hnc125 := NB549_586.out
                            have hnb126 := NB586_550.out
                            have hnc126 := NB550_586.out
                            have hnb127 := NB586_568.out
                            have hnc127 := NB568_586.out
                            have hnb128 := NB586_574.out
                            have hnc128 := NB574_586.out
                            have hnb129 := NB586_580.out
                            have hnc129 := NB580_586.out
                            have hcz130_0 : wc.cell? ⟨gb586, 0, none⟩ = some (.int .i64 t581) := (blk_cell BK586.out 0).trans rfl
                            have hcz130_1 : wc.cell? ⟨gb586, 1, none⟩ = some (.slice Ao83 t582.length co83) := (blk_cell BK586.out 1).trans rfl
                            have hcz130_2 : wc.cell? ⟨gb586, 2, none⟩ = some (.string t585) := (blk_cell BK586.out 2).trans rfl
                            have hfz130_0 := blk_frozen BK586.out 0
                            have hfz130_1 := blk_frozen BK586.out 1
                            have hfz130_2 := blk_frozen BK586.out 2
                            try go_wp2_with (first | ((with_reducible refine gate_callee (f := 57) rfl ?_); refine goesL_ (some 66) rfl rfl Tryd.func57 (by kernel_rfl) rfl #[.agg #[.int .i64 t581, .slice Ao83 t582.length co83, .string t585], .int .i64 1] rfl ma ?_; (with_reducible refine (laws_markResp.calls kj34 t581 (fun k_ => some k_ = (.slice Ao83 t582.length co83 : Value).ownBlock) (.slice Ao83 t582.length co83) t582 t585 1 t605 t606 w _ ?side1 ?side2 A113.out).mono ?_); (case side1 => repeat (first | (with_reducible first | exact HB.out | apply below_alloc | apply pw_below_drewN | apply below_drew1 | refine below_set ?_ GE549.out | refine below_set ?_ GE550.out | refine below_set ?_ GE568.out | refine below_set ?_ GE574.out | refine below_set ?_ GE580.out | refine below_set ?_ GE586.out) | exact HB.out)); (case side2 => exact Kd.R_tight rfl HO_587001.out); rintro e w131 ⟨rfl, hy0, hb, hkp⟩; refine ⟨_, rfl, ?_⟩; replace HO_569001 := Aside0.mk (Kd.R_mono (ok' := fun k_ => some k_ ≠ (.slice Ao63 t601.length co63 : Value).ownBlock ∧ some k_ ≠ (.slice Ao73 t603.length co73 : Value).ownBlock ∧ some k_ ≠ (.slice Ao83 t582.length co83 : Value).ownBlock) (Kd.R_keptB (HO_569001.out) hkp (fun k_ hk_ hs_ => (hk_.2.2) hs_)) (fun k_ hk_ => ⟨hk_.1.1, hk_.1.2.1, hk_.1.2.2⟩)); replace HO_575001 := Aside0.mk (Kd.R_mono (ok' := fun k_ => some k_ ≠ (.slice Ao52 t564.length co52 : Value).ownBlock ∧ some k_ ≠ (.slice Ao73 t603.length co73 : Value).ownBlock ∧ some k_ ≠ (.slice Ao83 t582.length co83 : Value).ownBlock) (Kd.R_keptB (HO_575001.out) hkp (fun k_ hk_ hs_ => (hk_.2.2) hs_)) (fun k_ hk_ => ⟨hk_.1.1, hk_.1.2.1, hk_.1.2.2⟩)); replace HO_581001 := Aside0.mk (Kd.R_mono (ok' := fun k_ => some k_ ≠ (.slice Ao52 t564.length co52 : Value).ownBlock ∧ some k_ ≠ (.slice Ao63 t601.length co63 : Value).ownBlock ∧ some k_ ≠ (.slice Ao83 t582.length co83 : Value).ownBlock) (Kd.R_keptB (HO_581001.out) hkp (fun k_ hk_ hs_ => (hk_.2.2) hs_)) (fun k_ hk_ => ⟨hk_.1.1, hk_.1.2.1, hk_.1.2.2⟩)); replace BK549 := Aside0.mk (blk_kept (bk BK549) hkp (fun hs_ => (fun e_ => (Kd.R_ne HO_587001.out BK549.out (by decide)) e_) hs_)); replace BK550 := Aside0.mk (blk_kept (bk BK550) hkp (fun hs_ => (fun e_ => (Kd.R_ne HO_587001.out BK550.out (by decide)) e_) hs_)); replace BK568 := Aside0.mk (blk_kept (bk BK568) hkp (fun hs_ => (fun e_ => (Kd.R_ne HO_587001.out BK568.out (by decide)) e_) hs_)); replace BK574 := Aside0.mk (blk_kept (bk BK574) hkp (fun hs_ => (fun e_ => (Kd.R_ne HO_587001.out BK574.out (by decide)) e_) hs_)); replace BK580 := Aside0.mk (blk_kept (bk BK580) hkp (fun hs_ => (fun e_ => (Kd.R_ne HO_587001.out BK580.out (by decide)) e_) hs_)); replace BK586 := Aside0.mk (blk_kept (bk BK586) hkp (fun hs_ => (fun e_ => (Kd.R_ne HO_587001.out BK586.out (by decide)) e_) hs_)); replace HO_587001 := Aside0.mk (Kd.R_reok rfl hy0 (fun k_ e_ => HO_587001.out.1 k_ e_)); replace HB := Aside0.mk (hb); (try clear hb); (try clear hkp); (try clear hy0); have hcz132_0 : w131.cell? ⟨gb586, 0, none⟩ = some (.int .i64 t581) := (blk_cell BK586.out 0).trans rfl; have hcz132_1 : w131.cell? ⟨gb586, 1, none⟩ = some (.slice Ao83 t582.length co83) := (blk_cell BK586.out 1).trans rfl; have hcz132_2 : w131.cell? ⟨gb586, 2, none⟩ = some (.string t585) := (blk_cell BK586.out 2).trans rfl; have hfz132_0 := blk_frozen BK586.out 0; have hfz132_1 := blk_frozen BK586.out 1; have hfz132_2 := blk_frozen BK586.out 2) | ((with_reducible refine gate_callee (f := 58) rfl ?_); refine goesL_ (some 69) rfl rfl Tryd.func58 (by kernel_rfl) rfl #[.agg #[.int .i64 t581, .slice Ao83 t606.length co83, .string t585], .int .i64 1] rfl (by (try simp only [List.map_toArray, List.map_cons, List.map_nil]); first | done | (rw [show t606.length = t582.length from (Kd.R_reads' HO_587001.out).1.symm] <;> rfl) | rfl | (simp only [List.length_drop, List.length_take]; rfl)) ?_; (with_reducible refine (laws_heldResp.calls kj34 t581 _ _ t606 t585 1 t607 _ ?side1 ?side2 A114.out).mono ?_); (case side1 => repeat (first | exact (Kd.R_reads' HO_587001.out).2.2 | (with_reducible refine Kd.C_alloc ?_ _) | (with_reducible refine Kd.C_drewN ?_ _) | (with_reducible refine Kd.C_drew ?_))); (case side2 => rw [show t606.length = t582.length from (Kd.R_reads' HO_587001.out).1.symm]; exact (Kd.R_reads' HO_587001.out).2.1); rintro e w133 ⟨rfl, hb⟩; refine ⟨_, rfl, ?_⟩; replace HO_569001 := kr HO_569001 hb; replace HO_575001 := kr HO_575001 hb; replace HO_581001 := kr HO_581001 hb; replace HO_587001 := kr HO_587001 hb; replace BK549 := kb BK549 hb; replace BK550 := kb BK550 hb; replace BK568 := kb BK568 hb; replace BK574 := kb BK574 hb; replace BK580 := kb BK580 hb; replace BK586 := kb BK586 hb; replace HB := Aside0.mk (below_step bl hb); (try clear hb); (try clear hb2); (try clear hk); (try clear hi)))
                            replace HO_569001 := Aside0.mk (Kd.R_drew HO_569001.out)
                            replace HO_575001 := Aside0.mk (Kd.R_drew HO_575001.out)
                            replace HO_581001 := Aside0.mk (Kd.R_drew HO_581001.out)
                            replace HO_587001 := Aside0.mk (Kd.R_drew HO_587001.out)
                            replace BK549 := Aside0.mk (blk_drew BK549.out)
                            replace BK550 := Aside0.mk (blk_drew BK550.out)
                            replace BK568 := Aside0.mk (blk_drew BK568.out)
                            replace BK574 := Aside0.mk (blk_drew BK574.out)
                            replace BK580 := Aside0.mk (blk_drew BK580.out)
                            replace BK586 := Aside0.mk (blk_drew BK586.out)
                            replace HB := Aside0.mk (below_drew1 HB.out)
                            refine start_ (n := 7) (S := fun w' => w'.cell? ⟨gb549, 0, none⟩ = some (.int .i64 a0_0) ∧ w'.cell? ⟨gb549, 1, none⟩ = some (.slice A0_1 l0_1.length c0_1) ∧ w'.cell? ⟨gb549, 2, none⟩ = some (.string a0_2) ∧ w'.cell? ⟨gb550, 0, none⟩ = some (.int .i64 a1_0) ∧ w'.cell? ⟨gb550, 1, none⟩ = some (.slice A1_1 l1_1.length c1_1) ∧ w'.cell? ⟨gb550, 2, none⟩ = some (.string a1_2)) (ds := []) #[false, false, false, false, false, false, false] (by kernel_rfl) rfl rfl ⟨(blk_cell BK549.out 0).trans rfl, (blk_cell BK549.out 1).trans rfl, (blk_cell BK549.out 2).trans rfl, (blk_cell BK550.out 0).trans rfl, (blk_cell BK550.out 1).trans rfl, (blk_cell BK550.out 2).trans rfl⟩ (fun hHeld => ?_)
                            generalize w133.drew = w134 at HO_569001 HO_575001 HO_581001 HO_587001 BK549 BK550 BK568 BK574 BK580 BK586 HB hHeld ⊢
                            refine take_ (i := 0) (N := some 75) (v := ?_) (a' := ?_) #[true, false, false, false, false, false, false] rfl rfl (by kernel_rfl) (fun _ _ _ h => h) (Or.inl ⟨by rfl, ?_⟩) hHeld ?_ ?_
                            rotate_left
                            · rintro w' ⟨s0, s1, s2, s3, s4, s5⟩
                              go_simp
                              with_reducible rfl
                            rotate_left
                            · simp only [Act.put, List.setIfInBounds_toArray, List.set_cons_zero, List.set_cons_succ, i64_w, i32_w]
                              rfl
                            refine take_ (i := 2) (N := some 77) (v := ?_) (a' := ?_) #[true, false, true, false, false, false, false] rfl rfl (by kernel_rfl) (fun _ _ _ h => h) (Or.inl ⟨by rfl, ?_⟩) hHeld ?_ ?_
                            rotate_left
                            · rintro w' ⟨s0, s1, s2, s3, s4, s5⟩
                              go_simp
                              with_reducible rfl
                            rotate_left
                            · simp only [Act.put, List.setIfInBounds_toArray, List.set_cons_zero, List.set_cons_succ, i64_w, i32_w]
                              rfl
                            refine join_ (σ := Value × Value × Value × Nat) 1 #[true, true, true, true, true, true, false] (fun s_ => [(76, .agg #[.int .i64 t608, s_.1, .string t612]), (78, .agg #[.int .i64 t613, s_.2.1, .string t617]), (79, .agg #[.int .i64 t618, s_.2.2.1, .string t622]), (13, .pointer (some ⟨s_.2.2.2, 0, none⟩))]) (fun s_ w' => (w'.cell? ⟨gb549, 0, none⟩ = some (.int .i64 a0_0) ∧ w'.cell? ⟨gb549, 1, none⟩ = some (.slice A0_1 l0_1.length c0_1) ∧ w'.cell? ⟨gb549, 2, none⟩ = some (.string a0_2) ∧ w'.cell? ⟨gb550, 0, none⟩ = some (.int .i64 a1_0) ∧ w'.cell? ⟨gb550, 1, none⟩ = some (.slice A1_1 l1_1.length c1_1) ∧ w'.cell? ⟨gb550, 2, none⟩ = some (.string a1_2)) ∧ (Kd.R k78 78 w' w.heap.size (fun k_ => some k_ ≠ (s_.2.1 : Value).ownBlock ∧ some k_ ≠ (s_.2.2.1 : Value).ownBlock ∧ some k_ ≠ (.slice Ao52 t564.length co52 : Value).ownBlock ∧ some k_ ≠ (.slice Ao63 t601.length co63 : Value).ownBlock ∧ some k_ ≠ (.slice Ao73 t603.length co73 : Value).ownBlock ∧ some k_ ≠ (.slice Ao83 t582.length co83 : Value).ownBlock) s_.1 t609) ∧ (Kd.R k78 78 w' w.heap.size (fun k_ => some k_ ≠ (s_.1 : Value).ownBlock ∧ some k_ ≠ (s_.2.2.1 : Value).ownBlock ∧ some k_ ≠ (.slice Ao52 t564.length co52 : Value).ownBlock ∧ some k_ ≠ (.slice Ao63 t601.length co63 : Value).ownBlock ∧ some k_ ≠ (.slice Ao73 t603.length co73 : Value).ownBlock ∧ some k_ ≠ (.slice Ao83 t582.length co83 : Value).ownBlock) s_.2.1 t614) ∧ (Kd.R k78 78 w' w.heap.size (fun k_ => some k_ ≠ (s_.1 : Value).ownBlock ∧ some k_ ≠ (s_.2.1 : Value).ownBlock ∧ some k_ ≠ (.slice Ao52 t564.length co52 : Value).ownBlock ∧ some k_ ≠ (.slice Ao63 t601.length co63 : Value).ownBlock ∧ some k_ ≠ (.slice Ao73 t603.length co73 : Value).ownBlock ∧ some k_ ≠ (.slice Ao83 t582.length co83 : Value).ownBlock) s_.2.2.1 t619) ∧ (Kd.R k78 78 w' w.heap.size (fun k_ => some k_ ≠ (s_.1 : Value).ownBlock ∧ some k_ ≠ (s_.2.1 : Value).ownBlock ∧ some k_ ≠ (s_.2.2.1 : Value).ownBlock ∧ some k_ ≠ (.slice Ao63 t601.length co63 : Value).ownBlock ∧ some k_ ≠ (.slice Ao73 t603.length co73 : Value).ownBlock ∧ some k_ ≠ (.slice Ao83 t582.length co83 : Value).ownBlock) (.slice Ao52 t564.length co52) t564) ∧ (Kd.R k78 78 w' w.heap.size (fun k_ => some k_ ≠ (s_.1 : Value).ownBlock ∧ some k_ ≠ (s_.2.1 : Value).ownBlock ∧ some k_ ≠ (s_.2.2.1 : Value).ownBlock ∧ some k_ ≠ (.slice Ao52 t564.length co52 : Value).ownBlock ∧ some k_ ≠ (.slice Ao73 t603.length co73 : Value).ownBlock ∧ some k_ ≠ (.slice Ao83 t582.length co83 : Value).ownBlock) (.slice Ao63 t601.length co63) t601) ∧ (Kd.R k78 78 w' w.heap.size (fun k_ => some k_ ≠ (s_.1 : Value).ownBlock ∧ some k_ ≠ (s_.2.1 : Value).ownBlock ∧ some k_ ≠ (s_.2.2.1 : Value).ownBlock ∧ some k_ ≠ (.slice Ao52 t564.length co52 : Value).ownBlock ∧ some k_ ≠ (.slice Ao63 t601.length co63 : Value).ownBlock ∧ some k_ ≠ (.slice Ao83 t582.length co83 : Value).ownBlock) (.slice Ao73 t603.length co73) t603) ∧ (Kd.R k78 78 w' w.heap.size (fun k_ => some k_ ≠ (s_.1 : Value).ownBlock ∧ some k_ ≠ (s_.2.1 : Value).ownBlock ∧ some k_ ≠ (s_.2.2.1 : Value).ownBlock ∧ some k_ ≠ (.slice Ao52 t564.length co52 : Value).ownBlock ∧ some k_ ≠ (.slice Ao63 t601.length co63 : Value).ownBlock ∧ some k_ ≠ (.slice Ao73 t603.length co73 : Value).ownBlock) (.slice Ao83 t582.length co83) t606) ∧ (w'.heap[gb549]? = some (.cells #[.int .i64 a0_0, .slice A0_1 l0_1.length c0_1, .string a0_2] 48 (0, 0))) ∧ (w'.heap[gb550]? = some (.cells #[.int .i64 a1_0, .slice A1_1 l1_1.length c1_1, .string a1_2] 48 (0, 0))) ∧ (w'.heap[gb568]? = some (.cells #[.int .i64 t563, .slice Ao52 t564.length co52, .string t567] 52 (0, 0))) ∧ (w'.heap[gb574]? = some (.cells #[.int .i64 t569, .slice Ao63 t601.length co63, .string t573] 52 (0, 0))) ∧ (w'.heap[gb580]? = some (.cells #[.int .i64 t575, .slice Ao73 t603.length co73, .string t579] 52 (0, 0))) ∧ (w'.heap[gb586]? = some (.cells #[.int .i64 t581, .slice Ao83 t582.length co83, .string t585] 52 (0, 0))) ∧ (w'.heap[s_.2.2.2]? = some (.cells #[.int .i64 0, .slice none 0 0, .string (⟨#[]⟩ : ByteArray)] 52 (0, 0))) ∧ (w.heap.size ≤ s_.2.2.2) ∧ (w.heap.size ≤ s_.2.2.2) ∧ (gb549 ≠ s_.2.2.2) ∧ (s_.2.2.2 ≠ gb549) ∧ (gb550 ≠ s_.2.2.2) ∧ (s_.2.2.2 ≠ gb550) ∧ (gb568 ≠ s_.2.2.2) ∧ (s_.2.2.2 ≠ gb568) ∧ (gb574 ≠ s_.2.2.2) ∧ (s_.2.2.2 ≠ gb574) ∧ (gb580 ≠ s_.2.2.2) ∧ (s_.2.2.2 ≠ gb580) ∧ (gb586 ≠ s_.2.2.2) ∧ (s_.2.2.2 ≠ gb586) ∧ (Below w.heap.size w w')) ?_ ?_
                            rotate_left
                            · intro hCont
                              refine two_ (i := 1) (j := 5) (Ni := some 76) (Nj := some 13) #[true, true, true, false, false, false, false] #[true, false, true, false, false, true, false] rfl rfl rfl rfl (by kernel_rfl) (by decide) (by decide) (fun K hK => ?_) (fun K hK => ?_)
                              · skip
                                refine goes_ Tryd.func42 (by kernel_rfl) rfl #[.agg #[.int .i64 a0_0, .slice A0_1 l0_1.length c0_1, .string a0_2]] (by rfl) rfl rfl ma ?_
                                with_reducible refine (laws_toResp.calls kj34 a0_0 _ _ l0_1 a0_2 t608 t609 t612 _ ?side1 ?side2 A117.out).mono ?_
                                (case side1 => repeat (first | exact (Kd.C_below HR0_1.out HB.out) | (with_reducible refine Kd.C_alloc ?_ _) | (with_reducible refine Kd.C_drewN ?_ _) | (with_reducible refine Kd.C_drew ?_)))
                                (case side2 => exact HC0_1.out)
                                rintro e w135 ⟨v610, rfl, ho0, hb⟩
                                refine ⟨_, rfl, ?_⟩
                                have HO611 := Aside0.mk (Kd.R_lower (Kd.R_new' (Kd.R_new' (Kd.R_new' (Kd.R_new' ho0 (Kd.R_lt (ro HO_569001))) (Kd.R_lt (ro HO_575001))) (Kd.R_lt (ro HO_581001))) (Kd.R_lt (ro HO_587001))) (below_size bl))
                                replace HO_569001 := Aside0.mk (Kd.R_elder' (ro HO_569001) (Kd.R_base ho0) hb)
                                replace HO_575001 := Aside0.mk (Kd.R_elder' (ro HO_575001) (Kd.R_base ho0) hb)
                                replace HO_581001 := Aside0.mk (Kd.R_elder' (ro HO_581001) (Kd.R_base ho0) hb)
                                replace HO_587001 := Aside0.mk (Kd.R_elder' (ro HO_587001) (Kd.R_base ho0) hb)
                                replace BK549 := kb BK549 hb
                                replace BK550 := kb BK550 hb
                                replace BK568 := kb BK568 hb
                                replace BK574 := kb BK574 hb
                                replace BK580 := kb BK580 hb
                                replace BK586 := kb BK586 hb
                                replace HB := Aside0.mk (below_step bl hb)
                                (try clear hb)
                                (try clear hb2)
                                (try clear hk)
                                (try clear hi)
                                (try clear ho0)
                                refine hK.out _ _ ⟨(blk_cell BK549.out 0).trans rfl, (blk_cell BK549.out 1).trans rfl, (blk_cell BK549.out 2).trans rfl, (blk_cell BK550.out 0).trans rfl, (blk_cell BK550.out 1).trans rfl, (blk_cell BK550.out 2).trans rfl⟩ (fun hHeld => ?_)
                                clear hK K
                                refine norm_ (a' := ?_) ?_ ?_
                                rotate_left
                                · show Act.put _ (some 76) _ = _
                                  simp only [Act.put, List.setIfInBounds_toArray, List.set_cons_zero, List.set_cons_succ, i64_w, i32_w]
                                  rfl
                                refine two_ (i := 3) (j := 5) (Ni := some 78) (Nj := some 13) #[true, true, true, true, false, false, false] #[true, true, true, false, false, true, false] rfl rfl rfl rfl (by kernel_rfl) (by decide) (by decide) (fun K hK => ?_) (fun K hK => ?_)
                                · skip
                                  refine goes_ Tryd.func42 (by kernel_rfl) rfl #[.agg #[.int .i64 a1_0, .slice A1_1 l1_1.length c1_1, .string a1_2]] (by rfl) rfl rfl ma ?_
                                  with_reducible refine (laws_toResp.calls kj34 a1_0 _ _ l1_1 a1_2 t613 t614 t617 _ ?side1 ?side2 A118.out).mono ?_
                                  (case side1 => repeat (first | exact (Kd.C_below HR1_1.out HB.out) | (with_reducible refine Kd.C_alloc ?_ _) | (with_reducible refine Kd.C_drewN ?_ _) | (with_reducible refine Kd.C_drew ?_)))
                                  (case side2 => exact HC1_1.out)
                                  rintro e w136 ⟨v615, rfl, ho0, hb⟩
                                  refine ⟨_, rfl, ?_⟩
                                  have HO616 := Aside0.mk (Kd.R_lower (Kd.R_new' (Kd.R_new' (Kd.R_new' (Kd.R_new' (Kd.R_new' ho0 (Kd.R_lt (ro HO_569001))) (Kd.R_lt (ro HO_575001))) (Kd.R_lt (ro HO_581001))) (Kd.R_lt (ro HO_587001))) (Kd.R_lt (ro HO611))) (below_size bl))
                                  replace HO_569001 := Aside0.mk (Kd.R_elder' (ro HO_569001) (Kd.R_base ho0) hb)
                                  replace HO_575001 := Aside0.mk (Kd.R_elder' (ro HO_575001) (Kd.R_base ho0) hb)
                                  replace HO_581001 := Aside0.mk (Kd.R_elder' (ro HO_581001) (Kd.R_base ho0) hb)
                                  replace HO_587001 := Aside0.mk (Kd.R_elder' (ro HO_587001) (Kd.R_base ho0) hb)
                                  replace HO611 := Aside0.mk (Kd.R_elder' (ro HO611) (Kd.R_base ho0) hb)
                                  replace BK549 := kb BK549 hb
                                  replace BK550 := kb BK550 hb
                                  replace BK568 := kb BK568 hb
                                  replace BK574 := kb BK574 hb
                                  replace BK580 := kb BK580 hb
                                  replace BK586 := kb BK586 hb
                                  replace HB := Aside0.mk (below_step bl hb)
                                  (try clear hb)
                                  (try clear hb2)
                                  (try clear hk)
                                  (try clear hi)
                                  (try clear ho0)
                                  obtain ⟨Ao137, co137, eo137⟩ := Kd.R_slice HO611.out
                                  (first | subst eo137 | (injection eo137 with f1_ f2_ f3_; have f4_ := f1_.symm; have f5_ := f3_.symm; clear f1_ f2_ f3_; subst f4_; subst f5_))
                                  obtain ⟨Ao138, co138, eo138⟩ := Kd.R_slice HO616.out
                                  (first | subst eo138 | (injection eo138 with f1_ f2_ f3_; have f4_ := f1_.symm; have f5_ := f3_.symm; clear f1_ f2_ f3_; subst f4_; subst f5_))
                                  refine hK.out _ _ ⟨(blk_cell BK549.out 0).trans rfl, (blk_cell BK549.out 1).trans rfl, (blk_cell BK549.out 2).trans rfl, (blk_cell BK550.out 0).trans rfl, (blk_cell BK550.out 1).trans rfl, (blk_cell BK550.out 2).trans rfl⟩ (fun hHeld => ?_)
                                  clear hK K
                                  refine norm_ (a' := ?_) ?_ ?_
                                  rotate_left
                                  · show Act.put _ (some 78) _ = _
                                    simp only [Act.put, List.setIfInBounds_toArray, List.set_cons_zero, List.set_cons_succ, i64_w, i32_w]
                                    rfl
                                  refine two_ (i := 4) (j := 5) (Ni := some 79) (Nj := some 13) #[true, true, true, true, true, false, false] #[true, true, true, true, false, true, false] rfl rfl rfl rfl (by kernel_rfl) (by decide) (by decide) (fun K hK => ?_) (fun K hK => ?_)
                                  · skip
                                    refine goes_ Tryd.func56 (by kernel_rfl) rfl #[.agg #[.int .i64 t608, .slice Ao137 t609.length co137, .string t612], .agg #[.int .i64 t613, .slice Ao138 t614.length co138, .string t617]] (by rfl) rfl rfl ma ?_
                                    with_reducible refine (impl_Merge.calls kj34 t608 _ _ t609 t612 t613 _ _ t614 t617 t618 t619 t622 _ ?side1 ?side2 ?side3 ?side4 A119.out).mono ?_
                                    (case side1 => repeat (first | exact (Kd.R_reads' HO611.out).2.2 | (with_reducible refine Kd.C_alloc ?_ _) | (with_reducible refine Kd.C_drewN ?_ _) | (with_reducible refine Kd.C_drew ?_)))
                                    (case side2 => exact (Kd.R_reads' HO611.out).2.1)
                                    (case side3 => repeat (first | exact (Kd.R_reads' HO616.out).2.2 | (with_reducible refine Kd.C_alloc ?_ _) | (with_reducible refine Kd.C_drewN ?_ _) | (with_reducible refine Kd.C_drew ?_)))
                                    (case side4 => exact (Kd.R_reads' HO616.out).2.1)
                                    rintro e w139 ⟨v620, rfl, ho0, hb⟩
                                    refine ⟨_, rfl, ?_⟩
                                    have HO621 := Aside0.mk (Kd.R_lower (Kd.R_new' (Kd.R_new' (Kd.R_new' (Kd.R_new' (Kd.R_new' (Kd.R_new' ho0 (Kd.R_lt (ro HO_569001))) (Kd.R_lt (ro HO_575001))) (Kd.R_lt (ro HO_581001))) (Kd.R_lt (ro HO_587001))) (Kd.R_lt (ro HO611))) (Kd.R_lt (ro HO616))) (below_size bl))
                                    replace HO_569001 := Aside0.mk (Kd.R_elder' (ro HO_569001) (Kd.R_base ho0) hb)
                                    replace HO_575001 := Aside0.mk (Kd.R_elder' (ro HO_575001) (Kd.R_base ho0) hb)
                                    replace HO_581001 := Aside0.mk (Kd.R_elder' (ro HO_581001) (Kd.R_base ho0) hb)
                                    replace HO_587001 := Aside0.mk (Kd.R_elder' (ro HO_587001) (Kd.R_base ho0) hb)
                                    replace HO611 := Aside0.mk (Kd.R_elder' (ro HO611) (Kd.R_base ho0) hb)
                                    replace HO616 := Aside0.mk (Kd.R_elder' (ro HO616) (Kd.R_base ho0) hb)
                                    replace BK549 := kb BK549 hb
                                    replace BK550 := kb BK550 hb
                                    replace BK568 := kb BK568 hb
                                    replace BK574 := kb BK574 hb
                                    replace BK580 := kb BK580 hb
                                    replace BK586 := kb BK586 hb
                                    replace HB := Aside0.mk (below_step bl hb)
                                    (try clear hb)
                                    (try clear hb2)
                                    (try clear hk)
                                    (try clear hi)
                                    (try clear ho0)
                                    refine hK.out _ _ ⟨(blk_cell BK549.out 0).trans rfl, (blk_cell BK549.out 1).trans rfl, (blk_cell BK549.out 2).trans rfl, (blk_cell BK550.out 0).trans rfl, (blk_cell BK550.out 1).trans rfl, (blk_cell BK550.out 2).trans rfl⟩ (fun hHeld => ?_)
                                    clear hK K
                                    refine norm_ (a' := ?_) ?_ ?_
                                    rotate_left
                                    · show Act.put _ (some 79) _ = _
                                      simp only [Act.put, List.setIfInBounds_toArray, List.set_cons_zero, List.set_cons_succ, i64_w, i32_w]
                                      rfl
                                    refine one_ (i := 5) (N := some 13) #[true, true, true, true, true, true, false] rfl rfl (by kernel_rfl) (by decide) (fun K hK => ?_)
                                    refine box_step ?hg (N := 13) ?hd (cs := #[.int .i64 0, .slice none 0 0, .string (⟨#[]⟩ : ByteArray)]) (t := 52) ?hr ?_; (case hd => rfl); (case hg => rfl); (case hr => first | (go_simp; done) | (go_simp; rfl))
                                    intro gb623 hg w140 hbox hb
                                    have n0_ := Aside0.mk (Kd.R_below (ro HO_569001) hb)
                                    have n1_ := Aside0.mk (Kd.R_below (ro HO_575001) hb)
                                    have n2_ := Aside0.mk (Kd.R_below (ro HO_581001) hb)
                                    have n3_ := Aside0.mk (Kd.R_below (ro HO_587001) hb)
                                    have n4_ := Aside0.mk (Kd.R_below (ro HO611) hb)
                                    have n5_ := Aside0.mk (Kd.R_below (ro HO616) hb)
                                    have n6_ := Aside0.mk (Kd.R_below (ro HO621) hb)
                                    have n7_ := Aside0.mk (blk_below (g := gb549) (o := .cells #[.int .i64 a0_0, .slice A0_1 l0_1.length c0_1, .string a0_2] 48 (0, 0)) (bk BK549) hb)
                                    have n8_ := Aside0.mk (blk_below (g := gb550) (o := .cells #[.int .i64 a1_0, .slice A1_1 l1_1.length c1_1, .string a1_2] 48 (0, 0)) (bk BK550) hb)
                                    have n9_ := Aside0.mk (blk_below (g := gb568) (o := .cells #[.int .i64 t563, .slice Ao52 t564.length co52, .string t567] 52 (0, 0)) (bk BK568) hb)
                                    have n10_ := Aside0.mk (blk_below (g := gb574) (o := .cells #[.int .i64 t569, .slice Ao63 t601.length co63, .string t573] 52 (0, 0)) (bk BK574) hb)
                                    have n11_ := Aside0.mk (blk_below (g := gb580) (o := .cells #[.int .i64 t575, .slice Ao73 t603.length co73, .string t579] 52 (0, 0)) (bk BK580) hb)
                                    have n12_ := Aside0.mk (blk_below (g := gb586) (o := .cells #[.int .i64 t581, .slice Ao83 t582.length co83, .string t585] 52 (0, 0)) (bk BK586) hb)
                                    have n13_ := Aside0.mk (below_step bl hb)
                                    have n14_ := Aside0.mk (hbox)
                                    have n15_ := Aside0.mk ((by rw [hg]; exact (below_size bl) : w.heap.size ≤ gb623))
                                    have n16_ := Aside0.mk ((by rw [hg]; exact (below_size bl) : w.heap.size ≤ gb623))
                                    have n17_ := Aside0.mk ((by rw [hg]; exact Nat.ne_of_lt (blk_lt (g := gb549) (o := .cells #[.int .i64 a0_0, .slice A0_1 l0_1.length c0_1, .string a0_2] 48 (0, 0)) (bk BK549)) : gb549 ≠ gb623))
                                    have n18_ := Aside0.mk ((by rw [hg]; exact Nat.ne_of_gt (blk_lt (g := gb549) (o := .cells #[.int .i64 a0_0, .slice A0_1 l0_1.length c0_1, .string a0_2] 48 (0, 0)) (bk BK549)) : gb623 ≠ gb549))
                                    have n19_ := Aside0.mk ((by rw [hg]; exact Nat.ne_of_lt (blk_lt (g := gb550) (o := .cells #[.int .i64 a1_0, .slice A1_1 l1_1.length c1_1, .string a1_2] 48 (0, 0)) (bk BK550)) : gb550 ≠ gb623))
                                    have n20_ := Aside0.mk ((by rw [hg]; exact Nat.ne_of_gt (blk_lt (g := gb550) (o := .cells #[.int .i64 a1_0, .slice A1_1 l1_1.length c1_1, .string a1_2] 48 (0, 0)) (bk BK550)) : gb623 ≠ gb550))
                                    have n21_ := Aside0.mk ((by rw [hg]; exact Nat.ne_of_lt (blk_lt (g := gb568) (o := .cells #[.int .i64 t563, .slice Ao52 t564.length co52, .string t567] 52 (0, 0)) (bk BK568)) : gb568 ≠ gb623))
                                    have n22_ := Aside0.mk ((by rw [hg]; exact Nat.ne_of_gt (blk_lt (g := gb568) (o := .cells #[.int .i64 t563, .slice Ao52 t564.length co52, .string t567] 52 (0, 0)) (bk BK568)) : gb623 ≠ gb568))
                                    have n23_ := Aside0.mk ((by rw [hg]; exact Nat.ne_of_lt (blk_lt (g := gb574) (o := .cells #[.int .i64 t569, .slice Ao63 t601.length co63, .string t573] 52 (0, 0)) (bk BK574)) : gb574 ≠ gb623))
                                    have n24_ := Aside0.mk ((by rw [hg]; exact Nat.ne_of_gt (blk_lt (g := gb574) (o := .cells #[.int .i64 t569, .slice Ao63 t601.length co63, .string t573] 52 (0, 0)) (bk BK574)) : gb623 ≠ gb574))
                                    have n25_ := Aside0.mk ((by rw [hg]; exact Nat.ne_of_lt (blk_lt (g := gb580) (o := .cells #[.int .i64 t575, .slice Ao73 t603.length co73, .string t579] 52 (0, 0)) (bk BK580)) : gb580 ≠ gb623))
                                    have n26_ := Aside0.mk ((by rw [hg]; exact Nat.ne_of_gt (blk_lt (g := gb580) (o := .cells #[.int .i64 t575, .slice Ao73 t603.length co73, .string t579] 52 (0, 0)) (bk BK580)) : gb623 ≠ gb580))
                                    have n27_ := Aside0.mk ((by rw [hg]; exact Nat.ne_of_lt (blk_lt (g := gb586) (o := .cells #[.int .i64 t581, .slice Ao83 t582.length co83, .string t585] 52 (0, 0)) (bk BK586)) : gb586 ≠ gb623))
                                    have n28_ := Aside0.mk ((by rw [hg]; exact Nat.ne_of_gt (blk_lt (g := gb586) (o := .cells #[.int .i64 t581, .slice Ao83 t582.length co83, .string t585] 52 (0, 0)) (bk BK586)) : gb623 ≠ gb586))
                                    clear HO_569001
                                    clear HO_575001
                                    clear HO_581001
                                    clear HO_587001
                                    clear HO611
                                    clear HO616
                                    clear HO621
                                    clear BK549
                                    clear BK550
                                    clear BK568
                                    clear BK574
                                    clear BK580
                                    clear BK586
                                    clear HB
                                    have HO_569001 := n0_
                                    have HO_575001 := n1_
                                    have HO_581001 := n2_
                                    have HO_587001 := n3_
                                    have HO611 := n4_
                                    have HO616 := n5_
                                    have HO621 := n6_
                                    have BK549 := n7_
                                    have BK550 := n8_
                                    have BK568 := n9_
                                    have BK574 := n10_
                                    have BK580 := n11_
                                    have BK586 := n12_
                                    have HB := n13_
                                    have BK623 := n14_
                                    have GW623 := n15_
                                    have GE623 := n16_
                                    have NB549_623 := n17_
                                    have NB623_549 := n18_
                                    have NB550_623 := n19_
                                    have NB623_550 := n20_
                                    have NB568_623 := n21_
                                    have NB623_568 := n22_
                                    have NB574_623 := n23_
                                    have NB623_574 := n24_
                                    have NB580_623 := n25_
                                    have NB623_580 := n26_
                                    have NB586_623 := n27_
                                    have NB623_586 := n28_
                                    clear n0_ n1_ n2_ n3_ n4_ n5_ n6_ n7_ n8_ n9_ n10_ n11_ n12_ n13_ n14_ n15_ n16_ n17_ n18_ n19_ n20_ n21_ n22_ n23_ n24_ n25_ n26_ n27_ n28_
                                    clear hb hbox hg
                                    refine hK.out _ _ ⟨(blk_cell BK549.out 0).trans rfl, (blk_cell BK549.out 1).trans rfl, (blk_cell BK549.out 2).trans rfl, (blk_cell BK550.out 0).trans rfl, (blk_cell BK550.out 1).trans rfl, (blk_cell BK550.out 2).trans rfl⟩ (fun hHeld => ?_)
                                    clear hK K
                                    refine norm_ (a' := ?_) ?_ ?_
                                    rotate_left
                                    · show Act.put _ (some 13) _ = _
                                      simp only [Act.put, List.setIfInBounds_toArray, List.set_cons_zero, List.set_cons_succ, i64_w, i32_w]
                                      rfl
                                    exact norm_ (by simp only [putAll, Act.put, List.setIfInBounds_toArray, List.set_cons_zero, List.set_cons_succ]) (hCont (.slice Ao137 t609.length co137, .slice Ao138 t614.length co138, v620, gb623) _ ⟨hHeld, (by (with_reducible repeat (first | apply Kd.R_alloc | apply Kd.R_drewN | apply Kd.R_drew)); exact Kd.R_mono HO611.out (fun _ hk => ⟨hk.1.2, ⟨hk.2, ⟨hk.1.1.1.1.1.2, ⟨hk.1.1.1.1.2, ⟨hk.1.1.1.2, hk.1.1.2⟩⟩⟩⟩⟩)), (by (with_reducible repeat (first | apply Kd.R_alloc | apply Kd.R_drewN | apply Kd.R_drew)); exact Kd.R_mono HO616.out (fun _ hk => ⟨hk.1.2, ⟨hk.2, ⟨hk.1.1.1.1.1.2, ⟨hk.1.1.1.1.2, ⟨hk.1.1.1.2, hk.1.1.2⟩⟩⟩⟩⟩)), (by (with_reducible repeat (first | apply Kd.R_alloc | apply Kd.R_drewN | apply Kd.R_drew)); exact Kd.R_mono HO621.out (fun _ hk => ⟨hk.1.2, ⟨hk.2, ⟨hk.1.1.1.1.1.2, ⟨hk.1.1.1.1.2, ⟨hk.1.1.1.2, hk.1.1.2⟩⟩⟩⟩⟩)), (by (with_reducible repeat (first | apply Kd.R_alloc | apply Kd.R_drewN | apply Kd.R_drew)); exact Kd.R_mono HO_569001.out (fun _ hk => ⟨hk.1.1.2, ⟨hk.1.2, ⟨hk.2, ⟨hk.1.1.1.1, ⟨hk.1.1.1.2.1, hk.1.1.1.2.2⟩⟩⟩⟩⟩)), (by (with_reducible repeat (first | apply Kd.R_alloc | apply Kd.R_drewN | apply Kd.R_drew)); exact Kd.R_mono HO_575001.out (fun _ hk => ⟨hk.1.1.2, ⟨hk.1.2, ⟨hk.2, ⟨hk.1.1.1.1, ⟨hk.1.1.1.2.1, hk.1.1.1.2.2⟩⟩⟩⟩⟩)), (by (with_reducible repeat (first | apply Kd.R_alloc | apply Kd.R_drewN | apply Kd.R_drew)); exact Kd.R_mono HO_581001.out (fun _ hk => ⟨hk.1.1.2, ⟨hk.1.2, ⟨hk.2, ⟨hk.1.1.1.1, ⟨hk.1.1.1.2.1, hk.1.1.1.2.2⟩⟩⟩⟩⟩)), (by (with_reducible repeat (first | apply Kd.R_alloc | apply Kd.R_drewN | apply Kd.R_drew)); exact Kd.R_mono HO_587001.out (fun _ hk => ⟨hk.1.1.2, ⟨hk.1.2, ⟨hk.2, ⟨hk.1.1.1.1, ⟨hk.1.1.1.2.1, hk.1.1.1.2.2⟩⟩⟩⟩⟩)), (bk BK549), (bk BK550), (bk BK568), (bk BK574), (bk BK580), (bk BK586), (bk BK623), GW623.out, GE623.out, NB549_623.out, NB623_549.out, NB550_623.out, NB623_550.out, NB568_623.out, NB623_568.out, NB574_623.out, NB623_574.out, NB580_623.out, NB623_580.out, NB586_623.out, NB623_586.out, bl⟩)
                                  · skip
                                    refine box_step ?hg (N := 13) ?hd (cs := #[.int .i64 0, .slice none 0 0, .string (⟨#[]⟩ : ByteArray)]) (t := 52) ?hr ?_; (case hd => rfl); (case hg => rfl); (case hr => first | (go_simp; done) | (go_simp; rfl))
                                    intro gb623 hg w137 hbox hb
                                    have n0_ := Aside0.mk (Kd.R_below (ro HO_569001) hb)
                                    have n1_ := Aside0.mk (Kd.R_below (ro HO_575001) hb)
                                    have n2_ := Aside0.mk (Kd.R_below (ro HO_581001) hb)
                                    have n3_ := Aside0.mk (Kd.R_below (ro HO_587001) hb)
                                    have n4_ := Aside0.mk (Kd.R_below (ro HO611) hb)
                                    have n5_ := Aside0.mk (Kd.R_below (ro HO616) hb)
                                    have n6_ := Aside0.mk (blk_below (g := gb549) (o := .cells #[.int .i64 a0_0, .slice A0_1 l0_1.length c0_1, .string a0_2] 48 (0, 0)) (bk BK549) hb)
                                    have n7_ := Aside0.mk (blk_below (g := gb550) (o := .cells #[.int .i64 a1_0, .slice A1_1 l1_1.length c1_1, .string a1_2] 48 (0, 0)) (bk BK550) hb)
                                    have n8_ := Aside0.mk (blk_below (g := gb568) (o := .cells #[.int .i64 t563, .slice Ao52 t564.length co52, .string t567] 52 (0, 0)) (bk BK568) hb)
                                    have n9_ := Aside0.mk (blk_below (g := gb574) (o := .cells #[.int .i64 t569, .slice Ao63 t601.length co63, .string t573] 52 (0, 0)) (bk BK574) hb)
                                    have n10_ := Aside0.mk (blk_below (g := gb580) (o := .cells #[.int .i64 t575, .slice Ao73 t603.length co73, .string t579] 52 (0, 0)) (bk BK580) hb)
                                    have n11_ := Aside0.mk (blk_below (g := gb586) (o := .cells #[.int .i64 t581, .slice Ao83 t582.length co83, .string t585] 52 (0, 0)) (bk BK586) hb)
                                    have n12_ := Aside0.mk (below_step bl hb)
                                    have n13_ := Aside0.mk (hbox)
                                    have n14_ := Aside0.mk ((by rw [hg]; exact (below_size bl) : w.heap.size ≤ gb623))
                                    have n15_ := Aside0.mk ((by rw [hg]; exact (below_size bl) : w.heap.size ≤ gb623))
                                    have n16_ := Aside0.mk ((by rw [hg]; exact Nat.ne_of_lt (blk_lt (g := gb549) (o := .cells #[.int .i64 a0_0, .slice A0_1 l0_1.length c0_1, .string a0_2] 48 (0, 0)) (bk BK549)) : gb549 ≠ gb623))
                                    have n17_ := Aside0.mk ((by rw [hg]; exact Nat.ne_of_gt (blk_lt (g := gb549) (o := .cells #[.int .i64 a0_0, .slice A0_1 l0_1.length c0_1, .string a0_2] 48 (0, 0)) (bk BK549)) : gb623 ≠ gb549))
                                    have n18_ := Aside0.mk ((by rw [hg]; exact Nat.ne_of_lt (blk_lt (g := gb550) (o := .cells #[.int .i64 a1_0, .slice A1_1 l1_1.length c1_1, .string a1_2] 48 (0, 0)) (bk BK550)) : gb550 ≠ gb623))
                                    have n19_ := Aside0.mk ((by rw [hg]; exact Nat.ne_of_gt (blk_lt (g := gb550) (o := .cells #[.int .i64 a1_0, .slice A1_1 l1_1.length c1_1, .string a1_2] 48 (0, 0)) (bk BK550)) : gb623 ≠ gb550))
                                    have n20_ := Aside0.mk ((by rw [hg]; exact Nat.ne_of_lt (blk_lt (g := gb568) (o := .cells #[.int .i64 t563, .slice Ao52 t564.length co52, .string t567] 52 (0, 0)) (bk BK568)) : gb568 ≠ gb623))
                                    have n21_ := Aside0.mk ((by rw [hg]; exact Nat.ne_of_gt (blk_lt (g := gb568) (o := .cells #[.int .i64 t563, .slice Ao52 t564.length co52, .string t567] 52 (0, 0)) (bk BK568)) : gb623 ≠ gb568))
                                    have n22_ := Aside0.mk ((by rw [hg]; exact Nat.ne_of_lt (blk_lt (g := gb574) (o := .cells #[.int .i64 t569, .slice Ao63 t601.length co63, .string t573] 52 (0, 0)) (bk BK574)) : gb574 ≠ gb623))
                                    have n23_ := Aside0.mk ((by rw [hg]; exact Nat.ne_of_gt (blk_lt (g := gb574) (o := .cells #[.int .i64 t569, .slice Ao63 t601.length co63, .string t573] 52 (0, 0)) (bk BK574)) : gb623 ≠ gb574))
                                    have n24_ := Aside0.mk ((by rw [hg]; exact Nat.ne_of_lt (blk_lt (g := gb580) (o := .cells #[.int .i64 t575, .slice Ao73 t603.length co73, .string t579] 52 (0, 0)) (bk BK580)) : gb580 ≠ gb623))
                                    have n25_ := Aside0.mk ((by rw [hg]; exact Nat.ne_of_gt (blk_lt (g := gb580) (o := .cells #[.int .i64 t575, .slice Ao73 t603.length co73, .string t579] 52 (0, 0)) (bk BK580)) : gb623 ≠ gb580))
                                    have n26_ := Aside0.mk ((by rw [hg]; exact Nat.ne_of_lt (blk_lt (g := gb586) (o := .cells #[.int .i64 t581, .slice Ao83 t582.length co83, .string t585] 52 (0, 0)) (bk BK586)) : gb586 ≠ gb623))
                                    have n27_ := Aside0.mk ((by rw [hg]; exact Nat.ne_of_gt (blk_lt (g := gb586) (o := .cells #[.int .i64 t581, .slice Ao83 t582.length co83, .string t585] 52 (0, 0)) (bk BK586)) : gb623 ≠ gb586))
                                    clear HO_569001
                                    clear HO_575001
                                    clear HO_581001
                                    clear HO_587001
                                    clear HO611
                                    clear HO616
                                    clear BK549
                                    clear BK550
                                    clear BK568
                                    clear BK574
                                    clear BK580
                                    clear BK586
                                    clear HB
                                    have HO_569001 := n0_
                                    have HO_575001 := n1_
                                    have HO_581001 := n2_
                                    have HO_587001 := n3_
                                    have HO611 := n4_
                                    have HO616 := n5_
                                    have BK549 := n6_
                                    have BK550 := n7_
                                    have BK568 := n8_
                                    have BK574 := n9_
                                    have BK580 := n10_
                                    have BK586 := n11_
                                    have HB := n12_
                                    have BK623 := n13_
                                    have GW623 := n14_
                                    have GE623 := n15_
                                    have NB549_623 := n16_
                                    have NB623_549 := n17_
                                    have NB550_623 := n18_
                                    have NB623_550 := n19_
                                    have NB568_623 := n20_
                                    have NB623_568 := n21_
                                    have NB574_623 := n22_
                                    have NB623_574 := n23_
                                    have NB580_623 := n24_
                                    have NB623_580 := n25_
                                    have NB586_623 := n26_
                                    have NB623_586 := n27_
                                    clear n0_ n1_ n2_ n3_ n4_ n5_ n6_ n7_ n8_ n9_ n10_ n11_ n12_ n13_ n14_ n15_ n16_ n17_ n18_ n19_ n20_ n21_ n22_ n23_ n24_ n25_ n26_ n27_
                                    clear hb hbox hg
                                    obtain ⟨Ao138, co138, eo138⟩ := Kd.R_slice HO611.out
                                    (first | subst eo138 | (injection eo138 with f1_ f2_ f3_; have f4_ := f1_.symm; have f5_ := f3_.symm; clear f1_ f2_ f3_; subst f4_; subst f5_))
                                    obtain ⟨Ao139, co139, eo139⟩ := Kd.R_slice HO616.out
                                    (first | subst eo139 | (injection eo139 with f1_ f2_ f3_; have f4_ := f1_.symm; have f5_ := f3_.symm; clear f1_ f2_ f3_; subst f4_; subst f5_))
                                    refine hK.out _ _ ⟨(blk_cell BK549.out 0).trans rfl, (blk_cell BK549.out 1).trans rfl, (blk_cell BK549.out 2).trans rfl, (blk_cell BK550.out 0).trans rfl, (blk_cell BK550.out 1).trans rfl, (blk_cell BK550.out 2).trans rfl⟩ (fun hHeld => ?_)
                                    clear hK K
                                    refine norm_ (a' := ?_) ?_ ?_
                                    rotate_left
                                    · show Act.put _ (some 13) _ = _
                                      simp only [Act.put, List.setIfInBounds_toArray, List.set_cons_zero, List.set_cons_succ, i64_w, i32_w]
                                      rfl
                                    refine one_ (i := 4) (N := some 79) #[true, true, true, true, true, true, false] rfl rfl (by kernel_rfl) (by decide) (fun K hK => ?_)
                                    refine goes_ Tryd.func56 (by kernel_rfl) rfl #[.agg #[.int .i64 t608, .slice Ao138 t609.length co138, .string t612], .agg #[.int .i64 t613, .slice Ao139 t614.length co139, .string t617]] (by rfl) rfl rfl ma ?_
                                    with_reducible refine (impl_Merge.calls kj34 t608 _ _ t609 t612 t613 _ _ t614 t617 t618 t619 t622 _ ?side1 ?side2 ?side3 ?side4 A119.out).mono ?_
                                    (case side1 => repeat (first | exact (Kd.R_reads' HO611.out).2.2 | (with_reducible refine Kd.C_alloc ?_ _) | (with_reducible refine Kd.C_drewN ?_ _) | (with_reducible refine Kd.C_drew ?_)))
                                    (case side2 => exact (Kd.R_reads' HO611.out).2.1)
                                    (case side3 => repeat (first | exact (Kd.R_reads' HO616.out).2.2 | (with_reducible refine Kd.C_alloc ?_ _) | (with_reducible refine Kd.C_drewN ?_ _) | (with_reducible refine Kd.C_drew ?_)))
                                    (case side4 => exact (Kd.R_reads' HO616.out).2.1)
                                    rintro e w140 ⟨v620, rfl, ho0, hb⟩
                                    refine ⟨_, rfl, ?_⟩
                                    have HO621 := Aside0.mk (Kd.R_lower (Kd.R_new' (Kd.R_new' (Kd.R_new' (Kd.R_new' (Kd.R_new' (Kd.R_new' ho0 (Kd.R_lt (ro HO_569001))) (Kd.R_lt (ro HO_575001))) (Kd.R_lt (ro HO_581001))) (Kd.R_lt (ro HO_587001))) (Kd.R_lt (ro HO611))) (Kd.R_lt (ro HO616))) (below_size bl))
                                    replace HO_569001 := Aside0.mk (Kd.R_elder' (ro HO_569001) (Kd.R_base ho0) hb)
                                    replace HO_575001 := Aside0.mk (Kd.R_elder' (ro HO_575001) (Kd.R_base ho0) hb)
                                    replace HO_581001 := Aside0.mk (Kd.R_elder' (ro HO_581001) (Kd.R_base ho0) hb)
                                    replace HO_587001 := Aside0.mk (Kd.R_elder' (ro HO_587001) (Kd.R_base ho0) hb)
                                    replace HO611 := Aside0.mk (Kd.R_elder' (ro HO611) (Kd.R_base ho0) hb)
                                    replace HO616 := Aside0.mk (Kd.R_elder' (ro HO616) (Kd.R_base ho0) hb)
                                    replace BK549 := kb BK549 hb
                                    replace BK550 := kb BK550 hb
                                    replace BK568 := kb BK568 hb
                                    replace BK574 := kb BK574 hb
                                    replace BK580 := kb BK580 hb
                                    replace BK586 := kb BK586 hb
                                    replace BK623 := kb BK623 hb
                                    replace HB := Aside0.mk (below_step bl hb)
                                    (try clear hb)
                                    (try clear hb2)
                                    (try clear hk)
                                    (try clear hi)
                                    (try clear ho0)
                                    refine hK.out _ _ ⟨(blk_cell BK549.out 0).trans rfl, (blk_cell BK549.out 1).trans rfl, (blk_cell BK549.out 2).trans rfl, (blk_cell BK550.out 0).trans rfl, (blk_cell BK550.out 1).trans rfl, (blk_cell BK550.out 2).trans rfl⟩ (fun hHeld => ?_)
                                    clear hK K
                                    refine norm_ (a' := ?_) ?_ ?_
                                    rotate_left
                                    · show Act.put _ (some 79) _ = _
                                      simp only [Act.put, List.setIfInBounds_toArray, List.set_cons_zero, List.set_cons_succ, i64_w, i32_w]
                                      rfl
                                    exact norm_ (by simp only [putAll, Act.put, List.setIfInBounds_toArray, List.set_cons_zero, List.set_cons_succ]) (hCont (.slice Ao138 t609.length co138, .slice Ao139 t614.length co139, v620, gb623) _ ⟨hHeld, (by (with_reducible repeat (first | apply Kd.R_alloc | apply Kd.R_drewN | apply Kd.R_drew)); exact Kd.R_mono HO611.out (fun _ hk => ⟨hk.1.2, ⟨hk.2, ⟨hk.1.1.1.1.1.2, ⟨hk.1.1.1.1.2, ⟨hk.1.1.1.2, hk.1.1.2⟩⟩⟩⟩⟩)), (by (with_reducible repeat (first | apply Kd.R_alloc | apply Kd.R_drewN | apply Kd.R_drew)); exact Kd.R_mono HO616.out (fun _ hk => ⟨hk.1.2, ⟨hk.2, ⟨hk.1.1.1.1.1.2, ⟨hk.1.1.1.1.2, ⟨hk.1.1.1.2, hk.1.1.2⟩⟩⟩⟩⟩)), (by (with_reducible repeat (first | apply Kd.R_alloc | apply Kd.R_drewN | apply Kd.R_drew)); exact Kd.R_mono HO621.out (fun _ hk => ⟨hk.1.2, ⟨hk.2, ⟨hk.1.1.1.1.1.2, ⟨hk.1.1.1.1.2, ⟨hk.1.1.1.2, hk.1.1.2⟩⟩⟩⟩⟩)), (by (with_reducible repeat (first | apply Kd.R_alloc | apply Kd.R_drewN | apply Kd.R_drew)); exact Kd.R_mono HO_569001.out (fun _ hk => ⟨hk.1.1.2, ⟨hk.1.2, ⟨hk.2, ⟨hk.1.1.1.1, ⟨hk.1.1.1.2.1, hk.1.1.1.2.2⟩⟩⟩⟩⟩)), (by (with_reducible repeat (first | apply Kd.R_alloc | apply Kd.R_drewN | apply Kd.R_drew)); exact Kd.R_mono HO_575001.out (fun _ hk => ⟨hk.1.1.2, ⟨hk.1.2, ⟨hk.2, ⟨hk.1.1.1.1, ⟨hk.1.1.1.2.1, hk.1.1.1.2.2⟩⟩⟩⟩⟩)), (by (with_reducible repeat (first | apply Kd.R_alloc | apply Kd.R_drewN | apply Kd.R_drew)); exact Kd.R_mono HO_581001.out (fun _ hk => ⟨hk.1.1.2, ⟨hk.1.2, ⟨hk.2, ⟨hk.1.1.1.1, ⟨hk.1.1.1.2.1, hk.1.1.1.2.2⟩⟩⟩⟩⟩)), (by (with_reducible repeat (first | apply Kd.R_alloc | apply Kd.R_drewN | apply Kd.R_drew)); exact Kd.R_mono HO_587001.out (fun _ hk => ⟨hk.1.1.2, ⟨hk.1.2, ⟨hk.2, ⟨hk.1.1.1.1, ⟨hk.1.1.1.2.1, hk.1.1.1.2.2⟩⟩⟩⟩⟩)), (bk BK549), (bk BK550), (bk BK568), (bk BK574), (bk BK580), (bk BK586), (bk BK623), GW623.out, GE623.out, NB549_623.out, NB623_549.out, NB550_623.out, NB623_550.out, NB568_623.out, NB623_568.out, NB574_623.out, NB623_574.out, NB580_623.out, NB623_580.out, NB586_623.out, NB623_586.out, bl⟩)
                                · skip
                                  refine box_step ?hg (N := 13) ?hd (cs := #[.int .i64 0, .slice none 0 0, .string (⟨#[]⟩ : ByteArray)]) (t := 52) ?hr ?_; (case hd => rfl); (case hg => rfl); (case hr => first | (go_simp; done) | (go_simp; rfl))
                                  intro gb623 hg w136 hbox hb
                                  have n0_ := Aside0.mk (Kd.R_below (ro HO_569001) hb)
                                  have n1_ := Aside0.mk (Kd.R_below (ro HO_575001) hb)
                                  have n2_ := Aside0.mk (Kd.R_below (ro HO_581001) hb)
                                  have n3_ := Aside0.mk (Kd.R_below (ro HO_587001) hb)
                                  have n4_ := Aside0.mk (Kd.R_below (ro HO611) hb)
                                  have n5_ := Aside0.mk (blk_below (g := gb549) (o := .cells #[.int .i64 a0_0, .slice A0_1 l0_1.length c0_1, .string a0_2] 48 (0, 0)) (bk BK549) hb)
                                  have n6_ := Aside0.mk (blk_below (g := gb550) (o := .cells #[.int .i64 a1_0, .slice A1_1 l1_1.length c1_1, .string a1_2] 48 (0, 0)) (bk BK550) hb)
                                  have n7_ := Aside0.mk (blk_below (g := gb568) (o := .cells #[.int .i64 t563, .slice Ao52 t564.length co52, .string t567] 52 (0, 0)) (bk BK568) hb)
                                  have n8_ := Aside0.mk (blk_below (g := gb574) (o := .cells #[.int .i64 t569, .slice Ao63 t601.length co63, .string t573] 52 (0, 0)) (bk BK574) hb)
                                  have n9_ := Aside0.mk (blk_below (g := gb580) (o := .cells #[.int .i64 t575, .slice Ao73 t603.length co73, .string t579] 52 (0, 0)) (bk BK580) hb)
                                  have n10_ := Aside0.mk (blk_below (g := gb586) (o := .cells #[.int .i64 t581, .slice Ao83 t582.length co83, .string t585] 52 (0, 0)) (bk BK586) hb)
                                  have n11_ := Aside0.mk (below_step bl hb)
                                  have n12_ := Aside0.mk (hbox)
                                  have n13_ := Aside0.mk ((by rw [hg]; exact (below_size bl) : w.heap.size ≤ gb623))
                                  have n14_ := Aside0.mk ((by rw [hg]; exact (below_size bl) : w.heap.size ≤ gb623))
                                  have n15_ := Aside0.mk ((by rw [hg]; exact Nat.ne_of_lt (blk_lt (g := gb549) (o := .cells #[.int .i64 a0_0, .slice A0_1 l0_1.length c0_1, .string a0_2] 48 (0, 0)) (bk BK549)) : gb549 ≠ gb623))
                                  have n16_ := Aside0.mk ((by rw [hg]; exact Nat.ne_of_gt (blk_lt (g := gb549) (o := .cells #[.int .i64 a0_0, .slice A0_1 l0_1.length c0_1, .string a0_2] 48 (0, 0)) (bk BK549)) : gb623 ≠ gb549))
                                  have n17_ := Aside0.mk ((by rw [hg]; exact Nat.ne_of_lt (blk_lt (g := gb550) (o := .cells #[.int .i64 a1_0, .slice A1_1 l1_1.length c1_1, .string a1_2] 48 (0, 0)) (bk BK550)) : gb550 ≠ gb623))
                                  have n18_ := Aside0.mk ((by rw [hg]; exact Nat.ne_of_gt (blk_lt (g := gb550) (o := .cells #[.int .i64 a1_0, .slice A1_1 l1_1.length c1_1, .string a1_2] 48 (0, 0)) (bk BK550)) : gb623 ≠ gb550))
                                  have n19_ := Aside0.mk ((by rw [hg]; exact Nat.ne_of_lt (blk_lt (g := gb568) (o := .cells #[.int .i64 t563, .slice Ao52 t564.length co52, .string t567] 52 (0, 0)) (bk BK568)) : gb568 ≠ gb623))
                                  have n20_ := Aside0.mk ((by rw [hg]; exact Nat.ne_of_gt (blk_lt (g := gb568) (o := .cells #[.int .i64 t563, .slice Ao52 t564.length co52, .string t567] 52 (0, 0)) (bk BK568)) : gb623 ≠ gb568))
                                  have n21_ := Aside0.mk ((by rw [hg]; exact Nat.ne_of_lt (blk_lt (g := gb574) (o := .cells #[.int .i64 t569, .slice Ao63 t601.length co63, .string t573] 52 (0, 0)) (bk BK574)) : gb574 ≠ gb623))
                                  have n22_ := Aside0.mk ((by rw [hg]; exact Nat.ne_of_gt (blk_lt (g := gb574) (o := .cells #[.int .i64 t569, .slice Ao63 t601.length co63, .string t573] 52 (0, 0)) (bk BK574)) : gb623 ≠ gb574))
                                  have n23_ := Aside0.mk ((by rw [hg]; exact Nat.ne_of_lt (blk_lt (g := gb580) (o := .cells #[.int .i64 t575, .slice Ao73 t603.length co73, .string t579] 52 (0, 0)) (bk BK580)) : gb580 ≠ gb623))
                                  have n24_ := Aside0.mk ((by rw [hg]; exact Nat.ne_of_gt (blk_lt (g := gb580) (o := .cells #[.int .i64 t575, .slice Ao73 t603.length co73, .string t579] 52 (0, 0)) (bk BK580)) : gb623 ≠ gb580))
                                  have n25_ := Aside0.mk ((by rw [hg]; exact Nat.ne_of_lt (blk_lt (g := gb586) (o := .cells #[.int .i64 t581, .slice Ao83 t582.length co83, .string t585] 52 (0, 0)) (bk BK586)) : gb586 ≠ gb623))
                                  have n26_ := Aside0.mk ((by rw [hg]; exact Nat.ne_of_gt (blk_lt (g := gb586) (o := .cells #[.int .i64 t581, .slice Ao83 t582.length co83, .string t585] 52 (0, 0)) (bk BK586)) : gb623 ≠ gb586))
                                  clear HO_569001
                                  clear HO_575001
                                  clear HO_581001
                                  clear HO_587001
                                  clear HO611
                                  clear BK549
                                  clear BK550
                                  clear BK568
                                  clear BK574
                                  clear BK580
                                  clear BK586
                                  clear HB
                                  have HO_569001 := n0_
                                  have HO_575001 := n1_
                                  have HO_581001 := n2_
                                  have HO_587001 := n3_
                                  have HO611 := n4_
                                  have BK549 := n5_
                                  have BK550 := n6_
                                  have BK568 := n7_
                                  have BK574 := n8_
                                  have BK580 := n9_
                                  have BK586 := n10_
                                  have HB := n11_
                                  have BK623 := n12_
                                  have GW623 := n13_
                                  have GE623 := n14_
                                  have NB549_623 := n15_
                                  have NB623_549 := n16_
                                  have NB550_623 := n17_
                                  have NB623_550 := n18_
                                  have NB568_623 := n19_
                                  have NB623_568 := n20_
                                  have NB574_623 := n21_
                                  have NB623_574 := n22_
                                  have NB580_623 := n23_
                                  have NB623_580 := n24_
                                  have NB586_623 := n25_
                                  have NB623_586 := n26_
                                  clear n0_ n1_ n2_ n3_ n4_ n5_ n6_ n7_ n8_ n9_ n10_ n11_ n12_ n13_ n14_ n15_ n16_ n17_ n18_ n19_ n20_ n21_ n22_ n23_ n24_ n25_ n26_
                                  clear hb hbox hg
                                  refine hK.out _ _ ⟨(blk_cell BK549.out 0).trans rfl, (blk_cell BK549.out 1).trans rfl, (blk_cell BK549.out 2).trans rfl, (blk_cell BK550.out 0).trans rfl, (blk_cell BK550.out 1).trans rfl, (blk_cell BK550.out 2).trans rfl⟩ (fun hHeld => ?_)
                                  clear hK K
                                  refine norm_ (a' := ?_) ?_ ?_
                                  rotate_left
                                  · show Act.put _ (some 13) _ = _
                                    simp only [Act.put, List.setIfInBounds_toArray, List.set_cons_zero, List.set_cons_succ, i64_w, i32_w]
                                    rfl
                                  refine one_ (i := 3) (N := some 78) #[true, true, true, true, false, true, false] rfl rfl (by kernel_rfl) (by decide) (fun K hK => ?_)
                                  refine goes_ Tryd.func42 (by kernel_rfl) rfl #[.agg #[.int .i64 a1_0, .slice A1_1 l1_1.length c1_1, .string a1_2]] (by rfl) rfl rfl ma ?_
                                  with_reducible refine (laws_toResp.calls kj34 a1_0 _ _ l1_1 a1_2 t613 t614 t617 _ ?side1 ?side2 A118.out).mono ?_
                                  (case side1 => repeat (first | exact (Kd.C_below HR1_1.out HB.out) | (with_reducible refine Kd.C_alloc ?_ _) | (with_reducible refine Kd.C_drewN ?_ _) | (with_reducible refine Kd.C_drew ?_)))
                                  (case side2 => exact HC1_1.out)
                                  rintro e w137 ⟨v615, rfl, ho0, hb⟩
                                  refine ⟨_, rfl, ?_⟩
                                  have HO616 := Aside0.mk (Kd.R_lower (Kd.R_new' (Kd.R_new' (Kd.R_new' (Kd.R_new' (Kd.R_new' ho0 (Kd.R_lt (ro HO_569001))) (Kd.R_lt (ro HO_575001))) (Kd.R_lt (ro HO_581001))) (Kd.R_lt (ro HO_587001))) (Kd.R_lt (ro HO611))) (below_size bl))
                                  replace HO_569001 := Aside0.mk (Kd.R_elder' (ro HO_569001) (Kd.R_base ho0) hb)
                                  replace HO_575001 := Aside0.mk (Kd.R_elder' (ro HO_575001) (Kd.R_base ho0) hb)
                                  replace HO_581001 := Aside0.mk (Kd.R_elder' (ro HO_581001) (Kd.R_base ho0) hb)
                                  replace HO_587001 := Aside0.mk (Kd.R_elder' (ro HO_587001) (Kd.R_base ho0) hb)
                                  replace HO611 := Aside0.mk (Kd.R_elder' (ro HO611) (Kd.R_base ho0) hb)
                                  replace BK549 := kb BK549 hb
                                  replace BK550 := kb BK550 hb
                                  replace BK568 := kb BK568 hb
                                  replace BK574 := kb BK574 hb
                                  replace BK580 := kb BK580 hb
                                  replace BK586 := kb BK586 hb
                                  replace BK623 := kb BK623 hb
                                  replace HB := Aside0.mk (below_step bl hb)
                                  (try clear hb)
                                  (try clear hb2)
                                  (try clear hk)
                                  (try clear hi)
                                  (try clear ho0)
                                  obtain ⟨Ao138, co138, eo138⟩ := Kd.R_slice HO611.out
                                  (first | subst eo138 | (injection eo138 with f1_ f2_ f3_; have f4_ := f1_.symm; have f5_ := f3_.symm; clear f1_ f2_ f3_; subst f4_; subst f5_))
                                  obtain ⟨Ao139, co139, eo139⟩ := Kd.R_slice HO616.out
                                  (first | subst eo139 | (injection eo139 with f1_ f2_ f3_; have f4_ := f1_.symm; have f5_ := f3_.symm; clear f1_ f2_ f3_; subst f4_; subst f5_))
                                  refine hK.out _ _ ⟨(blk_cell BK549.out 0).trans rfl, (blk_cell BK549.out 1).trans rfl, (blk_cell BK549.out 2).trans rfl, (blk_cell BK550.out 0).trans rfl, (blk_cell BK550.out 1).trans rfl, (blk_cell BK550.out 2).trans rfl⟩ (fun hHeld => ?_)
                                  clear hK K
                                  refine norm_ (a' := ?_) ?_ ?_
                                  rotate_left
                                  · show Act.put _ (some 78) _ = _
                                    simp only [Act.put, List.setIfInBounds_toArray, List.set_cons_zero, List.set_cons_succ, i64_w, i32_w]
                                    rfl
                                  refine one_ (i := 4) (N := some 79) #[true, true, true, true, true, true, false] rfl rfl (by kernel_rfl) (by decide) (fun K hK => ?_)
                                  refine goes_ Tryd.func56 (by kernel_rfl) rfl #[.agg #[.int .i64 t608, .slice Ao138 t609.length co138, .string t612], .agg #[.int .i64 t613, .slice Ao139 t614.length co139, .string t617]] (by rfl) rfl rfl ma ?_
                                  with_reducible refine (impl_Merge.calls kj34 t608 _ _ t609 t612 t613 _ _ t614 t617 t618 t619 t622 _ ?side1 ?side2 ?side3 ?side4 A119.out).mono ?_
                                  (case side1 => repeat (first | exact (Kd.R_reads' HO611.out).2.2 | (with_reducible refine Kd.C_alloc ?_ _) | (with_reducible refine Kd.C_drewN ?_ _) | (with_reducible refine Kd.C_drew ?_)))
                                  (case side2 => exact (Kd.R_reads' HO611.out).2.1)
                                  (case side3 => repeat (first | exact (Kd.R_reads' HO616.out).2.2 | (with_reducible refine Kd.C_alloc ?_ _) | (with_reducible refine Kd.C_drewN ?_ _) | (with_reducible refine Kd.C_drew ?_)))
                                  (case side4 => exact (Kd.R_reads' HO616.out).2.1)
                                  rintro e w140 ⟨v620, rfl, ho0, hb⟩
                                  refine ⟨_, rfl, ?_⟩
                                  have HO621 := Aside0.mk (Kd.R_lower (Kd.R_new' (Kd.R_new' (Kd.R_new' (Kd.R_new' (Kd.R_new' (Kd.R_new' ho0 (Kd.R_lt (ro HO_569001))) (Kd.R_lt (ro HO_575001))) (Kd.R_lt (ro HO_581001))) (Kd.R_lt (ro HO_587001))) (Kd.R_lt (ro HO611))) (Kd.R_lt (ro HO616))) (below_size bl))
                                  replace HO_569001 := Aside0.mk (Kd.R_elder' (ro HO_569001) (Kd.R_base ho0) hb)
                                  replace HO_575001 := Aside0.mk (Kd.R_elder' (ro HO_575001) (Kd.R_base ho0) hb)
                                  replace HO_581001 := Aside0.mk (Kd.R_elder' (ro HO_581001) (Kd.R_base ho0) hb)
                                  replace HO_587001 := Aside0.mk (Kd.R_elder' (ro HO_587001) (Kd.R_base ho0) hb)
                                  replace HO611 := Aside0.mk (Kd.R_elder' (ro HO611) (Kd.R_base ho0) hb)
                                  replace HO616 := Aside0.mk (Kd.R_elder' (ro HO616) (Kd.R_base ho0) hb)
                                  replace BK549 := kb BK549 hb
                                  replace BK550 := kb BK550 hb
                                  replace BK568 := kb BK568 hb
                                  replace BK574 := kb BK574 hb
                                  replace BK580 := kb BK580 hb
                                  replace BK586 := kb BK586 hb
                                  replace BK623 := kb BK623 hb
                                  replace HB := Aside0.mk (below_step bl hb)
                                  (try clear hb)
                                  (try clear hb2)
                                  (try clear hk)
                                  (try clear hi)
                                  (try clear ho0)
                                  refine hK.out _ _ ⟨(blk_cell BK549.out 0).trans rfl, (blk_cell BK549.out 1).trans rfl, (blk_cell BK549.out 2).trans rfl, (blk_cell BK550.out 0).trans rfl, (blk_cell BK550.out 1).trans rfl, (blk_cell BK550.out 2).trans rfl⟩ (fun hHeld => ?_)
                                  clear hK K
                                  refine norm_ (a' := ?_) ?_ ?_
                                  rotate_left
                                  · show Act.put _ (some 79) _ = _
                                    simp only [Act.put, List.setIfInBounds_toArray, List.set_cons_zero, List.set_cons_succ, i64_w, i32_w]
                                    rfl
                                  exact norm_ (by simp only [putAll, Act.put, List.setIfInBounds_toArray, List.set_cons_zero, List.set_cons_succ]) (hCont (.slice Ao138 t609.length co138, .slice Ao139 t614.length co139, v620, gb623) _ ⟨hHeld, (by (with_reducible repeat (first | apply Kd.R_alloc | apply Kd.R_drewN | apply Kd.R_drew)); exact Kd.R_mono HO611.out (fun _ hk => ⟨hk.1.2, ⟨hk.2, ⟨hk.1.1.1.1.1.2, ⟨hk.1.1.1.1.2, ⟨hk.1.1.1.2, hk.1.1.2⟩⟩⟩⟩⟩)), (by (with_reducible repeat (first | apply Kd.R_alloc | apply Kd.R_drewN | apply Kd.R_drew)); exact Kd.R_mono HO616.out (fun _ hk => ⟨hk.1.2, ⟨hk.2, ⟨hk.1.1.1.1.1.2, ⟨hk.1.1.1.1.2, ⟨hk.1.1.1.2, hk.1.1.2⟩⟩⟩⟩⟩)), (by (with_reducible repeat (first | apply Kd.R_alloc | apply Kd.R_drewN | apply Kd.R_drew)); exact Kd.R_mono HO621.out (fun _ hk => ⟨hk.1.2, ⟨hk.2, ⟨hk.1.1.1.1.1.2, ⟨hk.1.1.1.1.2, ⟨hk.1.1.1.2, hk.1.1.2⟩⟩⟩⟩⟩)), (by (with_reducible repeat (first | apply Kd.R_alloc | apply Kd.R_drewN | apply Kd.R_drew)); exact Kd.R_mono HO_569001.out (fun _ hk => ⟨hk.1.1.2, ⟨hk.1.2, ⟨hk.2, ⟨hk.1.1.1.1, ⟨hk.1.1.1.2.1, hk.1.1.1.2.2⟩⟩⟩⟩⟩)), (by (with_reducible repeat (first | apply Kd.R_alloc | apply Kd.R_drewN | apply Kd.R_drew)); exact Kd.R_mono HO_575001.out (fun _ hk => ⟨hk.1.1.2, ⟨hk.1.2, ⟨hk.2, ⟨hk.1.1.1.1, ⟨hk.1.1.1.2.1, hk.1.1.1.2.2⟩⟩⟩⟩⟩)), (by (with_reducible repeat (first | apply Kd.R_alloc | apply Kd.R_drewN | apply Kd.R_drew)); exact Kd.R_mono HO_581001.out (fun _ hk => ⟨hk.1.1.2, ⟨hk.1.2, ⟨hk.2, ⟨hk.1.1.1.1, ⟨hk.1.1.1.2.1, hk.1.1.1.2.2⟩⟩⟩⟩⟩)), (by (with_reducible repeat (first | apply Kd.R_alloc | apply Kd.R_drewN | apply Kd.R_drew)); exact Kd.R_mono HO_587001.out (fun _ hk => ⟨hk.1.1.2, ⟨hk.1.2, ⟨hk.2, ⟨hk.1.1.1.1, ⟨hk.1.1.1.2.1, hk.1.1.1.2.2⟩⟩⟩⟩⟩)), (bk BK549), (bk BK550), (bk BK568), (bk BK574), (bk BK580), (bk BK586), (bk BK623), GW623.out, GE623.out, NB549_623.out, NB623_549.out, NB550_623.out, NB623_550.out, NB568_623.out, NB623_568.out, NB574_623.out, NB623_574.out, NB580_623.out, NB623_580.out, NB586_623.out, NB623_586.out, bl⟩)
                              · skip
                                refine box_step ?hg (N := 13) ?hd (cs := #[.int .i64 0, .slice none 0 0, .string (⟨#[]⟩ : ByteArray)]) (t := 52) ?hr ?_; (case hd => rfl); (case hg => rfl); (case hr => first | (go_simp; done) | (go_simp; rfl))
                                intro gb623 hg w135 hbox hb
                                have n0_ := Aside0.mk (Kd.R_below (ro HO_569001) hb)
                                have n1_ := Aside0.mk (Kd.R_below (ro HO_575001) hb)
                                have n2_ := Aside0.mk (Kd.R_below (ro HO_581001) hb)
                                have n3_ := Aside0.mk (Kd.R_below (ro HO_587001) hb)
                                have n4_ := Aside0.mk (blk_below (g := gb549) (o := .cells #[.int .i64 a0_0, .slice A0_1 l0_1.length c0_1, .string a0_2] 48 (0, 0)) (bk BK549) hb)
                                have n5_ := Aside0.mk (blk_below (g := gb550) (o := .cells #[.int .i64 a1_0, .slice A1_1 l1_1.length c1_1, .string a1_2] 48 (0, 0)) (bk BK550) hb)
                                have n6_ := Aside0.mk (blk_below (g := gb568) (o := .cells #[.int .i64 t563, .slice Ao52 t564.length co52, .string t567] 52 (0, 0)) (bk BK568) hb)
                                have n7_ := Aside0.mk (blk_below (g := gb574) (o := .cells #[.int .i64 t569, .slice Ao63 t601.length co63, .string t573] 52 (0, 0)) (bk BK574) hb)
                                have n8_ := Aside0.mk (blk_below (g := gb580) (o := .cells #[.int .i64 t575, .slice Ao73 t603.length co73, .string t579] 52 (0, 0)) (bk BK580) hb)
                                have n9_ := Aside0.mk (blk_below (g := gb586) (o := .cells #[.int .i64 t581, .slice Ao83 t582.length co83, .string t585] 52 (0, 0)) (bk BK586) hb)
                                have n10_ := Aside0.mk (below_step bl hb)
                                have n11_ := Aside0.mk (hbox)
                                have n12_ := Aside0.mk ((by rw [hg]; exact (below_size bl) : w.heap.size ≤ gb623))
                                have n13_ := Aside0.mk ((by rw [hg]; exact (below_size bl) : w.heap.size ≤ gb623))
                                have n14_ := Aside0.mk ((by rw [hg]; exact Nat.ne_of_lt (blk_lt (g := gb549) (o := .cells #[.int .i64 a0_0, .slice A0_1 l0_1.length c0_1, .string a0_2] 48 (0, 0)) (bk BK549)) : gb549 ≠ gb623))
                                have n15_ := Aside0.mk ((by rw [hg]; exact Nat.ne_of_gt (blk_lt (g := gb549) (o := .cells #[.int .i64 a0_0, .slice A0_1 l0_1.length c0_1, .string a0_2] 48 (0, 0)) (bk BK549)) : gb623 ≠ gb549))
                                have n16_ := Aside0.mk ((by rw [hg]; exact Nat.ne_of_lt (blk_lt (g := gb550) (o := .cells #[.int .i64 a1_0, .slice A1_1 l1_1.length c1_1, .string a1_2] 48 (0, 0)) (bk BK550)) : gb550 ≠ gb623))
                                have n17_ := Aside0.mk ((by rw [hg]; exact Nat.ne_of_gt (blk_lt (g := gb550) (o := .cells #[.int .i64 a1_0, .slice A1_1 l1_1.length c1_1, .string a1_2] 48 (0, 0)) (bk BK550)) : gb623 ≠ gb550))
                                have n18_ := Aside0.mk ((by rw [hg]; exact Nat.ne_of_lt (blk_lt (g := gb568) (o := .cells #[.int .i64 t563, .slice Ao52 t564.length co52, .string t567] 52 (0, 0)) (bk BK568)) : gb568 ≠ gb623))
                                have n19_ := Aside0.mk ((by rw [hg]; exact Nat.ne_of_gt (blk_lt (g := gb568) (o := .cells #[.int .i64 t563, .slice Ao52 t564.length co52, .string t567] 52 (0, 0)) (bk BK568)) : gb623 ≠ gb568))
                                have n20_ := Aside0.mk ((by rw [hg]; exact Nat.ne_of_lt (blk_lt (g := gb574) (o := .cells #[.int .i64 t569, .slice Ao63 t601.length co63, .string t573] 52 (0, 0)) (bk BK574)) : gb574 ≠ gb623))
                                have n21_ := Aside0.mk ((by rw [hg]; exact Nat.ne_of_gt (blk_lt (g := gb574) (o := .cells #[.int .i64 t569, .slice Ao63 t601.length co63, .string t573] 52 (0, 0)) (bk BK574)) : gb623 ≠ gb574))
                                have n22_ := Aside0.mk ((by rw [hg]; exact Nat.ne_of_lt (blk_lt (g := gb580) (o := .cells #[.int .i64 t575, .slice Ao73 t603.length co73, .string t579] 52 (0, 0)) (bk BK580)) : gb580 ≠ gb623))
                                have n23_ := Aside0.mk ((by rw [hg]; exact Nat.ne_of_gt (blk_lt (g := gb580) (o := .cells #[.int .i64 t575, .slice Ao73 t603.length co73, .string t579] 52 (0, 0)) (bk BK580)) : gb623 ≠ gb580))
                                have n24_ := Aside0.mk ((by rw [hg]; exact Nat.ne_of_lt (blk_lt (g := gb586) (o := .cells #[.int .i64 t581, .slice Ao83 t582.length co83, .string t585] 52 (0, 0)) (bk BK586)) : gb586 ≠ gb623))
                                have n25_ := Aside0.mk ((by rw [hg]; exact Nat.ne_of_gt (blk_lt (g := gb586) (o := .cells #[.int .i64 t581, .slice Ao83 t582.length co83, .string t585] 52 (0, 0)) (bk BK586)) : gb623 ≠ gb586))
                                clear HO_569001
                                clear HO_575001
                                clear HO_581001
                                clear HO_587001
                                clear BK549
                                clear BK550
                                clear BK568
                                clear BK574
                                clear BK580
                                clear BK586
                                clear HB
                                have HO_569001 := n0_
                                have HO_575001 := n1_
                                have HO_581001 := n2_
                                have HO_587001 := n3_
                                have BK549 := n4_
                                have BK550 := n5_
                                have BK568 := n6_
                                have BK574 := n7_
                                have BK580 := n8_
                                have BK586 := n9_
                                have HB := n10_
                                have BK623 := n11_
                                have GW623 := n12_
                                have GE623 := n13_
                                have NB549_623 := n14_
                                have NB623_549 := n15_
                                have NB550_623 := n16_
                                have NB623_550 := n17_
                                have NB568_623 := n18_
                                have NB623_568 := n19_
                                have NB574_623 := n20_
                                have NB623_574 := n21_
                                have NB580_623 := n22_
                                have NB623_580 := n23_
                                have NB586_623 := n24_
                                have NB623_586 := n25_
                                clear n0_ n1_ n2_ n3_ n4_ n5_ n6_ n7_ n8_ n9_ n10_ n11_ n12_ n13_ n14_ n15_ n16_ n17_ n18_ n19_ n20_ n21_ n22_ n23_ n24_ n25_
                                clear hb hbox hg
                                refine hK.out _ _ ⟨(blk_cell BK549.out 0).trans rfl, (blk_cell BK549.out 1).trans rfl, (blk_cell BK549.out 2).trans rfl, (blk_cell BK550.out 0).trans rfl, (blk_cell BK550.out 1).trans rfl, (blk_cell BK550.out 2).trans rfl⟩ (fun hHeld => ?_)
                                clear hK K
                                refine norm_ (a' := ?_) ?_ ?_
                                rotate_left
                                · show Act.put _ (some 13) _ = _
                                  simp only [Act.put, List.setIfInBounds_toArray, List.set_cons_zero, List.set_cons_succ, i64_w, i32_w]
                                  rfl
                                refine one_ (i := 1) (N := some 76) #[true, true, true, false, false, true, false] rfl rfl (by kernel_rfl) (by decide) (fun K hK => ?_)
                                refine goes_ Tryd.func42 (by kernel_rfl) rfl #[.agg #[.int .i64 a0_0, .slice A0_1 l0_1.length c0_1, .string a0_2]] (by rfl) rfl rfl ma ?_
                                with_reducible refine (laws_toResp.calls kj34 a0_0 _ _ l0_1 a0_2 t608 t609 t612 _ ?side1 ?side2 A117.out).mono ?_
                                (case side1 => repeat (first | exact (Kd.C_below HR0_1.out HB.out) | (with_reducible refine Kd.C_alloc ?_ _) | (with_reducible refine Kd.C_drewN ?_ _) | (with_reducible refine Kd.C_drew ?_)))
                                (case side2 => exact HC0_1.out)
                                rintro e w136 ⟨v610, rfl, ho0, hb⟩
                                refine ⟨_, rfl, ?_⟩
                                have HO611 := Aside0.mk (Kd.R_lower (Kd.R_new' (Kd.R_new' (Kd.R_new' (Kd.R_new' ho0 (Kd.R_lt (ro HO_569001))) (Kd.R_lt (ro HO_575001))) (Kd.R_lt (ro HO_581001))) (Kd.R_lt (ro HO_587001))) (below_size bl))
                                replace HO_569001 := Aside0.mk (Kd.R_elder' (ro HO_569001) (Kd.R_base ho0) hb)
                                replace HO_575001 := Aside0.mk (Kd.R_elder' (ro HO_575001) (Kd.R_base ho0) hb)
                                replace HO_581001 := Aside0.mk (Kd.R_elder' (ro HO_581001) (Kd.R_base ho0) hb)
                                replace HO_587001 := Aside0.mk (Kd.R_elder' (ro HO_587001) (Kd.R_base ho0) hb)
                                replace BK549 := kb BK549 hb
                                replace BK550 := kb BK550 hb
                                replace BK568 := kb BK568 hb
                                replace BK574 := kb BK574 hb
                                replace BK580 := kb BK580 hb
                                replace BK586 := kb BK586 hb
                                replace BK623 := kb BK623 hb
                                replace HB := Aside0.mk (below_step bl hb)
                                (try clear hb)
                                (try clear hb2)
                                (try clear hk)
                                (try clear hi)
                                (try clear ho0)
                                refine hK.out _ _ ⟨(blk_cell BK549.out 0).trans rfl, (blk_cell BK549.out 1).trans rfl, (blk_cell BK549.out 2).trans rfl, (blk_cell BK550.out 0).trans rfl, (blk_cell BK550.out 1).trans rfl, (blk_cell BK550.out 2).trans rfl⟩ (fun hHeld => ?_)
                                clear hK K
                                refine norm_ (a' := ?_) ?_ ?_
                                rotate_left
                                · show Act.put _ (some 76) _ = _
                                  simp only [Act.put, List.setIfInBounds_toArray, List.set_cons_zero, List.set_cons_succ, i64_w, i32_w]
                                  rfl
                                refine one_ (i := 3) (N := some 78) #[true, true, true, true, false, true, false] rfl rfl (by kernel_rfl) (by decide) (fun K hK => ?_)
                                refine goes_ Tryd.func42 (by kernel_rfl) rfl #[.agg #[.int .i64 a1_0, .slice A1_1 l1_1.length c1_1, .string a1_2]] (by rfl) rfl rfl ma ?_
                                with_reducible refine (laws_toResp.calls kj34 a1_0 _ _ l1_1 a1_2 t613 t614 t617 _ ?side1 ?side2 A118.out).mono ?_
                                (case side1 => repeat (first | exact (Kd.C_below HR1_1.out HB.out) | (with_reducible refine Kd.C_alloc ?_ _) | (with_reducible refine Kd.C_drewN ?_ _) | (with_reducible refine Kd.C_drew ?_)))
                                (case side2 => exact HC1_1.out)
                                rintro e w137 ⟨v615, rfl, ho0, hb⟩
                                refine ⟨_, rfl, ?_⟩
                                have HO616 := Aside0.mk (Kd.R_lower (Kd.R_new' (Kd.R_new' (Kd.R_new' (Kd.R_new' (Kd.R_new' ho0 (Kd.R_lt (ro HO_569001))) (Kd.R_lt (ro HO_575001))) (Kd.R_lt (ro HO_581001))) (Kd.R_lt (ro HO_587001))) (Kd.R_lt (ro HO611))) (below_size bl))
                                replace HO_569001 := Aside0.mk (Kd.R_elder' (ro HO_569001) (Kd.R_base ho0) hb)
                                replace HO_575001 := Aside0.mk (Kd.R_elder' (ro HO_575001) (Kd.R_base ho0) hb)
                                replace HO_581001 := Aside0.mk (Kd.R_elder' (ro HO_581001) (Kd.R_base ho0) hb)
                                replace HO_587001 := Aside0.mk (Kd.R_elder' (ro HO_587001) (Kd.R_base ho0) hb)
                                replace HO611 := Aside0.mk (Kd.R_elder' (ro HO611) (Kd.R_base ho0) hb)
                                replace BK549 := kb BK549 hb
                                replace BK550 := kb BK550 hb
                                replace BK568 := kb BK568 hb
                                replace BK574 := kb BK574 hb
                                replace BK580 := kb BK580 hb
                                replace BK586 := kb BK586 hb
                                replace BK623 := kb BK623 hb
                                replace HB := Aside0.mk (below_step bl hb)
                                (try clear hb)
                                (try clear hb2)
                                (try clear hk)
                                (try clear hi)
                                (try clear ho0)
                                obtain ⟨Ao138, co138, eo138⟩ := Kd.R_slice HO611.out
                                (first | subst eo138 | (injection eo138 with f1_ f2_ f3_; have f4_ := f1_.symm; have f5_ := f3_.symm; clear f1_ f2_ f3_; subst f4_; subst f5_))
                                obtain ⟨Ao139, co139, eo139⟩ := Kd.R_slice HO616.out
                                (first | subst eo139 | (injection eo139 with f1_ f2_ f3_; have f4_ := f1_.symm; have f5_ := f3_.symm; clear f1_ f2_ f3_; subst f4_; subst f5_))
                                refine hK.out _ _ ⟨(blk_cell BK549.out 0).trans rfl, (blk_cell BK549.out 1).trans rfl, (blk_cell BK549.out 2).trans rfl, (blk_cell BK550.out 0).trans rfl, (blk_cell BK550.out 1).trans rfl, (blk_cell BK550.out 2).trans rfl⟩ (fun hHeld => ?_)
                                clear hK K
                                refine norm_ (a' := ?_) ?_ ?_
                                rotate_left
                                · show Act.put _ (some 78) _ = _
                                  simp only [Act.put, List.setIfInBounds_toArray, List.set_cons_zero, List.set_cons_succ, i64_w, i32_w]
                                  rfl
                                refine one_ (i := 4) (N := some 79) #[true, true, true, true, true, true, false] rfl rfl (by kernel_rfl) (by decide) (fun K hK => ?_)
                                refine goes_ Tryd.func56 (by kernel_rfl) rfl #[.agg #[.int .i64 t608, .slice Ao138 t609.length co138, .string t612], .agg #[.int .i64 t613, .slice Ao139 t614.length co139, .string t617]] (by rfl) rfl rfl ma ?_
                                with_reducible refine (impl_Merge.calls kj34 t608 _ _ t609 t612 t613 _ _ t614 t617 t618 t619 t622 _ ?side1 ?side2 ?side3 ?side4 A119.out).mono ?_
                                (case side1 => repeat (first | exact (Kd.R_reads' HO611.out).2.2 | (with_reducible refine Kd.C_alloc ?_ _) | (with_reducible refine Kd.C_drewN ?_ _) | (with_reducible refine Kd.C_drew ?_)))
                                (case side2 => exact (Kd.R_reads' HO611.out).2.1)
                                (case side3 => repeat (first | exact (Kd.R_reads' HO616.out).2.2 | (with_reducible refine Kd.C_alloc ?_ _) | (with_reducible refine Kd.C_drewN ?_ _) | (with_reducible refine Kd.C_drew ?_)))
                                (case side4 => exact (Kd.R_reads' HO616.out).2.1)
                                rintro e w140 ⟨v620, rfl, ho0, hb⟩
                                refine ⟨_, rfl, ?_⟩
                                have HO621 := Aside0.mk (Kd.R_lower (Kd.R_new' (Kd.R_new' (Kd.R_new' (Kd.R_new' (Kd.R_new' (Kd.R_new' ho0 (Kd.R_lt (ro HO_569001))) (Kd.R_lt (ro HO_575001))) (Kd.R_lt (ro HO_581001))) (Kd.R_lt (ro HO_587001))) (Kd.R_lt (ro HO611))) (Kd.R_lt (ro HO616))) (below_size bl))
                                replace HO_569001 := Aside0.mk (Kd.R_elder' (ro HO_569001) (Kd.R_base ho0) hb)
                                replace HO_575001 := Aside0.mk (Kd.R_elder' (ro HO_575001) (Kd.R_base ho0) hb)
                                replace HO_581001 := Aside0.mk (Kd.R_elder' (ro HO_581001) (Kd.R_base ho0) hb)
                                replace HO_587001 := Aside0.mk (Kd.R_elder' (ro HO_587001) (Kd.R_base ho0) hb)
                                replace HO611 := Aside0.mk (Kd.R_elder' (ro HO611) (Kd.R_base ho0) hb)
                                replace HO616 := Aside0.mk (Kd.R_elder' (ro HO616) (Kd.R_base ho0) hb)
                                replace BK549 := kb BK549 hb
                                replace BK550 := kb BK550 hb
                                replace BK568 := kb BK568 hb
                                replace BK574 := kb BK574 hb
                                replace BK580 := kb BK580 hb
                                replace BK586 := kb BK586 hb
                                replace BK623 := kb BK623 hb
                                replace HB := Aside0.mk (below_step bl hb)
                                (try clear hb)
                                (try clear hb2)
                                (try clear hk)
                                (try clear hi)
                                (try clear ho0)
                                refine hK.out _ _ ⟨(blk_cell BK549.out 0).trans rfl, (blk_cell BK549.out 1).trans rfl, (blk_cell BK549.out 2).trans rfl, (blk_cell BK550.out 0).trans rfl, (blk_cell BK550.out 1).trans rfl, (blk_cell BK550.out 2).trans rfl⟩ (fun hHeld => ?_)
                                clear hK K
                                refine norm_ (a' := ?_) ?_ ?_
                                rotate_left
                                · show Act.put _ (some 79) _ = _
                                  simp only [Act.put, List.setIfInBounds_toArray, List.set_cons_zero, List.set_cons_succ, i64_w, i32_w]
                                  rfl
                                exact norm_ (by simp only [putAll, Act.put, List.setIfInBounds_toArray, List.set_cons_zero, List.set_cons_succ]) (hCont (.slice Ao138 t609.length co138, .slice Ao139 t614.length co139, v620, gb623) _ ⟨hHeld, (by (with_reducible repeat (first | apply Kd.R_alloc | apply Kd.R_drewN | apply Kd.R_drew)); exact Kd.R_mono HO611.out (fun _ hk => ⟨hk.1.2, ⟨hk.2, ⟨hk.1.1.1.1.1.2, ⟨hk.1.1.1.1.2, ⟨hk.1.1.1.2, hk.1.1.2⟩⟩⟩⟩⟩)), (by (with_reducible repeat (first | apply Kd.R_alloc | apply Kd.R_drewN | apply Kd.R_drew)); exact Kd.R_mono HO616.out (fun _ hk => ⟨hk.1.2, ⟨hk.2, ⟨hk.1.1.1.1.1.2, ⟨hk.1.1.1.1.2, ⟨hk.1.1.1.2, hk.1.1.2⟩⟩⟩⟩⟩)), (by (with_reducible repeat (first | apply Kd.R_alloc | apply Kd.R_drewN | apply Kd.R_drew)); exact Kd.R_mono HO621.out (fun _ hk => ⟨hk.1.2, ⟨hk.2, ⟨hk.1.1.1.1.1.2, ⟨hk.1.1.1.1.2, ⟨hk.1.1.1.2, hk.1.1.2⟩⟩⟩⟩⟩)), (by (with_reducible repeat (first | apply Kd.R_alloc | apply Kd.R_drewN | apply Kd.R_drew)); exact Kd.R_mono HO_569001.out (fun _ hk => ⟨hk.1.1.2, ⟨hk.1.2, ⟨hk.2, ⟨hk.1.1.1.1, ⟨hk.1.1.1.2.1, hk.1.1.1.2.2⟩⟩⟩⟩⟩)), (by (with_reducible repeat (first | apply Kd.R_alloc | apply Kd.R_drewN | apply Kd.R_drew)); exact Kd.R_mono HO_575001.out (fun _ hk => ⟨hk.1.1.2, ⟨hk.1.2, ⟨hk.2, ⟨hk.1.1.1.1, ⟨hk.1.1.1.2.1, hk.1.1.1.2.2⟩⟩⟩⟩⟩)), (by (with_reducible repeat (first | apply Kd.R_alloc | apply Kd.R_drewN | apply Kd.R_drew)); exact Kd.R_mono HO_581001.out (fun _ hk => ⟨hk.1.1.2, ⟨hk.1.2, ⟨hk.2, ⟨hk.1.1.1.1, ⟨hk.1.1.1.2.1, hk.1.1.1.2.2⟩⟩⟩⟩⟩)), (by (with_reducible repeat (first | apply Kd.R_alloc | apply Kd.R_drewN | apply Kd.R_drew)); exact Kd.R_mono HO_587001.out (fun _ hk => ⟨hk.1.1.2, ⟨hk.1.2, ⟨hk.2, ⟨hk.1.1.1.1, ⟨hk.1.1.1.2.1, hk.1.1.1.2.2⟩⟩⟩⟩⟩)), (bk BK549), (bk BK550), (bk BK568), (bk BK574), (bk BK580), (bk BK586), (bk BK623), GW623.out, GE623.out, NB549_623.out, NB623_549.out, NB550_623.out, NB623_550.out, NB568_623.out, NB623_568.out, NB574_623.out, NB623_574.out, NB580_623.out, NB623_580.out, NB586_623.out, NB623_586.out, bl⟩)
                            rintro ⟨v610, v615, v620, gb623⟩ w141 ⟨hS_, h0_, h1_, h2_, h3_, h4_, h5_, h6_, h7_, h8_, h9_, h10_, h11_, h12_, h13_, h14_, h15_, h16_, h17_, h18_, h19_, h20_, h21_, h22_, h23_, h24_, h25_, h26_, h27_, h28_⟩
                            have n0_ : Aside0 (Kd.R k78 78 w141 w.heap.size (fun k_ => some k_ ≠ (v615 : Value).ownBlock ∧ some k_ ≠ (v620 : Value).ownBlock ∧ some k_ ≠ (.slice Ao52 t564.length co52 : Value).ownBlock ∧ some k_ ≠ (.slice Ao63 t601.length co63 : Value).ownBlock ∧ some k_ ≠ (.slice Ao73 t603.length co73 : Value).ownBlock ∧ some k_ ≠ (.slice Ao83 t582.length co83 : Value).ownBlock) v610 t609) := ⟨h0_⟩
                            have n1_ : Aside0 (Kd.R k78 78 w141 w.heap.size (fun k_ => some k_ ≠ (v610 : Value).ownBlock ∧ some k_ ≠ (v620 : Value).ownBlock ∧ some k_ ≠ (.slice Ao52 t564.length co52 : Value).ownBlock ∧ some k_ ≠ (.slice Ao63 t601.length co63 : Value).ownBlock ∧ some k_ ≠ (.slice Ao73 t603.length co73 : Value).ownBlock ∧ some k_ ≠ (.slice Ao83 t582.length co83 : Value).ownBlock) v615 t614) := ⟨h1_⟩
                            have n2_ : Aside0 (Kd.R k78 78 w141 w.heap.size (fun k_ => some k_ ≠ (v610 : Value).ownBlock ∧ some k_ ≠ (v615 : Value).ownBlock ∧ some k_ ≠ (.slice Ao52 t564.length co52 : Value).ownBlock ∧ some k_ ≠ (.slice Ao63 t601.length co63 : Value).ownBlock ∧ some k_ ≠ (.slice Ao73 t603.length co73 : Value).ownBlock ∧ some k_ ≠ (.slice Ao83 t582.length co83 : Value).ownBlock) v620 t619) := ⟨h2_⟩
                            have n3_ : Aside0 (Kd.R k78 78 w141 w.heap.size (fun k_ => some k_ ≠ (v610 : Value).ownBlock ∧ some k_ ≠ (v615 : Value).ownBlock ∧ some k_ ≠ (v620 : Value).ownBlock ∧ some k_ ≠ (.slice Ao63 t601.length co63 : Value).ownBlock ∧ some k_ ≠ (.slice Ao73 t603.length co73 : Value).ownBlock ∧ some k_ ≠ (.slice Ao83 t582.length co83 : Value).ownBlock) (.slice Ao52 t564.length co52) t564) := ⟨h3_⟩
                            have n4_ : Aside0 (Kd.R k78 78 w141 w.heap.size (fun k_ => some k_ ≠ (v610 : Value).ownBlock ∧ some k_ ≠ (v615 : Value).ownBlock ∧ some k_ ≠ (v620 : Value).ownBlock ∧ some k_ ≠ (.slice Ao52 t564.length co52 : Value).ownBlock ∧ some k_ ≠ (.slice Ao73 t603.length co73 : Value).ownBlock ∧ some k_ ≠ (.slice Ao83 t582.length co83 : Value).ownBlock) (.slice Ao63 t601.length co63) t601) := ⟨h4_⟩
                            have n5_ : Aside0 (Kd.R k78 78 w141 w.heap.size (fun k_ => some k_ ≠ (v610 : Value).ownBlock ∧ some k_ ≠ (v615 : Value).ownBlock ∧ some k_ ≠ (v620 : Value).ownBlock ∧ some k_ ≠ (.slice Ao52 t564.length co52 : Value).ownBlock ∧ some k_ ≠ (.slice Ao63 t601.length co63 : Value).ownBlock ∧ some k_ ≠ (.slice Ao83 t582.length co83 : Value).ownBlock) (.slice Ao73 t603.length co73) t603) := ⟨h5_⟩
                            have n6_ : Aside0 (Kd.R k78 78 w141 w.heap.size (fun k_ => some k_ ≠ (v610 : Value).ownBlock ∧ some k_ ≠ (v615 : Value).ownBlock ∧ some k_ ≠ (v620 : Value).ownBlock ∧ some k_ ≠ (.slice Ao52 t564.length co52 : Value).ownBlock ∧ some k_ ≠ (.slice Ao63 t601.length co63 : Value).ownBlock ∧ some k_ ≠ (.slice Ao73 t603.length co73 : Value).ownBlock) (.slice Ao83 t582.length co83) t606) := ⟨h6_⟩
                            have n7_ : Aside0 (w141.heap[gb549]? = some (.cells #[.int .i64 a0_0, .slice A0_1 l0_1.length c0_1, .string a0_2] 48 (0, 0))) := ⟨h7_⟩
                            have n8_ : Aside0 (w141.heap[gb550]? = some (.cells #[.int .i64 a1_0, .slice A1_1 l1_1.length c1_1, .string a1_2] 48 (0, 0))) := ⟨h8_⟩
                            have n9_ : Aside0 (w141.heap[gb568]? = some (.cells #[.int .i64 t563, .slice Ao52 t564.length co52, .string t567] 52 (0, 0))) := ⟨h9_⟩
                            have n10_ : Aside0 (w141.heap[gb574]? = some (.cells #[.int .i64 t569, .slice Ao63 t601.length co63, .string t573] 52 (0, 0))) := ⟨h10_⟩
                            have n11_ : Aside0 (w141.heap[gb580]? = some (.cells #[.int .i64 t575, .slice Ao73 t603.length co73, .string t579] 52 (0, 0))) := ⟨h11_⟩
                            have n12_ : Aside0 (w141.heap[gb586]? = some (.cells #[.int .i64 t581, .slice Ao83 t582.length co83, .string t585] 52 (0, 0))) := ⟨h12_⟩
                            have n13_ : Aside0 (w141.heap[gb623]? = some (.cells #[.int .i64 0, .slice none 0 0, .string (⟨#[]⟩ : ByteArray)] 52 (0, 0))) := ⟨h13_⟩
                            have n14_ : Aside0 (w.heap.size ≤ gb623) := ⟨h14_⟩
                            have n15_ : Aside0 (w.heap.size ≤ gb623) := ⟨h15_⟩
                            have n16_ : Aside0 (gb549 ≠ gb623) := ⟨h16_⟩
                            have n17_ : Aside0 (gb623 ≠ gb549) := ⟨h17_⟩
                            have n18_ : Aside0 (gb550 ≠ gb623) := ⟨h18_⟩
                            have n19_ : Aside0 (gb623 ≠ gb550) := ⟨h19_⟩
                            have n20_ : Aside0 (gb568 ≠ gb623) := ⟨h20_⟩
                            have n21_ : Aside0 (gb623 ≠ gb568) := ⟨h21_⟩
                            have n22_ : Aside0 (gb574 ≠ gb623) := ⟨h22_⟩
                            have n23_ : Aside0 (gb623 ≠ gb574) := ⟨h23_⟩
                            have n24_ : Aside0 (gb580 ≠ gb623) := ⟨h24_⟩
                            have n25_ : Aside0 (gb623 ≠ gb580) := ⟨h25_⟩
                            have n26_ : Aside0 (gb586 ≠ gb623) := ⟨h26_⟩
                            have n27_ : Aside0 (gb623 ≠ gb586) := ⟨h27_⟩
                            have n28_ : Aside0 (Below w.heap.size w w141) := ⟨h28_⟩
                            clear HO_569001
                            clear HO_575001
                            clear HO_581001
                            clear HO_587001
                            clear BK549
                            clear BK550
                            clear BK568
                            clear BK574
                            clear BK580
                            clear BK586
                            clear HB
                            clear h0_ h1_ h2_ h3_ h4_ h5_ h6_ h7_ h8_ h9_ h10_ h11_ h12_ h13_ h14_ h15_ h16_ h17_ h18_ h19_ h20_ h21_ h22_ h23_ h24_ h25_ h26_ h27_ h28_
                            have HO611 := n0_
                            have HO616 := n1_
                            have HO621 := n2_
                            have HO_569001 := n3_
                            have HO_575001 := n4_
                            have HO_581001 := n5_
                            have HO_587001 := n6_
                            have BK549 := n7_
                            have BK550 := n8_
                            have BK568 := n9_
                            have BK574 := n10_
                            have BK580 := n11_
                            have BK586 := n12_
                            have BK623 := n13_
                            have GW623 := n14_
                            have GE623 := n15_
                            have NB549_623 := n16_
                            have NB623_549 := n17_
                            have NB550_623 := n18_
                            have NB623_550 := n19_
                            have NB568_623 := n20_
                            have NB623_568 := n21_
                            have NB574_623 := n22_
                            have NB623_574 := n23_
                            have NB580_623 := n24_
                            have NB623_580 := n25_
                            have NB586_623 := n26_
                            have NB623_586 := n27_
                            have HB := n28_
                            clear n0_ n1_ n2_ n3_ n4_ n5_ n6_ n7_ n8_ n9_ n10_ n11_ n12_ n13_ n14_ n15_ n16_ n17_ n18_ n19_ n20_ n21_ n22_ n23_ n24_ n25_ n26_ n27_ n28_
                            have hHeld : w141.cell? ⟨gb549, 0, none⟩ = some (.int .i64 a0_0) ∧ w141.cell? ⟨gb549, 1, none⟩ = some (.slice A0_1 l0_1.length c0_1) ∧ w141.cell? ⟨gb549, 2, none⟩ = some (.string a0_2) ∧ w141.cell? ⟨gb550, 0, none⟩ = some (.int .i64 a1_0) ∧ w141.cell? ⟨gb550, 1, none⟩ = some (.slice A1_1 l1_1.length c1_1) ∧ w141.cell? ⟨gb550, 2, none⟩ = some (.string a1_2) := hS_
                            obtain ⟨Ao143, co143, eo143⟩ := Kd.R_slice HO621.out
                            (first | subst eo143 | (injection eo143 with f1_ f2_ f3_; have f4_ := f1_.symm; have f5_ := f3_.symm; clear f1_ f2_ f3_; subst f4_; subst f5_))
                            refine norm_ (a' := ?_) ?_ ?_
                            rotate_left
                            · simp only [putAll, Act.put, List.setIfInBounds_toArray, List.set_cons_zero, List.set_cons_succ]
                              rfl
                            refine one_ (i := 6) (N := none) #[true, true, true, true, true, true, true] rfl rfl (by kernel_rfl) (by decide) (fun K hK => ?_)
                            have hs142 : w141.cell? ⟨gb623, 0, none⟩ = some (.int .i64 0) := (blk_cell BK623.out 0).trans rfl
                            have hfs142 := blk_frozen BK623.out 0
                            have hns142_0 := NB549_623.out
                            have hns142_1 := NB550_623.out
                            have hns142_2 := NB568_623.out
                            have hns142_3 := NB574_623.out
                            have hns142_4 := NB580_623.out
                            have hns142_5 := NB586_623.out
                            have hms142_0 := NB623_549.out
                            have hms142_1 := NB623_550.out
                            have hms142_2 := NB623_568.out
                            have hms142_3 := NB623_574.out
                            have hms142_4 := NB623_580.out
                            have hms142_5 := NB623_586.out
                            have hs144 : w141.cell? ⟨gb623, 1, none⟩ = some (.slice none 0 0) := (blk_cell BK623.out 1).trans rfl
                            have hfs144 := blk_frozen BK623.out 1
                            have hns144_0 := NB549_623.out
                            have hns144_1 := NB550_623.out
                            have hns144_2 := NB568_623.out
                            have hns144_3 := NB574_623.out
                            have hns144_4 := NB580_623.out
                            have hns144_5 := NB586_623.out
                            have hms144_0 := NB623_549.out
                            have hms144_1 := NB623_550.out
                            have hms144_2 := NB623_568.out
                            have hms144_3 := NB623_574.out
                            have hms144_4 := NB623_580.out
                            have hms144_5 := NB623_586.out
                            have hs145 : w141.cell? ⟨gb623, 2, none⟩ = some (.string (⟨#[]⟩ : ByteArray)) := (blk_cell BK623.out 2).trans rfl
                            have hfs145 := blk_frozen BK623.out 2
                            have hns145_0 := NB549_623.out
                            have hns145_1 := NB550_623.out
                            have hns145_2 := NB568_623.out
                            have hns145_3 := NB574_623.out
                            have hns145_4 := NB580_623.out
                            have hns145_5 := NB586_623.out
                            have hms145_0 := NB623_549.out
                            have hms145_1 := NB623_550.out
                            have hms145_2 := NB623_568.out
                            have hms145_3 := NB623_574.out
                            have hms145_4 := NB623_580.out
                            have hms145_5 := NB623_586.out
                            refine skip_ (w1 := ?_) (by rfl) rfl ?_ ?_
                            rotate_left
                            · go_simp
                              rfl
                            refine hK.out _ _ ⟨((cell_far (p := ⟨gb623, _, none⟩) NB549_623.out _).trans (((cell_far (p := ⟨gb623, _, none⟩) NB549_623.out _).trans (((cell_far (p := ⟨gb623, _, none⟩) NB549_623.out _).trans (hHeld.1)))))), ((cell_far (p := ⟨gb623, _, none⟩) NB549_623.out _).trans (((cell_far (p := ⟨gb623, _, none⟩) NB549_623.out _).trans (((cell_far (p := ⟨gb623, _, none⟩) NB549_623.out _).trans (hHeld.2.1)))))), ((cell_far (p := ⟨gb623, _, none⟩) NB549_623.out _).trans (((cell_far (p := ⟨gb623, _, none⟩) NB549_623.out _).trans (((cell_far (p := ⟨gb623, _, none⟩) NB549_623.out _).trans (hHeld.2.2.1)))))), ((cell_far (p := ⟨gb623, _, none⟩) NB550_623.out _).trans (((cell_far (p := ⟨gb623, _, none⟩) NB550_623.out _).trans (((cell_far (p := ⟨gb623, _, none⟩) NB550_623.out _).trans (hHeld.2.2.2.1)))))), ((cell_far (p := ⟨gb623, _, none⟩) NB550_623.out _).trans (((cell_far (p := ⟨gb623, _, none⟩) NB550_623.out _).trans (((cell_far (p := ⟨gb623, _, none⟩) NB550_623.out _).trans (hHeld.2.2.2.2.1)))))), ((cell_far (p := ⟨gb623, _, none⟩) NB550_623.out _).trans (((cell_far (p := ⟨gb623, _, none⟩) NB550_623.out _).trans (((cell_far (p := ⟨gb623, _, none⟩) NB550_623.out _).trans (hHeld.2.2.2.2.2))))))⟩ (fun hHeld => ?_)
                            clear hK K
                            refine done_ (by kernel_rfl) ?_
                            have hnb146 := NB623_549.out
                            have hnc146 := NB549_623.out
                            have hnb147 := NB623_550.out
                            have hnc147 := NB550_623.out
                            have hnb148 := NB623_568.out
                            have hnc148 := NB568_623.out
                            have hnb149 := NB623_574.out
                            have hnc149 := NB574_623.out
                            have hnb150 := NB623_580.out
                            have hnc150 := NB580_623.out
                            have hnb151 := NB623_586.out
                            have hnc151 := NB586_623.out
                            have hcz152_0 : w141.cell? ⟨gb623, 0, none⟩ = some (.int .i64 0) := (blk_cell BK623.out 0).trans rfl
                            have hcz152_1 : w141.cell? ⟨gb623, 1, none⟩ = some (.slice none 0 0) := (blk_cell BK623.out 1).trans rfl
                            have hcz152_2 : w141.cell? ⟨gb623, 2, none⟩ = some (.string (⟨#[]⟩ : ByteArray)) := (blk_cell BK623.out 2).trans rfl
                            have hfz152_0 := blk_frozen BK623.out 0
                            have hfz152_1 := blk_frozen BK623.out 1
                            have hfz152_2 := blk_frozen BK623.out 2
                            have hnb153 := NB568_549.out
                            have hnc153 := NB549_568.out
                            have hnb154 := NB568_550.out
                            have hnc154 := NB550_568.out
                            have hnb155 := NB568_574.out
                            have hnc155 := NB574_568.out
                            have hnb156 := NB568_580.out
                            have hnc156 := NB580_568.out
                            have hcz157_0 : w141.cell? ⟨gb568, 0, none⟩ = some (.int .i64 t563) := (blk_cell BK568.out 0).trans rfl
                            have hcz157_1 : w141.cell? ⟨gb568, 1, none⟩ = some (.slice Ao52 t564.length co52) := (blk_cell BK568.out 1).trans rfl
                            have hcz157_2 : w141.cell? ⟨gb568, 2, none⟩ = some (.string t567) := (blk_cell BK568.out 2).trans rfl
                            have hfz157_0 := blk_frozen BK568.out 0
                            have hfz157_1 := blk_frozen BK568.out 1
                            have hfz157_2 := blk_frozen BK568.out 2
                            try go_wp2_with (first | ((with_reducible refine gate_callee (f := 44) rfl ?_); refine goesL_ (some 82) rfl rfl Tryd.func44 (by kernel_rfl) rfl #[.agg #[.int .i64 t618, .slice Ao143 t619.length co143, .string t622], .agg #[.int .i64 t563, .slice Ao52 t564.length co52, .string t567]] rfl ma ?_; (with_reducible refine (laws_eqResp.calls kj34 t618 _ _ t619 t622 t563 _ _ t564 t567 true _ ?side1 ?side2 ?side3 ?side4 A120.out).mono ?_); (case side1 => refine (Kd.R_reads' (e := 78) (base := w.heap.size) (ok := fun k_ => (some k_ ≠ (v610 : Value).ownBlock ∧ (some k_ ≠ (v615 : Value).ownBlock ∧ (some k_ ≠ (.slice Ao52 t564.length co52 : Value).ownBlock ∧ (some k_ ≠ (.slice Ao63 t601.length co63 : Value).ownBlock ∧ (some k_ ≠ (.slice Ao73 t603.length co73 : Value).ownBlock ∧ some k_ ≠ (.slice Ao83 t582.length co83 : Value).ownBlock)))))) (n := t619.length) (c := co143) ?_).2.2; exact (by (with_reducible repeat (first | apply Kd.R_alloc | apply Kd.R_drewN | apply Kd.R_drew)); exact (Kd.R_mono (Kd.R_far (p := ⟨gb623, 2, none⟩) (Kd.R_far (p := ⟨gb623, 1, none⟩) (Kd.R_far (p := ⟨gb623, 0, none⟩) (Kd.R_types HO621.out BK623.out (by decide)) (fun _ hk => hk.2) (.int .i64 t618)) (fun _ hk => hk.2) (.slice Ao143 t619.length co143)) (fun _ hk => hk.2) (.string t622)) (fun _ h_ => h_.1)))); (case side2 => exact (Kd.R_reads' HO621.out).2.1); (case side3 => refine (Kd.R_reads' (e := 78) (base := w.heap.size) (ok := fun k_ => (some k_ ≠ (v610 : Value).ownBlock ∧ (some k_ ≠ (v615 : Value).ownBlock ∧ (some k_ ≠ (.slice Ao143 t619.length co143 : Value).ownBlock ∧ (some k_ ≠ (.slice Ao63 t601.length co63 : Value).ownBlock ∧ (some k_ ≠ (.slice Ao73 t603.length co73 : Value).ownBlock ∧ some k_ ≠ (.slice Ao83 t582.length co83 : Value).ownBlock)))))) (n := t564.length) (c := co52) ?_).2.2; exact (by (with_reducible repeat (first | apply Kd.R_alloc | apply Kd.R_drewN | apply Kd.R_drew)); exact (Kd.R_mono (Kd.R_far (p := ⟨gb623, 2, none⟩) (Kd.R_far (p := ⟨gb623, 1, none⟩) (Kd.R_far (p := ⟨gb623, 0, none⟩) (Kd.R_types HO_569001.out BK623.out (by decide)) (fun _ hk => hk.2) (.int .i64 t618)) (fun _ hk => hk.2) (.slice Ao143 t619.length co143)) (fun _ hk => hk.2) (.string t622)) (fun _ h_ => h_.1)))); (case side4 => exact (Kd.R_reads' HO_569001.out).2.1); rintro e w158 ⟨rfl, hb⟩; refine ⟨_, rfl, ?_⟩; have n0_ := Aside0.mk (Kd.R_below (by (with_reducible repeat (first | apply Kd.R_alloc | apply Kd.R_drewN | apply Kd.R_drew)); exact (Kd.R_mono (Kd.R_far (p := ⟨gb623, 2, none⟩) (Kd.R_far (p := ⟨gb623, 1, none⟩) (Kd.R_far (p := ⟨gb623, 0, none⟩) (Kd.R_types HO_569001.out BK623.out (by decide)) (fun _ hk => hk.2) (.int .i64 t618)) (fun _ hk => hk.2) (.slice Ao143 t619.length co143)) (fun _ hk => hk.2) (.string t622)) (fun _ h_ => h_.1))) hb); have n1_ := Aside0.mk (Kd.R_below (by (with_reducible repeat (first | apply Kd.R_alloc | apply Kd.R_drewN | apply Kd.R_drew)); exact (Kd.R_mono (Kd.R_far (p := ⟨gb623, 2, none⟩) (Kd.R_far (p := ⟨gb623, 1, none⟩) (Kd.R_far (p := ⟨gb623, 0, none⟩) (Kd.R_types HO_575001.out BK623.out (by decide)) (fun _ hk => hk.2) (.int .i64 t618)) (fun _ hk => hk.2) (.slice Ao143 t619.length co143)) (fun _ hk => hk.2) (.string t622)) (fun _ h_ => h_.1))) hb); have n2_ := Aside0.mk (Kd.R_below (by (with_reducible repeat (first | apply Kd.R_alloc | apply Kd.R_drewN | apply Kd.R_drew)); exact (Kd.R_mono (Kd.R_far (p := ⟨gb623, 2, none⟩) (Kd.R_far (p := ⟨gb623, 1, none⟩) (Kd.R_far (p := ⟨gb623, 0, none⟩) (Kd.R_types HO_581001.out BK623.out (by decide)) (fun _ hk => hk.2) (.int .i64 t618)) (fun _ hk => hk.2) (.slice Ao143 t619.length co143)) (fun _ hk => hk.2) (.string t622)) (fun _ h_ => h_.1))) hb); have n3_ := Aside0.mk (Kd.R_below (by (with_reducible repeat (first | apply Kd.R_alloc | apply Kd.R_drewN | apply Kd.R_drew)); exact (Kd.R_mono (Kd.R_far (p := ⟨gb623, 2, none⟩) (Kd.R_far (p := ⟨gb623, 1, none⟩) (Kd.R_far (p := ⟨gb623, 0, none⟩) (Kd.R_types HO_587001.out BK623.out (by decide)) (fun _ hk => hk.2) (.int .i64 t618)) (fun _ hk => hk.2) (.slice Ao143 t619.length co143)) (fun _ hk => hk.2) (.string t622)) (fun _ h_ => h_.1))) hb); have n4_ := Aside0.mk (Kd.R_below (by (with_reducible repeat (first | apply Kd.R_alloc | apply Kd.R_drewN | apply Kd.R_drew)); exact (Kd.R_mono (Kd.R_far (p := ⟨gb623, 2, none⟩) (Kd.R_far (p := ⟨gb623, 1, none⟩) (Kd.R_far (p := ⟨gb623, 0, none⟩) (Kd.R_types HO611.out BK623.out (by decide)) (fun _ hk => hk.2) (.int .i64 t618)) (fun _ hk => hk.2) (.slice Ao143 t619.length co143)) (fun _ hk => hk.2) (.string t622)) (fun _ h_ => h_.1))) hb); have n5_ := Aside0.mk (Kd.R_below (by (with_reducible repeat (first | apply Kd.R_alloc | apply Kd.R_drewN | apply Kd.R_drew)); exact (Kd.R_mono (Kd.R_far (p := ⟨gb623, 2, none⟩) (Kd.R_far (p := ⟨gb623, 1, none⟩) (Kd.R_far (p := ⟨gb623, 0, none⟩) (Kd.R_types HO616.out BK623.out (by decide)) (fun _ hk => hk.2) (.int .i64 t618)) (fun _ hk => hk.2) (.slice Ao143 t619.length co143)) (fun _ hk => hk.2) (.string t622)) (fun _ h_ => h_.1))) hb); have n6_ := Aside0.mk (Kd.R_below (by (with_reducible repeat (first | apply Kd.R_alloc | apply Kd.R_drewN | apply Kd.R_drew)); exact (Kd.R_mono (Kd.R_far (p := ⟨gb623, 2, none⟩) (Kd.R_far (p := ⟨gb623, 1, none⟩) (Kd.R_far (p := ⟨gb623, 0, none⟩) (Kd.R_types HO621.out BK623.out (by decide)) (fun _ hk => hk.2) (.int .i64 t618)) (fun _ hk => hk.2) (.slice Ao143 t619.length co143)) (fun _ hk => hk.2) (.string t622)) (fun _ h_ => h_.1))) hb); have n7_ := Aside0.mk (blk_below (g := gb549) (o := .cells #[.int .i64 a0_0, .slice A0_1 l0_1.length c0_1, .string a0_2] 48 (0, 0)) (bf BK549) hb); have n8_ := Aside0.mk (blk_below (g := gb550) (o := .cells #[.int .i64 a1_0, .slice A1_1 l1_1.length c1_1, .string a1_2] 48 (0, 0)) (bf BK550) hb); have n9_ := Aside0.mk (blk_below (g := gb568) (o := .cells #[.int .i64 t563, .slice Ao52 t564.length co52, .string t567] 52 (0, 0)) (bf BK568) hb); have n10_ := Aside0.mk (blk_below (g := gb574) (o := .cells #[.int .i64 t569, .slice Ao63 t601.length co63, .string t573] 52 (0, 0)) (bf BK574) hb); have n11_ := Aside0.mk (blk_below (g := gb580) (o := .cells #[.int .i64 t575, .slice Ao73 t603.length co73, .string t579] 52 (0, 0)) (bf BK580) hb); have n12_ := Aside0.mk (blk_below (g := gb586) (o := .cells #[.int .i64 t581, .slice Ao83 t582.length co83, .string t585] 52 (0, 0)) (bf BK586) hb); have n13_ := Aside0.mk (blk_below (g := gb623) (o := .cells #[.int .i64 t618, .slice Ao143 t619.length co143, .string t622] 52 (0, 0)) (by (with_reducible repeat (first | refine blk_drewN ?_ _ | refine blk_drew ?_ | refine blk_alloc ?_ _)); refine blk_put (cs := #[.int .i64 t618, .slice Ao143 t619.length co143, .string (⟨#[]⟩ : ByteArray)]) ?_ 2 _ rfl; (with_reducible repeat (first | refine blk_drewN ?_ _ | refine blk_drew ?_ | refine blk_alloc ?_ _)); refine blk_put (cs := #[.int .i64 t618, .slice none 0 0, .string (⟨#[]⟩ : ByteArray)]) ?_ 1 _ rfl; (with_reducible repeat (first | refine blk_drewN ?_ _ | refine blk_drew ?_ | refine blk_alloc ?_ _)); refine blk_put (cs := #[.int .i64 0, .slice none 0 0, .string (⟨#[]⟩ : ByteArray)]) ?_ 0 _ rfl; (with_reducible repeat (first | refine blk_drewN ?_ _ | refine blk_drew ?_ | refine blk_alloc ?_ _)); exact BK623.out) hb); have n14_ := Aside0.mk (below_step bl hb); clear HO_569001; clear HO_575001; clear HO_581001; clear HO_587001; clear HO611; clear HO616; clear HO621; clear BK549; clear BK550; clear BK568; clear BK574; clear BK580; clear BK586; clear BK623; clear HB; have HO_569001 := n0_; have HO_575001 := n1_; have HO_581001 := n2_; have HO_587001 := n3_; have HO611 := n4_; have HO616 := n5_; have HO621 := n6_; have BK549 := n7_; have BK550 := n8_; have BK568 := n9_; have BK574 := n10_; have BK580 := n11_; have BK586 := n12_; have BK623 := n13_; have HB := n14_; clear n0_ n1_ n2_ n3_ n4_ n5_ n6_ n7_ n8_ n9_ n10_ n11_ n12_ n13_ n14_; (try clear hb); (try clear hb2); (try clear hk); (try clear hi); have hcz159_0 : w158.cell? ⟨gb586, 0, none⟩ = some (.int .i64 t581) := (blk_cell BK586.out 0).trans rfl; have hcz159_1 : w158.cell? ⟨gb586, 1, none⟩ = some (.slice Ao83 t582.length co83) := (blk_cell BK586.out 1).trans rfl; have hcz159_2 : w158.cell? ⟨gb586, 2, none⟩ = some (.string t585) := (blk_cell BK586.out 2).trans rfl; have hfz159_0 := blk_frozen BK586.out 0; have hfz159_1 := blk_frozen BK586.out 1; have hfz159_2 := blk_frozen BK586.out 2) | ((with_reducible refine gate_callee (f := 58) rfl ?_); refine goesL_ (some 86) rfl rfl Tryd.func58 (by kernel_rfl) rfl #[.agg #[.int .i64 t581, .slice Ao83 t606.length co83, .string t585], .int .i64 1] rfl (by (try simp only [List.map_toArray, List.map_cons, List.map_nil]); first | done | (rw [show t606.length = t582.length from (Kd.R_reads' HO_587001.out).1.symm] <;> rfl) | rfl | (simp only [List.length_drop, List.length_take]; rfl)) ?_; (with_reducible refine (laws_heldResp.calls kj34 t581 _ _ t606 t585 1 t625 _ ?side1 ?side2 A122.out).mono ?_); (case side1 => repeat (first | exact (Kd.R_reads' HO_587001.out).2.2 | (with_reducible refine Kd.C_alloc ?_ _) | (with_reducible refine Kd.C_drewN ?_ _) | (with_reducible refine Kd.C_drew ?_))); (case side2 => rw [show t606.length = t582.length from (Kd.R_reads' HO_587001.out).1.symm]; exact (Kd.R_reads' HO_587001.out).2.1); rintro e w160 ⟨rfl, hb⟩; refine ⟨_, rfl, ?_⟩; replace HO_569001 := kr HO_569001 hb; replace HO_575001 := kr HO_575001 hb; replace HO_581001 := kr HO_581001 hb; replace HO_587001 := kr HO_587001 hb; replace HO611 := kr HO611 hb; replace HO616 := kr HO616 hb; replace HO621 := kr HO621 hb; replace BK549 := kb BK549 hb; replace BK550 := kb BK550 hb; replace BK568 := kb BK568 hb; replace BK574 := kb BK574 hb; replace BK580 := kb BK580 hb; replace BK586 := kb BK586 hb; replace BK623 := kb BK623 hb; replace HB := Aside0.mk (below_step bl hb); (try clear hb); (try clear hb2); (try clear hk); (try clear hi)))
                            go_ret
                            exact ⟨rf, bl⟩
                          · rw [if_neg c124] at H
                            have c124b0 : (t625 == t605) = false := beq_eq_false_iff_ne.mpr c124
                            have c124b1 : (t625 != t605) = true := bne_iff_ne.mpr c124
                            exact absurd (Option.some.inj H) (by rw [ht_]; decide)
                      · replace c121 := Bool.eq_false_iff.mpr c121
                        subst c121
                        have H1 : (some false) = some r := by rw [if_neg (show ¬ (false = true) by decide)] at H; exact H
                        clear H
                        have H := H1
                        clear H1
                        exact absurd (Option.some.inj H) (by rw [ht_]; decide)
                    · rw [if_neg c116] at H
                      have c116b0 : (t607 == t605) = false := beq_eq_false_iff_ne.mpr c116
                      have c116b1 : (t607 != t605) = true := bne_iff_ne.mpr c116
                      exact absurd (Option.some.inj H) (by rw [ht_]; decide)
          · replace c32 := Bool.eq_false_iff.mpr c32
            subst c32
            have H1 : (some false) = some r := by rw [if_neg (show ¬ (false = true) by decide)] at H; exact H
            clear H
            have H := H1
            clear H1
            exact absurd (Option.some.inj H) (by rw [ht_]; decide)
        · replace c29 := Bool.eq_false_iff.mpr c29
          subst c29
          have H1 : (some false) = some r := by rw [if_neg (show ¬ (false = true) by decide)] at H; exact H
          clear H
          have H := H1
          clear H1
          exact absurd (Option.some.inj H) (by rw [ht_]; decide)
      · replace c26 := Bool.eq_false_iff.mpr c26
        subst c26
        have H1 : (some false) = some r := by rw [if_neg (show ¬ (false = true) by decide)] at H; exact H
        clear H
        have H := H1
        clear H1
        exact absurd (Option.some.inj H) (by rw [ht_]; decide)

end Go.Proofs.YtogdmlgbdbgpkaaDoor.All
