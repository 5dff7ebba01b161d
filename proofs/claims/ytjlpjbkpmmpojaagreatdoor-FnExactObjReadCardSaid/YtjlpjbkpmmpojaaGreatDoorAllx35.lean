-- Written by a program of this session (wip/tools/hprint.py) out of the translation. Lean checks it.
import Derived.Test.YtjlpjbkpmmpojaaGreatDoorAllx0
import Derived.Test.YtjlpjbkpmmpojaaGreatDoorAllx31
import Derived.Test.YtjlpjbkpmmpojaaGreatDoorAllx32
import Derived.Test.YtjlpjbkpmmpojaaGreatDoorAllx33
import Derived.Test.YtjlpjbkpmmpojaaGreatDoorAllx34
namespace Go.Proofs.YtjlpjbkpmmpojaaGreatDoor.All
open Go.RowKit Go.Proofs.YtjlpjbkpmmpojaaGreatDoorW.PrintWords Go.Proofs.YtjlpjbkpmmpojaaGreatDoorW.PrintLast Go.Proofs.YtjlpjbkpmmpojaaGreatDoorW.PrintMore
attribute [local go_sem] max2_int min2_int max_two min_two max_three min_three max_four min_four   -- for this text's walks alone
set_option linter.unusedVariables false
set_option linter.unusedSimpArgs false

/-! ### laws_FnExactObjRead: function 6 -/
theorem u6HB {p : Prop} (h : p := by repeat (first | (with_reducible first | exact HB.out | apply below_alloc | apply pw_below_drewN | apply below_drew1 | refine below_set ?_ GE1522.out | refine below_set ?_ GE1537.out | refine below_set ?_ GE1558.out) | exact HB.out)) : p := h
mutual
def laws_FnExactObjRead.j0 : Nat → ByteArray → Bool → Bool → ByteArray → List ByteArray → List ByteArray → Int → List (S116) → ByteArray → Int → ByteArray → List ByteArray → List ByteArray → Int → List (S116) → ByteArray → Int → Option (Bool)
 | 0, _, _, _, _, _, _, _, _, _, _, _, _, _, _, _, _, _ => none
 | k + 1, x0, x4, x32, x1523000, x1523001, x1523002, x1523003, x1523004, x1523005, x1523006, x1538000, x1538001, x1538002, x1538003, x1538004, x1538005, x1538006 => if x32 = true then (some false) else ((laws_markObj.f k x1538000 x1538001 x1538002 x1538003 x1538004 x1538005 x1538006 1).bind fun bt1539 => ((laws_heldObj.f k x1538000 bt1539.2.1 bt1539.2.2.1 x1538003 bt1539.2.2.2 x1538005 x1538006 1).bind fun t1543 => (if t1543 < 0 then (some false) else (if t1543 = bt1539.1 then ((impl_ObjRead.f k x0).bind fun bt1544 => ((laws_eqObj.f k bt1544.1 bt1544.2.1 bt1544.2.2.1 bt1544.2.2.2.1 bt1544.2.2.2.2.1 bt1544.2.2.2.2.2.1 bt1544.2.2.2.2.2.2.1 x1523000 x1523001 x1523002 x1523003 x1523004 x1523005 x1523006).bind fun t1559 => (if t1559 = true then (laws_FnExactObjRead.j1 k bt1539.1 (bt1544.2.2.2.2.2.2.2 != x4) x1538000 bt1539.2.1 bt1539.2.2.1 x1538003 bt1539.2.2.2 x1538005 x1538006) else (laws_FnExactObjRead.j1 k bt1539.1 true x1538000 bt1539.2.1 bt1539.2.2.1 x1538003 bt1539.2.2.2 x1538005 x1538006)))) else (some false)))))
def laws_FnExactObjRead.j1 : Nat → Int → Bool → ByteArray → List ByteArray → List ByteArray → Int → List (S116) → ByteArray → Int → Option (Bool)
 | 0, _, _, _, _, _, _, _, _, _ => none
 | k + 1, x7, x57, x1538000, x1538001, x1538002, x1538003, x1538004, x1538005, x1538006 => if x57 = true then (some false) else ((laws_heldObj.f k x1538000 x1538001 x1538002 x1538003 x1538004 x1538005 x1538006 1).bind fun t1560 => (if t1560 < 0 then (some false) else (if t1560 = x7 then (some true) else (some false))))
end
def laws_FnExactObjRead.f (k : Nat) (a0 : ByteArray) : Option (Bool) := if (a0.size : Int) > 1048576 then (some true) else ((spec_ObjRead.f k a0).bind fun bt1508 => ((impl_ObjRead.f k a0).bind fun bt1523 => ((laws_eqObj.f k bt1523.1 bt1523.2.1 bt1523.2.2.1 bt1523.2.2.2.1 bt1523.2.2.2.2.1 bt1523.2.2.2.2.2.1 bt1523.2.2.2.2.2.2.1 bt1508.1 bt1508.2.1 bt1508.2.2.1 bt1508.2.2.2.1 bt1508.2.2.2.2.1 bt1508.2.2.2.2.2.1 bt1508.2.2.2.2.2.2.1).bind fun t1538 => (if t1538 = true then (laws_FnExactObjRead.j0 k a0 bt1508.2.2.2.2.2.2.2 (bt1523.2.2.2.2.2.2.2 != bt1508.2.2.2.2.2.2.2) bt1508.1 bt1508.2.1 bt1508.2.2.1 bt1508.2.2.2.1 bt1508.2.2.2.2.1 bt1508.2.2.2.2.2.1 bt1508.2.2.2.2.2.2.1 bt1523.1 bt1523.2.1 bt1523.2.2.1 bt1523.2.2.2.1 bt1523.2.2.2.2.1 bt1523.2.2.2.2.2.1 bt1523.2.2.2.2.2.2.1) else (laws_FnExactObjRead.j0 k a0 bt1508.2.2.2.2.2.2.2 true bt1508.1 bt1508.2.1 bt1508.2.2.1 bt1508.2.2.2.1 bt1508.2.2.2.2.1 bt1508.2.2.2.2.2.1 bt1508.2.2.2.2.2.2.1 bt1523.1 bt1523.2.1 bt1523.2.2.1 bt1523.2.2.2.1 bt1523.2.2.2.2.1 bt1523.2.2.2.2.2.1 bt1523.2.2.2.2.2.2.1)))))
theorem laws_FnExactObjRead.mono_l : ∀ k, (∀ y0 y1 y2 y3 y4 y5 y6 y7 y8 y9 y10 y11 y12 y13 y14 y15 y16, LeO (laws_FnExactObjRead.j0 k y0 y1 y2 y3 y4 y5 y6 y7 y8 y9 y10 y11 y12 y13 y14 y15 y16) (laws_FnExactObjRead.j0 (k + 1) y0 y1 y2 y3 y4 y5 y6 y7 y8 y9 y10 y11 y12 y13 y14 y15 y16)) ∧ (∀ y0 y1 y2 y3 y4 y5 y6 y7 y8, LeO (laws_FnExactObjRead.j1 k y0 y1 y2 y3 y4 y5 y6 y7 y8) (laws_FnExactObjRead.j1 (k + 1) y0 y1 y2 y3 y4 y5 y6 y7 y8))
 | 0 => ⟨fun _ _ _ _ _ _ _ _ _ _ _ _ _ _ _ _ _ r h => by simp [laws_FnExactObjRead.j0] at h, fun _ _ _ _ _ _ _ _ _ r h => by simp [laws_FnExactObjRead.j1] at h⟩
 | k + 1 => by
  obtain ⟨ih0, ih1⟩ := laws_FnExactObjRead.mono_l k
  refine ⟨?_, ?_⟩
  ·intro y0 y1 y2 y3 y4 y5 y6 y7 y8 y9 y10 y11 y12 y13 y14 y15 y16
   unfold laws_FnExactObjRead.j0
   have m0 := @impl_ObjRead.mono
   have m1 := @laws_eqObj.mono
   have m2 := @laws_heldObj.mono
   have m3 := @laws_markObj.mono
   have m4 := @spec_ObjRead.mono
   exact mo
  ·intro y0 y1 y2 y3 y4 y5 y6 y7 y8
   unfold laws_FnExactObjRead.j1
   have m0 := @impl_ObjRead.mono
   have m1 := @laws_eqObj.mono
   have m2 := @laws_heldObj.mono
   have m3 := @laws_markObj.mono
   have m4 := @spec_ObjRead.mono
   exact mo
theorem laws_FnExactObjRead.mono : ∀ a0 k, LeO (laws_FnExactObjRead.f k a0) (laws_FnExactObjRead.f (k + 1) a0) := by
 intro a0 k
 obtain ⟨ih0, ih1⟩ := laws_FnExactObjRead.mono_l k
 unfold laws_FnExactObjRead.f
 have m0 := @impl_ObjRead.mono
 have m1 := @laws_eqObj.mono
 have m2 := @laws_heldObj.mono
 have m3 := @laws_markObj.mono
 have m4 := @spec_ObjRead.mono
 exact mo
set_option maxHeartbeats 8000000 in
set_option maxRecDepth 100000 in
theorem laws_FnExactObjRead.calls (k : Nat) (a0 : ByteArray) (r : Bool) (w : World) (hGE : GLOBE w) (hGM : GLOBM w) (hGT : GLOBT w) (ht_ : r = true) (h : laws_FnExactObjRead.f k a0 = some r) :
  Calls Tryz.prog 6 #[.string a0] w fun e w' => e = .returned (.bool r) ∧ Below w.heap.size w w' := by
 have hu31 := Tryz.underlying31
 have HGE := am hGE
 clear hGE
 have HGM := am hGM
 clear hGM
 have HGT := am hGT
 clear hGT
 have HB := am (Below.refl w.heap.size w)
 unfold laws_FnExactObjRead.f at h
 have H := h
 clear h
 by_cases c2 : (a0.size : Int) > 1048576
 ·rw [if_pos c2] at H
  have c2b0 := decide_eq_true c2
  have c2b1 : decide (1048576 < a0.size) = true := decide_eq_true (by omega)
  clear c2
  obtain rfl := Option.some.inj H
  go_enter Tryz.func6, Tryz.ntmps6
  go_wp2
  go_ret
  exact ⟨rf, bl⟩
 rw [if_neg c2] at H
 have c2b0 := decide_eq_false c2
 have c2b1 : decide (1048576 < a0.size) = false := decide_eq_false (by omega)
 clear c2
 revert H
 refine ok8 fun t1508 t1509 t1512 t1515 t1516 t1519 t1520 t1521 A3 H => ?_
 (try dsimp only at H)
 revert H
 refine ok8 fun t1523 t1524 t1527 t1530 t1531 t1534 t1535 t1536 A4 H => ?_
 (try dsimp only at H)
 have HC5 := am H
 clear H
 go_enter Tryz.func6, Tryz.ntmps6
 go_upto_region 5 with ((with_reducible refine gw ?_); first | (refine gl 16 Tryz.func37 #[.string a0] ?_; (with_reducible refine (spec_ObjRead.calls k a0 t1508 t1509 t1512 t1515 t1516 t1519 t1520 t1521 _ A3.out).mono ?_); rintro e w6 ⟨v1510, v1513, v1517, rfl, ho0, ho1, ho2, hb⟩; refine ⟨_, rfl, ?_⟩; have HO1511 := am (Kd.R_lower ho0 (below_size bl)); have HO1514 := am (Kd.R_lower ho1 (below_size bl)); have HO1518 := am (Kd.R_lower ho2 (below_size bl)); replace HB := am (below_step bl hb); clear hb ho0 ho1 ho2) | (refine bx 3 #[.string (⟨#[]⟩ : ByteArray), .slice none 0 0, .slice none 0 0, .int .i64 0, .slice none 0 0, .string (⟨#[]⟩ : ByteArray), .int .i64 0] 31 ?_; intro gb1522 hg w7 hbox hb; replace HO1511 := am (Kd.R_below (ro HO1511) hb); replace HO1514 := am (Kd.R_below (ro HO1514) hb); replace HO1518 := am (Kd.R_below (ro HO1518) hb); have BK1522 := am (hbox); have GW1522 := am (sz hg : w.heap.size ≤ gb1522); have GE1522 := am (sz hg : w.heap.size ≤ gb1522); replace HB := am (below_step bl hb); clear hb hbox hg; obtain ⟨z8_0, y8_0, z8_1, y8_1, z8_2, y8_2, z8_3, y8_3, z8_4, y8_4, z8_5, y8_5, z8_6, y8_6⟩ := cl7 BK1522; obtain ⟨Ao9, co9, eo9⟩ := Kd.R_slice HO1511.out; subst eo9; obtain ⟨Ao10, co10, eo10⟩ := Kd.R_slice HO1514.out; subst eo10; obtain ⟨Ao11, co11, eo11⟩ := Kd.R_slice HO1518.out; subst eo11) | (refine gl 21 Tryz.func38 #[.string a0] ?_; (with_reducible refine (impl_ObjRead.calls k a0 t1523 t1524 t1527 t1530 t1531 t1534 t1535 t1536 _ ?side1 ?side2 ?side3 A4.out).mono ?_); (case side1 => exact GLOBE.below HGE.out bl); (case side2 => exact GLOBM.below HGM.out bl); (case side3 => exact GLOBT.below HGT.out bl); rintro e w12 ⟨v1525, v1528, v1532, rfl, ho0, ho1, ho2, hb⟩; refine ⟨_, rfl, ?_⟩; have n0_ := am (Kd.R_mono (Kd.R_told (Kd.R_told (Kd.R_old (by (with_reducible repeat (first | apply Kd.R_alloc | apply Kd.R_drewN | apply Kd.R_drew)); exact (Kd.R_mono (Kd.R_far (p := ⟨gb1522, 6, none⟩) (Kd.R_far (p := ⟨gb1522, 5, none⟩) (Kd.R_far (p := ⟨gb1522, 4, none⟩) (Kd.R_far (p := ⟨gb1522, 3, none⟩) (Kd.R_far (p := ⟨gb1522, 2, none⟩) (Kd.R_far (p := ⟨gb1522, 1, none⟩) (Kd.R_far (p := ⟨gb1522, 0, none⟩) (Kd.R_types HO1511.out BK1522.out (by decide)) (fun _ hk => hk.2) (.string t1508)) (fun _ hk => hk.2) (.slice Ao9 t1509.length co9)) (fun _ hk => hk.2) (.slice Ao10 t1512.length co10)) (fun _ hk => hk.2) (.int .i64 t1515)) (fun _ hk => hk.2) (.slice Ao11 t1516.length co11)) (fun _ hk => hk.2) (.string t1519)) (fun _ hk => hk.2) (.int .i64 t1520)) (fun _ h_ => h_.1))) hb) (Kd.R_base ho0)) (Kd.R_base ho1)) (fun _ h_ => h_.1)); have n1_ := am (Kd.R_mono (Kd.R_told (Kd.R_told (Kd.R_old (by (with_reducible repeat (first | apply Kd.R_alloc | apply Kd.R_drewN | apply Kd.R_drew)); exact (Kd.R_mono (Kd.R_far (p := ⟨gb1522, 6, none⟩) (Kd.R_far (p := ⟨gb1522, 5, none⟩) (Kd.R_far (p := ⟨gb1522, 4, none⟩) (Kd.R_far (p := ⟨gb1522, 3, none⟩) (Kd.R_far (p := ⟨gb1522, 2, none⟩) (Kd.R_far (p := ⟨gb1522, 1, none⟩) (Kd.R_far (p := ⟨gb1522, 0, none⟩) (Kd.R_types HO1514.out BK1522.out (by decide)) (fun _ hk => hk.2) (.string t1508)) (fun _ hk => hk.2) (.slice Ao9 t1509.length co9)) (fun _ hk => hk.2) (.slice Ao10 t1512.length co10)) (fun _ hk => hk.2) (.int .i64 t1515)) (fun _ hk => hk.2) (.slice Ao11 t1516.length co11)) (fun _ hk => hk.2) (.string t1519)) (fun _ hk => hk.2) (.int .i64 t1520)) (fun _ h_ => h_.1))) hb) (Kd.R_base ho0)) (Kd.R_base ho1)) (fun _ h_ => h_.1)); have n2_ := am (Kd.R_elder' (by (with_reducible repeat (first | apply Kd.R_alloc | apply Kd.R_drewN | apply Kd.R_drew)); exact (Kd.R_mono (Kd.R_far (p := ⟨gb1522, 6, none⟩) (Kd.R_far (p := ⟨gb1522, 5, none⟩) (Kd.R_far (p := ⟨gb1522, 4, none⟩) (Kd.R_far (p := ⟨gb1522, 3, none⟩) (Kd.R_far (p := ⟨gb1522, 2, none⟩) (Kd.R_far (p := ⟨gb1522, 1, none⟩) (Kd.R_far (p := ⟨gb1522, 0, none⟩) (Kd.R_types HO1518.out BK1522.out (by decide)) (fun _ hk => hk.2) (.string t1508)) (fun _ hk => hk.2) (.slice Ao9 t1509.length co9)) (fun _ hk => hk.2) (.slice Ao10 t1512.length co10)) (fun _ hk => hk.2) (.int .i64 t1515)) (fun _ hk => hk.2) (.slice Ao11 t1516.length co11)) (fun _ hk => hk.2) (.string t1519)) (fun _ hk => hk.2) (.int .i64 t1520)) (fun _ h_ => h_.1))) (Kd.R_base ho2) hb); have n3_ := am (Kd.R_lower (Kd.R_new' (Kd.R_new' ho0 (Kd.R_lt (by (with_reducible repeat (first | apply Kd.R_alloc | apply Kd.R_drewN | apply Kd.R_drew)); exact (Kd.R_mono (Kd.R_far (p := ⟨gb1522, 6, none⟩) (Kd.R_far (p := ⟨gb1522, 5, none⟩) (Kd.R_far (p := ⟨gb1522, 4, none⟩) (Kd.R_far (p := ⟨gb1522, 3, none⟩) (Kd.R_far (p := ⟨gb1522, 2, none⟩) (Kd.R_far (p := ⟨gb1522, 1, none⟩) (Kd.R_far (p := ⟨gb1522, 0, none⟩) (Kd.R_types HO1511.out BK1522.out (by decide)) (fun _ hk => hk.2) (.string t1508)) (fun _ hk => hk.2) (.slice Ao9 t1509.length co9)) (fun _ hk => hk.2) (.slice Ao10 t1512.length co10)) (fun _ hk => hk.2) (.int .i64 t1515)) (fun _ hk => hk.2) (.slice Ao11 t1516.length co11)) (fun _ hk => hk.2) (.string t1519)) (fun _ hk => hk.2) (.int .i64 t1520)) (fun _ h_ => h_.1))))) (Kd.R_lt (by (with_reducible repeat (first | apply Kd.R_alloc | apply Kd.R_drewN | apply Kd.R_drew)); exact (Kd.R_mono (Kd.R_far (p := ⟨gb1522, 6, none⟩) (Kd.R_far (p := ⟨gb1522, 5, none⟩) (Kd.R_far (p := ⟨gb1522, 4, none⟩) (Kd.R_far (p := ⟨gb1522, 3, none⟩) (Kd.R_far (p := ⟨gb1522, 2, none⟩) (Kd.R_far (p := ⟨gb1522, 1, none⟩) (Kd.R_far (p := ⟨gb1522, 0, none⟩) (Kd.R_types HO1514.out BK1522.out (by decide)) (fun _ hk => hk.2) (.string t1508)) (fun _ hk => hk.2) (.slice Ao9 t1509.length co9)) (fun _ hk => hk.2) (.slice Ao10 t1512.length co10)) (fun _ hk => hk.2) (.int .i64 t1515)) (fun _ hk => hk.2) (.slice Ao11 t1516.length co11)) (fun _ hk => hk.2) (.string t1519)) (fun _ hk => hk.2) (.int .i64 t1520)) (fun _ h_ => h_.1))))) (below_size bl)); have n4_ := am (Kd.R_lower (Kd.R_new' (Kd.R_new' ho1 (Kd.R_lt (by (with_reducible repeat (first | apply Kd.R_alloc | apply Kd.R_drewN | apply Kd.R_drew)); exact (Kd.R_mono (Kd.R_far (p := ⟨gb1522, 6, none⟩) (Kd.R_far (p := ⟨gb1522, 5, none⟩) (Kd.R_far (p := ⟨gb1522, 4, none⟩) (Kd.R_far (p := ⟨gb1522, 3, none⟩) (Kd.R_far (p := ⟨gb1522, 2, none⟩) (Kd.R_far (p := ⟨gb1522, 1, none⟩) (Kd.R_far (p := ⟨gb1522, 0, none⟩) (Kd.R_types HO1511.out BK1522.out (by decide)) (fun _ hk => hk.2) (.string t1508)) (fun _ hk => hk.2) (.slice Ao9 t1509.length co9)) (fun _ hk => hk.2) (.slice Ao10 t1512.length co10)) (fun _ hk => hk.2) (.int .i64 t1515)) (fun _ hk => hk.2) (.slice Ao11 t1516.length co11)) (fun _ hk => hk.2) (.string t1519)) (fun _ hk => hk.2) (.int .i64 t1520)) (fun _ h_ => h_.1))))) (Kd.R_lt (by (with_reducible repeat (first | apply Kd.R_alloc | apply Kd.R_drewN | apply Kd.R_drew)); exact (Kd.R_mono (Kd.R_far (p := ⟨gb1522, 6, none⟩) (Kd.R_far (p := ⟨gb1522, 5, none⟩) (Kd.R_far (p := ⟨gb1522, 4, none⟩) (Kd.R_far (p := ⟨gb1522, 3, none⟩) (Kd.R_far (p := ⟨gb1522, 2, none⟩) (Kd.R_far (p := ⟨gb1522, 1, none⟩) (Kd.R_far (p := ⟨gb1522, 0, none⟩) (Kd.R_types HO1514.out BK1522.out (by decide)) (fun _ hk => hk.2) (.string t1508)) (fun _ hk => hk.2) (.slice Ao9 t1509.length co9)) (fun _ hk => hk.2) (.slice Ao10 t1512.length co10)) (fun _ hk => hk.2) (.int .i64 t1515)) (fun _ hk => hk.2) (.slice Ao11 t1516.length co11)) (fun _ hk => hk.2) (.string t1519)) (fun _ hk => hk.2) (.int .i64 t1520)) (fun _ h_ => h_.1))))) (below_size bl)); have n5_ := am (Kd.R_lower (Kd.R_new' ho2 (Kd.R_lt (by (with_reducible repeat (first | apply Kd.R_alloc | apply Kd.R_drewN | apply Kd.R_drew)); exact (Kd.R_mono (Kd.R_far (p := ⟨gb1522, 6, none⟩) (Kd.R_far (p := ⟨gb1522, 5, none⟩) (Kd.R_far (p := ⟨gb1522, 4, none⟩) (Kd.R_far (p := ⟨gb1522, 3, none⟩) (Kd.R_far (p := ⟨gb1522, 2, none⟩) (Kd.R_far (p := ⟨gb1522, 1, none⟩) (Kd.R_far (p := ⟨gb1522, 0, none⟩) (Kd.R_types HO1518.out BK1522.out (by decide)) (fun _ hk => hk.2) (.string t1508)) (fun _ hk => hk.2) (.slice Ao9 t1509.length co9)) (fun _ hk => hk.2) (.slice Ao10 t1512.length co10)) (fun _ hk => hk.2) (.int .i64 t1515)) (fun _ hk => hk.2) (.slice Ao11 t1516.length co11)) (fun _ hk => hk.2) (.string t1519)) (fun _ hk => hk.2) (.int .i64 t1520)) (fun _ h_ => h_.1))))) (below_size bl)); have n6_ := am (blk_below (g := gb1522) (o := .cells #[.string t1508, .slice Ao9 t1509.length co9, .slice Ao10 t1512.length co10, .int .i64 t1515, .slice Ao11 t1516.length co11, .string t1519, .int .i64 t1520] 31 (0, 0)) (pt0 BK1522) hb); have n7_ := am (below_step bl hb); clear HO1511; clear HO1514; clear HO1518; clear BK1522; clear HB; have HO1511 := n0_; have HO1514 := n1_; have HO1518 := n2_; have HO1526 := n3_; have HO1529 := n4_; have HO1533 := n5_; have BK1522 := n6_; have HB := n7_; clear n0_ n1_ n2_ n3_ n4_ n5_ n6_ n7_; clear hb ho0 ho1 ho2) | (refine bx 5 #[.string (⟨#[]⟩ : ByteArray), .slice none 0 0, .slice none 0 0, .int .i64 0, .slice none 0 0, .string (⟨#[]⟩ : ByteArray), .int .i64 0] 31 ?_; intro gb1537 hg w13 hbox hb; replace HO1511 := am (Kd.R_below (ro HO1511) hb); replace HO1514 := am (Kd.R_below (ro HO1514) hb); replace HO1518 := am (Kd.R_below (ro HO1518) hb); replace HO1526 := am (Kd.R_below (ro HO1526) hb); replace HO1529 := am (Kd.R_below (ro HO1529) hb); replace HO1533 := am (Kd.R_below (ro HO1533) hb); have BK1537 := am (hbox); have GW1537 := am (sz hg : w.heap.size ≤ gb1537); have GE1537 := am (sz hg : w.heap.size ≤ gb1537); replace HB := am (below_step bl hb); have NB1522_1537 := am (nl hg BK1522 : gb1522 ≠ gb1537); have NB1537_1522 := am (ng hg BK1522 : gb1537 ≠ gb1522); replace BK1522 := kb BK1522 hb; clear hb hbox hg; have hnb14 := NB1537_1522.out; have hnc14 := NB1522_1537.out; obtain ⟨z15_0, y15_0, z15_1, y15_1, z15_2, y15_2, z15_3, y15_3, z15_4, y15_4, z15_5, y15_5, z15_6, y15_6⟩ := cl7 BK1537; obtain ⟨Ao16, co16, eo16⟩ := Kd.R_slice HO1526.out; subst eo16; obtain ⟨Ao17, co17, eo17⟩ := Kd.R_slice HO1529.out; subst eo17; obtain ⟨Ao18, co18, eo18⟩ := Kd.R_slice HO1533.out; subst eo18))
 (try simp only [Act.put, List.setIfInBounds_toArray, List.set_cons_zero, List.set_cons_succ])
 go_cut [32] (fun v32 wc => ∃ (kq : Nat) (x32_4 : Bool), v32 = .bool x32_4 ∧ Aside0 (laws_FnExactObjRead.j0 kq a0 t1521 x32_4 t1508 t1509 t1512 t1515 t1516 t1519 t1520 t1523 t1524 t1527 t1530 t1531 t1534 t1535 = some r) ∧ Aside0 (kq ≤ k) ∧ Aside0 (Kd.R Kd.string 9 wc w.heap.size (fun k_ => some k_ ≠ ((.slice Ao10 t1512.length co10) : Value).ownBlock ∧ some k_ ≠ ((.slice Ao16 t1524.length co16) : Value).ownBlock ∧ some k_ ≠ ((.slice Ao17 t1527.length co17) : Value).ownBlock) (.slice Ao9 t1509.length co9) t1509) ∧ Aside0 (Kd.R Kd.string 9 wc w.heap.size (fun k_ => some k_ ≠ ((.slice Ao9 t1509.length co9) : Value).ownBlock ∧ some k_ ≠ ((.slice Ao16 t1524.length co16) : Value).ownBlock ∧ some k_ ≠ ((.slice Ao17 t1527.length co17) : Value).ownBlock) (.slice Ao10 t1512.length co10) t1512) ∧ Aside0 (Kd.R k116 116 wc w.heap.size (fun k_ => some k_ ≠ ((.slice Ao18 t1531.length co18) : Value).ownBlock) (.slice Ao11 t1516.length co11) t1516) ∧ Aside0 (Kd.R Kd.string 9 wc w.heap.size (fun k_ => some k_ ≠ ((.slice Ao9 t1509.length co9) : Value).ownBlock ∧ some k_ ≠ ((.slice Ao10 t1512.length co10) : Value).ownBlock ∧ some k_ ≠ ((.slice Ao17 t1527.length co17) : Value).ownBlock) (.slice Ao16 t1524.length co16) t1524) ∧ Aside0 (Kd.R Kd.string 9 wc w.heap.size (fun k_ => some k_ ≠ ((.slice Ao9 t1509.length co9) : Value).ownBlock ∧ some k_ ≠ ((.slice Ao10 t1512.length co10) : Value).ownBlock ∧ some k_ ≠ ((.slice Ao16 t1524.length co16) : Value).ownBlock) (.slice Ao17 t1527.length co17) t1527) ∧ Aside0 (Kd.R k116 116 wc w.heap.size (fun k_ => some k_ ≠ ((.slice Ao11 t1516.length co11) : Value).ownBlock) (.slice Ao18 t1531.length co18) t1531) ∧ Aside0 (wc.heap[gb1522]? = some (.cells #[.string t1508, (.slice Ao9 t1509.length co9), (.slice Ao10 t1512.length co10), .int .i64 t1515, (.slice Ao11 t1516.length co11), .string t1519, .int .i64 t1520] 31 (0, 0))) ∧ Aside0 (wc.heap[gb1537]? = some (.cells #[.string t1523, (.slice Ao16 t1524.length co16), (.slice Ao17 t1527.length co17), .int .i64 t1530, (.slice Ao18 t1531.length co18), .string t1534, .int .i64 t1535] 31 (0, 0))) ∧ Aside0 (Below w.heap.size w wc))
 case first =>
  have H := HC5.out
  clear HC5
  revert H
  refine ok1 fun t1538 A19 H => ?_
  by_cases c20 : t1538 = true
  rotate_left
  ·replace c20 := Bool.eq_false_iff.mpr c20
   subst c20
   rw [if_neg (show ¬ (false = true) by decide)] at H
   cases k with
   | zero => exact absurd H (by simp [laws_FnExactObjRead.j0])
   | succ k_ => simp only [laws_FnExactObjRead.j0, if_true] at H; exact absurd (Option.some.inj H) (by rw [ht_]; decide)
  subst c20
  rw [if_pos rfl] at H
  have H' := am H
  clear H
  have hnb21 := NB1537_1522.out
  have hnc21 := NB1522_1537.out
  obtain ⟨z22_0, y22_0, z22_1, y22_1, z22_2, y22_2, z22_3, y22_3, z22_4, y22_4, z22_5, y22_5, z22_6, y22_6⟩ := cl7 BK1537
  obtain ⟨z23_0, y23_0, z23_1, y23_1, z23_2, y23_2, z23_3, y23_3, z23_4, y23_4, z23_5, y23_5, z23_6, y23_6⟩ := cl7 BK1522
  go_wp2_with ((with_reducible refine gw ?_); first | (refine gl 26 Tryz.func39 #[.agg #[.string t1523, .slice Ao16 t1524.length co16, .slice Ao17 t1527.length co17, .int .i64 t1530, .slice Ao18 t1531.length co18, .string t1534, .int .i64 t1535], .agg #[.string t1508, .slice Ao9 t1509.length co9, .slice Ao10 t1512.length co10, .int .i64 t1515, .slice Ao11 t1516.length co11, .string t1519, .int .i64 t1520]] ?_; (with_reducible refine (laws_eqObj.calls k t1523 _ _ t1524 _ _ t1527 t1530 _ _ t1531 t1534 t1535 t1508 _ _ t1509 _ _ t1512 t1515 _ _ t1516 t1519 t1520 true _ ?side1 ?side2 ?side3 ?side4 ?side5 ?side6 ?side7 ?side8 ?side9 ?side10 ?side11 ?side12 A19.out).mono ?_); (case side1 => refine (Kd.R_reads' (e := 9) (base := w.heap.size) (ok := fun k_ => ((some k_ ≠ (.slice Ao17 t1527.length co17 : Value).ownBlock ∧ some k_ ≠ (.slice Ao9 t1509.length co9 : Value).ownBlock) ∧ some k_ ≠ (.slice Ao10 t1512.length co10 : Value).ownBlock)) (n := t1524.length) (c := co16) ?_).2.2; exact (by (with_reducible repeat (first | apply Kd.R_alloc | apply Kd.R_drewN | apply Kd.R_drew)); exact (Kd.R_mono (Kd.R_far (p := ⟨gb1537, 6, none⟩) (Kd.R_far (p := ⟨gb1537, 5, none⟩) (Kd.R_far (p := ⟨gb1537, 4, none⟩) (Kd.R_far (p := ⟨gb1537, 3, none⟩) (Kd.R_far (p := ⟨gb1537, 2, none⟩) (Kd.R_far (p := ⟨gb1537, 1, none⟩) (Kd.R_far (p := ⟨gb1537, 0, none⟩) (Kd.R_types HO1526.out BK1537.out (by decide)) (fun _ hk => hk.2) (.string t1523)) (fun _ hk => hk.2) (.slice Ao16 t1524.length co16)) (fun _ hk => hk.2) (.slice Ao17 t1527.length co17)) (fun _ hk => hk.2) (.int .i64 t1530)) (fun _ hk => hk.2) (.slice Ao18 t1531.length co18)) (fun _ hk => hk.2) (.string t1534)) (fun _ hk => hk.2) (.int .i64 t1535)) (fun _ h_ => h_.1)))); (case side2 => exact (Kd.R_reads' HO1526.out).2.1); (case side3 => refine (Kd.R_reads' (e := 9) (base := w.heap.size) (ok := fun k_ => ((some k_ ≠ (.slice Ao16 t1524.length co16 : Value).ownBlock ∧ some k_ ≠ (.slice Ao9 t1509.length co9 : Value).ownBlock) ∧ some k_ ≠ (.slice Ao10 t1512.length co10 : Value).ownBlock)) (n := t1527.length) (c := co17) ?_).2.2; exact (by (with_reducible repeat (first | apply Kd.R_alloc | apply Kd.R_drewN | apply Kd.R_drew)); exact (Kd.R_mono (Kd.R_far (p := ⟨gb1537, 6, none⟩) (Kd.R_far (p := ⟨gb1537, 5, none⟩) (Kd.R_far (p := ⟨gb1537, 4, none⟩) (Kd.R_far (p := ⟨gb1537, 3, none⟩) (Kd.R_far (p := ⟨gb1537, 2, none⟩) (Kd.R_far (p := ⟨gb1537, 1, none⟩) (Kd.R_far (p := ⟨gb1537, 0, none⟩) (Kd.R_types HO1529.out BK1537.out (by decide)) (fun _ hk => hk.2) (.string t1523)) (fun _ hk => hk.2) (.slice Ao16 t1524.length co16)) (fun _ hk => hk.2) (.slice Ao17 t1527.length co17)) (fun _ hk => hk.2) (.int .i64 t1530)) (fun _ hk => hk.2) (.slice Ao18 t1531.length co18)) (fun _ hk => hk.2) (.string t1534)) (fun _ hk => hk.2) (.int .i64 t1535)) (fun _ h_ => h_.1)))); (case side4 => exact (Kd.R_reads' HO1529.out).2.1); (case side5 => refine (Kd.R_reads' (e := 116) (base := w.heap.size) (ok := fun k_ => (True ∧ some k_ ≠ (.slice Ao11 t1516.length co11 : Value).ownBlock)) (n := t1531.length) (c := co18) ?_).2.2; exact (by (with_reducible repeat (first | apply Kd.R_alloc | apply Kd.R_drewN | apply Kd.R_drew)); exact (Kd.R_mono (Kd.R_far (p := ⟨gb1537, 6, none⟩) (Kd.R_far (p := ⟨gb1537, 5, none⟩) (Kd.R_far (p := ⟨gb1537, 4, none⟩) (Kd.R_far (p := ⟨gb1537, 3, none⟩) (Kd.R_far (p := ⟨gb1537, 2, none⟩) (Kd.R_far (p := ⟨gb1537, 1, none⟩) (Kd.R_far (p := ⟨gb1537, 0, none⟩) (Kd.R_types HO1533.out BK1537.out (by decide)) (fun _ hk => hk.2) (.string t1523)) (fun _ hk => hk.2) (.slice Ao16 t1524.length co16)) (fun _ hk => hk.2) (.slice Ao17 t1527.length co17)) (fun _ hk => hk.2) (.int .i64 t1530)) (fun _ hk => hk.2) (.slice Ao18 t1531.length co18)) (fun _ hk => hk.2) (.string t1534)) (fun _ hk => hk.2) (.int .i64 t1535)) (fun _ h_ => h_.1)))); (case side6 => exact (Kd.R_reads' HO1533.out).2.1); (case side7 => refine (Kd.R_reads' (e := 9) (base := w.heap.size) (ok := fun k_ => ((some k_ ≠ (.slice Ao10 t1512.length co10 : Value).ownBlock ∧ some k_ ≠ (.slice Ao16 t1524.length co16 : Value).ownBlock) ∧ some k_ ≠ (.slice Ao17 t1527.length co17 : Value).ownBlock)) (n := t1509.length) (c := co9) ?_).2.2; exact (by (with_reducible repeat (first | apply Kd.R_alloc | apply Kd.R_drewN | apply Kd.R_drew)); exact (Kd.R_mono (Kd.R_far (p := ⟨gb1537, 6, none⟩) (Kd.R_far (p := ⟨gb1537, 5, none⟩) (Kd.R_far (p := ⟨gb1537, 4, none⟩) (Kd.R_far (p := ⟨gb1537, 3, none⟩) (Kd.R_far (p := ⟨gb1537, 2, none⟩) (Kd.R_far (p := ⟨gb1537, 1, none⟩) (Kd.R_far (p := ⟨gb1537, 0, none⟩) (Kd.R_types HO1511.out BK1537.out (by decide)) (fun _ hk => hk.2) (.string t1523)) (fun _ hk => hk.2) (.slice Ao16 t1524.length co16)) (fun _ hk => hk.2) (.slice Ao17 t1527.length co17)) (fun _ hk => hk.2) (.int .i64 t1530)) (fun _ hk => hk.2) (.slice Ao18 t1531.length co18)) (fun _ hk => hk.2) (.string t1534)) (fun _ hk => hk.2) (.int .i64 t1535)) (fun _ h_ => h_.1)))); (case side8 => exact (Kd.R_reads' HO1511.out).2.1); (case side9 => refine (Kd.R_reads' (e := 9) (base := w.heap.size) (ok := fun k_ => ((some k_ ≠ (.slice Ao9 t1509.length co9 : Value).ownBlock ∧ some k_ ≠ (.slice Ao16 t1524.length co16 : Value).ownBlock) ∧ some k_ ≠ (.slice Ao17 t1527.length co17 : Value).ownBlock)) (n := t1512.length) (c := co10) ?_).2.2; exact (by (with_reducible repeat (first | apply Kd.R_alloc | apply Kd.R_drewN | apply Kd.R_drew)); exact (Kd.R_mono (Kd.R_far (p := ⟨gb1537, 6, none⟩) (Kd.R_far (p := ⟨gb1537, 5, none⟩) (Kd.R_far (p := ⟨gb1537, 4, none⟩) (Kd.R_far (p := ⟨gb1537, 3, none⟩) (Kd.R_far (p := ⟨gb1537, 2, none⟩) (Kd.R_far (p := ⟨gb1537, 1, none⟩) (Kd.R_far (p := ⟨gb1537, 0, none⟩) (Kd.R_types HO1514.out BK1537.out (by decide)) (fun _ hk => hk.2) (.string t1523)) (fun _ hk => hk.2) (.slice Ao16 t1524.length co16)) (fun _ hk => hk.2) (.slice Ao17 t1527.length co17)) (fun _ hk => hk.2) (.int .i64 t1530)) (fun _ hk => hk.2) (.slice Ao18 t1531.length co18)) (fun _ hk => hk.2) (.string t1534)) (fun _ hk => hk.2) (.int .i64 t1535)) (fun _ h_ => h_.1)))); (case side10 => exact (Kd.R_reads' HO1514.out).2.1); (case side11 => refine (Kd.R_reads' (e := 116) (base := w.heap.size) (ok := fun k_ => (True ∧ some k_ ≠ (.slice Ao18 t1531.length co18 : Value).ownBlock)) (n := t1516.length) (c := co11) ?_).2.2; exact (by (with_reducible repeat (first | apply Kd.R_alloc | apply Kd.R_drewN | apply Kd.R_drew)); exact (Kd.R_mono (Kd.R_far (p := ⟨gb1537, 6, none⟩) (Kd.R_far (p := ⟨gb1537, 5, none⟩) (Kd.R_far (p := ⟨gb1537, 4, none⟩) (Kd.R_far (p := ⟨gb1537, 3, none⟩) (Kd.R_far (p := ⟨gb1537, 2, none⟩) (Kd.R_far (p := ⟨gb1537, 1, none⟩) (Kd.R_far (p := ⟨gb1537, 0, none⟩) (Kd.R_types HO1518.out BK1537.out (by decide)) (fun _ hk => hk.2) (.string t1523)) (fun _ hk => hk.2) (.slice Ao16 t1524.length co16)) (fun _ hk => hk.2) (.slice Ao17 t1527.length co17)) (fun _ hk => hk.2) (.int .i64 t1530)) (fun _ hk => hk.2) (.slice Ao18 t1531.length co18)) (fun _ hk => hk.2) (.string t1534)) (fun _ hk => hk.2) (.int .i64 t1535)) (fun _ h_ => h_.1)))); (case side12 => exact (Kd.R_reads' HO1518.out).2.1); rintro e w24 ⟨rfl, hb⟩; refine ⟨_, rfl, ?_⟩; have n0_ := am (Kd.R_below (by (with_reducible repeat (first | apply Kd.R_alloc | apply Kd.R_drewN | apply Kd.R_drew)); exact (Kd.R_mono (Kd.R_far (p := ⟨gb1537, 6, none⟩) (Kd.R_far (p := ⟨gb1537, 5, none⟩) (Kd.R_far (p := ⟨gb1537, 4, none⟩) (Kd.R_far (p := ⟨gb1537, 3, none⟩) (Kd.R_far (p := ⟨gb1537, 2, none⟩) (Kd.R_far (p := ⟨gb1537, 1, none⟩) (Kd.R_far (p := ⟨gb1537, 0, none⟩) (Kd.R_types HO1511.out BK1537.out (by decide)) (fun _ hk => hk.2) (.string t1523)) (fun _ hk => hk.2) (.slice Ao16 t1524.length co16)) (fun _ hk => hk.2) (.slice Ao17 t1527.length co17)) (fun _ hk => hk.2) (.int .i64 t1530)) (fun _ hk => hk.2) (.slice Ao18 t1531.length co18)) (fun _ hk => hk.2) (.string t1534)) (fun _ hk => hk.2) (.int .i64 t1535)) (fun _ h_ => h_.1))) hb); have n1_ := am (Kd.R_below (by (with_reducible repeat (first | apply Kd.R_alloc | apply Kd.R_drewN | apply Kd.R_drew)); exact (Kd.R_mono (Kd.R_far (p := ⟨gb1537, 6, none⟩) (Kd.R_far (p := ⟨gb1537, 5, none⟩) (Kd.R_far (p := ⟨gb1537, 4, none⟩) (Kd.R_far (p := ⟨gb1537, 3, none⟩) (Kd.R_far (p := ⟨gb1537, 2, none⟩) (Kd.R_far (p := ⟨gb1537, 1, none⟩) (Kd.R_far (p := ⟨gb1537, 0, none⟩) (Kd.R_types HO1514.out BK1537.out (by decide)) (fun _ hk => hk.2) (.string t1523)) (fun _ hk => hk.2) (.slice Ao16 t1524.length co16)) (fun _ hk => hk.2) (.slice Ao17 t1527.length co17)) (fun _ hk => hk.2) (.int .i64 t1530)) (fun _ hk => hk.2) (.slice Ao18 t1531.length co18)) (fun _ hk => hk.2) (.string t1534)) (fun _ hk => hk.2) (.int .i64 t1535)) (fun _ h_ => h_.1))) hb); have n2_ := am (Kd.R_below (by (with_reducible repeat (first | apply Kd.R_alloc | apply Kd.R_drewN | apply Kd.R_drew)); exact (Kd.R_mono (Kd.R_far (p := ⟨gb1537, 6, none⟩) (Kd.R_far (p := ⟨gb1537, 5, none⟩) (Kd.R_far (p := ⟨gb1537, 4, none⟩) (Kd.R_far (p := ⟨gb1537, 3, none⟩) (Kd.R_far (p := ⟨gb1537, 2, none⟩) (Kd.R_far (p := ⟨gb1537, 1, none⟩) (Kd.R_far (p := ⟨gb1537, 0, none⟩) (Kd.R_types HO1518.out BK1537.out (by decide)) (fun _ hk => hk.2) (.string t1523)) (fun _ hk => hk.2) (.slice Ao16 t1524.length co16)) (fun _ hk => hk.2) (.slice Ao17 t1527.length co17)) (fun _ hk => hk.2) (.int .i64 t1530)) (fun _ hk => hk.2) (.slice Ao18 t1531.length co18)) (fun _ hk => hk.2) (.string t1534)) (fun _ hk => hk.2) (.int .i64 t1535)) (fun _ h_ => h_.1))) hb); have n3_ := am (Kd.R_below (by (with_reducible repeat (first | apply Kd.R_alloc | apply Kd.R_drewN | apply Kd.R_drew)); exact (Kd.R_mono (Kd.R_far (p := ⟨gb1537, 6, none⟩) (Kd.R_far (p := ⟨gb1537, 5, none⟩) (Kd.R_far (p := ⟨gb1537, 4, none⟩) (Kd.R_far (p := ⟨gb1537, 3, none⟩) (Kd.R_far (p := ⟨gb1537, 2, none⟩) (Kd.R_far (p := ⟨gb1537, 1, none⟩) (Kd.R_far (p := ⟨gb1537, 0, none⟩) (Kd.R_types HO1526.out BK1537.out (by decide)) (fun _ hk => hk.2) (.string t1523)) (fun _ hk => hk.2) (.slice Ao16 t1524.length co16)) (fun _ hk => hk.2) (.slice Ao17 t1527.length co17)) (fun _ hk => hk.2) (.int .i64 t1530)) (fun _ hk => hk.2) (.slice Ao18 t1531.length co18)) (fun _ hk => hk.2) (.string t1534)) (fun _ hk => hk.2) (.int .i64 t1535)) (fun _ h_ => h_.1))) hb); have n4_ := am (Kd.R_below (by (with_reducible repeat (first | apply Kd.R_alloc | apply Kd.R_drewN | apply Kd.R_drew)); exact (Kd.R_mono (Kd.R_far (p := ⟨gb1537, 6, none⟩) (Kd.R_far (p := ⟨gb1537, 5, none⟩) (Kd.R_far (p := ⟨gb1537, 4, none⟩) (Kd.R_far (p := ⟨gb1537, 3, none⟩) (Kd.R_far (p := ⟨gb1537, 2, none⟩) (Kd.R_far (p := ⟨gb1537, 1, none⟩) (Kd.R_far (p := ⟨gb1537, 0, none⟩) (Kd.R_types HO1529.out BK1537.out (by decide)) (fun _ hk => hk.2) (.string t1523)) (fun _ hk => hk.2) (.slice Ao16 t1524.length co16)) (fun _ hk => hk.2) (.slice Ao17 t1527.length co17)) (fun _ hk => hk.2) (.int .i64 t1530)) (fun _ hk => hk.2) (.slice Ao18 t1531.length co18)) (fun _ hk => hk.2) (.string t1534)) (fun _ hk => hk.2) (.int .i64 t1535)) (fun _ h_ => h_.1))) hb); have n5_ := am (Kd.R_below (by (with_reducible repeat (first | apply Kd.R_alloc | apply Kd.R_drewN | apply Kd.R_drew)); exact (Kd.R_mono (Kd.R_far (p := ⟨gb1537, 6, none⟩) (Kd.R_far (p := ⟨gb1537, 5, none⟩) (Kd.R_far (p := ⟨gb1537, 4, none⟩) (Kd.R_far (p := ⟨gb1537, 3, none⟩) (Kd.R_far (p := ⟨gb1537, 2, none⟩) (Kd.R_far (p := ⟨gb1537, 1, none⟩) (Kd.R_far (p := ⟨gb1537, 0, none⟩) (Kd.R_types HO1533.out BK1537.out (by decide)) (fun _ hk => hk.2) (.string t1523)) (fun _ hk => hk.2) (.slice Ao16 t1524.length co16)) (fun _ hk => hk.2) (.slice Ao17 t1527.length co17)) (fun _ hk => hk.2) (.int .i64 t1530)) (fun _ hk => hk.2) (.slice Ao18 t1531.length co18)) (fun _ hk => hk.2) (.string t1534)) (fun _ hk => hk.2) (.int .i64 t1535)) (fun _ h_ => h_.1))) hb); have n6_ := kg1 BK1522 NB1522_1537 hb; have n7_ := am (blk_below (g := gb1537) (o := .cells #[.string t1523, .slice Ao16 t1524.length co16, .slice Ao17 t1527.length co17, .int .i64 t1530, .slice Ao18 t1531.length co18, .string t1534, .int .i64 t1535] 31 (0, 0)) (pt0 BK1537) hb); have n8_ := am (below_step bl hb); clear HO1511; clear HO1514; clear HO1518; clear HO1526; clear HO1529; clear HO1533; clear BK1522; clear BK1537; clear HB; have HO1511 := n0_; have HO1514 := n1_; have HO1518 := n2_; have HO1526 := n3_; have HO1529 := n4_; have HO1533 := n5_; have BK1522 := n6_; have BK1537 := n7_; have HB := n8_; clear n0_ n1_ n2_ n3_ n4_ n5_ n6_ n7_ n8_; clear hb))
  go_meet
  case rel => exact ⟨_, ((t1536 != t1521)), rs, H', ⟨by first | omega | exact Nat.le_refl _⟩, ⟨by (with_reducible repeat (first | apply Kd.R_alloc | apply Kd.R_drewN | apply Kd.R_drew)); exact Kd.R_mono HO1511.out (fun _ hk => ⟨hk.1.1, ⟨hk.1.2, hk.2⟩⟩)⟩, ⟨by (with_reducible repeat (first | apply Kd.R_alloc | apply Kd.R_drewN | apply Kd.R_drew)); exact Kd.R_mono HO1514.out (fun _ hk => ⟨hk.1.1, ⟨hk.1.2, hk.2⟩⟩)⟩, ⟨by (with_reducible repeat (first | apply Kd.R_alloc | apply Kd.R_drewN | apply Kd.R_drew)); exact Kd.R_mono HO1518.out (fun _ hk => hk.2)⟩, ⟨by (with_reducible repeat (first | apply Kd.R_alloc | apply Kd.R_drewN | apply Kd.R_drew)); exact Kd.R_mono HO1526.out (fun _ hk => ⟨hk.1.2, ⟨hk.2, hk.1.1⟩⟩)⟩, ⟨by (with_reducible repeat (first | apply Kd.R_alloc | apply Kd.R_drewN | apply Kd.R_drew)); exact Kd.R_mono HO1529.out (fun _ hk => ⟨hk.1.2, ⟨hk.2, hk.1.1⟩⟩)⟩, ⟨by (with_reducible repeat (first | apply Kd.R_alloc | apply Kd.R_drewN | apply Kd.R_drew)); exact Kd.R_mono HO1533.out (fun _ hk => hk.2)⟩, ⟨by (with_reducible repeat (first | refine blk_drewN ?_ _ | refine blk_drew ?_ | refine blk_alloc ?_ _)); exact BK1522.out⟩, ⟨by (with_reducible repeat (first | refine blk_drewN ?_ _ | refine blk_drew ?_ | refine blk_alloc ?_ _)); exact BK1537.out⟩, ⟨u6HB⟩⟩
 case rest =>
  clear HC5
  try clear c1
  try clear c2
  try clear c2b0
  try clear c2b1
  try clear p2
  try clear c3
  try clear c6
  try clear c14
  try clear c20
  try clear c21
  try clear z15_0
  try clear z15_1
  try clear z15_2
  try clear z15_3
  try clear z15_4
  try clear z15_5
  try clear z15_6
  try clear z22_0
  try clear z22_1
  try clear z22_2
  try clear z22_3
  try clear z22_4
  try clear z22_5
  try clear z22_6
  try clear z23_0
  try clear z23_1
  try clear z23_2
  try clear z23_3
  try clear z23_4
  try clear z23_5
  try clear z23_6
  try clear z8_0
  try clear z8_1
  try clear z8_2
  try clear z8_3
  try clear z8_4
  try clear z8_5
  try clear z8_6
  try clear y15_0
  try clear y15_1
  try clear y15_2
  try clear y15_3
  try clear y15_4
  try clear y15_5
  try clear y15_6
  try clear y22_0
  try clear y22_1
  try clear y22_2
  try clear y22_3
  try clear y22_4
  try clear y22_5
  try clear y22_6
  try clear y23_0
  try clear y23_1
  try clear y23_2
  try clear y23_3
  try clear y23_4
  try clear y23_5
  try clear y23_6
  try clear y8_0
  try clear y8_1
  try clear y8_2
  try clear y8_3
  try clear y8_4
  try clear y8_5
  try clear y8_6
  obtain ⟨kq, x32_4, rfl, HA, HJ4, HO_1523001, HO_1523002, HO_1523004, HO_1538001, HO_1538002, HO_1538004, BK1522, BK1537, HB⟩ := hcut
  cases kq with
  | zero => exact absurd HA.out (by simp [laws_FnExactObjRead.j0])
  | succ kj4 =>
   have H := HA.out
   clear HA
   simp only [laws_FnExactObjRead.j0] at H
   by_cases c25 : x32_4 = true
   ·subst c25
    rw [if_pos rfl] at H
    exact absurd (Option.some.inj H) (by rw [ht_]; decide)
   replace c25 := Bool.eq_false_iff.mpr c25
   subst c25
   rw [if_neg (show ¬ (false = true) by decide)] at H
   revert H
   refine ok4 fun t1539 t1540 t1541 t1542 A26 H => ?_
   (try dsimp only at H)
   revert H
   refine ok1 fun t1543 A27 H => ?_
   by_cases c28 : t1543 < 0
   ·rw [if_pos c28] at H
    have c28b0 := decide_eq_true c28
    clear c28
    exact absurd (Option.some.inj H) (by rw [ht_]; decide)
   rw [if_neg c28] at H
   have c28b0 := decide_eq_false c28
   clear c28
   by_cases c29 : t1543 = t1539
   rotate_left
   ·rw [if_neg c29] at H
    have c29b0 : (t1543 == t1539) = false := beq_eq_false_iff_ne.mpr c29
    have c29b1 : (t1543 != t1539) = true := bne_iff_ne.mpr c29
    exact absurd (Option.some.inj H) (by rw [ht_]; decide)
   rw [if_pos c29] at H
   have c29b0 : (t1543 == t1539) = true := beq_iff_eq.mpr c29
   have c29b1 : (t1543 != t1539) = false := bne_eq_false_iff_eq.mpr c29
   clear c29
   revert H
   refine ok8 fun t1544 t1545 t1548 t1551 t1552 t1555 t1556 t1557 A30 H => ?_
   (try dsimp only at H)
   have HC31 := am H
   clear H
   have hnb32 := NB1537_1522.out
   have hnc32 := NB1522_1537.out
   obtain ⟨z33_0, y33_0, z33_1, y33_1, z33_2, y33_2, z33_3, y33_3, z33_4, y33_4, z33_5, y33_5, z33_6, y33_6⟩ := cl7 BK1537
   go_upto_region 16 with ((with_reducible refine gw ?_); first | (refine gl 35 Tryz.func40 #[.agg #[.string t1523, .slice Ao16 t1524.length co16, .slice Ao17 t1527.length co17, .int .i64 t1530, .slice Ao18 t1531.length co18, .string t1534, .int .i64 t1535], .int .i64 1] ?_; (with_reducible refine (laws_markObj.calls kj4 t1523 (fun k_ => some k_ = (.slice Ao16 t1524.length co16 : Value).ownBlock) (.slice Ao16 t1524.length co16) t1524 (fun k_ => some k_ = (.slice Ao17 t1527.length co17 : Value).ownBlock) (.slice Ao17 t1527.length co17) t1527 t1530 (fun k_ => some k_ = (.slice Ao18 t1531.length co18 : Value).ownBlock) (.slice Ao18 t1531.length co18) t1531 t1534 t1535 1 t1539 t1540 t1541 t1542 w _ ?side1 ?side2 ?side3 ?side4 ?side5 ?side6 A26.out).mono ?_); (case side1 => exact u6HB); (case side2 => exact Kd.R_tight rfl HO_1538001.out); (case side3 => exact fun k_ e_ => (HO_1538001.out.1 k_ e_.symm).2.2); (case side4 => exact Kd.R_tight rfl HO_1538002.out); (case side5 => exact fun k_ e_ => (HO_1538002.out.1 k_ e_.symm).2.2); (case side6 => exact Kd.R_tight rfl HO_1538004.out); rintro e w34 ⟨rfl, hy0, hy1, hy2, hb, hkp⟩; refine ⟨_, rfl, ?_⟩; replace HO_1523001 := am (Kd.R_mono (ok' := fun k_ => some k_ ≠ (.slice Ao10 t1512.length co10 : Value).ownBlock ∧ some k_ ≠ (.slice Ao16 t1524.length co16 : Value).ownBlock ∧ some k_ ≠ (.slice Ao17 t1527.length co17 : Value).ownBlock) (Kd.R_keptB ((Kd.R_apart' HO_1523001.out (Kd.R_typed HO_1538004.out) (by decide))) hkp (fun k_ hk_ hs_ => Or.elim hs_ (fun e_ => (hk_.1.2.1) e_) (fun e_ => Or.elim e_ (fun e_ => (hk_.1.2.2) e_) (fun e_ => (hk_.2) e_)))) (fun k_ hk_ => ⟨hk_.1.1.1, hk_.1.1.2.1, hk_.1.1.2.2⟩)); replace HO_1523002 := am (Kd.R_mono (ok' := fun k_ => some k_ ≠ (.slice Ao9 t1509.length co9 : Value).ownBlock ∧ some k_ ≠ (.slice Ao16 t1524.length co16 : Value).ownBlock ∧ some k_ ≠ (.slice Ao17 t1527.length co17 : Value).ownBlock) (Kd.R_keptB ((Kd.R_apart' HO_1523002.out (Kd.R_typed HO_1538004.out) (by decide))) hkp (fun k_ hk_ hs_ => Or.elim hs_ (fun e_ => (hk_.1.2.1) e_) (fun e_ => Or.elim e_ (fun e_ => (hk_.1.2.2) e_) (fun e_ => (hk_.2) e_)))) (fun k_ hk_ => ⟨hk_.1.1.1, hk_.1.1.2.1, hk_.1.1.2.2⟩)); replace HO_1523004 := am (Kd.R_mono (ok' := fun k_ => some k_ ≠ (.slice Ao18 t1531.length co18 : Value).ownBlock) (Kd.R_keptB ((Kd.R_apart' (Kd.R_apart' HO_1523004.out (Kd.R_typed HO_1538001.out) (by decide)) (Kd.R_typed HO_1538002.out) (by decide))) hkp (fun k_ hk_ hs_ => Or.elim hs_ (fun e_ => (hk_.1.2) e_) (fun e_ => Or.elim e_ (fun e_ => (hk_.2) e_) (fun e_ => (hk_.1.1) e_)))) (fun k_ hk_ => hk_.1.1.1)); replace BK1522 := am (blk_kept (bk BK1522) hkp (fun hs_ => Or.elim hs_ (fun e_ => (fun e_ => (Kd.R_ne HO_1538001.out BK1522.out (by decide)) e_) e_) (fun e_ => Or.elim e_ (fun e_ => (fun e_ => (Kd.R_ne HO_1538002.out BK1522.out (by decide)) e_) e_) (fun e_ => (fun e_ => (Kd.R_ne HO_1538004.out BK1522.out (by decide)) e_) e_)))); replace BK1537 := am (blk_kept (bk BK1537) hkp (fun hs_ => Or.elim hs_ (fun e_ => (fun e_ => (Kd.R_ne HO_1538001.out BK1537.out (by decide)) e_) e_) (fun e_ => Or.elim e_ (fun e_ => (fun e_ => (Kd.R_ne HO_1538002.out BK1537.out (by decide)) e_) e_) (fun e_ => (fun e_ => (Kd.R_ne HO_1538004.out BK1537.out (by decide)) e_) e_)))); replace HO_1538001 := am (Kd.R_reok rfl hy0 (fun k_ e_ => HO_1538001.out.1 k_ e_)); replace HO_1538002 := am (Kd.R_reok rfl hy1 (fun k_ e_ => HO_1538002.out.1 k_ e_)); replace HO_1538004 := am (Kd.R_reok rfl hy2 (fun k_ e_ => HO_1538004.out.1 k_ e_)); replace HB := am (hb); clear hb; (try clear hkp); (try clear hy0); (try clear hy1); (try clear hy2); obtain ⟨z35_0, y35_0, z35_1, y35_1, z35_2, y35_2, z35_3, y35_3, z35_4, y35_4, z35_5, y35_5, z35_6, y35_6⟩ := cl7 BK1537) | (refine gl 38 Tryz.func41 #[.agg #[.string t1523, .slice Ao16 t1540.length co16, .slice Ao17 t1541.length co17, .int .i64 t1530, .slice Ao18 t1542.length co18, .string t1534, .int .i64 t1535], .int .i64 1] ?_ (hargs := (by (try simp only [List.map_toArray, List.map_cons, List.map_nil]); first | done | (rw [show t1540.length = t1524.length from (Kd.R_reads' HO_1538001.out).1.symm, show t1541.length = t1527.length from (Kd.R_reads' HO_1538002.out).1.symm, show t1542.length = t1531.length from (Kd.R_reads' HO_1538004.out).1.symm] <;> rfl) | rfl | (simp only [List.length_drop, List.length_take]; rfl))); (with_reducible refine (laws_heldObj.calls kj4 t1523 _ _ t1540 _ _ t1541 t1530 _ _ t1542 t1534 t1535 1 t1543 _ ?side1 ?side2 ?side3 ?side4 ?side5 ?side6 A27.out).mono ?_); (case side1 => exact rc HO_1538001); (case side2 => rw [show t1540.length = t1524.length from (Kd.R_reads' HO_1538001.out).1.symm]; exact (Kd.R_reads' HO_1538001.out).2.1); (case side3 => exact rc HO_1538002); (case side4 => rw [show t1541.length = t1527.length from (Kd.R_reads' HO_1538002.out).1.symm]; exact (Kd.R_reads' HO_1538002.out).2.1); (case side5 => exact rc HO_1538004); (case side6 => rw [show t1542.length = t1531.length from (Kd.R_reads' HO_1538004.out).1.symm]; exact (Kd.R_reads' HO_1538004.out).2.1); rintro e w36 ⟨rfl, hb⟩; refine ⟨_, rfl, ?_⟩; replace HO_1523001 := kr HO_1523001 hb; replace HO_1523002 := kr HO_1523002 hb; replace HO_1523004 := kr HO_1523004 hb; replace HO_1538001 := kr HO_1538001 hb; replace HO_1538002 := kr HO_1538002 hb; replace HO_1538004 := kr HO_1538004 hb; replace BK1522 := kb BK1522 hb; replace BK1537 := kb BK1537 hb; replace HB := am (below_step bl hb); clear hb) | (refine gl 46 Tryz.func38 #[.string a0] ?_; (with_reducible refine (impl_ObjRead.calls kj4 a0 t1544 t1545 t1548 t1551 t1552 t1555 t1556 t1557 _ ?side1 ?side2 ?side3 A30.out).mono ?_); (case side1 => exact GLOBE.below HGE.out bl); (case side2 => exact GLOBM.below HGM.out bl); (case side3 => exact GLOBT.below HGT.out bl); rintro e w37 ⟨v1546, v1549, v1553, rfl, ho0, ho1, ho2, hb⟩; refine ⟨_, rfl, ?_⟩; have HO1547 := am (Kd.R_lower (Kd.R_new' (Kd.R_new' (Kd.R_new' (Kd.R_new' ho0 (Kd.R_lt (ro HO_1523001))) (Kd.R_lt (ro HO_1523002))) (Kd.R_lt (ro HO_1538001))) (Kd.R_lt (ro HO_1538002))) (below_size bl)); have HO1550 := am (Kd.R_lower (Kd.R_new' (Kd.R_new' (Kd.R_new' (Kd.R_new' ho1 (Kd.R_lt (ro HO_1523001))) (Kd.R_lt (ro HO_1523002))) (Kd.R_lt (ro HO_1538001))) (Kd.R_lt (ro HO_1538002))) (below_size bl)); replace HO_1523001 := am (Kd.R_mono (Kd.R_told (Kd.R_told (Kd.R_old (ro HO_1523001) hb) (Kd.R_base ho0)) (Kd.R_base ho1)) (fun _ h_ => h_.1)); replace HO_1523002 := am (Kd.R_mono (Kd.R_told (Kd.R_told (Kd.R_old (ro HO_1523002) hb) (Kd.R_base ho0)) (Kd.R_base ho1)) (fun _ h_ => h_.1)); replace HO_1538001 := am (Kd.R_mono (Kd.R_told (Kd.R_told (Kd.R_old (ro HO_1538001) hb) (Kd.R_base ho0)) (Kd.R_base ho1)) (fun _ h_ => h_.1)); replace HO_1538002 := am (Kd.R_mono (Kd.R_told (Kd.R_told (Kd.R_old (ro HO_1538002) hb) (Kd.R_base ho0)) (Kd.R_base ho1)) (fun _ h_ => h_.1)); have HO1554 := am (Kd.R_lower (Kd.R_new' (Kd.R_new' ho2 (Kd.R_lt (ro HO_1523004))) (Kd.R_lt (ro HO_1538004))) (below_size bl)); replace HO_1523004 := am (Kd.R_elder' (ro HO_1523004) (Kd.R_base ho2) hb); replace HO_1538004 := am (Kd.R_elder' (ro HO_1538004) (Kd.R_base ho2) hb); replace BK1522 := kb BK1522 hb; replace BK1537 := kb BK1537 hb; replace HB := am (below_step bl hb); clear hb ho0 ho1 ho2) | (refine bx 9 #[.string (⟨#[]⟩ : ByteArray), .slice none 0 0, .slice none 0 0, .int .i64 0, .slice none 0 0, .string (⟨#[]⟩ : ByteArray), .int .i64 0] 31 ?_; intro gb1558 hg w38 hbox hb; replace HO_1523001 := am (Kd.R_below (ro HO_1523001) hb); replace HO_1523002 := am (Kd.R_below (ro HO_1523002) hb); replace HO_1523004 := am (Kd.R_below (ro HO_1523004) hb); replace HO_1538001 := am (Kd.R_below (ro HO_1538001) hb); replace HO_1538002 := am (Kd.R_below (ro HO_1538002) hb); replace HO_1538004 := am (Kd.R_below (ro HO_1538004) hb); replace HO1547 := am (Kd.R_below (ro HO1547) hb); replace HO1550 := am (Kd.R_below (ro HO1550) hb); replace HO1554 := am (Kd.R_below (ro HO1554) hb); have BK1558 := am (hbox); have GW1558 := am (sz hg : w.heap.size ≤ gb1558); have GE1558 := am (sz hg : w.heap.size ≤ gb1558); replace HB := am (below_step bl hb); have NB1522_1558 := am (nl hg BK1522 : gb1522 ≠ gb1558); have NB1558_1522 := am (ng hg BK1522 : gb1558 ≠ gb1522); replace BK1522 := kb BK1522 hb; have NB1537_1558 := am (nl hg BK1537 : gb1537 ≠ gb1558); have NB1558_1537 := am (ng hg BK1537 : gb1558 ≠ gb1537); replace BK1537 := kb BK1537 hb; clear hb hbox hg; have hnb39 := NB1558_1522.out; have hnc39 := NB1522_1558.out; have hnb40 := NB1558_1537.out; have hnc40 := NB1537_1558.out; obtain ⟨z41_0, y41_0, z41_1, y41_1, z41_2, y41_2, z41_3, y41_3, z41_4, y41_4, z41_5, y41_5, z41_6, y41_6⟩ := cl7 BK1558; obtain ⟨Ao42, co42, eo42⟩ := Kd.R_slice HO1547.out; subst eo42; obtain ⟨Ao43, co43, eo43⟩ := Kd.R_slice HO1550.out; subst eo43; obtain ⟨Ao44, co44, eo44⟩ := Kd.R_slice HO1554.out; subst eo44))
   (try simp only [Act.put, List.setIfInBounds_toArray, List.set_cons_zero, List.set_cons_succ])
   go_cut [57] (fun v57 wc => ∃ (kq : Nat) (x57_30 : Bool), v57 = .bool x57_30 ∧ Aside0 (laws_FnExactObjRead.j1 kq t1539 x57_30 t1523 t1540 t1541 t1530 t1542 t1534 t1535 = some r) ∧ Aside0 (kq ≤ kj4) ∧ Aside0 (Kd.R Kd.string 9 wc w.heap.size (fun k_ => some k_ ≠ ((.slice Ao10 t1512.length co10) : Value).ownBlock ∧ some k_ ≠ ((.slice Ao16 t1524.length co16) : Value).ownBlock ∧ some k_ ≠ ((.slice Ao17 t1527.length co17) : Value).ownBlock ∧ some k_ ≠ ((.slice Ao42 t1545.length co42) : Value).ownBlock ∧ some k_ ≠ ((.slice Ao43 t1548.length co43) : Value).ownBlock) (.slice Ao9 t1509.length co9) t1509) ∧ Aside0 (Kd.R Kd.string 9 wc w.heap.size (fun k_ => some k_ ≠ ((.slice Ao9 t1509.length co9) : Value).ownBlock ∧ some k_ ≠ ((.slice Ao16 t1524.length co16) : Value).ownBlock ∧ some k_ ≠ ((.slice Ao17 t1527.length co17) : Value).ownBlock ∧ some k_ ≠ ((.slice Ao42 t1545.length co42) : Value).ownBlock ∧ some k_ ≠ ((.slice Ao43 t1548.length co43) : Value).ownBlock) (.slice Ao10 t1512.length co10) t1512) ∧ Aside0 (Kd.R k116 116 wc w.heap.size (fun k_ => some k_ ≠ ((.slice Ao18 t1531.length co18) : Value).ownBlock ∧ some k_ ≠ ((.slice Ao44 t1552.length co44) : Value).ownBlock) (.slice Ao11 t1516.length co11) t1516) ∧ Aside0 (Kd.R Kd.string 9 wc w.heap.size (fun k_ => some k_ ≠ ((.slice Ao9 t1509.length co9) : Value).ownBlock ∧ some k_ ≠ ((.slice Ao10 t1512.length co10) : Value).ownBlock ∧ some k_ ≠ ((.slice Ao17 t1527.length co17) : Value).ownBlock ∧ some k_ ≠ ((.slice Ao42 t1545.length co42) : Value).ownBlock ∧ some k_ ≠ ((.slice Ao43 t1548.length co43) : Value).ownBlock) (.slice Ao16 t1524.length co16) t1540) ∧ Aside0 (Kd.R Kd.string 9 wc w.heap.size (fun k_ => some k_ ≠ ((.slice Ao9 t1509.length co9) : Value).ownBlock ∧ some k_ ≠ ((.slice Ao10 t1512.length co10) : Value).ownBlock ∧ some k_ ≠ ((.slice Ao16 t1524.length co16) : Value).ownBlock ∧ some k_ ≠ ((.slice Ao42 t1545.length co42) : Value).ownBlock ∧ some k_ ≠ ((.slice Ao43 t1548.length co43) : Value).ownBlock) (.slice Ao17 t1527.length co17) t1541) ∧ Aside0 (Kd.R k116 116 wc w.heap.size (fun k_ => some k_ ≠ ((.slice Ao11 t1516.length co11) : Value).ownBlock ∧ some k_ ≠ ((.slice Ao44 t1552.length co44) : Value).ownBlock) (.slice Ao18 t1531.length co18) t1542) ∧ Aside0 (Kd.R Kd.string 9 wc w.heap.size (fun k_ => some k_ ≠ ((.slice Ao9 t1509.length co9) : Value).ownBlock ∧ some k_ ≠ ((.slice Ao10 t1512.length co10) : Value).ownBlock ∧ some k_ ≠ ((.slice Ao16 t1524.length co16) : Value).ownBlock ∧ some k_ ≠ ((.slice Ao17 t1527.length co17) : Value).ownBlock ∧ some k_ ≠ ((.slice Ao43 t1548.length co43) : Value).ownBlock) (.slice Ao42 t1545.length co42) t1545) ∧ Aside0 (Kd.R Kd.string 9 wc w.heap.size (fun k_ => some k_ ≠ ((.slice Ao9 t1509.length co9) : Value).ownBlock ∧ some k_ ≠ ((.slice Ao10 t1512.length co10) : Value).ownBlock ∧ some k_ ≠ ((.slice Ao16 t1524.length co16) : Value).ownBlock ∧ some k_ ≠ ((.slice Ao17 t1527.length co17) : Value).ownBlock ∧ some k_ ≠ ((.slice Ao42 t1545.length co42) : Value).ownBlock) (.slice Ao43 t1548.length co43) t1548) ∧ Aside0 (Kd.R k116 116 wc w.heap.size (fun k_ => some k_ ≠ ((.slice Ao11 t1516.length co11) : Value).ownBlock ∧ some k_ ≠ ((.slice Ao18 t1531.length co18) : Value).ownBlock) (.slice Ao44 t1552.length co44) t1552) ∧ Aside0 (wc.heap[gb1522]? = some (.cells #[.string t1508, (.slice Ao9 t1509.length co9), (.slice Ao10 t1512.length co10), .int .i64 t1515, (.slice Ao11 t1516.length co11), .string t1519, .int .i64 t1520] 31 (0, 0))) ∧ Aside0 (wc.heap[gb1537]? = some (.cells #[.string t1523, (.slice Ao16 t1524.length co16), (.slice Ao17 t1527.length co17), .int .i64 t1530, (.slice Ao18 t1531.length co18), .string t1534, .int .i64 t1535] 31 (0, 0))) ∧ Aside0 (wc.heap[gb1558]? = some (.cells #[.string t1544, (.slice Ao42 t1545.length co42), (.slice Ao43 t1548.length co43), .int .i64 t1551, (.slice Ao44 t1552.length co44), .string t1555, .int .i64 t1556] 31 (0, 0))) ∧ Aside0 (Below w.heap.size w wc))
   case first =>
    have H := HC31.out
    clear HC31
    revert H
    refine ok1 fun t1559 A45 H => ?_
    by_cases c46 : t1559 = true
    rotate_left
    ·replace c46 := Bool.eq_false_iff.mpr c46
     subst c46
     rw [if_neg (show ¬ (false = true) by decide)] at H
     cases kj4 with
     | zero => exact absurd H (by simp [laws_FnExactObjRead.j1])
     | succ k_ => simp only [laws_FnExactObjRead.j1, if_true] at H; exact absurd (Option.some.inj H) (by rw [ht_]; decide)
    subst c46
    rw [if_pos rfl] at H
    have H' := am H
    clear H
    have hnb47 := NB1558_1522.out
    have hnc47 := NB1522_1558.out
    have hnb48 := NB1558_1537.out
    have hnc48 := NB1537_1558.out
    obtain ⟨z49_0, y49_0, z49_1, y49_1, z49_2, y49_2, z49_3, y49_3, z49_4, y49_4, z49_5, y49_5, z49_6, y49_6⟩ := cl7 BK1558
    have hnb50 := NB1522_1537.out
    have hnc50 := NB1537_1522.out
    obtain ⟨z51_0, y51_0, z51_1, y51_1, z51_2, y51_2, z51_3, y51_3, z51_4, y51_4, z51_5, y51_5, z51_6, y51_6⟩ := cl7 BK1522
    go_wp2_with ((with_reducible refine gw ?_); first | (refine gl 51 Tryz.func39 #[.agg #[.string t1544, .slice Ao42 t1545.length co42, .slice Ao43 t1548.length co43, .int .i64 t1551, .slice Ao44 t1552.length co44, .string t1555, .int .i64 t1556], .agg #[.string t1508, .slice Ao9 t1509.length co9, .slice Ao10 t1512.length co10, .int .i64 t1515, .slice Ao11 t1516.length co11, .string t1519, .int .i64 t1520]] ?_; (with_reducible refine (laws_eqObj.calls kj4 t1544 _ _ t1545 _ _ t1548 t1551 _ _ t1552 t1555 t1556 t1508 _ _ t1509 _ _ t1512 t1515 _ _ t1516 t1519 t1520 true _ ?side1 ?side2 ?side3 ?side4 ?side5 ?side6 ?side7 ?side8 ?side9 ?side10 ?side11 ?side12 A45.out).mono ?_); (case side1 => refine (Kd.R_reads' (e := 9) (base := w.heap.size) (ok := fun k_ => ((((some k_ ≠ (.slice Ao43 t1548.length co43 : Value).ownBlock ∧ some k_ ≠ (.slice Ao9 t1509.length co9 : Value).ownBlock) ∧ some k_ ≠ (.slice Ao10 t1512.length co10 : Value).ownBlock) ∧ some k_ ≠ (.slice Ao16 t1524.length co16 : Value).ownBlock) ∧ some k_ ≠ (.slice Ao17 t1527.length co17 : Value).ownBlock)) (n := t1545.length) (c := co42) ?_).2.2; exact (by (with_reducible repeat (first | apply Kd.R_alloc | apply Kd.R_drewN | apply Kd.R_drew)); exact (Kd.R_mono (Kd.R_far (p := ⟨gb1558, 6, none⟩) (Kd.R_far (p := ⟨gb1558, 5, none⟩) (Kd.R_far (p := ⟨gb1558, 4, none⟩) (Kd.R_far (p := ⟨gb1558, 3, none⟩) (Kd.R_far (p := ⟨gb1558, 2, none⟩) (Kd.R_far (p := ⟨gb1558, 1, none⟩) (Kd.R_far (p := ⟨gb1558, 0, none⟩) (Kd.R_types HO1547.out BK1558.out (by decide)) (fun _ hk => hk.2) (.string t1544)) (fun _ hk => hk.2) (.slice Ao42 t1545.length co42)) (fun _ hk => hk.2) (.slice Ao43 t1548.length co43)) (fun _ hk => hk.2) (.int .i64 t1551)) (fun _ hk => hk.2) (.slice Ao44 t1552.length co44)) (fun _ hk => hk.2) (.string t1555)) (fun _ hk => hk.2) (.int .i64 t1556)) (fun _ h_ => h_.1)))); (case side2 => exact (Kd.R_reads' HO1547.out).2.1); (case side3 => refine (Kd.R_reads' (e := 9) (base := w.heap.size) (ok := fun k_ => ((((some k_ ≠ (.slice Ao42 t1545.length co42 : Value).ownBlock ∧ some k_ ≠ (.slice Ao9 t1509.length co9 : Value).ownBlock) ∧ some k_ ≠ (.slice Ao10 t1512.length co10 : Value).ownBlock) ∧ some k_ ≠ (.slice Ao16 t1524.length co16 : Value).ownBlock) ∧ some k_ ≠ (.slice Ao17 t1527.length co17 : Value).ownBlock)) (n := t1548.length) (c := co43) ?_).2.2; exact (by (with_reducible repeat (first | apply Kd.R_alloc | apply Kd.R_drewN | apply Kd.R_drew)); exact (Kd.R_mono (Kd.R_far (p := ⟨gb1558, 6, none⟩) (Kd.R_far (p := ⟨gb1558, 5, none⟩) (Kd.R_far (p := ⟨gb1558, 4, none⟩) (Kd.R_far (p := ⟨gb1558, 3, none⟩) (Kd.R_far (p := ⟨gb1558, 2, none⟩) (Kd.R_far (p := ⟨gb1558, 1, none⟩) (Kd.R_far (p := ⟨gb1558, 0, none⟩) (Kd.R_types HO1550.out BK1558.out (by decide)) (fun _ hk => hk.2) (.string t1544)) (fun _ hk => hk.2) (.slice Ao42 t1545.length co42)) (fun _ hk => hk.2) (.slice Ao43 t1548.length co43)) (fun _ hk => hk.2) (.int .i64 t1551)) (fun _ hk => hk.2) (.slice Ao44 t1552.length co44)) (fun _ hk => hk.2) (.string t1555)) (fun _ hk => hk.2) (.int .i64 t1556)) (fun _ h_ => h_.1)))); (case side4 => exact (Kd.R_reads' HO1550.out).2.1); (case side5 => refine (Kd.R_reads' (e := 116) (base := w.heap.size) (ok := fun k_ => ((True ∧ some k_ ≠ (.slice Ao11 t1516.length co11 : Value).ownBlock) ∧ some k_ ≠ (.slice Ao18 t1531.length co18 : Value).ownBlock)) (n := t1552.length) (c := co44) ?_).2.2; exact (by (with_reducible repeat (first | apply Kd.R_alloc | apply Kd.R_drewN | apply Kd.R_drew)); exact (Kd.R_mono (Kd.R_far (p := ⟨gb1558, 6, none⟩) (Kd.R_far (p := ⟨gb1558, 5, none⟩) (Kd.R_far (p := ⟨gb1558, 4, none⟩) (Kd.R_far (p := ⟨gb1558, 3, none⟩) (Kd.R_far (p := ⟨gb1558, 2, none⟩) (Kd.R_far (p := ⟨gb1558, 1, none⟩) (Kd.R_far (p := ⟨gb1558, 0, none⟩) (Kd.R_types HO1554.out BK1558.out (by decide)) (fun _ hk => hk.2) (.string t1544)) (fun _ hk => hk.2) (.slice Ao42 t1545.length co42)) (fun _ hk => hk.2) (.slice Ao43 t1548.length co43)) (fun _ hk => hk.2) (.int .i64 t1551)) (fun _ hk => hk.2) (.slice Ao44 t1552.length co44)) (fun _ hk => hk.2) (.string t1555)) (fun _ hk => hk.2) (.int .i64 t1556)) (fun _ h_ => h_.1)))); (case side6 => exact (Kd.R_reads' HO1554.out).2.1); (case side7 => refine (Kd.R_reads' (e := 9) (base := w.heap.size) (ok := fun k_ => (((some k_ ≠ (.slice Ao10 t1512.length co10 : Value).ownBlock ∧ (some k_ ≠ (.slice Ao16 t1524.length co16 : Value).ownBlock ∧ some k_ ≠ (.slice Ao17 t1527.length co17 : Value).ownBlock)) ∧ some k_ ≠ (.slice Ao42 t1545.length co42 : Value).ownBlock) ∧ some k_ ≠ (.slice Ao43 t1548.length co43 : Value).ownBlock)) (n := t1509.length) (c := co9) ?_).2.2; exact (by (with_reducible repeat (first | apply Kd.R_alloc | apply Kd.R_drewN | apply Kd.R_drew)); exact (Kd.R_mono (Kd.R_far (p := ⟨gb1558, 6, none⟩) (Kd.R_far (p := ⟨gb1558, 5, none⟩) (Kd.R_far (p := ⟨gb1558, 4, none⟩) (Kd.R_far (p := ⟨gb1558, 3, none⟩) (Kd.R_far (p := ⟨gb1558, 2, none⟩) (Kd.R_far (p := ⟨gb1558, 1, none⟩) (Kd.R_far (p := ⟨gb1558, 0, none⟩) (Kd.R_types HO_1523001.out BK1558.out (by decide)) (fun _ hk => hk.2) (.string t1544)) (fun _ hk => hk.2) (.slice Ao42 t1545.length co42)) (fun _ hk => hk.2) (.slice Ao43 t1548.length co43)) (fun _ hk => hk.2) (.int .i64 t1551)) (fun _ hk => hk.2) (.slice Ao44 t1552.length co44)) (fun _ hk => hk.2) (.string t1555)) (fun _ hk => hk.2) (.int .i64 t1556)) (fun _ h_ => h_.1)))); (case side8 => exact (Kd.R_reads' HO_1523001.out).2.1); (case side9 => refine (Kd.R_reads' (e := 9) (base := w.heap.size) (ok := fun k_ => (((some k_ ≠ (.slice Ao9 t1509.length co9 : Value).ownBlock ∧ (some k_ ≠ (.slice Ao16 t1524.length co16 : Value).ownBlock ∧ some k_ ≠ (.slice Ao17 t1527.length co17 : Value).ownBlock)) ∧ some k_ ≠ (.slice Ao42 t1545.length co42 : Value).ownBlock) ∧ some k_ ≠ (.slice Ao43 t1548.length co43 : Value).ownBlock)) (n := t1512.length) (c := co10) ?_).2.2; exact (by (with_reducible repeat (first | apply Kd.R_alloc | apply Kd.R_drewN | apply Kd.R_drew)); exact (Kd.R_mono (Kd.R_far (p := ⟨gb1558, 6, none⟩) (Kd.R_far (p := ⟨gb1558, 5, none⟩) (Kd.R_far (p := ⟨gb1558, 4, none⟩) (Kd.R_far (p := ⟨gb1558, 3, none⟩) (Kd.R_far (p := ⟨gb1558, 2, none⟩) (Kd.R_far (p := ⟨gb1558, 1, none⟩) (Kd.R_far (p := ⟨gb1558, 0, none⟩) (Kd.R_types HO_1523002.out BK1558.out (by decide)) (fun _ hk => hk.2) (.string t1544)) (fun _ hk => hk.2) (.slice Ao42 t1545.length co42)) (fun _ hk => hk.2) (.slice Ao43 t1548.length co43)) (fun _ hk => hk.2) (.int .i64 t1551)) (fun _ hk => hk.2) (.slice Ao44 t1552.length co44)) (fun _ hk => hk.2) (.string t1555)) (fun _ hk => hk.2) (.int .i64 t1556)) (fun _ h_ => h_.1)))); (case side10 => exact (Kd.R_reads' HO_1523002.out).2.1); (case side11 => refine (Kd.R_reads' (e := 116) (base := w.heap.size) (ok := fun k_ => (some k_ ≠ (.slice Ao18 t1531.length co18 : Value).ownBlock ∧ some k_ ≠ (.slice Ao44 t1552.length co44 : Value).ownBlock)) (n := t1516.length) (c := co11) ?_).2.2; exact (by (with_reducible repeat (first | apply Kd.R_alloc | apply Kd.R_drewN | apply Kd.R_drew)); exact (Kd.R_mono (Kd.R_far (p := ⟨gb1558, 6, none⟩) (Kd.R_far (p := ⟨gb1558, 5, none⟩) (Kd.R_far (p := ⟨gb1558, 4, none⟩) (Kd.R_far (p := ⟨gb1558, 3, none⟩) (Kd.R_far (p := ⟨gb1558, 2, none⟩) (Kd.R_far (p := ⟨gb1558, 1, none⟩) (Kd.R_far (p := ⟨gb1558, 0, none⟩) (Kd.R_types HO_1523004.out BK1558.out (by decide)) (fun _ hk => hk.2) (.string t1544)) (fun _ hk => hk.2) (.slice Ao42 t1545.length co42)) (fun _ hk => hk.2) (.slice Ao43 t1548.length co43)) (fun _ hk => hk.2) (.int .i64 t1551)) (fun _ hk => hk.2) (.slice Ao44 t1552.length co44)) (fun _ hk => hk.2) (.string t1555)) (fun _ hk => hk.2) (.int .i64 t1556)) (fun _ h_ => h_.1)))); (case side12 => exact (Kd.R_reads' HO_1523004.out).2.1); rintro e w52 ⟨rfl, hb⟩; refine ⟨_, rfl, ?_⟩; have n0_ := am (Kd.R_below (by (with_reducible repeat (first | apply Kd.R_alloc | apply Kd.R_drewN | apply Kd.R_drew)); exact (Kd.R_mono (Kd.R_far (p := ⟨gb1558, 6, none⟩) (Kd.R_far (p := ⟨gb1558, 5, none⟩) (Kd.R_far (p := ⟨gb1558, 4, none⟩) (Kd.R_far (p := ⟨gb1558, 3, none⟩) (Kd.R_far (p := ⟨gb1558, 2, none⟩) (Kd.R_far (p := ⟨gb1558, 1, none⟩) (Kd.R_far (p := ⟨gb1558, 0, none⟩) (Kd.R_types HO_1523001.out BK1558.out (by decide)) (fun _ hk => hk.2) (.string t1544)) (fun _ hk => hk.2) (.slice Ao42 t1545.length co42)) (fun _ hk => hk.2) (.slice Ao43 t1548.length co43)) (fun _ hk => hk.2) (.int .i64 t1551)) (fun _ hk => hk.2) (.slice Ao44 t1552.length co44)) (fun _ hk => hk.2) (.string t1555)) (fun _ hk => hk.2) (.int .i64 t1556)) (fun _ h_ => h_.1))) hb); have n1_ := am (Kd.R_below (by (with_reducible repeat (first | apply Kd.R_alloc | apply Kd.R_drewN | apply Kd.R_drew)); exact (Kd.R_mono (Kd.R_far (p := ⟨gb1558, 6, none⟩) (Kd.R_far (p := ⟨gb1558, 5, none⟩) (Kd.R_far (p := ⟨gb1558, 4, none⟩) (Kd.R_far (p := ⟨gb1558, 3, none⟩) (Kd.R_far (p := ⟨gb1558, 2, none⟩) (Kd.R_far (p := ⟨gb1558, 1, none⟩) (Kd.R_far (p := ⟨gb1558, 0, none⟩) (Kd.R_types HO_1523002.out BK1558.out (by decide)) (fun _ hk => hk.2) (.string t1544)) (fun _ hk => hk.2) (.slice Ao42 t1545.length co42)) (fun _ hk => hk.2) (.slice Ao43 t1548.length co43)) (fun _ hk => hk.2) (.int .i64 t1551)) (fun _ hk => hk.2) (.slice Ao44 t1552.length co44)) (fun _ hk => hk.2) (.string t1555)) (fun _ hk => hk.2) (.int .i64 t1556)) (fun _ h_ => h_.1))) hb); have n2_ := am (Kd.R_below (by (with_reducible repeat (first | apply Kd.R_alloc | apply Kd.R_drewN | apply Kd.R_drew)); exact (Kd.R_mono (Kd.R_far (p := ⟨gb1558, 6, none⟩) (Kd.R_far (p := ⟨gb1558, 5, none⟩) (Kd.R_far (p := ⟨gb1558, 4, none⟩) (Kd.R_far (p := ⟨gb1558, 3, none⟩) (Kd.R_far (p := ⟨gb1558, 2, none⟩) (Kd.R_far (p := ⟨gb1558, 1, none⟩) (Kd.R_far (p := ⟨gb1558, 0, none⟩) (Kd.R_types HO_1523004.out BK1558.out (by decide)) (fun _ hk => hk.2) (.string t1544)) (fun _ hk => hk.2) (.slice Ao42 t1545.length co42)) (fun _ hk => hk.2) (.slice Ao43 t1548.length co43)) (fun _ hk => hk.2) (.int .i64 t1551)) (fun _ hk => hk.2) (.slice Ao44 t1552.length co44)) (fun _ hk => hk.2) (.string t1555)) (fun _ hk => hk.2) (.int .i64 t1556)) (fun _ h_ => h_.1))) hb); have n3_ := am (Kd.R_below (by (with_reducible repeat (first | apply Kd.R_alloc | apply Kd.R_drewN | apply Kd.R_drew)); exact (Kd.R_mono (Kd.R_far (p := ⟨gb1558, 6, none⟩) (Kd.R_far (p := ⟨gb1558, 5, none⟩) (Kd.R_far (p := ⟨gb1558, 4, none⟩) (Kd.R_far (p := ⟨gb1558, 3, none⟩) (Kd.R_far (p := ⟨gb1558, 2, none⟩) (Kd.R_far (p := ⟨gb1558, 1, none⟩) (Kd.R_far (p := ⟨gb1558, 0, none⟩) (Kd.R_types HO_1538001.out BK1558.out (by decide)) (fun _ hk => hk.2) (.string t1544)) (fun _ hk => hk.2) (.slice Ao42 t1545.length co42)) (fun _ hk => hk.2) (.slice Ao43 t1548.length co43)) (fun _ hk => hk.2) (.int .i64 t1551)) (fun _ hk => hk.2) (.slice Ao44 t1552.length co44)) (fun _ hk => hk.2) (.string t1555)) (fun _ hk => hk.2) (.int .i64 t1556)) (fun _ h_ => h_.1))) hb); have n4_ := am (Kd.R_below (by (with_reducible repeat (first | apply Kd.R_alloc | apply Kd.R_drewN | apply Kd.R_drew)); exact (Kd.R_mono (Kd.R_far (p := ⟨gb1558, 6, none⟩) (Kd.R_far (p := ⟨gb1558, 5, none⟩) (Kd.R_far (p := ⟨gb1558, 4, none⟩) (Kd.R_far (p := ⟨gb1558, 3, none⟩) (Kd.R_far (p := ⟨gb1558, 2, none⟩) (Kd.R_far (p := ⟨gb1558, 1, none⟩) (Kd.R_far (p := ⟨gb1558, 0, none⟩) (Kd.R_types HO_1538002.out BK1558.out (by decide)) (fun _ hk => hk.2) (.string t1544)) (fun _ hk => hk.2) (.slice Ao42 t1545.length co42)) (fun _ hk => hk.2) (.slice Ao43 t1548.length co43)) (fun _ hk => hk.2) (.int .i64 t1551)) (fun _ hk => hk.2) (.slice Ao44 t1552.length co44)) (fun _ hk => hk.2) (.string t1555)) (fun _ hk => hk.2) (.int .i64 t1556)) (fun _ h_ => h_.1))) hb); have n5_ := am (Kd.R_below (by (with_reducible repeat (first | apply Kd.R_alloc | apply Kd.R_drewN | apply Kd.R_drew)); exact (Kd.R_mono (Kd.R_far (p := ⟨gb1558, 6, none⟩) (Kd.R_far (p := ⟨gb1558, 5, none⟩) (Kd.R_far (p := ⟨gb1558, 4, none⟩) (Kd.R_far (p := ⟨gb1558, 3, none⟩) (Kd.R_far (p := ⟨gb1558, 2, none⟩) (Kd.R_far (p := ⟨gb1558, 1, none⟩) (Kd.R_far (p := ⟨gb1558, 0, none⟩) (Kd.R_types HO_1538004.out BK1558.out (by decide)) (fun _ hk => hk.2) (.string t1544)) (fun _ hk => hk.2) (.slice Ao42 t1545.length co42)) (fun _ hk => hk.2) (.slice Ao43 t1548.length co43)) (fun _ hk => hk.2) (.int .i64 t1551)) (fun _ hk => hk.2) (.slice Ao44 t1552.length co44)) (fun _ hk => hk.2) (.string t1555)) (fun _ hk => hk.2) (.int .i64 t1556)) (fun _ h_ => h_.1))) hb); have n6_ := am (Kd.R_below (by (with_reducible repeat (first | apply Kd.R_alloc | apply Kd.R_drewN | apply Kd.R_drew)); exact (Kd.R_mono (Kd.R_far (p := ⟨gb1558, 6, none⟩) (Kd.R_far (p := ⟨gb1558, 5, none⟩) (Kd.R_far (p := ⟨gb1558, 4, none⟩) (Kd.R_far (p := ⟨gb1558, 3, none⟩) (Kd.R_far (p := ⟨gb1558, 2, none⟩) (Kd.R_far (p := ⟨gb1558, 1, none⟩) (Kd.R_far (p := ⟨gb1558, 0, none⟩) (Kd.R_types HO1547.out BK1558.out (by decide)) (fun _ hk => hk.2) (.string t1544)) (fun _ hk => hk.2) (.slice Ao42 t1545.length co42)) (fun _ hk => hk.2) (.slice Ao43 t1548.length co43)) (fun _ hk => hk.2) (.int .i64 t1551)) (fun _ hk => hk.2) (.slice Ao44 t1552.length co44)) (fun _ hk => hk.2) (.string t1555)) (fun _ hk => hk.2) (.int .i64 t1556)) (fun _ h_ => h_.1))) hb); have n7_ := am (Kd.R_below (by (with_reducible repeat (first | apply Kd.R_alloc | apply Kd.R_drewN | apply Kd.R_drew)); exact (Kd.R_mono (Kd.R_far (p := ⟨gb1558, 6, none⟩) (Kd.R_far (p := ⟨gb1558, 5, none⟩) (Kd.R_far (p := ⟨gb1558, 4, none⟩) (Kd.R_far (p := ⟨gb1558, 3, none⟩) (Kd.R_far (p := ⟨gb1558, 2, none⟩) (Kd.R_far (p := ⟨gb1558, 1, none⟩) (Kd.R_far (p := ⟨gb1558, 0, none⟩) (Kd.R_types HO1550.out BK1558.out (by decide)) (fun _ hk => hk.2) (.string t1544)) (fun _ hk => hk.2) (.slice Ao42 t1545.length co42)) (fun _ hk => hk.2) (.slice Ao43 t1548.length co43)) (fun _ hk => hk.2) (.int .i64 t1551)) (fun _ hk => hk.2) (.slice Ao44 t1552.length co44)) (fun _ hk => hk.2) (.string t1555)) (fun _ hk => hk.2) (.int .i64 t1556)) (fun _ h_ => h_.1))) hb); have n8_ := am (Kd.R_below (by (with_reducible repeat (first | apply Kd.R_alloc | apply Kd.R_drewN | apply Kd.R_drew)); exact (Kd.R_mono (Kd.R_far (p := ⟨gb1558, 6, none⟩) (Kd.R_far (p := ⟨gb1558, 5, none⟩) (Kd.R_far (p := ⟨gb1558, 4, none⟩) (Kd.R_far (p := ⟨gb1558, 3, none⟩) (Kd.R_far (p := ⟨gb1558, 2, none⟩) (Kd.R_far (p := ⟨gb1558, 1, none⟩) (Kd.R_far (p := ⟨gb1558, 0, none⟩) (Kd.R_types HO1554.out BK1558.out (by decide)) (fun _ hk => hk.2) (.string t1544)) (fun _ hk => hk.2) (.slice Ao42 t1545.length co42)) (fun _ hk => hk.2) (.slice Ao43 t1548.length co43)) (fun _ hk => hk.2) (.int .i64 t1551)) (fun _ hk => hk.2) (.slice Ao44 t1552.length co44)) (fun _ hk => hk.2) (.string t1555)) (fun _ hk => hk.2) (.int .i64 t1556)) (fun _ h_ => h_.1))) hb); have n9_ := kg1 BK1522 NB1522_1558 hb; have n10_ := kg1 BK1537 NB1537_1558 hb; have n11_ := am (blk_below (g := gb1558) (o := .cells #[.string t1544, .slice Ao42 t1545.length co42, .slice Ao43 t1548.length co43, .int .i64 t1551, .slice Ao44 t1552.length co44, .string t1555, .int .i64 t1556] 31 (0, 0)) (pt0 BK1558) hb); have n12_ := am (below_step bl hb); clear HO_1523001; clear HO_1523002; clear HO_1523004; clear HO_1538001; clear HO_1538002; clear HO_1538004; clear HO1547; clear HO1550; clear HO1554; clear BK1522; clear BK1537; clear BK1558; clear HB; have HO_1523001 := n0_; have HO_1523002 := n1_; have HO_1523004 := n2_; have HO_1538001 := n3_; have HO_1538002 := n4_; have HO_1538004 := n5_; have HO1547 := n6_; have HO1550 := n7_; have HO1554 := n8_; have BK1522 := n9_; have BK1537 := n10_; have BK1558 := n11_; have HB := n12_; clear n0_ n1_ n2_ n3_ n4_ n5_ n6_ n7_ n8_ n9_ n10_ n11_ n12_; clear hb))
    go_meet
    case rel => exact ⟨_, ((t1557 != t1521)), rs, H', ⟨by have := HJ4.out; first | omega | exact Nat.le_refl _⟩, ⟨by (with_reducible repeat (first | apply Kd.R_alloc | apply Kd.R_drewN | apply Kd.R_drew)); exact Kd.R_mono HO_1523001.out (fun _ hk => ⟨hk.1.1.1, ⟨hk.1.1.2.1, ⟨hk.1.1.2.2, ⟨hk.1.2, hk.2⟩⟩⟩⟩)⟩, ⟨by (with_reducible repeat (first | apply Kd.R_alloc | apply Kd.R_drewN | apply Kd.R_drew)); exact Kd.R_mono HO_1523002.out (fun _ hk => ⟨hk.1.1.1, ⟨hk.1.1.2.1, ⟨hk.1.1.2.2, ⟨hk.1.2, hk.2⟩⟩⟩⟩)⟩, ⟨by (with_reducible repeat (first | apply Kd.R_alloc | apply Kd.R_drewN | apply Kd.R_drew)); exact HO_1523004.out⟩, ⟨by (with_reducible repeat (first | apply Kd.R_alloc | apply Kd.R_drewN | apply Kd.R_drew)); exact Kd.R_mono HO_1538001.out (fun _ hk => ⟨hk.1.1.1, ⟨hk.1.1.2.1, ⟨hk.1.1.2.2, ⟨hk.1.2, hk.2⟩⟩⟩⟩)⟩, ⟨by (with_reducible repeat (first | apply Kd.R_alloc | apply Kd.R_drewN | apply Kd.R_drew)); exact Kd.R_mono HO_1538002.out (fun _ hk => ⟨hk.1.1.1, ⟨hk.1.1.2.1, ⟨hk.1.1.2.2, ⟨hk.1.2, hk.2⟩⟩⟩⟩)⟩, ⟨by (with_reducible repeat (first | apply Kd.R_alloc | apply Kd.R_drewN | apply Kd.R_drew)); exact HO_1538004.out⟩, ⟨by (with_reducible repeat (first | apply Kd.R_alloc | apply Kd.R_drewN | apply Kd.R_drew)); exact Kd.R_mono HO1547.out (fun _ hk => ⟨hk.1.1.1.2, ⟨hk.1.1.2, ⟨hk.1.2, ⟨hk.2, hk.1.1.1.1⟩⟩⟩⟩)⟩, ⟨by (with_reducible repeat (first | apply Kd.R_alloc | apply Kd.R_drewN | apply Kd.R_drew)); exact Kd.R_mono HO1550.out (fun _ hk => ⟨hk.1.1.1.2, ⟨hk.1.1.2, ⟨hk.1.2, ⟨hk.2, hk.1.1.1.1⟩⟩⟩⟩)⟩, ⟨by (with_reducible repeat (first | apply Kd.R_alloc | apply Kd.R_drewN | apply Kd.R_drew)); exact Kd.R_mono HO1554.out (fun _ hk => ⟨hk.1.2, hk.2⟩)⟩, ⟨by (with_reducible repeat (first | refine blk_drewN ?_ _ | refine blk_drew ?_ | refine blk_alloc ?_ _)); exact BK1522.out⟩, ⟨by (with_reducible repeat (first | refine blk_drewN ?_ _ | refine blk_drew ?_ | refine blk_alloc ?_ _)); exact BK1537.out⟩, ⟨by (with_reducible repeat (first | refine blk_drewN ?_ _ | refine blk_drew ?_ | refine blk_alloc ?_ _)); exact BK1558.out⟩, ⟨u6HB⟩⟩
   case rest =>
    clear HC31
    try clear c1
    try clear c2
    try clear c2b0
    try clear c2b1
    try clear p2
    try clear c3
    try clear c4
    try clear c5
    try clear c6
    try clear c14
    try clear c20
    try clear c21
    try clear c25
    try clear c28
    try clear c28b0
    try clear c29
    try clear c29b0
    try clear c29b1
    try clear c32
    try clear c37
    try clear c38
    try clear c39
    try clear c40
    try clear c41
    try clear c46
    try clear c47
    try clear c48
    try clear c50
    try clear z15_0
    try clear z15_1
    try clear z15_2
    try clear z15_3
    try clear z15_4
    try clear z15_5
    try clear z15_6
    try clear z22_0
    try clear z22_1
    try clear z22_2
    try clear z22_3
    try clear z22_4
    try clear z22_5
    try clear z22_6
    try clear z23_0
    try clear z23_1
    try clear z23_2
    try clear z23_3
    try clear z23_4
    try clear z23_5
    try clear z23_6
    try clear z33_0
    try clear z33_1
    try clear z33_2
    try clear z33_3
    try clear z33_4
    try clear z33_5
    try clear z33_6
    try clear z35_0
    try clear z35_1
    try clear z35_2
    try clear z35_3
    try clear z35_4
    try clear z35_5
    try clear z35_6
    try clear z41_0
    try clear z41_1
    try clear z41_2
    try clear z41_3
    try clear z41_4
    try clear z41_5
    try clear z41_6
    try clear z49_0
    try clear z49_1
    try clear z49_2
    try clear z49_3
    try clear z49_4
    try clear z49_5
    try clear z49_6
    try clear z51_0
    try clear z51_1
    try clear z51_2
    try clear z51_3
    try clear z51_4
    try clear z51_5
    try clear z51_6
    try clear z8_0
    try clear z8_1
    try clear z8_2
    try clear z8_3
    try clear z8_4
    try clear z8_5
    try clear z8_6
    try clear y15_0
    try clear y15_1
    try clear y15_2
    try clear y15_3
    try clear y15_4
    try clear y15_5
    try clear y15_6
    try clear y22_0
    try clear y22_1
    try clear y22_2
    try clear y22_3
    try clear y22_4
    try clear y22_5
    try clear y22_6
    try clear y23_0
    try clear y23_1
    try clear y23_2
    try clear y23_3
    try clear y23_4
    try clear y23_5
    try clear y23_6
    try clear y33_0
    try clear y33_1
    try clear y33_2
    try clear y33_3
    try clear y33_4
    try clear y33_5
    try clear y33_6
    try clear y35_0
    try clear y35_1
    try clear y35_2
    try clear y35_3
    try clear y35_4
    try clear y35_5
    try clear y35_6
    try clear y41_0
    try clear y41_1
    try clear y41_2
    try clear y41_3
    try clear y41_4
    try clear y41_5
    try clear y41_6
    try clear y49_0
    try clear y49_1
    try clear y49_2
    try clear y49_3
    try clear y49_4
    try clear y49_5
    try clear y49_6
    try clear y51_0
    try clear y51_1
    try clear y51_2
    try clear y51_3
    try clear y51_4
    try clear y51_5
    try clear y51_6
    try clear y8_0
    try clear y8_1
    try clear y8_2
    try clear y8_3
    try clear y8_4
    try clear y8_5
    try clear y8_6
    try clear p2
    obtain ⟨kq, x57_30, rfl, HA, HJ30, HO_1523001, HO_1523002, HO_1523004, HO_1538001, HO_1538002, HO_1538004, HO_1559001, HO_1559002, HO_1559004, BK1522, BK1537, BK1558, HB⟩ := hcut
    have hl1538001_30 := (Kd.R_reads' HO_1538001.out).1
    rw [hl1538001_30] at HO_1538001
    (try simp only [hl1538001_30])
    (try simp only [hl1538001_30] at BK1522)
    (try simp only [hl1538001_30] at BK1537)
    (try simp only [hl1538001_30] at BK1558)
    (try simp only [hl1538001_30] at HO_1523001)
    (try simp only [hl1538001_30] at HO_1523002)
    (try simp only [hl1538001_30] at HO_1523004)
    (try simp only [hl1538001_30] at HO_1538002)
    (try simp only [hl1538001_30] at HO_1538004)
    (try simp only [hl1538001_30] at HO_1559001)
    (try simp only [hl1538001_30] at HO_1559002)
    (try simp only [hl1538001_30] at HO_1559004)
    have hl1538002_30 := (Kd.R_reads' HO_1538002.out).1
    rw [hl1538002_30] at HO_1538002
    (try simp only [hl1538002_30])
    (try simp only [hl1538002_30] at BK1522)
    (try simp only [hl1538002_30] at BK1537)
    (try simp only [hl1538002_30] at BK1558)
    (try simp only [hl1538002_30] at HO_1523001)
    (try simp only [hl1538002_30] at HO_1523002)
    (try simp only [hl1538002_30] at HO_1523004)
    (try simp only [hl1538002_30] at HO_1538001)
    (try simp only [hl1538002_30] at HO_1538004)
    (try simp only [hl1538002_30] at HO_1559001)
    (try simp only [hl1538002_30] at HO_1559002)
    (try simp only [hl1538002_30] at HO_1559004)
    have hl1538004_30 := (Kd.R_reads' HO_1538004.out).1
    rw [hl1538004_30] at HO_1538004
    (try simp only [hl1538004_30])
    (try simp only [hl1538004_30] at BK1522)
    (try simp only [hl1538004_30] at BK1537)
    (try simp only [hl1538004_30] at BK1558)
    (try simp only [hl1538004_30] at HO_1523001)
    (try simp only [hl1538004_30] at HO_1523002)
    (try simp only [hl1538004_30] at HO_1523004)
    (try simp only [hl1538004_30] at HO_1538001)
    (try simp only [hl1538004_30] at HO_1538002)
    (try simp only [hl1538004_30] at HO_1559001)
    (try simp only [hl1538004_30] at HO_1559002)
    (try simp only [hl1538004_30] at HO_1559004)
    cases kq with
    | zero => exact absurd HA.out (by simp [laws_FnExactObjRead.j1])
    | succ kj30 =>
     have H := HA.out
     clear HA
     simp only [laws_FnExactObjRead.j1] at H
     by_cases c53 : x57_30 = true
     ·subst c53
      rw [if_pos rfl] at H
      exact absurd (Option.some.inj H) (by rw [ht_]; decide)
     replace c53 := Bool.eq_false_iff.mpr c53
     subst c53
     rw [if_neg (show ¬ (false = true) by decide)] at H
     revert H
     refine ok1 fun t1560 A54 H => ?_
     by_cases c55 : t1560 < 0
     ·rw [if_pos c55] at H
      have c55b0 := decide_eq_true c55
      clear c55
      exact absurd (Option.some.inj H) (by rw [ht_]; decide)
     rw [if_neg c55] at H
     have c55b0 := decide_eq_false c55
     clear c55
     by_cases c56 : t1560 = t1539
     rotate_left
     ·rw [if_neg c56] at H
      have c56b0 : (t1560 == t1539) = false := beq_eq_false_iff_ne.mpr c56
      have c56b1 : (t1560 != t1539) = true := bne_iff_ne.mpr c56
      exact absurd (Option.some.inj H) (by rw [ht_]; decide)
     rw [if_pos c56] at H
     have c56b0 : (t1560 == t1539) = true := beq_iff_eq.mpr c56
     have c56b1 : (t1560 != t1539) = false := bne_eq_false_iff_eq.mpr c56
     clear c56
     obtain rfl := Option.some.inj H
     have hnb57 := NB1537_1522.out
     have hnc57 := NB1522_1537.out
     have hnb58 := NB1537_1558.out
     have hnc58 := NB1558_1537.out
     obtain ⟨z59_0, y59_0, z59_1, y59_1, z59_2, y59_2, z59_3, y59_3, z59_4, y59_4, z59_5, y59_5, z59_6, y59_6⟩ := cl7 BK1537
     go_wp2_with ((with_reducible refine gw ?_); first | (refine gl 60 Tryz.func41 #[.agg #[.string t1523, .slice Ao16 t1540.length co16, .slice Ao17 t1541.length co17, .int .i64 t1530, .slice Ao18 t1542.length co18, .string t1534, .int .i64 t1535], .int .i64 1] ?_; (with_reducible refine (laws_heldObj.calls kj30 t1523 _ _ t1540 _ _ t1541 t1530 _ _ t1542 t1534 t1535 1 t1560 _ ?side1 ?side2 ?side3 ?side4 ?side5 ?side6 A54.out).mono ?_); (case side1 => exact rc HO_1538001); (case side2 => exact (Kd.R_reads' HO_1538001.out).2.1); (case side3 => exact rc HO_1538002); (case side4 => exact (Kd.R_reads' HO_1538002.out).2.1); (case side5 => exact rc HO_1538004); (case side6 => exact (Kd.R_reads' HO_1538004.out).2.1); rintro e w60 ⟨rfl, hb⟩; refine ⟨_, rfl, ?_⟩; replace HO_1523001 := kr HO_1523001 hb; replace HO_1523002 := kr HO_1523002 hb; replace HO_1523004 := kr HO_1523004 hb; replace HO_1538001 := kr HO_1538001 hb; replace HO_1538002 := kr HO_1538002 hb; replace HO_1538004 := kr HO_1538004 hb; replace HO_1559001 := kr HO_1559001 hb; replace HO_1559002 := kr HO_1559002 hb; replace HO_1559004 := kr HO_1559004 hb; replace BK1522 := kb BK1522 hb; replace BK1537 := kb BK1537 hb; replace BK1558 := kb BK1558 hb; replace HB := am (below_step bl hb); clear hb))
     go_ret
     exact ⟨rf, bl⟩

end Go.Proofs.YtjlpjbkpmmpojaaGreatDoor.All
