-- Written by a program of this session (wip/tools/hprint.py) out of the translation. Lean checks it.
import Derived.Test.YtjlpjbkpmmpojaaGreatDoorAllx0
import Derived.Test.YtjlpjbkpmmpojaaGreatDoorAllx14
import Derived.Test.YtjlpjbkpmmpojaaGreatDoorAllx33
import Derived.Test.YtjlpjbkpmmpojaaGreatDoorAllx34
import Derived.Test.YtjlpjbkpmmpojaaGreatDoorAllx36
import Derived.Test.YtjlpjbkpmmpojaaGreatDoorAllx37
namespace Go.Proofs.YtjlpjbkpmmpojaaGreatDoor.All
open Go.RowKit Go.Proofs.YtjlpjbkpmmpojaaGreatDoorW.PrintWords Go.Proofs.YtjlpjbkpmmpojaaGreatDoorW.PrintLast Go.Proofs.YtjlpjbkpmmpojaaGreatDoorW.PrintMore
attribute [local go_sem] max2_int min2_int max_two min_two max_three min_three max_four min_four   -- for this text's walks alone
set_option linter.unusedVariables false
set_option linter.unusedSimpArgs false

/-! ### laws_FnExactObjOf: function 7 -/
theorem u7HB {p : Prop} (h : p := by repeat (first | (with_reducible first | exact HB.out | apply below_alloc | apply pw_below_drewN | apply below_drew1 | refine below_set ?_ GE1622.out | refine below_set ?_ GE1623.out | refine below_set ?_ GE1651.out | refine below_set ?_ GE1658.out | refine below_set ?_ GE1664.out | refine below_set ?_ GE1679.out | refine below_set ?_ GE1729.out) | exact HB.out)) : p := h
mutual
def laws_FnExactObjOf.j0 : Nat → Int → Bool → Bool → Bool → Int → ByteArray → List (S163) → ByteArray → Int → List (S163) → ByteArray → ByteArray → List ByteArray → List ByteArray → Int → List (S116) → ByteArray → Int → Int → ByteArray → List (S116) → ByteArray → Int → List (S116) → ByteArray → ByteArray → List ByteArray → List ByteArray → Int → List (S116) → ByteArray → Int → Option (Bool)
 | 0, _, _, _, _, _, _, _, _, _, _, _, _, _, _, _, _, _, _, _, _, _, _, _, _, _, _, _, _, _, _, _, _ => none
 | k + 1, x2, x9, x13, x57, x1623000, x1623001, x1623002, x1623003, x1624000, x1624001, x1624002, x1652000, x1652001, x1652002, x1652003, x1652004, x1652005, x1652006, x1659000, x1659001, x1659002, x1659003, x1665000, x1665001, x1665002, x1680000, x1680001, x1680002, x1680003, x1680004, x1680005, x1680006 => if x57 = true then (some false) else ((laws_toReq.f k x1623000 x1623001 x1623002 x1623003).bind fun bt1681 => ((laws_eqReq.f k x1659000 x1659001 x1659002 x1659003 bt1681.1 bt1681.2.1 bt1681.2.2.1 bt1681.2.2.2).bind fun t1687 => (if t1687 = true then ((laws_toResp.f k x1624000 x1624001 x1624002).bind fun bt1688 => ((laws_eqResp.f k x1665000 x1665001 x1665002 bt1688.1 bt1688.2.1 bt1688.2.2).bind fun t1693 => (if t1693 = true then ((laws_markReq.f k x1659000 x1659001 x1659002 x1659003 1).bind fun bt1694 => ((laws_markResp.f k x1665000 x1665001 x1665002 bt1694.1).bind fun bt1696 => (if bt1696.1 < 0 then (laws_FnExactObjOf.j1 k x2 x9 true x1623000 x1623001 x1623002 x1623003 x1624000 x1624001 x1624002 x1652000 x1652001 x1652002 x1652003 x1652004 x1652005 x1652006 x1680000 x1680001 x1680002 x1680003 x1680004 x1680005 x1680006) else ((laws_eqObj.f k x1680000 x1680001 x1680002 x1680003 x1680004 x1680005 x1680006 x1652000 x1652001 x1652002 x1652003 x1652004 x1652005 x1652006).bind fun t1698 => (if t1698 = true then (laws_FnExactObjOf.j1 k x2 x9 (x13 != x9) x1623000 x1623001 x1623002 x1623003 x1624000 x1624001 x1624002 x1652000 x1652001 x1652002 x1652003 x1652004 x1652005 x1652006 x1680000 x1680001 x1680002 x1680003 x1680004 x1680005 x1680006) else (laws_FnExactObjOf.j1 k x2 x9 true x1623000 x1623001 x1623002 x1623003 x1624000 x1624001 x1624002 x1652000 x1652001 x1652002 x1652003 x1652004 x1652005 x1652006 x1680000 x1680001 x1680002 x1680003 x1680004 x1680005 x1680006)))))) else (some false)))) else (some false))))
def laws_FnExactObjOf.j1 : Nat → Int → Bool → Bool → Int → ByteArray → List (S163) → ByteArray → Int → List (S163) → ByteArray → ByteArray → List ByteArray → List ByteArray → Int → List (S116) → ByteArray → Int → ByteArray → List ByteArray → List ByteArray → Int → List (S116) → ByteArray → Int → Option (Bool)
 | 0, _, _, _, _, _, _, _, _, _, _, _, _, _, _, _, _, _, _, _, _, _, _, _, _ => none
 | k + 1, x2, x9, x86, x1623000, x1623001, x1623002, x1623003, x1624000, x1624001, x1624002, x1652000, x1652001, x1652002, x1652003, x1652004, x1652005, x1652006, x1680000, x1680001, x1680002, x1680003, x1680004, x1680005, x1680006 => if x86 = true then (some false) else ((laws_markObj.f k x1680000 x1680001 x1680002 x1680003 x1680004 x1680005 x1680006 1).bind fun bt1699 => ((laws_heldObj.f k x1680000 bt1699.2.1 bt1699.2.2.1 x1680003 bt1699.2.2.2 x1680005 x1680006 1).bind fun t1703 => (if t1703 < 0 then (some false) else (if t1703 = bt1699.1 then ((laws_toReq.f k x1623000 x1623001 x1623002 x1623003).bind fun bt1704 => ((laws_toResp.f k x1624000 x1624001 x1624002).bind fun bt1710 => ((impl_ObjOf.f k bt1704.1 bt1704.2.1 bt1704.2.2.1 bt1704.2.2.2 bt1710.1 bt1710.2.1 bt1710.2.2 x2).bind fun bt1715 => ((laws_eqObj.f k bt1715.1 bt1715.2.1 bt1715.2.2.1 bt1715.2.2.2.1 bt1715.2.2.2.2.1 bt1715.2.2.2.2.2.1 bt1715.2.2.2.2.2.2.1 x1652000 x1652001 x1652002 x1652003 x1652004 x1652005 x1652006).bind fun t1730 => (if t1730 = true then (laws_FnExactObjOf.j2 k bt1699.1 (bt1715.2.2.2.2.2.2.2 != x9) x1680000 bt1699.2.1 bt1699.2.2.1 x1680003 bt1699.2.2.2 x1680005 x1680006) else (laws_FnExactObjOf.j2 k bt1699.1 true x1680000 bt1699.2.1 bt1699.2.2.1 x1680003 bt1699.2.2.2 x1680005 x1680006)))))) else (some false)))))
def laws_FnExactObjOf.j2 : Nat → Int → Bool → ByteArray → List ByteArray → List ByteArray → Int → List (S116) → ByteArray → Int → Option (Bool)
 | 0, _, _, _, _, _, _, _, _, _ => none
 | k + 1, x15, x115, x1680000, x1680001, x1680002, x1680003, x1680004, x1680005, x1680006 => if x115 = true then (some false) else ((laws_heldObj.f k x1680000 x1680001 x1680002 x1680003 x1680004 x1680005 x1680006 1).bind fun t1731 => (if t1731 < 0 then (some false) else (if t1731 = x15 then (some true) else (some false))))
end
def laws_FnExactObjOf.f (k : Nat) (a0_0 : Int) (a0_1 : ByteArray) (l0_2 : List (S163)) (a0_3 : ByteArray) (a1_0 : Int) (l1_1 : List (S163)) (a1_2 : ByteArray) (a2 : Int) : Option (Bool) := (laws_szReq.f k a0_0 a0_1 l0_2 a0_3 1048576).bind fun t1624 => (if t1624 < 0 then (some true) else ((laws_szResp.f k a1_0 l1_1 a1_2 t1624).bind fun t1625 => (if t1625 < 0 then (some true) else ((laws_toReq.f k a0_0 a0_1 l0_2 a0_3).bind fun bt1626 => ((laws_toResp.f k a1_0 l1_1 a1_2).bind fun bt1632 => ((spec_ObjOf.f k bt1626.1 bt1626.2.1 bt1626.2.2.1 bt1626.2.2.2 bt1632.1 bt1632.2.1 bt1632.2.2 a2).bind fun bt1637 => ((laws_toReq.f k a0_0 a0_1 l0_2 a0_3).bind fun bt1652 => ((laws_toResp.f k a1_0 l1_1 a1_2).bind fun bt1659 => ((impl_ObjOf.f k bt1652.1 bt1652.2.1 bt1652.2.2.1 bt1652.2.2.2 bt1659.1 bt1659.2.1 bt1659.2.2 a2).bind fun bt1665 => ((laws_eqObj.f k bt1665.1 bt1665.2.1 bt1665.2.2.1 bt1665.2.2.2.1 bt1665.2.2.2.2.1 bt1665.2.2.2.2.2.1 bt1665.2.2.2.2.2.2.1 bt1637.1 bt1637.2.1 bt1637.2.2.1 bt1637.2.2.2.1 bt1637.2.2.2.2.1 bt1637.2.2.2.2.2.1 bt1637.2.2.2.2.2.2.1).bind fun t1680 => (if t1680 = true then (laws_FnExactObjOf.j0 k a2 bt1637.2.2.2.2.2.2.2 bt1665.2.2.2.2.2.2.2 (bt1665.2.2.2.2.2.2.2 != bt1637.2.2.2.2.2.2.2) a0_0 a0_1 l0_2 a0_3 a1_0 l1_1 a1_2 bt1637.1 bt1637.2.1 bt1637.2.2.1 bt1637.2.2.2.1 bt1637.2.2.2.2.1 bt1637.2.2.2.2.2.1 bt1637.2.2.2.2.2.2.1 bt1652.1 bt1652.2.1 bt1652.2.2.1 bt1652.2.2.2 bt1659.1 bt1659.2.1 bt1659.2.2 bt1665.1 bt1665.2.1 bt1665.2.2.1 bt1665.2.2.2.1 bt1665.2.2.2.2.1 bt1665.2.2.2.2.2.1 bt1665.2.2.2.2.2.2.1) else (laws_FnExactObjOf.j0 k a2 bt1637.2.2.2.2.2.2.2 bt1665.2.2.2.2.2.2.2 true a0_0 a0_1 l0_2 a0_3 a1_0 l1_1 a1_2 bt1637.1 bt1637.2.1 bt1637.2.2.1 bt1637.2.2.2.1 bt1637.2.2.2.2.1 bt1637.2.2.2.2.2.1 bt1637.2.2.2.2.2.2.1 bt1652.1 bt1652.2.1 bt1652.2.2.1 bt1652.2.2.2 bt1659.1 bt1659.2.1 bt1659.2.2 bt1665.1 bt1665.2.1 bt1665.2.2.1 bt1665.2.2.2.1 bt1665.2.2.2.2.1 bt1665.2.2.2.2.2.1 bt1665.2.2.2.2.2.2.1))))))))))))
theorem laws_FnExactObjOf.mono_l : ∀ k, (∀ y0 y1 y2 y3 y4 y5 y6 y7 y8 y9 y10 y11 y12 y13 y14 y15 y16 y17 y18 y19 y20 y21 y22 y23 y24 y25 y26 y27 y28 y29 y30 y31, LeO (laws_FnExactObjOf.j0 k y0 y1 y2 y3 y4 y5 y6 y7 y8 y9 y10 y11 y12 y13 y14 y15 y16 y17 y18 y19 y20 y21 y22 y23 y24 y25 y26 y27 y28 y29 y30 y31) (laws_FnExactObjOf.j0 (k + 1) y0 y1 y2 y3 y4 y5 y6 y7 y8 y9 y10 y11 y12 y13 y14 y15 y16 y17 y18 y19 y20 y21 y22 y23 y24 y25 y26 y27 y28 y29 y30 y31)) ∧ (∀ y0 y1 y2 y3 y4 y5 y6 y7 y8 y9 y10 y11 y12 y13 y14 y15 y16 y17 y18 y19 y20 y21 y22 y23, LeO (laws_FnExactObjOf.j1 k y0 y1 y2 y3 y4 y5 y6 y7 y8 y9 y10 y11 y12 y13 y14 y15 y16 y17 y18 y19 y20 y21 y22 y23) (laws_FnExactObjOf.j1 (k + 1) y0 y1 y2 y3 y4 y5 y6 y7 y8 y9 y10 y11 y12 y13 y14 y15 y16 y17 y18 y19 y20 y21 y22 y23)) ∧ (∀ y0 y1 y2 y3 y4 y5 y6 y7 y8, LeO (laws_FnExactObjOf.j2 k y0 y1 y2 y3 y4 y5 y6 y7 y8) (laws_FnExactObjOf.j2 (k + 1) y0 y1 y2 y3 y4 y5 y6 y7 y8))
 | 0 => ⟨fun _ _ _ _ _ _ _ _ _ _ _ _ _ _ _ _ _ _ _ _ _ _ _ _ _ _ _ _ _ _ _ _ r h => by simp [laws_FnExactObjOf.j0] at h, fun _ _ _ _ _ _ _ _ _ _ _ _ _ _ _ _ _ _ _ _ _ _ _ _ r h => by simp [laws_FnExactObjOf.j1] at h, fun _ _ _ _ _ _ _ _ _ r h => by simp [laws_FnExactObjOf.j2] at h⟩
 | k + 1 => by
  obtain ⟨ih0, ih1, ih2⟩ := laws_FnExactObjOf.mono_l k
  refine ⟨?_, ?_, ?_⟩
  ·intro y0 y1 y2 y3 y4 y5 y6 y7 y8 y9 y10 y11 y12 y13 y14 y15 y16 y17 y18 y19 y20 y21 y22 y23 y24 y25 y26 y27 y28 y29 y30 y31
   unfold laws_FnExactObjOf.j0
   repeat' first
   | (with_reducible exact ih0 _ _ _ _ _ _ _ _ _ _ _ _ _ _ _ _ _ _ _ _ _ _ _ _ _ _ _ _ _ _ _ _)
   | (with_reducible exact ih1 _ _ _ _ _ _ _ _ _ _ _ _ _ _ _ _ _ _ _ _ _ _ _ _)
   | (with_reducible exact ih2 _ _ _ _ _ _ _ _ _)
   | (with_reducible exact impl_ObjOf.mono _ _ _ _ _ _ _ _ _)
   | (with_reducible exact laws_eqObj.mono _ _ _ _ _ _ _ _ _ _ _ _ _ _ _)
   | (with_reducible exact laws_eqReq.mono _ _ _ _ _ _ _ _ _)
   | (with_reducible exact laws_eqResp.mono _ _ _ _ _ _ _)
   | (with_reducible exact laws_heldObj.mono _ _ _ _ _ _ _ _ _)
   | (with_reducible exact laws_markObj.mono _ _ _ _ _ _ _ _ _)
   | (with_reducible exact laws_markReq.mono _ _ _ _ _ _)
   | (with_reducible exact laws_markResp.mono _ _ _ _ _)
   | (with_reducible exact laws_szReq.mono _ _ _ _ _ _)
   | (with_reducible exact laws_szResp.mono _ _ _ _ _)
   | (with_reducible exact laws_toReq.mono _ _ _ _ _)
   | (with_reducible exact laws_toResp.mono _ _ _ _)
   | (with_reducible exact spec_ObjOf.mono _ _ _ _ _ _ _ _ _)
   | (with_reducible exact LeO.refl _)
   | (with_reducible exact LeO.none _)
   | (with_reducible refine LeO.ite ?_ ?_)
   | (with_reducible refine LeO.bind ?_ (fun _ => ?_))
   | exact ih0 _ _ _ _ _ _ _ _ _ _ _ _ _ _ _ _ _ _ _ _ _ _ _ _ _ _ _ _ _ _ _ _
   | exact ih1 _ _ _ _ _ _ _ _ _ _ _ _ _ _ _ _ _ _ _ _ _ _ _ _
   | exact ih2 _ _ _ _ _ _ _ _ _
   | exact impl_ObjOf.mono _ _ _ _ _ _ _ _ _
   | exact laws_eqObj.mono _ _ _ _ _ _ _ _ _ _ _ _ _ _ _
   | exact laws_eqReq.mono _ _ _ _ _ _ _ _ _
   | exact laws_eqResp.mono _ _ _ _ _ _ _
   | exact laws_heldObj.mono _ _ _ _ _ _ _ _ _
   | exact laws_markObj.mono _ _ _ _ _ _ _ _ _
   | exact laws_markReq.mono _ _ _ _ _ _
   | exact laws_markResp.mono _ _ _ _ _
   | exact laws_szReq.mono _ _ _ _ _ _
   | exact laws_szResp.mono _ _ _ _ _
   | exact laws_toReq.mono _ _ _ _ _
   | exact laws_toResp.mono _ _ _ _
   | exact spec_ObjOf.mono _ _ _ _ _ _ _ _ _
   | exact LeO.none _
   | refine LeO.ite ?_ ?_
   | refine LeO.bind ?_ (fun _ => ?_)
  ·intro y0 y1 y2 y3 y4 y5 y6 y7 y8 y9 y10 y11 y12 y13 y14 y15 y16 y17 y18 y19 y20 y21 y22 y23
   unfold laws_FnExactObjOf.j1
   repeat' first
   | (with_reducible exact ih0 _ _ _ _ _ _ _ _ _ _ _ _ _ _ _ _ _ _ _ _ _ _ _ _ _ _ _ _ _ _ _ _)
   | (with_reducible exact ih1 _ _ _ _ _ _ _ _ _ _ _ _ _ _ _ _ _ _ _ _ _ _ _ _)
   | (with_reducible exact ih2 _ _ _ _ _ _ _ _ _)
   | (with_reducible exact impl_ObjOf.mono _ _ _ _ _ _ _ _ _)
   | (with_reducible exact laws_eqObj.mono _ _ _ _ _ _ _ _ _ _ _ _ _ _ _)
   | (with_reducible exact laws_eqReq.mono _ _ _ _ _ _ _ _ _)
   | (with_reducible exact laws_eqResp.mono _ _ _ _ _ _ _)
   | (with_reducible exact laws_heldObj.mono _ _ _ _ _ _ _ _ _)
   | (with_reducible exact laws_markObj.mono _ _ _ _ _ _ _ _ _)
   | (with_reducible exact laws_markReq.mono _ _ _ _ _ _)
   | (with_reducible exact laws_markResp.mono _ _ _ _ _)
   | (with_reducible exact laws_szReq.mono _ _ _ _ _ _)
   | (with_reducible exact laws_szResp.mono _ _ _ _ _)
   | (with_reducible exact laws_toReq.mono _ _ _ _ _)
   | (with_reducible exact laws_toResp.mono _ _ _ _)
   | (with_reducible exact spec_ObjOf.mono _ _ _ _ _ _ _ _ _)
   | (with_reducible exact LeO.refl _)
   | (with_reducible exact LeO.none _)
   | (with_reducible refine LeO.ite ?_ ?_)
   | (with_reducible refine LeO.bind ?_ (fun _ => ?_))
   | exact ih0 _ _ _ _ _ _ _ _ _ _ _ _ _ _ _ _ _ _ _ _ _ _ _ _ _ _ _ _ _ _ _ _
   | exact ih1 _ _ _ _ _ _ _ _ _ _ _ _ _ _ _ _ _ _ _ _ _ _ _ _
   | exact ih2 _ _ _ _ _ _ _ _ _
   | exact impl_ObjOf.mono _ _ _ _ _ _ _ _ _
   | exact laws_eqObj.mono _ _ _ _ _ _ _ _ _ _ _ _ _ _ _
   | exact laws_eqReq.mono _ _ _ _ _ _ _ _ _
   | exact laws_eqResp.mono _ _ _ _ _ _ _
   | exact laws_heldObj.mono _ _ _ _ _ _ _ _ _
   | exact laws_markObj.mono _ _ _ _ _ _ _ _ _
   | exact laws_markReq.mono _ _ _ _ _ _
   | exact laws_markResp.mono _ _ _ _ _
   | exact laws_szReq.mono _ _ _ _ _ _
   | exact laws_szResp.mono _ _ _ _ _
   | exact laws_toReq.mono _ _ _ _ _
   | exact laws_toResp.mono _ _ _ _
   | exact spec_ObjOf.mono _ _ _ _ _ _ _ _ _
   | exact LeO.none _
   | refine LeO.ite ?_ ?_
   | refine LeO.bind ?_ (fun _ => ?_)
  ·intro y0 y1 y2 y3 y4 y5 y6 y7 y8
   unfold laws_FnExactObjOf.j2
   repeat' first
   | (with_reducible exact ih0 _ _ _ _ _ _ _ _ _ _ _ _ _ _ _ _ _ _ _ _ _ _ _ _ _ _ _ _ _ _ _ _)
   | (with_reducible exact ih1 _ _ _ _ _ _ _ _ _ _ _ _ _ _ _ _ _ _ _ _ _ _ _ _)
   | (with_reducible exact ih2 _ _ _ _ _ _ _ _ _)
   | (with_reducible exact impl_ObjOf.mono _ _ _ _ _ _ _ _ _)
   | (with_reducible exact laws_eqObj.mono _ _ _ _ _ _ _ _ _ _ _ _ _ _ _)
   | (with_reducible exact laws_eqReq.mono _ _ _ _ _ _ _ _ _)
   | (with_reducible exact laws_eqResp.mono _ _ _ _ _ _ _)
   | (with_reducible exact laws_heldObj.mono _ _ _ _ _ _ _ _ _)
   | (with_reducible exact laws_markObj.mono _ _ _ _ _ _ _ _ _)
   | (with_reducible exact laws_markReq.mono _ _ _ _ _ _)
   | (with_reducible exact laws_markResp.mono _ _ _ _ _)
   | (with_reducible exact laws_szReq.mono _ _ _ _ _ _)
   | (with_reducible exact laws_szResp.mono _ _ _ _ _)
   | (with_reducible exact laws_toReq.mono _ _ _ _ _)
   | (with_reducible exact laws_toResp.mono _ _ _ _)
   | (with_reducible exact spec_ObjOf.mono _ _ _ _ _ _ _ _ _)
   | (with_reducible exact LeO.refl _)
   | (with_reducible exact LeO.none _)
   | (with_reducible refine LeO.ite ?_ ?_)
   | (with_reducible refine LeO.bind ?_ (fun _ => ?_))
   | exact ih0 _ _ _ _ _ _ _ _ _ _ _ _ _ _ _ _ _ _ _ _ _ _ _ _ _ _ _ _ _ _ _ _
   | exact ih1 _ _ _ _ _ _ _ _ _ _ _ _ _ _ _ _ _ _ _ _ _ _ _ _
   | exact ih2 _ _ _ _ _ _ _ _ _
   | exact impl_ObjOf.mono _ _ _ _ _ _ _ _ _
   | exact laws_eqObj.mono _ _ _ _ _ _ _ _ _ _ _ _ _ _ _
   | exact laws_eqReq.mono _ _ _ _ _ _ _ _ _
   | exact laws_eqResp.mono _ _ _ _ _ _ _
   | exact laws_heldObj.mono _ _ _ _ _ _ _ _ _
   | exact laws_markObj.mono _ _ _ _ _ _ _ _ _
   | exact laws_markReq.mono _ _ _ _ _ _
   | exact laws_markResp.mono _ _ _ _ _
   | exact laws_szReq.mono _ _ _ _ _ _
   | exact laws_szResp.mono _ _ _ _ _
   | exact laws_toReq.mono _ _ _ _ _
   | exact laws_toResp.mono _ _ _ _
   | exact spec_ObjOf.mono _ _ _ _ _ _ _ _ _
   | exact LeO.none _
   | refine LeO.ite ?_ ?_
   | refine LeO.bind ?_ (fun _ => ?_)
theorem laws_FnExactObjOf.mono : ∀ a0 a1 a2 a3 a4 a5 a6 a7 k, LeO (laws_FnExactObjOf.f k a0 a1 a2 a3 a4 a5 a6 a7) (laws_FnExactObjOf.f (k + 1) a0 a1 a2 a3 a4 a5 a6 a7) := by
 intro a0 a1 a2 a3 a4 a5 a6 a7 k
 obtain ⟨ih0, ih1, ih2⟩ := laws_FnExactObjOf.mono_l k
 unfold laws_FnExactObjOf.f
 repeat' first
   | (with_reducible exact ih0 _ _ _ _ _ _ _ _ _ _ _ _ _ _ _ _ _ _ _ _ _ _ _ _ _ _ _ _ _ _ _ _)
   | (with_reducible exact ih1 _ _ _ _ _ _ _ _ _ _ _ _ _ _ _ _ _ _ _ _ _ _ _ _)
   | (with_reducible exact ih2 _ _ _ _ _ _ _ _ _)
   | (with_reducible exact impl_ObjOf.mono _ _ _ _ _ _ _ _ _)
   | (with_reducible exact laws_eqObj.mono _ _ _ _ _ _ _ _ _ _ _ _ _ _ _)
   | (with_reducible exact laws_eqReq.mono _ _ _ _ _ _ _ _ _)
   | (with_reducible exact laws_eqResp.mono _ _ _ _ _ _ _)
   | (with_reducible exact laws_heldObj.mono _ _ _ _ _ _ _ _ _)
   | (with_reducible exact laws_markObj.mono _ _ _ _ _ _ _ _ _)
   | (with_reducible exact laws_markReq.mono _ _ _ _ _ _)
   | (with_reducible exact laws_markResp.mono _ _ _ _ _)
   | (with_reducible exact laws_szReq.mono _ _ _ _ _ _)
   | (with_reducible exact laws_szResp.mono _ _ _ _ _)
   | (with_reducible exact laws_toReq.mono _ _ _ _ _)
   | (with_reducible exact laws_toResp.mono _ _ _ _)
   | (with_reducible exact spec_ObjOf.mono _ _ _ _ _ _ _ _ _)
   | (with_reducible exact LeO.refl _)
   | (with_reducible exact LeO.none _)
   | (with_reducible refine LeO.ite ?_ ?_)
   | (with_reducible refine LeO.bind ?_ (fun _ => ?_))
   | exact ih0 _ _ _ _ _ _ _ _ _ _ _ _ _ _ _ _ _ _ _ _ _ _ _ _ _ _ _ _ _ _ _ _
   | exact ih1 _ _ _ _ _ _ _ _ _ _ _ _ _ _ _ _ _ _ _ _ _ _ _ _
   | exact ih2 _ _ _ _ _ _ _ _ _
   | exact impl_ObjOf.mono _ _ _ _ _ _ _ _ _
   | exact laws_eqObj.mono _ _ _ _ _ _ _ _ _ _ _ _ _ _ _
   | exact laws_eqReq.mono _ _ _ _ _ _ _ _ _
   | exact laws_eqResp.mono _ _ _ _ _ _ _
   | exact laws_heldObj.mono _ _ _ _ _ _ _ _ _
   | exact laws_markObj.mono _ _ _ _ _ _ _ _ _
   | exact laws_markReq.mono _ _ _ _ _ _
   | exact laws_markResp.mono _ _ _ _ _
   | exact laws_szReq.mono _ _ _ _ _ _
   | exact laws_szResp.mono _ _ _ _ _
   | exact laws_toReq.mono _ _ _ _ _
   | exact laws_toResp.mono _ _ _ _
   | exact spec_ObjOf.mono _ _ _ _ _ _ _ _ _
   | exact LeO.none _
   | refine LeO.ite ?_ ?_
   | refine LeO.bind ?_ (fun _ => ?_)
def laws_FnExactObjOf.T8 : Bool × List (List Nat × List Nat) := (true, [([], []), ([0], [0]), ([], []), ([2, 1], [2]), ([], []), ([1, 3, 4, 3], [1, 3, 4]), ([5], [5]), ([6], [6]), ([6], [6]), ([], []), ([9, 7, 5, 0, 1, 2, 3, 4, 5, 6, 7, 9], [7, 9]), ([8, 10, 0, 1, 2, 3, 4, 5, 6, 7, 8, 9, 10], [8])])
def laws_FnExactObjOf.B8 : List Nat := [0, 1, 0, 7, 0, 31, 63, 127, 127, 0, 767, 2047]
theorem laws_FnExactObjOf.tab8 : rtab .any (opsOf Tryz.f7 8) = laws_FnExactObjOf.T8 := by kernel_rfl
theorem laws_FnExactObjOf.bits8 : waitsOk laws_FnExactObjOf.T8.2 laws_FnExactObjOf.B8 = true := by kernel_rfl
def laws_FnExactObjOf.T31 : Bool × List (List Nat × List Nat) := (true, [([], []), ([0], [0]), ([], []), ([2, 1], [2]), ([], []), ([1, 3, 4, 3], [1, 3, 4]), ([5], [5]), ([6], [6]), ([6], [6]), ([], []), ([9, 7, 5, 0, 1, 2, 3, 4, 5, 6, 7, 9], [7, 9]), ([8, 10, 0, 1, 2, 3, 4, 5, 6, 7, 8, 9, 10], [8])])
def laws_FnExactObjOf.B31 : List Nat := [0, 1, 0, 7, 0, 31, 63, 127, 127, 0, 767, 2047]
theorem laws_FnExactObjOf.tab31 : rtab .any (opsOf Tryz.f7 31) = laws_FnExactObjOf.T31 := by kernel_rfl
theorem laws_FnExactObjOf.bits31 : waitsOk laws_FnExactObjOf.T31.2 laws_FnExactObjOf.B31 = true := by kernel_rfl
set_option maxHeartbeats 8000000 in
set_option maxRecDepth 100000 in
theorem laws_FnExactObjOf.calls (k : Nat) (a0_0 : Int) (a0_1 : ByteArray) (A0_2 : Option Addr) (c0_2 : Nat) (l0_2 : List (S163)) (a0_3 : ByteArray) (a1_0 : Int) (A1_1 : Option Addr) (c1_1 : Nat) (l1_1 : List (S163)) (a1_2 : ByteArray) (a2 : Int) (r : Bool) (w : World) (hGE : GLOBE w) (hGM : GLOBM w) (hGT : GLOBT w) (hr0_2 : Kd.C k163 w A0_2 l0_2.length l0_2) (hc0_2 : l0_2.length ≤ c0_2) (hr1_1 : Kd.C k163 w A1_1 l1_1.length l1_1) (hc1_1 : l1_1.length ≤ c1_1) (ht_ : r = true) (h : laws_FnExactObjOf.f k a0_0 a0_1 l0_2 a0_3 a1_0 l1_1 a1_2 a2 = some r) :
  Calls Tryz.prog 7 #[.agg #[.int .i64 a0_0, .string a0_1, .slice A0_2 l0_2.length c0_2, .string a0_3], .agg #[.int .i64 a1_0, .slice A1_1 l1_1.length c1_1, .string a1_2], .int .i64 a2] w fun e w' => e = .returned (.bool r) ∧ Below w.heap.size w w' := by
 have hu67 := Tryz.underlying67
 have hu69 := Tryz.underlying69
 have hu31 := Tryz.underlying31
 have hu50 := Tryz.underlying50
 have hu29 := Tryz.underlying29
 have HR0_2 := am hr0_2
 have HC0_2 := am hc0_2
 clear hr0_2 hc0_2
 have HR1_1 := am hr1_1
 have HC1_1 := am hc1_1
 clear hr1_1 hc1_1
 have HGE := am hGE
 clear hGE
 have HGM := am hGM
 clear hGM
 have HGT := am hGT
 clear hGT
 have HB := am (Below.refl w.heap.size w)
 unfold laws_FnExactObjOf.f at h
 have H := h
 clear h
 revert H
 refine ok1 fun t1624 A4 H => ?_
 have HH5 := am H
 clear H
 go_enter Tryz.func7, Tryz.ntmps7
 go_upto_if 23 with ((with_reducible refine gw ?_); first | (refine bx 3 #[.int .i64 a0_0, .string a0_1, .slice A0_2 l0_2.length c0_2, .string a0_3] 67 ?_; intro gb1622 hg w6 hbox hb; have BK1622 := am (hbox); have GW1622 := am (sz hg : w.heap.size ≤ gb1622); have GE1622 := am (sz hg : w.heap.size ≤ gb1622); replace HB := am (below_step bl hb); clear hb hbox hg) | (refine bx 4 #[.int .i64 a1_0, .slice A1_1 l1_1.length c1_1, .string a1_2] 69 ?_; intro gb1623 hg w7 hbox hb; have BK1623 := am (hbox); have GW1623 := am (sz hg : w.heap.size ≤ gb1623); have GE1623 := am (sz hg : w.heap.size ≤ gb1623); replace HB := am (below_step bl hb); have NB1622_1623 := am (nl hg BK1622 : gb1622 ≠ gb1623); have NB1623_1622 := am (ng hg BK1622 : gb1623 ≠ gb1622); replace BK1622 := kb BK1622 hb; clear hb hbox hg; have hnb8 := NB1622_1623.out; have hnc8 := NB1623_1622.out; obtain ⟨z9_0, y9_0, z9_1, y9_1, z9_2, y9_2, z9_3, y9_3⟩ := cl4 BK1622) | (refine gl 21 Tryz.func42 #[.agg #[.int .i64 a0_0, .string a0_1, .slice A0_2 l0_2.length c0_2, .string a0_3], .int .i64 1048576] ?_; (with_reducible refine (laws_szReq.calls k a0_0 a0_1 _ _ l0_2 a0_3 1048576 t1624 _ ?side1 ?side2 A4.out).mono ?_); (case side1 => exact cb HR0_2); (case side2 => exact HC0_2.out); rintro e w10 ⟨rfl, hb⟩; refine ⟨_, rfl, ?_⟩; replace BK1622 := kb BK1622 hb; replace BK1623 := kb BK1623 hb; replace HB := am (below_step bl hb); clear hb))
 have H := HH5.out
 clear HH5
 by_cases c11 : t1624 < 0
 ·rw [if_pos c11] at H
  have c11b0 := decide_eq_true c11
  clear c11
  (first | rw [c11b0] | (simp only [i64_w, i32_w]; rw [c11b0]) | skip)
  obtain rfl := Option.some.inj H
  go_wp2
  go_ret
  exact ⟨rf, bl⟩
 rw [if_neg c11] at H
 have c11b0 := decide_eq_false c11
 clear c11
 (first | rw [c11b0] | (simp only [i64_w, i32_w]; rw [c11b0]) | skip)
 revert H
 refine ok1 fun t1625 A12 H => ?_
 by_cases c13 : t1625 < 0
 ·rw [if_pos c13] at H
  have c13b0 := decide_eq_true c13
  clear c13
  obtain rfl := Option.some.inj H
  have hnb14 := NB1623_1622.out
  have hnc14 := NB1622_1623.out
  obtain ⟨z15_0, y15_0, z15_1, y15_1, z15_2, y15_2⟩ := cl3 BK1623
  go_wp2_with ((with_reducible refine gw ?_); first | (refine gl 26 Tryz.func43 #[.agg #[.int .i64 a1_0, .slice A1_1 l1_1.length c1_1, .string a1_2], .int .i64 t1624] ?_; (with_reducible refine (laws_szResp.calls k a1_0 _ _ l1_1 a1_2 t1624 t1625 _ ?side1 ?side2 A12.out).mono ?_); (case side1 => exact cb HR1_1); (case side2 => exact HC1_1.out); rintro e w16 ⟨rfl, hb⟩; refine ⟨_, rfl, ?_⟩; replace BK1622 := kb BK1622 hb; replace BK1623 := kb BK1623 hb; replace HB := am (below_step bl hb); clear hb))
  go_ret
  exact ⟨rf, bl⟩
 rw [if_neg c13] at H
 have c13b0 := decide_eq_false c13
 clear c13
 revert H
 refine ok4 fun t1626 t1627 t1628 t1631 A17 H => ?_
 (try dsimp only at H)
 revert H
 refine ok3 fun t1632 t1633 t1636 A18 H => ?_
 (try dsimp only at H)
 revert H
 refine ok8 fun t1637 t1638 t1641 t1644 t1645 t1648 t1649 t1650 A19 H => ?_
 (try dsimp only at H)
 revert H
 refine ok4 fun t1652 t1653 t1654 t1657 A20 H => ?_
 (try dsimp only at H)
 revert H
 refine ok3 fun t1659 t1660 t1663 A21 H => ?_
 (try dsimp only at H)
 revert H
 refine ok8 fun t1665 t1666 t1669 t1672 t1673 t1676 t1677 t1678 A22 H => ?_
 (try dsimp only at H)
 have HC23 := am H
 clear H
 have hnb24 := NB1623_1622.out
 have hnc24 := NB1622_1623.out
 obtain ⟨z25_0, y25_0, z25_1, y25_1, z25_2, y25_2⟩ := cl3 BK1623
 try go_wp2_with ((with_reducible refine gw ?_); first | (refine gl 26 Tryz.func43 #[.agg #[.int .i64 a1_0, .slice A1_1 l1_1.length c1_1, .string a1_2], .int .i64 t1624] ?_; (with_reducible refine (laws_szResp.calls k a1_0 _ _ l1_1 a1_2 t1624 t1625 _ ?side1 ?side2 A12.out).mono ?_); (case side1 => exact cb HR1_1); (case side2 => exact HC1_1.out); rintro e w26 ⟨rfl, hb⟩; refine ⟨_, rfl, ?_⟩; replace BK1622 := kb BK1622 hb; replace BK1623 := kb BK1623 hb; replace HB := am (below_step bl hb); clear hb))
 replace BK1622 := am (blk_drew BK1622.out)
 replace BK1623 := am (blk_drew BK1623.out)
 replace HB := am (below_drew1 HB.out)
 refine start_ (n := 12) (S := fun w' => w'.cell? ⟨gb1622, 0, none⟩ = some (.int .i64 a0_0) ∧ w'.cell? ⟨gb1622, 1, none⟩ = some (.string a0_1) ∧ w'.cell? ⟨gb1622, 2, none⟩ = some (.slice A0_2 l0_2.length c0_2) ∧ w'.cell? ⟨gb1622, 3, none⟩ = some (.string a0_3) ∧ w'.cell? ⟨gb1623, 0, none⟩ = some (.int .i64 a1_0) ∧ w'.cell? ⟨gb1623, 1, none⟩ = some (.slice A1_1 l1_1.length c1_1) ∧ w'.cell? ⟨gb1623, 2, none⟩ = some (.string a1_2)) (ds := []) ⟨br true [0, 12]⟩ (by kernel_rfl) rfl (by kernel_rfl) ⟨bc BK1622, bc BK1622, bc BK1622, bc BK1622, bc BK1623, bc BK1623, bc BK1623⟩ (fun hHeld => ?_); refine with_tabW laws_FnExactObjOf.tab8 laws_FnExactObjOf.bits8 (fun HT_ HW_ => ?_)
 generalize w26.drew = w27 at BK1622 BK1623 HB hHeld ⊢
 refine pu 4 34 [0, 4, 1, 7] ?_
 refine tk 0 30 [1, 3, 1, 7] ?_
 refine tk 2 32 [1, 1, 1, 1, 1, 7] ?_
 refine join_ (σ := Value × Value × Value × Value × Value × Nat) 2 #[true, true, true, true, true, true, true, true, true, true, false, false] (fun s_ => [(31, .agg #[.int .i64 t1626, .string t1627, s_.1, .string t1631]), (33, .agg #[.int .i64 t1632, s_.2.1, .string t1636]), (35, .tuple #[.agg #[.string t1637, s_.2.2.1, s_.2.2.2.1, .int .i64 t1644, s_.2.2.2.2.1, .string t1648, .int .i64 t1649], .bool t1650]), (8, .pointer (some ⟨s_.2.2.2.2.2, 0, none⟩)), (29, .tuple #[.agg #[.string t1637, s_.2.2.1, s_.2.2.2.1, .int .i64 t1644, s_.2.2.2.2.1, .string t1648, .int .i64 t1649], .bool t1650]), (36, .agg #[.string t1637, s_.2.2.1, s_.2.2.2.1, .int .i64 t1644, s_.2.2.2.2.1, .string t1648, .int .i64 t1649]), (37, .bool t1650)]) (fun s_ w' => (w'.cell? ⟨gb1622, 0, none⟩ = some (.int .i64 a0_0) ∧ w'.cell? ⟨gb1622, 1, none⟩ = some (.string a0_1) ∧ w'.cell? ⟨gb1622, 2, none⟩ = some (.slice A0_2 l0_2.length c0_2) ∧ w'.cell? ⟨gb1622, 3, none⟩ = some (.string a0_3) ∧ w'.cell? ⟨gb1623, 0, none⟩ = some (.int .i64 a1_0) ∧ w'.cell? ⟨gb1623, 1, none⟩ = some (.slice A1_1 l1_1.length c1_1) ∧ w'.cell? ⟨gb1623, 2, none⟩ = some (.string a1_2)) ∧ (Kd.R k116 116 w' w.heap.size (fun k_ => some k_ ≠ (s_.2.1 : Value).ownBlock ∧ some k_ ≠ (s_.2.2.2.2.1 : Value).ownBlock) s_.1 t1628) ∧ (Kd.R k116 116 w' w.heap.size (fun k_ => some k_ ≠ (s_.1 : Value).ownBlock ∧ some k_ ≠ (s_.2.2.2.2.1 : Value).ownBlock) s_.2.1 t1633) ∧ (Kd.R Kd.string 9 w' w.heap.size (fun k_ => some k_ ≠ (s_.2.2.2.1 : Value).ownBlock) s_.2.2.1 t1638) ∧ (Kd.R Kd.string 9 w' w.heap.size (fun k_ => some k_ ≠ (s_.2.2.1 : Value).ownBlock) s_.2.2.2.1 t1641) ∧ (Kd.R k116 116 w' w.heap.size (fun k_ => some k_ ≠ (s_.1 : Value).ownBlock ∧ some k_ ≠ (s_.2.1 : Value).ownBlock) s_.2.2.2.2.1 t1645) ∧ (w'.heap[gb1622]? = some (.cells #[.int .i64 a0_0, .string a0_1, .slice A0_2 l0_2.length c0_2, .string a0_3] 67 (0, 0))) ∧ (w'.heap[gb1623]? = some (.cells #[.int .i64 a1_0, .slice A1_1 l1_1.length c1_1, .string a1_2] 69 (0, 0))) ∧ (w'.heap[s_.2.2.2.2.2]? = some (.cells #[.string (⟨#[]⟩ : ByteArray), .slice none 0 0, .slice none 0 0, .int .i64 0, .slice none 0 0, .string (⟨#[]⟩ : ByteArray), .int .i64 0] 31 (0, 0))) ∧ (w.heap.size ≤ s_.2.2.2.2.2) ∧ (w.heap.size ≤ s_.2.2.2.2.2) ∧ (gb1622 ≠ s_.2.2.2.2.2) ∧ (s_.2.2.2.2.2 ≠ gb1622) ∧ (gb1623 ≠ s_.2.2.2.2.2) ∧ (s_.2.2.2.2.2 ≠ gb1623) ∧ (Below w.heap.size w w')) ?_ ?_
 rotate_left
 ·intro hCont
  refine two_ (i := 1) (j := 9) (Ni := some 31) (Nj := some 8) #[true, true, true, false, true, false, false, false, false, false, false, false] #[true, false, true, false, true, false, false, false, false, true, false, false] rfl rfl rfl rfl (two_of HT_.out (by kernel_rfl)) (by decide) (by decide) (fun K hK => ?_) (fun K hK => ?_)
  ·skip
   refine goes_ Tryz.func45 (by kernel_rfl) rfl #[.agg #[.int .i64 a0_0, .string a0_1, .slice A0_2 l0_2.length c0_2, .string a0_3]] (by rfl) rfl rfl ma ?_
   with_reducible refine (laws_toReq.calls k a0_0 a0_1 _ _ l0_2 a0_3 t1626 t1627 t1628 t1631 _ ?side1 ?side2 A17.out).mono ?_
   (case side1 => exact cb HR0_2)
   (case side2 => exact HC0_2.out)
   rintro e w28 ⟨v1629, rfl, ho0, hb⟩
   refine ⟨_, rfl, ?_⟩
   have HO1630 := am (Kd.R_lower ho0 (below_size bl))
   replace BK1622 := kb BK1622 hb
   replace BK1623 := kb BK1623 hb
   replace HB := am (below_step bl hb)
   clear hb ho0
   refine hK.out _ _ ⟨bc BK1622, bc BK1622, bc BK1622, bc BK1622, bc BK1623, bc BK1623, bc BK1623⟩ (fun hHeld => ?_)
   clear hK K
   refine nm 31 ?_
   refine two_ (i := 3) (j := 9) (Ni := some 33) (Nj := some 8) #[true, true, true, true, true, false, false, false, false, false, false, false] #[true, true, true, false, true, false, false, false, false, true, false, false] rfl rfl rfl rfl (two_of HT_.out (by kernel_rfl)) (by decide) (by decide) (fun K hK => ?_) (fun K hK => ?_)
   ·skip
    refine goes_ Tryz.func46 (by kernel_rfl) rfl #[.agg #[.int .i64 a1_0, .slice A1_1 l1_1.length c1_1, .string a1_2]] (by rfl) rfl rfl ma ?_
    with_reducible refine (laws_toResp.calls k a1_0 _ _ l1_1 a1_2 t1632 t1633 t1636 _ ?side1 ?side2 A18.out).mono ?_
    (case side1 => exact cb HR1_1)
    (case side2 => exact HC1_1.out)
    rintro e w29 ⟨v1634, rfl, ho0, hb⟩
    refine ⟨_, rfl, ?_⟩
    have HO1635 := am (Kd.R_lower (Kd.R_new' ho0 (Kd.R_lt (ro HO1630))) (below_size bl))
    replace HO1630 := am (Kd.R_elder' (ro HO1630) (Kd.R_base ho0) hb)
    replace BK1622 := kb BK1622 hb
    replace BK1623 := kb BK1623 hb
    replace HB := am (below_step bl hb)
    clear hb ho0
    obtain ⟨Ao30, co30, eo30⟩ := Kd.R_slice HO1630.out
    (first | subst eo30 | (injection eo30 with f1_ f2_ f3_; have f4_ := f1_.symm; have f5_ := f3_.symm; clear f1_ f2_ f3_; subst f4_; subst f5_))
    obtain ⟨Ao31, co31, eo31⟩ := Kd.R_slice HO1635.out
    (first | subst eo31 | (injection eo31 with f1_ f2_ f3_; have f4_ := f1_.symm; have f5_ := f3_.symm; clear f1_ f2_ f3_; subst f4_; subst f5_))
    refine hK.out _ _ ⟨bc BK1622, bc BK1622, bc BK1622, bc BK1622, bc BK1623, bc BK1623, bc BK1623⟩ (fun hHeld => ?_)
    clear hK K
    refine nm 33 ?_
    refine two_ (i := 5) (j := 9) (Ni := some 35) (Nj := some 8) #[true, true, true, true, true, true, false, false, false, false, false, false] #[true, true, true, true, true, false, false, false, false, true, false, false] rfl rfl rfl rfl (two_of HT_.out (by kernel_rfl)) (by decide) (by decide) (fun K hK => ?_) (fun K hK => ?_)
    ·skip
     refine goes_ Tryz.func44 (by kernel_rfl) rfl #[.agg #[.int .i64 t1626, .string t1627, .slice Ao30 t1628.length co30, .string t1631], .agg #[.int .i64 t1632, .slice Ao31 t1633.length co31, .string t1636], .int .i64 a2] (by rfl) rfl rfl ma ?_
     with_reducible refine (spec_ObjOf.calls k t1626 t1627 _ _ t1628 t1631 t1632 _ _ t1633 t1636 a2 t1637 t1638 t1641 t1644 t1645 t1648 t1649 t1650 _ ?side1 ?side2 ?side3 ?side4 A19.out).mono ?_
     (case side1 => exact rc HO1630)
     (case side2 => exact (Kd.R_reads' HO1630.out).2.1)
     (case side3 => exact rc HO1635)
     (case side4 => exact (Kd.R_reads' HO1635.out).2.1)
     rintro e w32 ⟨v1639, v1642, v1646, rfl, ho0, ho1, ho2, hb⟩
     refine ⟨_, rfl, ?_⟩
     have HO1640 := am (Kd.R_lower ho0 (below_size bl))
     have HO1643 := am (Kd.R_lower ho1 (below_size bl))
     have HO1647 := am (Kd.R_lower (Kd.R_new' (Kd.R_new' ho2 (Kd.R_lt (ro HO1630))) (Kd.R_lt (ro HO1635))) (below_size bl))
     replace HO1630 := am (Kd.R_elder' (ro HO1630) (Kd.R_base ho2) hb)
     replace HO1635 := am (Kd.R_elder' (ro HO1635) (Kd.R_base ho2) hb)
     replace BK1622 := kb BK1622 hb
     replace BK1623 := kb BK1623 hb
     replace HB := am (below_step bl hb)
     clear hb ho0 ho1 ho2
     refine hK.out _ _ ⟨bc BK1622, bc BK1622, bc BK1622, bc BK1622, bc BK1623, bc BK1623, bc BK1623⟩ (fun hHeld => ?_)
     clear hK K
     refine nm 35 ?_
     refine pu 6 29 [7, 5] ?_
     refine pu 7 36 [8, 4] ?_
     refine pu 8 37 [9, 3] ?_
     refine one_ (i := 9) (N := some 8) #[true, true, true, true, true, true, true, true, true, true, false, false] rfl rfl (one_of HT_.out (by kernel_rfl)) (by decide) (fun K hK => ?_)
     refine box_step ?hg (N := 8) ?hd (cs := #[.string (⟨#[]⟩ : ByteArray), .slice none 0 0, .slice none 0 0, .int .i64 0, .slice none 0 0, .string (⟨#[]⟩ : ByteArray), .int .i64 0]) (t := 31) ?hr ?_; (case hd => rfl); (case hg => rfl); (case hr => first | (go_simp; done) | (go_simp; rfl))
     intro gb1651 hg w33 hbox hb
     replace HO1630 := am (Kd.R_below (ro HO1630) hb)
     replace HO1635 := am (Kd.R_below (ro HO1635) hb)
     replace HO1640 := am (Kd.R_below (ro HO1640) hb)
     replace HO1643 := am (Kd.R_below (ro HO1643) hb)
     replace HO1647 := am (Kd.R_below (ro HO1647) hb)
     have BK1651 := am (hbox)
     have GW1651 := am (sz hg : w.heap.size ≤ gb1651)
     have GE1651 := am (sz hg : w.heap.size ≤ gb1651)
     replace HB := am (below_step bl hb)
     have NB1622_1651 := am (nl hg BK1622 : gb1622 ≠ gb1651)
     have NB1651_1622 := am (ng hg BK1622 : gb1651 ≠ gb1622)
     replace BK1622 := kb BK1622 hb
     have NB1623_1651 := am (nl hg BK1623 : gb1623 ≠ gb1651)
     have NB1651_1623 := am (ng hg BK1623 : gb1651 ≠ gb1623)
     replace BK1623 := kb BK1623 hb
     clear hb hbox hg
     refine hK.out _ _ ⟨bc BK1622, bc BK1622, bc BK1622, bc BK1622, bc BK1623, bc BK1623, bc BK1623⟩ (fun hHeld => ?_)
     clear hK K
     refine nm 8 ?_
     exact norm_ (by simp only [putAll, Act.put, List.setIfInBounds_toArray, List.set_cons_zero, List.set_cons_succ]) (hCont (.slice Ao30 t1628.length co30, .slice Ao31 t1633.length co31, v1639, v1642, v1646, gb1651) _ ⟨hHeld, (by (with_reducible repeat (first | apply Kd.R_alloc | apply Kd.R_drewN | apply Kd.R_drew)); exact Kd.R_mono HO1630.out (fun _ hk => ⟨hk.1.2, hk.2⟩)), (by (with_reducible repeat (first | apply Kd.R_alloc | apply Kd.R_drewN | apply Kd.R_drew)); exact Kd.R_mono HO1635.out (fun _ hk => ⟨hk.1.2, hk.2⟩)), (ro HO1640), (ro HO1643), (by (with_reducible repeat (first | apply Kd.R_alloc | apply Kd.R_drewN | apply Kd.R_drew)); exact Kd.R_mono HO1647.out (fun _ hk => ⟨hk.1.2, hk.2⟩)), (bk BK1622), (bk BK1623), (bk BK1651), GW1651.out, GE1651.out, NB1622_1651.out, NB1651_1622.out, NB1623_1651.out, NB1651_1623.out, bl⟩)
    ·skip
     refine box_step ?hg (N := 8) ?hd (cs := #[.string (⟨#[]⟩ : ByteArray), .slice none 0 0, .slice none 0 0, .int .i64 0, .slice none 0 0, .string (⟨#[]⟩ : ByteArray), .int .i64 0]) (t := 31) ?hr ?_; (case hd => rfl); (case hg => rfl); (case hr => first | (go_simp; done) | (go_simp; rfl))
     intro gb1651 hg w30 hbox hb
     replace HO1630 := am (Kd.R_below (ro HO1630) hb)
     replace HO1635 := am (Kd.R_below (ro HO1635) hb)
     have BK1651 := am (hbox)
     have GW1651 := am (sz hg : w.heap.size ≤ gb1651)
     have GE1651 := am (sz hg : w.heap.size ≤ gb1651)
     replace HB := am (below_step bl hb)
     have NB1622_1651 := am (nl hg BK1622 : gb1622 ≠ gb1651)
     have NB1651_1622 := am (ng hg BK1622 : gb1651 ≠ gb1622)
     replace BK1622 := kb BK1622 hb
     have NB1623_1651 := am (nl hg BK1623 : gb1623 ≠ gb1651)
     have NB1651_1623 := am (ng hg BK1623 : gb1651 ≠ gb1623)
     replace BK1623 := kb BK1623 hb
     clear hb hbox hg
     obtain ⟨Ao31, co31, eo31⟩ := Kd.R_slice HO1630.out
     (first | subst eo31 | (injection eo31 with f1_ f2_ f3_; have f4_ := f1_.symm; have f5_ := f3_.symm; clear f1_ f2_ f3_; subst f4_; subst f5_))
     obtain ⟨Ao32, co32, eo32⟩ := Kd.R_slice HO1635.out
     (first | subst eo32 | (injection eo32 with f1_ f2_ f3_; have f4_ := f1_.symm; have f5_ := f3_.symm; clear f1_ f2_ f3_; subst f4_; subst f5_))
     refine hK.out _ _ ⟨bc BK1622, bc BK1622, bc BK1622, bc BK1622, bc BK1623, bc BK1623, bc BK1623⟩ (fun hHeld => ?_)
     clear hK K
     refine nm 8 ?_
     refine og 5 35 [6, 3, 1, 2] Tryz.func44 #[.agg #[.int .i64 t1626, .string t1627, .slice Ao31 t1628.length co31, .string t1631], .agg #[.int .i64 t1632, .slice Ao32 t1633.length co32, .string t1636], .int .i64 a2] (fun K hK => ?_)
     with_reducible refine (spec_ObjOf.calls k t1626 t1627 _ _ t1628 t1631 t1632 _ _ t1633 t1636 a2 t1637 t1638 t1641 t1644 t1645 t1648 t1649 t1650 _ ?side1 ?side2 ?side3 ?side4 A19.out).mono ?_
     (case side1 => exact rc HO1630)
     (case side2 => exact (Kd.R_reads' HO1630.out).2.1)
     (case side3 => exact rc HO1635)
     (case side4 => exact (Kd.R_reads' HO1635.out).2.1)
     rintro e w33 ⟨v1639, v1642, v1646, rfl, ho0, ho1, ho2, hb⟩
     refine ⟨_, rfl, ?_⟩
     have HO1640 := am (Kd.R_lower ho0 (below_size bl))
     have HO1643 := am (Kd.R_lower ho1 (below_size bl))
     have HO1647 := am (Kd.R_lower (Kd.R_new' (Kd.R_new' ho2 (Kd.R_lt (ro HO1630))) (Kd.R_lt (ro HO1635))) (below_size bl))
     replace HO1630 := am (Kd.R_elder' (ro HO1630) (Kd.R_base ho2) hb)
     replace HO1635 := am (Kd.R_elder' (ro HO1635) (Kd.R_base ho2) hb)
     replace BK1622 := kb BK1622 hb
     replace BK1623 := kb BK1623 hb
     replace BK1651 := kb BK1651 hb
     replace HB := am (below_step bl hb)
     clear hb ho0 ho1 ho2
     refine hK.out _ _ ⟨bc BK1622, bc BK1622, bc BK1622, bc BK1622, bc BK1623, bc BK1623, bc BK1623⟩ (fun hHeld => ?_)
     clear hK K
     refine nm 35 ?_
     refine pu 6 29 [7, 2, 1, 2] ?_
     refine pu 7 36 [8, 1, 1, 2] ?_
     refine pu 8 37 [10, 2] ?_
     exact norm_ (by simp only [putAll, Act.put, List.setIfInBounds_toArray, List.set_cons_zero, List.set_cons_succ]) (hCont (.slice Ao31 t1628.length co31, .slice Ao32 t1633.length co32, v1639, v1642, v1646, gb1651) _ ⟨hHeld, (by (with_reducible repeat (first | apply Kd.R_alloc | apply Kd.R_drewN | apply Kd.R_drew)); exact Kd.R_mono HO1630.out (fun _ hk => ⟨hk.1.2, hk.2⟩)), (by (with_reducible repeat (first | apply Kd.R_alloc | apply Kd.R_drewN | apply Kd.R_drew)); exact Kd.R_mono HO1635.out (fun _ hk => ⟨hk.1.2, hk.2⟩)), (ro HO1640), (ro HO1643), (by (with_reducible repeat (first | apply Kd.R_alloc | apply Kd.R_drewN | apply Kd.R_drew)); exact Kd.R_mono HO1647.out (fun _ hk => ⟨hk.1.2, hk.2⟩)), (bk BK1622), (bk BK1623), (bk BK1651), GW1651.out, GE1651.out, NB1622_1651.out, NB1651_1622.out, NB1623_1651.out, NB1651_1623.out, bl⟩)
   ·skip
    refine box_step ?hg (N := 8) ?hd (cs := #[.string (⟨#[]⟩ : ByteArray), .slice none 0 0, .slice none 0 0, .int .i64 0, .slice none 0 0, .string (⟨#[]⟩ : ByteArray), .int .i64 0]) (t := 31) ?hr ?_; (case hd => rfl); (case hg => rfl); (case hr => first | (go_simp; done) | (go_simp; rfl))
    intro gb1651 hg w29 hbox hb
    replace HO1630 := am (Kd.R_below (ro HO1630) hb)
    have BK1651 := am (hbox)
    have GW1651 := am (sz hg : w.heap.size ≤ gb1651)
    have GE1651 := am (sz hg : w.heap.size ≤ gb1651)
    replace HB := am (below_step bl hb)
    have NB1622_1651 := am (nl hg BK1622 : gb1622 ≠ gb1651)
    have NB1651_1622 := am (ng hg BK1622 : gb1651 ≠ gb1622)
    replace BK1622 := kb BK1622 hb
    have NB1623_1651 := am (nl hg BK1623 : gb1623 ≠ gb1651)
    have NB1651_1623 := am (ng hg BK1623 : gb1651 ≠ gb1623)
    replace BK1623 := kb BK1623 hb
    clear hb hbox hg
    refine hK.out _ _ ⟨bc BK1622, bc BK1622, bc BK1622, bc BK1622, bc BK1623, bc BK1623, bc BK1623⟩ (fun hHeld => ?_)
    clear hK K
    refine nm 8 ?_
    refine og 3 33 [5, 4, 1, 2] Tryz.func46 #[.agg #[.int .i64 a1_0, .slice A1_1 l1_1.length c1_1, .string a1_2]] (fun K hK => ?_)
    with_reducible refine (laws_toResp.calls k a1_0 _ _ l1_1 a1_2 t1632 t1633 t1636 _ ?side1 ?side2 A18.out).mono ?_
    (case side1 => exact cb HR1_1)
    (case side2 => exact HC1_1.out)
    rintro e w30 ⟨v1634, rfl, ho0, hb⟩
    refine ⟨_, rfl, ?_⟩
    have HO1635 := am (Kd.R_lower (Kd.R_new' ho0 (Kd.R_lt (ro HO1630))) (below_size bl))
    replace HO1630 := am (Kd.R_elder' (ro HO1630) (Kd.R_base ho0) hb)
    replace BK1622 := kb BK1622 hb
    replace BK1623 := kb BK1623 hb
    replace BK1651 := kb BK1651 hb
    replace HB := am (below_step bl hb)
    clear hb ho0
    obtain ⟨Ao31, co31, eo31⟩ := Kd.R_slice HO1630.out
    (first | subst eo31 | (injection eo31 with f1_ f2_ f3_; have f4_ := f1_.symm; have f5_ := f3_.symm; clear f1_ f2_ f3_; subst f4_; subst f5_))
    obtain ⟨Ao32, co32, eo32⟩ := Kd.R_slice HO1635.out
    (first | subst eo32 | (injection eo32 with f1_ f2_ f3_; have f4_ := f1_.symm; have f5_ := f3_.symm; clear f1_ f2_ f3_; subst f4_; subst f5_))
    refine hK.out _ _ ⟨bc BK1622, bc BK1622, bc BK1622, bc BK1622, bc BK1623, bc BK1623, bc BK1623⟩ (fun hHeld => ?_)
    clear hK K
    refine nm 33 ?_
    refine og 5 35 [6, 3, 1, 2] Tryz.func44 #[.agg #[.int .i64 t1626, .string t1627, .slice Ao31 t1628.length co31, .string t1631], .agg #[.int .i64 t1632, .slice Ao32 t1633.length co32, .string t1636], .int .i64 a2] (fun K hK => ?_)
    with_reducible refine (spec_ObjOf.calls k t1626 t1627 _ _ t1628 t1631 t1632 _ _ t1633 t1636 a2 t1637 t1638 t1641 t1644 t1645 t1648 t1649 t1650 _ ?side1 ?side2 ?side3 ?side4 A19.out).mono ?_
    (case side1 => exact rc HO1630)
    (case side2 => exact (Kd.R_reads' HO1630.out).2.1)
    (case side3 => exact rc HO1635)
    (case side4 => exact (Kd.R_reads' HO1635.out).2.1)
    rintro e w33 ⟨v1639, v1642, v1646, rfl, ho0, ho1, ho2, hb⟩
    refine ⟨_, rfl, ?_⟩
    have HO1640 := am (Kd.R_lower ho0 (below_size bl))
    have HO1643 := am (Kd.R_lower ho1 (below_size bl))
    have HO1647 := am (Kd.R_lower (Kd.R_new' (Kd.R_new' ho2 (Kd.R_lt (ro HO1630))) (Kd.R_lt (ro HO1635))) (below_size bl))
    replace HO1630 := am (Kd.R_elder' (ro HO1630) (Kd.R_base ho2) hb)
    replace HO1635 := am (Kd.R_elder' (ro HO1635) (Kd.R_base ho2) hb)
    replace BK1622 := kb BK1622 hb
    replace BK1623 := kb BK1623 hb
    replace BK1651 := kb BK1651 hb
    replace HB := am (below_step bl hb)
    clear hb ho0 ho1 ho2
    refine hK.out _ _ ⟨bc BK1622, bc BK1622, bc BK1622, bc BK1622, bc BK1623, bc BK1623, bc BK1623⟩ (fun hHeld => ?_)
    clear hK K
    refine nm 35 ?_
    refine pu 6 29 [7, 2, 1, 2] ?_
    refine pu 7 36 [8, 1, 1, 2] ?_
    refine pu 8 37 [10, 2] ?_
    exact norm_ (by simp only [putAll, Act.put, List.setIfInBounds_toArray, List.set_cons_zero, List.set_cons_succ]) (hCont (.slice Ao31 t1628.length co31, .slice Ao32 t1633.length co32, v1639, v1642, v1646, gb1651) _ ⟨hHeld, (by (with_reducible repeat (first | apply Kd.R_alloc | apply Kd.R_drewN | apply Kd.R_drew)); exact Kd.R_mono HO1630.out (fun _ hk => ⟨hk.1.2, hk.2⟩)), (by (with_reducible repeat (first | apply Kd.R_alloc | apply Kd.R_drewN | apply Kd.R_drew)); exact Kd.R_mono HO1635.out (fun _ hk => ⟨hk.1.2, hk.2⟩)), (ro HO1640), (ro HO1643), (by (with_reducible repeat (first | apply Kd.R_alloc | apply Kd.R_drewN | apply Kd.R_drew)); exact Kd.R_mono HO1647.out (fun _ hk => ⟨hk.1.2, hk.2⟩)), (bk BK1622), (bk BK1623), (bk BK1651), GW1651.out, GE1651.out, NB1622_1651.out, NB1651_1622.out, NB1623_1651.out, NB1651_1623.out, bl⟩)
  ·skip
   refine box_step ?hg (N := 8) ?hd (cs := #[.string (⟨#[]⟩ : ByteArray), .slice none 0 0, .slice none 0 0, .int .i64 0, .slice none 0 0, .string (⟨#[]⟩ : ByteArray), .int .i64 0]) (t := 31) ?hr ?_; (case hd => rfl); (case hg => rfl); (case hr => first | (go_simp; done) | (go_simp; rfl))
   intro gb1651 hg w28 hbox hb
   have BK1651 := am (hbox)
   have GW1651 := am (sz hg : w.heap.size ≤ gb1651)
   have GE1651 := am (sz hg : w.heap.size ≤ gb1651)
   replace HB := am (below_step bl hb)
   have NB1622_1651 := am (nl hg BK1622 : gb1622 ≠ gb1651)
   have NB1651_1622 := am (ng hg BK1622 : gb1651 ≠ gb1622)
   replace BK1622 := kb BK1622 hb
   have NB1623_1651 := am (nl hg BK1623 : gb1623 ≠ gb1651)
   have NB1651_1623 := am (ng hg BK1623 : gb1651 ≠ gb1623)
   replace BK1623 := kb BK1623 hb
   clear hb hbox hg
   refine hK.out _ _ ⟨bc BK1622, bc BK1622, bc BK1622, bc BK1622, bc BK1623, bc BK1623, bc BK1623⟩ (fun hHeld => ?_)
   clear hK K
   refine nm 8 ?_
   refine og 1 31 [3, 1, 1, 4, 1, 2] Tryz.func45 #[.agg #[.int .i64 a0_0, .string a0_1, .slice A0_2 l0_2.length c0_2, .string a0_3]] (fun K hK => ?_)
   with_reducible refine (laws_toReq.calls k a0_0 a0_1 _ _ l0_2 a0_3 t1626 t1627 t1628 t1631 _ ?side1 ?side2 A17.out).mono ?_
   (case side1 => exact cb HR0_2)
   (case side2 => exact HC0_2.out)
   rintro e w29 ⟨v1629, rfl, ho0, hb⟩
   refine ⟨_, rfl, ?_⟩
   have HO1630 := am (Kd.R_lower ho0 (below_size bl))
   replace BK1622 := kb BK1622 hb
   replace BK1623 := kb BK1623 hb
   replace BK1651 := kb BK1651 hb
   replace HB := am (below_step bl hb)
   clear hb ho0
   refine hK.out _ _ ⟨bc BK1622, bc BK1622, bc BK1622, bc BK1622, bc BK1623, bc BK1623, bc BK1623⟩ (fun hHeld => ?_)
   clear hK K
   refine nm 31 ?_
   refine og 3 33 [5, 4, 1, 2] Tryz.func46 #[.agg #[.int .i64 a1_0, .slice A1_1 l1_1.length c1_1, .string a1_2]] (fun K hK => ?_)
   with_reducible refine (laws_toResp.calls k a1_0 _ _ l1_1 a1_2 t1632 t1633 t1636 _ ?side1 ?side2 A18.out).mono ?_
   (case side1 => exact cb HR1_1)
   (case side2 => exact HC1_1.out)
   rintro e w30 ⟨v1634, rfl, ho0, hb⟩
   refine ⟨_, rfl, ?_⟩
   have HO1635 := am (Kd.R_lower (Kd.R_new' ho0 (Kd.R_lt (ro HO1630))) (below_size bl))
   replace HO1630 := am (Kd.R_elder' (ro HO1630) (Kd.R_base ho0) hb)
   replace BK1622 := kb BK1622 hb
   replace BK1623 := kb BK1623 hb
   replace BK1651 := kb BK1651 hb
   replace HB := am (below_step bl hb)
   clear hb ho0
   obtain ⟨Ao31, co31, eo31⟩ := Kd.R_slice HO1630.out
   (first | subst eo31 | (injection eo31 with f1_ f2_ f3_; have f4_ := f1_.symm; have f5_ := f3_.symm; clear f1_ f2_ f3_; subst f4_; subst f5_))
   obtain ⟨Ao32, co32, eo32⟩ := Kd.R_slice HO1635.out
   (first | subst eo32 | (injection eo32 with f1_ f2_ f3_; have f4_ := f1_.symm; have f5_ := f3_.symm; clear f1_ f2_ f3_; subst f4_; subst f5_))
   refine hK.out _ _ ⟨bc BK1622, bc BK1622, bc BK1622, bc BK1622, bc BK1623, bc BK1623, bc BK1623⟩ (fun hHeld => ?_)
   clear hK K
   refine nm 33 ?_
   refine og 5 35 [6, 3, 1, 2] Tryz.func44 #[.agg #[.int .i64 t1626, .string t1627, .slice Ao31 t1628.length co31, .string t1631], .agg #[.int .i64 t1632, .slice Ao32 t1633.length co32, .string t1636], .int .i64 a2] (fun K hK => ?_)
   with_reducible refine (spec_ObjOf.calls k t1626 t1627 _ _ t1628 t1631 t1632 _ _ t1633 t1636 a2 t1637 t1638 t1641 t1644 t1645 t1648 t1649 t1650 _ ?side1 ?side2 ?side3 ?side4 A19.out).mono ?_
   (case side1 => exact rc HO1630)
   (case side2 => exact (Kd.R_reads' HO1630.out).2.1)
   (case side3 => exact rc HO1635)
   (case side4 => exact (Kd.R_reads' HO1635.out).2.1)
   rintro e w33 ⟨v1639, v1642, v1646, rfl, ho0, ho1, ho2, hb⟩
   refine ⟨_, rfl, ?_⟩
   have HO1640 := am (Kd.R_lower ho0 (below_size bl))
   have HO1643 := am (Kd.R_lower ho1 (below_size bl))
   have HO1647 := am (Kd.R_lower (Kd.R_new' (Kd.R_new' ho2 (Kd.R_lt (ro HO1630))) (Kd.R_lt (ro HO1635))) (below_size bl))
   replace HO1630 := am (Kd.R_elder' (ro HO1630) (Kd.R_base ho2) hb)
   replace HO1635 := am (Kd.R_elder' (ro HO1635) (Kd.R_base ho2) hb)
   replace BK1622 := kb BK1622 hb
   replace BK1623 := kb BK1623 hb
   replace BK1651 := kb BK1651 hb
   replace HB := am (below_step bl hb)
   clear hb ho0 ho1 ho2
   refine hK.out _ _ ⟨bc BK1622, bc BK1622, bc BK1622, bc BK1622, bc BK1623, bc BK1623, bc BK1623⟩ (fun hHeld => ?_)
   clear hK K
   refine nm 35 ?_
   refine pu 6 29 [7, 2, 1, 2] ?_
   refine pu 7 36 [8, 1, 1, 2] ?_
   refine pu 8 37 [10, 2] ?_
   exact norm_ (by simp only [putAll, Act.put, List.setIfInBounds_toArray, List.set_cons_zero, List.set_cons_succ]) (hCont (.slice Ao31 t1628.length co31, .slice Ao32 t1633.length co32, v1639, v1642, v1646, gb1651) _ ⟨hHeld, (by (with_reducible repeat (first | apply Kd.R_alloc | apply Kd.R_drewN | apply Kd.R_drew)); exact Kd.R_mono HO1630.out (fun _ hk => ⟨hk.1.2, hk.2⟩)), (by (with_reducible repeat (first | apply Kd.R_alloc | apply Kd.R_drewN | apply Kd.R_drew)); exact Kd.R_mono HO1635.out (fun _ hk => ⟨hk.1.2, hk.2⟩)), (ro HO1640), (ro HO1643), (by (with_reducible repeat (first | apply Kd.R_alloc | apply Kd.R_drewN | apply Kd.R_drew)); exact Kd.R_mono HO1647.out (fun _ hk => ⟨hk.1.2, hk.2⟩)), (bk BK1622), (bk BK1623), (bk BK1651), GW1651.out, GE1651.out, NB1622_1651.out, NB1651_1622.out, NB1623_1651.out, NB1651_1623.out, bl⟩)
 rintro ⟨v1629, v1634, v1639, v1642, v1646, gb1651⟩ w34 ⟨hS_, h0_, h1_, h2_, h3_, h4_, h5_, h6_, h7_, h8_, h9_, h10_, h11_, h12_, h13_, h14_⟩
 have n0_ : Aside0 (Kd.R k116 116 w34 w.heap.size (fun k_ => some k_ ≠ (v1634 : Value).ownBlock ∧ some k_ ≠ (v1646 : Value).ownBlock) v1629 t1628) := ⟨h0_⟩
 have n1_ : Aside0 (Kd.R k116 116 w34 w.heap.size (fun k_ => some k_ ≠ (v1629 : Value).ownBlock ∧ some k_ ≠ (v1646 : Value).ownBlock) v1634 t1633) := ⟨h1_⟩
 have n2_ : Aside0 (Kd.R Kd.string 9 w34 w.heap.size (fun k_ => some k_ ≠ (v1642 : Value).ownBlock) v1639 t1638) := ⟨h2_⟩
 have n3_ : Aside0 (Kd.R Kd.string 9 w34 w.heap.size (fun k_ => some k_ ≠ (v1639 : Value).ownBlock) v1642 t1641) := ⟨h3_⟩
 have n4_ : Aside0 (Kd.R k116 116 w34 w.heap.size (fun k_ => some k_ ≠ (v1629 : Value).ownBlock ∧ some k_ ≠ (v1634 : Value).ownBlock) v1646 t1645) := ⟨h4_⟩
 have n5_ : Aside0 (w34.heap[gb1622]? = some (.cells #[.int .i64 a0_0, .string a0_1, .slice A0_2 l0_2.length c0_2, .string a0_3] 67 (0, 0))) := ⟨h5_⟩
 have n6_ : Aside0 (w34.heap[gb1623]? = some (.cells #[.int .i64 a1_0, .slice A1_1 l1_1.length c1_1, .string a1_2] 69 (0, 0))) := ⟨h6_⟩
 have n7_ : Aside0 (w34.heap[gb1651]? = some (.cells #[.string (⟨#[]⟩ : ByteArray), .slice none 0 0, .slice none 0 0, .int .i64 0, .slice none 0 0, .string (⟨#[]⟩ : ByteArray), .int .i64 0] 31 (0, 0))) := ⟨h7_⟩
 have n8_ : Aside0 (w.heap.size ≤ gb1651) := ⟨h8_⟩
 have n9_ : Aside0 (w.heap.size ≤ gb1651) := ⟨h9_⟩
 have n10_ : Aside0 (gb1622 ≠ gb1651) := ⟨h10_⟩
 have n11_ : Aside0 (gb1651 ≠ gb1622) := ⟨h11_⟩
 have n12_ : Aside0 (gb1623 ≠ gb1651) := ⟨h12_⟩
 have n13_ : Aside0 (gb1651 ≠ gb1623) := ⟨h13_⟩
 have n14_ : Aside0 (Below w.heap.size w w34) := ⟨h14_⟩
 clear BK1622
 clear BK1623
 clear HB
 clear h0_ h1_ h2_ h3_ h4_ h5_ h6_ h7_ h8_ h9_ h10_ h11_ h12_ h13_ h14_
 have HO1630 := n0_
 have HO1635 := n1_
 have HO1640 := n2_
 have HO1643 := n3_
 have HO1647 := n4_
 have BK1622 := n5_
 have BK1623 := n6_
 have BK1651 := n7_
 have GW1651 := n8_
 have GE1651 := n9_
 have NB1622_1651 := n10_
 have NB1651_1622 := n11_
 have NB1623_1651 := n12_
 have NB1651_1623 := n13_
 have HB := n14_
 clear n0_ n1_ n2_ n3_ n4_ n5_ n6_ n7_ n8_ n9_ n10_ n11_ n12_ n13_ n14_
 have hHeld : w34.cell? ⟨gb1622, 0, none⟩ = some (.int .i64 a0_0) ∧ w34.cell? ⟨gb1622, 1, none⟩ = some (.string a0_1) ∧ w34.cell? ⟨gb1622, 2, none⟩ = some (.slice A0_2 l0_2.length c0_2) ∧ w34.cell? ⟨gb1622, 3, none⟩ = some (.string a0_3) ∧ w34.cell? ⟨gb1623, 0, none⟩ = some (.int .i64 a1_0) ∧ w34.cell? ⟨gb1623, 1, none⟩ = some (.slice A1_1 l1_1.length c1_1) ∧ w34.cell? ⟨gb1623, 2, none⟩ = some (.string a1_2) := hS_
 obtain ⟨Ao36, co36, eo36⟩ := Kd.R_slice HO1640.out
 (first | subst eo36 | (injection eo36 with f1_ f2_ f3_; have f4_ := f1_.symm; have f5_ := f3_.symm; clear f1_ f2_ f3_; subst f4_; subst f5_))
 obtain ⟨Ao38, co38, eo38⟩ := Kd.R_slice HO1643.out
 (first | subst eo38 | (injection eo38 with f1_ f2_ f3_; have f4_ := f1_.symm; have f5_ := f3_.symm; clear f1_ f2_ f3_; subst f4_; subst f5_))
 obtain ⟨Ao41, co41, eo41⟩ := Kd.R_slice HO1647.out
 (first | subst eo41 | (injection eo41 with f1_ f2_ f3_; have f4_ := f1_.symm; have f5_ := f3_.symm; clear f1_ f2_ f3_; subst f4_; subst f5_))
 refine norm_ (a' := ?_) ?_ ?_
 rotate_left
 ·simp only [putAll, Act.put, List.setIfInBounds_toArray, List.set_cons_zero, List.set_cons_succ]
  rfl
 refine one_ (i := 10) (N := none) #[true, true, true, true, true, true, true, true, true, true, true, false] rfl rfl (one_of HT_.out (by kernel_rfl)) (by decide) (fun K hK => ?_)
 have hs35 : w34.cell? ⟨gb1651, 0, none⟩ = some (.string (⟨#[]⟩ : ByteArray)) := bc BK1651
 have hfs35 := blk_frozen BK1651.out 0
 have hns35_0 := NB1622_1651.out
 have hns35_1 := NB1623_1651.out
 have hms35_0 := NB1651_1622.out
 have hms35_1 := NB1651_1623.out
 have hs37 : w34.cell? ⟨gb1651, 1, none⟩ = some (.slice none 0 0) := bc BK1651
 have hfs37 := blk_frozen BK1651.out 1
 have hns37_0 := NB1622_1651.out
 have hns37_1 := NB1623_1651.out
 have hms37_0 := NB1651_1622.out
 have hms37_1 := NB1651_1623.out
 have hs39 : w34.cell? ⟨gb1651, 2, none⟩ = some (.slice none 0 0) := bc BK1651
 have hfs39 := blk_frozen BK1651.out 2
 have hns39_0 := NB1622_1651.out
 have hns39_1 := NB1623_1651.out
 have hms39_0 := NB1651_1622.out
 have hms39_1 := NB1651_1623.out
 have hs40 : w34.cell? ⟨gb1651, 3, none⟩ = some (.int .i64 0) := bc BK1651
 have hfs40 := blk_frozen BK1651.out 3
 have hns40_0 := NB1622_1651.out
 have hns40_1 := NB1623_1651.out
 have hms40_0 := NB1651_1622.out
 have hms40_1 := NB1651_1623.out
 have hs42 : w34.cell? ⟨gb1651, 4, none⟩ = some (.slice none 0 0) := bc BK1651
 have hfs42 := blk_frozen BK1651.out 4
 have hns42_0 := NB1622_1651.out
 have hns42_1 := NB1623_1651.out
 have hms42_0 := NB1651_1622.out
 have hms42_1 := NB1651_1623.out
 have hs43 : w34.cell? ⟨gb1651, 5, none⟩ = some (.string (⟨#[]⟩ : ByteArray)) := bc BK1651
 have hfs43 := blk_frozen BK1651.out 5
 have hns43_0 := NB1622_1651.out
 have hns43_1 := NB1623_1651.out
 have hms43_0 := NB1651_1622.out
 have hms43_1 := NB1651_1623.out
 have hs44 : w34.cell? ⟨gb1651, 6, none⟩ = some (.int .i64 0) := bc BK1651
 have hfs44 := blk_frozen BK1651.out 6
 have hns44_0 := NB1622_1651.out
 have hns44_1 := NB1623_1651.out
 have hms44_0 := NB1651_1622.out
 have hms44_1 := NB1651_1623.out
 refine skip_ (w1 := ?_) (by rfl) rfl ?_ ?_
 rotate_left
 ·go_simp
  rfl
 refine hK.out _ _ (by (refine ⟨?_, ?_, ?_, ?_, ?_, ?_, ?_⟩ <;> (with_reducible repeat (refine Eq.trans (cell_far ?hfar _) ?_; (case hfar => first | exact NB1622_1651.out | exact NB1623_1651.out)))); exact hHeld.1; exact hHeld.2.1; exact hHeld.2.2.1; exact hHeld.2.2.2.1; exact hHeld.2.2.2.2.1; exact hHeld.2.2.2.2.2.1; exact hHeld.2.2.2.2.2.2) (fun hHeld => ?_)
 clear hK K
 refine pu 11 9 [12] ?_
 refine done_ (done_of HT_.out (by kernel_rfl)) ?_
 have hnb45 := NB1622_1651.out
 have hnc45 := NB1651_1622.out
 obtain ⟨z46_0, y46_0, z46_1, y46_1, z46_2, y46_2, z46_3, y46_3⟩ := cl4 BK1622
 go_upto_region 12 with ((with_reducible refine gw ?_); first | (refine gl 39 Tryz.func45 #[.agg #[.int .i64 a0_0, .string a0_1, .slice A0_2 l0_2.length c0_2, .string a0_3]] ?_; (with_reducible refine (laws_toReq.calls k a0_0 a0_1 _ _ l0_2 a0_3 t1652 t1653 t1654 t1657 _ ?side1 ?side2 A20.out).mono ?_); (case side1 => exact Kd.C_below HR0_2.out bl); (case side2 => exact HC0_2.out); rintro e w47 ⟨v1655, rfl, ho0, hb⟩; refine ⟨_, rfl, ?_⟩; replace HO1640 := am (Kd.R_below (rj (Kd.R_types HO1640.out BK1651.out (by decide)) (fun _ h_ => h_.1)) hb); replace HO1643 := am (Kd.R_below (rj (Kd.R_types HO1643.out BK1651.out (by decide)) (fun _ h_ => h_.1)) hb); have HO1656 := am (Kd.R_lower (Kd.R_new' (Kd.R_new' (Kd.R_new' ho0 (Kd.R_lt (rj (Kd.R_types HO1630.out BK1651.out (by decide)) (fun _ h_ => h_.1)))) (Kd.R_lt (rj (Kd.R_types HO1635.out BK1651.out (by decide)) (fun _ h_ => h_.1)))) (Kd.R_lt (rj (Kd.R_types HO1647.out BK1651.out (by decide)) (fun _ h_ => h_.1)))) (below_size bl)); replace HO1630 := am (Kd.R_elder' (rj (Kd.R_types HO1630.out BK1651.out (by decide)) (fun _ h_ => h_.1)) (Kd.R_base ho0) hb); replace HO1635 := am (Kd.R_elder' (rj (Kd.R_types HO1635.out BK1651.out (by decide)) (fun _ h_ => h_.1)) (Kd.R_base ho0) hb); replace HO1647 := am (Kd.R_elder' (rj (Kd.R_types HO1647.out BK1651.out (by decide)) (fun _ h_ => h_.1)) (Kd.R_base ho0) hb); replace BK1622 := kg1 BK1622 NB1622_1651 hb; replace BK1623 := kg1 BK1623 NB1623_1651 hb; replace BK1651 := am (blk_below (g := gb1651) (o := .cells #[.string t1637, .slice Ao36 t1638.length co36, .slice Ao38 t1641.length co38, .int .i64 t1644, .slice Ao41 t1645.length co41, .string t1648, .int .i64 t1649] 31 (0, 0)) (pt0 BK1651) hb); replace HB := am (below_step bl hb); clear hb ho0) | (refine bx 10 #[.int .i64 0, .string (⟨#[]⟩ : ByteArray), .slice none 0 0, .string (⟨#[]⟩ : ByteArray)] 50 ?_; intro gb1658 hg w48 hbox hb; replace HO1630 := am (Kd.R_below (ro HO1630) hb); replace HO1635 := am (Kd.R_below (ro HO1635) hb); replace HO1640 := am (Kd.R_below (ro HO1640) hb); replace HO1643 := am (Kd.R_below (ro HO1643) hb); replace HO1647 := am (Kd.R_below (ro HO1647) hb); replace HO1656 := am (Kd.R_below (ro HO1656) hb); have BK1658 := am (hbox); have GW1658 := am (sz hg : w.heap.size ≤ gb1658); have GE1658 := am (sz hg : w.heap.size ≤ gb1658); replace HB := am (below_step bl hb); have NB1622_1658 := am (nl hg BK1622 : gb1622 ≠ gb1658); have NB1658_1622 := am (ng hg BK1622 : gb1658 ≠ gb1622); replace BK1622 := kb BK1622 hb; have NB1623_1658 := am (nl hg BK1623 : gb1623 ≠ gb1658); have NB1658_1623 := am (ng hg BK1623 : gb1658 ≠ gb1623); replace BK1623 := kb BK1623 hb; have NB1651_1658 := am (nl hg BK1651 : gb1651 ≠ gb1658); have NB1658_1651 := am (ng hg BK1651 : gb1658 ≠ gb1651); replace BK1651 := kb BK1651 hb; clear hb hbox hg; have hnb49 := NB1658_1622.out; have hnc49 := NB1622_1658.out; have hnb50 := NB1658_1623.out; have hnc50 := NB1623_1658.out; have hnb51 := NB1658_1651.out; have hnc51 := NB1651_1658.out; obtain ⟨z52_0, y52_0, z52_1, y52_1, z52_2, y52_2, z52_3, y52_3⟩ := cl4 BK1658; obtain ⟨Ao53, co53, eo53⟩ := Kd.R_slice HO1656.out; subst eo53; have hnb54 := NB1623_1651.out; have hnc54 := NB1651_1623.out; obtain ⟨z55_0, y55_0, z55_1, y55_1, z55_2, y55_2⟩ := cl3 BK1623) | (refine gl 41 Tryz.func46 #[.agg #[.int .i64 a1_0, .slice A1_1 l1_1.length c1_1, .string a1_2]] ?_; (with_reducible refine (laws_toResp.calls k a1_0 _ _ l1_1 a1_2 t1659 t1660 t1663 _ ?side1 ?side2 A21.out).mono ?_); (case side1 => exact Kd.C_below HR1_1.out bl); (case side2 => exact HC1_1.out); rintro e w56 ⟨v1661, rfl, ho0, hb⟩; refine ⟨_, rfl, ?_⟩; replace HO1640 := am (Kd.R_below (rj (Kd.R_types HO1640.out BK1658.out (by decide)) (fun _ h_ => h_.1)) hb); replace HO1643 := am (Kd.R_below (rj (Kd.R_types HO1643.out BK1658.out (by decide)) (fun _ h_ => h_.1)) hb); have HO1662 := am (Kd.R_lower (Kd.R_new' (Kd.R_new' (Kd.R_new' (Kd.R_new' ho0 (Kd.R_lt (rj (Kd.R_types HO1630.out BK1658.out (by decide)) (fun _ h_ => h_.1)))) (Kd.R_lt (rj (Kd.R_types HO1635.out BK1658.out (by decide)) (fun _ h_ => h_.1)))) (Kd.R_lt (rj (Kd.R_types HO1647.out BK1658.out (by decide)) (fun _ h_ => h_.1)))) (Kd.R_lt (rj (Kd.R_types HO1656.out BK1658.out (by decide)) (fun _ h_ => h_.1)))) (below_size bl)); replace HO1630 := am (Kd.R_elder' (rj (Kd.R_types HO1630.out BK1658.out (by decide)) (fun _ h_ => h_.1)) (Kd.R_base ho0) hb); replace HO1635 := am (Kd.R_elder' (rj (Kd.R_types HO1635.out BK1658.out (by decide)) (fun _ h_ => h_.1)) (Kd.R_base ho0) hb); replace HO1647 := am (Kd.R_elder' (rj (Kd.R_types HO1647.out BK1658.out (by decide)) (fun _ h_ => h_.1)) (Kd.R_base ho0) hb); replace HO1656 := am (Kd.R_elder' (rj (Kd.R_types HO1656.out BK1658.out (by decide)) (fun _ h_ => h_.1)) (Kd.R_base ho0) hb); replace BK1622 := kg1 BK1622 NB1622_1658 hb; replace BK1623 := kg1 BK1623 NB1623_1658 hb; replace BK1651 := kg1 BK1651 NB1651_1658 hb; replace BK1658 := am (blk_below (g := gb1658) (o := .cells #[.int .i64 t1652, .string t1653, .slice Ao53 t1654.length co53, .string t1657] 50 (0, 0)) (pt0 BK1658) hb); replace HB := am (below_step bl hb); clear hb ho0) | (refine bx 11 #[.int .i64 0, .slice none 0 0, .string (⟨#[]⟩ : ByteArray)] 29 ?_; intro gb1664 hg w57 hbox hb; replace HO1630 := am (Kd.R_below (ro HO1630) hb); replace HO1635 := am (Kd.R_below (ro HO1635) hb); replace HO1640 := am (Kd.R_below (ro HO1640) hb); replace HO1643 := am (Kd.R_below (ro HO1643) hb); replace HO1647 := am (Kd.R_below (ro HO1647) hb); replace HO1656 := am (Kd.R_below (ro HO1656) hb); replace HO1662 := am (Kd.R_below (ro HO1662) hb); have BK1664 := am (hbox); have GW1664 := am (sz hg : w.heap.size ≤ gb1664); have GE1664 := am (sz hg : w.heap.size ≤ gb1664); replace HB := am (below_step bl hb); have NB1622_1664 := am (nl hg BK1622 : gb1622 ≠ gb1664); have NB1664_1622 := am (ng hg BK1622 : gb1664 ≠ gb1622); replace BK1622 := kb BK1622 hb; have NB1623_1664 := am (nl hg BK1623 : gb1623 ≠ gb1664); have NB1664_1623 := am (ng hg BK1623 : gb1664 ≠ gb1623); replace BK1623 := kb BK1623 hb; have NB1651_1664 := am (nl hg BK1651 : gb1651 ≠ gb1664); have NB1664_1651 := am (ng hg BK1651 : gb1664 ≠ gb1651); replace BK1651 := kb BK1651 hb; have NB1658_1664 := am (nl hg BK1658 : gb1658 ≠ gb1664); have NB1664_1658 := am (ng hg BK1658 : gb1664 ≠ gb1658); replace BK1658 := kb BK1658 hb; clear hb hbox hg; have hnb58 := NB1664_1622.out; have hnc58 := NB1622_1664.out; have hnb59 := NB1664_1623.out; have hnc59 := NB1623_1664.out; have hnb60 := NB1664_1651.out; have hnc60 := NB1651_1664.out; have hnb61 := NB1664_1658.out; have hnc61 := NB1658_1664.out; obtain ⟨z62_0, y62_0, z62_1, y62_1, z62_2, y62_2⟩ := cl3 BK1664; obtain ⟨Ao63, co63, eo63⟩ := Kd.R_slice HO1662.out; subst eo63; obtain ⟨z64_0, y64_0, z64_1, y64_1, z64_2, y64_2, z64_3, y64_3⟩ := cl4 BK1658) | (refine gl 46 Tryz.func47 #[.agg #[.int .i64 t1652, .string t1653, .slice Ao53 t1654.length co53, .string t1657], .agg #[.int .i64 t1659, .slice Ao63 t1660.length co63, .string t1663], .int .i64 a2] ?_; (with_reducible refine (impl_ObjOf.calls k t1652 t1653 _ _ t1654 t1657 t1659 _ _ t1660 t1663 a2 t1665 t1666 t1669 t1672 t1673 t1676 t1677 t1678 _ ?side1 ?side2 ?side3 ?side4 ?side5 ?side6 ?side7 A22.out).mono ?_); (case side1 => exact GLOBE.below HGE.out bl); (case side2 => exact GLOBM.below HGM.out bl); (case side3 => exact GLOBT.below HGT.out bl); (case side4 => refine (Kd.R_reads' (e := 116) (base := w.heap.size) (ok := fun k_ => ((((True ∧ some k_ ≠ (v1629 : Value).ownBlock) ∧ some k_ ≠ (v1634 : Value).ownBlock) ∧ some k_ ≠ (.slice Ao41 t1645.length co41 : Value).ownBlock) ∧ some k_ ≠ (.slice Ao63 t1660.length co63 : Value).ownBlock)) (n := t1654.length) (c := co53) ?_).2.2; exact (rj (Kd.R_types HO1656.out BK1664.out (by decide)) (fun _ h_ => h_.1))); (case side5 => exact (Kd.R_reads' HO1656.out).2.1); (case side6 => refine (Kd.R_reads' (e := 116) (base := w.heap.size) (ok := fun k_ => ((((True ∧ some k_ ≠ (v1629 : Value).ownBlock) ∧ some k_ ≠ (v1634 : Value).ownBlock) ∧ some k_ ≠ (.slice Ao41 t1645.length co41 : Value).ownBlock) ∧ some k_ ≠ (.slice Ao53 t1654.length co53 : Value).ownBlock)) (n := t1660.length) (c := co63) ?_).2.2; exact (rj (Kd.R_types HO1662.out BK1664.out (by decide)) (fun _ h_ => h_.1))); (case side7 => exact (Kd.R_reads' HO1662.out).2.1); rintro e w65 ⟨v1667, v1670, v1674, rfl, ho0, ho1, ho2, hb⟩; refine ⟨_, rfl, ?_⟩; have HO1668 := am (Kd.R_lower (Kd.R_new' (Kd.R_new' ho0 (Kd.R_lt (rj (Kd.R_types HO1640.out BK1664.out (by decide)) (fun _ h_ => h_.1)))) (Kd.R_lt (rj (Kd.R_types HO1643.out BK1664.out (by decide)) (fun _ h_ => h_.1)))) (below_size bl)); have HO1671 := am (Kd.R_lower (Kd.R_new' (Kd.R_new' ho1 (Kd.R_lt (rj (Kd.R_types HO1640.out BK1664.out (by decide)) (fun _ h_ => h_.1)))) (Kd.R_lt (rj (Kd.R_types HO1643.out BK1664.out (by decide)) (fun _ h_ => h_.1)))) (below_size bl)); replace HO1640 := am (Kd.R_mono (Kd.R_told (Kd.R_told (Kd.R_old (rj (Kd.R_types HO1640.out BK1664.out (by decide)) (fun _ h_ => h_.1)) hb) (Kd.R_base ho0)) (Kd.R_base ho1)) (fun _ h_ => h_.1)); replace HO1643 := am (Kd.R_mono (Kd.R_told (Kd.R_told (Kd.R_old (rj (Kd.R_types HO1643.out BK1664.out (by decide)) (fun _ h_ => h_.1)) hb) (Kd.R_base ho0)) (Kd.R_base ho1)) (fun _ h_ => h_.1)); have HO1675 := am (Kd.R_lower (Kd.R_new' (Kd.R_new' (Kd.R_new' (Kd.R_new' (Kd.R_new' ho2 (Kd.R_lt (rj (Kd.R_types HO1630.out BK1664.out (by decide)) (fun _ h_ => h_.1)))) (Kd.R_lt (rj (Kd.R_types HO1635.out BK1664.out (by decide)) (fun _ h_ => h_.1)))) (Kd.R_lt (rj (Kd.R_types HO1647.out BK1664.out (by decide)) (fun _ h_ => h_.1)))) (Kd.R_lt (rj (Kd.R_types HO1656.out BK1664.out (by decide)) (fun _ h_ => h_.1)))) (Kd.R_lt (rj (Kd.R_types HO1662.out BK1664.out (by decide)) (fun _ h_ => h_.1)))) (below_size bl)); replace HO1630 := am (Kd.R_elder' (rj (Kd.R_types HO1630.out BK1664.out (by decide)) (fun _ h_ => h_.1)) (Kd.R_base ho2) hb); replace HO1635 := am (Kd.R_elder' (rj (Kd.R_types HO1635.out BK1664.out (by decide)) (fun _ h_ => h_.1)) (Kd.R_base ho2) hb); replace HO1647 := am (Kd.R_elder' (rj (Kd.R_types HO1647.out BK1664.out (by decide)) (fun _ h_ => h_.1)) (Kd.R_base ho2) hb); replace HO1656 := am (Kd.R_elder' (rj (Kd.R_types HO1656.out BK1664.out (by decide)) (fun _ h_ => h_.1)) (Kd.R_base ho2) hb); replace HO1662 := am (Kd.R_elder' (rj (Kd.R_types HO1662.out BK1664.out (by decide)) (fun _ h_ => h_.1)) (Kd.R_base ho2) hb); replace BK1622 := kg1 BK1622 NB1622_1664 hb; replace BK1623 := kg1 BK1623 NB1623_1664 hb; replace BK1651 := kg1 BK1651 NB1651_1664 hb; replace BK1658 := kg1 BK1658 NB1658_1664 hb; replace BK1664 := am (blk_below (g := gb1664) (o := .cells #[.int .i64 t1659, .slice Ao63 t1660.length co63, .string t1663] 29 (0, 0)) (pt0 BK1664) hb); replace HB := am (below_step bl hb); clear hb ho0 ho1 ho2) | (refine bx 12 #[.string (⟨#[]⟩ : ByteArray), .slice none 0 0, .slice none 0 0, .int .i64 0, .slice none 0 0, .string (⟨#[]⟩ : ByteArray), .int .i64 0] 31 ?_; intro gb1679 hg w66 hbox hb; replace HO1630 := am (Kd.R_below (ro HO1630) hb); replace HO1635 := am (Kd.R_below (ro HO1635) hb); replace HO1640 := am (Kd.R_below (ro HO1640) hb); replace HO1643 := am (Kd.R_below (ro HO1643) hb); replace HO1647 := am (Kd.R_below (ro HO1647) hb); replace HO1656 := am (Kd.R_below (ro HO1656) hb); replace HO1662 := am (Kd.R_below (ro HO1662) hb); replace HO1668 := am (Kd.R_below (ro HO1668) hb); replace HO1671 := am (Kd.R_below (ro HO1671) hb); replace HO1675 := am (Kd.R_below (ro HO1675) hb); have BK1679 := am (hbox); have GW1679 := am (sz hg : w.heap.size ≤ gb1679); have GE1679 := am (sz hg : w.heap.size ≤ gb1679); replace HB := am (below_step bl hb); have NB1622_1679 := am (nl hg BK1622 : gb1622 ≠ gb1679); have NB1679_1622 := am (ng hg BK1622 : gb1679 ≠ gb1622); replace BK1622 := kb BK1622 hb; have NB1623_1679 := am (nl hg BK1623 : gb1623 ≠ gb1679); have NB1679_1623 := am (ng hg BK1623 : gb1679 ≠ gb1623); replace BK1623 := kb BK1623 hb; have NB1651_1679 := am (nl hg BK1651 : gb1651 ≠ gb1679); have NB1679_1651 := am (ng hg BK1651 : gb1679 ≠ gb1651); replace BK1651 := kb BK1651 hb; have NB1658_1679 := am (nl hg BK1658 : gb1658 ≠ gb1679); have NB1679_1658 := am (ng hg BK1658 : gb1679 ≠ gb1658); replace BK1658 := kb BK1658 hb; have NB1664_1679 := am (nl hg BK1664 : gb1664 ≠ gb1679); have NB1679_1664 := am (ng hg BK1664 : gb1679 ≠ gb1664); replace BK1664 := kb BK1664 hb; clear hb hbox hg; have hnb67 := NB1679_1622.out; have hnc67 := NB1622_1679.out; have hnb68 := NB1679_1623.out; have hnc68 := NB1623_1679.out; have hnb69 := NB1679_1651.out; have hnc69 := NB1651_1679.out; have hnb70 := NB1679_1658.out; have hnc70 := NB1658_1679.out; have hnb71 := NB1679_1664.out; have hnc71 := NB1664_1679.out; obtain ⟨z72_0, y72_0, z72_1, y72_1, z72_2, y72_2, z72_3, y72_3, z72_4, y72_4, z72_5, y72_5, z72_6, y72_6⟩ := cl7 BK1679; obtain ⟨Ao73, co73, eo73⟩ := Kd.R_slice HO1668.out; subst eo73; obtain ⟨Ao74, co74, eo74⟩ := Kd.R_slice HO1671.out; subst eo74; obtain ⟨Ao75, co75, eo75⟩ := Kd.R_slice HO1675.out; subst eo75))
 (try simp only [Act.put, List.setIfInBounds_toArray, List.set_cons_zero, List.set_cons_succ])
 go_cut [57] (fun v57 wc => ∃ (kq : Nat) (x57_22 : Bool), v57 = .bool x57_22 ∧ Aside0 (laws_FnExactObjOf.j0 kq a2 t1650 t1678 x57_22 a0_0 a0_1 l0_2 a0_3 a1_0 l1_1 a1_2 t1637 t1638 t1641 t1644 t1645 t1648 t1649 t1652 t1653 t1654 t1657 t1659 t1660 t1663 t1665 t1666 t1669 t1672 t1673 t1676 t1677 = some r) ∧ Aside0 (kq ≤ k) ∧ Aside0 (Kd.R Kd.string 9 wc w.heap.size (fun k_ => some k_ ≠ ((.slice Ao38 t1641.length co38) : Value).ownBlock ∧ some k_ ≠ ((.slice Ao73 t1666.length co73) : Value).ownBlock ∧ some k_ ≠ ((.slice Ao74 t1669.length co74) : Value).ownBlock) (.slice Ao36 t1638.length co36) t1638) ∧ Aside0 (Kd.R Kd.string 9 wc w.heap.size (fun k_ => some k_ ≠ ((.slice Ao36 t1638.length co36) : Value).ownBlock ∧ some k_ ≠ ((.slice Ao73 t1666.length co73) : Value).ownBlock ∧ some k_ ≠ ((.slice Ao74 t1669.length co74) : Value).ownBlock) (.slice Ao38 t1641.length co38) t1641) ∧ Aside0 (Kd.R k116 116 wc w.heap.size (fun k_ => some k_ ≠ ((.slice Ao53 t1654.length co53) : Value).ownBlock ∧ some k_ ≠ ((.slice Ao63 t1660.length co63) : Value).ownBlock ∧ some k_ ≠ ((.slice Ao75 t1673.length co75) : Value).ownBlock) (.slice Ao41 t1645.length co41) t1645) ∧ Aside0 (Kd.R k116 116 wc w.heap.size (fun k_ => some k_ ≠ ((.slice Ao41 t1645.length co41) : Value).ownBlock ∧ some k_ ≠ ((.slice Ao63 t1660.length co63) : Value).ownBlock ∧ some k_ ≠ ((.slice Ao75 t1673.length co75) : Value).ownBlock) (.slice Ao53 t1654.length co53) t1654) ∧ Aside0 (Kd.R k116 116 wc w.heap.size (fun k_ => some k_ ≠ ((.slice Ao41 t1645.length co41) : Value).ownBlock ∧ some k_ ≠ ((.slice Ao53 t1654.length co53) : Value).ownBlock ∧ some k_ ≠ ((.slice Ao75 t1673.length co75) : Value).ownBlock) (.slice Ao63 t1660.length co63) t1660) ∧ Aside0 (Kd.R Kd.string 9 wc w.heap.size (fun k_ => some k_ ≠ ((.slice Ao36 t1638.length co36) : Value).ownBlock ∧ some k_ ≠ ((.slice Ao38 t1641.length co38) : Value).ownBlock ∧ some k_ ≠ ((.slice Ao74 t1669.length co74) : Value).ownBlock) (.slice Ao73 t1666.length co73) t1666) ∧ Aside0 (Kd.R Kd.string 9 wc w.heap.size (fun k_ => some k_ ≠ ((.slice Ao36 t1638.length co36) : Value).ownBlock ∧ some k_ ≠ ((.slice Ao38 t1641.length co38) : Value).ownBlock ∧ some k_ ≠ ((.slice Ao73 t1666.length co73) : Value).ownBlock) (.slice Ao74 t1669.length co74) t1669) ∧ Aside0 (Kd.R k116 116 wc w.heap.size (fun k_ => some k_ ≠ ((.slice Ao41 t1645.length co41) : Value).ownBlock ∧ some k_ ≠ ((.slice Ao53 t1654.length co53) : Value).ownBlock ∧ some k_ ≠ ((.slice Ao63 t1660.length co63) : Value).ownBlock) (.slice Ao75 t1673.length co75) t1673) ∧ Aside0 (wc.heap[gb1622]? = some (.cells #[.int .i64 a0_0, .string a0_1, (.slice A0_2 l0_2.length c0_2), .string a0_3] 67 (0, 0))) ∧ Aside0 (wc.heap[gb1623]? = some (.cells #[.int .i64 a1_0, (.slice A1_1 l1_1.length c1_1), .string a1_2] 69 (0, 0))) ∧ Aside0 (wc.heap[gb1651]? = some (.cells #[.string t1637, (.slice Ao36 t1638.length co36), (.slice Ao38 t1641.length co38), .int .i64 t1644, (.slice Ao41 t1645.length co41), .string t1648, .int .i64 t1649] 31 (0, 0))) ∧ Aside0 (wc.heap[gb1658]? = some (.cells #[.int .i64 t1652, .string t1653, (.slice Ao53 t1654.length co53), .string t1657] 50 (0, 0))) ∧ Aside0 (wc.heap[gb1664]? = some (.cells #[.int .i64 t1659, (.slice Ao63 t1660.length co63), .string t1663] 29 (0, 0))) ∧ Aside0 (wc.heap[gb1679]? = some (.cells #[.string t1665, (.slice Ao73 t1666.length co73), (.slice Ao74 t1669.length co74), .int .i64 t1672, (.slice Ao75 t1673.length co75), .string t1676, .int .i64 t1677] 31 (0, 0))) ∧ Aside0 (Below w.heap.size w wc))
 case first =>
  have H := HC23.out
  clear HC23
  revert H
  refine ok1 fun t1680 A76 H => ?_
  by_cases c77 : t1680 = true
  rotate_left
  ·replace c77 := Bool.eq_false_iff.mpr c77
   subst c77
   rw [if_neg (show ¬ (false = true) by decide)] at H
   cases k with
   | zero => exact absurd H (by simp [laws_FnExactObjOf.j0])
   | succ k_ => simp only [laws_FnExactObjOf.j0, if_true] at H; exact absurd (Option.some.inj H) (by rw [ht_]; decide)
  subst c77
  rw [if_pos rfl] at H
  have H' := am H
  clear H
  have hnb78 := NB1679_1622.out
  have hnc78 := NB1622_1679.out
  have hnb79 := NB1679_1623.out
  have hnc79 := NB1623_1679.out
  have hnb80 := NB1679_1651.out
  have hnc80 := NB1651_1679.out
  have hnb81 := NB1679_1658.out
  have hnc81 := NB1658_1679.out
  have hnb82 := NB1679_1664.out
  have hnc82 := NB1664_1679.out
  obtain ⟨z83_0, y83_0, z83_1, y83_1, z83_2, y83_2, z83_3, y83_3, z83_4, y83_4, z83_5, y83_5, z83_6, y83_6⟩ := cl7 BK1679
  have hnb84 := NB1651_1622.out
  have hnc84 := NB1622_1651.out
  have hnb85 := NB1651_1623.out
  have hnc85 := NB1623_1651.out
  have hnb86 := NB1651_1658.out
  have hnc86 := NB1658_1651.out
  have hnb87 := NB1651_1664.out
  have hnc87 := NB1664_1651.out
  obtain ⟨z88_0, y88_0, z88_1, y88_1, z88_2, y88_2, z88_3, y88_3, z88_4, y88_4, z88_5, y88_5, z88_6, y88_6⟩ := cl7 BK1651
  go_wp2_with ((with_reducible refine gw ?_); first | (refine gl 51 Tryz.func39 #[.agg #[.string t1665, .slice Ao73 t1666.length co73, .slice Ao74 t1669.length co74, .int .i64 t1672, .slice Ao75 t1673.length co75, .string t1676, .int .i64 t1677], .agg #[.string t1637, .slice Ao36 t1638.length co36, .slice Ao38 t1641.length co38, .int .i64 t1644, .slice Ao41 t1645.length co41, .string t1648, .int .i64 t1649]] ?_; (with_reducible refine (laws_eqObj.calls k t1665 _ _ t1666 _ _ t1669 t1672 _ _ t1673 t1676 t1677 t1637 _ _ t1638 _ _ t1641 t1644 _ _ t1645 t1648 t1649 true _ ?side1 ?side2 ?side3 ?side4 ?side5 ?side6 ?side7 ?side8 ?side9 ?side10 ?side11 ?side12 A76.out).mono ?_); (case side1 => refine (Kd.R_reads' (e := 9) (base := w.heap.size) (ok := fun k_ => ((some k_ ≠ (.slice Ao74 t1669.length co74 : Value).ownBlock ∧ some k_ ≠ (.slice Ao36 t1638.length co36 : Value).ownBlock) ∧ some k_ ≠ (.slice Ao38 t1641.length co38 : Value).ownBlock)) (n := t1666.length) (c := co73) ?_).2.2; exact (rj (Kd.R_types HO1668.out BK1679.out (by decide)) (fun _ h_ => h_.1))); (case side2 => exact (Kd.R_reads' HO1668.out).2.1); (case side3 => refine (Kd.R_reads' (e := 9) (base := w.heap.size) (ok := fun k_ => ((some k_ ≠ (.slice Ao73 t1666.length co73 : Value).ownBlock ∧ some k_ ≠ (.slice Ao36 t1638.length co36 : Value).ownBlock) ∧ some k_ ≠ (.slice Ao38 t1641.length co38 : Value).ownBlock)) (n := t1669.length) (c := co74) ?_).2.2; exact (rj (Kd.R_types HO1671.out BK1679.out (by decide)) (fun _ h_ => h_.1))); (case side4 => exact (Kd.R_reads' HO1671.out).2.1); (case side5 => refine (Kd.R_reads' (e := 116) (base := w.heap.size) (ok := fun k_ => (((((True ∧ some k_ ≠ (v1629 : Value).ownBlock) ∧ some k_ ≠ (v1634 : Value).ownBlock) ∧ some k_ ≠ (.slice Ao41 t1645.length co41 : Value).ownBlock) ∧ some k_ ≠ (.slice Ao53 t1654.length co53 : Value).ownBlock) ∧ some k_ ≠ (.slice Ao63 t1660.length co63 : Value).ownBlock)) (n := t1673.length) (c := co75) ?_).2.2; exact (rj (Kd.R_types HO1675.out BK1679.out (by decide)) (fun _ h_ => h_.1))); (case side6 => exact (Kd.R_reads' HO1675.out).2.1); (case side7 => refine (Kd.R_reads' (e := 9) (base := w.heap.size) (ok := fun k_ => ((some k_ ≠ (.slice Ao38 t1641.length co38 : Value).ownBlock ∧ some k_ ≠ (.slice Ao73 t1666.length co73 : Value).ownBlock) ∧ some k_ ≠ (.slice Ao74 t1669.length co74 : Value).ownBlock)) (n := t1638.length) (c := co36) ?_).2.2; exact (rj (Kd.R_types HO1640.out BK1679.out (by decide)) (fun _ h_ => h_.1))); (case side8 => exact (Kd.R_reads' HO1640.out).2.1); (case side9 => refine (Kd.R_reads' (e := 9) (base := w.heap.size) (ok := fun k_ => ((some k_ ≠ (.slice Ao36 t1638.length co36 : Value).ownBlock ∧ some k_ ≠ (.slice Ao73 t1666.length co73 : Value).ownBlock) ∧ some k_ ≠ (.slice Ao74 t1669.length co74 : Value).ownBlock)) (n := t1641.length) (c := co38) ?_).2.2; exact (rj (Kd.R_types HO1643.out BK1679.out (by decide)) (fun _ h_ => h_.1))); (case side10 => exact (Kd.R_reads' HO1643.out).2.1); (case side11 => refine (Kd.R_reads' (e := 116) (base := w.heap.size) (ok := fun k_ => ((((some k_ ≠ (v1629 : Value).ownBlock ∧ some k_ ≠ (v1634 : Value).ownBlock) ∧ some k_ ≠ (.slice Ao53 t1654.length co53 : Value).ownBlock) ∧ some k_ ≠ (.slice Ao63 t1660.length co63 : Value).ownBlock) ∧ some k_ ≠ (.slice Ao75 t1673.length co75 : Value).ownBlock)) (n := t1645.length) (c := co41) ?_).2.2; exact (rj (Kd.R_types HO1647.out BK1679.out (by decide)) (fun _ h_ => h_.1))); (case side12 => exact (Kd.R_reads' HO1647.out).2.1); rintro e w89 ⟨rfl, hb⟩; refine ⟨_, rfl, ?_⟩; replace HO1630 := am (Kd.R_below (rj (Kd.R_types HO1630.out BK1679.out (by decide)) (fun _ h_ => h_.1)) hb); replace HO1635 := am (Kd.R_below (rj (Kd.R_types HO1635.out BK1679.out (by decide)) (fun _ h_ => h_.1)) hb); replace HO1640 := am (Kd.R_below (rj (Kd.R_types HO1640.out BK1679.out (by decide)) (fun _ h_ => h_.1)) hb); replace HO1643 := am (Kd.R_below (rj (Kd.R_types HO1643.out BK1679.out (by decide)) (fun _ h_ => h_.1)) hb); replace HO1647 := am (Kd.R_below (rj (Kd.R_types HO1647.out BK1679.out (by decide)) (fun _ h_ => h_.1)) hb); replace HO1656 := am (Kd.R_below (rj (Kd.R_types HO1656.out BK1679.out (by decide)) (fun _ h_ => h_.1)) hb); replace HO1662 := am (Kd.R_below (rj (Kd.R_types HO1662.out BK1679.out (by decide)) (fun _ h_ => h_.1)) hb); replace HO1668 := am (Kd.R_below (rj (Kd.R_types HO1668.out BK1679.out (by decide)) (fun _ h_ => h_.1)) hb); replace HO1671 := am (Kd.R_below (rj (Kd.R_types HO1671.out BK1679.out (by decide)) (fun _ h_ => h_.1)) hb); replace HO1675 := am (Kd.R_below (rj (Kd.R_types HO1675.out BK1679.out (by decide)) (fun _ h_ => h_.1)) hb); replace BK1622 := kg1 BK1622 NB1622_1679 hb; replace BK1623 := kg1 BK1623 NB1623_1679 hb; replace BK1651 := kg1 BK1651 NB1651_1679 hb; replace BK1658 := kg1 BK1658 NB1658_1679 hb; replace BK1664 := kg1 BK1664 NB1664_1679 hb; replace BK1679 := am (blk_below (g := gb1679) (o := .cells #[.string t1665, .slice Ao73 t1666.length co73, .slice Ao74 t1669.length co74, .int .i64 t1672, .slice Ao75 t1673.length co75, .string t1676, .int .i64 t1677] 31 (0, 0)) (pt0 BK1679) hb); replace HB := am (below_step bl hb); clear hb))
  go_meet
  case rel => exact ⟨_, ((t1678 != t1650)), rs, H', ⟨by first | omega | exact Nat.le_refl _⟩, ⟨by (with_reducible repeat (first | apply Kd.R_alloc | apply Kd.R_drewN | apply Kd.R_drew)); exact Kd.R_mono HO1640.out (fun _ hk => ⟨hk.1.1, ⟨hk.1.2, hk.2⟩⟩)⟩, ⟨by (with_reducible repeat (first | apply Kd.R_alloc | apply Kd.R_drewN | apply Kd.R_drew)); exact Kd.R_mono HO1643.out (fun _ hk => ⟨hk.1.1, ⟨hk.1.2, hk.2⟩⟩)⟩, ⟨by (with_reducible repeat (first | apply Kd.R_alloc | apply Kd.R_drewN | apply Kd.R_drew)); exact Kd.R_mono HO1647.out (fun _ hk => ⟨hk.1.1.2, ⟨hk.1.2, hk.2⟩⟩)⟩, ⟨by (with_reducible repeat (first | apply Kd.R_alloc | apply Kd.R_drewN | apply Kd.R_drew)); exact Kd.R_mono HO1656.out (fun _ hk => ⟨hk.1.1.2, ⟨hk.1.2, hk.2⟩⟩)⟩, ⟨by (with_reducible repeat (first | apply Kd.R_alloc | apply Kd.R_drewN | apply Kd.R_drew)); exact Kd.R_mono HO1662.out (fun _ hk => ⟨hk.1.1.2, ⟨hk.1.2, hk.2⟩⟩)⟩, ⟨by (with_reducible repeat (first | apply Kd.R_alloc | apply Kd.R_drewN | apply Kd.R_drew)); exact Kd.R_mono HO1668.out (fun _ hk => ⟨hk.1.2, ⟨hk.2, hk.1.1⟩⟩)⟩, ⟨by (with_reducible repeat (first | apply Kd.R_alloc | apply Kd.R_drewN | apply Kd.R_drew)); exact Kd.R_mono HO1671.out (fun _ hk => ⟨hk.1.2, ⟨hk.2, hk.1.1⟩⟩)⟩, ⟨by (with_reducible repeat (first | apply Kd.R_alloc | apply Kd.R_drewN | apply Kd.R_drew)); exact Kd.R_mono HO1675.out (fun _ hk => ⟨hk.1.1.2, ⟨hk.1.2, hk.2⟩⟩)⟩, ⟨by (with_reducible repeat (first | refine blk_drewN ?_ _ | refine blk_drew ?_ | refine blk_alloc ?_ _)); exact BK1622.out⟩, ⟨by (with_reducible repeat (first | refine blk_drewN ?_ _ | refine blk_drew ?_ | refine blk_alloc ?_ _)); exact BK1623.out⟩, ⟨by (with_reducible repeat (first | refine blk_drewN ?_ _ | refine blk_drew ?_ | refine blk_alloc ?_ _)); exact BK1651.out⟩, ⟨by (with_reducible repeat (first | refine blk_drewN ?_ _ | refine blk_drew ?_ | refine blk_alloc ?_ _)); exact BK1658.out⟩, ⟨by (with_reducible repeat (first | refine blk_drewN ?_ _ | refine blk_drew ?_ | refine blk_alloc ?_ _)); exact BK1664.out⟩, ⟨by (with_reducible repeat (first | refine blk_drewN ?_ _ | refine blk_drew ?_ | refine blk_alloc ?_ _)); exact BK1679.out⟩, ⟨u7HB⟩⟩
 case rest =>
  clear HC23
  try clear c1
  try clear p2
  try clear c3
  try clear c4
  try clear c5
  try clear c6
  try clear c7
  try clear c8
  try clear c39
  try clear c44
  try clear c45
  try clear c46
  try clear c47
  try clear c49
  try clear c50
  try clear c51
  try clear c54
  try clear c58
  try clear c59
  try clear c60
  try clear c61
  try clear c67
  try clear c68
  try clear c69
  try clear c70
  try clear c71
  try clear c77
  try clear c78
  try clear c79
  try clear c80
  try clear c81
  try clear c82
  try clear c84
  try clear c85
  try clear c86
  try clear c87
  try clear z46_0
  try clear z46_1
  try clear z46_2
  try clear z46_3
  try clear z52_0
  try clear z52_1
  try clear z52_2
  try clear z52_3
  try clear z55_0
  try clear z55_1
  try clear z55_2
  try clear z62_0
  try clear z62_1
  try clear z62_2
  try clear z64_0
  try clear z64_1
  try clear z64_2
  try clear z64_3
  try clear z72_0
  try clear z72_1
  try clear z72_2
  try clear z72_3
  try clear z72_4
  try clear z72_5
  try clear z72_6
  try clear z83_0
  try clear z83_1
  try clear z83_2
  try clear z83_3
  try clear z83_4
  try clear z83_5
  try clear z83_6
  try clear z88_0
  try clear z88_1
  try clear z88_2
  try clear z88_3
  try clear z88_4
  try clear z88_5
  try clear z88_6
  try clear y46_0
  try clear y46_1
  try clear y46_2
  try clear y46_3
  try clear y52_0
  try clear y52_1
  try clear y52_2
  try clear y52_3
  try clear y55_0
  try clear y55_1
  try clear y55_2
  try clear y62_0
  try clear y62_1
  try clear y62_2
  try clear y64_0
  try clear y64_1
  try clear y64_2
  try clear y64_3
  try clear y72_0
  try clear y72_1
  try clear y72_2
  try clear y72_3
  try clear y72_4
  try clear y72_5
  try clear y72_6
  try clear y83_0
  try clear y83_1
  try clear y83_2
  try clear y83_3
  try clear y83_4
  try clear y83_5
  try clear y83_6
  try clear y88_0
  try clear y88_1
  try clear y88_2
  try clear y88_3
  try clear y88_4
  try clear y88_5
  try clear y88_6
  obtain ⟨kq, x57_22, rfl, HA, HJ22, HO_1652001, HO_1652002, HO_1652004, HO_1659002, HO_1665001, HO_1680001, HO_1680002, HO_1680004, BK1622, BK1623, BK1651, BK1658, BK1664, BK1679, HB⟩ := hcut
  cases kq with
  | zero => exact absurd HA.out (by simp [laws_FnExactObjOf.j0])
  | succ kj22 =>
   have H := HA.out
   clear HA
   simp only [laws_FnExactObjOf.j0] at H
   by_cases c90 : x57_22 = true
   ·subst c90
    rw [if_pos rfl] at H
    exact absurd (Option.some.inj H) (by rw [ht_]; decide)
   replace c90 := Bool.eq_false_iff.mpr c90
   subst c90
   rw [if_neg (show ¬ (false = true) by decide)] at H
   revert H
   refine ok4 fun t1681 t1682 t1683 t1686 A91 H => ?_
   (try dsimp only at H)
   revert H
   refine ok1 fun t1687 A92 H => ?_
   by_cases c93 : t1687 = true
   rotate_left
   ·replace c93 := Bool.eq_false_iff.mpr c93
    subst c93
    rw [if_neg (show ¬ (false = true) by decide)] at H
    exact absurd (Option.some.inj H) (by rw [ht_]; decide)
   subst c93
   rw [if_pos rfl] at H
   revert H
   refine ok3 fun t1688 t1689 t1692 A94 H => ?_
   (try dsimp only at H)
   revert H
   refine ok1 fun t1693 A95 H => ?_
   by_cases c96 : t1693 = true
   rotate_left
   ·replace c96 := Bool.eq_false_iff.mpr c96
    subst c96
    rw [if_neg (show ¬ (false = true) by decide)] at H
    exact absurd (Option.some.inj H) (by rw [ht_]; decide)
   subst c96
   rw [if_pos rfl] at H
   revert H
   refine ok2 fun t1694 t1695 A97 H => ?_
   (try dsimp only at H)
   revert H
   refine ok2 fun t1696 t1697 A98 H => ?_
   (try dsimp only at H)
   have HC99 := am H
   clear H
   try go_wp2
   replace HO_1652001 := am (Kd.R_drew HO_1652001.out)
   replace HO_1652002 := am (Kd.R_drew HO_1652002.out)
   replace HO_1652004 := am (Kd.R_drew HO_1652004.out)
   replace HO_1659002 := am (Kd.R_drew HO_1659002.out)
   replace HO_1665001 := am (Kd.R_drew HO_1665001.out)
   replace HO_1680001 := am (Kd.R_drew HO_1680001.out)
   replace HO_1680002 := am (Kd.R_drew HO_1680002.out)
   replace HO_1680004 := am (Kd.R_drew HO_1680004.out)
   replace BK1622 := am (blk_drew BK1622.out)
   replace BK1623 := am (blk_drew BK1623.out)
   replace BK1651 := am (blk_drew BK1651.out)
   replace BK1658 := am (blk_drew BK1658.out)
   replace BK1664 := am (blk_drew BK1664.out)
   replace BK1679 := am (blk_drew BK1679.out)
   replace HB := am (below_drew1 HB.out)
   refine start_ (n := 5) (S := fun w' => w'.cell? ⟨gb1658, 0, none⟩ = some (.int .i64 t1652) ∧ w'.cell? ⟨gb1658, 1, none⟩ = some (.string t1653) ∧ w'.cell? ⟨gb1658, 2, none⟩ = some (.slice Ao53 t1654.length co53) ∧ w'.cell? ⟨gb1658, 3, none⟩ = some (.string t1657) ∧ w'.cell? ⟨gb1622, 0, none⟩ = some (.int .i64 a0_0) ∧ w'.cell? ⟨gb1622, 1, none⟩ = some (.string a0_1) ∧ w'.cell? ⟨gb1622, 2, none⟩ = some (.slice A0_2 l0_2.length c0_2) ∧ w'.cell? ⟨gb1622, 3, none⟩ = some (.string a0_3)) (ds := []) ⟨br true [0, 5]⟩ (by kernel_rfl) rfl (by kernel_rfl) ⟨bc BK1658, bc BK1658, bc BK1658, bc BK1658, bc BK1622, bc BK1622, bc BK1622, bc BK1622⟩ (fun hHeld => ?_)
   generalize wc.drew = w100 at HO_1652001 HO_1652002 HO_1652004 HO_1659002 HO_1665001 HO_1680001 HO_1680002 HO_1680004 BK1622 BK1623 BK1651 BK1658 BK1664 BK1679 HB hHeld ⊢
   refine tk 0 58 [1, 4] ?_
   refine tk 1 59 [2, 3] ?_
   refine og 2 60 [3, 2] Tryz.func45 #[.agg #[.int .i64 a0_0, .string a0_1, .slice A0_2 l0_2.length c0_2, .string a0_3]] (fun K hK => ?_)
   with_reducible refine (laws_toReq.calls kj22 a0_0 a0_1 _ _ l0_2 a0_3 t1681 t1682 t1683 t1686 _ ?side1 ?side2 A91.out).mono ?_
   (case side1 => exact cb HR0_2)
   (case side2 => exact HC0_2.out)
   rintro e w101 ⟨v1684, rfl, ho0, hb⟩
   refine ⟨_, rfl, ?_⟩
   replace HO_1652001 := kr HO_1652001 hb
   replace HO_1652002 := kr HO_1652002 hb
   replace HO_1680001 := kr HO_1680001 hb
   replace HO_1680002 := kr HO_1680002 hb
   have HO1685 := am (Kd.R_lower (Kd.R_new' (Kd.R_new' (Kd.R_new' (Kd.R_new' ho0 (Kd.R_lt (ro HO_1652004))) (Kd.R_lt (ro HO_1659002))) (Kd.R_lt (ro HO_1665001))) (Kd.R_lt (ro HO_1680004))) (below_size bl))
   replace HO_1652004 := am (Kd.R_elder' (ro HO_1652004) (Kd.R_base ho0) hb)
   replace HO_1659002 := am (Kd.R_elder' (ro HO_1659002) (Kd.R_base ho0) hb)
   replace HO_1665001 := am (Kd.R_elder' (ro HO_1665001) (Kd.R_base ho0) hb)
   replace HO_1680004 := am (Kd.R_elder' (ro HO_1680004) (Kd.R_base ho0) hb)
   replace BK1622 := kb BK1622 hb
   replace BK1623 := kb BK1623 hb
   replace BK1651 := kb BK1651 hb
   replace BK1658 := kb BK1658 hb
   replace BK1664 := kb BK1664 hb
   replace BK1679 := kb BK1679 hb
   replace HB := am (below_step bl hb)
   clear hb ho0
   obtain ⟨Ao102, co102, eo102⟩ := Kd.R_slice HO1685.out
   (first | subst eo102 | (injection eo102 with f1_ f2_ f3_; have f4_ := f1_.symm; have f5_ := f3_.symm; clear f1_ f2_ f3_; subst f4_; subst f5_))
   refine hK.out _ _ ⟨bc BK1658, bc BK1658, bc BK1658, bc BK1658, bc BK1622, bc BK1622, bc BK1622, bc BK1622⟩ (fun hHeld => ?_)
   clear hK K
   refine nm 60 ?_
   refine og 3 61 [4, 1] Tryz.func48 #[.agg #[.int .i64 t1652, .string t1653, .slice Ao53 t1654.length co53, .string t1657], .agg #[.int .i64 t1681, .string t1682, .slice Ao102 t1683.length co102, .string t1686]] (fun K hK => ?_)
   with_reducible refine (laws_eqReq.calls kj22 t1652 t1653 _ _ t1654 t1657 t1681 t1682 _ _ t1683 t1686 true _ ?side1 ?side2 ?side3 ?side4 A92.out).mono ?_
   (case side1 => exact rc HO_1659002)
   (case side2 => exact (Kd.R_reads' HO_1659002.out).2.1)
   (case side3 => exact rc HO1685)
   (case side4 => exact (Kd.R_reads' HO1685.out).2.1)
   rintro e w103 ⟨rfl, hb⟩
   refine ⟨_, rfl, ?_⟩
   replace HO_1652001 := kr HO_1652001 hb
   replace HO_1652002 := kr HO_1652002 hb
   replace HO_1652004 := kr HO_1652004 hb
   replace HO_1659002 := kr HO_1659002 hb
   replace HO_1665001 := kr HO_1665001 hb
   replace HO_1680001 := kr HO_1680001 hb
   replace HO_1680002 := kr HO_1680002 hb
   replace HO_1680004 := kr HO_1680004 hb
   replace HO1685 := kr HO1685 hb
   replace BK1622 := kb BK1622 hb
   replace BK1623 := kb BK1623 hb
   replace BK1651 := kb BK1651 hb
   replace BK1658 := kb BK1658 hb
   replace BK1664 := kb BK1664 hb
   replace BK1679 := kb BK1679 hb
   replace HB := am (below_step bl hb)
   clear hb
   refine hK.out _ _ ⟨bc BK1658, bc BK1658, bc BK1658, bc BK1658, bc BK1622, bc BK1622, bc BK1622, bc BK1622⟩ (fun hHeld => ?_)
   clear hK K
   refine nm 61 ?_
   refine pu 4 62 [5] ?_
   refine done_ (by kernel_rfl) ?_
   try go_wp2
   replace HO_1652001 := am (Kd.R_drew HO_1652001.out)
   replace HO_1652002 := am (Kd.R_drew HO_1652002.out)
   replace HO_1652004 := am (Kd.R_drew HO_1652004.out)
   replace HO_1659002 := am (Kd.R_drew HO_1659002.out)
   replace HO_1665001 := am (Kd.R_drew HO_1665001.out)
   replace HO_1680001 := am (Kd.R_drew HO_1680001.out)
   replace HO_1680002 := am (Kd.R_drew HO_1680002.out)
   replace HO_1680004 := am (Kd.R_drew HO_1680004.out)
   replace HO1685 := am (Kd.R_drew HO1685.out)
   replace BK1622 := am (blk_drew BK1622.out)
   replace BK1623 := am (blk_drew BK1623.out)
   replace BK1651 := am (blk_drew BK1651.out)
   replace BK1658 := am (blk_drew BK1658.out)
   replace BK1664 := am (blk_drew BK1664.out)
   replace BK1679 := am (blk_drew BK1679.out)
   replace HB := am (below_drew1 HB.out)
   refine start_ (n := 5) (S := fun w' => w'.cell? ⟨gb1664, 0, none⟩ = some (.int .i64 t1659) ∧ w'.cell? ⟨gb1664, 1, none⟩ = some (.slice Ao63 t1660.length co63) ∧ w'.cell? ⟨gb1664, 2, none⟩ = some (.string t1663) ∧ w'.cell? ⟨gb1623, 0, none⟩ = some (.int .i64 a1_0) ∧ w'.cell? ⟨gb1623, 1, none⟩ = some (.slice A1_1 l1_1.length c1_1) ∧ w'.cell? ⟨gb1623, 2, none⟩ = some (.string a1_2)) (ds := []) ⟨br true [0, 5]⟩ (by kernel_rfl) rfl (by kernel_rfl) ⟨bc BK1664, bc BK1664, bc BK1664, bc BK1623, bc BK1623, bc BK1623⟩ (fun hHeld => ?_)
   generalize w103.drew = w104 at HO_1652001 HO_1652002 HO_1652004 HO_1659002 HO_1665001 HO_1680001 HO_1680002 HO_1680004 HO1685 BK1622 BK1623 BK1651 BK1658 BK1664 BK1679 HB hHeld ⊢
   refine tk 0 63 [1, 4] ?_
   refine tk 1 64 [2, 3] ?_
   refine og 2 65 [3, 2] Tryz.func46 #[.agg #[.int .i64 a1_0, .slice A1_1 l1_1.length c1_1, .string a1_2]] (fun K hK => ?_)
   with_reducible refine (laws_toResp.calls kj22 a1_0 _ _ l1_1 a1_2 t1688 t1689 t1692 _ ?side1 ?side2 A94.out).mono ?_
   (case side1 => exact cb HR1_1)
   (case side2 => exact HC1_1.out)
   rintro e w105 ⟨v1690, rfl, ho0, hb⟩
   refine ⟨_, rfl, ?_⟩
   replace HO_1652001 := kr HO_1652001 hb
   replace HO_1652002 := kr HO_1652002 hb
   replace HO_1680001 := kr HO_1680001 hb
   replace HO_1680002 := kr HO_1680002 hb
   have HO1691 := am (Kd.R_lower (Kd.R_new' (Kd.R_new' (Kd.R_new' (Kd.R_new' (Kd.R_new' ho0 (Kd.R_lt (ro HO_1652004))) (Kd.R_lt (ro HO_1659002))) (Kd.R_lt (ro HO_1665001))) (Kd.R_lt (ro HO_1680004))) (Kd.R_lt (ro HO1685))) (below_size bl))
   replace HO_1652004 := am (Kd.R_elder' (ro HO_1652004) (Kd.R_base ho0) hb)
   replace HO_1659002 := am (Kd.R_elder' (ro HO_1659002) (Kd.R_base ho0) hb)
   replace HO_1665001 := am (Kd.R_elder' (ro HO_1665001) (Kd.R_base ho0) hb)
   replace HO_1680004 := am (Kd.R_elder' (ro HO_1680004) (Kd.R_base ho0) hb)
   replace HO1685 := am (Kd.R_elder' (ro HO1685) (Kd.R_base ho0) hb)
   replace BK1622 := kb BK1622 hb
   replace BK1623 := kb BK1623 hb
   replace BK1651 := kb BK1651 hb
   replace BK1658 := kb BK1658 hb
   replace BK1664 := kb BK1664 hb
   replace BK1679 := kb BK1679 hb
   replace HB := am (below_step bl hb)
   clear hb ho0
   obtain ⟨Ao106, co106, eo106⟩ := Kd.R_slice HO1691.out
   (first | subst eo106 | (injection eo106 with f1_ f2_ f3_; have f4_ := f1_.symm; have f5_ := f3_.symm; clear f1_ f2_ f3_; subst f4_; subst f5_))
   refine hK.out _ _ ⟨bc BK1664, bc BK1664, bc BK1664, bc BK1623, bc BK1623, bc BK1623⟩ (fun hHeld => ?_)
   clear hK K
   refine nm 65 ?_
   refine og 3 66 [4, 1] Tryz.func49 #[.agg #[.int .i64 t1659, .slice Ao63 t1660.length co63, .string t1663], .agg #[.int .i64 t1688, .slice Ao106 t1689.length co106, .string t1692]] (fun K hK => ?_)
   with_reducible refine (laws_eqResp.calls kj22 t1659 _ _ t1660 t1663 t1688 _ _ t1689 t1692 true _ ?side1 ?side2 ?side3 ?side4 A95.out).mono ?_
   (case side1 => exact rc HO_1665001)
   (case side2 => exact (Kd.R_reads' HO_1665001.out).2.1)
   (case side3 => exact rc HO1691)
   (case side4 => exact (Kd.R_reads' HO1691.out).2.1)
   rintro e w107 ⟨rfl, hb⟩
   refine ⟨_, rfl, ?_⟩
   replace HO_1652001 := kr HO_1652001 hb
   replace HO_1652002 := kr HO_1652002 hb
   replace HO_1652004 := kr HO_1652004 hb
   replace HO_1659002 := kr HO_1659002 hb
   replace HO_1665001 := kr HO_1665001 hb
   replace HO_1680001 := kr HO_1680001 hb
   replace HO_1680002 := kr HO_1680002 hb
   replace HO_1680004 := kr HO_1680004 hb
   replace HO1685 := kr HO1685 hb
   replace HO1691 := kr HO1691 hb
   replace BK1622 := kb BK1622 hb
   replace BK1623 := kb BK1623 hb
   replace BK1651 := kb BK1651 hb
   replace BK1658 := kb BK1658 hb
   replace BK1664 := kb BK1664 hb
   replace BK1679 := kb BK1679 hb
   replace HB := am (below_step bl hb)
   clear hb
   refine hK.out _ _ ⟨bc BK1664, bc BK1664, bc BK1664, bc BK1623, bc BK1623, bc BK1623⟩ (fun hHeld => ?_)
   clear hK K
   refine nm 66 ?_
   refine pu 4 67 [5] ?_
   refine done_ (by kernel_rfl) ?_
   have hnb108 := NB1658_1622.out
   have hnc108 := NB1622_1658.out
   have hnb109 := NB1658_1623.out
   have hnc109 := NB1623_1658.out
   have hnb110 := NB1658_1651.out
   have hnc110 := NB1651_1658.out
   have hnb111 := NB1658_1664.out
   have hnc111 := NB1664_1658.out
   have hnb112 := NB1658_1679.out
   have hnc112 := NB1679_1658.out
   obtain ⟨z113_0, y113_0, z113_1, y113_1, z113_2, y113_2, z113_3, y113_3⟩ := cl4 BK1658
   go_upto_region 21 with ((with_reducible refine gw ?_); first | (refine gl 70 Tryz.func50 #[.agg #[.int .i64 t1652, .string t1653, .slice Ao53 t1654.length co53, .string t1657], .int .i64 1] ?_; (with_reducible refine (laws_markReq.calls kj22 t1652 t1653 (fun k_ => some k_ = (.slice Ao53 t1654.length co53 : Value).ownBlock) (.slice Ao53 t1654.length co53) t1654 t1657 1 t1694 t1695 w _ ?side1 ?side2 A97.out).mono ?_); (case side1 => exact u7HB); (case side2 => exact Kd.R_tight rfl HO_1659002.out); rintro e w114 ⟨rfl, hy0, hb, hkp⟩; refine ⟨_, rfl, ?_⟩; replace HO_1652001 := am (Kd.R_mono (ok' := fun k_ => some k_ ≠ (.slice Ao38 t1641.length co38 : Value).ownBlock ∧ some k_ ≠ (.slice Ao73 t1666.length co73 : Value).ownBlock ∧ some k_ ≠ (.slice Ao74 t1669.length co74 : Value).ownBlock) (Kd.R_keptB ((Kd.R_apart' HO_1652001.out (Kd.R_typed HO_1659002.out) (by decide))) hkp (fun k_ hk_ hs_ => (hk_.2) hs_)) (fun k_ hk_ => ⟨hk_.1.1.1, hk_.1.1.2.1, hk_.1.1.2.2⟩)); replace HO_1652002 := am (Kd.R_mono (ok' := fun k_ => some k_ ≠ (.slice Ao36 t1638.length co36 : Value).ownBlock ∧ some k_ ≠ (.slice Ao73 t1666.length co73 : Value).ownBlock ∧ some k_ ≠ (.slice Ao74 t1669.length co74 : Value).ownBlock) (Kd.R_keptB ((Kd.R_apart' HO_1652002.out (Kd.R_typed HO_1659002.out) (by decide))) hkp (fun k_ hk_ hs_ => (hk_.2) hs_)) (fun k_ hk_ => ⟨hk_.1.1.1, hk_.1.1.2.1, hk_.1.1.2.2⟩)); replace HO_1652004 := am (Kd.R_mono (ok' := fun k_ => some k_ ≠ (.slice Ao53 t1654.length co53 : Value).ownBlock ∧ some k_ ≠ (.slice Ao63 t1660.length co63 : Value).ownBlock ∧ some k_ ≠ (.slice Ao75 t1673.length co75 : Value).ownBlock ∧ some k_ ≠ (.slice Ao102 t1683.length co102 : Value).ownBlock ∧ some k_ ≠ (.slice Ao106 t1689.length co106 : Value).ownBlock) (Kd.R_keptB (HO_1652004.out) hkp (fun k_ hk_ hs_ => (hk_.1.1.1) hs_)) (fun k_ hk_ => ⟨hk_.1.1.1.1, hk_.1.1.1.2.1, hk_.1.1.1.2.2, hk_.1.1.2, hk_.1.2⟩)); replace HO_1665001 := am (Kd.R_mono (ok' := fun k_ => some k_ ≠ (.slice Ao41 t1645.length co41 : Value).ownBlock ∧ some k_ ≠ (.slice Ao53 t1654.length co53 : Value).ownBlock ∧ some k_ ≠ (.slice Ao75 t1673.length co75 : Value).ownBlock ∧ some k_ ≠ (.slice Ao102 t1683.length co102 : Value).ownBlock ∧ some k_ ≠ (.slice Ao106 t1689.length co106 : Value).ownBlock) (Kd.R_keptB (HO_1665001.out) hkp (fun k_ hk_ hs_ => (hk_.1.1.2.1) hs_)) (fun k_ hk_ => ⟨hk_.1.1.1.1, hk_.1.1.1.2.1, hk_.1.1.1.2.2, hk_.1.1.2, hk_.1.2⟩)); replace HO_1680001 := am (Kd.R_mono (ok' := fun k_ => some k_ ≠ (.slice Ao36 t1638.length co36 : Value).ownBlock ∧ some k_ ≠ (.slice Ao38 t1641.length co38 : Value).ownBlock ∧ some k_ ≠ (.slice Ao74 t1669.length co74 : Value).ownBlock) (Kd.R_keptB ((Kd.R_apart' HO_1680001.out (Kd.R_typed HO_1659002.out) (by decide))) hkp (fun k_ hk_ hs_ => (hk_.2) hs_)) (fun k_ hk_ => ⟨hk_.1.1.1, hk_.1.1.2.1, hk_.1.1.2.2⟩)); replace HO_1680002 := am (Kd.R_mono (ok' := fun k_ => some k_ ≠ (.slice Ao36 t1638.length co36 : Value).ownBlock ∧ some k_ ≠ (.slice Ao38 t1641.length co38 : Value).ownBlock ∧ some k_ ≠ (.slice Ao73 t1666.length co73 : Value).ownBlock) (Kd.R_keptB ((Kd.R_apart' HO_1680002.out (Kd.R_typed HO_1659002.out) (by decide))) hkp (fun k_ hk_ hs_ => (hk_.2) hs_)) (fun k_ hk_ => ⟨hk_.1.1.1, hk_.1.1.2.1, hk_.1.1.2.2⟩)); replace HO_1680004 := am (Kd.R_mono (ok' := fun k_ => some k_ ≠ (.slice Ao41 t1645.length co41 : Value).ownBlock ∧ some k_ ≠ (.slice Ao53 t1654.length co53 : Value).ownBlock ∧ some k_ ≠ (.slice Ao63 t1660.length co63 : Value).ownBlock ∧ some k_ ≠ (.slice Ao102 t1683.length co102 : Value).ownBlock ∧ some k_ ≠ (.slice Ao106 t1689.length co106 : Value).ownBlock) (Kd.R_keptB (HO_1680004.out) hkp (fun k_ hk_ hs_ => (hk_.1.1.2.1) hs_)) (fun k_ hk_ => ⟨hk_.1.1.1.1, hk_.1.1.1.2.1, hk_.1.1.1.2.2, hk_.1.1.2, hk_.1.2⟩)); replace BK1622 := am (blk_kept (bk BK1622) hkp (fun hs_ => (fun e_ => (Kd.R_ne HO_1659002.out BK1622.out (by decide)) e_) hs_)); replace BK1623 := am (blk_kept (bk BK1623) hkp (fun hs_ => (fun e_ => (Kd.R_ne HO_1659002.out BK1623.out (by decide)) e_) hs_)); replace BK1651 := am (blk_kept (bk BK1651) hkp (fun hs_ => (fun e_ => (Kd.R_ne HO_1659002.out BK1651.out (by decide)) e_) hs_)); replace BK1658 := am (blk_kept (bk BK1658) hkp (fun hs_ => (fun e_ => (Kd.R_ne HO_1659002.out BK1658.out (by decide)) e_) hs_)); replace BK1664 := am (blk_kept (bk BK1664) hkp (fun hs_ => (fun e_ => (Kd.R_ne HO_1659002.out BK1664.out (by decide)) e_) hs_)); replace BK1679 := am (blk_kept (bk BK1679) hkp (fun hs_ => (fun e_ => (Kd.R_ne HO_1659002.out BK1679.out (by decide)) e_) hs_)); replace HO_1659002 := am (Kd.R_reok rfl hy0 (fun k_ e_ => HO_1659002.out.1 k_ e_)); replace HO1685 := am (Kd.R_mono (ok' := fun k_ => some k_ ≠ (.slice Ao41 t1645.length co41 : Value).ownBlock ∧ some k_ ≠ (.slice Ao53 t1654.length co53 : Value).ownBlock ∧ some k_ ≠ (.slice Ao63 t1660.length co63 : Value).ownBlock ∧ some k_ ≠ (.slice Ao75 t1673.length co75 : Value).ownBlock ∧ some k_ ≠ (.slice Ao106 t1689.length co106 : Value).ownBlock) (Kd.R_keptB (HO1685.out) hkp (fun k_ hk_ hs_ => (hk_.1.1.1.2) hs_)) (fun k_ hk_ => ⟨hk_.1.1.1.1.1.2, hk_.1.1.1.1.2, hk_.1.1.1.2, hk_.1.1.2, hk_.1.2⟩)); replace HO1691 := am (Kd.R_mono (ok' := fun k_ => some k_ ≠ (.slice Ao41 t1645.length co41 : Value).ownBlock ∧ some k_ ≠ (.slice Ao53 t1654.length co53 : Value).ownBlock ∧ some k_ ≠ (.slice Ao63 t1660.length co63 : Value).ownBlock ∧ some k_ ≠ (.slice Ao75 t1673.length co75 : Value).ownBlock ∧ some k_ ≠ (.slice Ao102 t1683.length co102 : Value).ownBlock) (Kd.R_keptB (HO1691.out) hkp (fun k_ hk_ hs_ => (hk_.1.1.1.2) hs_)) (fun k_ hk_ => ⟨hk_.1.1.1.1.1.2, hk_.1.1.1.1.2, hk_.1.1.1.2, hk_.1.1.2, hk_.1.2⟩)); replace HB := am (hb); clear hb; (try clear hkp); (try clear hy0); have hnb115 := NB1664_1622.out; have hnc115 := NB1622_1664.out; have hnb116 := NB1664_1623.out; have hnc116 := NB1623_1664.out; have hnb117 := NB1664_1651.out; have hnc117 := NB1651_1664.out; have hnb118 := NB1664_1679.out; have hnc118 := NB1679_1664.out; obtain ⟨z119_0, y119_0, z119_1, y119_1, z119_2, y119_2⟩ := cl3 BK1664) | (refine gl 73 Tryz.func51 #[.agg #[.int .i64 t1659, .slice Ao63 t1660.length co63, .string t1663], .int .i64 t1694] ?_; (with_reducible refine (laws_markResp.calls kj22 t1659 (fun k_ => some k_ = (.slice Ao63 t1660.length co63 : Value).ownBlock) (.slice Ao63 t1660.length co63) t1660 t1663 t1694 t1696 t1697 w _ ?side1 ?side2 A98.out).mono ?_); (case side1 => exact u7HB); (case side2 => exact Kd.R_tight rfl HO_1665001.out); rintro e w120 ⟨rfl, hy0, hb, hkp⟩; refine ⟨_, rfl, ?_⟩; replace HO_1652001 := am (Kd.R_mono (ok' := fun k_ => some k_ ≠ (.slice Ao38 t1641.length co38 : Value).ownBlock ∧ some k_ ≠ (.slice Ao73 t1666.length co73 : Value).ownBlock ∧ some k_ ≠ (.slice Ao74 t1669.length co74 : Value).ownBlock) (Kd.R_keptB ((Kd.R_apart' HO_1652001.out (Kd.R_typed HO_1665001.out) (by decide))) hkp (fun k_ hk_ hs_ => (hk_.2) hs_)) (fun k_ hk_ => ⟨hk_.1.1.1, hk_.1.1.2.1, hk_.1.1.2.2⟩)); replace HO_1652002 := am (Kd.R_mono (ok' := fun k_ => some k_ ≠ (.slice Ao36 t1638.length co36 : Value).ownBlock ∧ some k_ ≠ (.slice Ao73 t1666.length co73 : Value).ownBlock ∧ some k_ ≠ (.slice Ao74 t1669.length co74 : Value).ownBlock) (Kd.R_keptB ((Kd.R_apart' HO_1652002.out (Kd.R_typed HO_1665001.out) (by decide))) hkp (fun k_ hk_ hs_ => (hk_.2) hs_)) (fun k_ hk_ => ⟨hk_.1.1.1, hk_.1.1.2.1, hk_.1.1.2.2⟩)); replace HO_1652004 := am (Kd.R_mono (ok' := fun k_ => some k_ ≠ (.slice Ao53 t1654.length co53 : Value).ownBlock ∧ some k_ ≠ (.slice Ao63 t1660.length co63 : Value).ownBlock ∧ some k_ ≠ (.slice Ao75 t1673.length co75 : Value).ownBlock ∧ some k_ ≠ (.slice Ao102 t1683.length co102 : Value).ownBlock ∧ some k_ ≠ (.slice Ao106 t1689.length co106 : Value).ownBlock) (Kd.R_keptB (HO_1652004.out) hkp (fun k_ hk_ hs_ => (hk_.2.1) hs_)) (fun k_ hk_ => ⟨hk_.1.1, hk_.1.2.1, hk_.1.2.2.1, hk_.1.2.2.2.1, hk_.1.2.2.2.2⟩)); replace HO_1659002 := am (Kd.R_mono (ok' := fun k_ => some k_ ≠ (.slice Ao41 t1645.length co41 : Value).ownBlock ∧ some k_ ≠ (.slice Ao63 t1660.length co63 : Value).ownBlock ∧ some k_ ≠ (.slice Ao75 t1673.length co75 : Value).ownBlock ∧ some k_ ≠ (.slice Ao102 t1683.length co102 : Value).ownBlock ∧ some k_ ≠ (.slice Ao106 t1689.length co106 : Value).ownBlock) (Kd.R_keptB (HO_1659002.out) hkp (fun k_ hk_ hs_ => (hk_.1.1.2.1) hs_)) (fun k_ hk_ => ⟨hk_.1.1.1.1, hk_.1.1.1.2.1, hk_.1.1.1.2.2, hk_.1.1.2, hk_.1.2⟩)); replace HO_1680001 := am (Kd.R_mono (ok' := fun k_ => some k_ ≠ (.slice Ao36 t1638.length co36 : Value).ownBlock ∧ some k_ ≠ (.slice Ao38 t1641.length co38 : Value).ownBlock ∧ some k_ ≠ (.slice Ao74 t1669.length co74 : Value).ownBlock) (Kd.R_keptB ((Kd.R_apart' HO_1680001.out (Kd.R_typed HO_1665001.out) (by decide))) hkp (fun k_ hk_ hs_ => (hk_.2) hs_)) (fun k_ hk_ => ⟨hk_.1.1.1, hk_.1.1.2.1, hk_.1.1.2.2⟩)); replace HO_1680002 := am (Kd.R_mono (ok' := fun k_ => some k_ ≠ (.slice Ao36 t1638.length co36 : Value).ownBlock ∧ some k_ ≠ (.slice Ao38 t1641.length co38 : Value).ownBlock ∧ some k_ ≠ (.slice Ao73 t1666.length co73 : Value).ownBlock) (Kd.R_keptB ((Kd.R_apart' HO_1680002.out (Kd.R_typed HO_1665001.out) (by decide))) hkp (fun k_ hk_ hs_ => (hk_.2) hs_)) (fun k_ hk_ => ⟨hk_.1.1.1, hk_.1.1.2.1, hk_.1.1.2.2⟩)); replace HO_1680004 := am (Kd.R_mono (ok' := fun k_ => some k_ ≠ (.slice Ao41 t1645.length co41 : Value).ownBlock ∧ some k_ ≠ (.slice Ao53 t1654.length co53 : Value).ownBlock ∧ some k_ ≠ (.slice Ao63 t1660.length co63 : Value).ownBlock ∧ some k_ ≠ (.slice Ao102 t1683.length co102 : Value).ownBlock ∧ some k_ ≠ (.slice Ao106 t1689.length co106 : Value).ownBlock) (Kd.R_keptB (HO_1680004.out) hkp (fun k_ hk_ hs_ => (hk_.2.2.1) hs_)) (fun k_ hk_ => ⟨hk_.1.1, hk_.1.2.1, hk_.1.2.2.1, hk_.1.2.2.2.1, hk_.1.2.2.2.2⟩)); replace BK1622 := am (blk_kept (bk BK1622) hkp (fun hs_ => (fun e_ => (Kd.R_ne HO_1665001.out BK1622.out (by decide)) e_) hs_)); replace BK1623 := am (blk_kept (bk BK1623) hkp (fun hs_ => (fun e_ => (Kd.R_ne HO_1665001.out BK1623.out (by decide)) e_) hs_)); replace BK1651 := am (blk_kept (bk BK1651) hkp (fun hs_ => (fun e_ => (Kd.R_ne HO_1665001.out BK1651.out (by decide)) e_) hs_)); replace BK1658 := am (blk_kept (bk BK1658) hkp (fun hs_ => (fun e_ => (Kd.R_ne HO_1665001.out BK1658.out (by decide)) e_) hs_)); replace BK1664 := am (blk_kept (bk BK1664) hkp (fun hs_ => (fun e_ => (Kd.R_ne HO_1665001.out BK1664.out (by decide)) e_) hs_)); replace BK1679 := am (blk_kept (bk BK1679) hkp (fun hs_ => (fun e_ => (Kd.R_ne HO_1665001.out BK1679.out (by decide)) e_) hs_)); replace HO_1665001 := am (Kd.R_reok rfl hy0 (fun k_ e_ => HO_1665001.out.1 k_ e_)); replace HO1685 := am (Kd.R_mono (ok' := fun k_ => some k_ ≠ (.slice Ao41 t1645.length co41 : Value).ownBlock ∧ some k_ ≠ (.slice Ao53 t1654.length co53 : Value).ownBlock ∧ some k_ ≠ (.slice Ao63 t1660.length co63 : Value).ownBlock ∧ some k_ ≠ (.slice Ao75 t1673.length co75 : Value).ownBlock ∧ some k_ ≠ (.slice Ao106 t1689.length co106 : Value).ownBlock) (Kd.R_keptB (HO1685.out) hkp (fun k_ hk_ hs_ => (hk_.2.2.1) hs_)) (fun k_ hk_ => ⟨hk_.1.1, hk_.1.2.1, hk_.1.2.2.1, hk_.1.2.2.2.1, hk_.1.2.2.2.2⟩)); replace HO1691 := am (Kd.R_mono (ok' := fun k_ => some k_ ≠ (.slice Ao41 t1645.length co41 : Value).ownBlock ∧ some k_ ≠ (.slice Ao53 t1654.length co53 : Value).ownBlock ∧ some k_ ≠ (.slice Ao63 t1660.length co63 : Value).ownBlock ∧ some k_ ≠ (.slice Ao75 t1673.length co75 : Value).ownBlock ∧ some k_ ≠ (.slice Ao102 t1683.length co102 : Value).ownBlock) (Kd.R_keptB (HO1691.out) hkp (fun k_ hk_ hs_ => (hk_.2.2.1) hs_)) (fun k_ hk_ => ⟨hk_.1.1, hk_.1.2.1, hk_.1.2.2.1, hk_.1.2.2.2.1, hk_.1.2.2.2.2⟩)); replace HB := am (hb); clear hb; (try clear hkp); (try clear hy0)))
   (try simp only [Act.put, List.setIfInBounds_toArray, List.set_cons_zero, List.set_cons_succ])
   go_cut [86] (fun v86 wc => ∃ (kq : Nat) (x86_98 : Bool), v86 = .bool x86_98 ∧ Aside0 (laws_FnExactObjOf.j1 kq a2 t1650 x86_98 a0_0 a0_1 l0_2 a0_3 a1_0 l1_1 a1_2 t1637 t1638 t1641 t1644 t1645 t1648 t1649 t1665 t1666 t1669 t1672 t1673 t1676 t1677 = some r) ∧ Aside0 (kq ≤ kj22) ∧ Aside0 (Kd.R Kd.string 9 wc w.heap.size (fun k_ => some k_ ≠ ((.slice Ao38 t1641.length co38) : Value).ownBlock ∧ some k_ ≠ ((.slice Ao73 t1666.length co73) : Value).ownBlock ∧ some k_ ≠ ((.slice Ao74 t1669.length co74) : Value).ownBlock) (.slice Ao36 t1638.length co36) t1638) ∧ Aside0 (Kd.R Kd.string 9 wc w.heap.size (fun k_ => some k_ ≠ ((.slice Ao36 t1638.length co36) : Value).ownBlock ∧ some k_ ≠ ((.slice Ao73 t1666.length co73) : Value).ownBlock ∧ some k_ ≠ ((.slice Ao74 t1669.length co74) : Value).ownBlock) (.slice Ao38 t1641.length co38) t1641) ∧ Aside0 (Kd.R k116 116 wc w.heap.size (fun k_ => some k_ ≠ ((.slice Ao53 t1654.length co53) : Value).ownBlock ∧ some k_ ≠ ((.slice Ao63 t1660.length co63) : Value).ownBlock ∧ some k_ ≠ ((.slice Ao75 t1673.length co75) : Value).ownBlock) (.slice Ao41 t1645.length co41) t1645) ∧ Aside0 (Kd.R k116 116 wc w.heap.size (fun k_ => some k_ ≠ ((.slice Ao41 t1645.length co41) : Value).ownBlock ∧ some k_ ≠ ((.slice Ao63 t1660.length co63) : Value).ownBlock ∧ some k_ ≠ ((.slice Ao75 t1673.length co75) : Value).ownBlock) (.slice Ao53 t1654.length co53) t1695) ∧ Aside0 (Kd.R k116 116 wc w.heap.size (fun k_ => some k_ ≠ ((.slice Ao41 t1645.length co41) : Value).ownBlock ∧ some k_ ≠ ((.slice Ao53 t1654.length co53) : Value).ownBlock ∧ some k_ ≠ ((.slice Ao75 t1673.length co75) : Value).ownBlock) (.slice Ao63 t1660.length co63) t1697) ∧ Aside0 (Kd.R Kd.string 9 wc w.heap.size (fun k_ => some k_ ≠ ((.slice Ao36 t1638.length co36) : Value).ownBlock ∧ some k_ ≠ ((.slice Ao38 t1641.length co38) : Value).ownBlock ∧ some k_ ≠ ((.slice Ao74 t1669.length co74) : Value).ownBlock) (.slice Ao73 t1666.length co73) t1666) ∧ Aside0 (Kd.R Kd.string 9 wc w.heap.size (fun k_ => some k_ ≠ ((.slice Ao36 t1638.length co36) : Value).ownBlock ∧ some k_ ≠ ((.slice Ao38 t1641.length co38) : Value).ownBlock ∧ some k_ ≠ ((.slice Ao73 t1666.length co73) : Value).ownBlock) (.slice Ao74 t1669.length co74) t1669) ∧ Aside0 (Kd.R k116 116 wc w.heap.size (fun k_ => some k_ ≠ ((.slice Ao41 t1645.length co41) : Value).ownBlock ∧ some k_ ≠ ((.slice Ao53 t1654.length co53) : Value).ownBlock ∧ some k_ ≠ ((.slice Ao63 t1660.length co63) : Value).ownBlock) (.slice Ao75 t1673.length co75) t1673) ∧ Aside0 (wc.heap[gb1622]? = some (.cells #[.int .i64 a0_0, .string a0_1, (.slice A0_2 l0_2.length c0_2), .string a0_3] 67 (0, 0))) ∧ Aside0 (wc.heap[gb1623]? = some (.cells #[.int .i64 a1_0, (.slice A1_1 l1_1.length c1_1), .string a1_2] 69 (0, 0))) ∧ Aside0 (wc.heap[gb1651]? = some (.cells #[.string t1637, (.slice Ao36 t1638.length co36), (.slice Ao38 t1641.length co38), .int .i64 t1644, (.slice Ao41 t1645.length co41), .string t1648, .int .i64 t1649] 31 (0, 0))) ∧ Aside0 (wc.heap[gb1658]? = some (.cells #[.int .i64 t1652, .string t1653, (.slice Ao53 t1654.length co53), .string t1657] 50 (0, 0))) ∧ Aside0 (wc.heap[gb1664]? = some (.cells #[.int .i64 t1659, (.slice Ao63 t1660.length co63), .string t1663] 29 (0, 0))) ∧ Aside0 (wc.heap[gb1679]? = some (.cells #[.string t1665, (.slice Ao73 t1666.length co73), (.slice Ao74 t1669.length co74), .int .i64 t1672, (.slice Ao75 t1673.length co75), .string t1676, .int .i64 t1677] 31 (0, 0))) ∧ Aside0 (Below w.heap.size w wc))
   case first =>
    have H := HC99.out
    clear HC99
    by_cases c121 : t1696 < 0
    ·rw [if_pos c121] at H
     have c121b0 := decide_eq_true c121
     clear c121
     (first | rw [c121b0] | (simp only [i64_w, i32_w]; rw [c121b0]) | skip)
     cases kj22 with
     | zero => exact absurd H (by simp [laws_FnExactObjOf.j1])
     | succ k_ => simp only [laws_FnExactObjOf.j1, if_true] at H; exact absurd (Option.some.inj H) (by rw [ht_]; decide)
    rw [if_neg c121] at H
    have c121b0 := decide_eq_false c121
    clear c121
    (first | rw [c121b0] | (simp only [i64_w, i32_w]; rw [c121b0]) | skip)
    revert H
    refine ok1 fun t1698 A122 H => ?_
    by_cases c123 : t1698 = true
    rotate_left
    ·replace c123 := Bool.eq_false_iff.mpr c123
     subst c123
     rw [if_neg (show ¬ (false = true) by decide)] at H
     cases kj22 with
     | zero => exact absurd H (by simp [laws_FnExactObjOf.j1])
     | succ k_ => simp only [laws_FnExactObjOf.j1, if_true] at H; exact absurd (Option.some.inj H) (by rw [ht_]; decide)
    subst c123
    rw [if_pos rfl] at H
    have H' := am H
    clear H
    have hnb124 := NB1679_1622.out
    have hnc124 := NB1622_1679.out
    have hnb125 := NB1679_1623.out
    have hnc125 := NB1623_1679.out
    have hnb126 := NB1679_1651.out
    have hnc126 := NB1651_1679.out
    have hnb127 := NB1679_1658.out
    have hnc127 := NB1658_1679.out
    have hnb128 := NB1679_1664.out
    have hnc128 := NB1664_1679.out
    obtain ⟨z129_0, y129_0, z129_1, y129_1, z129_2, y129_2, z129_3, y129_3, z129_4, y129_4, z129_5, y129_5, z129_6, y129_6⟩ := cl7 BK1679
    have hnb130 := NB1651_1622.out
    have hnc130 := NB1622_1651.out
    have hnb131 := NB1651_1623.out
    have hnc131 := NB1623_1651.out
    have hnb132 := NB1651_1658.out
    have hnc132 := NB1658_1651.out
    have hnb133 := NB1651_1664.out
    have hnc133 := NB1664_1651.out
    obtain ⟨z134_0, y134_0, z134_1, y134_1, z134_2, y134_2, z134_3, y134_3, z134_4, y134_4, z134_5, y134_5, z134_6, y134_6⟩ := cl7 BK1651
    go_wp2_with (first | (go_at_call 39; (with_reducible refine (laws_eqObj.calls kj22 t1665 _ _ t1666 _ _ t1669 t1672 _ _ t1673 t1676 t1677 t1637 _ _ t1638 _ _ t1641 t1644 _ _ t1645 t1648 t1649 true _ ?side1 ?side2 ?side3 ?side4 ?side5 ?side6 ?side7 ?side8 ?side9 ?side10 ?side11 ?side12 A122.out).mono ?_); (case side1 => exact rc HO_1680001); (case side2 => exact (Kd.R_reads' HO_1680001.out).2.1); (case side3 => exact rc HO_1680002); (case side4 => exact (Kd.R_reads' HO_1680002.out).2.1); (case side5 => exact rc HO_1680004); (case side6 => exact (Kd.R_reads' HO_1680004.out).2.1); (case side7 => exact rc HO_1652001); (case side8 => exact (Kd.R_reads' HO_1652001.out).2.1); (case side9 => exact rc HO_1652002); (case side10 => exact (Kd.R_reads' HO_1652002.out).2.1); (case side11 => exact rc HO_1652004); (case side12 => exact (Kd.R_reads' HO_1652004.out).2.1); rintro e w135 ⟨rfl, hb⟩; replace HO_1652001 := kr HO_1652001 hb; replace HO_1652002 := kr HO_1652002 hb; replace HO_1652004 := kr HO_1652004 hb; replace HO_1659002 := kr HO_1659002 hb; replace HO_1665001 := kr HO_1665001 hb; replace HO_1680001 := kr HO_1680001 hb; replace HO_1680002 := kr HO_1680002 hb; replace HO_1680004 := kr HO_1680004 hb; replace HO1685 := kr HO1685 hb; replace HO1691 := kr HO1691 hb; replace BK1622 := kb BK1622 hb; replace BK1623 := kb BK1623 hb; replace BK1651 := kb BK1651 hb; replace BK1658 := kb BK1658 hb; replace BK1664 := kb BK1664 hb; replace BK1679 := kb BK1679 hb; replace HB := am (below_step bl hb); clear hb))
    go_meet
    case rel => exact ⟨_, ((t1678 != t1650)), rs, H', ⟨by have := HJ22.out; first | omega | exact Nat.le_refl _⟩, ⟨by (with_reducible repeat (first | apply Kd.R_alloc | apply Kd.R_drewN | apply Kd.R_drew)); exact HO_1652001.out⟩, ⟨by (with_reducible repeat (first | apply Kd.R_alloc | apply Kd.R_drewN | apply Kd.R_drew)); exact HO_1652002.out⟩, ⟨by (with_reducible repeat (first | apply Kd.R_alloc | apply Kd.R_drewN | apply Kd.R_drew)); exact Kd.R_mono HO_1652004.out (fun _ hk => ⟨hk.1, ⟨hk.2.1, hk.2.2.1⟩⟩)⟩, ⟨by (with_reducible repeat (first | apply Kd.R_alloc | apply Kd.R_drewN | apply Kd.R_drew)); exact Kd.R_mono HO_1659002.out (fun _ hk => ⟨hk.1, ⟨hk.2.1, hk.2.2.1⟩⟩)⟩, ⟨by (with_reducible repeat (first | apply Kd.R_alloc | apply Kd.R_drewN | apply Kd.R_drew)); exact Kd.R_mono HO_1665001.out (fun _ hk => ⟨hk.1, ⟨hk.2.1, hk.2.2.1⟩⟩)⟩, ⟨by (with_reducible repeat (first | apply Kd.R_alloc | apply Kd.R_drewN | apply Kd.R_drew)); exact HO_1680001.out⟩, ⟨by (with_reducible repeat (first | apply Kd.R_alloc | apply Kd.R_drewN | apply Kd.R_drew)); exact HO_1680002.out⟩, ⟨by (with_reducible repeat (first | apply Kd.R_alloc | apply Kd.R_drewN | apply Kd.R_drew)); exact Kd.R_mono HO_1680004.out (fun _ hk => ⟨hk.1, ⟨hk.2.1, hk.2.2.1⟩⟩)⟩, ⟨by (with_reducible repeat (first | refine blk_drewN ?_ _ | refine blk_drew ?_ | refine blk_alloc ?_ _)); exact BK1622.out⟩, ⟨by (with_reducible repeat (first | refine blk_drewN ?_ _ | refine blk_drew ?_ | refine blk_alloc ?_ _)); exact BK1623.out⟩, ⟨by (with_reducible repeat (first | refine blk_drewN ?_ _ | refine blk_drew ?_ | refine blk_alloc ?_ _)); exact BK1651.out⟩, ⟨by (with_reducible repeat (first | refine blk_drewN ?_ _ | refine blk_drew ?_ | refine blk_alloc ?_ _)); exact BK1658.out⟩, ⟨by (with_reducible repeat (first | refine blk_drewN ?_ _ | refine blk_drew ?_ | refine blk_alloc ?_ _)); exact BK1664.out⟩, ⟨by (with_reducible repeat (first | refine blk_drewN ?_ _ | refine blk_drew ?_ | refine blk_alloc ?_ _)); exact BK1679.out⟩, ⟨u7HB⟩⟩
   case rest =>
    clear HC99
    try clear c1
    try clear p2
    try clear c4
    try clear c5
    try clear c9
    try clear c10
    try clear c11
    try clear c12
    try clear c13
    try clear c45
    try clear c46
    try clear c48
    try clear c49
    try clear c50
    try clear c51
    try clear c90
    try clear c93
    try clear c96
    try clear c108
    try clear c109
    try clear c110
    try clear c111
    try clear c112
    try clear c115
    try clear c116
    try clear c117
    try clear c118
    try clear c121
    try clear c121b0
    try clear c123
    try clear c124
    try clear c125
    try clear c126
    try clear c127
    try clear c128
    try clear c130
    try clear c131
    try clear c132
    try clear c133
    try clear z113_0
    try clear z113_1
    try clear z113_2
    try clear z113_3
    try clear z119_0
    try clear z119_1
    try clear z119_2
    try clear z129_0
    try clear z129_1
    try clear z129_2
    try clear z129_3
    try clear z129_4
    try clear z129_5
    try clear z129_6
    try clear z134_0
    try clear z134_1
    try clear z134_2
    try clear z134_3
    try clear z134_4
    try clear z134_5
    try clear z134_6
    try clear y113_0
    try clear y113_1
    try clear y113_2
    try clear y113_3
    try clear y119_0
    try clear y119_1
    try clear y119_2
    try clear y129_0
    try clear y129_1
    try clear y129_2
    try clear y129_3
    try clear y129_4
    try clear y129_5
    try clear y129_6
    try clear y134_0
    try clear y134_1
    try clear y134_2
    try clear y134_3
    try clear y134_4
    try clear y134_5
    try clear y134_6
    obtain ⟨kq, x86_98, rfl, HA, HJ98, HO_1652001, HO_1652002, HO_1652004, HO_1659002, HO_1665001, HO_1680001, HO_1680002, HO_1680004, BK1622, BK1623, BK1651, BK1658, BK1664, BK1679, HB⟩ := hcut
    have hl1659002_98 := (Kd.R_reads' HO_1659002.out).1
    rw [hl1659002_98] at HO_1659002
    (try simp only [hl1659002_98])
    (try simp only [hl1659002_98] at BK1622)
    (try simp only [hl1659002_98] at BK1623)
    (try simp only [hl1659002_98] at BK1651)
    (try simp only [hl1659002_98] at BK1658)
    (try simp only [hl1659002_98] at BK1664)
    (try simp only [hl1659002_98] at BK1679)
    (try simp only [hl1659002_98] at HO_1652001)
    (try simp only [hl1659002_98] at HO_1652002)
    (try simp only [hl1659002_98] at HO_1652004)
    (try simp only [hl1659002_98] at HO_1665001)
    (try simp only [hl1659002_98] at HO_1680001)
    (try simp only [hl1659002_98] at HO_1680002)
    (try simp only [hl1659002_98] at HO_1680004)
    have hl1665001_98 := (Kd.R_reads' HO_1665001.out).1
    rw [hl1665001_98] at HO_1665001
    (try simp only [hl1665001_98])
    (try simp only [hl1665001_98] at BK1622)
    (try simp only [hl1665001_98] at BK1623)
    (try simp only [hl1665001_98] at BK1651)
    (try simp only [hl1665001_98] at BK1658)
    (try simp only [hl1665001_98] at BK1664)
    (try simp only [hl1665001_98] at BK1679)
    (try simp only [hl1665001_98] at HO_1652001)
    (try simp only [hl1665001_98] at HO_1652002)
    (try simp only [hl1665001_98] at HO_1652004)
    (try simp only [hl1665001_98] at HO_1659002)
    (try simp only [hl1665001_98] at HO_1680001)
    (try simp only [hl1665001_98] at HO_1680002)
    (try simp only [hl1665001_98] at HO_1680004)
    cases kq with
    | zero => exact absurd HA.out (by simp [laws_FnExactObjOf.j1])
    | succ kj98 =>
     have H := HA.out
     clear HA
     simp only [laws_FnExactObjOf.j1] at H
     by_cases c136 : x86_98 = true
     ·subst c136
      rw [if_pos rfl] at H
      exact absurd (Option.some.inj H) (by rw [ht_]; decide)
     replace c136 := Bool.eq_false_iff.mpr c136
     subst c136
     rw [if_neg (show ¬ (false = true) by decide)] at H
     revert H
     refine ok4 fun t1699 t1700 t1701 t1702 A137 H => ?_
     (try dsimp only at H)
     revert H
     refine ok1 fun t1703 A138 H => ?_
     by_cases c139 : t1703 < 0
     ·rw [if_pos c139] at H
      have c139b0 := decide_eq_true c139
      clear c139
      exact absurd (Option.some.inj H) (by rw [ht_]; decide)
     rw [if_neg c139] at H
     have c139b0 := decide_eq_false c139
     clear c139
     by_cases c140 : t1703 = t1699
     rotate_left
     ·rw [if_neg c140] at H
      have c140b0 : (t1703 == t1699) = false := beq_eq_false_iff_ne.mpr c140
      have c140b1 : (t1703 != t1699) = true := bne_iff_ne.mpr c140
      exact absurd (Option.some.inj H) (by rw [ht_]; decide)
     rw [if_pos c140] at H
     have c140b0 : (t1703 == t1699) = true := beq_iff_eq.mpr c140
     have c140b1 : (t1703 != t1699) = false := bne_eq_false_iff_eq.mpr c140
     clear c140
     revert H
     refine ok4 fun t1704 t1705 t1706 t1709 A141 H => ?_
     (try dsimp only at H)
     revert H
     refine ok3 fun t1710 t1711 t1714 A142 H => ?_
     (try dsimp only at H)
     revert H
     refine ok8 fun t1715 t1716 t1719 t1722 t1723 t1726 t1727 t1728 A143 H => ?_
     (try dsimp only at H)
     have HC144 := am H
     clear H
     have hnb145 := NB1679_1622.out
     have hnc145 := NB1622_1679.out
     have hnb146 := NB1679_1623.out
     have hnc146 := NB1623_1679.out
     have hnb147 := NB1679_1651.out
     have hnc147 := NB1651_1679.out
     have hnb148 := NB1679_1658.out
     have hnc148 := NB1658_1679.out
     have hnb149 := NB1679_1664.out
     have hnc149 := NB1664_1679.out
     obtain ⟨z150_0, y150_0, z150_1, y150_1, z150_2, y150_2, z150_3, y150_3, z150_4, y150_4, z150_5, y150_5, z150_6, y150_6⟩ := cl7 BK1679
     try go_wp2_with ((with_reducible refine gw ?_); first | (refine gl 89 Tryz.func40 #[.agg #[.string t1665, .slice Ao73 t1666.length co73, .slice Ao74 t1669.length co74, .int .i64 t1672, .slice Ao75 t1673.length co75, .string t1676, .int .i64 t1677], .int .i64 1] ?_; (with_reducible refine (laws_markObj.calls kj98 t1665 (fun k_ => some k_ = (.slice Ao73 t1666.length co73 : Value).ownBlock) (.slice Ao73 t1666.length co73) t1666 (fun k_ => some k_ = (.slice Ao74 t1669.length co74 : Value).ownBlock) (.slice Ao74 t1669.length co74) t1669 t1672 (fun k_ => some k_ = (.slice Ao75 t1673.length co75 : Value).ownBlock) (.slice Ao75 t1673.length co75) t1673 t1676 t1677 1 t1699 t1700 t1701 t1702 w _ ?side1 ?side2 ?side3 ?side4 ?side5 ?side6 A137.out).mono ?_); (case side1 => exact u7HB); (case side2 => exact Kd.R_tight rfl HO_1680001.out); (case side3 => exact fun k_ e_ => (HO_1680001.out.1 k_ e_.symm).2.2); (case side4 => exact Kd.R_tight rfl HO_1680002.out); (case side5 => exact fun k_ e_ => (HO_1680002.out.1 k_ e_.symm).2.2); (case side6 => exact Kd.R_tight rfl HO_1680004.out); rintro e w151 ⟨rfl, hy0, hy1, hy2, hb, hkp⟩; refine ⟨_, rfl, ?_⟩; replace HO_1652001 := am (Kd.R_mono (ok' := fun k_ => some k_ ≠ (.slice Ao38 t1641.length co38 : Value).ownBlock ∧ some k_ ≠ (.slice Ao73 t1666.length co73 : Value).ownBlock ∧ some k_ ≠ (.slice Ao74 t1669.length co74 : Value).ownBlock) (Kd.R_keptB ((Kd.R_apart' HO_1652001.out (Kd.R_typed HO_1680004.out) (by decide))) hkp (fun k_ hk_ hs_ => Or.elim hs_ (fun e_ => (hk_.1.2.1) e_) (fun e_ => Or.elim e_ (fun e_ => (hk_.1.2.2) e_) (fun e_ => (hk_.2) e_)))) (fun k_ hk_ => ⟨hk_.1.1.1, hk_.1.1.2.1, hk_.1.1.2.2⟩)); replace HO_1652002 := am (Kd.R_mono (ok' := fun k_ => some k_ ≠ (.slice Ao36 t1638.length co36 : Value).ownBlock ∧ some k_ ≠ (.slice Ao73 t1666.length co73 : Value).ownBlock ∧ some k_ ≠ (.slice Ao74 t1669.length co74 : Value).ownBlock) (Kd.R_keptB ((Kd.R_apart' HO_1652002.out (Kd.R_typed HO_1680004.out) (by decide))) hkp (fun k_ hk_ hs_ => Or.elim hs_ (fun e_ => (hk_.1.2.1) e_) (fun e_ => Or.elim e_ (fun e_ => (hk_.1.2.2) e_) (fun e_ => (hk_.2) e_)))) (fun k_ hk_ => ⟨hk_.1.1.1, hk_.1.1.2.1, hk_.1.1.2.2⟩)); replace HO_1652004 := am (Kd.R_mono (ok' := fun k_ => some k_ ≠ (.slice Ao53 t1695.length co53 : Value).ownBlock ∧ some k_ ≠ (.slice Ao63 t1697.length co63 : Value).ownBlock ∧ some k_ ≠ (.slice Ao75 t1673.length co75 : Value).ownBlock) (Kd.R_keptB ((Kd.R_apart' (Kd.R_apart' HO_1652004.out (Kd.R_typed HO_1680001.out) (by decide)) (Kd.R_typed HO_1680002.out) (by decide))) hkp (fun k_ hk_ hs_ => Or.elim hs_ (fun e_ => (hk_.1.2) e_) (fun e_ => Or.elim e_ (fun e_ => (hk_.2) e_) (fun e_ => (hk_.1.1.2.2) e_)))) (fun k_ hk_ => ⟨hk_.1.1.1.1, hk_.1.1.1.2.1, hk_.1.1.1.2.2⟩)); replace HO_1659002 := am (Kd.R_mono (ok' := fun k_ => some k_ ≠ (.slice Ao41 t1645.length co41 : Value).ownBlock ∧ some k_ ≠ (.slice Ao63 t1697.length co63 : Value).ownBlock ∧ some k_ ≠ (.slice Ao75 t1673.length co75 : Value).ownBlock) (Kd.R_keptB ((Kd.R_apart' (Kd.R_apart' HO_1659002.out (Kd.R_typed HO_1680001.out) (by decide)) (Kd.R_typed HO_1680002.out) (by decide))) hkp (fun k_ hk_ hs_ => Or.elim hs_ (fun e_ => (hk_.1.2) e_) (fun e_ => Or.elim e_ (fun e_ => (hk_.2) e_) (fun e_ => (hk_.1.1.2.2) e_)))) (fun k_ hk_ => ⟨hk_.1.1.1.1, hk_.1.1.1.2.1, hk_.1.1.1.2.2⟩)); replace HO_1665001 := am (Kd.R_mono (ok' := fun k_ => some k_ ≠ (.slice Ao41 t1645.length co41 : Value).ownBlock ∧ some k_ ≠ (.slice Ao53 t1695.length co53 : Value).ownBlock ∧ some k_ ≠ (.slice Ao75 t1673.length co75 : Value).ownBlock) (Kd.R_keptB ((Kd.R_apart' (Kd.R_apart' HO_1665001.out (Kd.R_typed HO_1680001.out) (by decide)) (Kd.R_typed HO_1680002.out) (by decide))) hkp (fun k_ hk_ hs_ => Or.elim hs_ (fun e_ => (hk_.1.2) e_) (fun e_ => Or.elim e_ (fun e_ => (hk_.2) e_) (fun e_ => (hk_.1.1.2.2) e_)))) (fun k_ hk_ => ⟨hk_.1.1.1.1, hk_.1.1.1.2.1, hk_.1.1.1.2.2⟩)); replace BK1622 := am (blk_kept (bk BK1622) hkp (fun hs_ => Or.elim hs_ (fun e_ => (fun e_ => (Kd.R_ne HO_1680001.out BK1622.out (by decide)) e_) e_) (fun e_ => Or.elim e_ (fun e_ => (fun e_ => (Kd.R_ne HO_1680002.out BK1622.out (by decide)) e_) e_) (fun e_ => (fun e_ => (Kd.R_ne HO_1680004.out BK1622.out (by decide)) e_) e_)))); replace BK1623 := am (blk_kept (bk BK1623) hkp (fun hs_ => Or.elim hs_ (fun e_ => (fun e_ => (Kd.R_ne HO_1680001.out BK1623.out (by decide)) e_) e_) (fun e_ => Or.elim e_ (fun e_ => (fun e_ => (Kd.R_ne HO_1680002.out BK1623.out (by decide)) e_) e_) (fun e_ => (fun e_ => (Kd.R_ne HO_1680004.out BK1623.out (by decide)) e_) e_)))); replace BK1651 := am (blk_kept (bk BK1651) hkp (fun hs_ => Or.elim hs_ (fun e_ => (fun e_ => (Kd.R_ne HO_1680001.out BK1651.out (by decide)) e_) e_) (fun e_ => Or.elim e_ (fun e_ => (fun e_ => (Kd.R_ne HO_1680002.out BK1651.out (by decide)) e_) e_) (fun e_ => (fun e_ => (Kd.R_ne HO_1680004.out BK1651.out (by decide)) e_) e_)))); replace BK1658 := am (blk_kept (bk BK1658) hkp (fun hs_ => Or.elim hs_ (fun e_ => (fun e_ => (Kd.R_ne HO_1680001.out BK1658.out (by decide)) e_) e_) (fun e_ => Or.elim e_ (fun e_ => (fun e_ => (Kd.R_ne HO_1680002.out BK1658.out (by decide)) e_) e_) (fun e_ => (fun e_ => (Kd.R_ne HO_1680004.out BK1658.out (by decide)) e_) e_)))); replace BK1664 := am (blk_kept (bk BK1664) hkp (fun hs_ => Or.elim hs_ (fun e_ => (fun e_ => (Kd.R_ne HO_1680001.out BK1664.out (by decide)) e_) e_) (fun e_ => Or.elim e_ (fun e_ => (fun e_ => (Kd.R_ne HO_1680002.out BK1664.out (by decide)) e_) e_) (fun e_ => (fun e_ => (Kd.R_ne HO_1680004.out BK1664.out (by decide)) e_) e_)))); replace BK1679 := am (blk_kept (bk BK1679) hkp (fun hs_ => Or.elim hs_ (fun e_ => (fun e_ => (Kd.R_ne HO_1680001.out BK1679.out (by decide)) e_) e_) (fun e_ => Or.elim e_ (fun e_ => (fun e_ => (Kd.R_ne HO_1680002.out BK1679.out (by decide)) e_) e_) (fun e_ => (fun e_ => (Kd.R_ne HO_1680004.out BK1679.out (by decide)) e_) e_)))); replace HO_1680001 := am (Kd.R_reok rfl hy0 (fun k_ e_ => HO_1680001.out.1 k_ e_)); replace HO_1680002 := am (Kd.R_reok rfl hy1 (fun k_ e_ => HO_1680002.out.1 k_ e_)); replace HO_1680004 := am (Kd.R_reok rfl hy2 (fun k_ e_ => HO_1680004.out.1 k_ e_)); replace HB := am (hb); clear hb; (try clear hkp); (try clear hy0); (try clear hy1); (try clear hy2); obtain ⟨z152_0, y152_0, z152_1, y152_1, z152_2, y152_2, z152_3, y152_3, z152_4, y152_4, z152_5, y152_5, z152_6, y152_6⟩ := cl7 BK1679) | (refine gl 92 Tryz.func41 #[.agg #[.string t1665, .slice Ao73 t1700.length co73, .slice Ao74 t1701.length co74, .int .i64 t1672, .slice Ao75 t1702.length co75, .string t1676, .int .i64 t1677], .int .i64 1] ?_ (hargs := (by (try simp only [List.map_toArray, List.map_cons, List.map_nil]); first | done | (rw [show t1700.length = t1666.length from (Kd.R_reads' HO_1680001.out).1.symm, show t1701.length = t1669.length from (Kd.R_reads' HO_1680002.out).1.symm, show t1702.length = t1673.length from (Kd.R_reads' HO_1680004.out).1.symm] <;> rfl) | rfl | (simp only [List.length_drop, List.length_take]; rfl))); (with_reducible refine (laws_heldObj.calls kj98 t1665 _ _ t1700 _ _ t1701 t1672 _ _ t1702 t1676 t1677 1 t1703 _ ?side1 ?side2 ?side3 ?side4 ?side5 ?side6 A138.out).mono ?_); (case side1 => exact rc HO_1680001); (case side2 => rw [show t1700.length = t1666.length from (Kd.R_reads' HO_1680001.out).1.symm]; exact (Kd.R_reads' HO_1680001.out).2.1); (case side3 => exact rc HO_1680002); (case side4 => rw [show t1701.length = t1669.length from (Kd.R_reads' HO_1680002.out).1.symm]; exact (Kd.R_reads' HO_1680002.out).2.1); (case side5 => exact rc HO_1680004); (case side6 => rw [show t1702.length = t1673.length from (Kd.R_reads' HO_1680004.out).1.symm]; exact (Kd.R_reads' HO_1680004.out).2.1); rintro e w153 ⟨rfl, hb⟩; refine ⟨_, rfl, ?_⟩; replace HO_1652001 := kr HO_1652001 hb; replace HO_1652002 := kr HO_1652002 hb; replace HO_1652004 := kr HO_1652004 hb; replace HO_1659002 := kr HO_1659002 hb; replace HO_1665001 := kr HO_1665001 hb; replace HO_1680001 := kr HO_1680001 hb; replace HO_1680002 := kr HO_1680002 hb; replace HO_1680004 := kr HO_1680004 hb; replace BK1622 := kb BK1622 hb; replace BK1623 := kb BK1623 hb; replace BK1651 := kb BK1651 hb; replace BK1658 := kb BK1658 hb; replace BK1664 := kb BK1664 hb; replace BK1679 := kb BK1679 hb; replace HB := am (below_step bl hb); clear hb))
     replace HO_1652001 := am (Kd.R_drew HO_1652001.out)
     replace HO_1652002 := am (Kd.R_drew HO_1652002.out)
     replace HO_1652004 := am (Kd.R_drew HO_1652004.out)
     replace HO_1659002 := am (Kd.R_drew HO_1659002.out)
     replace HO_1665001 := am (Kd.R_drew HO_1665001.out)
     replace HO_1680001 := am (Kd.R_drew HO_1680001.out)
     replace HO_1680002 := am (Kd.R_drew HO_1680002.out)
     replace HO_1680004 := am (Kd.R_drew HO_1680004.out)
     replace BK1622 := am (blk_drew BK1622.out)
     replace BK1623 := am (blk_drew BK1623.out)
     replace BK1651 := am (blk_drew BK1651.out)
     replace BK1658 := am (blk_drew BK1658.out)
     replace BK1664 := am (blk_drew BK1664.out)
     replace BK1679 := am (blk_drew BK1679.out)
     replace HB := am (below_drew1 HB.out)
     refine start_ (n := 12) (S := fun w' => w'.cell? ⟨gb1622, 0, none⟩ = some (.int .i64 a0_0) ∧ w'.cell? ⟨gb1622, 1, none⟩ = some (.string a0_1) ∧ w'.cell? ⟨gb1622, 2, none⟩ = some (.slice A0_2 l0_2.length c0_2) ∧ w'.cell? ⟨gb1622, 3, none⟩ = some (.string a0_3) ∧ w'.cell? ⟨gb1623, 0, none⟩ = some (.int .i64 a1_0) ∧ w'.cell? ⟨gb1623, 1, none⟩ = some (.slice A1_1 l1_1.length c1_1) ∧ w'.cell? ⟨gb1623, 2, none⟩ = some (.string a1_2)) (ds := []) ⟨br true [0, 12]⟩ (by kernel_rfl) rfl (by kernel_rfl) ⟨bc BK1622, bc BK1622, bc BK1622, bc BK1622, bc BK1623, bc BK1623, bc BK1623⟩ (fun hHeld => ?_); refine with_tabW laws_FnExactObjOf.tab31 laws_FnExactObjOf.bits31 (fun HT_ HW_ => ?_)
     generalize w153.drew = w154 at HO_1652001 HO_1652002 HO_1652004 HO_1659002 HO_1665001 HO_1680001 HO_1680002 HO_1680004 BK1622 BK1623 BK1651 BK1658 BK1664 BK1679 HB hHeld ⊢
     refine pu 4 103 [0, 4, 1, 7] ?_
     refine tk 0 99 [1, 3, 1, 7] ?_
     refine tk 2 101 [1, 1, 1, 1, 1, 7] ?_
     refine join_ (σ := Value × Value × Value × Value × Value × Nat) 2 #[true, true, true, true, true, true, true, true, true, true, false, false] (fun s_ => [(100, .agg #[.int .i64 t1704, .string t1705, s_.1, .string t1709]), (102, .agg #[.int .i64 t1710, s_.2.1, .string t1714]), (104, .tuple #[.agg #[.string t1715, s_.2.2.1, s_.2.2.2.1, .int .i64 t1722, s_.2.2.2.2.1, .string t1726, .int .i64 t1727], .bool t1728]), (17, .pointer (some ⟨s_.2.2.2.2.2, 0, none⟩)), (98, .tuple #[.agg #[.string t1715, s_.2.2.1, s_.2.2.2.1, .int .i64 t1722, s_.2.2.2.2.1, .string t1726, .int .i64 t1727], .bool t1728]), (105, .agg #[.string t1715, s_.2.2.1, s_.2.2.2.1, .int .i64 t1722, s_.2.2.2.2.1, .string t1726, .int .i64 t1727]), (106, .bool t1728)]) (fun s_ w' => (w'.cell? ⟨gb1622, 0, none⟩ = some (.int .i64 a0_0) ∧ w'.cell? ⟨gb1622, 1, none⟩ = some (.string a0_1) ∧ w'.cell? ⟨gb1622, 2, none⟩ = some (.slice A0_2 l0_2.length c0_2) ∧ w'.cell? ⟨gb1622, 3, none⟩ = some (.string a0_3) ∧ w'.cell? ⟨gb1623, 0, none⟩ = some (.int .i64 a1_0) ∧ w'.cell? ⟨gb1623, 1, none⟩ = some (.slice A1_1 l1_1.length c1_1) ∧ w'.cell? ⟨gb1623, 2, none⟩ = some (.string a1_2)) ∧ (Kd.R k116 116 w' w.heap.size (fun k_ => some k_ ≠ (s_.2.1 : Value).ownBlock ∧ some k_ ≠ (s_.2.2.2.2.1 : Value).ownBlock ∧ some k_ ≠ (.slice Ao41 t1645.length co41 : Value).ownBlock ∧ some k_ ≠ (.slice Ao53 t1695.length co53 : Value).ownBlock ∧ some k_ ≠ (.slice Ao63 t1697.length co63 : Value).ownBlock ∧ some k_ ≠ (.slice Ao75 t1673.length co75 : Value).ownBlock) s_.1 t1706) ∧ (Kd.R k116 116 w' w.heap.size (fun k_ => some k_ ≠ (s_.1 : Value).ownBlock ∧ some k_ ≠ (s_.2.2.2.2.1 : Value).ownBlock ∧ some k_ ≠ (.slice Ao41 t1645.length co41 : Value).ownBlock ∧ some k_ ≠ (.slice Ao53 t1695.length co53 : Value).ownBlock ∧ some k_ ≠ (.slice Ao63 t1697.length co63 : Value).ownBlock ∧ some k_ ≠ (.slice Ao75 t1673.length co75 : Value).ownBlock) s_.2.1 t1711) ∧ (Kd.R Kd.string 9 w' w.heap.size (fun k_ => some k_ ≠ (s_.2.2.2.1 : Value).ownBlock ∧ some k_ ≠ (.slice Ao36 t1638.length co36 : Value).ownBlock ∧ some k_ ≠ (.slice Ao38 t1641.length co38 : Value).ownBlock ∧ some k_ ≠ (.slice Ao73 t1666.length co73 : Value).ownBlock ∧ some k_ ≠ (.slice Ao74 t1669.length co74 : Value).ownBlock) s_.2.2.1 t1716) ∧ (Kd.R Kd.string 9 w' w.heap.size (fun k_ => some k_ ≠ (s_.2.2.1 : Value).ownBlock ∧ some k_ ≠ (.slice Ao36 t1638.length co36 : Value).ownBlock ∧ some k_ ≠ (.slice Ao38 t1641.length co38 : Value).ownBlock ∧ some k_ ≠ (.slice Ao73 t1666.length co73 : Value).ownBlock ∧ some k_ ≠ (.slice Ao74 t1669.length co74 : Value).ownBlock) s_.2.2.2.1 t1719) ∧ (Kd.R k116 116 w' w.heap.size (fun k_ => some k_ ≠ (s_.1 : Value).ownBlock ∧ some k_ ≠ (s_.2.1 : Value).ownBlock ∧ some k_ ≠ (.slice Ao41 t1645.length co41 : Value).ownBlock ∧ some k_ ≠ (.slice Ao53 t1695.length co53 : Value).ownBlock ∧ some k_ ≠ (.slice Ao63 t1697.length co63 : Value).ownBlock ∧ some k_ ≠ (.slice Ao75 t1673.length co75 : Value).ownBlock) s_.2.2.2.2.1 t1723) ∧ (Kd.R Kd.string 9 w' w.heap.size (fun k_ => some k_ ≠ (s_.2.2.1 : Value).ownBlock ∧ some k_ ≠ (s_.2.2.2.1 : Value).ownBlock ∧ some k_ ≠ (.slice Ao38 t1641.length co38 : Value).ownBlock ∧ some k_ ≠ (.slice Ao73 t1666.length co73 : Value).ownBlock ∧ some k_ ≠ (.slice Ao74 t1669.length co74 : Value).ownBlock) (.slice Ao36 t1638.length co36) t1638) ∧ (Kd.R Kd.string 9 w' w.heap.size (fun k_ => some k_ ≠ (s_.2.2.1 : Value).ownBlock ∧ some k_ ≠ (s_.2.2.2.1 : Value).ownBlock ∧ some k_ ≠ (.slice Ao36 t1638.length co36 : Value).ownBlock ∧ some k_ ≠ (.slice Ao73 t1666.length co73 : Value).ownBlock ∧ some k_ ≠ (.slice Ao74 t1669.length co74 : Value).ownBlock) (.slice Ao38 t1641.length co38) t1641) ∧ (Kd.R k116 116 w' w.heap.size (fun k_ => some k_ ≠ (s_.1 : Value).ownBlock ∧ some k_ ≠ (s_.2.1 : Value).ownBlock ∧ some k_ ≠ (s_.2.2.2.2.1 : Value).ownBlock ∧ some k_ ≠ (.slice Ao53 t1695.length co53 : Value).ownBlock ∧ some k_ ≠ (.slice Ao63 t1697.length co63 : Value).ownBlock ∧ some k_ ≠ (.slice Ao75 t1673.length co75 : Value).ownBlock) (.slice Ao41 t1645.length co41) t1645) ∧ (Kd.R k116 116 w' w.heap.size (fun k_ => some k_ ≠ (s_.1 : Value).ownBlock ∧ some k_ ≠ (s_.2.1 : Value).ownBlock ∧ some k_ ≠ (s_.2.2.2.2.1 : Value).ownBlock ∧ some k_ ≠ (.slice Ao41 t1645.length co41 : Value).ownBlock ∧ some k_ ≠ (.slice Ao63 t1697.length co63 : Value).ownBlock ∧ some k_ ≠ (.slice Ao75 t1673.length co75 : Value).ownBlock) (.slice Ao53 t1695.length co53) t1695) ∧ (Kd.R k116 116 w' w.heap.size (fun k_ => some k_ ≠ (s_.1 : Value).ownBlock ∧ some k_ ≠ (s_.2.1 : Value).ownBlock ∧ some k_ ≠ (s_.2.2.2.2.1 : Value).ownBlock ∧ some k_ ≠ (.slice Ao41 t1645.length co41 : Value).ownBlock ∧ some k_ ≠ (.slice Ao53 t1695.length co53 : Value).ownBlock ∧ some k_ ≠ (.slice Ao75 t1673.length co75 : Value).ownBlock) (.slice Ao63 t1697.length co63) t1697) ∧ (Kd.R Kd.string 9 w' w.heap.size (fun k_ => some k_ ≠ (s_.2.2.1 : Value).ownBlock ∧ some k_ ≠ (s_.2.2.2.1 : Value).ownBlock ∧ some k_ ≠ (.slice Ao36 t1638.length co36 : Value).ownBlock ∧ some k_ ≠ (.slice Ao38 t1641.length co38 : Value).ownBlock ∧ some k_ ≠ (.slice Ao74 t1669.length co74 : Value).ownBlock) (.slice Ao73 t1666.length co73) t1700) ∧ (Kd.R Kd.string 9 w' w.heap.size (fun k_ => some k_ ≠ (s_.2.2.1 : Value).ownBlock ∧ some k_ ≠ (s_.2.2.2.1 : Value).ownBlock ∧ some k_ ≠ (.slice Ao36 t1638.length co36 : Value).ownBlock ∧ some k_ ≠ (.slice Ao38 t1641.length co38 : Value).ownBlock ∧ some k_ ≠ (.slice Ao73 t1666.length co73 : Value).ownBlock) (.slice Ao74 t1669.length co74) t1701) ∧ (Kd.R k116 116 w' w.heap.size (fun k_ => some k_ ≠ (s_.1 : Value).ownBlock ∧ some k_ ≠ (s_.2.1 : Value).ownBlock ∧ some k_ ≠ (s_.2.2.2.2.1 : Value).ownBlock ∧ some k_ ≠ (.slice Ao41 t1645.length co41 : Value).ownBlock ∧ some k_ ≠ (.slice Ao53 t1695.length co53 : Value).ownBlock ∧ some k_ ≠ (.slice Ao63 t1697.length co63 : Value).ownBlock) (.slice Ao75 t1673.length co75) t1702) ∧ (w'.heap[gb1622]? = some (.cells #[.int .i64 a0_0, .string a0_1, .slice A0_2 l0_2.length c0_2, .string a0_3] 67 (0, 0))) ∧ (w'.heap[gb1623]? = some (.cells #[.int .i64 a1_0, .slice A1_1 l1_1.length c1_1, .string a1_2] 69 (0, 0))) ∧ (w'.heap[gb1651]? = some (.cells #[.string t1637, .slice Ao36 t1638.length co36, .slice Ao38 t1641.length co38, .int .i64 t1644, .slice Ao41 t1645.length co41, .string t1648, .int .i64 t1649] 31 (0, 0))) ∧ (w'.heap[gb1658]? = some (.cells #[.int .i64 t1652, .string t1653, .slice Ao53 t1695.length co53, .string t1657] 50 (0, 0))) ∧ (w'.heap[gb1664]? = some (.cells #[.int .i64 t1659, .slice Ao63 t1697.length co63, .string t1663] 29 (0, 0))) ∧ (w'.heap[gb1679]? = some (.cells #[.string t1665, .slice Ao73 t1666.length co73, .slice Ao74 t1669.length co74, .int .i64 t1672, .slice Ao75 t1673.length co75, .string t1676, .int .i64 t1677] 31 (0, 0))) ∧ (w'.heap[s_.2.2.2.2.2]? = some (.cells #[.string (⟨#[]⟩ : ByteArray), .slice none 0 0, .slice none 0 0, .int .i64 0, .slice none 0 0, .string (⟨#[]⟩ : ByteArray), .int .i64 0] 31 (0, 0))) ∧ (w.heap.size ≤ s_.2.2.2.2.2) ∧ (w.heap.size ≤ s_.2.2.2.2.2) ∧ (gb1622 ≠ s_.2.2.2.2.2) ∧ (s_.2.2.2.2.2 ≠ gb1622) ∧ (gb1623 ≠ s_.2.2.2.2.2) ∧ (s_.2.2.2.2.2 ≠ gb1623) ∧ (gb1651 ≠ s_.2.2.2.2.2) ∧ (s_.2.2.2.2.2 ≠ gb1651) ∧ (gb1658 ≠ s_.2.2.2.2.2) ∧ (s_.2.2.2.2.2 ≠ gb1658) ∧ (gb1664 ≠ s_.2.2.2.2.2) ∧ (s_.2.2.2.2.2 ≠ gb1664) ∧ (gb1679 ≠ s_.2.2.2.2.2) ∧ (s_.2.2.2.2.2 ≠ gb1679) ∧ (Below w.heap.size w w')) ?_ ?_
     rotate_left
     ·intro hCont
      refine two_ (i := 1) (j := 9) (Ni := some 100) (Nj := some 17) #[true, true, true, false, true, false, false, false, false, false, false, false] #[true, false, true, false, true, false, false, false, false, true, false, false] rfl rfl rfl rfl (two_of HT_.out (by kernel_rfl)) (by decide) (by decide) (fun K hK => ?_) (fun K hK => ?_)
      ·skip
       refine goes_ Tryz.func45 (by kernel_rfl) rfl #[.agg #[.int .i64 a0_0, .string a0_1, .slice A0_2 l0_2.length c0_2, .string a0_3]] (by rfl) rfl rfl ma ?_
       with_reducible refine (laws_toReq.calls kj98 a0_0 a0_1 _ _ l0_2 a0_3 t1704 t1705 t1706 t1709 _ ?side1 ?side2 A141.out).mono ?_
       (case side1 => exact cb HR0_2)
       (case side2 => exact HC0_2.out)
       rintro e w155 ⟨v1707, rfl, ho0, hb⟩
       refine ⟨_, rfl, ?_⟩
       replace HO_1652001 := kr HO_1652001 hb
       replace HO_1652002 := kr HO_1652002 hb
       replace HO_1680001 := kr HO_1680001 hb
       replace HO_1680002 := kr HO_1680002 hb
       have HO1708 := am (Kd.R_lower (Kd.R_new' (Kd.R_new' (Kd.R_new' (Kd.R_new' ho0 (Kd.R_lt (ro HO_1652004))) (Kd.R_lt (ro HO_1659002))) (Kd.R_lt (ro HO_1665001))) (Kd.R_lt (ro HO_1680004))) (below_size bl))
       replace HO_1652004 := am (Kd.R_elder' (ro HO_1652004) (Kd.R_base ho0) hb)
       replace HO_1659002 := am (Kd.R_elder' (ro HO_1659002) (Kd.R_base ho0) hb)
       replace HO_1665001 := am (Kd.R_elder' (ro HO_1665001) (Kd.R_base ho0) hb)
       replace HO_1680004 := am (Kd.R_elder' (ro HO_1680004) (Kd.R_base ho0) hb)
       replace BK1622 := kb BK1622 hb
       replace BK1623 := kb BK1623 hb
       replace BK1651 := kb BK1651 hb
       replace BK1658 := kb BK1658 hb
       replace BK1664 := kb BK1664 hb
       replace BK1679 := kb BK1679 hb
       replace HB := am (below_step bl hb)
       clear hb ho0
       refine hK.out _ _ ⟨bc BK1622, bc BK1622, bc BK1622, bc BK1622, bc BK1623, bc BK1623, bc BK1623⟩ (fun hHeld => ?_)
       clear hK K
       refine nm 100 ?_
       refine two_ (i := 3) (j := 9) (Ni := some 102) (Nj := some 17) #[true, true, true, true, true, false, false, false, false, false, false, false] #[true, true, true, false, true, false, false, false, false, true, false, false] rfl rfl rfl rfl (two_of HT_.out (by kernel_rfl)) (by decide) (by decide) (fun K hK => ?_) (fun K hK => ?_)
       ·skip
        refine goes_ Tryz.func46 (by kernel_rfl) rfl #[.agg #[.int .i64 a1_0, .slice A1_1 l1_1.length c1_1, .string a1_2]] (by rfl) rfl rfl ma ?_
        with_reducible refine (laws_toResp.calls kj98 a1_0 _ _ l1_1 a1_2 t1710 t1711 t1714 _ ?side1 ?side2 A142.out).mono ?_
        (case side1 => exact cb HR1_1)
        (case side2 => exact HC1_1.out)
        rintro e w156 ⟨v1712, rfl, ho0, hb⟩
        refine ⟨_, rfl, ?_⟩
        replace HO_1652001 := kr HO_1652001 hb
        replace HO_1652002 := kr HO_1652002 hb
        replace HO_1680001 := kr HO_1680001 hb
        replace HO_1680002 := kr HO_1680002 hb
        have HO1713 := am (Kd.R_lower (Kd.R_new' (Kd.R_new' (Kd.R_new' (Kd.R_new' (Kd.R_new' ho0 (Kd.R_lt (ro HO_1652004))) (Kd.R_lt (ro HO_1659002))) (Kd.R_lt (ro HO_1665001))) (Kd.R_lt (ro HO_1680004))) (Kd.R_lt (ro HO1708))) (below_size bl))
        replace HO_1652004 := am (Kd.R_elder' (ro HO_1652004) (Kd.R_base ho0) hb)
        replace HO_1659002 := am (Kd.R_elder' (ro HO_1659002) (Kd.R_base ho0) hb)
        replace HO_1665001 := am (Kd.R_elder' (ro HO_1665001) (Kd.R_base ho0) hb)
        replace HO_1680004 := am (Kd.R_elder' (ro HO_1680004) (Kd.R_base ho0) hb)
        replace HO1708 := am (Kd.R_elder' (ro HO1708) (Kd.R_base ho0) hb)
        replace BK1622 := kb BK1622 hb
        replace BK1623 := kb BK1623 hb
        replace BK1651 := kb BK1651 hb
        replace BK1658 := kb BK1658 hb
        replace BK1664 := kb BK1664 hb
        replace BK1679 := kb BK1679 hb
        replace HB := am (below_step bl hb)
        clear hb ho0
        obtain ⟨Ao157, co157, eo157⟩ := Kd.R_slice HO1708.out
        (first | subst eo157 | (injection eo157 with f1_ f2_ f3_; have f4_ := f1_.symm; have f5_ := f3_.symm; clear f1_ f2_ f3_; subst f4_; subst f5_))
        obtain ⟨Ao158, co158, eo158⟩ := Kd.R_slice HO1713.out
        (first | subst eo158 | (injection eo158 with f1_ f2_ f3_; have f4_ := f1_.symm; have f5_ := f3_.symm; clear f1_ f2_ f3_; subst f4_; subst f5_))
        refine hK.out _ _ ⟨bc BK1622, bc BK1622, bc BK1622, bc BK1622, bc BK1623, bc BK1623, bc BK1623⟩ (fun hHeld => ?_)
        clear hK K
        refine nm 102 ?_
        refine two_ (i := 5) (j := 9) (Ni := some 104) (Nj := some 17) #[true, true, true, true, true, true, false, false, false, false, false, false] #[true, true, true, true, true, false, false, false, false, true, false, false] rfl rfl rfl rfl (two_of HT_.out (by kernel_rfl)) (by decide) (by decide) (fun K hK => ?_) (fun K hK => ?_)
        ·skip
         refine goes_ Tryz.func47 (by kernel_rfl) rfl #[.agg #[.int .i64 t1704, .string t1705, .slice Ao157 t1706.length co157, .string t1709], .agg #[.int .i64 t1710, .slice Ao158 t1711.length co158, .string t1714], .int .i64 a2] (by rfl) rfl rfl ma ?_
         with_reducible refine (impl_ObjOf.calls kj98 t1704 t1705 _ _ t1706 t1709 t1710 _ _ t1711 t1714 a2 t1715 t1716 t1719 t1722 t1723 t1726 t1727 t1728 _ ?side1 ?side2 ?side3 ?side4 ?side5 ?side6 ?side7 A143.out).mono ?_
         (case side1 => exact GLOBE.below HGE.out bl)
         (case side2 => exact GLOBM.below HGM.out bl)
         (case side3 => exact GLOBT.below HGT.out bl)
         (case side4 => exact rc HO1708)
         (case side5 => exact (Kd.R_reads' HO1708.out).2.1)
         (case side6 => exact rc HO1713)
         (case side7 => exact (Kd.R_reads' HO1713.out).2.1)
         rintro e w159 ⟨v1717, v1720, v1724, rfl, ho0, ho1, ho2, hb⟩
         refine ⟨_, rfl, ?_⟩
         have HO1718 := am (Kd.R_lower (Kd.R_new' (Kd.R_new' (Kd.R_new' (Kd.R_new' ho0 (Kd.R_lt (ro HO_1652001))) (Kd.R_lt (ro HO_1652002))) (Kd.R_lt (ro HO_1680001))) (Kd.R_lt (ro HO_1680002))) (below_size bl))
         have HO1721 := am (Kd.R_lower (Kd.R_new' (Kd.R_new' (Kd.R_new' (Kd.R_new' ho1 (Kd.R_lt (ro HO_1652001))) (Kd.R_lt (ro HO_1652002))) (Kd.R_lt (ro HO_1680001))) (Kd.R_lt (ro HO_1680002))) (below_size bl))
         replace HO_1652001 := am (Kd.R_mono (Kd.R_told (Kd.R_told (Kd.R_old (ro HO_1652001) hb) (Kd.R_base ho0)) (Kd.R_base ho1)) (fun _ h_ => h_.1))
         replace HO_1652002 := am (Kd.R_mono (Kd.R_told (Kd.R_told (Kd.R_old (ro HO_1652002) hb) (Kd.R_base ho0)) (Kd.R_base ho1)) (fun _ h_ => h_.1))
         replace HO_1680001 := am (Kd.R_mono (Kd.R_told (Kd.R_told (Kd.R_old (ro HO_1680001) hb) (Kd.R_base ho0)) (Kd.R_base ho1)) (fun _ h_ => h_.1))
         replace HO_1680002 := am (Kd.R_mono (Kd.R_told (Kd.R_told (Kd.R_old (ro HO_1680002) hb) (Kd.R_base ho0)) (Kd.R_base ho1)) (fun _ h_ => h_.1))
         have HO1725 := am (Kd.R_lower (Kd.R_new' (Kd.R_new' (Kd.R_new' (Kd.R_new' (Kd.R_new' (Kd.R_new' ho2 (Kd.R_lt (ro HO_1652004))) (Kd.R_lt (ro HO_1659002))) (Kd.R_lt (ro HO_1665001))) (Kd.R_lt (ro HO_1680004))) (Kd.R_lt (ro HO1708))) (Kd.R_lt (ro HO1713))) (below_size bl))
         replace HO_1652004 := am (Kd.R_elder' (ro HO_1652004) (Kd.R_base ho2) hb)
         replace HO_1659002 := am (Kd.R_elder' (ro HO_1659002) (Kd.R_base ho2) hb)
         replace HO_1665001 := am (Kd.R_elder' (ro HO_1665001) (Kd.R_base ho2) hb)
         replace HO_1680004 := am (Kd.R_elder' (ro HO_1680004) (Kd.R_base ho2) hb)
         replace HO1708 := am (Kd.R_elder' (ro HO1708) (Kd.R_base ho2) hb)
         replace HO1713 := am (Kd.R_elder' (ro HO1713) (Kd.R_base ho2) hb)
         replace BK1622 := kb BK1622 hb
         replace BK1623 := kb BK1623 hb
         replace BK1651 := kb BK1651 hb
         replace BK1658 := kb BK1658 hb
         replace BK1664 := kb BK1664 hb
         replace BK1679 := kb BK1679 hb
         replace HB := am (below_step bl hb)
         clear hb ho0 ho1 ho2
         refine hK.out _ _ ⟨bc BK1622, bc BK1622, bc BK1622, bc BK1622, bc BK1623, bc BK1623, bc BK1623⟩ (fun hHeld => ?_)
         clear hK K
         refine nm 104 ?_
         refine pu 6 98 [7, 5] ?_
         refine pu 7 105 [8, 4] ?_
         refine pu 8 106 [9, 3] ?_
         refine one_ (i := 9) (N := some 17) #[true, true, true, true, true, true, true, true, true, true, false, false] rfl rfl (one_of HT_.out (by kernel_rfl)) (by decide) (fun K hK => ?_)
         refine box_step ?hg (N := 17) ?hd (cs := #[.string (⟨#[]⟩ : ByteArray), .slice none 0 0, .slice none 0 0, .int .i64 0, .slice none 0 0, .string (⟨#[]⟩ : ByteArray), .int .i64 0]) (t := 31) ?hr ?_; (case hd => rfl); (case hg => rfl); (case hr => first | (go_simp; done) | (go_simp; rfl))
         intro gb1729 hg w160 hbox hb
         replace HO_1652001 := am (Kd.R_below (ro HO_1652001) hb)
         replace HO_1652002 := am (Kd.R_below (ro HO_1652002) hb)
         replace HO_1652004 := am (Kd.R_below (ro HO_1652004) hb)
         replace HO_1659002 := am (Kd.R_below (ro HO_1659002) hb)
         replace HO_1665001 := am (Kd.R_below (ro HO_1665001) hb)
         replace HO_1680001 := am (Kd.R_below (ro HO_1680001) hb)
         replace HO_1680002 := am (Kd.R_below (ro HO_1680002) hb)
         replace HO_1680004 := am (Kd.R_below (ro HO_1680004) hb)
         replace HO1708 := am (Kd.R_below (ro HO1708) hb)
         replace HO1713 := am (Kd.R_below (ro HO1713) hb)
         replace HO1718 := am (Kd.R_below (ro HO1718) hb)
         replace HO1721 := am (Kd.R_below (ro HO1721) hb)
         replace HO1725 := am (Kd.R_below (ro HO1725) hb)
         have BK1729 := am (hbox)
         have GW1729 := am (sz hg : w.heap.size ≤ gb1729)
         have GE1729 := am (sz hg : w.heap.size ≤ gb1729)
         replace HB := am (below_step bl hb)
         have NB1622_1729 := am (nl hg BK1622 : gb1622 ≠ gb1729)
         have NB1729_1622 := am (ng hg BK1622 : gb1729 ≠ gb1622)
         replace BK1622 := kb BK1622 hb
         have NB1623_1729 := am (nl hg BK1623 : gb1623 ≠ gb1729)
         have NB1729_1623 := am (ng hg BK1623 : gb1729 ≠ gb1623)
         replace BK1623 := kb BK1623 hb
         have NB1651_1729 := am (nl hg BK1651 : gb1651 ≠ gb1729)
         have NB1729_1651 := am (ng hg BK1651 : gb1729 ≠ gb1651)
         replace BK1651 := kb BK1651 hb
         have NB1658_1729 := am (nl hg BK1658 : gb1658 ≠ gb1729)
         have NB1729_1658 := am (ng hg BK1658 : gb1729 ≠ gb1658)
         replace BK1658 := kb BK1658 hb
         have NB1664_1729 := am (nl hg BK1664 : gb1664 ≠ gb1729)
         have NB1729_1664 := am (ng hg BK1664 : gb1729 ≠ gb1664)
         replace BK1664 := kb BK1664 hb
         have NB1679_1729 := am (nl hg BK1679 : gb1679 ≠ gb1729)
         have NB1729_1679 := am (ng hg BK1679 : gb1729 ≠ gb1679)
         replace BK1679 := kb BK1679 hb
         clear hb hbox hg
         refine hK.out _ _ ⟨bc BK1622, bc BK1622, bc BK1622, bc BK1622, bc BK1623, bc BK1623, bc BK1623⟩ (fun hHeld => ?_)
         clear hK K
         refine nm 17 ?_
         exact norm_ (by simp only [putAll, Act.put, List.setIfInBounds_toArray, List.set_cons_zero, List.set_cons_succ]) (hCont (.slice Ao157 t1706.length co157, .slice Ao158 t1711.length co158, v1717, v1720, v1724, gb1729) _ ⟨hHeld, (by (with_reducible repeat (first | apply Kd.R_alloc | apply Kd.R_drewN | apply Kd.R_drew)); exact Kd.R_mono HO1708.out (fun _ hk => ⟨hk.1.2, ⟨hk.2, ⟨hk.1.1.1.1.1.2, ⟨hk.1.1.1.1.2, ⟨hk.1.1.1.2, hk.1.1.2⟩⟩⟩⟩⟩)), (by (with_reducible repeat (first | apply Kd.R_alloc | apply Kd.R_drewN | apply Kd.R_drew)); exact Kd.R_mono HO1713.out (fun _ hk => ⟨hk.1.2, ⟨hk.2, ⟨hk.1.1.1.1.1.2, ⟨hk.1.1.1.1.2, ⟨hk.1.1.1.2, hk.1.1.2⟩⟩⟩⟩⟩)), (by (with_reducible repeat (first | apply Kd.R_alloc | apply Kd.R_drewN | apply Kd.R_drew)); exact Kd.R_mono HO1718.out (fun _ hk => ⟨hk.1.1.1.1, ⟨hk.1.1.1.2, ⟨hk.1.1.2, ⟨hk.1.2, hk.2⟩⟩⟩⟩)), (by (with_reducible repeat (first | apply Kd.R_alloc | apply Kd.R_drewN | apply Kd.R_drew)); exact Kd.R_mono HO1721.out (fun _ hk => ⟨hk.1.1.1.1, ⟨hk.1.1.1.2, ⟨hk.1.1.2, ⟨hk.1.2, hk.2⟩⟩⟩⟩)), (by (with_reducible repeat (first | apply Kd.R_alloc | apply Kd.R_drewN | apply Kd.R_drew)); exact Kd.R_mono HO1725.out (fun _ hk => ⟨hk.1.2, ⟨hk.2, ⟨hk.1.1.1.1.1.2, ⟨hk.1.1.1.1.2, ⟨hk.1.1.1.2, hk.1.1.2⟩⟩⟩⟩⟩)), (by (with_reducible repeat (first | apply Kd.R_alloc | apply Kd.R_drewN | apply Kd.R_drew)); exact Kd.R_mono HO_1652001.out (fun _ hk => ⟨hk.1.2, ⟨hk.2, ⟨hk.1.1.1, ⟨hk.1.1.2.1, hk.1.1.2.2⟩⟩⟩⟩)), (by (with_reducible repeat (first | apply Kd.R_alloc | apply Kd.R_drewN | apply Kd.R_drew)); exact Kd.R_mono HO_1652002.out (fun _ hk => ⟨hk.1.2, ⟨hk.2, ⟨hk.1.1.1, ⟨hk.1.1.2.1, hk.1.1.2.2⟩⟩⟩⟩)), (by (with_reducible repeat (first | apply Kd.R_alloc | apply Kd.R_drewN | apply Kd.R_drew)); exact Kd.R_mono HO_1652004.out (fun _ hk => ⟨hk.1.1.2, ⟨hk.1.2, ⟨hk.2, ⟨hk.1.1.1.1, ⟨hk.1.1.1.2.1, hk.1.1.1.2.2⟩⟩⟩⟩⟩)), (by (with_reducible repeat (first | apply Kd.R_alloc | apply Kd.R_drewN | apply Kd.R_drew)); exact Kd.R_mono HO_1659002.out (fun _ hk => ⟨hk.1.1.2, ⟨hk.1.2, ⟨hk.2, ⟨hk.1.1.1.1, ⟨hk.1.1.1.2.1, hk.1.1.1.2.2⟩⟩⟩⟩⟩)), (by (with_reducible repeat (first | apply Kd.R_alloc | apply Kd.R_drewN | apply Kd.R_drew)); exact Kd.R_mono HO_1665001.out (fun _ hk => ⟨hk.1.1.2, ⟨hk.1.2, ⟨hk.2, ⟨hk.1.1.1.1, ⟨hk.1.1.1.2.1, hk.1.1.1.2.2⟩⟩⟩⟩⟩)), (by (with_reducible repeat (first | apply Kd.R_alloc | apply Kd.R_drewN | apply Kd.R_drew)); exact Kd.R_mono HO_1680001.out (fun _ hk => ⟨hk.1.2, ⟨hk.2, ⟨hk.1.1.1, ⟨hk.1.1.2.1, hk.1.1.2.2⟩⟩⟩⟩)), (by (with_reducible repeat (first | apply Kd.R_alloc | apply Kd.R_drewN | apply Kd.R_drew)); exact Kd.R_mono HO_1680002.out (fun _ hk => ⟨hk.1.2, ⟨hk.2, ⟨hk.1.1.1, ⟨hk.1.1.2.1, hk.1.1.2.2⟩⟩⟩⟩)), (by (with_reducible repeat (first | apply Kd.R_alloc | apply Kd.R_drewN | apply Kd.R_drew)); exact Kd.R_mono HO_1680004.out (fun _ hk => ⟨hk.1.1.2, ⟨hk.1.2, ⟨hk.2, ⟨hk.1.1.1.1, ⟨hk.1.1.1.2.1, hk.1.1.1.2.2⟩⟩⟩⟩⟩)), (bk BK1622), (bk BK1623), (bk BK1651), (bk BK1658), (bk BK1664), (bk BK1679), (bk BK1729), GW1729.out, GE1729.out, NB1622_1729.out, NB1729_1622.out, NB1623_1729.out, NB1729_1623.out, NB1651_1729.out, NB1729_1651.out, NB1658_1729.out, NB1729_1658.out, NB1664_1729.out, NB1729_1664.out, NB1679_1729.out, NB1729_1679.out, bl⟩)
        ·skip
         refine box_step ?hg (N := 17) ?hd (cs := #[.string (⟨#[]⟩ : ByteArray), .slice none 0 0, .slice none 0 0, .int .i64 0, .slice none 0 0, .string (⟨#[]⟩ : ByteArray), .int .i64 0]) (t := 31) ?hr ?_; (case hd => rfl); (case hg => rfl); (case hr => first | (go_simp; done) | (go_simp; rfl))
         intro gb1729 hg w157 hbox hb
         replace HO_1652001 := am (Kd.R_below (ro HO_1652001) hb)
         replace HO_1652002 := am (Kd.R_below (ro HO_1652002) hb)
         replace HO_1652004 := am (Kd.R_below (ro HO_1652004) hb)
         replace HO_1659002 := am (Kd.R_below (ro HO_1659002) hb)
         replace HO_1665001 := am (Kd.R_below (ro HO_1665001) hb)
         replace HO_1680001 := am (Kd.R_below (ro HO_1680001) hb)
         replace HO_1680002 := am (Kd.R_below (ro HO_1680002) hb)
         replace HO_1680004 := am (Kd.R_below (ro HO_1680004) hb)
         replace HO1708 := am (Kd.R_below (ro HO1708) hb)
         replace HO1713 := am (Kd.R_below (ro HO1713) hb)
         have BK1729 := am (hbox)
         have GW1729 := am (sz hg : w.heap.size ≤ gb1729)
         have GE1729 := am (sz hg : w.heap.size ≤ gb1729)
         replace HB := am (below_step bl hb)
         have NB1622_1729 := am (nl hg BK1622 : gb1622 ≠ gb1729)
         have NB1729_1622 := am (ng hg BK1622 : gb1729 ≠ gb1622)
         replace BK1622 := kb BK1622 hb
         have NB1623_1729 := am (nl hg BK1623 : gb1623 ≠ gb1729)
         have NB1729_1623 := am (ng hg BK1623 : gb1729 ≠ gb1623)
         replace BK1623 := kb BK1623 hb
         have NB1651_1729 := am (nl hg BK1651 : gb1651 ≠ gb1729)
         have NB1729_1651 := am (ng hg BK1651 : gb1729 ≠ gb1651)
         replace BK1651 := kb BK1651 hb
         have NB1658_1729 := am (nl hg BK1658 : gb1658 ≠ gb1729)
         have NB1729_1658 := am (ng hg BK1658 : gb1729 ≠ gb1658)
         replace BK1658 := kb BK1658 hb
         have NB1664_1729 := am (nl hg BK1664 : gb1664 ≠ gb1729)
         have NB1729_1664 := am (ng hg BK1664 : gb1729 ≠ gb1664)
         replace BK1664 := kb BK1664 hb
         have NB1679_1729 := am (nl hg BK1679 : gb1679 ≠ gb1729)
         have NB1729_1679 := am (ng hg BK1679 : gb1729 ≠ gb1679)
         replace BK1679 := kb BK1679 hb
         clear hb hbox hg
         obtain ⟨Ao158, co158, eo158⟩ := Kd.R_slice HO1708.out
         (first | subst eo158 | (injection eo158 with f1_ f2_ f3_; have f4_ := f1_.symm; have f5_ := f3_.symm; clear f1_ f2_ f3_; subst f4_; subst f5_))
         obtain ⟨Ao159, co159, eo159⟩ := Kd.R_slice HO1713.out
         (first | subst eo159 | (injection eo159 with f1_ f2_ f3_; have f4_ := f1_.symm; have f5_ := f3_.symm; clear f1_ f2_ f3_; subst f4_; subst f5_))
         refine hK.out _ _ ⟨bc BK1622, bc BK1622, bc BK1622, bc BK1622, bc BK1623, bc BK1623, bc BK1623⟩ (fun hHeld => ?_)
         clear hK K
         refine nm 17 ?_
         refine og 5 104 [6, 3, 1, 2] Tryz.func47 #[.agg #[.int .i64 t1704, .string t1705, .slice Ao158 t1706.length co158, .string t1709], .agg #[.int .i64 t1710, .slice Ao159 t1711.length co159, .string t1714], .int .i64 a2] (fun K hK => ?_)
         with_reducible refine (impl_ObjOf.calls kj98 t1704 t1705 _ _ t1706 t1709 t1710 _ _ t1711 t1714 a2 t1715 t1716 t1719 t1722 t1723 t1726 t1727 t1728 _ ?side1 ?side2 ?side3 ?side4 ?side5 ?side6 ?side7 A143.out).mono ?_
         (case side1 => exact GLOBE.below HGE.out bl)
         (case side2 => exact GLOBM.below HGM.out bl)
         (case side3 => exact GLOBT.below HGT.out bl)
         (case side4 => exact rc HO1708)
         (case side5 => exact (Kd.R_reads' HO1708.out).2.1)
         (case side6 => exact rc HO1713)
         (case side7 => exact (Kd.R_reads' HO1713.out).2.1)
         rintro e w160 ⟨v1717, v1720, v1724, rfl, ho0, ho1, ho2, hb⟩
         refine ⟨_, rfl, ?_⟩
         have HO1718 := am (Kd.R_lower (Kd.R_new' (Kd.R_new' (Kd.R_new' (Kd.R_new' ho0 (Kd.R_lt (ro HO_1652001))) (Kd.R_lt (ro HO_1652002))) (Kd.R_lt (ro HO_1680001))) (Kd.R_lt (ro HO_1680002))) (below_size bl))
         have HO1721 := am (Kd.R_lower (Kd.R_new' (Kd.R_new' (Kd.R_new' (Kd.R_new' ho1 (Kd.R_lt (ro HO_1652001))) (Kd.R_lt (ro HO_1652002))) (Kd.R_lt (ro HO_1680001))) (Kd.R_lt (ro HO_1680002))) (below_size bl))
         replace HO_1652001 := am (Kd.R_mono (Kd.R_told (Kd.R_told (Kd.R_old (ro HO_1652001) hb) (Kd.R_base ho0)) (Kd.R_base ho1)) (fun _ h_ => h_.1))
         replace HO_1652002 := am (Kd.R_mono (Kd.R_told (Kd.R_told (Kd.R_old (ro HO_1652002) hb) (Kd.R_base ho0)) (Kd.R_base ho1)) (fun _ h_ => h_.1))
         replace HO_1680001 := am (Kd.R_mono (Kd.R_told (Kd.R_told (Kd.R_old (ro HO_1680001) hb) (Kd.R_base ho0)) (Kd.R_base ho1)) (fun _ h_ => h_.1))
         replace HO_1680002 := am (Kd.R_mono (Kd.R_told (Kd.R_told (Kd.R_old (ro HO_1680002) hb) (Kd.R_base ho0)) (Kd.R_base ho1)) (fun _ h_ => h_.1))
         have HO1725 := am (Kd.R_lower (Kd.R_new' (Kd.R_new' (Kd.R_new' (Kd.R_new' (Kd.R_new' (Kd.R_new' ho2 (Kd.R_lt (ro HO_1652004))) (Kd.R_lt (ro HO_1659002))) (Kd.R_lt (ro HO_1665001))) (Kd.R_lt (ro HO_1680004))) (Kd.R_lt (ro HO1708))) (Kd.R_lt (ro HO1713))) (below_size bl))
         replace HO_1652004 := am (Kd.R_elder' (ro HO_1652004) (Kd.R_base ho2) hb)
         replace HO_1659002 := am (Kd.R_elder' (ro HO_1659002) (Kd.R_base ho2) hb)
         replace HO_1665001 := am (Kd.R_elder' (ro HO_1665001) (Kd.R_base ho2) hb)
         replace HO_1680004 := am (Kd.R_elder' (ro HO_1680004) (Kd.R_base ho2) hb)
         replace HO1708 := am (Kd.R_elder' (ro HO1708) (Kd.R_base ho2) hb)
         replace HO1713 := am (Kd.R_elder' (ro HO1713) (Kd.R_base ho2) hb)
         replace BK1622 := kb BK1622 hb
         replace BK1623 := kb BK1623 hb
         replace BK1651 := kb BK1651 hb
         replace BK1658 := kb BK1658 hb
         replace BK1664 := kb BK1664 hb
         replace BK1679 := kb BK1679 hb
         replace BK1729 := kb BK1729 hb
         replace HB := am (below_step bl hb)
         clear hb ho0 ho1 ho2
         refine hK.out _ _ ⟨bc BK1622, bc BK1622, bc BK1622, bc BK1622, bc BK1623, bc BK1623, bc BK1623⟩ (fun hHeld => ?_)
         clear hK K
         refine nm 104 ?_
         refine pu 6 98 [7, 2, 1, 2] ?_
         refine pu 7 105 [8, 1, 1, 2] ?_
         refine pu 8 106 [10, 2] ?_
         exact norm_ (by simp only [putAll, Act.put, List.setIfInBounds_toArray, List.set_cons_zero, List.set_cons_succ]) (hCont (.slice Ao158 t1706.length co158, .slice Ao159 t1711.length co159, v1717, v1720, v1724, gb1729) _ ⟨hHeld, (by (with_reducible repeat (first | apply Kd.R_alloc | apply Kd.R_drewN | apply Kd.R_drew)); exact Kd.R_mono HO1708.out (fun _ hk => ⟨hk.1.2, ⟨hk.2, ⟨hk.1.1.1.1.1.2, ⟨hk.1.1.1.1.2, ⟨hk.1.1.1.2, hk.1.1.2⟩⟩⟩⟩⟩)), (by (with_reducible repeat (first | apply Kd.R_alloc | apply Kd.R_drewN | apply Kd.R_drew)); exact Kd.R_mono HO1713.out (fun _ hk => ⟨hk.1.2, ⟨hk.2, ⟨hk.1.1.1.1.1.2, ⟨hk.1.1.1.1.2, ⟨hk.1.1.1.2, hk.1.1.2⟩⟩⟩⟩⟩)), (by (with_reducible repeat (first | apply Kd.R_alloc | apply Kd.R_drewN | apply Kd.R_drew)); exact Kd.R_mono HO1718.out (fun _ hk => ⟨hk.1.1.1.1, ⟨hk.1.1.1.2, ⟨hk.1.1.2, ⟨hk.1.2, hk.2⟩⟩⟩⟩)), (by (with_reducible repeat (first | apply Kd.R_alloc | apply Kd.R_drewN | apply Kd.R_drew)); exact Kd.R_mono HO1721.out (fun _ hk => ⟨hk.1.1.1.1, ⟨hk.1.1.1.2, ⟨hk.1.1.2, ⟨hk.1.2, hk.2⟩⟩⟩⟩)), (by (with_reducible repeat (first | apply Kd.R_alloc | apply Kd.R_drewN | apply Kd.R_drew)); exact Kd.R_mono HO1725.out (fun _ hk => ⟨hk.1.2, ⟨hk.2, ⟨hk.1.1.1.1.1.2, ⟨hk.1.1.1.1.2, ⟨hk.1.1.1.2, hk.1.1.2⟩⟩⟩⟩⟩)), (by (with_reducible repeat (first | apply Kd.R_alloc | apply Kd.R_drewN | apply Kd.R_drew)); exact Kd.R_mono HO_1652001.out (fun _ hk => ⟨hk.1.2, ⟨hk.2, ⟨hk.1.1.1, ⟨hk.1.1.2.1, hk.1.1.2.2⟩⟩⟩⟩)), (by (with_reducible repeat (first | apply Kd.R_alloc | apply Kd.R_drewN | apply Kd.R_drew)); exact Kd.R_mono HO_1652002.out (fun _ hk => ⟨hk.1.2, ⟨hk.2, ⟨hk.1.1.1, ⟨hk.1.1.2.1, hk.1.1.2.2⟩⟩⟩⟩)), (by (with_reducible repeat (first | apply Kd.R_alloc | apply Kd.R_drewN | apply Kd.R_drew)); exact Kd.R_mono HO_1652004.out (fun _ hk => ⟨hk.1.1.2, ⟨hk.1.2, ⟨hk.2, ⟨hk.1.1.1.1, ⟨hk.1.1.1.2.1, hk.1.1.1.2.2⟩⟩⟩⟩⟩)), (by (with_reducible repeat (first | apply Kd.R_alloc | apply Kd.R_drewN | apply Kd.R_drew)); exact Kd.R_mono HO_1659002.out (fun _ hk => ⟨hk.1.1.2, ⟨hk.1.2, ⟨hk.2, ⟨hk.1.1.1.1, ⟨hk.1.1.1.2.1, hk.1.1.1.2.2⟩⟩⟩⟩⟩)), (by (with_reducible repeat (first | apply Kd.R_alloc | apply Kd.R_drewN | apply Kd.R_drew)); exact Kd.R_mono HO_1665001.out (fun _ hk => ⟨hk.1.1.2, ⟨hk.1.2, ⟨hk.2, ⟨hk.1.1.1.1, ⟨hk.1.1.1.2.1, hk.1.1.1.2.2⟩⟩⟩⟩⟩)), (by (with_reducible repeat (first | apply Kd.R_alloc | apply Kd.R_drewN | apply Kd.R_drew)); exact Kd.R_mono HO_1680001.out (fun _ hk => ⟨hk.1.2, ⟨hk.2, ⟨hk.1.1.1, ⟨hk.1.1.2.1, hk.1.1.2.2⟩⟩⟩⟩)), (by (with_reducible repeat (first | apply Kd.R_alloc | apply Kd.R_drewN | apply Kd.R_drew)); exact Kd.R_mono HO_1680002.out (fun _ hk => ⟨hk.1.2, ⟨hk.2, ⟨hk.1.1.1, ⟨hk.1.1.2.1, hk.1.1.2.2⟩⟩⟩⟩)), (by (with_reducible repeat (first | apply Kd.R_alloc | apply Kd.R_drewN | apply Kd.R_drew)); exact Kd.R_mono HO_1680004.out (fun _ hk => ⟨hk.1.1.2, ⟨hk.1.2, ⟨hk.2, ⟨hk.1.1.1.1, ⟨hk.1.1.1.2.1, hk.1.1.1.2.2⟩⟩⟩⟩⟩)), (bk BK1622), (bk BK1623), (bk BK1651), (bk BK1658), (bk BK1664), (bk BK1679), (bk BK1729), GW1729.out, GE1729.out, NB1622_1729.out, NB1729_1622.out, NB1623_1729.out, NB1729_1623.out, NB1651_1729.out, NB1729_1651.out, NB1658_1729.out, NB1729_1658.out, NB1664_1729.out, NB1729_1664.out, NB1679_1729.out, NB1729_1679.out, bl⟩)
       ·skip
        refine box_step ?hg (N := 17) ?hd (cs := #[.string (⟨#[]⟩ : ByteArray), .slice none 0 0, .slice none 0 0, .int .i64 0, .slice none 0 0, .string (⟨#[]⟩ : ByteArray), .int .i64 0]) (t := 31) ?hr ?_; (case hd => rfl); (case hg => rfl); (case hr => first | (go_simp; done) | (go_simp; rfl))
        intro gb1729 hg w156 hbox hb
        replace HO_1652001 := am (Kd.R_below (ro HO_1652001) hb)
        replace HO_1652002 := am (Kd.R_below (ro HO_1652002) hb)
        replace HO_1652004 := am (Kd.R_below (ro HO_1652004) hb)
        replace HO_1659002 := am (Kd.R_below (ro HO_1659002) hb)
        replace HO_1665001 := am (Kd.R_below (ro HO_1665001) hb)
        replace HO_1680001 := am (Kd.R_below (ro HO_1680001) hb)
        replace HO_1680002 := am (Kd.R_below (ro HO_1680002) hb)
        replace HO_1680004 := am (Kd.R_below (ro HO_1680004) hb)
        replace HO1708 := am (Kd.R_below (ro HO1708) hb)
        have BK1729 := am (hbox)
        have GW1729 := am (sz hg : w.heap.size ≤ gb1729)
        have GE1729 := am (sz hg : w.heap.size ≤ gb1729)
        replace HB := am (below_step bl hb)
        have NB1622_1729 := am (nl hg BK1622 : gb1622 ≠ gb1729)
        have NB1729_1622 := am (ng hg BK1622 : gb1729 ≠ gb1622)
        replace BK1622 := kb BK1622 hb
        have NB1623_1729 := am (nl hg BK1623 : gb1623 ≠ gb1729)
        have NB1729_1623 := am (ng hg BK1623 : gb1729 ≠ gb1623)
        replace BK1623 := kb BK1623 hb
        have NB1651_1729 := am (nl hg BK1651 : gb1651 ≠ gb1729)
        have NB1729_1651 := am (ng hg BK1651 : gb1729 ≠ gb1651)
        replace BK1651 := kb BK1651 hb
        have NB1658_1729 := am (nl hg BK1658 : gb1658 ≠ gb1729)
        have NB1729_1658 := am (ng hg BK1658 : gb1729 ≠ gb1658)
        replace BK1658 := kb BK1658 hb
        have NB1664_1729 := am (nl hg BK1664 : gb1664 ≠ gb1729)
        have NB1729_1664 := am (ng hg BK1664 : gb1729 ≠ gb1664)
        replace BK1664 := kb BK1664 hb
        have NB1679_1729 := am (nl hg BK1679 : gb1679 ≠ gb1729)
        have NB1729_1679 := am (ng hg BK1679 : gb1729 ≠ gb1679)
        replace BK1679 := kb BK1679 hb
        clear hb hbox hg
        refine hK.out _ _ ⟨bc BK1622, bc BK1622, bc BK1622, bc BK1622, bc BK1623, bc BK1623, bc BK1623⟩ (fun hHeld => ?_)
        clear hK K
        refine nm 17 ?_
        refine og 3 102 [5, 4, 1, 2] Tryz.func46 #[.agg #[.int .i64 a1_0, .slice A1_1 l1_1.length c1_1, .string a1_2]] (fun K hK => ?_)
        with_reducible refine (laws_toResp.calls kj98 a1_0 _ _ l1_1 a1_2 t1710 t1711 t1714 _ ?side1 ?side2 A142.out).mono ?_
        (case side1 => exact cb HR1_1)
        (case side2 => exact HC1_1.out)
        rintro e w157 ⟨v1712, rfl, ho0, hb⟩
        refine ⟨_, rfl, ?_⟩
        replace HO_1652001 := kr HO_1652001 hb
        replace HO_1652002 := kr HO_1652002 hb
        replace HO_1680001 := kr HO_1680001 hb
        replace HO_1680002 := kr HO_1680002 hb
        have HO1713 := am (Kd.R_lower (Kd.R_new' (Kd.R_new' (Kd.R_new' (Kd.R_new' (Kd.R_new' ho0 (Kd.R_lt (ro HO_1652004))) (Kd.R_lt (ro HO_1659002))) (Kd.R_lt (ro HO_1665001))) (Kd.R_lt (ro HO_1680004))) (Kd.R_lt (ro HO1708))) (below_size bl))
        replace HO_1652004 := am (Kd.R_elder' (ro HO_1652004) (Kd.R_base ho0) hb)
        replace HO_1659002 := am (Kd.R_elder' (ro HO_1659002) (Kd.R_base ho0) hb)
        replace HO_1665001 := am (Kd.R_elder' (ro HO_1665001) (Kd.R_base ho0) hb)
        replace HO_1680004 := am (Kd.R_elder' (ro HO_1680004) (Kd.R_base ho0) hb)
        replace HO1708 := am (Kd.R_elder' (ro HO1708) (Kd.R_base ho0) hb)
        replace BK1622 := kb BK1622 hb
        replace BK1623 := kb BK1623 hb
        replace BK1651 := kb BK1651 hb
        replace BK1658 := kb BK1658 hb
        replace BK1664 := kb BK1664 hb
        replace BK1679 := kb BK1679 hb
        replace BK1729 := kb BK1729 hb
        replace HB := am (below_step bl hb)
        clear hb ho0
        obtain ⟨Ao158, co158, eo158⟩ := Kd.R_slice HO1708.out
        (first | subst eo158 | (injection eo158 with f1_ f2_ f3_; have f4_ := f1_.symm; have f5_ := f3_.symm; clear f1_ f2_ f3_; subst f4_; subst f5_))
        obtain ⟨Ao159, co159, eo159⟩ := Kd.R_slice HO1713.out
        (first | subst eo159 | (injection eo159 with f1_ f2_ f3_; have f4_ := f1_.symm; have f5_ := f3_.symm; clear f1_ f2_ f3_; subst f4_; subst f5_))
        refine hK.out _ _ ⟨bc BK1622, bc BK1622, bc BK1622, bc BK1622, bc BK1623, bc BK1623, bc BK1623⟩ (fun hHeld => ?_)
        clear hK K
        refine nm 102 ?_
        refine og 5 104 [6, 3, 1, 2] Tryz.func47 #[.agg #[.int .i64 t1704, .string t1705, .slice Ao158 t1706.length co158, .string t1709], .agg #[.int .i64 t1710, .slice Ao159 t1711.length co159, .string t1714], .int .i64 a2] (fun K hK => ?_)
        with_reducible refine (impl_ObjOf.calls kj98 t1704 t1705 _ _ t1706 t1709 t1710 _ _ t1711 t1714 a2 t1715 t1716 t1719 t1722 t1723 t1726 t1727 t1728 _ ?side1 ?side2 ?side3 ?side4 ?side5 ?side6 ?side7 A143.out).mono ?_
        (case side1 => exact GLOBE.below HGE.out bl)
        (case side2 => exact GLOBM.below HGM.out bl)
        (case side3 => exact GLOBT.below HGT.out bl)
        (case side4 => exact rc HO1708)
        (case side5 => exact (Kd.R_reads' HO1708.out).2.1)
        (case side6 => exact rc HO1713)
        (case side7 => exact (Kd.R_reads' HO1713.out).2.1)
        rintro e w160 ⟨v1717, v1720, v1724, rfl, ho0, ho1, ho2, hb⟩
        refine ⟨_, rfl, ?_⟩
        have HO1718 := am (Kd.R_lower (Kd.R_new' (Kd.R_new' (Kd.R_new' (Kd.R_new' ho0 (Kd.R_lt (ro HO_1652001))) (Kd.R_lt (ro HO_1652002))) (Kd.R_lt (ro HO_1680001))) (Kd.R_lt (ro HO_1680002))) (below_size bl))
        have HO1721 := am (Kd.R_lower (Kd.R_new' (Kd.R_new' (Kd.R_new' (Kd.R_new' ho1 (Kd.R_lt (ro HO_1652001))) (Kd.R_lt (ro HO_1652002))) (Kd.R_lt (ro HO_1680001))) (Kd.R_lt (ro HO_1680002))) (below_size bl))
        replace HO_1652001 := am (Kd.R_mono (Kd.R_told (Kd.R_told (Kd.R_old (ro HO_1652001) hb) (Kd.R_base ho0)) (Kd.R_base ho1)) (fun _ h_ => h_.1))
        replace HO_1652002 := am (Kd.R_mono (Kd.R_told (Kd.R_told (Kd.R_old (ro HO_1652002) hb) (Kd.R_base ho0)) (Kd.R_base ho1)) (fun _ h_ => h_.1))
        replace HO_1680001 := am (Kd.R_mono (Kd.R_told (Kd.R_told (Kd.R_old (ro HO_1680001) hb) (Kd.R_base ho0)) (Kd.R_base ho1)) (fun _ h_ => h_.1))
        replace HO_1680002 := am (Kd.R_mono (Kd.R_told (Kd.R_told (Kd.R_old (ro HO_1680002) hb) (Kd.R_base ho0)) (Kd.R_base ho1)) (fun _ h_ => h_.1))
        have HO1725 := am (Kd.R_lower (Kd.R_new' (Kd.R_new' (Kd.R_new' (Kd.R_new' (Kd.R_new' (Kd.R_new' ho2 (Kd.R_lt (ro HO_1652004))) (Kd.R_lt (ro HO_1659002))) (Kd.R_lt (ro HO_1665001))) (Kd.R_lt (ro HO_1680004))) (Kd.R_lt (ro HO1708))) (Kd.R_lt (ro HO1713))) (below_size bl))
        replace HO_1652004 := am (Kd.R_elder' (ro HO_1652004) (Kd.R_base ho2) hb)
        replace HO_1659002 := am (Kd.R_elder' (ro HO_1659002) (Kd.R_base ho2) hb)
        replace HO_1665001 := am (Kd.R_elder' (ro HO_1665001) (Kd.R_base ho2) hb)
        replace HO_1680004 := am (Kd.R_elder' (ro HO_1680004) (Kd.R_base ho2) hb)
        replace HO1708 := am (Kd.R_elder' (ro HO1708) (Kd.R_base ho2) hb)
        replace HO1713 := am (Kd.R_elder' (ro HO1713) (Kd.R_base ho2) hb)
        replace BK1622 := kb BK1622 hb
        replace BK1623 := kb BK1623 hb
        replace BK1651 := kb BK1651 hb
        replace BK1658 := kb BK1658 hb
        replace BK1664 := kb BK1664 hb
        replace BK1679 := kb BK1679 hb
        replace BK1729 := kb BK1729 hb
        replace HB := am (below_step bl hb)
        clear hb ho0 ho1 ho2
        refine hK.out _ _ ⟨bc BK1622, bc BK1622, bc BK1622, bc BK1622, bc BK1623, bc BK1623, bc BK1623⟩ (fun hHeld => ?_)
        clear hK K
        refine nm 104 ?_
        refine pu 6 98 [7, 2, 1, 2] ?_
        refine pu 7 105 [8, 1, 1, 2] ?_
        refine pu 8 106 [10, 2] ?_
        exact norm_ (by simp only [putAll, Act.put, List.setIfInBounds_toArray, List.set_cons_zero, List.set_cons_succ]) (hCont (.slice Ao158 t1706.length co158, .slice Ao159 t1711.length co159, v1717, v1720, v1724, gb1729) _ ⟨hHeld, (by (with_reducible repeat (first | apply Kd.R_alloc | apply Kd.R_drewN | apply Kd.R_drew)); exact Kd.R_mono HO1708.out (fun _ hk => ⟨hk.1.2, ⟨hk.2, ⟨hk.1.1.1.1.1.2, ⟨hk.1.1.1.1.2, ⟨hk.1.1.1.2, hk.1.1.2⟩⟩⟩⟩⟩)), (by (with_reducible repeat (first | apply Kd.R_alloc | apply Kd.R_drewN | apply Kd.R_drew)); exact Kd.R_mono HO1713.out (fun _ hk => ⟨hk.1.2, ⟨hk.2, ⟨hk.1.1.1.1.1.2, ⟨hk.1.1.1.1.2, ⟨hk.1.1.1.2, hk.1.1.2⟩⟩⟩⟩⟩)), (by (with_reducible repeat (first | apply Kd.R_alloc | apply Kd.R_drewN | apply Kd.R_drew)); exact Kd.R_mono HO1718.out (fun _ hk => ⟨hk.1.1.1.1, ⟨hk.1.1.1.2, ⟨hk.1.1.2, ⟨hk.1.2, hk.2⟩⟩⟩⟩)), (by (with_reducible repeat (first | apply Kd.R_alloc | apply Kd.R_drewN | apply Kd.R_drew)); exact Kd.R_mono HO1721.out (fun _ hk => ⟨hk.1.1.1.1, ⟨hk.1.1.1.2, ⟨hk.1.1.2, ⟨hk.1.2, hk.2⟩⟩⟩⟩)), (by (with_reducible repeat (first | apply Kd.R_alloc | apply Kd.R_drewN | apply Kd.R_drew)); exact Kd.R_mono HO1725.out (fun _ hk => ⟨hk.1.2, ⟨hk.2, ⟨hk.1.1.1.1.1.2, ⟨hk.1.1.1.1.2, ⟨hk.1.1.1.2, hk.1.1.2⟩⟩⟩⟩⟩)), (by (with_reducible repeat (first | apply Kd.R_alloc | apply Kd.R_drewN | apply Kd.R_drew)); exact Kd.R_mono HO_1652001.out (fun _ hk => ⟨hk.1.2, ⟨hk.2, ⟨hk.1.1.1, ⟨hk.1.1.2.1, hk.1.1.2.2⟩⟩⟩⟩)), (by (with_reducible repeat (first | apply Kd.R_alloc | apply Kd.R_drewN | apply Kd.R_drew)); exact Kd.R_mono HO_1652002.out (fun _ hk => ⟨hk.1.2, ⟨hk.2, ⟨hk.1.1.1, ⟨hk.1.1.2.1, hk.1.1.2.2⟩⟩⟩⟩)), (by (with_reducible repeat (first | apply Kd.R_alloc | apply Kd.R_drewN | apply Kd.R_drew)); exact Kd.R_mono HO_1652004.out (fun _ hk => ⟨hk.1.1.2, ⟨hk.1.2, ⟨hk.2, ⟨hk.1.1.1.1, ⟨hk.1.1.1.2.1, hk.1.1.1.2.2⟩⟩⟩⟩⟩)), (by (with_reducible repeat (first | apply Kd.R_alloc | apply Kd.R_drewN | apply Kd.R_drew)); exact Kd.R_mono HO_1659002.out (fun _ hk => ⟨hk.1.1.2, ⟨hk.1.2, ⟨hk.2, ⟨hk.1.1.1.1, ⟨hk.1.1.1.2.1, hk.1.1.1.2.2⟩⟩⟩⟩⟩)), (by (with_reducible repeat (first | apply Kd.R_alloc | apply Kd.R_drewN | apply Kd.R_drew)); exact Kd.R_mono HO_1665001.out (fun _ hk => ⟨hk.1.1.2, ⟨hk.1.2, ⟨hk.2, ⟨hk.1.1.1.1, ⟨hk.1.1.1.2.1, hk.1.1.1.2.2⟩⟩⟩⟩⟩)), (by (with_reducible repeat (first | apply Kd.R_alloc | apply Kd.R_drewN | apply Kd.R_drew)); exact Kd.R_mono HO_1680001.out (fun _ hk => ⟨hk.1.2, ⟨hk.2, ⟨hk.1.1.1, ⟨hk.1.1.2.1, hk.1.1.2.2⟩⟩⟩⟩)), (by (with_reducible repeat (first | apply Kd.R_alloc | apply Kd.R_drewN | apply Kd.R_drew)); exact Kd.R_mono HO_1680002.out (fun _ hk => ⟨hk.1.2, ⟨hk.2, ⟨hk.1.1.1, ⟨hk.1.1.2.1, hk.1.1.2.2⟩⟩⟩⟩)), (by (with_reducible repeat (first | apply Kd.R_alloc | apply Kd.R_drewN | apply Kd.R_drew)); exact Kd.R_mono HO_1680004.out (fun _ hk => ⟨hk.1.1.2, ⟨hk.1.2, ⟨hk.2, ⟨hk.1.1.1.1, ⟨hk.1.1.1.2.1, hk.1.1.1.2.2⟩⟩⟩⟩⟩)), (bk BK1622), (bk BK1623), (bk BK1651), (bk BK1658), (bk BK1664), (bk BK1679), (bk BK1729), GW1729.out, GE1729.out, NB1622_1729.out, NB1729_1622.out, NB1623_1729.out, NB1729_1623.out, NB1651_1729.out, NB1729_1651.out, NB1658_1729.out, NB1729_1658.out, NB1664_1729.out, NB1729_1664.out, NB1679_1729.out, NB1729_1679.out, bl⟩)
      ·skip
       refine box_step ?hg (N := 17) ?hd (cs := #[.string (⟨#[]⟩ : ByteArray), .slice none 0 0, .slice none 0 0, .int .i64 0, .slice none 0 0, .string (⟨#[]⟩ : ByteArray), .int .i64 0]) (t := 31) ?hr ?_; (case hd => rfl); (case hg => rfl); (case hr => first | (go_simp; done) | (go_simp; rfl))
       intro gb1729 hg w155 hbox hb
       replace HO_1652001 := am (Kd.R_below (ro HO_1652001) hb)
       replace HO_1652002 := am (Kd.R_below (ro HO_1652002) hb)
       replace HO_1652004 := am (Kd.R_below (ro HO_1652004) hb)
       replace HO_1659002 := am (Kd.R_below (ro HO_1659002) hb)
       replace HO_1665001 := am (Kd.R_below (ro HO_1665001) hb)
       replace HO_1680001 := am (Kd.R_below (ro HO_1680001) hb)
       replace HO_1680002 := am (Kd.R_below (ro HO_1680002) hb)
       replace HO_1680004 := am (Kd.R_below (ro HO_1680004) hb)
       have BK1729 := am (hbox)
       have GW1729 := am (sz hg : w.heap.size ≤ gb1729)
       have GE1729 := am (sz hg : w.heap.size ≤ gb1729)
       replace HB := am (below_step bl hb)
       have NB1622_1729 := am (nl hg BK1622 : gb1622 ≠ gb1729)
       have NB1729_1622 := am (ng hg BK1622 : gb1729 ≠ gb1622)
       replace BK1622 := kb BK1622 hb
       have NB1623_1729 := am (nl hg BK1623 : gb1623 ≠ gb1729)
       have NB1729_1623 := am (ng hg BK1623 : gb1729 ≠ gb1623)
       replace BK1623 := kb BK1623 hb
       have NB1651_1729 := am (nl hg BK1651 : gb1651 ≠ gb1729)
       have NB1729_1651 := am (ng hg BK1651 : gb1729 ≠ gb1651)
       replace BK1651 := kb BK1651 hb
       have NB1658_1729 := am (nl hg BK1658 : gb1658 ≠ gb1729)
       have NB1729_1658 := am (ng hg BK1658 : gb1729 ≠ gb1658)
       replace BK1658 := kb BK1658 hb
       have NB1664_1729 := am (nl hg BK1664 : gb1664 ≠ gb1729)
       have NB1729_1664 := am (ng hg BK1664 : gb1729 ≠ gb1664)
       replace BK1664 := kb BK1664 hb
       have NB1679_1729 := am (nl hg BK1679 : gb1679 ≠ gb1729)
       have NB1729_1679 := am (ng hg BK1679 : gb1729 ≠ gb1679)
       replace BK1679 := kb BK1679 hb
       clear hb hbox hg
       refine hK.out _ _ ⟨bc BK1622, bc BK1622, bc BK1622, bc BK1622, bc BK1623, bc BK1623, bc BK1623⟩ (fun hHeld => ?_)
       clear hK K
       refine nm 17 ?_
       refine og 1 100 [3, 1, 1, 4, 1, 2] Tryz.func45 #[.agg #[.int .i64 a0_0, .string a0_1, .slice A0_2 l0_2.length c0_2, .string a0_3]] (fun K hK => ?_)
       with_reducible refine (laws_toReq.calls kj98 a0_0 a0_1 _ _ l0_2 a0_3 t1704 t1705 t1706 t1709 _ ?side1 ?side2 A141.out).mono ?_
       (case side1 => exact cb HR0_2)
       (case side2 => exact HC0_2.out)
       rintro e w156 ⟨v1707, rfl, ho0, hb⟩
       refine ⟨_, rfl, ?_⟩
       replace HO_1652001 := kr HO_1652001 hb
       replace HO_1652002 := kr HO_1652002 hb
       replace HO_1680001 := kr HO_1680001 hb
       replace HO_1680002 := kr HO_1680002 hb
       have HO1708 := am (Kd.R_lower (Kd.R_new' (Kd.R_new' (Kd.R_new' (Kd.R_new' ho0 (Kd.R_lt (ro HO_1652004))) (Kd.R_lt (ro HO_1659002))) (Kd.R_lt (ro HO_1665001))) (Kd.R_lt (ro HO_1680004))) (below_size bl))
       replace HO_1652004 := am (Kd.R_elder' (ro HO_1652004) (Kd.R_base ho0) hb)
       replace HO_1659002 := am (Kd.R_elder' (ro HO_1659002) (Kd.R_base ho0) hb)
       replace HO_1665001 := am (Kd.R_elder' (ro HO_1665001) (Kd.R_base ho0) hb)
       replace HO_1680004 := am (Kd.R_elder' (ro HO_1680004) (Kd.R_base ho0) hb)
       replace BK1622 := kb BK1622 hb
       replace BK1623 := kb BK1623 hb
       replace BK1651 := kb BK1651 hb
       replace BK1658 := kb BK1658 hb
       replace BK1664 := kb BK1664 hb
       replace BK1679 := kb BK1679 hb
       replace BK1729 := kb BK1729 hb
       replace HB := am (below_step bl hb)
       clear hb ho0
       refine hK.out _ _ ⟨bc BK1622, bc BK1622, bc BK1622, bc BK1622, bc BK1623, bc BK1623, bc BK1623⟩ (fun hHeld => ?_)
       clear hK K
       refine nm 100 ?_
       refine og 3 102 [5, 4, 1, 2] Tryz.func46 #[.agg #[.int .i64 a1_0, .slice A1_1 l1_1.length c1_1, .string a1_2]] (fun K hK => ?_)
       with_reducible refine (laws_toResp.calls kj98 a1_0 _ _ l1_1 a1_2 t1710 t1711 t1714 _ ?side1 ?side2 A142.out).mono ?_
       (case side1 => exact cb HR1_1)
       (case side2 => exact HC1_1.out)
       rintro e w157 ⟨v1712, rfl, ho0, hb⟩
       refine ⟨_, rfl, ?_⟩
       replace HO_1652001 := kr HO_1652001 hb
       replace HO_1652002 := kr HO_1652002 hb
       replace HO_1680001 := kr HO_1680001 hb
       replace HO_1680002 := kr HO_1680002 hb
       have HO1713 := am (Kd.R_lower (Kd.R_new' (Kd.R_new' (Kd.R_new' (Kd.R_new' (Kd.R_new' ho0 (Kd.R_lt (ro HO_1652004))) (Kd.R_lt (ro HO_1659002))) (Kd.R_lt (ro HO_1665001))) (Kd.R_lt (ro HO_1680004))) (Kd.R_lt (ro HO1708))) (below_size bl))
       replace HO_1652004 := am (Kd.R_elder' (ro HO_1652004) (Kd.R_base ho0) hb)
       replace HO_1659002 := am (Kd.R_elder' (ro HO_1659002) (Kd.R_base ho0) hb)
       replace HO_1665001 := am (Kd.R_elder' (ro HO_1665001) (Kd.R_base ho0) hb)
       replace HO_1680004 := am (Kd.R_elder' (ro HO_1680004) (Kd.R_base ho0) hb)
       replace HO1708 := am (Kd.R_elder' (ro HO1708) (Kd.R_base ho0) hb)
       replace BK1622 := kb BK1622 hb
       replace BK1623 := kb BK1623 hb
       replace BK1651 := kb BK1651 hb
       replace BK1658 := kb BK1658 hb
       replace BK1664 := kb BK1664 hb
       replace BK1679 := kb BK1679 hb
       replace BK1729 := kb BK1729 hb
       replace HB := am (below_step bl hb)
       clear hb ho0
       obtain ⟨Ao158, co158, eo158⟩ := Kd.R_slice HO1708.out
       (first | subst eo158 | (injection eo158 with f1_ f2_ f3_; have f4_ := f1_.symm; have f5_ := f3_.symm; clear f1_ f2_ f3_; subst f4_; subst f5_))
       obtain ⟨Ao159, co159, eo159⟩ := Kd.R_slice HO1713.out
       (first | subst eo159 | (injection eo159 with f1_ f2_ f3_; have f4_ := f1_.symm; have f5_ := f3_.symm; clear f1_ f2_ f3_; subst f4_; subst f5_))
       refine hK.out _ _ ⟨bc BK1622, bc BK1622, bc BK1622, bc BK1622, bc BK1623, bc BK1623, bc BK1623⟩ (fun hHeld => ?_)
       clear hK K
       refine nm 102 ?_
       refine og 5 104 [6, 3, 1, 2] Tryz.func47 #[.agg #[.int .i64 t1704, .string t1705, .slice Ao158 t1706.length co158, .string t1709], .agg #[.int .i64 t1710, .slice Ao159 t1711.length co159, .string t1714], .int .i64 a2] (fun K hK => ?_)
       with_reducible refine (impl_ObjOf.calls kj98 t1704 t1705 _ _ t1706 t1709 t1710 _ _ t1711 t1714 a2 t1715 t1716 t1719 t1722 t1723 t1726 t1727 t1728 _ ?side1 ?side2 ?side3 ?side4 ?side5 ?side6 ?side7 A143.out).mono ?_
       (case side1 => exact GLOBE.below HGE.out bl)
       (case side2 => exact GLOBM.below HGM.out bl)
       (case side3 => exact GLOBT.below HGT.out bl)
       (case side4 => exact rc HO1708)
       (case side5 => exact (Kd.R_reads' HO1708.out).2.1)
       (case side6 => exact rc HO1713)
       (case side7 => exact (Kd.R_reads' HO1713.out).2.1)
       rintro e w160 ⟨v1717, v1720, v1724, rfl, ho0, ho1, ho2, hb⟩
       refine ⟨_, rfl, ?_⟩
       have HO1718 := am (Kd.R_lower (Kd.R_new' (Kd.R_new' (Kd.R_new' (Kd.R_new' ho0 (Kd.R_lt (ro HO_1652001))) (Kd.R_lt (ro HO_1652002))) (Kd.R_lt (ro HO_1680001))) (Kd.R_lt (ro HO_1680002))) (below_size bl))
       have HO1721 := am (Kd.R_lower (Kd.R_new' (Kd.R_new' (Kd.R_new' (Kd.R_new' ho1 (Kd.R_lt (ro HO_1652001))) (Kd.R_lt (ro HO_1652002))) (Kd.R_lt (ro HO_1680001))) (Kd.R_lt (ro HO_1680002))) (below_size bl))
       replace HO_1652001 := am (Kd.R_mono (Kd.R_told (Kd.R_told (Kd.R_old (ro HO_1652001) hb) (Kd.R_base ho0)) (Kd.R_base ho1)) (fun _ h_ => h_.1))
       replace HO_1652002 := am (Kd.R_mono (Kd.R_told (Kd.R_told (Kd.R_old (ro HO_1652002) hb) (Kd.R_base ho0)) (Kd.R_base ho1)) (fun _ h_ => h_.1))
       replace HO_1680001 := am (Kd.R_mono (Kd.R_told (Kd.R_told (Kd.R_old (ro HO_1680001) hb) (Kd.R_base ho0)) (Kd.R_base ho1)) (fun _ h_ => h_.1))
       replace HO_1680002 := am (Kd.R_mono (Kd.R_told (Kd.R_told (Kd.R_old (ro HO_1680002) hb) (Kd.R_base ho0)) (Kd.R_base ho1)) (fun _ h_ => h_.1))
       have HO1725 := am (Kd.R_lower (Kd.R_new' (Kd.R_new' (Kd.R_new' (Kd.R_new' (Kd.R_new' (Kd.R_new' ho2 (Kd.R_lt (ro HO_1652004))) (Kd.R_lt (ro HO_1659002))) (Kd.R_lt (ro HO_1665001))) (Kd.R_lt (ro HO_1680004))) (Kd.R_lt (ro HO1708))) (Kd.R_lt (ro HO1713))) (below_size bl))
       replace HO_1652004 := am (Kd.R_elder' (ro HO_1652004) (Kd.R_base ho2) hb)
       replace HO_1659002 := am (Kd.R_elder' (ro HO_1659002) (Kd.R_base ho2) hb)
       replace HO_1665001 := am (Kd.R_elder' (ro HO_1665001) (Kd.R_base ho2) hb)
       replace HO_1680004 := am (Kd.R_elder' (ro HO_1680004) (Kd.R_base ho2) hb)
       replace HO1708 := am (Kd.R_elder' (ro HO1708) (Kd.R_base ho2) hb)
       replace HO1713 := am (Kd.R_elder' (ro HO1713) (Kd.R_base ho2) hb)
       replace BK1622 := kb BK1622 hb
       replace BK1623 := kb BK1623 hb
       replace BK1651 := kb BK1651 hb
       replace BK1658 := kb BK1658 hb
       replace BK1664 := kb BK1664 hb
       replace BK1679 := kb BK1679 hb
       replace BK1729 := kb BK1729 hb
       replace HB := am (below_step bl hb)
       clear hb ho0 ho1 ho2
       refine hK.out _ _ ⟨bc BK1622, bc BK1622, bc BK1622, bc BK1622, bc BK1623, bc BK1623, bc BK1623⟩ (fun hHeld => ?_)
       clear hK K
       refine nm 104 ?_
       refine pu 6 98 [7, 2, 1, 2] ?_
       refine pu 7 105 [8, 1, 1, 2] ?_
       refine pu 8 106 [10, 2] ?_
       exact norm_ (by simp only [putAll, Act.put, List.setIfInBounds_toArray, List.set_cons_zero, List.set_cons_succ]) (hCont (.slice Ao158 t1706.length co158, .slice Ao159 t1711.length co159, v1717, v1720, v1724, gb1729) _ ⟨hHeld, (by (with_reducible repeat (first | apply Kd.R_alloc | apply Kd.R_drewN | apply Kd.R_drew)); exact Kd.R_mono HO1708.out (fun _ hk => ⟨hk.1.2, ⟨hk.2, ⟨hk.1.1.1.1.1.2, ⟨hk.1.1.1.1.2, ⟨hk.1.1.1.2, hk.1.1.2⟩⟩⟩⟩⟩)), (by (with_reducible repeat (first | apply Kd.R_alloc | apply Kd.R_drewN | apply Kd.R_drew)); exact Kd.R_mono HO1713.out (fun _ hk => ⟨hk.1.2, ⟨hk.2, ⟨hk.1.1.1.1.1.2, ⟨hk.1.1.1.1.2, ⟨hk.1.1.1.2, hk.1.1.2⟩⟩⟩⟩⟩)), (by (with_reducible repeat (first | apply Kd.R_alloc | apply Kd.R_drewN | apply Kd.R_drew)); exact Kd.R_mono HO1718.out (fun _ hk => ⟨hk.1.1.1.1, ⟨hk.1.1.1.2, ⟨hk.1.1.2, ⟨hk.1.2, hk.2⟩⟩⟩⟩)), (by (with_reducible repeat (first | apply Kd.R_alloc | apply Kd.R_drewN | apply Kd.R_drew)); exact Kd.R_mono HO1721.out (fun _ hk => ⟨hk.1.1.1.1, ⟨hk.1.1.1.2, ⟨hk.1.1.2, ⟨hk.1.2, hk.2⟩⟩⟩⟩)), (by (with_reducible repeat (first | apply Kd.R_alloc | apply Kd.R_drewN | apply Kd.R_drew)); exact Kd.R_mono HO1725.out (fun _ hk => ⟨hk.1.2, ⟨hk.2, ⟨hk.1.1.1.1.1.2, ⟨hk.1.1.1.1.2, ⟨hk.1.1.1.2, hk.1.1.2⟩⟩⟩⟩⟩)), (by (with_reducible repeat (first | apply Kd.R_alloc | apply Kd.R_drewN | apply Kd.R_drew)); exact Kd.R_mono HO_1652001.out (fun _ hk => ⟨hk.1.2, ⟨hk.2, ⟨hk.1.1.1, ⟨hk.1.1.2.1, hk.1.1.2.2⟩⟩⟩⟩)), (by (with_reducible repeat (first | apply Kd.R_alloc | apply Kd.R_drewN | apply Kd.R_drew)); exact Kd.R_mono HO_1652002.out (fun _ hk => ⟨hk.1.2, ⟨hk.2, ⟨hk.1.1.1, ⟨hk.1.1.2.1, hk.1.1.2.2⟩⟩⟩⟩)), (by (with_reducible repeat (first | apply Kd.R_alloc | apply Kd.R_drewN | apply Kd.R_drew)); exact Kd.R_mono HO_1652004.out (fun _ hk => ⟨hk.1.1.2, ⟨hk.1.2, ⟨hk.2, ⟨hk.1.1.1.1, ⟨hk.1.1.1.2.1, hk.1.1.1.2.2⟩⟩⟩⟩⟩)), (by (with_reducible repeat (first | apply Kd.R_alloc | apply Kd.R_drewN | apply Kd.R_drew)); exact Kd.R_mono HO_1659002.out (fun _ hk => ⟨hk.1.1.2, ⟨hk.1.2, ⟨hk.2, ⟨hk.1.1.1.1, ⟨hk.1.1.1.2.1, hk.1.1.1.2.2⟩⟩⟩⟩⟩)), (by (with_reducible repeat (first | apply Kd.R_alloc | apply Kd.R_drewN | apply Kd.R_drew)); exact Kd.R_mono HO_1665001.out (fun _ hk => ⟨hk.1.1.2, ⟨hk.1.2, ⟨hk.2, ⟨hk.1.1.1.1, ⟨hk.1.1.1.2.1, hk.1.1.1.2.2⟩⟩⟩⟩⟩)), (by (with_reducible repeat (first | apply Kd.R_alloc | apply Kd.R_drewN | apply Kd.R_drew)); exact Kd.R_mono HO_1680001.out (fun _ hk => ⟨hk.1.2, ⟨hk.2, ⟨hk.1.1.1, ⟨hk.1.1.2.1, hk.1.1.2.2⟩⟩⟩⟩)), (by (with_reducible repeat (first | apply Kd.R_alloc | apply Kd.R_drewN | apply Kd.R_drew)); exact Kd.R_mono HO_1680002.out (fun _ hk => ⟨hk.1.2, ⟨hk.2, ⟨hk.1.1.1, ⟨hk.1.1.2.1, hk.1.1.2.2⟩⟩⟩⟩)), (by (with_reducible repeat (first | apply Kd.R_alloc | apply Kd.R_drewN | apply Kd.R_drew)); exact Kd.R_mono HO_1680004.out (fun _ hk => ⟨hk.1.1.2, ⟨hk.1.2, ⟨hk.2, ⟨hk.1.1.1.1, ⟨hk.1.1.1.2.1, hk.1.1.1.2.2⟩⟩⟩⟩⟩)), (bk BK1622), (bk BK1623), (bk BK1651), (bk BK1658), (bk BK1664), (bk BK1679), (bk BK1729), GW1729.out, GE1729.out, NB1622_1729.out, NB1729_1622.out, NB1623_1729.out, NB1729_1623.out, NB1651_1729.out, NB1729_1651.out, NB1658_1729.out, NB1729_1658.out, NB1664_1729.out, NB1729_1664.out, NB1679_1729.out, NB1729_1679.out, bl⟩)
     rintro ⟨v1707, v1712, v1717, v1720, v1724, gb1729⟩ w161 ⟨hS_, h0_, h1_, h2_, h3_, h4_, h5_, h6_, h7_, h8_, h9_, h10_, h11_, h12_, h13_, h14_, h15_, h16_, h17_, h18_, h19_, h20_, h21_, h22_, h23_, h24_, h25_, h26_, h27_, h28_, h29_, h30_, h31_, h32_, h33_, h34_⟩
     have n0_ : Aside0 (Kd.R k116 116 w161 w.heap.size (fun k_ => some k_ ≠ (v1712 : Value).ownBlock ∧ some k_ ≠ (v1724 : Value).ownBlock ∧ some k_ ≠ (.slice Ao41 t1645.length co41 : Value).ownBlock ∧ some k_ ≠ (.slice Ao53 t1695.length co53 : Value).ownBlock ∧ some k_ ≠ (.slice Ao63 t1697.length co63 : Value).ownBlock ∧ some k_ ≠ (.slice Ao75 t1673.length co75 : Value).ownBlock) v1707 t1706) := ⟨h0_⟩
     have n1_ : Aside0 (Kd.R k116 116 w161 w.heap.size (fun k_ => some k_ ≠ (v1707 : Value).ownBlock ∧ some k_ ≠ (v1724 : Value).ownBlock ∧ some k_ ≠ (.slice Ao41 t1645.length co41 : Value).ownBlock ∧ some k_ ≠ (.slice Ao53 t1695.length co53 : Value).ownBlock ∧ some k_ ≠ (.slice Ao63 t1697.length co63 : Value).ownBlock ∧ some k_ ≠ (.slice Ao75 t1673.length co75 : Value).ownBlock) v1712 t1711) := ⟨h1_⟩
     have n2_ : Aside0 (Kd.R Kd.string 9 w161 w.heap.size (fun k_ => some k_ ≠ (v1720 : Value).ownBlock ∧ some k_ ≠ (.slice Ao36 t1638.length co36 : Value).ownBlock ∧ some k_ ≠ (.slice Ao38 t1641.length co38 : Value).ownBlock ∧ some k_ ≠ (.slice Ao73 t1666.length co73 : Value).ownBlock ∧ some k_ ≠ (.slice Ao74 t1669.length co74 : Value).ownBlock) v1717 t1716) := ⟨h2_⟩
     have n3_ : Aside0 (Kd.R Kd.string 9 w161 w.heap.size (fun k_ => some k_ ≠ (v1717 : Value).ownBlock ∧ some k_ ≠ (.slice Ao36 t1638.length co36 : Value).ownBlock ∧ some k_ ≠ (.slice Ao38 t1641.length co38 : Value).ownBlock ∧ some k_ ≠ (.slice Ao73 t1666.length co73 : Value).ownBlock ∧ some k_ ≠ (.slice Ao74 t1669.length co74 : Value).ownBlock) v1720 t1719) := ⟨h3_⟩
     have n4_ : Aside0 (Kd.R k116 116 w161 w.heap.size (fun k_ => some k_ ≠ (v1707 : Value).ownBlock ∧ some k_ ≠ (v1712 : Value).ownBlock ∧ some k_ ≠ (.slice Ao41 t1645.length co41 : Value).ownBlock ∧ some k_ ≠ (.slice Ao53 t1695.length co53 : Value).ownBlock ∧ some k_ ≠ (.slice Ao63 t1697.length co63 : Value).ownBlock ∧ some k_ ≠ (.slice Ao75 t1673.length co75 : Value).ownBlock) v1724 t1723) := ⟨h4_⟩
     have n5_ : Aside0 (Kd.R Kd.string 9 w161 w.heap.size (fun k_ => some k_ ≠ (v1717 : Value).ownBlock ∧ some k_ ≠ (v1720 : Value).ownBlock ∧ some k_ ≠ (.slice Ao38 t1641.length co38 : Value).ownBlock ∧ some k_ ≠ (.slice Ao73 t1666.length co73 : Value).ownBlock ∧ some k_ ≠ (.slice Ao74 t1669.length co74 : Value).ownBlock) (.slice Ao36 t1638.length co36) t1638) := ⟨h5_⟩
     have n6_ : Aside0 (Kd.R Kd.string 9 w161 w.heap.size (fun k_ => some k_ ≠ (v1717 : Value).ownBlock ∧ some k_ ≠ (v1720 : Value).ownBlock ∧ some k_ ≠ (.slice Ao36 t1638.length co36 : Value).ownBlock ∧ some k_ ≠ (.slice Ao73 t1666.length co73 : Value).ownBlock ∧ some k_ ≠ (.slice Ao74 t1669.length co74 : Value).ownBlock) (.slice Ao38 t1641.length co38) t1641) := ⟨h6_⟩
     have n7_ : Aside0 (Kd.R k116 116 w161 w.heap.size (fun k_ => some k_ ≠ (v1707 : Value).ownBlock ∧ some k_ ≠ (v1712 : Value).ownBlock ∧ some k_ ≠ (v1724 : Value).ownBlock ∧ some k_ ≠ (.slice Ao53 t1695.length co53 : Value).ownBlock ∧ some k_ ≠ (.slice Ao63 t1697.length co63 : Value).ownBlock ∧ some k_ ≠ (.slice Ao75 t1673.length co75 : Value).ownBlock) (.slice Ao41 t1645.length co41) t1645) := ⟨h7_⟩
     have n8_ : Aside0 (Kd.R k116 116 w161 w.heap.size (fun k_ => some k_ ≠ (v1707 : Value).ownBlock ∧ some k_ ≠ (v1712 : Value).ownBlock ∧ some k_ ≠ (v1724 : Value).ownBlock ∧ some k_ ≠ (.slice Ao41 t1645.length co41 : Value).ownBlock ∧ some k_ ≠ (.slice Ao63 t1697.length co63 : Value).ownBlock ∧ some k_ ≠ (.slice Ao75 t1673.length co75 : Value).ownBlock) (.slice Ao53 t1695.length co53) t1695) := ⟨h8_⟩
     have n9_ : Aside0 (Kd.R k116 116 w161 w.heap.size (fun k_ => some k_ ≠ (v1707 : Value).ownBlock ∧ some k_ ≠ (v1712 : Value).ownBlock ∧ some k_ ≠ (v1724 : Value).ownBlock ∧ some k_ ≠ (.slice Ao41 t1645.length co41 : Value).ownBlock ∧ some k_ ≠ (.slice Ao53 t1695.length co53 : Value).ownBlock ∧ some k_ ≠ (.slice Ao75 t1673.length co75 : Value).ownBlock) (.slice Ao63 t1697.length co63) t1697) := ⟨h9_⟩
     have n10_ : Aside0 (Kd.R Kd.string 9 w161 w.heap.size (fun k_ => some k_ ≠ (v1717 : Value).ownBlock ∧ some k_ ≠ (v1720 : Value).ownBlock ∧ some k_ ≠ (.slice Ao36 t1638.length co36 : Value).ownBlock ∧ some k_ ≠ (.slice Ao38 t1641.length co38 : Value).ownBlock ∧ some k_ ≠ (.slice Ao74 t1669.length co74 : Value).ownBlock) (.slice Ao73 t1666.length co73) t1700) := ⟨h10_⟩
     have n11_ : Aside0 (Kd.R Kd.string 9 w161 w.heap.size (fun k_ => some k_ ≠ (v1717 : Value).ownBlock ∧ some k_ ≠ (v1720 : Value).ownBlock ∧ some k_ ≠ (.slice Ao36 t1638.length co36 : Value).ownBlock ∧ some k_ ≠ (.slice Ao38 t1641.length co38 : Value).ownBlock ∧ some k_ ≠ (.slice Ao73 t1666.length co73 : Value).ownBlock) (.slice Ao74 t1669.length co74) t1701) := ⟨h11_⟩
     have n12_ : Aside0 (Kd.R k116 116 w161 w.heap.size (fun k_ => some k_ ≠ (v1707 : Value).ownBlock ∧ some k_ ≠ (v1712 : Value).ownBlock ∧ some k_ ≠ (v1724 : Value).ownBlock ∧ some k_ ≠ (.slice Ao41 t1645.length co41 : Value).ownBlock ∧ some k_ ≠ (.slice Ao53 t1695.length co53 : Value).ownBlock ∧ some k_ ≠ (.slice Ao63 t1697.length co63 : Value).ownBlock) (.slice Ao75 t1673.length co75) t1702) := ⟨h12_⟩
     have n13_ : Aside0 (w161.heap[gb1622]? = some (.cells #[.int .i64 a0_0, .string a0_1, .slice A0_2 l0_2.length c0_2, .string a0_3] 67 (0, 0))) := ⟨h13_⟩
     have n14_ : Aside0 (w161.heap[gb1623]? = some (.cells #[.int .i64 a1_0, .slice A1_1 l1_1.length c1_1, .string a1_2] 69 (0, 0))) := ⟨h14_⟩
     have n15_ : Aside0 (w161.heap[gb1651]? = some (.cells #[.string t1637, .slice Ao36 t1638.length co36, .slice Ao38 t1641.length co38, .int .i64 t1644, .slice Ao41 t1645.length co41, .string t1648, .int .i64 t1649] 31 (0, 0))) := ⟨h15_⟩
     have n16_ : Aside0 (w161.heap[gb1658]? = some (.cells #[.int .i64 t1652, .string t1653, .slice Ao53 t1695.length co53, .string t1657] 50 (0, 0))) := ⟨h16_⟩
     have n17_ : Aside0 (w161.heap[gb1664]? = some (.cells #[.int .i64 t1659, .slice Ao63 t1697.length co63, .string t1663] 29 (0, 0))) := ⟨h17_⟩
     have n18_ : Aside0 (w161.heap[gb1679]? = some (.cells #[.string t1665, .slice Ao73 t1666.length co73, .slice Ao74 t1669.length co74, .int .i64 t1672, .slice Ao75 t1673.length co75, .string t1676, .int .i64 t1677] 31 (0, 0))) := ⟨h18_⟩
     have n19_ : Aside0 (w161.heap[gb1729]? = some (.cells #[.string (⟨#[]⟩ : ByteArray), .slice none 0 0, .slice none 0 0, .int .i64 0, .slice none 0 0, .string (⟨#[]⟩ : ByteArray), .int .i64 0] 31 (0, 0))) := ⟨h19_⟩
     have n20_ : Aside0 (w.heap.size ≤ gb1729) := ⟨h20_⟩
     have n21_ : Aside0 (w.heap.size ≤ gb1729) := ⟨h21_⟩
     have n22_ : Aside0 (gb1622 ≠ gb1729) := ⟨h22_⟩
     have n23_ : Aside0 (gb1729 ≠ gb1622) := ⟨h23_⟩
     have n24_ : Aside0 (gb1623 ≠ gb1729) := ⟨h24_⟩
     have n25_ : Aside0 (gb1729 ≠ gb1623) := ⟨h25_⟩
     have n26_ : Aside0 (gb1651 ≠ gb1729) := ⟨h26_⟩
     have n27_ : Aside0 (gb1729 ≠ gb1651) := ⟨h27_⟩
     have n28_ : Aside0 (gb1658 ≠ gb1729) := ⟨h28_⟩
     have n29_ : Aside0 (gb1729 ≠ gb1658) := ⟨h29_⟩
     have n30_ : Aside0 (gb1664 ≠ gb1729) := ⟨h30_⟩
     have n31_ : Aside0 (gb1729 ≠ gb1664) := ⟨h31_⟩
     have n32_ : Aside0 (gb1679 ≠ gb1729) := ⟨h32_⟩
     have n33_ : Aside0 (gb1729 ≠ gb1679) := ⟨h33_⟩
     have n34_ : Aside0 (Below w.heap.size w w161) := ⟨h34_⟩
     clear HO_1652001
     clear HO_1652002
     clear HO_1652004
     clear HO_1659002
     clear HO_1665001
     clear HO_1680001
     clear HO_1680002
     clear HO_1680004
     clear BK1622
     clear BK1623
     clear BK1651
     clear BK1658
     clear BK1664
     clear BK1679
     clear HB
     clear h0_ h1_ h2_ h3_ h4_ h5_ h6_ h7_ h8_ h9_ h10_ h11_ h12_ h13_ h14_ h15_ h16_ h17_ h18_ h19_ h20_ h21_ h22_ h23_ h24_ h25_ h26_ h27_ h28_ h29_ h30_ h31_ h32_ h33_ h34_
     have HO1708 := n0_
     have HO1713 := n1_
     have HO1718 := n2_
     have HO1721 := n3_
     have HO1725 := n4_
     have HO_1652001 := n5_
     have HO_1652002 := n6_
     have HO_1652004 := n7_
     have HO_1659002 := n8_
     have HO_1665001 := n9_
     have HO_1680001 := n10_
     have HO_1680002 := n11_
     have HO_1680004 := n12_
     have BK1622 := n13_
     have BK1623 := n14_
     have BK1651 := n15_
     have BK1658 := n16_
     have BK1664 := n17_
     have BK1679 := n18_
     have BK1729 := n19_
     have GW1729 := n20_
     have GE1729 := n21_
     have NB1622_1729 := n22_
     have NB1729_1622 := n23_
     have NB1623_1729 := n24_
     have NB1729_1623 := n25_
     have NB1651_1729 := n26_
     have NB1729_1651 := n27_
     have NB1658_1729 := n28_
     have NB1729_1658 := n29_
     have NB1664_1729 := n30_
     have NB1729_1664 := n31_
     have NB1679_1729 := n32_
     have NB1729_1679 := n33_
     have HB := n34_
     clear n0_ n1_ n2_ n3_ n4_ n5_ n6_ n7_ n8_ n9_ n10_ n11_ n12_ n13_ n14_ n15_ n16_ n17_ n18_ n19_ n20_ n21_ n22_ n23_ n24_ n25_ n26_ n27_ n28_ n29_ n30_ n31_ n32_ n33_ n34_
     have hHeld : w161.cell? ⟨gb1622, 0, none⟩ = some (.int .i64 a0_0) ∧ w161.cell? ⟨gb1622, 1, none⟩ = some (.string a0_1) ∧ w161.cell? ⟨gb1622, 2, none⟩ = some (.slice A0_2 l0_2.length c0_2) ∧ w161.cell? ⟨gb1622, 3, none⟩ = some (.string a0_3) ∧ w161.cell? ⟨gb1623, 0, none⟩ = some (.int .i64 a1_0) ∧ w161.cell? ⟨gb1623, 1, none⟩ = some (.slice A1_1 l1_1.length c1_1) ∧ w161.cell? ⟨gb1623, 2, none⟩ = some (.string a1_2) := hS_
     obtain ⟨Ao163, co163, eo163⟩ := Kd.R_slice HO1718.out
     (first | subst eo163 | (injection eo163 with f1_ f2_ f3_; have f4_ := f1_.symm; have f5_ := f3_.symm; clear f1_ f2_ f3_; subst f4_; subst f5_))
     obtain ⟨Ao165, co165, eo165⟩ := Kd.R_slice HO1721.out
     (first | subst eo165 | (injection eo165 with f1_ f2_ f3_; have f4_ := f1_.symm; have f5_ := f3_.symm; clear f1_ f2_ f3_; subst f4_; subst f5_))
     obtain ⟨Ao168, co168, eo168⟩ := Kd.R_slice HO1725.out
     (first | subst eo168 | (injection eo168 with f1_ f2_ f3_; have f4_ := f1_.symm; have f5_ := f3_.symm; clear f1_ f2_ f3_; subst f4_; subst f5_))
     refine norm_ (a' := ?_) ?_ ?_
     rotate_left
     ·simp only [putAll, Act.put, List.setIfInBounds_toArray, List.set_cons_zero, List.set_cons_succ]
      rfl
     refine one_ (i := 10) (N := none) #[true, true, true, true, true, true, true, true, true, true, true, false] rfl rfl (one_of HT_.out (by kernel_rfl)) (by decide) (fun K hK => ?_)
     have hs162 : w161.cell? ⟨gb1729, 0, none⟩ = some (.string (⟨#[]⟩ : ByteArray)) := bc BK1729
     have hfs162 := blk_frozen BK1729.out 0
     have hns162_0 := NB1622_1729.out
     have hns162_1 := NB1623_1729.out
     have hns162_2 := NB1651_1729.out
     have hns162_3 := NB1658_1729.out
     have hns162_4 := NB1664_1729.out
     have hns162_5 := NB1679_1729.out
     have hms162_0 := NB1729_1622.out
     have hms162_1 := NB1729_1623.out
     have hms162_2 := NB1729_1651.out
     have hms162_3 := NB1729_1658.out
     have hms162_4 := NB1729_1664.out
     have hms162_5 := NB1729_1679.out
     have hs164 : w161.cell? ⟨gb1729, 1, none⟩ = some (.slice none 0 0) := bc BK1729
     have hfs164 := blk_frozen BK1729.out 1
     have hns164_0 := NB1622_1729.out
     have hns164_1 := NB1623_1729.out
     have hns164_2 := NB1651_1729.out
     have hns164_3 := NB1658_1729.out
     have hns164_4 := NB1664_1729.out
     have hns164_5 := NB1679_1729.out
     have hms164_0 := NB1729_1622.out
     have hms164_1 := NB1729_1623.out
     have hms164_2 := NB1729_1651.out
     have hms164_3 := NB1729_1658.out
     have hms164_4 := NB1729_1664.out
     have hms164_5 := NB1729_1679.out
     have hs166 : w161.cell? ⟨gb1729, 2, none⟩ = some (.slice none 0 0) := bc BK1729
     have hfs166 := blk_frozen BK1729.out 2
     have hns166_0 := NB1622_1729.out
     have hns166_1 := NB1623_1729.out
     have hns166_2 := NB1651_1729.out
     have hns166_3 := NB1658_1729.out
     have hns166_4 := NB1664_1729.out
     have hns166_5 := NB1679_1729.out
     have hms166_0 := NB1729_1622.out
     have hms166_1 := NB1729_1623.out
     have hms166_2 := NB1729_1651.out
     have hms166_3 := NB1729_1658.out
     have hms166_4 := NB1729_1664.out
     have hms166_5 := NB1729_1679.out
     have hs167 : w161.cell? ⟨gb1729, 3, none⟩ = some (.int .i64 0) := bc BK1729
     have hfs167 := blk_frozen BK1729.out 3
     have hns167_0 := NB1622_1729.out
     have hns167_1 := NB1623_1729.out
     have hns167_2 := NB1651_1729.out
     have hns167_3 := NB1658_1729.out
     have hns167_4 := NB1664_1729.out
     have hns167_5 := NB1679_1729.out
     have hms167_0 := NB1729_1622.out
     have hms167_1 := NB1729_1623.out
     have hms167_2 := NB1729_1651.out
     have hms167_3 := NB1729_1658.out
     have hms167_4 := NB1729_1664.out
     have hms167_5 := NB1729_1679.out
     have hs169 : w161.cell? ⟨gb1729, 4, none⟩ = some (.slice none 0 0) := bc BK1729
     have hfs169 := blk_frozen BK1729.out 4
     have hns169_0 := NB1622_1729.out
     have hns169_1 := NB1623_1729.out
     have hns169_2 := NB1651_1729.out
     have hns169_3 := NB1658_1729.out
     have hns169_4 := NB1664_1729.out
     have hns169_5 := NB1679_1729.out
     have hms169_0 := NB1729_1622.out
     have hms169_1 := NB1729_1623.out
     have hms169_2 := NB1729_1651.out
     have hms169_3 := NB1729_1658.out
     have hms169_4 := NB1729_1664.out
     have hms169_5 := NB1729_1679.out
     have hs170 : w161.cell? ⟨gb1729, 5, none⟩ = some (.string (⟨#[]⟩ : ByteArray)) := bc BK1729
     have hfs170 := blk_frozen BK1729.out 5
     have hns170_0 := NB1622_1729.out
     have hns170_1 := NB1623_1729.out
     have hns170_2 := NB1651_1729.out
     have hns170_3 := NB1658_1729.out
     have hns170_4 := NB1664_1729.out
     have hns170_5 := NB1679_1729.out
     have hms170_0 := NB1729_1622.out
     have hms170_1 := NB1729_1623.out
     have hms170_2 := NB1729_1651.out
     have hms170_3 := NB1729_1658.out
     have hms170_4 := NB1729_1664.out
     have hms170_5 := NB1729_1679.out
     have hs171 : w161.cell? ⟨gb1729, 6, none⟩ = some (.int .i64 0) := bc BK1729
     have hfs171 := blk_frozen BK1729.out 6
     have hns171_0 := NB1622_1729.out
     have hns171_1 := NB1623_1729.out
     have hns171_2 := NB1651_1729.out
     have hns171_3 := NB1658_1729.out
     have hns171_4 := NB1664_1729.out
     have hns171_5 := NB1679_1729.out
     have hms171_0 := NB1729_1622.out
     have hms171_1 := NB1729_1623.out
     have hms171_2 := NB1729_1651.out
     have hms171_3 := NB1729_1658.out
     have hms171_4 := NB1729_1664.out
     have hms171_5 := NB1729_1679.out
     refine skip_ (w1 := ?_) (by rfl) rfl ?_ ?_
     rotate_left
     ·go_simp
      rfl
     refine hK.out _ _ (by (refine ⟨?_, ?_, ?_, ?_, ?_, ?_, ?_⟩ <;> (with_reducible repeat (refine Eq.trans (cell_far ?hfar _) ?_; (case hfar => first | exact NB1622_1729.out | exact NB1623_1729.out)))); exact hHeld.1; exact hHeld.2.1; exact hHeld.2.2.1; exact hHeld.2.2.2.1; exact hHeld.2.2.2.2.1; exact hHeld.2.2.2.2.2.1; exact hHeld.2.2.2.2.2.2) (fun hHeld => ?_)
     clear hK K
     refine pu 11 18 [12] ?_
     refine done_ (done_of HT_.out (by kernel_rfl)) ?_
     go_upto_region 32 with (fail)
     go_cut [115] (fun v115 wc => ∃ (kq : Nat) (x115_143 : Bool), v115 = .bool x115_143 ∧ Aside0 (laws_FnExactObjOf.j2 kq t1699 x115_143 t1665 t1700 t1701 t1672 t1702 t1676 t1677 = some r) ∧ Aside0 (kq ≤ kj98) ∧ Aside0 (Kd.R Kd.string 9 wc w.heap.size (fun k_ => some k_ ≠ ((.slice Ao38 t1641.length co38) : Value).ownBlock ∧ some k_ ≠ ((.slice Ao73 t1666.length co73) : Value).ownBlock ∧ some k_ ≠ ((.slice Ao74 t1669.length co74) : Value).ownBlock ∧ some k_ ≠ ((.slice Ao163 t1716.length co163) : Value).ownBlock ∧ some k_ ≠ ((.slice Ao165 t1719.length co165) : Value).ownBlock) (.slice Ao36 t1638.length co36) t1638) ∧ Aside0 (Kd.R Kd.string 9 wc w.heap.size (fun k_ => some k_ ≠ ((.slice Ao36 t1638.length co36) : Value).ownBlock ∧ some k_ ≠ ((.slice Ao73 t1666.length co73) : Value).ownBlock ∧ some k_ ≠ ((.slice Ao74 t1669.length co74) : Value).ownBlock ∧ some k_ ≠ ((.slice Ao163 t1716.length co163) : Value).ownBlock ∧ some k_ ≠ ((.slice Ao165 t1719.length co165) : Value).ownBlock) (.slice Ao38 t1641.length co38) t1641) ∧ Aside0 (Kd.R k116 116 wc w.heap.size (fun k_ => some k_ ≠ ((.slice Ao53 t1695.length co53) : Value).ownBlock ∧ some k_ ≠ ((.slice Ao63 t1697.length co63) : Value).ownBlock ∧ some k_ ≠ ((.slice Ao75 t1673.length co75) : Value).ownBlock ∧ some k_ ≠ ((.slice Ao168 t1723.length co168) : Value).ownBlock) (.slice Ao41 t1645.length co41) t1645) ∧ Aside0 (Kd.R k116 116 wc w.heap.size (fun k_ => some k_ ≠ ((.slice Ao41 t1645.length co41) : Value).ownBlock ∧ some k_ ≠ ((.slice Ao63 t1697.length co63) : Value).ownBlock ∧ some k_ ≠ ((.slice Ao75 t1673.length co75) : Value).ownBlock ∧ some k_ ≠ ((.slice Ao168 t1723.length co168) : Value).ownBlock) (.slice Ao53 t1695.length co53) t1695) ∧ Aside0 (Kd.R k116 116 wc w.heap.size (fun k_ => some k_ ≠ ((.slice Ao41 t1645.length co41) : Value).ownBlock ∧ some k_ ≠ ((.slice Ao53 t1695.length co53) : Value).ownBlock ∧ some k_ ≠ ((.slice Ao75 t1673.length co75) : Value).ownBlock ∧ some k_ ≠ ((.slice Ao168 t1723.length co168) : Value).ownBlock) (.slice Ao63 t1697.length co63) t1697) ∧ Aside0 (Kd.R Kd.string 9 wc w.heap.size (fun k_ => some k_ ≠ ((.slice Ao36 t1638.length co36) : Value).ownBlock ∧ some k_ ≠ ((.slice Ao38 t1641.length co38) : Value).ownBlock ∧ some k_ ≠ ((.slice Ao74 t1669.length co74) : Value).ownBlock ∧ some k_ ≠ ((.slice Ao163 t1716.length co163) : Value).ownBlock ∧ some k_ ≠ ((.slice Ao165 t1719.length co165) : Value).ownBlock) (.slice Ao73 t1666.length co73) t1700) ∧ Aside0 (Kd.R Kd.string 9 wc w.heap.size (fun k_ => some k_ ≠ ((.slice Ao36 t1638.length co36) : Value).ownBlock ∧ some k_ ≠ ((.slice Ao38 t1641.length co38) : Value).ownBlock ∧ some k_ ≠ ((.slice Ao73 t1666.length co73) : Value).ownBlock ∧ some k_ ≠ ((.slice Ao163 t1716.length co163) : Value).ownBlock ∧ some k_ ≠ ((.slice Ao165 t1719.length co165) : Value).ownBlock) (.slice Ao74 t1669.length co74) t1701) ∧ Aside0 (Kd.R k116 116 wc w.heap.size (fun k_ => some k_ ≠ ((.slice Ao41 t1645.length co41) : Value).ownBlock ∧ some k_ ≠ ((.slice Ao53 t1695.length co53) : Value).ownBlock ∧ some k_ ≠ ((.slice Ao63 t1697.length co63) : Value).ownBlock ∧ some k_ ≠ ((.slice Ao168 t1723.length co168) : Value).ownBlock) (.slice Ao75 t1673.length co75) t1702) ∧ Aside0 (Kd.R Kd.string 9 wc w.heap.size (fun k_ => some k_ ≠ ((.slice Ao36 t1638.length co36) : Value).ownBlock ∧ some k_ ≠ ((.slice Ao38 t1641.length co38) : Value).ownBlock ∧ some k_ ≠ ((.slice Ao73 t1666.length co73) : Value).ownBlock ∧ some k_ ≠ ((.slice Ao74 t1669.length co74) : Value).ownBlock ∧ some k_ ≠ ((.slice Ao165 t1719.length co165) : Value).ownBlock) (.slice Ao163 t1716.length co163) t1716) ∧ Aside0 (Kd.R Kd.string 9 wc w.heap.size (fun k_ => some k_ ≠ ((.slice Ao36 t1638.length co36) : Value).ownBlock ∧ some k_ ≠ ((.slice Ao38 t1641.length co38) : Value).ownBlock ∧ some k_ ≠ ((.slice Ao73 t1666.length co73) : Value).ownBlock ∧ some k_ ≠ ((.slice Ao74 t1669.length co74) : Value).ownBlock ∧ some k_ ≠ ((.slice Ao163 t1716.length co163) : Value).ownBlock) (.slice Ao165 t1719.length co165) t1719) ∧ Aside0 (Kd.R k116 116 wc w.heap.size (fun k_ => some k_ ≠ ((.slice Ao41 t1645.length co41) : Value).ownBlock ∧ some k_ ≠ ((.slice Ao53 t1695.length co53) : Value).ownBlock ∧ some k_ ≠ ((.slice Ao63 t1697.length co63) : Value).ownBlock ∧ some k_ ≠ ((.slice Ao75 t1673.length co75) : Value).ownBlock) (.slice Ao168 t1723.length co168) t1723) ∧ Aside0 (wc.heap[gb1622]? = some (.cells #[.int .i64 a0_0, .string a0_1, (.slice A0_2 l0_2.length c0_2), .string a0_3] 67 (0, 0))) ∧ Aside0 (wc.heap[gb1623]? = some (.cells #[.int .i64 a1_0, (.slice A1_1 l1_1.length c1_1), .string a1_2] 69 (0, 0))) ∧ Aside0 (wc.heap[gb1651]? = some (.cells #[.string t1637, (.slice Ao36 t1638.length co36), (.slice Ao38 t1641.length co38), .int .i64 t1644, (.slice Ao41 t1645.length co41), .string t1648, .int .i64 t1649] 31 (0, 0))) ∧ Aside0 (wc.heap[gb1658]? = some (.cells #[.int .i64 t1652, .string t1653, (.slice Ao53 t1695.length co53), .string t1657] 50 (0, 0))) ∧ Aside0 (wc.heap[gb1664]? = some (.cells #[.int .i64 t1659, (.slice Ao63 t1697.length co63), .string t1663] 29 (0, 0))) ∧ Aside0 (wc.heap[gb1679]? = some (.cells #[.string t1665, (.slice Ao73 t1666.length co73), (.slice Ao74 t1669.length co74), .int .i64 t1672, (.slice Ao75 t1673.length co75), .string t1676, .int .i64 t1677] 31 (0, 0))) ∧ Aside0 (wc.heap[gb1729]? = some (.cells #[.string t1715, (.slice Ao163 t1716.length co163), (.slice Ao165 t1719.length co165), .int .i64 t1722, (.slice Ao168 t1723.length co168), .string t1726, .int .i64 t1727] 31 (0, 0))) ∧ Aside0 (Below w.heap.size w wc))
     case first =>
      have H := HC144.out
      clear HC144
      revert H
      refine ok1 fun t1730 A172 H => ?_
      by_cases c173 : t1730 = true
      rotate_left
      ·replace c173 := Bool.eq_false_iff.mpr c173
       subst c173
       rw [if_neg (show ¬ (false = true) by decide)] at H
       cases kj98 with
       | zero => exact absurd H (by simp [laws_FnExactObjOf.j2])
       | succ k_ => simp only [laws_FnExactObjOf.j2, if_true] at H; exact absurd (Option.some.inj H) (by rw [ht_]; decide)
      subst c173
      rw [if_pos rfl] at H
      have H' := am H
      clear H
      have hnb174 := NB1729_1622.out
      have hnc174 := NB1622_1729.out
      have hnb175 := NB1729_1623.out
      have hnc175 := NB1623_1729.out
      have hnb176 := NB1729_1651.out
      have hnc176 := NB1651_1729.out
      have hnb177 := NB1729_1658.out
      have hnc177 := NB1658_1729.out
      have hnb178 := NB1729_1664.out
      have hnc178 := NB1664_1729.out
      have hnb179 := NB1729_1679.out
      have hnc179 := NB1679_1729.out
      obtain ⟨z180_0, y180_0, z180_1, y180_1, z180_2, y180_2, z180_3, y180_3, z180_4, y180_4, z180_5, y180_5, z180_6, y180_6⟩ := cl7 BK1729
      have hnb181 := NB1651_1622.out
      have hnc181 := NB1622_1651.out
      have hnb182 := NB1651_1623.out
      have hnc182 := NB1623_1651.out
      have hnb183 := NB1651_1658.out
      have hnc183 := NB1658_1651.out
      have hnb184 := NB1651_1664.out
      have hnc184 := NB1664_1651.out
      have hnb185 := NB1651_1679.out
      have hnc185 := NB1679_1651.out
      obtain ⟨z186_0, y186_0, z186_1, y186_1, z186_2, y186_2, z186_3, y186_3, z186_4, y186_4, z186_5, y186_5, z186_6, y186_6⟩ := cl7 BK1651
      go_wp2_with ((with_reducible refine gw ?_); first | (refine gl 109 Tryz.func39 #[.agg #[.string t1715, .slice Ao163 t1716.length co163, .slice Ao165 t1719.length co165, .int .i64 t1722, .slice Ao168 t1723.length co168, .string t1726, .int .i64 t1727], .agg #[.string t1637, .slice Ao36 t1638.length co36, .slice Ao38 t1641.length co38, .int .i64 t1644, .slice Ao41 t1645.length co41, .string t1648, .int .i64 t1649]] ?_; (with_reducible refine (laws_eqObj.calls kj98 t1715 _ _ t1716 _ _ t1719 t1722 _ _ t1723 t1726 t1727 t1637 _ _ t1638 _ _ t1641 t1644 _ _ t1645 t1648 t1649 true _ ?side1 ?side2 ?side3 ?side4 ?side5 ?side6 ?side7 ?side8 ?side9 ?side10 ?side11 ?side12 A172.out).mono ?_); (case side1 => refine (Kd.R_reads' (e := 9) (base := w.heap.size) (ok := fun k_ => (some k_ ≠ (.slice Ao165 t1719.length co165 : Value).ownBlock ∧ (some k_ ≠ (.slice Ao36 t1638.length co36 : Value).ownBlock ∧ (some k_ ≠ (.slice Ao38 t1641.length co38 : Value).ownBlock ∧ (some k_ ≠ (.slice Ao73 t1666.length co73 : Value).ownBlock ∧ some k_ ≠ (.slice Ao74 t1669.length co74 : Value).ownBlock))))) (n := t1716.length) (c := co163) ?_).2.2; exact (rj (Kd.R_types HO1718.out BK1729.out (by decide)) (fun _ h_ => h_.1))); (case side2 => exact (Kd.R_reads' HO1718.out).2.1); (case side3 => refine (Kd.R_reads' (e := 9) (base := w.heap.size) (ok := fun k_ => (some k_ ≠ (.slice Ao163 t1716.length co163 : Value).ownBlock ∧ (some k_ ≠ (.slice Ao36 t1638.length co36 : Value).ownBlock ∧ (some k_ ≠ (.slice Ao38 t1641.length co38 : Value).ownBlock ∧ (some k_ ≠ (.slice Ao73 t1666.length co73 : Value).ownBlock ∧ some k_ ≠ (.slice Ao74 t1669.length co74 : Value).ownBlock))))) (n := t1719.length) (c := co165) ?_).2.2; exact (rj (Kd.R_types HO1721.out BK1729.out (by decide)) (fun _ h_ => h_.1))); (case side4 => exact (Kd.R_reads' HO1721.out).2.1); (case side5 => refine (Kd.R_reads' (e := 116) (base := w.heap.size) (ok := fun k_ => (some k_ ≠ (v1707 : Value).ownBlock ∧ (some k_ ≠ (v1712 : Value).ownBlock ∧ (some k_ ≠ (.slice Ao41 t1645.length co41 : Value).ownBlock ∧ (some k_ ≠ (.slice Ao53 t1695.length co53 : Value).ownBlock ∧ (some k_ ≠ (.slice Ao63 t1697.length co63 : Value).ownBlock ∧ some k_ ≠ (.slice Ao75 t1673.length co75 : Value).ownBlock)))))) (n := t1723.length) (c := co168) ?_).2.2; exact (rj (Kd.R_types HO1725.out BK1729.out (by decide)) (fun _ h_ => h_.1))); (case side6 => exact (Kd.R_reads' HO1725.out).2.1); (case side7 => refine (Kd.R_reads' (e := 9) (base := w.heap.size) (ok := fun k_ => (some k_ ≠ (.slice Ao163 t1716.length co163 : Value).ownBlock ∧ (some k_ ≠ (.slice Ao165 t1719.length co165 : Value).ownBlock ∧ (some k_ ≠ (.slice Ao38 t1641.length co38 : Value).ownBlock ∧ (some k_ ≠ (.slice Ao73 t1666.length co73 : Value).ownBlock ∧ some k_ ≠ (.slice Ao74 t1669.length co74 : Value).ownBlock))))) (n := t1638.length) (c := co36) ?_).2.2; exact (rj (Kd.R_types HO_1652001.out BK1729.out (by decide)) (fun _ h_ => h_.1))); (case side8 => exact (Kd.R_reads' HO_1652001.out).2.1); (case side9 => refine (Kd.R_reads' (e := 9) (base := w.heap.size) (ok := fun k_ => (some k_ ≠ (.slice Ao163 t1716.length co163 : Value).ownBlock ∧ (some k_ ≠ (.slice Ao165 t1719.length co165 : Value).ownBlock ∧ (some k_ ≠ (.slice Ao36 t1638.length co36 : Value).ownBlock ∧ (some k_ ≠ (.slice Ao73 t1666.length co73 : Value).ownBlock ∧ some k_ ≠ (.slice Ao74 t1669.length co74 : Value).ownBlock))))) (n := t1641.length) (c := co38) ?_).2.2; exact (rj (Kd.R_types HO_1652002.out BK1729.out (by decide)) (fun _ h_ => h_.1))); (case side10 => exact (Kd.R_reads' HO_1652002.out).2.1); (case side11 => refine (Kd.R_reads' (e := 116) (base := w.heap.size) (ok := fun k_ => (some k_ ≠ (v1707 : Value).ownBlock ∧ (some k_ ≠ (v1712 : Value).ownBlock ∧ (some k_ ≠ (.slice Ao168 t1723.length co168 : Value).ownBlock ∧ (some k_ ≠ (.slice Ao53 t1695.length co53 : Value).ownBlock ∧ (some k_ ≠ (.slice Ao63 t1697.length co63 : Value).ownBlock ∧ some k_ ≠ (.slice Ao75 t1673.length co75 : Value).ownBlock)))))) (n := t1645.length) (c := co41) ?_).2.2; exact (rj (Kd.R_types HO_1652004.out BK1729.out (by decide)) (fun _ h_ => h_.1))); (case side12 => exact (Kd.R_reads' HO_1652004.out).2.1); rintro e w187 ⟨rfl, hb⟩; refine ⟨_, rfl, ?_⟩; replace HO_1652001 := am (Kd.R_below (rj (Kd.R_types HO_1652001.out BK1729.out (by decide)) (fun _ h_ => h_.1)) hb); replace HO_1652002 := am (Kd.R_below (rj (Kd.R_types HO_1652002.out BK1729.out (by decide)) (fun _ h_ => h_.1)) hb); replace HO_1652004 := am (Kd.R_below (rj (Kd.R_types HO_1652004.out BK1729.out (by decide)) (fun _ h_ => h_.1)) hb); replace HO_1659002 := am (Kd.R_below (rj (Kd.R_types HO_1659002.out BK1729.out (by decide)) (fun _ h_ => h_.1)) hb); replace HO_1665001 := am (Kd.R_below (rj (Kd.R_types HO_1665001.out BK1729.out (by decide)) (fun _ h_ => h_.1)) hb); replace HO_1680001 := am (Kd.R_below (rj (Kd.R_types HO_1680001.out BK1729.out (by decide)) (fun _ h_ => h_.1)) hb); replace HO_1680002 := am (Kd.R_below (rj (Kd.R_types HO_1680002.out BK1729.out (by decide)) (fun _ h_ => h_.1)) hb); replace HO_1680004 := am (Kd.R_below (rj (Kd.R_types HO_1680004.out BK1729.out (by decide)) (fun _ h_ => h_.1)) hb); replace HO1708 := am (Kd.R_below (rj (Kd.R_types HO1708.out BK1729.out (by decide)) (fun _ h_ => h_.1)) hb); replace HO1713 := am (Kd.R_below (rj (Kd.R_types HO1713.out BK1729.out (by decide)) (fun _ h_ => h_.1)) hb); replace HO1718 := am (Kd.R_below (rj (Kd.R_types HO1718.out BK1729.out (by decide)) (fun _ h_ => h_.1)) hb); replace HO1721 := am (Kd.R_below (rj (Kd.R_types HO1721.out BK1729.out (by decide)) (fun _ h_ => h_.1)) hb); replace HO1725 := am (Kd.R_below (rj (Kd.R_types HO1725.out BK1729.out (by decide)) (fun _ h_ => h_.1)) hb); replace BK1622 := kg1 BK1622 NB1622_1729 hb; replace BK1623 := kg1 BK1623 NB1623_1729 hb; replace BK1651 := kg1 BK1651 NB1651_1729 hb; replace BK1658 := kg1 BK1658 NB1658_1729 hb; replace BK1664 := kg1 BK1664 NB1664_1729 hb; replace BK1679 := kg1 BK1679 NB1679_1729 hb; replace BK1729 := am (blk_below (g := gb1729) (o := .cells #[.string t1715, .slice Ao163 t1716.length co163, .slice Ao165 t1719.length co165, .int .i64 t1722, .slice Ao168 t1723.length co168, .string t1726, .int .i64 t1727] 31 (0, 0)) (pt0 BK1729) hb); replace HB := am (below_step bl hb); clear hb))
      go_meet
      case rel => exact ⟨_, ((t1728 != t1650)), rs, H', ⟨by have := HJ22.out; have := HJ98.out; first | omega | exact Nat.le_refl _⟩, ⟨by (try simp only [hl1659002_98]); (try simp only [hl1665001_98]); (with_reducible repeat (first | apply Kd.R_alloc | apply Kd.R_drewN | apply Kd.R_drew)); exact Kd.R_mono HO_1652001.out (fun _ hk => ⟨hk.2.2.1, ⟨hk.2.2.2.1, ⟨hk.2.2.2.2, ⟨hk.1, hk.2.1⟩⟩⟩⟩)⟩, ⟨by (try simp only [hl1659002_98]); (try simp only [hl1665001_98]); (with_reducible repeat (first | apply Kd.R_alloc | apply Kd.R_drewN | apply Kd.R_drew)); exact Kd.R_mono HO_1652002.out (fun _ hk => ⟨hk.2.2.1, ⟨hk.2.2.2.1, ⟨hk.2.2.2.2, ⟨hk.1, hk.2.1⟩⟩⟩⟩)⟩, ⟨by (try simp only [hl1659002_98]); (try simp only [hl1665001_98]); (with_reducible repeat (first | apply Kd.R_alloc | apply Kd.R_drewN | apply Kd.R_drew)); exact Kd.R_mono HO_1652004.out (fun _ hk => ⟨hk.2.2.2.1, ⟨hk.2.2.2.2.1, ⟨hk.2.2.2.2.2, hk.2.2.1⟩⟩⟩)⟩, ⟨by (try simp only [hl1659002_98]); (try simp only [hl1665001_98]); (with_reducible repeat (first | apply Kd.R_alloc | apply Kd.R_drewN | apply Kd.R_drew)); exact Kd.R_mono HO_1659002.out (fun _ hk => ⟨hk.2.2.2.1, ⟨hk.2.2.2.2.1, ⟨hk.2.2.2.2.2, hk.2.2.1⟩⟩⟩)⟩, ⟨by (try simp only [hl1659002_98]); (try simp only [hl1665001_98]); (with_reducible repeat (first | apply Kd.R_alloc | apply Kd.R_drewN | apply Kd.R_drew)); exact Kd.R_mono HO_1665001.out (fun _ hk => ⟨hk.2.2.2.1, ⟨hk.2.2.2.2.1, ⟨hk.2.2.2.2.2, hk.2.2.1⟩⟩⟩)⟩, ⟨by (try simp only [hl1659002_98]); (try simp only [hl1665001_98]); (with_reducible repeat (first | apply Kd.R_alloc | apply Kd.R_drewN | apply Kd.R_drew)); exact Kd.R_mono HO_1680001.out (fun _ hk => ⟨hk.2.2.1, ⟨hk.2.2.2.1, ⟨hk.2.2.2.2, ⟨hk.1, hk.2.1⟩⟩⟩⟩)⟩, ⟨by (try simp only [hl1659002_98]); (try simp only [hl1665001_98]); (with_reducible repeat (first | apply Kd.R_alloc | apply Kd.R_drewN | apply Kd.R_drew)); exact Kd.R_mono HO_1680002.out (fun _ hk => ⟨hk.2.2.1, ⟨hk.2.2.2.1, ⟨hk.2.2.2.2, ⟨hk.1, hk.2.1⟩⟩⟩⟩)⟩, ⟨by (try simp only [hl1659002_98]); (try simp only [hl1665001_98]); (with_reducible repeat (first | apply Kd.R_alloc | apply Kd.R_drewN | apply Kd.R_drew)); exact Kd.R_mono HO_1680004.out (fun _ hk => ⟨hk.2.2.2.1, ⟨hk.2.2.2.2.1, ⟨hk.2.2.2.2.2, hk.2.2.1⟩⟩⟩)⟩, ⟨by (try simp only [hl1659002_98]); (try simp only [hl1665001_98]); (with_reducible repeat (first | apply Kd.R_alloc | apply Kd.R_drewN | apply Kd.R_drew)); exact Kd.R_mono HO1718.out (fun _ hk => ⟨hk.2.1, ⟨hk.2.2.1, ⟨hk.2.2.2.1, ⟨hk.2.2.2.2, hk.1⟩⟩⟩⟩)⟩, ⟨by (try simp only [hl1659002_98]); (try simp only [hl1665001_98]); (with_reducible repeat (first | apply Kd.R_alloc | apply Kd.R_drewN | apply Kd.R_drew)); exact Kd.R_mono HO1721.out (fun _ hk => ⟨hk.2.1, ⟨hk.2.2.1, ⟨hk.2.2.2.1, ⟨hk.2.2.2.2, hk.1⟩⟩⟩⟩)⟩, ⟨by (try simp only [hl1659002_98]); (try simp only [hl1665001_98]); (with_reducible repeat (first | apply Kd.R_alloc | apply Kd.R_drewN | apply Kd.R_drew)); exact Kd.R_mono HO1725.out (fun _ hk => ⟨hk.2.2.1, ⟨hk.2.2.2.1, ⟨hk.2.2.2.2.1, hk.2.2.2.2.2⟩⟩⟩)⟩, ⟨by (try simp only [hl1659002_98]); (try simp only [hl1665001_98]); (with_reducible repeat (first | refine blk_drewN ?_ _ | refine blk_drew ?_ | refine blk_alloc ?_ _)); exact BK1622.out⟩, ⟨by (try simp only [hl1659002_98]); (try simp only [hl1665001_98]); (with_reducible repeat (first | refine blk_drewN ?_ _ | refine blk_drew ?_ | refine blk_alloc ?_ _)); exact BK1623.out⟩, ⟨by (try simp only [hl1659002_98]); (try simp only [hl1665001_98]); (with_reducible repeat (first | refine blk_drewN ?_ _ | refine blk_drew ?_ | refine blk_alloc ?_ _)); exact BK1651.out⟩, ⟨by (try simp only [hl1659002_98]); (try simp only [hl1665001_98]); (with_reducible repeat (first | refine blk_drewN ?_ _ | refine blk_drew ?_ | refine blk_alloc ?_ _)); exact BK1658.out⟩, ⟨by (try simp only [hl1659002_98]); (try simp only [hl1665001_98]); (with_reducible repeat (first | refine blk_drewN ?_ _ | refine blk_drew ?_ | refine blk_alloc ?_ _)); exact BK1664.out⟩, ⟨by (try simp only [hl1659002_98]); (try simp only [hl1665001_98]); (with_reducible repeat (first | refine blk_drewN ?_ _ | refine blk_drew ?_ | refine blk_alloc ?_ _)); exact BK1679.out⟩, ⟨by (try simp only [hl1659002_98]); (try simp only [hl1665001_98]); (with_reducible repeat (first | refine blk_drewN ?_ _ | refine blk_drew ?_ | refine blk_alloc ?_ _)); exact BK1729.out⟩, ⟨u7HB⟩⟩
     case rest =>
      clear HC144
      try clear c1
      try clear p2
      try clear c3
      try clear c4
      try clear c17
      try clear c18
      try clear c39
      try clear c45
      try clear c46
      try clear c47
      try clear c173
      try clear c174
      try clear c175
      try clear c176
      try clear c177
      try clear c178
      try clear c179
      try clear c181
      try clear c182
      try clear c183
      try clear c184
      try clear c185
      try clear z180_0
      try clear z180_1
      try clear z180_2
      try clear z180_3
      try clear z180_4
      try clear z180_5
      try clear z180_6
      try clear z186_0
      try clear z186_1
      try clear z186_2
      try clear z186_3
      try clear z186_4
      try clear z186_5
      try clear z186_6
      try clear y180_0
      try clear y180_1
      try clear y180_2
      try clear y180_3
      try clear y180_4
      try clear y180_5
      try clear y180_6
      try clear y186_0
      try clear y186_1
      try clear y186_2
      try clear y186_3
      try clear y186_4
      try clear y186_5
      try clear y186_6
      obtain ⟨kq, x115_143, rfl, HA, HJ143, HO_1652001, HO_1652002, HO_1652004, HO_1659002, HO_1665001, HO_1680001, HO_1680002, HO_1680004, HO_1730001, HO_1730002, HO_1730004, BK1622, BK1623, BK1651, BK1658, BK1664, BK1679, BK1729, HB⟩ := hcut
      have hl1680001_143 := (Kd.R_reads' HO_1680001.out).1
      rw [hl1680001_143] at HO_1680001
      (try simp only [hl1680001_143])
      (try simp only [hl1680001_143] at BK1622)
      (try simp only [hl1680001_143] at BK1623)
      (try simp only [hl1680001_143] at BK1651)
      (try simp only [hl1680001_143] at BK1658)
      (try simp only [hl1680001_143] at BK1664)
      (try simp only [hl1680001_143] at BK1679)
      (try simp only [hl1680001_143] at BK1729)
      (try simp only [hl1680001_143] at HO_1652001)
      (try simp only [hl1680001_143] at HO_1652002)
      (try simp only [hl1680001_143] at HO_1652004)
      (try simp only [hl1680001_143] at HO_1659002)
      (try simp only [hl1680001_143] at HO_1665001)
      (try simp only [hl1680001_143] at HO_1680002)
      (try simp only [hl1680001_143] at HO_1680004)
      (try simp only [hl1680001_143] at HO_1730001)
      (try simp only [hl1680001_143] at HO_1730002)
      (try simp only [hl1680001_143] at HO_1730004)
      have hl1680002_143 := (Kd.R_reads' HO_1680002.out).1
      rw [hl1680002_143] at HO_1680002
      (try simp only [hl1680002_143])
      (try simp only [hl1680002_143] at BK1622)
      (try simp only [hl1680002_143] at BK1623)
      (try simp only [hl1680002_143] at BK1651)
      (try simp only [hl1680002_143] at BK1658)
      (try simp only [hl1680002_143] at BK1664)
      (try simp only [hl1680002_143] at BK1679)
      (try simp only [hl1680002_143] at BK1729)
      (try simp only [hl1680002_143] at HO_1652001)
      (try simp only [hl1680002_143] at HO_1652002)
      (try simp only [hl1680002_143] at HO_1652004)
      (try simp only [hl1680002_143] at HO_1659002)
      (try simp only [hl1680002_143] at HO_1665001)
      (try simp only [hl1680002_143] at HO_1680001)
      (try simp only [hl1680002_143] at HO_1680004)
      (try simp only [hl1680002_143] at HO_1730001)
      (try simp only [hl1680002_143] at HO_1730002)
      (try simp only [hl1680002_143] at HO_1730004)
      have hl1680004_143 := (Kd.R_reads' HO_1680004.out).1
      rw [hl1680004_143] at HO_1680004
      (try simp only [hl1680004_143])
      (try simp only [hl1680004_143] at BK1622)
      (try simp only [hl1680004_143] at BK1623)
      (try simp only [hl1680004_143] at BK1651)
      (try simp only [hl1680004_143] at BK1658)
      (try simp only [hl1680004_143] at BK1664)
      (try simp only [hl1680004_143] at BK1679)
      (try simp only [hl1680004_143] at BK1729)
      (try simp only [hl1680004_143] at HO_1652001)
      (try simp only [hl1680004_143] at HO_1652002)
      (try simp only [hl1680004_143] at HO_1652004)
      (try simp only [hl1680004_143] at HO_1659002)
      (try simp only [hl1680004_143] at HO_1665001)
      (try simp only [hl1680004_143] at HO_1680001)
      (try simp only [hl1680004_143] at HO_1680002)
      (try simp only [hl1680004_143] at HO_1730001)
      (try simp only [hl1680004_143] at HO_1730002)
      (try simp only [hl1680004_143] at HO_1730004)
      cases kq with
      | zero => exact absurd HA.out (by simp [laws_FnExactObjOf.j2])
      | succ kj143 =>
       have H := HA.out
       clear HA
       simp only [laws_FnExactObjOf.j2] at H
       by_cases c188 : x115_143 = true
       ·subst c188
        rw [if_pos rfl] at H
        exact absurd (Option.some.inj H) (by rw [ht_]; decide)
       replace c188 := Bool.eq_false_iff.mpr c188
       subst c188
       rw [if_neg (show ¬ (false = true) by decide)] at H
       revert H
       refine ok1 fun t1731 A189 H => ?_
       by_cases c190 : t1731 < 0
       ·rw [if_pos c190] at H
        have c190b0 := decide_eq_true c190
        clear c190
        exact absurd (Option.some.inj H) (by rw [ht_]; decide)
       rw [if_neg c190] at H
       have c190b0 := decide_eq_false c190
       clear c190
       by_cases c191 : t1731 = t1699
       rotate_left
       ·rw [if_neg c191] at H
        have c191b0 : (t1731 == t1699) = false := beq_eq_false_iff_ne.mpr c191
        have c191b1 : (t1731 != t1699) = true := bne_iff_ne.mpr c191
        exact absurd (Option.some.inj H) (by rw [ht_]; decide)
       rw [if_pos c191] at H
       have c191b0 : (t1731 == t1699) = true := beq_iff_eq.mpr c191
       have c191b1 : (t1731 != t1699) = false := bne_eq_false_iff_eq.mpr c191
       clear c191
       obtain rfl := Option.some.inj H
       have hnb192 := NB1679_1622.out
       have hnc192 := NB1622_1679.out
       have hnb193 := NB1679_1623.out
       have hnc193 := NB1623_1679.out
       have hnb194 := NB1679_1651.out
       have hnc194 := NB1651_1679.out
       have hnb195 := NB1679_1658.out
       have hnc195 := NB1658_1679.out
       have hnb196 := NB1679_1664.out
       have hnc196 := NB1664_1679.out
       have hnb197 := NB1679_1729.out
       have hnc197 := NB1729_1679.out
       obtain ⟨z198_0, y198_0, z198_1, y198_1, z198_2, y198_2, z198_3, y198_3, z198_4, y198_4, z198_5, y198_5, z198_6, y198_6⟩ := cl7 BK1679
       go_wp2_with ((with_reducible refine gw ?_); first | (refine gl 118 Tryz.func41 #[.agg #[.string t1665, .slice Ao73 t1700.length co73, .slice Ao74 t1701.length co74, .int .i64 t1672, .slice Ao75 t1702.length co75, .string t1676, .int .i64 t1677], .int .i64 1] ?_; (with_reducible refine (laws_heldObj.calls kj143 t1665 _ _ t1700 _ _ t1701 t1672 _ _ t1702 t1676 t1677 1 t1731 _ ?side1 ?side2 ?side3 ?side4 ?side5 ?side6 A189.out).mono ?_); (case side1 => exact rc HO_1680001); (case side2 => exact (Kd.R_reads' HO_1680001.out).2.1); (case side3 => exact rc HO_1680002); (case side4 => exact (Kd.R_reads' HO_1680002.out).2.1); (case side5 => exact rc HO_1680004); (case side6 => exact (Kd.R_reads' HO_1680004.out).2.1); rintro e w199 ⟨rfl, hb⟩; refine ⟨_, rfl, ?_⟩; replace HO_1652001 := kr HO_1652001 hb; replace HO_1652002 := kr HO_1652002 hb; replace HO_1652004 := kr HO_1652004 hb; replace HO_1659002 := kr HO_1659002 hb; replace HO_1665001 := kr HO_1665001 hb; replace HO_1680001 := kr HO_1680001 hb; replace HO_1680002 := kr HO_1680002 hb; replace HO_1680004 := kr HO_1680004 hb; replace HO_1730001 := kr HO_1730001 hb; replace HO_1730002 := kr HO_1730002 hb; replace HO_1730004 := kr HO_1730004 hb; replace BK1622 := kb BK1622 hb; replace BK1623 := kb BK1623 hb; replace BK1651 := kb BK1651 hb; replace BK1658 := kb BK1658 hb; replace BK1664 := kb BK1664 hb; replace BK1679 := kb BK1679 hb; replace BK1729 := kb BK1729 hb; replace HB := am (below_step bl hb); clear hb))
       go_ret
       exact ⟨rf, bl⟩

end Go.Proofs.YtjlpjbkpmmpojaaGreatDoor.All
