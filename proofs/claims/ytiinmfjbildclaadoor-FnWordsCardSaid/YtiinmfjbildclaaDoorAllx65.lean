-- Written by a program of this session (wip/tools/hprint.py) out of the translation. Lean checks it.
import Derived.Test.YtiinmfjbildclaaDoorAllx0
import Derived.Test.YtiinmfjbildclaaDoorAllx2
import Derived.Test.YtiinmfjbildclaaDoorAllx3
import Derived.Test.YtiinmfjbildclaaDoorAllx13
import Derived.Test.YtiinmfjbildclaaDoorAllx14
import Derived.Test.YtiinmfjbildclaaDoorAllx16
import Derived.Test.YtiinmfjbildclaaDoorAllx40
import Derived.Test.YtiinmfjbildclaaDoorAllx64
namespace Go.Proofs.YtiinmfjbildclaaDoor.All
open Go.RowKit Go.Proofs.YtiinmfjbildclaaDoorW.PrintWords Go.Proofs.YtiinmfjbildclaaDoorW.PrintLast Go.Proofs.YtiinmfjbildclaaDoorW.PrintMore
attribute [local go_sem] max2_int min2_int max_two min_two max_three min_three max_four min_four   -- for this text's walks alone
set_option linter.unusedVariables false
set_option linter.unusedSimpArgs false

/-! ### laws_FnWords: function 13 -/
mutual
def laws_FnWords.j0 : Nat → List Int → Option (Bool)
 | 0, _ => none
 | k + 1, x0 => (spec_DrawNumRead.f k x0).bind fun t1565 => ((impl_NumRead.f t1565).bind fun bt1566 => ((spec_NumRead.f k t1565).bind fun bt1568 => ((spec_DrawTrim.f k x0).bind fun t1570 => ((impl_Trim.f t1570).bind fun t1571 => (if (bt1566.2 != bt1568.2) = true then (laws_FnWords.j1 k x0 true) else (if bt1566.2 = true then ((impl_NumText.f bt1566.1).bind fun t1572 => (if t1572.toList = t1565.toList then ((spec_Trim.f k t1570).bind fun t1573 => (if t1571.toList = t1573.toList then ((impl_Trim.f t1571).bind fun t1574 => (if t1574.toList = t1571.toList then (laws_FnWords.j1 k x0 (decide ((t1571.size : Int) > (t1570.size : Int)))) else (laws_FnWords.j1 k x0 true))) else (laws_FnWords.j1 k x0 true))) else (laws_FnWords.j1 k x0 true))) else ((spec_Trim.f k t1570).bind fun t1575 => (if t1571.toList = t1575.toList then ((impl_Trim.f t1571).bind fun t1576 => (if t1576.toList = t1571.toList then (laws_FnWords.j1 k x0 (decide ((t1571.size : Int) > (t1570.size : Int)))) else (laws_FnWords.j1 k x0 true))) else (laws_FnWords.j1 k x0 true)))))))))
def laws_FnWords.j1 : Nat → List Int → Bool → Option (Bool)
 | 0, _, _ => none
 | k + 1, x0, x87 => if x87 = true then (some false) else ((spec_DrawSplit.f k x0).bind fun t1577 => ((impl_Split.f k t1577).bind fun t1578 => ((spec_Split.f k t1577).bind fun t1581 => ((laws_sameTexts.f k t1578 t1581).bind fun t1584 => (if t1584 = true then (laws_FnWords.l0 k t1578 0) else (some false))))))
def laws_FnWords.l0 : Nat → List ByteArray → Int → Option (Bool)
 | 0, _, _ => none
 | k + 1, x15, x16 => if x16 < (x15.length : Int) then (if 0 ≤ x16 then (if (rdOf ByteArray.empty x15 x16).toList = ([] : List UInt8) then (some false) else ((impl_Trim.f (rdOf ByteArray.empty x15 x16)).bind fun t1587 => (if t1587.toList = (rdOf ByteArray.empty x15 x16).toList then ((impl_Split.f k (rdOf ByteArray.empty x15 x16)).bind fun t1590 => (if (t1590.length : Int) = 1 then (laws_FnWords.l0 k x15 (wrap64 (x16 + 1))) else (some false))) else (some false)))) else (none)) else (some true)
end
def laws_FnWords.f (k : Nat) (l0 : List Int) : Option (Bool) := (laws_big.f l0).bind fun t1559 => (if t1559 = true then (some true) else ((spec_DrawNumText.f k l0).bind fun t1560 => ((impl_NumText.f t1560).bind fun t1561 => ((spec_NumText.f k t1560).bind fun t1562 => (if t1561.toList = t1562.toList then (if t1561.toList = ([] : List UInt8) then (laws_FnWords.j0 k l0) else ((impl_NumRead.f t1561).bind fun bt1563 => (if bt1563.2 = true then (if bt1563.1 = t1560 then (laws_FnWords.j0 k l0) else (some false)) else (some false)))) else (some false))))))
theorem laws_FnWords.mono_l : ∀ k, (∀ y0, LeO (laws_FnWords.j0 k y0) (laws_FnWords.j0 (k + 1) y0)) ∧ (∀ y0 y1, LeO (laws_FnWords.j1 k y0 y1) (laws_FnWords.j1 (k + 1) y0 y1)) ∧ (∀ y0 y1, LeO (laws_FnWords.l0 k y0 y1) (laws_FnWords.l0 (k + 1) y0 y1))
 | 0 => ⟨fun _ r h => by simp [laws_FnWords.j0] at h, fun _ _ r h => by simp [laws_FnWords.j1] at h, fun _ _ r h => by simp [laws_FnWords.l0] at h⟩
 | k + 1 => by
  obtain ⟨ih0, ih1, ih2⟩ := laws_FnWords.mono_l k
  refine ⟨?_, ?_, ?_⟩
  ·intro y0
   unfold laws_FnWords.j0
   repeat' first
   | (with_reducible exact ih0 _)
   | (with_reducible exact ih1 _ _)
   | (with_reducible exact ih2 _ _)
   | (with_reducible exact impl_Split.mono _ _)
   | (with_reducible exact laws_sameTexts.mono _ _ _)
   | (with_reducible exact spec_DrawNumRead.mono _ _)
   | (with_reducible exact spec_DrawNumText.mono _ _)
   | (with_reducible exact spec_DrawSplit.mono _ _)
   | (with_reducible exact spec_DrawTrim.mono _ _)
   | (with_reducible exact spec_NumRead.mono _ _)
   | (with_reducible exact spec_NumText.mono _ _)
   | (with_reducible exact spec_Split.mono _ _)
   | (with_reducible exact spec_Trim.mono _ _)
   | (with_reducible exact LeO.refl _)
   | (with_reducible exact LeO.none _)
   | (with_reducible refine LeO.ite ?_ ?_)
   | (with_reducible refine LeO.bind ?_ (fun _ => ?_))
   | exact ih0 _
   | exact ih1 _ _
   | exact ih2 _ _
   | exact impl_Split.mono _ _
   | exact laws_sameTexts.mono _ _ _
   | exact spec_DrawNumRead.mono _ _
   | exact spec_DrawNumText.mono _ _
   | exact spec_DrawSplit.mono _ _
   | exact spec_DrawTrim.mono _ _
   | exact spec_NumRead.mono _ _
   | exact spec_NumText.mono _ _
   | exact spec_Split.mono _ _
   | exact spec_Trim.mono _ _
   | exact LeO.none _
   | refine LeO.ite ?_ ?_
   | refine LeO.bind ?_ (fun _ => ?_)
  ·intro y0 y1
   unfold laws_FnWords.j1
   repeat' first
   | (with_reducible exact ih0 _)
   | (with_reducible exact ih1 _ _)
   | (with_reducible exact ih2 _ _)
   | (with_reducible exact impl_Split.mono _ _)
   | (with_reducible exact laws_sameTexts.mono _ _ _)
   | (with_reducible exact spec_DrawNumRead.mono _ _)
   | (with_reducible exact spec_DrawNumText.mono _ _)
   | (with_reducible exact spec_DrawSplit.mono _ _)
   | (with_reducible exact spec_DrawTrim.mono _ _)
   | (with_reducible exact spec_NumRead.mono _ _)
   | (with_reducible exact spec_NumText.mono _ _)
   | (with_reducible exact spec_Split.mono _ _)
   | (with_reducible exact spec_Trim.mono _ _)
   | (with_reducible exact LeO.refl _)
   | (with_reducible exact LeO.none _)
   | (with_reducible refine LeO.ite ?_ ?_)
   | (with_reducible refine LeO.bind ?_ (fun _ => ?_))
   | exact ih0 _
   | exact ih1 _ _
   | exact ih2 _ _
   | exact impl_Split.mono _ _
   | exact laws_sameTexts.mono _ _ _
   | exact spec_DrawNumRead.mono _ _
   | exact spec_DrawNumText.mono _ _
   | exact spec_DrawSplit.mono _ _
   | exact spec_DrawTrim.mono _ _
   | exact spec_NumRead.mono _ _
   | exact spec_NumText.mono _ _
   | exact spec_Split.mono _ _
   | exact spec_Trim.mono _ _
   | exact LeO.none _
   | refine LeO.ite ?_ ?_
   | refine LeO.bind ?_ (fun _ => ?_)
  ·intro y0 y1
   unfold laws_FnWords.l0
   repeat' first
   | (with_reducible exact ih0 _)
   | (with_reducible exact ih1 _ _)
   | (with_reducible exact ih2 _ _)
   | (with_reducible exact impl_Split.mono _ _)
   | (with_reducible exact laws_sameTexts.mono _ _ _)
   | (with_reducible exact spec_DrawNumRead.mono _ _)
   | (with_reducible exact spec_DrawNumText.mono _ _)
   | (with_reducible exact spec_DrawSplit.mono _ _)
   | (with_reducible exact spec_DrawTrim.mono _ _)
   | (with_reducible exact spec_NumRead.mono _ _)
   | (with_reducible exact spec_NumText.mono _ _)
   | (with_reducible exact spec_Split.mono _ _)
   | (with_reducible exact spec_Trim.mono _ _)
   | (with_reducible exact LeO.refl _)
   | (with_reducible exact LeO.none _)
   | (with_reducible refine LeO.ite ?_ ?_)
   | (with_reducible refine LeO.bind ?_ (fun _ => ?_))
   | exact ih0 _
   | exact ih1 _ _
   | exact ih2 _ _
   | exact impl_Split.mono _ _
   | exact laws_sameTexts.mono _ _ _
   | exact spec_DrawNumRead.mono _ _
   | exact spec_DrawNumText.mono _ _
   | exact spec_DrawSplit.mono _ _
   | exact spec_DrawTrim.mono _ _
   | exact spec_NumRead.mono _ _
   | exact spec_NumText.mono _ _
   | exact spec_Split.mono _ _
   | exact spec_Trim.mono _ _
   | exact LeO.none _
   | refine LeO.ite ?_ ?_
   | refine LeO.bind ?_ (fun _ => ?_)
theorem laws_FnWords.mono : ∀ a0 k, LeO (laws_FnWords.f k a0) (laws_FnWords.f (k + 1) a0) := by
 intro a0 k
 obtain ⟨ih0, ih1, ih2⟩ := laws_FnWords.mono_l k
 unfold laws_FnWords.f
 repeat' first
   | (with_reducible exact ih0 _)
   | (with_reducible exact ih1 _ _)
   | (with_reducible exact ih2 _ _)
   | (with_reducible exact impl_Split.mono _ _)
   | (with_reducible exact laws_sameTexts.mono _ _ _)
   | (with_reducible exact spec_DrawNumRead.mono _ _)
   | (with_reducible exact spec_DrawNumText.mono _ _)
   | (with_reducible exact spec_DrawSplit.mono _ _)
   | (with_reducible exact spec_DrawTrim.mono _ _)
   | (with_reducible exact spec_NumRead.mono _ _)
   | (with_reducible exact spec_NumText.mono _ _)
   | (with_reducible exact spec_Split.mono _ _)
   | (with_reducible exact spec_Trim.mono _ _)
   | (with_reducible exact LeO.refl _)
   | (with_reducible exact LeO.none _)
   | (with_reducible refine LeO.ite ?_ ?_)
   | (with_reducible refine LeO.bind ?_ (fun _ => ?_))
   | exact ih0 _
   | exact ih1 _ _
   | exact ih2 _ _
   | exact impl_Split.mono _ _
   | exact laws_sameTexts.mono _ _ _
   | exact spec_DrawNumRead.mono _ _
   | exact spec_DrawNumText.mono _ _
   | exact spec_DrawSplit.mono _ _
   | exact spec_DrawTrim.mono _ _
   | exact spec_NumRead.mono _ _
   | exact spec_NumText.mono _ _
   | exact spec_Split.mono _ _
   | exact spec_Trim.mono _ _
   | exact LeO.none _
   | refine LeO.ite ?_ ?_
   | refine LeO.bind ?_ (fun _ => ?_)
def laws_FnWords.T25 : Bool × List (List Nat × List Nat) := (true, [([], []), ([], []), ([0, 1], [0, 1]), ([2], [2]), ([3], [3]), ([4], [4]), ([5], [5]), ([5], [5]), ([6, 7, 5], [5, 6, 7]), ([8, 5], [5, 8]), ([9, 5, 5], [5, 9]), ([5], [5]), ([5], [5]), ([11, 12, 5], [5, 11, 12]), ([13, 5], [5, 13]), ([10, 14, 5], [5, 10, 14]), ([5, 15], [5, 15]), ([16, 10], [16]), ([17], [17]), ([17], [17]), ([18, 19, 17], [17, 18, 19]), ([20, 17], [17, 20]), ([21, 17, 17], [17, 21]), ([22, 17], [17, 22]), ([23, 17], [17, 23]), ([17, 24], [17, 24])])
def laws_FnWords.B25 : List Nat := [0, 0, 3, 7, 15, 31, 63, 63, 255, 511, 1023, 63, 63, 6207, 14399, 32767, 65535, 131071, 262143, 262143, 1048575, 2097151, 4194303, 8388607, 16777215, 33554431]
theorem laws_FnWords.tab25 : rtab .any (opsOf Tryd.f13 25) = laws_FnWords.T25 := by kernel_rfl
theorem laws_FnWords.bits25 : waitsOk laws_FnWords.T25.2 laws_FnWords.B25 = true := by kernel_rfl
set_option maxHeartbeats 8000000 in
set_option maxRecDepth 100000 in
theorem laws_FnWords.calls (k : Nat) (A0 : Option Addr) (c0 : Nat) (l0 : List Int) (r : Bool) (w : World) (hGE : GLOBE w) (hGM : GLOBM w) (hGT : GLOBT w) (hr0 : Kd.C (Kd.int .u8) w A0 l0.length l0) (hc0 : l0.length ≤ c0) (ht_ : r = true) (h : laws_FnWords.f k l0 = some r) :
  Calls Tryd.prog 13 #[.slice A0 l0.length c0] w fun e w' => e = .returned (.bool r) ∧ Below w.heap.size w w' := by
 have HR0 := am hr0
 have HC0 := am hc0
 clear hr0 hc0
 have HGE := am hGE
 clear hGE
 have HGM := am hGM
 clear hGM
 have HGT := am hGT
 clear hGT
 have HB := am (Below.refl w.heap.size w)
 have H : ((laws_big.f l0).bind fun t1559 => (if t1559 = true then (some true) else ((spec_DrawNumText.f k l0).bind fun t1560 => ((impl_NumText.f t1560).bind fun t1561 => ((spec_NumText.f k t1560).bind fun t1562 => (if t1561.toList = t1562.toList then (if t1561.toList = ([] : List UInt8) then (laws_FnWords.j0 k l0) else ((impl_NumRead.f t1561).bind fun bt1563 => (if bt1563.2 = true then (if bt1563.1 = t1560 then (laws_FnWords.j0 k l0) else (some false)) else (some false)))) else (some false))))))) = some r := h
 clear h
 replace H := ob H
 obtain ⟨t1559, A20, H⟩ := H
 replace H : (if t1559 = true then (some true) else ((spec_DrawNumText.f k l0).bind fun t1560 => ((impl_NumText.f t1560).bind fun t1561 => ((spec_NumText.f k t1560).bind fun t1562 => (if t1561.toList = t1562.toList then (if t1561.toList = ([] : List UInt8) then (laws_FnWords.j0 k l0) else ((impl_NumRead.f t1561).bind fun bt1563 => (if bt1563.2 = true then (if bt1563.1 = t1560 then (laws_FnWords.j0 k l0) else (some false)) else (some false)))) else (some false)))))) = some r := H
 have A2 := am A20
 clear A20
 by_cases c3 : t1559 = true
 ·subst c3
  have H1 : (some true) = some r := by rw [if_pos rfl] at H; exact H
  clear H
  have H := H1
  clear H1
  obtain rfl := Option.some.inj H
  go_enter Tryd.func13, Tryd.ntmps13
  go_wp2_with (first | ((with_reducible refine gate_callee (f := 28) rfl ?_); refine goesL_ (some 18) rfl rfl Tryd.func28 (by kernel_rfl) rfl #[.slice A0 l0.length c0] rfl ma ?_; (with_reducible refine (laws_big.calls _ _ l0 true _ ?side1 ?side2 A2.out).mono ?_); (case side1 => exact cc HR0); (case side2 => exact HC0.out); rintro e w' ⟨rfl, ⟨nd, rfl⟩⟩; refine ⟨_, rfl, ?_⟩))
  go_ret
  exact ⟨rf, bl⟩
 ·replace c3 := Bool.eq_false_iff.mpr c3
  subst c3
  have H1 : ((spec_DrawNumText.f k l0).bind fun t1560 => ((impl_NumText.f t1560).bind fun t1561 => ((spec_NumText.f k t1560).bind fun t1562 => (if t1561.toList = t1562.toList then (if t1561.toList = ([] : List UInt8) then (laws_FnWords.j0 k l0) else ((impl_NumRead.f t1561).bind fun bt1563 => (if bt1563.2 = true then (if bt1563.1 = t1560 then (laws_FnWords.j0 k l0) else (some false)) else (some false)))) else (some false))))) = some r := by rw [if_neg (show ¬ (false = true) by decide)] at H; exact H
  clear H
  have H := H1
  clear H1
  replace H := ob H
  obtain ⟨t1560, A40, H⟩ := H
  replace H : ((impl_NumText.f t1560).bind fun t1561 => ((spec_NumText.f k t1560).bind fun t1562 => (if t1561.toList = t1562.toList then (if t1561.toList = ([] : List UInt8) then (laws_FnWords.j0 k l0) else ((impl_NumRead.f t1561).bind fun bt1563 => (if bt1563.2 = true then (if bt1563.1 = t1560 then (laws_FnWords.j0 k l0) else (some false)) else (some false)))) else (some false)))) = some r := H
  have A4 := am A40
  clear A40
  replace H := ob H
  obtain ⟨t1561, A50, H⟩ := H
  replace H : ((spec_NumText.f k t1560).bind fun t1562 => (if t1561.toList = t1562.toList then (if t1561.toList = ([] : List UInt8) then (laws_FnWords.j0 k l0) else ((impl_NumRead.f t1561).bind fun bt1563 => (if bt1563.2 = true then (if bt1563.1 = t1560 then (laws_FnWords.j0 k l0) else (some false)) else (some false)))) else (some false))) = some r := H
  have A5 := am A50
  clear A50
  replace H := ob H
  obtain ⟨t1562, A60, H⟩ := H
  replace H : (if t1561.toList = t1562.toList then (if t1561.toList = ([] : List UInt8) then (laws_FnWords.j0 k l0) else ((impl_NumRead.f t1561).bind fun bt1563 => (if bt1563.2 = true then (if bt1563.1 = t1560 then (laws_FnWords.j0 k l0) else (some false)) else (some false)))) else (some false)) = some r := H
  have A6 := am A60
  clear A60
  by_cases c7 : t1561.toList = t1562.toList
  ·rw [if_pos c7] at H
   have c7b0 : (t1561.toList == t1562.toList) = true := beq_iff_eq.mpr c7
   have c7b1 : (t1561.toList != t1562.toList) = false := bne_eq_false_iff_eq.mpr c7
   clear c7
   have HC8 := am H
   clear H
   go_enter Tryd.func13, Tryd.ntmps13
   go_upto_if 28 with (first | ((with_reducible refine gate_callee (f := 28) rfl ?_); refine goesL_ (some 18) rfl rfl Tryd.func28 (by kernel_rfl) rfl #[.slice A0 l0.length c0] rfl ma ?_; (with_reducible refine (laws_big.calls _ _ l0 false _ ?side1 ?side2 A2.out).mono ?_); (case side1 => exact cc HR0); (case side2 => exact HC0.out); rintro e w' ⟨rfl, ⟨nd, rfl⟩⟩; refine ⟨_, rfl, ?_⟩) | ((with_reducible refine gate_callee (f := 77) rfl ?_); refine goesL_ (some 20) rfl rfl Tryd.func77 (by kernel_rfl) rfl #[.slice A0 l0.length c0] rfl ma ?_; (with_reducible refine (spec_DrawNumText.calls k _ _ l0 t1560 _ ?side1 ?side2 A4.out).mono ?_); (case side1 => exact cc HR0); (case side2 => exact HC0.out); rintro e w9 ⟨rfl, hb⟩; refine ⟨_, rfl, ?_⟩; replace HB := am (below_step bl hb); (try clear hb); (try clear hb2); (try clear hk); (try clear hi)) | ((with_reducible refine gate_callee (f := 78) rfl ?_); refine goesL_ (some 22) rfl rfl Tryd.func78 (by kernel_rfl) rfl #[.int .i64 t1560] rfl ma ?_; (with_reducible refine (impl_NumText.calls t1560 t1561 _ ?side1 A5.out).mono ?_); (case side1 => exact GLOBT.below HGT.out bl); rintro e w10 ⟨rfl, hb⟩; refine ⟨_, rfl, ?_⟩; replace HB := am (below_step bl hb); (try clear hb); (try clear hb2); (try clear hk); (try clear hi)) | ((with_reducible refine gate_callee (f := 79) rfl ?_); refine goesL_ (some 25) rfl rfl Tryd.func79 (by kernel_rfl) rfl #[.int .i64 t1560] rfl ma ?_; (with_reducible refine (spec_NumText.calls k t1560 t1562 _ A6.out).mono ?_); rintro e w11 ⟨rfl, hb⟩; refine ⟨_, rfl, ?_⟩; replace HB := am (below_step bl hb); (try clear hb); (try clear hb2); (try clear hk); (try clear hi)))
   (try simp only [Act.put, List.setIfInBounds_toArray, List.set_cons_zero, List.set_cons_succ])
   go_cut [] (fun wc => ∃ (kq : Nat), Aside0 (laws_FnWords.j0 kq l0 = some r) ∧ Aside0 (kq ≤ k) ∧ Aside0 (Below w.heap.size w wc))
   case first =>
    have H := HC8.out
    clear HC8
    by_cases c12 : t1561.toList = ([] : List UInt8)
    ·rw [if_pos c12] at H
     have c12b0 : (t1561.toList == ([] : List UInt8)) = true := beq_iff_eq.mpr c12
     have c12b2 : t1561.toList.isEmpty = true := by rw [c12]; rfl
     have c12b1 : (t1561.toList != ([] : List UInt8)) = false := bne_eq_false_iff_eq.mpr c12
     clear c12
     (first | rw [c12b0] | (simp only [i64_w, i32_w]; rw [c12b0]) | rw [c12b2] | skip)
     have H' := am H
     clear H
     go_wp2
     go_meet
     case rel => exact ⟨_, H', ⟨by first | omega | exact Nat.le_refl _⟩, ⟨by repeat (first | (with_reducible first | exact HB.out | apply below_alloc | apply pw_below_drewN | apply below_drew1) | exact HB.out)⟩⟩
    ·rw [if_neg c12] at H
     have c12b0 : (t1561.toList == ([] : List UInt8)) = false := beq_eq_false_iff_ne.mpr c12
     have c12b2 : t1561.toList.isEmpty = false := by cases h_ : t1561.toList with | nil => exact absurd h_ c12 | cons _ _ => rfl
     have c12b1 : (t1561.toList != ([] : List UInt8)) = true := bne_iff_ne.mpr c12
     (first | rw [c12b0] | (simp only [i64_w, i32_w]; rw [c12b0]) | rw [c12b2] | skip)
     replace H := ob H
     obtain ⟨⟨t1563, t1564⟩, A130, H⟩ := H
     replace H : (if t1564 = true then (if t1563 = t1560 then (laws_FnWords.j0 k l0) else (some false)) else (some false)) = some r := H
     have A13 := am A130
     clear A130
     by_cases c14 : t1564 = true
     ·subst c14
      have H1 : (if t1563 = t1560 then (laws_FnWords.j0 k l0) else (some false)) = some r := by rw [if_pos rfl] at H; exact H
      clear H
      have H := H1
      clear H1
      by_cases c15 : t1563 = t1560
      ·rw [if_pos c15] at H
       have c15b0 : (t1563 == t1560) = true := beq_iff_eq.mpr c15
       have c15b1 : (t1563 != t1560) = false := bne_eq_false_iff_eq.mpr c15
       clear c15
       have H' := am H
       clear H
       go_wp2_with (first | ((with_reducible refine gate_callee (f := 80) rfl ?_); refine goesL_ (some 31) rfl rfl Tryd.func80 (by kernel_rfl) rfl #[.string t1561] rfl ma ?_; (with_reducible refine (impl_NumRead.calls t1561 t1563 true _ ?side1 ?side2 A13.out).mono ?_); (case side1 => exact GLOBE.below HGE.out bl); (case side2 => exact GLOBT.below HGT.out bl); rintro e w16 ⟨rfl, hb⟩; refine ⟨_, rfl, ?_⟩; replace HB := am (below_step bl hb); (try clear hb); (try clear hb2); (try clear hk); (try clear hi)))
       go_meet
       case rel => exact ⟨_, H', ⟨by first | omega | exact Nat.le_refl _⟩, ⟨by repeat (first | (with_reducible first | exact HB.out | apply below_alloc | apply pw_below_drewN | apply below_drew1) | exact HB.out)⟩⟩
      ·rw [if_neg c15] at H
       have c15b0 : (t1563 == t1560) = false := beq_eq_false_iff_ne.mpr c15
       have c15b1 : (t1563 != t1560) = true := bne_iff_ne.mpr c15
       exact absurd (Option.some.inj H) (by rw [ht_]; decide)
     ·replace c14 := Bool.eq_false_iff.mpr c14
      subst c14
      have H1 : (some false) = some r := by rw [if_neg (show ¬ (false = true) by decide)] at H; exact H
      clear H
      have H := H1
      clear H1
      exact absurd (Option.some.inj H) (by rw [ht_]; decide)
   case rest =>
    clear HC8
    try clear c1
    try clear c2
    try clear p2
    try clear c3
    try clear c7
    try clear c7b0
    try clear c7b1
    try clear c8
    try clear c12
    try clear c12b0
    try clear c12b1
    try clear c13
    try clear c14
    try clear c15
    try clear c15b0
    try clear c15b1
    obtain ⟨kq, HA, HJ7, HB⟩ := hcut
    cases kq with
    | zero => exact absurd HA.out (by simp [laws_FnWords.j0])
    | succ kj7 =>
     have H := HA.out
     clear HA
     simp only [laws_FnWords.j0] at H
     replace H := ob H
     obtain ⟨t1565, A170, H⟩ := H
     replace H : ((impl_NumRead.f t1565).bind fun bt1566 => ((spec_NumRead.f kj7 t1565).bind fun bt1568 => ((spec_DrawTrim.f kj7 l0).bind fun t1570 => ((impl_Trim.f t1570).bind fun t1571 => (if (bt1566.2 != bt1568.2) = true then (laws_FnWords.j1 kj7 l0 true) else (if bt1566.2 = true then ((impl_NumText.f bt1566.1).bind fun t1572 => (if t1572.toList = t1565.toList then ((spec_Trim.f kj7 t1570).bind fun t1573 => (if t1571.toList = t1573.toList then ((impl_Trim.f t1571).bind fun t1574 => (if t1574.toList = t1571.toList then (laws_FnWords.j1 kj7 l0 (decide ((t1571.size : Int) > (t1570.size : Int)))) else (laws_FnWords.j1 kj7 l0 true))) else (laws_FnWords.j1 kj7 l0 true))) else (laws_FnWords.j1 kj7 l0 true))) else ((spec_Trim.f kj7 t1570).bind fun t1575 => (if t1571.toList = t1575.toList then ((impl_Trim.f t1571).bind fun t1576 => (if t1576.toList = t1571.toList then (laws_FnWords.j1 kj7 l0 (decide ((t1571.size : Int) > (t1570.size : Int)))) else (laws_FnWords.j1 kj7 l0 true))) else (laws_FnWords.j1 kj7 l0 true))))))))) = some r := H
     have A17 := am A170
     clear A170
     replace H := ob H
     obtain ⟨⟨t1566, t1567⟩, A180, H⟩ := H
     replace H : ((spec_NumRead.f kj7 t1565).bind fun bt1568 => ((spec_DrawTrim.f kj7 l0).bind fun t1570 => ((impl_Trim.f t1570).bind fun t1571 => (if (t1567 != bt1568.2) = true then (laws_FnWords.j1 kj7 l0 true) else (if t1567 = true then ((impl_NumText.f t1566).bind fun t1572 => (if t1572.toList = t1565.toList then ((spec_Trim.f kj7 t1570).bind fun t1573 => (if t1571.toList = t1573.toList then ((impl_Trim.f t1571).bind fun t1574 => (if t1574.toList = t1571.toList then (laws_FnWords.j1 kj7 l0 (decide ((t1571.size : Int) > (t1570.size : Int)))) else (laws_FnWords.j1 kj7 l0 true))) else (laws_FnWords.j1 kj7 l0 true))) else (laws_FnWords.j1 kj7 l0 true))) else ((spec_Trim.f kj7 t1570).bind fun t1575 => (if t1571.toList = t1575.toList then ((impl_Trim.f t1571).bind fun t1576 => (if t1576.toList = t1571.toList then (laws_FnWords.j1 kj7 l0 (decide ((t1571.size : Int) > (t1570.size : Int)))) else (laws_FnWords.j1 kj7 l0 true))) else (laws_FnWords.j1 kj7 l0 true)))))))) = some r := H
     have A18 := am A180
     clear A180
     replace H := ob H
     obtain ⟨⟨t1568, t1569⟩, A190, H⟩ := H
     replace H : ((spec_DrawTrim.f kj7 l0).bind fun t1570 => ((impl_Trim.f t1570).bind fun t1571 => (if (t1567 != t1569) = true then (laws_FnWords.j1 kj7 l0 true) else (if t1567 = true then ((impl_NumText.f t1566).bind fun t1572 => (if t1572.toList = t1565.toList then ((spec_Trim.f kj7 t1570).bind fun t1573 => (if t1571.toList = t1573.toList then ((impl_Trim.f t1571).bind fun t1574 => (if t1574.toList = t1571.toList then (laws_FnWords.j1 kj7 l0 (decide ((t1571.size : Int) > (t1570.size : Int)))) else (laws_FnWords.j1 kj7 l0 true))) else (laws_FnWords.j1 kj7 l0 true))) else (laws_FnWords.j1 kj7 l0 true))) else ((spec_Trim.f kj7 t1570).bind fun t1575 => (if t1571.toList = t1575.toList then ((impl_Trim.f t1571).bind fun t1576 => (if t1576.toList = t1571.toList then (laws_FnWords.j1 kj7 l0 (decide ((t1571.size : Int) > (t1570.size : Int)))) else (laws_FnWords.j1 kj7 l0 true))) else (laws_FnWords.j1 kj7 l0 true))))))) = some r := H
     have A19 := am A190
     clear A190
     replace H := ob H
     obtain ⟨t1570, A200, H⟩ := H
     replace H : ((impl_Trim.f t1570).bind fun t1571 => (if (t1567 != t1569) = true then (laws_FnWords.j1 kj7 l0 true) else (if t1567 = true then ((impl_NumText.f t1566).bind fun t1572 => (if t1572.toList = t1565.toList then ((spec_Trim.f kj7 t1570).bind fun t1573 => (if t1571.toList = t1573.toList then ((impl_Trim.f t1571).bind fun t1574 => (if t1574.toList = t1571.toList then (laws_FnWords.j1 kj7 l0 (decide ((t1571.size : Int) > (t1570.size : Int)))) else (laws_FnWords.j1 kj7 l0 true))) else (laws_FnWords.j1 kj7 l0 true))) else (laws_FnWords.j1 kj7 l0 true))) else ((spec_Trim.f kj7 t1570).bind fun t1575 => (if t1571.toList = t1575.toList then ((impl_Trim.f t1571).bind fun t1576 => (if t1576.toList = t1571.toList then (laws_FnWords.j1 kj7 l0 (decide ((t1571.size : Int) > (t1570.size : Int)))) else (laws_FnWords.j1 kj7 l0 true))) else (laws_FnWords.j1 kj7 l0 true)))))) = some r := H
     have A20 := am A200
     clear A200
     replace H := ob H
     obtain ⟨t1571, A210, H⟩ := H
     replace H : (if (t1567 != t1569) = true then (laws_FnWords.j1 kj7 l0 true) else (if t1567 = true then ((impl_NumText.f t1566).bind fun t1572 => (if t1572.toList = t1565.toList then ((spec_Trim.f kj7 t1570).bind fun t1573 => (if t1571.toList = t1573.toList then ((impl_Trim.f t1571).bind fun t1574 => (if t1574.toList = t1571.toList then (laws_FnWords.j1 kj7 l0 (decide ((t1571.size : Int) > (t1570.size : Int)))) else (laws_FnWords.j1 kj7 l0 true))) else (laws_FnWords.j1 kj7 l0 true))) else (laws_FnWords.j1 kj7 l0 true))) else ((spec_Trim.f kj7 t1570).bind fun t1575 => (if t1571.toList = t1575.toList then ((impl_Trim.f t1571).bind fun t1576 => (if t1576.toList = t1571.toList then (laws_FnWords.j1 kj7 l0 (decide ((t1571.size : Int) > (t1570.size : Int)))) else (laws_FnWords.j1 kj7 l0 true))) else (laws_FnWords.j1 kj7 l0 true))))) = some r := H
     have A21 := am A210
     clear A210
     have HC22 := am H
     clear H
     go_upto_region 16 with (first | ((with_reducible refine gate_callee (f := 81) rfl ?_); refine goesL_ (some 42) rfl rfl Tryd.func81 (by kernel_rfl) rfl #[.slice A0 l0.length c0] rfl ma ?_; (with_reducible refine (spec_DrawNumRead.calls kj7 _ _ l0 t1565 _ ?side1 ?side2 A17.out).mono ?_); (case side1 => exact cb HR0); (case side2 => exact HC0.out); rintro e w23 ⟨rfl, hb⟩; refine ⟨_, rfl, ?_⟩; replace HB := am (below_step bl hb); (try clear hb); (try clear hb2); (try clear hk); (try clear hi)) | ((with_reducible refine gate_callee (f := 80) rfl ?_); refine goesL_ (some 45) rfl rfl Tryd.func80 (by kernel_rfl) rfl #[.string t1565] rfl ma ?_; (with_reducible refine (impl_NumRead.calls t1565 t1566 t1567 _ ?side1 ?side2 A18.out).mono ?_); (case side1 => exact GLOBE.below HGE.out bl); (case side2 => exact GLOBT.below HGT.out bl); rintro e w24 ⟨rfl, hb⟩; refine ⟨_, rfl, ?_⟩; replace HB := am (below_step bl hb); (try clear hb); (try clear hb2); (try clear hk); (try clear hi)) | ((with_reducible refine gate_callee (f := 82) rfl ?_); refine goesL_ (some 50) rfl rfl Tryd.func82 (by kernel_rfl) rfl #[.string t1565] rfl ma ?_; (with_reducible refine (spec_NumRead.calls kj7 t1565 t1568 t1569 _ A19.out).mono ?_); rintro e w25 ⟨rfl, hb⟩; refine ⟨_, rfl, ?_⟩; replace HB := am (below_step bl hb); (try clear hb); (try clear hb2); (try clear hk); (try clear hi)) | ((with_reducible refine gate_callee (f := 83) rfl ?_); refine goesL_ (some 54) rfl rfl Tryd.func83 (by kernel_rfl) rfl #[.slice A0 l0.length c0] rfl ma ?_; (with_reducible refine (spec_DrawTrim.calls kj7 _ _ l0 t1570 _ ?side1 ?side2 A20.out).mono ?_); (case side1 => exact cb HR0); (case side2 => exact HC0.out); rintro e w26 ⟨rfl, hb⟩; refine ⟨_, rfl, ?_⟩; replace HB := am (below_step bl hb); (try clear hb); (try clear hb2); (try clear hk); (try clear hi)) | ((with_reducible refine gate_callee (f := 84) rfl ?_); refine goesL_ (some 56) rfl rfl Tryd.func84 (by kernel_rfl) rfl #[.string t1570] rfl ma ?_; (with_reducible refine (impl_Trim.calls t1570 t1571 _ A21.out).mono ?_); rintro e w27 ⟨rfl, hb⟩; refine ⟨_, rfl, ?_⟩; replace HB := am (below_step bl hb); (try clear hb); (try clear hb2); (try clear hk); (try clear hi)))
     (try simp only [Act.put, List.setIfInBounds_toArray, List.set_cons_zero, List.set_cons_succ])
     go_cut [87] (fun v87 wc => ∃ (kq : Nat) (x87_21 : Bool), v87 = .bool x87_21 ∧ Aside0 (laws_FnWords.j1 kq l0 x87_21 = some r) ∧ Aside0 (kq ≤ kj7) ∧ Aside0 (Below w.heap.size w wc))
     case first =>
      have H := HC22.out
      clear HC22
      by_cases c28 : (t1567 != t1569) = true
      ·rw [if_pos c28] at H
       have c28b0 : (t1567 != t1569) = true := c28
       (try (have c28b1 : decide (t1567 = t1569) = false := by simpa using c28))
       (try (have c28b2 : (t1567 == t1569) = false := by simpa using c28))
       (try (have c28b3 : ¬ (t1567 = t1569) := by simpa using c28))
       clear c28
       (first | rw [c28b0] | (simp only [i64_w, i32_w]; rw [c28b0]) | skip)
       cases kj7 with
       | zero => exact absurd H (by simp [laws_FnWords.j1])
       | succ k_ => simp only [laws_FnWords.j1, if_true] at H; exact absurd (Option.some.inj H) (by rw [ht_]; decide)
      ·rw [if_neg c28] at H
       have c28b0 : (t1567 != t1569) = false := by simpa using c28
       (try (have c28b1 : decide (t1567 = t1569) = true := by simpa using c28))
       (try (have c28b2 : (t1567 == t1569) = true := by simpa using c28))
       clear c28
       (first | rw [c28b0] | (simp only [i64_w, i32_w]; rw [c28b0]) | skip)
       by_cases c29 : t1567 = true
       ·subst c29
        have H1 : ((impl_NumText.f t1566).bind fun t1572 => (if t1572.toList = t1565.toList then ((spec_Trim.f kj7 t1570).bind fun t1573 => (if t1571.toList = t1573.toList then ((impl_Trim.f t1571).bind fun t1574 => (if t1574.toList = t1571.toList then (laws_FnWords.j1 kj7 l0 (decide ((t1571.size : Int) > (t1570.size : Int)))) else (laws_FnWords.j1 kj7 l0 true))) else (laws_FnWords.j1 kj7 l0 true))) else (laws_FnWords.j1 kj7 l0 true))) = some r := by rw [if_pos rfl] at H; exact H
        clear H
        have H := H1
        clear H1
        replace H := ob H
        obtain ⟨t1572, A300, H⟩ := H
        replace H : (if t1572.toList = t1565.toList then ((spec_Trim.f kj7 t1570).bind fun t1573 => (if t1571.toList = t1573.toList then ((impl_Trim.f t1571).bind fun t1574 => (if t1574.toList = t1571.toList then (laws_FnWords.j1 kj7 l0 (decide ((t1571.size : Int) > (t1570.size : Int)))) else (laws_FnWords.j1 kj7 l0 true))) else (laws_FnWords.j1 kj7 l0 true))) else (laws_FnWords.j1 kj7 l0 true)) = some r := H
        have A30 := am A300
        clear A300
        by_cases c31 : t1572.toList = t1565.toList
        ·rw [if_pos c31] at H
         have c31b0 : (t1572.toList == t1565.toList) = true := beq_iff_eq.mpr c31
         have c31b1 : (t1572.toList != t1565.toList) = false := bne_eq_false_iff_eq.mpr c31
         clear c31
         replace H := ob H
         obtain ⟨t1573, A320, H⟩ := H
         replace H : (if t1571.toList = t1573.toList then ((impl_Trim.f t1571).bind fun t1574 => (if t1574.toList = t1571.toList then (laws_FnWords.j1 kj7 l0 (decide ((t1571.size : Int) > (t1570.size : Int)))) else (laws_FnWords.j1 kj7 l0 true))) else (laws_FnWords.j1 kj7 l0 true)) = some r := H
         have A32 := am A320
         clear A320
         by_cases c33 : t1571.toList = t1573.toList
         ·rw [if_pos c33] at H
          have c33b0 : (t1571.toList == t1573.toList) = true := beq_iff_eq.mpr c33
          have c33b1 : (t1571.toList != t1573.toList) = false := bne_eq_false_iff_eq.mpr c33
          clear c33
          replace H := ob H
          obtain ⟨t1574, A340, H⟩ := H
          replace H : (if t1574.toList = t1571.toList then (laws_FnWords.j1 kj7 l0 (decide ((t1571.size : Int) > (t1570.size : Int)))) else (laws_FnWords.j1 kj7 l0 true)) = some r := H
          have A34 := am A340
          clear A340
          by_cases c35 : t1574.toList = t1571.toList
          ·rw [if_pos c35] at H
           have c35b0 : (t1574.toList == t1571.toList) = true := beq_iff_eq.mpr c35
           have c35b1 : (t1574.toList != t1571.toList) = false := bne_eq_false_iff_eq.mpr c35
           clear c35
           have H' := am H
           clear H
           go_wp2_with (first | (go_at_call 78; (with_reducible refine (impl_NumText.calls t1566 t1572 _ ?side1 A30.out).mono ?_); (case side1 => exact GLOBT.below HGT.out bl); rintro e w36 ⟨rfl, hb⟩; replace HB := am (below_step bl hb); (try clear hb); (try clear hb2); (try clear hk); (try clear hi)) | (go_at_call 85; (with_reducible refine (spec_Trim.calls kj7 t1570 t1573 _ A32.out).mono ?_); rintro e w' ⟨rfl, ⟨nd, rfl⟩⟩) | (go_at_call 84; (with_reducible refine (impl_Trim.calls t1571 t1574 _ A34.out).mono ?_); rintro e w37 ⟨rfl, hb⟩; replace HB := am (below_step bl hb); (try clear hb); (try clear hb2); (try clear hk); (try clear hi)))
           go_meet
           case rel => exact ⟨_, (decide ((t1571.size : Int) > (t1570.size : Int))), rs, H', ⟨by have := HJ7.out; first | omega | exact Nat.le_refl _⟩, ⟨by repeat (first | (with_reducible first | exact HB.out | apply below_alloc | apply pw_below_drewN | apply below_drew1) | exact HB.out)⟩⟩
          ·rw [if_neg c35] at H
           have c35b0 : (t1574.toList == t1571.toList) = false := beq_eq_false_iff_ne.mpr c35
           have c35b1 : (t1574.toList != t1571.toList) = true := bne_iff_ne.mpr c35
           cases kj7 with
           | zero => exact absurd H (by simp [laws_FnWords.j1])
           | succ k_ => simp only [laws_FnWords.j1, if_true] at H; exact absurd (Option.some.inj H) (by rw [ht_]; decide)
         ·rw [if_neg c33] at H
          have c33b0 : (t1571.toList == t1573.toList) = false := beq_eq_false_iff_ne.mpr c33
          have c33b1 : (t1571.toList != t1573.toList) = true := bne_iff_ne.mpr c33
          cases kj7 with
          | zero => exact absurd H (by simp [laws_FnWords.j1])
          | succ k_ => simp only [laws_FnWords.j1, if_true] at H; exact absurd (Option.some.inj H) (by rw [ht_]; decide)
        ·rw [if_neg c31] at H
         have c31b0 : (t1572.toList == t1565.toList) = false := beq_eq_false_iff_ne.mpr c31
         have c31b1 : (t1572.toList != t1565.toList) = true := bne_iff_ne.mpr c31
         cases kj7 with
         | zero => exact absurd H (by simp [laws_FnWords.j1])
         | succ k_ => simp only [laws_FnWords.j1, if_true] at H; exact absurd (Option.some.inj H) (by rw [ht_]; decide)
       ·replace c29 := Bool.eq_false_iff.mpr c29
        subst c29
        have H1 : ((spec_Trim.f kj7 t1570).bind fun t1575 => (if t1571.toList = t1575.toList then ((impl_Trim.f t1571).bind fun t1576 => (if t1576.toList = t1571.toList then (laws_FnWords.j1 kj7 l0 (decide ((t1571.size : Int) > (t1570.size : Int)))) else (laws_FnWords.j1 kj7 l0 true))) else (laws_FnWords.j1 kj7 l0 true))) = some r := by rw [if_neg (show ¬ (false = true) by decide)] at H; exact H
        clear H
        have H := H1
        clear H1
        replace H := ob H
        obtain ⟨t1575, A380, H⟩ := H
        replace H : (if t1571.toList = t1575.toList then ((impl_Trim.f t1571).bind fun t1576 => (if t1576.toList = t1571.toList then (laws_FnWords.j1 kj7 l0 (decide ((t1571.size : Int) > (t1570.size : Int)))) else (laws_FnWords.j1 kj7 l0 true))) else (laws_FnWords.j1 kj7 l0 true)) = some r := H
        have A38 := am A380
        clear A380
        by_cases c39 : t1571.toList = t1575.toList
        ·rw [if_pos c39] at H
         have c39b0 : (t1571.toList == t1575.toList) = true := beq_iff_eq.mpr c39
         have c39b1 : (t1571.toList != t1575.toList) = false := bne_eq_false_iff_eq.mpr c39
         clear c39
         replace H := ob H
         obtain ⟨t1576, A400, H⟩ := H
         replace H : (if t1576.toList = t1571.toList then (laws_FnWords.j1 kj7 l0 (decide ((t1571.size : Int) > (t1570.size : Int)))) else (laws_FnWords.j1 kj7 l0 true)) = some r := H
         have A40 := am A400
         clear A400
         by_cases c41 : t1576.toList = t1571.toList
         ·rw [if_pos c41] at H
          have c41b0 : (t1576.toList == t1571.toList) = true := beq_iff_eq.mpr c41
          have c41b1 : (t1576.toList != t1571.toList) = false := bne_eq_false_iff_eq.mpr c41
          clear c41
          have H' := am H
          clear H
          go_wp2_with (first | (go_at_call 85; (with_reducible refine (spec_Trim.calls kj7 t1570 t1575 _ A38.out).mono ?_); rintro e w' ⟨rfl, ⟨nd, rfl⟩⟩) | (go_at_call 84; (with_reducible refine (impl_Trim.calls t1571 t1576 _ A40.out).mono ?_); rintro e w42 ⟨rfl, hb⟩; replace HB := am (below_step bl hb); (try clear hb); (try clear hb2); (try clear hk); (try clear hi)))
          go_meet
          case rel => exact ⟨_, (decide ((t1571.size : Int) > (t1570.size : Int))), rs, H', ⟨by have := HJ7.out; first | omega | exact Nat.le_refl _⟩, ⟨by repeat (first | (with_reducible first | exact HB.out | apply below_alloc | apply pw_below_drewN | apply below_drew1) | exact HB.out)⟩⟩
         ·rw [if_neg c41] at H
          have c41b0 : (t1576.toList == t1571.toList) = false := beq_eq_false_iff_ne.mpr c41
          have c41b1 : (t1576.toList != t1571.toList) = true := bne_iff_ne.mpr c41
          cases kj7 with
          | zero => exact absurd H (by simp [laws_FnWords.j1])
          | succ k_ => simp only [laws_FnWords.j1, if_true] at H; exact absurd (Option.some.inj H) (by rw [ht_]; decide)
        ·rw [if_neg c39] at H
         have c39b0 : (t1571.toList == t1575.toList) = false := beq_eq_false_iff_ne.mpr c39
         have c39b1 : (t1571.toList != t1575.toList) = true := bne_iff_ne.mpr c39
         cases kj7 with
         | zero => exact absurd H (by simp [laws_FnWords.j1])
         | succ k_ => simp only [laws_FnWords.j1, if_true] at H; exact absurd (Option.some.inj H) (by rw [ht_]; decide)
     case rest =>
      clear HC22
      try clear c1
      try clear c2
      try clear p2
      try clear c3
      try clear c4
      try clear c7
      try clear c7b0
      try clear c7b1
      try clear c8
      try clear c12
      try clear c12b0
      try clear c12b1
      try clear c13
      try clear c14
      try clear c15
      try clear c15b0
      try clear c15b1
      try clear c28
      try clear c28b0
      try clear c28b1
      try clear c28b2
      try clear c29
      try clear c31
      try clear c31b0
      try clear c31b1
      try clear c33
      try clear c33b0
      try clear c33b1
      try clear c35
      try clear c35b0
      try clear c35b1
      try clear c39
      try clear c39b0
      try clear c39b1
      try clear c41
      try clear c41b0
      try clear c41b1
      try clear p2
      obtain ⟨kq, x87_21, rfl, HA, HJ21, HB⟩ := hcut
      cases kq with
      | zero => exact absurd HA.out (by simp [laws_FnWords.j1])
      | succ kj21 =>
       have H := HA.out
       clear HA
       simp only [laws_FnWords.j1] at H
       by_cases c43 : x87_21 = true
       ·subst c43
        have H1 : (some false) = some r := by rw [if_pos rfl] at H; exact H
        clear H
        have H := H1
        clear H1
        exact absurd (Option.some.inj H) (by rw [ht_]; decide)
       ·replace c43 := Bool.eq_false_iff.mpr c43
        subst c43
        have H1 : ((spec_DrawSplit.f kj21 l0).bind fun t1577 => ((impl_Split.f kj21 t1577).bind fun t1578 => ((spec_Split.f kj21 t1577).bind fun t1581 => ((laws_sameTexts.f kj21 t1578 t1581).bind fun t1584 => (if t1584 = true then (laws_FnWords.l0 kj21 t1578 0) else (some false)))))) = some r := by rw [if_neg (show ¬ (false = true) by decide)] at H; exact H
        clear H
        have H := H1
        clear H1
        replace H := ob H
        obtain ⟨t1577, A440, H⟩ := H
        replace H : ((impl_Split.f kj21 t1577).bind fun t1578 => ((spec_Split.f kj21 t1577).bind fun t1581 => ((laws_sameTexts.f kj21 t1578 t1581).bind fun t1584 => (if t1584 = true then (laws_FnWords.l0 kj21 t1578 0) else (some false))))) = some r := H
        have A44 := am A440
        clear A440
        replace H := ob H
        obtain ⟨t1578, A450, H⟩ := H
        replace H : ((spec_Split.f kj21 t1577).bind fun t1581 => ((laws_sameTexts.f kj21 t1578 t1581).bind fun t1584 => (if t1584 = true then (laws_FnWords.l0 kj21 t1578 0) else (some false)))) = some r := H
        have A45 := am A450
        clear A450
        replace H := ob H
        obtain ⟨t1581, A460, H⟩ := H
        replace H : ((laws_sameTexts.f kj21 t1578 t1581).bind fun t1584 => (if t1584 = true then (laws_FnWords.l0 kj21 t1578 0) else (some false))) = some r := H
        have A46 := am A460
        clear A460
        replace H := ob H
        obtain ⟨t1584, A470, H⟩ := H
        replace H : (if t1584 = true then (laws_FnWords.l0 kj21 t1578 0) else (some false)) = some r := H
        have A47 := am A470
        clear A470
        by_cases c48 : t1584 = true
        ·subst c48
         have H1 : (laws_FnWords.l0 kj21 t1578 0) = some r := by rw [if_pos rfl] at H; exact H
         clear H
         have H := H1
         clear H1
         have H' := am H
         clear H
         go_wp2_with (first | ((with_reducible refine gate_callee (f := 86) rfl ?_); refine goesL_ (some 89) rfl rfl Tryd.func86 (by kernel_rfl) rfl #[.slice A0 l0.length c0] rfl ma ?_; (with_reducible refine (spec_DrawSplit.calls kj21 _ _ l0 t1577 _ ?side1 ?side2 A44.out).mono ?_); (case side1 => exact cb HR0); (case side2 => exact HC0.out); rintro e w49 ⟨rfl, hb⟩; refine ⟨_, rfl, ?_⟩; replace HB := am (below_step bl hb); (try clear hb); (try clear hb2); (try clear hk); (try clear hi)) | ((with_reducible refine gate_callee (f := 87) rfl ?_); refine goesL_ (some 91) rfl rfl Tryd.func87 (by kernel_rfl) rfl #[.string t1577] rfl ma ?_; (with_reducible refine (impl_Split.calls kj21 t1577 t1578 _ ?side1 A45.out).mono ?_); (case side1 => exact GLOBM.below HGM.out bl); rintro e w50 ⟨v1579, rfl, ho0, hb⟩; refine ⟨_, rfl, ?_⟩; have HO1580 := am (Kd.R_lower ho0 (below_size bl)); replace HB := am (below_step bl hb); (try clear hb); (try clear hb2); (try clear hk); (try clear hi); (try clear ho0)) | ((with_reducible refine gate_callee (f := 88) rfl ?_); refine goesL_ (some 94) rfl rfl Tryd.func88 (by kernel_rfl) rfl #[.string t1577] rfl ma ?_; (with_reducible refine (spec_Split.calls kj21 t1577 t1581 _ A46.out).mono ?_); rintro e w51 ⟨v1582, rfl, ho0, hb⟩; refine ⟨_, rfl, ?_⟩; have HO1583 := am (Kd.R_lower (Kd.R_new' ho0 (Kd.R_lt (ro HO1580))) (below_size bl)); replace HO1580 := am (Kd.R_elder' (ro HO1580) (Kd.R_base ho0) hb); replace HB := am (below_step bl hb); (try clear hb); (try clear hb2); (try clear hk); (try clear hi); (try clear ho0); obtain ⟨Ao52, co52, eo52⟩ := Kd.R_slice HO1580.out; subst eo52; obtain ⟨Ao53, co53, eo53⟩ := Kd.R_slice HO1583.out; subst eo53) | ((with_reducible refine gate_callee (f := 52) rfl ?_); refine goesL_ (some 95) rfl rfl Tryd.func52 (by kernel_rfl) rfl #[.slice Ao52 t1578.length co52, .slice Ao53 t1581.length co53] rfl ma ?_; (with_reducible refine (laws_sameTexts.calls kj21 _ _ t1578 _ _ t1581 true _ ?side1 ?side2 ?side3 ?side4 A47.out).mono ?_); (case side1 => exact rc HO1580); (case side2 => exact (Kd.R_reads' HO1580.out).2.1); (case side3 => exact rc HO1583); (case side4 => exact (Kd.R_reads' HO1583.out).2.1); rintro e w' ⟨rfl, ⟨nd, rfl⟩⟩; refine ⟨_, rfl, ?_⟩))
         (try simp only [Act.put, List.setIfInBounds_toArray, List.set_cons_zero, List.set_cons_succ])
         go_loopg [16] kj21 (fun kq v16 w' => ∃ (x16_3 : Int), v16 = .int .i64 x16_3 ∧ Aside0 (laws_FnWords.l0 kq t1578 x16_3 = some r) ∧ Aside0 (kq ≤ kj21) ∧ Aside0 (Kd.R Kd.string 9 w' w.heap.size (fun _ => True) (.slice Ao52 t1578.length co52) t1578) ∧ Aside0 (Below w.heap.size w w'))
         case atStart => exact ⟨(0), rs, H', ⟨Nat.le_refl _⟩, ⟨by (with_reducible repeat (first | apply Kd.R_alloc | apply Kd.R_drewN | apply Kd.R_drew)); exact Kd.R_mono HO1580.out (fun _ hk => trivial)⟩, ⟨by repeat (first | (with_reducible first | exact HB.out | apply below_alloc | apply pw_below_drewN | apply below_drew1) | exact HB.out)⟩⟩
         case round =>
          clear H'
          try clear c1
          try clear c2
          try clear p2
          try clear c3
          try clear c4
          try clear c5
          try clear c7
          try clear c7b0
          try clear c7b1
          try clear c8
          try clear c12
          try clear c12b0
          try clear c12b1
          try clear c13
          try clear c14
          try clear c15
          try clear c15b0
          try clear c15b1
          try clear c28
          try clear c28b0
          try clear c28b1
          try clear c28b2
          try clear c29
          try clear c31
          try clear c31b0
          try clear c31b1
          try clear c33
          try clear c33b0
          try clear c33b1
          try clear c35
          try clear c35b0
          try clear c35b1
          try clear c39
          try clear c39b0
          try clear c39b1
          try clear c41
          try clear c41b0
          try clear c41b1
          try clear c43
          try clear c48
          try clear c52
          try clear p2
          obtain ⟨x16_3, rfl, HA, HK3, HO_15, HB⟩ := hrel
          cases gk with
          | zero => exact absurd HA.out (by simp [laws_FnWords.l0])
          | succ k3 =>
           have H := HA.out
           clear HA
           simp only [laws_FnWords.l0] at H
           by_cases c54 : x16_3 < (t1578.length : Int)
           ·rw [if_pos c54] at H
            have c54b0 : decide (x16_3 < (t1578.length : Int)) = true := decide_eq_true c54
            clear c54
            by_cases c55 : 0 ≤ x16_3
            ·rw [if_pos c55] at H
             have c55b0 : decide (0 ≤ x16_3) = true := decide_eq_true c55
             clear c55
             by_cases c56 : (rdOf ByteArray.empty t1578 x16_3).toList = ([] : List UInt8)
             ·rw [if_pos c56] at H
              have c56b0 : ((rdOf ByteArray.empty t1578 x16_3).toList == ([] : List UInt8)) = true := beq_iff_eq.mpr c56
              have c56b1 : ((rdOf ByteArray.empty t1578 x16_3).toList != ([] : List UInt8)) = false := bne_eq_false_iff_eq.mpr c56
              clear c56
              exact absurd (Option.some.inj H) (by rw [ht_]; decide)
             ·rw [if_neg c56] at H
              have c56b0 : ((rdOf ByteArray.empty t1578 x16_3).toList == ([] : List UInt8)) = false := beq_eq_false_iff_ne.mpr c56
              have c56b1 : ((rdOf ByteArray.empty t1578 x16_3).toList != ([] : List UInt8)) = true := bne_iff_ne.mpr c56
              replace H := ob H
              obtain ⟨t1587, A570, H⟩ := H
              replace H : (if t1587.toList = (rdOf ByteArray.empty t1578 x16_3).toList then ((impl_Split.f k3 (rdOf ByteArray.empty t1578 x16_3)).bind fun t1590 => (if (t1590.length : Int) = 1 then (laws_FnWords.l0 k3 t1578 (wrap64 (x16_3 + 1))) else (some false))) else (some false)) = some r := H
              have A57 := am A570
              clear A570
              by_cases c58 : t1587.toList = (rdOf ByteArray.empty t1578 x16_3).toList
              ·rw [if_pos c58] at H
               have c58b0 : (t1587.toList == (rdOf ByteArray.empty t1578 x16_3).toList) = true := beq_iff_eq.mpr c58
               have c58b1 : (t1587.toList != (rdOf ByteArray.empty t1578 x16_3).toList) = false := bne_eq_false_iff_eq.mpr c58
               clear c58
               replace H := ob H
               obtain ⟨t1590, A590, H⟩ := H
               replace H : (if (t1590.length : Int) = 1 then (laws_FnWords.l0 k3 t1578 (wrap64 (x16_3 + 1))) else (some false)) = some r := H
               have A59 := am A590
               clear A590
               by_cases c60 : (t1590.length : Int) = 1
               ·rw [if_pos c60] at H
                have c60b0 : ((t1590.length : Int) == 1) = true := beq_iff_eq.mpr c60
                have c60b1 : ((t1590.length : Int) != 1) = false := bne_eq_false_iff_eq.mpr c60
                clear c60
                have H' := am H
                clear H
                try go_wp2
                replace HO_15 := am (Kd.R_drew HO_15.out)
                replace HB := am (below_drew1 HB.out)
                have p1585 : 0 ≤ (x16_3 : Int) := od
                have q1585 : x16_3 < (t1578.length : Int) := od
                obtain ⟨ad1585, e1585, hx1585_0⟩ := Kd.at_string (Kd.R_reads' HO_15.out).2.2 x16_3 p1585 q1585
                cases e1585
                replace p1585 := eq_true p1585
                replace q1585 := eq_true q1585
                have p1586 : 0 ≤ (x16_3 : Int) := od
                have q1586 : x16_3 < (t1578.length : Int) := od
                obtain ⟨ad1586, e1586, hx1586_0⟩ := Kd.at_string (Kd.R_reads' HO_15.out).2.2 x16_3 p1586 q1586
                obtain rfl : ad1585 = ad1586 := (by injection e1586)
                replace p1586 := eq_true p1586
                replace q1586 := eq_true q1586
                have p1588 : 0 ≤ (x16_3 : Int) := od
                have q1588 : x16_3 < (t1578.length : Int) := od
                obtain ⟨ad1588, e1588, hx1588_0⟩ := Kd.at_string (Kd.R_reads' HO_15.out).2.2 x16_3 p1588 q1588
                obtain rfl : ad1585 = ad1588 := (by injection e1588)
                replace p1588 := eq_true p1588
                replace q1588 := eq_true q1588
                have p1589 : 0 ≤ (x16_3 : Int) := od
                have q1589 : x16_3 < (t1578.length : Int) := od
                obtain ⟨ad1589, e1589, hx1589_0⟩ := Kd.at_string (Kd.R_reads' HO_15.out).2.2 x16_3 p1589 q1589
                obtain rfl : ad1585 = ad1589 := (by injection e1589)
                replace p1589 := eq_true p1589
                replace q1589 := eq_true q1589
                refine start_ (n := 26) (S := fun w' => w'.cell? (ad1585.add (x16_3).toNat) = some (.string (rdOf ByteArray.empty t1578 x16_3)) ∧ w'.cell? (ad1585.add (x16_3).toNat) = some (.string (rdOf ByteArray.empty t1578 x16_3)) ∧ w'.cell? (ad1585.add (x16_3).toNat) = some (.string (rdOf ByteArray.empty t1578 x16_3)) ∧ w'.cell? (ad1585.add (x16_3).toNat) = some (.string (rdOf ByteArray.empty t1578 x16_3))) (ds := []) #[false, false, false, false, false, false, false, false, false, false, false, false, false, false, false, false, false, false, false, false, false, false, false, false, false, false] (by kernel_rfl) rfl rfl ⟨hx1585_0, hx1586_0, hx1588_0, hx1589_0⟩ (fun hHeld => ?_); refine with_tabW laws_FnWords.tab25 laws_FnWords.bits25 (fun HT_ HW_ => ?_)
                generalize wr.drew = w61 at HO_15 HB hx1585_0 hx1586_0 hx1588_0 hx1589_0 hHeld ⊢
                refine pure_ (i := 0) (N := some 103) (v := ?_) (a' := ?_) #[true, false, false, false, false, false, false, false, false, false, false, false, false, false, false, false, false, false, false, false, false, false, false, false, false, false] rfl rfl (any_of HT_.out (by kernel_rfl)) (fun _ _ _ h => h) (Or.inl ⟨by rfl, ?_⟩) ?_ ?_
                rotate_left
                ·intro w'
                 go_simp
                 with_reducible rfl
                rotate_left
                ·simp only [Act.put, List.setIfInBounds_toArray, List.set_cons_zero, List.set_cons_succ, i64_w, i32_w]
                 rfl
                refine pure_ (i := 1) (N := some 104) (v := ?_) (a' := ?_) #[true, true, false, false, false, false, false, false, false, false, false, false, false, false, false, false, false, false, false, false, false, false, false, false, false, false] rfl rfl (any_of HT_.out (by kernel_rfl)) (fun _ _ _ h => h) (Or.inl ⟨by rfl, ?_⟩) ?_ ?_
                rotate_left
                ·intro w'
                 go_simp
                 with_reducible rfl
                rotate_left
                ·simp only [Act.put, List.setIfInBounds_toArray, List.set_cons_zero, List.set_cons_succ, i64_w, i32_w]
                 rfl
                refine pure_ (i := 2) (N := some 105) (v := ?_) (a' := ?_) #[true, true, true, false, false, false, false, false, false, false, false, false, false, false, false, false, false, false, false, false, false, false, false, false, false, false] rfl rfl (any_of HT_.out (by kernel_rfl)) (fun _ _ _ h => h) (Or.inl ⟨by rfl, ?_⟩) ?_ ?_
                rotate_left
                ·intro w'
                 go_simp
                 with_reducible rfl
                rotate_left
                ·simp only [Act.put, List.setIfInBounds_toArray, List.set_cons_zero, List.set_cons_succ, i64_w, i32_w]
                 rfl
                refine take_ (i := 3) (N := some 106) (v := ?_) (a' := ?_) #[true, true, true, true, false, false, false, false, false, false, false, false, false, false, false, false, false, false, false, false, false, false, false, false, false, false] rfl rfl (take_ofW HT_.out HW_.out (by kernel_rfl)) (fun _ _ _ h => h) (Or.inl ⟨by rfl, ?_⟩) hHeld ?_ ?_
                rotate_left
                ·rintro w' ⟨s0, s1, s2, s3⟩
                 go_simp
                 with_reducible rfl
                rotate_left
                ·simp only [Act.put, List.setIfInBounds_toArray, List.set_cons_zero, List.set_cons_succ, i64_w, i32_w]
                 rfl
                refine pure_ (i := 4) (N := some 107) (v := ?_) (a' := ?_) #[true, true, true, true, true, false, false, false, false, false, false, false, false, false, false, false, false, false, false, false, false, false, false, false, false, false] rfl rfl (any_of HT_.out (by kernel_rfl)) (fun _ _ _ h => h) (Or.inl ⟨by rfl, ?_⟩) ?_ ?_
                rotate_left
                ·intro w'
                 go_simp
                 with_reducible rfl
                rotate_left
                ·simp only [Act.put, List.setIfInBounds_toArray, List.set_cons_zero, List.set_cons_succ, i64_w, i32_w]
                 rfl
                refine pure_ (i := 5) (N := some 108) (v := ?_) (a' := ?_) #[true, true, true, true, true, true, false, false, false, false, false, false, false, false, false, false, false, false, false, false, false, false, false, false, false, false] rfl rfl (any_of HT_.out (by kernel_rfl)) (fun _ _ _ h => h) (Or.inl ⟨by rfl, ?_⟩) ?_ ?_
                rotate_left
                ·intro w'
                 go_simp
                 with_reducible rfl
                rotate_left
                ·simp only [Act.put, List.setIfInBounds_toArray, List.set_cons_zero, List.set_cons_succ, i64_w, i32_w]
                 rfl
                refine pure_ (i := 6) (N := some 109) (v := ?_) (a' := ?_) #[true, true, true, true, true, true, true, false, false, false, false, false, false, false, false, false, false, false, false, false, false, false, false, false, false, false] rfl rfl (any_of HT_.out (by kernel_rfl)) (fun _ _ _ h => h) (Or.inl ⟨by rfl, ?_⟩) ?_ ?_
                rotate_left
                ·intro w'
                 go_simp
                 with_reducible rfl
                rotate_left
                ·simp only [Act.put, List.setIfInBounds_toArray, List.set_cons_zero, List.set_cons_succ, i64_w, i32_w]
                 rfl
                refine pure_ (i := 7) (N := some 110) (v := ?_) (a' := ?_) #[true, true, true, true, true, true, true, true, false, false, false, false, false, false, false, false, false, false, false, false, false, false, false, false, false, false] rfl rfl (any_of HT_.out (by kernel_rfl)) (fun _ _ _ h => h) (Or.inl ⟨by rfl, ?_⟩) ?_ ?_
                rotate_left
                ·intro w'
                 go_simp
                 with_reducible rfl
                rotate_left
                ·simp only [Act.put, List.setIfInBounds_toArray, List.set_cons_zero, List.set_cons_succ, i64_w, i32_w]
                 rfl
                refine pure_ (i := 8) (N := some 111) (v := ?_) (a' := ?_) #[true, true, true, true, true, true, true, true, true, false, false, false, false, false, false, false, false, false, false, false, false, false, false, false, false, false] rfl rfl (any_of HT_.out (by kernel_rfl)) (fun _ _ _ h => h) (Or.inl ⟨by rfl, ?_⟩) ?_ ?_
                rotate_left
                ·intro w'
                 go_simp
                 with_reducible rfl
                rotate_left
                ·simp only [Act.put, List.setIfInBounds_toArray, List.set_cons_zero, List.set_cons_succ, i64_w, i32_w]
                 rfl
                refine pure_ (i := 11) (N := some 114) (v := ?_) (a' := ?_) #[true, true, true, true, true, true, true, true, true, false, false, true, false, false, false, false, false, false, false, false, false, false, false, false, false, false] rfl rfl (any_of HT_.out (by kernel_rfl)) (fun _ _ _ h => h) (Or.inl ⟨by rfl, ?_⟩) ?_ ?_
                rotate_left
                ·intro w'
                 go_simp
                 with_reducible rfl
                rotate_left
                ·simp only [Act.put, List.setIfInBounds_toArray, List.set_cons_zero, List.set_cons_succ, i64_w, i32_w]
                 rfl
                refine pure_ (i := 12) (N := some 115) (v := ?_) (a' := ?_) #[true, true, true, true, true, true, true, true, true, false, false, true, true, false, false, false, false, false, false, false, false, false, false, false, false, false] rfl rfl (any_of HT_.out (by kernel_rfl)) (fun _ _ _ h => h) (Or.inl ⟨by rfl, ?_⟩) ?_ ?_
                rotate_left
                ·intro w'
                 go_simp
                 with_reducible rfl
                rotate_left
                ·simp only [Act.put, List.setIfInBounds_toArray, List.set_cons_zero, List.set_cons_succ, i64_w, i32_w]
                 rfl
                refine pure_ (i := 13) (N := some 116) (v := ?_) (a' := ?_) #[true, true, true, true, true, true, true, true, true, false, false, true, true, true, false, false, false, false, false, false, false, false, false, false, false, false] rfl rfl (any_of HT_.out (by kernel_rfl)) (fun _ _ _ h => h) (Or.inl ⟨by rfl, ?_⟩) ?_ ?_
                rotate_left
                ·intro w'
                 go_simp
                 with_reducible rfl
                rotate_left
                ·simp only [Act.put, List.setIfInBounds_toArray, List.set_cons_zero, List.set_cons_succ, i64_w, i32_w]
                 rfl
                refine take_ (i := 9) (N := some 112) (v := ?_) (a' := ?_) #[true, true, true, true, true, true, true, true, true, true, false, true, true, true, false, false, false, false, false, false, false, false, false, false, false, false] rfl rfl (take_ofW HT_.out HW_.out (by kernel_rfl)) (fun _ _ _ h => h) (Or.inl ⟨by rfl, ?_⟩) hHeld ?_ ?_
                rotate_left
                ·rintro w' ⟨s0, s1, s2, s3⟩
                 go_simp
                 with_reducible rfl
                rotate_left
                ·simp only [Act.put, List.setIfInBounds_toArray, List.set_cons_zero, List.set_cons_succ, i64_w, i32_w]
                 rfl
                refine take_ (i := 14) (N := some 117) (v := ?_) (a' := ?_) #[true, true, true, true, true, true, true, true, true, true, false, true, true, true, true, false, false, false, false, false, false, false, false, false, false, false] rfl rfl (take_ofW HT_.out HW_.out (by kernel_rfl)) (fun _ _ _ h => h) (Or.inl ⟨by rfl, ?_⟩) hHeld ?_ ?_
                rotate_left
                ·rintro w' ⟨s0, s1, s2, s3⟩
                 go_simp
                 with_reducible rfl
                rotate_left
                ·simp only [Act.put, List.setIfInBounds_toArray, List.set_cons_zero, List.set_cons_succ, i64_w, i32_w]
                 rfl
                refine one_ (i := 10) (N := some 113) #[true, true, true, true, true, true, true, true, true, true, true, true, true, true, true, false, false, false, false, false, false, false, false, false, false, false] rfl rfl (one_of HT_.out (by kernel_rfl)) (by decide) (fun K hK => ?_)
                refine goes_ Tryd.func84 (by kernel_rfl) rfl #[.string (rdOf ByteArray.empty t1578 x16_3)] (by rfl) rfl rfl ma ?_
                with_reducible refine (impl_Trim.calls (rdOf ByteArray.empty t1578 x16_3) t1587 _ A57.out).mono ?_
                rintro e w62 ⟨rfl, hb⟩
                have HS0_ := (hb.cell (World.block_lt_of_cell? _ _ (hHeld.1))).trans (hHeld.1)
                have HS1_ := (hb.cell (World.block_lt_of_cell? _ _ (hHeld.2.1))).trans (hHeld.2.1)
                have HS2_ := (hb.cell (World.block_lt_of_cell? _ _ (hHeld.2.2.1))).trans (hHeld.2.2.1)
                have HS3_ := (hb.cell (World.block_lt_of_cell? _ _ (hHeld.2.2.2))).trans (hHeld.2.2.2)
                refine ⟨_, rfl, ?_⟩
                replace HO_15 := kr HO_15 hb
                replace HB := am (below_step bl hb)
                (try clear hb)
                (try clear hb2)
                (try clear hk)
                (try clear hi)
                refine hK.out _ _ ⟨HS0_, HS1_, HS2_, HS3_⟩ (fun hHeld => ?_)
                clear hK K
                refine norm_ (a' := ?_) ?_ ?_
                rotate_left
                ·show Act.put _ (some 113) _ = _
                 simp only [Act.put, List.setIfInBounds_toArray, List.set_cons_zero, List.set_cons_succ, i64_w, i32_w]
                 rfl
                refine pure_ (i := 15) (N := some 118) (v := ?_) (a' := ?_) #[true, true, true, true, true, true, true, true, true, true, true, true, true, true, true, true, false, false, false, false, false, false, false, false, false, false] rfl rfl (any_of HT_.out (by kernel_rfl)) (fun _ _ _ h => h) (Or.inl ⟨by rfl, ?_⟩) ?_ ?_
                rotate_left
                ·intro w'
                 go_simp
                 with_reducible rfl
                rotate_left
                ·simp only [Act.put, List.setIfInBounds_toArray, List.set_cons_zero, List.set_cons_succ, i64_w, i32_w]
                 rfl
                refine pure_ (i := 16) (N := some 119) (v := ?_) (a' := ?_) #[true, true, true, true, true, true, true, true, true, true, true, true, true, true, true, true, true, false, false, false, false, false, false, false, false, false] rfl rfl (any_of HT_.out (by kernel_rfl)) (fun _ _ _ h => h) (Or.inl ⟨by rfl, ?_⟩) ?_ ?_
                rotate_left
                ·intro w'
                 go_simp
                 with_reducible rfl
                rotate_left
                ·simp only [Act.put, List.setIfInBounds_toArray, List.set_cons_zero, List.set_cons_succ, i64_w, i32_w]
                 rfl
                refine pure_ (i := 17) (N := some 120) (v := ?_) (a' := ?_) #[true, true, true, true, true, true, true, true, true, true, true, true, true, true, true, true, true, true, false, false, false, false, false, false, false, false] rfl rfl (any_of HT_.out (by kernel_rfl)) (fun _ _ _ h => h) (Or.inl ⟨by rfl, ?_⟩) ?_ ?_
                rotate_left
                ·intro w'
                 go_simp
                 with_reducible rfl
                rotate_left
                ·simp only [Act.put, List.setIfInBounds_toArray, List.set_cons_zero, List.set_cons_succ, i64_w, i32_w]
                 rfl
                refine pure_ (i := 18) (N := some 121) (v := ?_) (a' := ?_) #[true, true, true, true, true, true, true, true, true, true, true, true, true, true, true, true, true, true, true, false, false, false, false, false, false, false] rfl rfl (any_of HT_.out (by kernel_rfl)) (fun _ _ _ h => h) (Or.inl ⟨by rfl, ?_⟩) ?_ ?_
                rotate_left
                ·intro w'
                 go_simp
                 with_reducible rfl
                rotate_left
                ·simp only [Act.put, List.setIfInBounds_toArray, List.set_cons_zero, List.set_cons_succ, i64_w, i32_w]
                 rfl
                refine pure_ (i := 19) (N := some 122) (v := ?_) (a' := ?_) #[true, true, true, true, true, true, true, true, true, true, true, true, true, true, true, true, true, true, true, true, false, false, false, false, false, false] rfl rfl (any_of HT_.out (by kernel_rfl)) (fun _ _ _ h => h) (Or.inl ⟨by rfl, ?_⟩) ?_ ?_
                rotate_left
                ·intro w'
                 go_simp
                 with_reducible rfl
                rotate_left
                ·simp only [Act.put, List.setIfInBounds_toArray, List.set_cons_zero, List.set_cons_succ, i64_w, i32_w]
                 rfl
                refine pure_ (i := 20) (N := some 123) (v := ?_) (a' := ?_) #[true, true, true, true, true, true, true, true, true, true, true, true, true, true, true, true, true, true, true, true, true, false, false, false, false, false] rfl rfl (any_of HT_.out (by kernel_rfl)) (fun _ _ _ h => h) (Or.inl ⟨by rfl, ?_⟩) ?_ ?_
                rotate_left
                ·intro w'
                 go_simp
                 with_reducible rfl
                rotate_left
                ·simp only [Act.put, List.setIfInBounds_toArray, List.set_cons_zero, List.set_cons_succ, i64_w, i32_w]
                 rfl
                refine take_ (i := 21) (N := some 124) (v := ?_) (a' := ?_) #[true, true, true, true, true, true, true, true, true, true, true, true, true, true, true, true, true, true, true, true, true, true, false, false, false, false] rfl rfl (take_ofW HT_.out HW_.out (by kernel_rfl)) (fun _ _ _ h => h) (Or.inl ⟨by rfl, ?_⟩) hHeld ?_ ?_
                rotate_left
                ·rintro w' ⟨s0, s1, s2, s3⟩
                 go_simp
                 with_reducible rfl
                rotate_left
                ·simp only [Act.put, List.setIfInBounds_toArray, List.set_cons_zero, List.set_cons_succ, i64_w, i32_w]
                 rfl
                refine one_ (i := 22) (N := some 125) #[true, true, true, true, true, true, true, true, true, true, true, true, true, true, true, true, true, true, true, true, true, true, true, false, false, false] rfl rfl (one_of HT_.out (by kernel_rfl)) (by decide) (fun K hK => ?_)
                refine goes_ Tryd.func87 (by kernel_rfl) rfl #[.string (rdOf ByteArray.empty t1578 x16_3)] (by rfl) rfl rfl ma ?_
                with_reducible refine (impl_Split.calls k3 (rdOf ByteArray.empty t1578 x16_3) t1590 _ ?side1 A59.out).mono ?_
                (case side1 => exact GLOBM.below HGM.out bl)
                rintro e w63 ⟨v1591, rfl, ho0, hb⟩
                have HS0_ := (hb.cell (World.block_lt_of_cell? _ _ (hHeld.1))).trans (hHeld.1)
                have HS1_ := (hb.cell (World.block_lt_of_cell? _ _ (hHeld.2.1))).trans (hHeld.2.1)
                have HS2_ := (hb.cell (World.block_lt_of_cell? _ _ (hHeld.2.2.1))).trans (hHeld.2.2.1)
                have HS3_ := (hb.cell (World.block_lt_of_cell? _ _ (hHeld.2.2.2))).trans (hHeld.2.2.2)
                refine ⟨_, rfl, ?_⟩
                have HO1592 := am (Kd.R_lower (Kd.R_new' ho0 (Kd.R_lt (ro HO_15))) (below_size bl))
                replace HO_15 := am (Kd.R_elder' (ro HO_15) (Kd.R_base ho0) hb)
                replace HB := am (below_step bl hb)
                (try clear hb)
                (try clear hb2)
                (try clear hk)
                (try clear hi)
                (try clear ho0)
                obtain ⟨Ao64, co64, eo64⟩ := Kd.R_slice HO1592.out
                (first | subst eo64 | (injection eo64 with f1_ f2_ f3_; have f4_ := f1_.symm; have f5_ := f3_.symm; clear f1_ f2_ f3_; subst f4_; subst f5_))
                refine hK.out _ _ ⟨HS0_, HS1_, HS2_, HS3_⟩ (fun hHeld => ?_)
                clear hK K
                refine norm_ (a' := ?_) ?_ ?_
                rotate_left
                ·show Act.put _ (some 125) _ = _
                 simp only [Act.put, List.setIfInBounds_toArray, List.set_cons_zero, List.set_cons_succ, i64_w, i32_w]
                 rfl
                refine pure_ (i := 23) (N := some 126) (v := ?_) (a' := ?_) #[true, true, true, true, true, true, true, true, true, true, true, true, true, true, true, true, true, true, true, true, true, true, true, true, false, false] rfl rfl (any_of HT_.out (by kernel_rfl)) (fun _ _ _ h => h) (Or.inl ⟨by rfl, ?_⟩) ?_ ?_
                rotate_left
                ·intro w'
                 go_simp
                 with_reducible rfl
                rotate_left
                ·simp only [Act.put, List.setIfInBounds_toArray, List.set_cons_zero, List.set_cons_succ, i64_w, i32_w]
                 rfl
                refine pure_ (i := 24) (N := some 127) (v := ?_) (a' := ?_) #[true, true, true, true, true, true, true, true, true, true, true, true, true, true, true, true, true, true, true, true, true, true, true, true, true, false] rfl rfl (any_of HT_.out (by kernel_rfl)) (fun _ _ _ h => h) (Or.inl ⟨by rfl, ?_⟩) ?_ ?_
                rotate_left
                ·intro w'
                 go_simp
                 with_reducible rfl
                rotate_left
                ·simp only [Act.put, List.setIfInBounds_toArray, List.set_cons_zero, List.set_cons_succ, i64_w, i32_w]
                 rfl
                refine pure_ (i := 25) (N := some 128) (v := ?_) (a' := ?_) #[true, true, true, true, true, true, true, true, true, true, true, true, true, true, true, true, true, true, true, true, true, true, true, true, true, true] rfl rfl (any_of HT_.out (by kernel_rfl)) (fun _ _ _ h => h) (Or.inl ⟨by rfl, ?_⟩) ?_ ?_
                rotate_left
                ·intro w'
                 go_simp
                 with_reducible rfl
                rotate_left
                ·simp only [Act.put, List.setIfInBounds_toArray, List.set_cons_zero, List.set_cons_succ, i64_w, i32_w]
                 rfl
                refine done_ (done_of HT_.out (by kernel_rfl)) ?_
                try go_wp2
                go_roundg k3
                case measure => have := HJ7.out; have := HJ21.out; have := HK3.out; omega
                case rel => exact ⟨(wrap64 (x16_3 + 1)), rs, H', ⟨by have := HJ7.out; have := HJ21.out; have := HK3.out; omega⟩, ⟨by (with_reducible repeat (first | apply Kd.R_alloc | apply Kd.R_drewN | apply Kd.R_drew)); exact Kd.R_mono HO_15.out (fun _ hk => trivial)⟩, ⟨by repeat (first | (with_reducible first | exact HB.out | apply below_alloc | apply pw_below_drewN | apply below_drew1) | exact HB.out)⟩⟩
               ·rw [if_neg c60] at H
                have c60b0 : ((t1590.length : Int) == 1) = false := beq_eq_false_iff_ne.mpr c60
                have c60b1 : ((t1590.length : Int) != 1) = true := bne_iff_ne.mpr c60
                exact absurd (Option.some.inj H) (by rw [ht_]; decide)
              ·rw [if_neg c58] at H
               have c58b0 : (t1587.toList == (rdOf ByteArray.empty t1578 x16_3).toList) = false := beq_eq_false_iff_ne.mpr c58
               have c58b1 : (t1587.toList != (rdOf ByteArray.empty t1578 x16_3).toList) = true := bne_iff_ne.mpr c58
               exact absurd (Option.some.inj H) (by rw [ht_]; decide)
            ·rw [if_neg c55] at H
             exact absurd H (by simp)
           ·rw [if_neg c54] at H
            have c54b0 : decide (x16_3 < (t1578.length : Int)) = false := decide_eq_false c54
            clear c54
            obtain rfl := Option.some.inj H
            go_wp2
            go_ret
            exact ⟨rf, bl⟩
        ·replace c48 := Bool.eq_false_iff.mpr c48
         subst c48
         have H1 : (some false) = some r := by rw [if_neg (show ¬ (false = true) by decide)] at H; exact H
         clear H
         have H := H1
         clear H1
         exact absurd (Option.some.inj H) (by rw [ht_]; decide)
  ·rw [if_neg c7] at H
   have c7b0 : (t1561.toList == t1562.toList) = false := beq_eq_false_iff_ne.mpr c7
   have c7b1 : (t1561.toList != t1562.toList) = true := bne_iff_ne.mpr c7
   exact absurd (Option.some.inj H) (by rw [ht_]; decide)

end Go.Proofs.YtiinmfjbildclaaDoor.All
