-- Written by a program of this session (wip/tools/hprint.py) out of the translation. Lean checks it.
import Derived.Test.YtogdmlgbdbgpkaaDoorAllx0
import Derived.Test.YtogdmlgbdbgpkaaDoorAllx9
import Derived.Test.YtogdmlgbdbgpkaaDoorAllx14
import Derived.Test.YtogdmlgbdbgpkaaDoorAllx23
import Derived.Test.YtogdmlgbdbgpkaaDoorAllx28
import Derived.Test.YtogdmlgbdbgpkaaDoorAllx32
import Derived.Test.YtogdmlgbdbgpkaaDoorAllx33
namespace Go.Proofs.YtogdmlgbdbgpkaaDoor.All
open Go.RowKit Go.Proofs.YtogdmlgbdbgpkaaDoorW.PrintWords Go.Proofs.YtogdmlgbdbgpkaaDoorW.PrintLast Go.Proofs.YtogdmlgbdbgpkaaDoorW.PrintMore
attribute [local go_sem] max2_int min2_int max_two min_two max_three min_three max_four min_four   -- for this text's walks alone
set_option linter.unusedVariables false
set_option linter.unusedSimpArgs false

/-! ### laws_FnFields: function 12 -/
mutual
def laws_FnFields.j0 : Nat → List Int → List (S78) → ByteArray → ByteArray → List (S78) → Bool → Option (Bool)
  | 0, _, _, _, _, _, _ => none
  | k + 1, x0, x3, x4, x5, x6, x48 => if x48 = true then (some false) else ((impl_Get.f x6 x4).bind fun bt807 => (if bt807.2 = true then (laws_FnFields.j1 k x0 x3 x4 x6 (bt807.1.toList != x5.toList)) else (laws_FnFields.j1 k x0 x3 x4 x6 true)))
def laws_FnFields.j1 : Nat → List Int → List (S78) → ByteArray → List (S78) → Bool → Option (Bool)
  | 0, _, _, _, _, _ => none
  | k + 1, x0, x3, x4, x6, x61 => if x61 = true then (some false) else (laws_FnFields.l0 k x0 x3 x4 x6 0)
def laws_FnFields.l0 : Nat → List Int → List (S78) → ByteArray → List (S78) → Int → Option (Bool)
  | 0, _, _, _, _, _ => none
  | k + 1, x0, x3, x4, x6, x9 => if x9 < (x3.length : Int) then (if 0 ≤ x9 then ((impl_Get.f x3 ((rd_T78 x3 x9).f0)).bind fun bt810 => ((impl_Get.f x6 ((rd_T78 x3 x9).f0)).bind fun bt813 => (if ((rd_T78 x3 x9).f0).toList = x4.toList then (laws_FnFields.l0 k x0 x3 x4 x6 (wrap64 (x9 + 1))) else (if bt810.1.toList = bt813.1.toList then (if (bt810.2 != bt813.2) = true then (some false) else (laws_FnFields.l0 k x0 x3 x4 x6 (wrap64 (x9 + 1)))) else (some false))))) else (none)) else ((impl_Drop.f x3 x4).bind fun t816 => ((impl_Get.f t816 x4).bind fun bt819 => ((spec_DrawGet.f k x0).bind fun bt821 => ((impl_Get.f bt821.1 bt821.2).bind fun bt825 => ((spec_Get.f k bt821.1 bt821.2).bind fun bt827 => ((spec_Drop.f k x3 x4).bind fun t829 => ((laws_sameFields.f k t816 t829).bind fun t832 => (if t832 = true then (if bt819.2 = true then ((impl_FieldsOk.f k x3).bind fun t833 => (if t833 = true then (some false) else (if bt825.1.toList = bt827.1.toList then (if (bt825.2 == bt827.2) = true then ((impl_FieldsText.f x3).bind fun t834 => ((spec_FieldsText.f k x3).bind fun t835 => (some (t834.toList == t835.toList)))) else (some false)) else (some false)))) else (if bt825.1.toList = bt827.1.toList then (if (bt825.2 == bt827.2) = true then ((impl_FieldsText.f x3).bind fun t836 => ((spec_FieldsText.f k x3).bind fun t837 => (some (t836.toList == t837.toList)))) else (some false)) else (some false))) else (some false)))))))))
end
def laws_FnFields.f (k : Nat) (l0 : List Int) : Option (Bool) := (laws_big.f l0).bind fun t792 => (if t792 = true then (some true) else ((spec_DrawPut.f k l0).bind fun bt793 => ((impl_Put.f bt793.1 bt793.2.1 bt793.2.2).bind fun t798 => ((spec_Put.f k bt793.1 bt793.2.1 bt793.2.2).bind fun t801 => ((laws_sameFields.f k t798 t801).bind fun t804 => (if t804 = true then ((impl_FieldsOk.f k bt793.1).bind fun t805 => ((spec_FieldsOk.f k bt793.1).bind fun t806 => (laws_FnFields.j0 k l0 bt793.1 bt793.2.1 bt793.2.2 t798 (t805 != t806)))) else (laws_FnFields.j0 k l0 bt793.1 bt793.2.1 bt793.2.2 t798 true)))))))
theorem laws_FnFields.mono_l : ∀ k, (∀ y0 y1 y2 y3 y4 y5, LeO (laws_FnFields.j0 k y0 y1 y2 y3 y4 y5) (laws_FnFields.j0 (k + 1) y0 y1 y2 y3 y4 y5)) ∧ (∀ y0 y1 y2 y3 y4, LeO (laws_FnFields.j1 k y0 y1 y2 y3 y4) (laws_FnFields.j1 (k + 1) y0 y1 y2 y3 y4)) ∧ (∀ y0 y1 y2 y3 y4, LeO (laws_FnFields.l0 k y0 y1 y2 y3 y4) (laws_FnFields.l0 (k + 1) y0 y1 y2 y3 y4))
  | 0 => ⟨fun _ _ _ _ _ _ r h => by simp [laws_FnFields.j0] at h, fun _ _ _ _ _ r h => by simp [laws_FnFields.j1] at h, fun _ _ _ _ _ r h => by simp [laws_FnFields.l0] at h⟩
  | k + 1 => by
    obtain ⟨ih0, ih1, ih2⟩ := laws_FnFields.mono_l k
    refine ⟨?_, ?_, ?_⟩
    · intro y0 y1 y2 y3 y4 y5
      unfold laws_FnFields.j0
      repeat' first
      | (with_reducible exact ih0 _ _ _ _ _ _)
      | (with_reducible exact ih1 _ _ _ _ _)
      | (with_reducible exact ih2 _ _ _ _ _)
      | (with_reducible exact impl_FieldsOk.mono _ _)
      | (with_reducible exact laws_sameFields.mono _ _ _)
      | (with_reducible exact spec_DrawGet.mono _ _)
      | (with_reducible exact spec_DrawPut.mono _ _)
      | (with_reducible exact spec_Drop.mono _ _ _)
      | (with_reducible exact spec_FieldsOk.mono _ _)
      | (with_reducible exact spec_FieldsText.mono _ _)
      | (with_reducible exact spec_Get.mono _ _ _)
      | (with_reducible exact spec_Put.mono _ _ _ _)
      | (with_reducible exact LeO.refl _)
      | (with_reducible exact LeO.none _)
      | (with_reducible refine LeO.ite ?_ ?_)
      | (with_reducible refine LeO.bind ?_ (fun _ => ?_))
      | exact ih0 _ _ _ _ _ _
      | exact ih1 _ _ _ _ _
      | exact ih2 _ _ _ _ _
      | exact impl_FieldsOk.mono _ _
      | exact laws_sameFields.mono _ _ _
      | exact spec_DrawGet.mono _ _
      | exact spec_DrawPut.mono _ _
      | exact spec_Drop.mono _ _ _
      | exact spec_FieldsOk.mono _ _
      | exact spec_FieldsText.mono _ _
      | exact spec_Get.mono _ _ _
      | exact spec_Put.mono _ _ _ _
      | exact LeO.none _
      | refine LeO.ite ?_ ?_
      | refine LeO.bind ?_ (fun _ => ?_)
    · intro y0 y1 y2 y3 y4
      unfold laws_FnFields.j1
      repeat' first
      | (with_reducible exact ih0 _ _ _ _ _ _)
      | (with_reducible exact ih1 _ _ _ _ _)
      | (with_reducible exact ih2 _ _ _ _ _)
      | (with_reducible exact impl_FieldsOk.mono _ _)
      | (with_reducible exact laws_sameFields.mono _ _ _)
      | (with_reducible exact spec_DrawGet.mono _ _)
      | (with_reducible exact spec_DrawPut.mono _ _)
      | (with_reducible exact spec_Drop.mono _ _ _)
      | (with_reducible exact spec_FieldsOk.mono _ _)
      | (with_reducible exact spec_FieldsText.mono _ _)
      | (with_reducible exact spec_Get.mono _ _ _)
      | (with_reducible exact spec_Put.mono _ _ _ _)
      | (with_reducible exact LeO.refl _)
      | (with_reducible exact LeO.none _)
      | (with_reducible refine LeO.ite ?_ ?_)
      | (with_reducible refine LeO.bind ?_ (fun _ => ?_))
      | exact ih0 _ _ _ _ _ _
      | exact ih1 _ _ _ _ _
      | exact ih2 _ _ _ _ _
      | exact impl_FieldsOk.mono _ _
      | exact laws_sameFields.mono _ _ _
      | exact spec_DrawGet.mono _ _
      | exact spec_DrawPut.mono _ _
      | exact spec_Drop.mono _ _ _
      | exact spec_FieldsOk.mono _ _
      | exact spec_FieldsText.mono _ _
      | exact spec_Get.mono _ _ _
      | exact spec_Put.mono _ _ _ _
      | exact LeO.none _
      | refine LeO.ite ?_ ?_
      | refine LeO.bind ?_ (fun _ => ?_)
    · intro y0 y1 y2 y3 y4
      unfold laws_FnFields.l0
      repeat' first
      | (with_reducible exact ih0 _ _ _ _ _ _)
      | (with_reducible exact ih1 _ _ _ _ _)
      | (with_reducible exact ih2 _ _ _ _ _)
      | (with_reducible exact impl_FieldsOk.mono _ _)
      | (with_reducible exact laws_sameFields.mono _ _ _)
      | (with_reducible exact spec_DrawGet.mono _ _)
      | (with_reducible exact spec_DrawPut.mono _ _)
      | (with_reducible exact spec_Drop.mono _ _ _)
      | (with_reducible exact spec_FieldsOk.mono _ _)
      | (with_reducible exact spec_FieldsText.mono _ _)
      | (with_reducible exact spec_Get.mono _ _ _)
      | (with_reducible exact spec_Put.mono _ _ _ _)
      | (with_reducible exact LeO.refl _)
      | (with_reducible exact LeO.none _)
      | (with_reducible refine LeO.ite ?_ ?_)
      | (with_reducible refine LeO.bind ?_ (fun _ => ?_))
      | exact ih0 _ _ _ _ _ _
      | exact ih1 _ _ _ _ _
      | exact ih2 _ _ _ _ _
      | exact impl_FieldsOk.mono _ _
      | exact laws_sameFields.mono _ _ _
      | exact spec_DrawGet.mono _ _
      | exact spec_DrawPut.mono _ _
      | exact spec_Drop.mono _ _ _
      | exact spec_FieldsOk.mono _ _
      | exact spec_FieldsText.mono _ _
      | exact spec_Get.mono _ _ _
      | exact spec_Put.mono _ _ _ _
      | exact LeO.none _
      | refine LeO.ite ?_ ?_
      | refine LeO.bind ?_ (fun _ => ?_)
theorem laws_FnFields.mono : ∀ a0 k, LeO (laws_FnFields.f k a0) (laws_FnFields.f (k + 1) a0) := by
  intro a0 k
  obtain ⟨ih0, ih1, ih2⟩ := laws_FnFields.mono_l k
  unfold laws_FnFields.f
  repeat' first
      | (with_reducible exact ih0 _ _ _ _ _ _)
      | (with_reducible exact ih1 _ _ _ _ _)
      | (with_reducible exact ih2 _ _ _ _ _)
      | (with_reducible exact impl_FieldsOk.mono _ _)
      | (with_reducible exact laws_sameFields.mono _ _ _)
      | (with_reducible exact spec_DrawGet.mono _ _)
      | (with_reducible exact spec_DrawPut.mono _ _)
      | (with_reducible exact spec_Drop.mono _ _ _)
      | (with_reducible exact spec_FieldsOk.mono _ _)
      | (with_reducible exact spec_FieldsText.mono _ _)
      | (with_reducible exact spec_Get.mono _ _ _)
      | (with_reducible exact spec_Put.mono _ _ _ _)
      | (with_reducible exact LeO.refl _)
      | (with_reducible exact LeO.none _)
      | (with_reducible refine LeO.ite ?_ ?_)
      | (with_reducible refine LeO.bind ?_ (fun _ => ?_))
      | exact ih0 _ _ _ _ _ _
      | exact ih1 _ _ _ _ _
      | exact ih2 _ _ _ _ _
      | exact impl_FieldsOk.mono _ _
      | exact laws_sameFields.mono _ _ _
      | exact spec_DrawGet.mono _ _
      | exact spec_DrawPut.mono _ _
      | exact spec_Drop.mono _ _ _
      | exact spec_FieldsOk.mono _ _
      | exact spec_FieldsText.mono _ _
      | exact spec_Get.mono _ _ _
      | exact spec_Put.mono _ _ _ _
      | exact LeO.none _
      | refine LeO.ite ?_ ?_
      | refine LeO.bind ?_ (fun _ => ?_)
set_option maxHeartbeats 8000000 in
set_option maxRecDepth 100000 in
theorem laws_FnFields.calls (k : Nat) (A0 : Option Addr) (c0 : Nat) (l0 : List Int) (r : Bool) (w : World) (hr0 : Kd.C (Kd.int .u8) w A0 l0.length l0) (hc0 : l0.length ≤ c0) (ht_ : r = true) (h : laws_FnFields.f k l0 = some r) :
    Calls Tryd.prog 12 #[.slice A0 l0.length c0] w fun e w' => e = .returned (.bool r) ∧ Below w.heap.size w w' := by
  have HR0 := Aside0.mk hr0
  have HC0 := Aside0.mk hc0
  clear hr0 hc0
  have HB := Aside0.mk (Below.refl w.heap.size w)
  have H : ((laws_big.f l0).bind fun t792 => (if t792 = true then (some true) else ((spec_DrawPut.f k l0).bind fun bt793 => ((impl_Put.f bt793.1 bt793.2.1 bt793.2.2).bind fun t798 => ((spec_Put.f k bt793.1 bt793.2.1 bt793.2.2).bind fun t801 => ((laws_sameFields.f k t798 t801).bind fun t804 => (if t804 = true then ((impl_FieldsOk.f k bt793.1).bind fun t805 => ((spec_FieldsOk.f k bt793.1).bind fun t806 => (laws_FnFields.j0 k l0 bt793.1 bt793.2.1 bt793.2.2 t798 (t805 != t806)))) else (laws_FnFields.j0 k l0 bt793.1 bt793.2.1 bt793.2.2 t798 true)))))))) = some r := h
  clear h
  replace H := Option.bind_eq_some_iff.mp H
  obtain ⟨t792, A20, H⟩ := H
  replace H : (if t792 = true then (some true) else ((spec_DrawPut.f k l0).bind fun bt793 => ((impl_Put.f bt793.1 bt793.2.1 bt793.2.2).bind fun t798 => ((spec_Put.f k bt793.1 bt793.2.1 bt793.2.2).bind fun t801 => ((laws_sameFields.f k t798 t801).bind fun t804 => (if t804 = true then ((impl_FieldsOk.f k bt793.1).bind fun t805 => ((spec_FieldsOk.f k bt793.1).bind fun t806 => (laws_FnFields.j0 k l0 bt793.1 bt793.2.1 bt793.2.2 t798 (t805 != t806)))) else (laws_FnFields.j0 k l0 bt793.1 bt793.2.1 bt793.2.2 t798 true))))))) = some r := H
  have A2 := Aside0.mk A20
  clear A20
  by_cases c3 : t792 = true
  · subst c3
    have H1 : (some true) = some r := by rw [if_pos rfl] at H; exact H
    clear H
    have H := H1
    clear H1
    obtain rfl := Option.some.inj H
    go_enter Tryd.func12, Tryd.ntmps12
    go_wp2_with (first | ((with_reducible refine gate_callee (f := 24) rfl ?_); refine goesL_ (some 24) rfl rfl Tryd.func24 (by kernel_rfl) rfl #[.slice A0 l0.length c0] rfl ma ?_; (with_reducible refine (laws_big.calls _ _ l0 true _ ?side1 ?side2 A2.out).mono ?_); (case side1 => repeat (first | exact HR0.out | (with_reducible refine Kd.C_alloc ?_ _) | (with_reducible refine Kd.C_drewN ?_ _) | (with_reducible refine Kd.C_drew ?_))); (case side2 => exact HC0.out); rintro e w' ⟨rfl, ⟨nd, rfl⟩⟩; refine ⟨_, rfl, ?_⟩))
    go_ret
    exact ⟨rf, bl⟩
  · replace c3 := Bool.eq_false_iff.mpr c3
    subst c3
    have H1 : ((spec_DrawPut.f k l0).bind fun bt793 => ((impl_Put.f bt793.1 bt793.2.1 bt793.2.2).bind fun t798 => ((spec_Put.f k bt793.1 bt793.2.1 bt793.2.2).bind fun t801 => ((laws_sameFields.f k t798 t801).bind fun t804 => (if t804 = true then ((impl_FieldsOk.f k bt793.1).bind fun t805 => ((spec_FieldsOk.f k bt793.1).bind fun t806 => (laws_FnFields.j0 k l0 bt793.1 bt793.2.1 bt793.2.2 t798 (t805 != t806)))) else (laws_FnFields.j0 k l0 bt793.1 bt793.2.1 bt793.2.2 t798 true)))))) = some r := by rw [if_neg (show ¬ (false = true) by decide)] at H; exact H
    clear H
    have H := H1
    clear H1
    replace H := Option.bind_eq_some_iff.mp H
    obtain ⟨⟨t793, t794, t795⟩, A40, H⟩ := H
    replace H : ((impl_Put.f t793 t794 t795).bind fun t798 => ((spec_Put.f k t793 t794 t795).bind fun t801 => ((laws_sameFields.f k t798 t801).bind fun t804 => (if t804 = true then ((impl_FieldsOk.f k t793).bind fun t805 => ((spec_FieldsOk.f k t793).bind fun t806 => (laws_FnFields.j0 k l0 t793 t794 t795 t798 (t805 != t806)))) else (laws_FnFields.j0 k l0 t793 t794 t795 t798 true))))) = some r := H
    have A4 := Aside0.mk A40
    clear A40
    replace H := Option.bind_eq_some_iff.mp H
    obtain ⟨t798, A50, H⟩ := H
    replace H : ((spec_Put.f k t793 t794 t795).bind fun t801 => ((laws_sameFields.f k t798 t801).bind fun t804 => (if t804 = true then ((impl_FieldsOk.f k t793).bind fun t805 => ((spec_FieldsOk.f k t793).bind fun t806 => (laws_FnFields.j0 k l0 t793 t794 t795 t798 (t805 != t806)))) else (laws_FnFields.j0 k l0 t793 t794 t795 t798 true)))) = some r := H
    have A5 := Aside0.mk A50
    clear A50
    have HC6 := Aside0.mk H
    clear H
    go_enter Tryd.func12, Tryd.ntmps12
    go_upto_region 5 with (first | ((with_reducible refine gate_callee (f := 24) rfl ?_); refine goesL_ (some 24) rfl rfl Tryd.func24 (by kernel_rfl) rfl #[.slice A0 l0.length c0] rfl ma ?_; (with_reducible refine (laws_big.calls _ _ l0 false _ ?side1 ?side2 A2.out).mono ?_); (case side1 => repeat (first | exact HR0.out | (with_reducible refine Kd.C_alloc ?_ _) | (with_reducible refine Kd.C_drewN ?_ _) | (with_reducible refine Kd.C_drew ?_))); (case side2 => exact HC0.out); rintro e w' ⟨rfl, ⟨nd, rfl⟩⟩; refine ⟨_, rfl, ?_⟩) | ((with_reducible refine gate_callee (f := 59) rfl ?_); refine goesL_ (some 27) rfl rfl Tryd.func59 (by kernel_rfl) rfl #[.slice A0 l0.length c0] rfl ma ?_; (with_reducible refine (spec_DrawPut.calls k _ _ l0 t793 t794 t795 _ ?side1 ?side2 A4.out).mono ?_); (case side1 => repeat (first | exact HR0.out | (with_reducible refine Kd.C_alloc ?_ _) | (with_reducible refine Kd.C_drewN ?_ _) | (with_reducible refine Kd.C_drew ?_))); (case side2 => exact HC0.out); rintro e w7 ⟨v796, rfl, ho0, hb⟩; refine ⟨_, rfl, ?_⟩; have HO797 := Aside0.mk (Kd.R_lower ho0 (below_size bl)); replace HB := Aside0.mk (below_step bl hb); (try clear hb); (try clear hb2); (try clear hk); (try clear hi); (try clear ho0); obtain ⟨Ao8, co8, eo8⟩ := Kd.R_slice HO797.out; subst eo8) | ((with_reducible refine gate_callee (f := 60) rfl ?_); refine goesL_ (some 34) rfl rfl Tryd.func60 (by kernel_rfl) rfl #[.slice Ao8 t793.length co8, .string t794, .string t795] rfl ma ?_; (with_reducible refine (impl_Put.calls _ _ t793 t794 t795 t798 _ ?side1 ?side2 A5.out).mono ?_); (case side1 => repeat (first | exact (Kd.R_reads' HO797.out).2.2 | (with_reducible refine Kd.C_alloc ?_ _) | (with_reducible refine Kd.C_drewN ?_ _) | (with_reducible refine Kd.C_drew ?_))); (case side2 => exact (Kd.R_reads' HO797.out).2.1); rintro e w9 ⟨v799, rfl, ho0, hb⟩; refine ⟨_, rfl, ?_⟩; have HO800 := Aside0.mk (Kd.R_lower (Kd.R_new' ho0 (Kd.R_lt (ro HO797))) (below_size bl)); replace HO797 := Aside0.mk (Kd.R_elder' (ro HO797) (Kd.R_base ho0) hb); replace HB := Aside0.mk (below_step bl hb); (try clear hb); (try clear hb2); (try clear hk); (try clear hi); (try clear ho0)))
    (try simp only [Act.put, List.setIfInBounds_toArray, List.set_cons_zero, List.set_cons_succ])
    go_cut [48] (fun v48 wc => ∃ (kq : Nat) (x48_5 : Bool), v48 = .bool x48_5 ∧ Aside0 (laws_FnFields.j0 kq l0 t793 t794 t795 t798 x48_5 = some r) ∧ Aside0 (kq ≤ k) ∧ Aside0 (Kd.R k78 78 wc w.heap.size (fun k_ => some k_ ≠ (v799 : Value).ownBlock) (.slice Ao8 t793.length co8) t793) ∧ Aside0 (Kd.R k78 78 wc w.heap.size (fun k_ => some k_ ≠ ((.slice Ao8 t793.length co8) : Value).ownBlock) v799 t798) ∧ Aside0 (Below w.heap.size w wc))
    case first =>
      have H := HC6.out
      clear HC6
      replace H := Option.bind_eq_some_iff.mp H
      obtain ⟨t801, A100, H⟩ := H
      replace H : ((laws_sameFields.f k t798 t801).bind fun t804 => (if t804 = true then ((impl_FieldsOk.f k t793).bind fun t805 => ((spec_FieldsOk.f k t793).bind fun t806 => (laws_FnFields.j0 k l0 t793 t794 t795 t798 (t805 != t806)))) else (laws_FnFields.j0 k l0 t793 t794 t795 t798 true))) = some r := H
      have A10 := Aside0.mk A100
      clear A100
      replace H := Option.bind_eq_some_iff.mp H
      obtain ⟨t804, A110, H⟩ := H
      replace H : (if t804 = true then ((impl_FieldsOk.f k t793).bind fun t805 => ((spec_FieldsOk.f k t793).bind fun t806 => (laws_FnFields.j0 k l0 t793 t794 t795 t798 (t805 != t806)))) else (laws_FnFields.j0 k l0 t793 t794 t795 t798 true)) = some r := H
      have A11 := Aside0.mk A110
      clear A110
      by_cases c12 : t804 = true
      · subst c12
        have H1 : ((impl_FieldsOk.f k t793).bind fun t805 => ((spec_FieldsOk.f k t793).bind fun t806 => (laws_FnFields.j0 k l0 t793 t794 t795 t798 (t805 != t806)))) = some r := by rw [if_pos rfl] at H; exact H
        clear H
        have H := H1
        clear H1
        replace H := Option.bind_eq_some_iff.mp H
        obtain ⟨t805, A130, H⟩ := H
        replace H : ((spec_FieldsOk.f k t793).bind fun t806 => (laws_FnFields.j0 k l0 t793 t794 t795 t798 (t805 != t806))) = some r := H
        have A13 := Aside0.mk A130
        clear A130
        replace H := Option.bind_eq_some_iff.mp H
        obtain ⟨t806, A140, H⟩ := H
        replace H : (laws_FnFields.j0 k l0 t793 t794 t795 t798 (t805 != t806)) = some r := H
        have A14 := Aside0.mk A140
        clear A140
        have H' := Aside0.mk H
        clear H
        go_wp2_with (first | ((with_reducible refine gate_callee (f := 62) rfl ?_); refine goesL_ (some 39) rfl rfl Tryd.func62 (by kernel_rfl) rfl #[.slice Ao8 t793.length co8, .string t794, .string t795] rfl ma ?_; (with_reducible refine (spec_Put.calls k _ _ t793 t794 t795 t801 _ ?side1 ?side2 A10.out).mono ?_); (case side1 => repeat (first | exact (Kd.R_reads' HO797.out).2.2 | (with_reducible refine Kd.C_alloc ?_ _) | (with_reducible refine Kd.C_drewN ?_ _) | (with_reducible refine Kd.C_drew ?_))); (case side2 => exact (Kd.R_reads' HO797.out).2.1); rintro e w15 ⟨v802, rfl, ho0, hb⟩; refine ⟨_, rfl, ?_⟩; have HO803 := Aside0.mk (Kd.R_lower (Kd.R_new' (Kd.R_new' ho0 (Kd.R_lt (ro HO797))) (Kd.R_lt (ro HO800))) (below_size bl)); replace HO797 := Aside0.mk (Kd.R_elder' (ro HO797) (Kd.R_base ho0) hb); replace HO800 := Aside0.mk (Kd.R_elder' (ro HO800) (Kd.R_base ho0) hb); replace HB := Aside0.mk (below_step bl hb); (try clear hb); (try clear hb2); (try clear hk); (try clear hi); (try clear ho0); obtain ⟨Ao16, co16, eo16⟩ := Kd.R_slice HO800.out; subst eo16; obtain ⟨Ao17, co17, eo17⟩ := Kd.R_slice HO803.out; subst eo17) | ((with_reducible refine gate_callee (f := 61) rfl ?_); refine goesL_ (some 40) rfl rfl Tryd.func61 (by kernel_rfl) rfl #[.slice Ao16 t798.length co16, .slice Ao17 t801.length co17] rfl ma ?_; (with_reducible refine (laws_sameFields.calls k _ _ t798 _ _ t801 true _ ?side1 ?side2 ?side3 ?side4 A11.out).mono ?_); (case side1 => repeat (first | exact (Kd.R_reads' HO800.out).2.2 | (with_reducible refine Kd.C_alloc ?_ _) | (with_reducible refine Kd.C_drewN ?_ _) | (with_reducible refine Kd.C_drew ?_))); (case side2 => exact (Kd.R_reads' HO800.out).2.1); (case side3 => repeat (first | exact (Kd.R_reads' HO803.out).2.2 | (with_reducible refine Kd.C_alloc ?_ _) | (with_reducible refine Kd.C_drewN ?_ _) | (with_reducible refine Kd.C_drew ?_))); (case side4 => exact (Kd.R_reads' HO803.out).2.1); rintro e w' ⟨rfl, ⟨nd, rfl⟩⟩; refine ⟨_, rfl, ?_⟩) | (go_at_call 38; (with_reducible refine (impl_FieldsOk.calls k _ _ t793 t805 _ ?side1 ?side2 A13.out).mono ?_); (case side1 => repeat (first | exact (Kd.R_reads' HO797.out).2.2 | (with_reducible refine Kd.C_alloc ?_ _) | (with_reducible refine Kd.C_drewN ?_ _) | (with_reducible refine Kd.C_drew ?_))); (case side2 => exact (Kd.R_reads' HO797.out).2.1); rintro e w18 ⟨rfl, hb⟩; replace HO797 := kr HO797 hb; replace HO800 := kr HO800 hb; replace HO803 := kr HO803 hb; replace HB := Aside0.mk (below_step bl hb); (try clear hb); (try clear hb2); (try clear hk); (try clear hi)) | (go_at_call 36; (with_reducible refine (spec_FieldsOk.calls k _ _ t793 t806 _ ?side1 ?side2 A14.out).mono ?_); (case side1 => repeat (first | exact (Kd.R_reads' HO797.out).2.2 | (with_reducible refine Kd.C_alloc ?_ _) | (with_reducible refine Kd.C_drewN ?_ _) | (with_reducible refine Kd.C_drew ?_))); (case side2 => exact (Kd.R_reads' HO797.out).2.1); rintro e w' ⟨rfl, ⟨nd, rfl⟩⟩))
        go_meet
        case rel => exact ⟨_, ((t805 != t806)), (by first | rfl | (simp; done) | (simp [*]; done)), H', ⟨by first | omega | exact Nat.le_refl _⟩, ⟨by (with_reducible repeat (first | apply Kd.R_alloc | apply Kd.R_drewN | apply Kd.R_drew)); exact Kd.R_mono HO797.out (fun _ hk => hk.1.2)⟩, ⟨by (with_reducible repeat (first | apply Kd.R_alloc | apply Kd.R_drewN | apply Kd.R_drew)); exact Kd.R_mono HO800.out (fun _ hk => hk.1.2)⟩, ⟨by repeat (first | (with_reducible first | exact HB.out | apply below_alloc | apply pw_below_drewN | apply below_drew1) | exact HB.out)⟩⟩
      · replace c12 := Bool.eq_false_iff.mpr c12
        subst c12
        have H1 : (laws_FnFields.j0 k l0 t793 t794 t795 t798 true) = some r := by rw [if_neg (show ¬ (false = true) by decide)] at H; exact H
        clear H
        have H := H1
        clear H1
        cases k with
        | zero => exact absurd H (by simp [laws_FnFields.j0])
        | succ k_ => simp only [laws_FnFields.j0, if_true] at H; exact absurd (Option.some.inj H) (by rw [ht_]; decide)
    case rest =>
      clear HC6
      try clear c1
      try clear c2
      try clear p2
      try clear c3
      try clear c5
      try clear c6
      try clear c12
      obtain ⟨kq, x48_5, rfl, HA, HJ5, HO_3, HO_6, HB⟩ := hcut
      cases kq with
      | zero => exact absurd HA.out (by simp [laws_FnFields.j0])
      | succ kj5 =>
        have H := HA.out
        clear HA
        simp only [laws_FnFields.j0] at H
        by_cases c19 : x48_5 = true
        · subst c19
          have H1 : (some false) = some r := by rw [if_pos rfl] at H; exact H
          clear H
          have H := H1
          clear H1
          exact absurd (Option.some.inj H) (by rw [ht_]; decide)
        · replace c19 := Bool.eq_false_iff.mpr c19
          subst c19
          have H1 : ((impl_Get.f t798 t794).bind fun bt807 => (if bt807.2 = true then (laws_FnFields.j1 kj5 l0 t793 t794 t798 (bt807.1.toList != t795.toList)) else (laws_FnFields.j1 kj5 l0 t793 t794 t798 true))) = some r := by rw [if_neg (show ¬ (false = true) by decide)] at H; exact H
          clear H
          have H := H1
          clear H1
          replace H := Option.bind_eq_some_iff.mp H
          obtain ⟨⟨t807, t808⟩, A200, H⟩ := H
          replace H : (if t808 = true then (laws_FnFields.j1 kj5 l0 t793 t794 t798 (t807.toList != t795.toList)) else (laws_FnFields.j1 kj5 l0 t793 t794 t798 true)) = some r := H
          have A20 := Aside0.mk A200
          clear A200
          have HC21 := Aside0.mk H
          clear H
          obtain ⟨Ao22, co22, eo22⟩ := Kd.R_slice HO_6.out
          subst eo22
          go_upto_region 8 with (first | ((with_reducible refine gate_callee (f := 63) rfl ?_); refine goesL_ (some 52) rfl rfl Tryd.func63 (by kernel_rfl) rfl #[.slice Ao22 t798.length co22, .string t794] rfl ma ?_; (with_reducible refine (impl_Get.calls _ _ t798 t794 t807 t808 _ ?side1 ?side2 A20.out).mono ?_); (case side1 => repeat (first | exact (Kd.R_reads' HO_6.out).2.2 | (with_reducible refine Kd.C_alloc ?_ _) | (with_reducible refine Kd.C_drewN ?_ _) | (with_reducible refine Kd.C_drew ?_))); (case side2 => exact (Kd.R_reads' HO_6.out).2.1); rintro e w23 ⟨rfl, hb⟩; refine ⟨_, rfl, ?_⟩; replace HO_3 := kr HO_3 hb; replace HO_6 := kr HO_6 hb; replace HB := Aside0.mk (below_step bl hb); (try clear hb); (try clear hb2); (try clear hk); (try clear hi)))
          (try simp only [Act.put, List.setIfInBounds_toArray, List.set_cons_zero, List.set_cons_succ])
          go_cut [61] (fun v61 wc => ∃ (kq : Nat) (x61_20 : Bool), v61 = .bool x61_20 ∧ Aside0 (laws_FnFields.j1 kq l0 t793 t794 t798 x61_20 = some r) ∧ Aside0 (kq ≤ kj5) ∧ Aside0 (Kd.R k78 78 wc w.heap.size (fun k_ => some k_ ≠ ((.slice Ao22 t798.length co22) : Value).ownBlock) (.slice Ao8 t793.length co8) t793) ∧ Aside0 (Kd.R k78 78 wc w.heap.size (fun k_ => some k_ ≠ ((.slice Ao8 t793.length co8) : Value).ownBlock) (.slice Ao22 t798.length co22) t798) ∧ Aside0 (Below w.heap.size w wc))
          case first =>
            have H := HC21.out
            clear HC21
            by_cases c24 : t808 = true
            · subst c24
              have H1 : (laws_FnFields.j1 kj5 l0 t793 t794 t798 (t807.toList != t795.toList)) = some r := by rw [if_pos rfl] at H; exact H
              clear H
              have H := H1
              clear H1
              have H' := Aside0.mk H
              clear H
              go_wp2
              go_meet
              case rel => exact ⟨_, ((t807.toList != t795.toList)), (by first | rfl | (simp; done) | (simp [*]; done)), H', ⟨by have := HJ5.out; first | omega | exact Nat.le_refl _⟩, ⟨by (with_reducible repeat (first | apply Kd.R_alloc | apply Kd.R_drewN | apply Kd.R_drew)); exact HO_3.out⟩, ⟨by (with_reducible repeat (first | apply Kd.R_alloc | apply Kd.R_drewN | apply Kd.R_drew)); exact HO_6.out⟩, ⟨by repeat (first | (with_reducible first | exact HB.out | apply below_alloc | apply pw_below_drewN | apply below_drew1) | exact HB.out)⟩⟩
            · replace c24 := Bool.eq_false_iff.mpr c24
              subst c24
              have H1 : (laws_FnFields.j1 kj5 l0 t793 t794 t798 true) = some r := by rw [if_neg (show ¬ (false = true) by decide)] at H; exact H
              clear H
              have H := H1
              clear H1
              cases kj5 with
              | zero => exact absurd H (by simp [laws_FnFields.j1])
              | succ k_ => simp only [laws_FnFields.j1, if_true] at H; exact absurd (Option.some.inj H) (by rw [ht_]; decide)
          case rest =>
            clear HC21
            try clear c1
            try clear c2
            try clear p2
            try clear c3
            try clear c5
            try clear c6
            try clear c12
            try clear c19
            try clear c24
            try clear p2
            obtain ⟨kq, x61_20, rfl, HA, HJ20, HO_3, HO_6, HB⟩ := hcut
            cases kq with
            | zero => exact absurd HA.out (by simp [laws_FnFields.j1])
            | succ kj20 =>
              have H := HA.out
              clear HA
              simp only [laws_FnFields.j1] at H
              by_cases c25 : x61_20 = true
              · subst c25
                have H1 : (some false) = some r := by rw [if_pos rfl] at H; exact H
                clear H
                have H := H1
                clear H1
                exact absurd (Option.some.inj H) (by rw [ht_]; decide)
              · replace c25 := Bool.eq_false_iff.mpr c25
                subst c25
                have H1 : (laws_FnFields.l0 kj20 l0 t793 t794 t798 0) = some r := by rw [if_neg (show ¬ (false = true) by decide)] at H; exact H
                clear H
                have H := H1
                clear H1
                have H' := Aside0.mk H
                clear H
                go_wp2
                (try simp only [Act.put, List.setIfInBounds_toArray, List.set_cons_zero, List.set_cons_succ])
                go_loopg [9] kj20 (fun kq v9 w' => ∃ (x9_3 : Int), v9 = .int .i64 x9_3 ∧ Aside0 (laws_FnFields.l0 kq l0 t793 t794 t798 x9_3 = some r) ∧ Aside0 (kq ≤ kj20) ∧ Aside0 (Kd.R k78 78 w' w.heap.size (fun k_ => some k_ ≠ ((.slice Ao22 t798.length co22) : Value).ownBlock) (.slice Ao8 t793.length co8) t793) ∧ Aside0 (Kd.R k78 78 w' w.heap.size (fun k_ => some k_ ≠ ((.slice Ao8 t793.length co8) : Value).ownBlock) (.slice Ao22 t798.length co22) t798) ∧ Aside0 (Below w.heap.size w w'))
                case atStart => exact ⟨(0), (by first | rfl | (simp; done) | (simp [*]; done)), H', ⟨Nat.le_refl _⟩, ⟨by (with_reducible repeat (first | apply Kd.R_alloc | apply Kd.R_drewN | apply Kd.R_drew)); exact HO_3.out⟩, ⟨by (with_reducible repeat (first | apply Kd.R_alloc | apply Kd.R_drewN | apply Kd.R_drew)); exact HO_6.out⟩, ⟨by repeat (first | (with_reducible first | exact HB.out | apply below_alloc | apply pw_below_drewN | apply below_drew1) | exact HB.out)⟩⟩
                case round =>
                  clear H'
                  try clear c1
                  try clear c2
                  try clear p2
                  try clear c3
                  try clear c5
                  try clear c6
                  try clear c12
                  try clear c19
                  try clear c24
                  try clear c25
                  try clear p2
                  obtain ⟨x9_3, rfl, HA, HK3, HO_3, HO_6, HB⟩ := hrel
                  cases gk with
                  | zero => exact absurd HA.out (by simp [laws_FnFields.l0])
                  | succ k3 =>
                    have H := HA.out
                    clear HA
                    simp only [laws_FnFields.l0] at H
                    by_cases c26 : x9_3 < (t793.length : Int)
                    · rw [if_pos c26] at H
                      have c26b0 : decide (x9_3 < (t793.length : Int)) = true := decide_eq_true c26
                      clear c26
                      by_cases c27 : 0 ≤ x9_3
                      · rw [if_pos c27] at H
                        have c27b0 : decide (0 ≤ x9_3) = true := decide_eq_true c27
                        clear c27
                        replace H := Option.bind_eq_some_iff.mp H
                        obtain ⟨⟨t810, t811⟩, A280, H⟩ := H
                        replace H : ((impl_Get.f t798 ((rd_T78 t793 x9_3).f0)).bind fun bt813 => (if ((rd_T78 t793 x9_3).f0).toList = t794.toList then (laws_FnFields.l0 k3 l0 t793 t794 t798 (wrap64 (x9_3 + 1))) else (if t810.toList = bt813.1.toList then (if (t811 != bt813.2) = true then (some false) else (laws_FnFields.l0 k3 l0 t793 t794 t798 (wrap64 (x9_3 + 1)))) else (some false)))) = some r := H
                        have A28 := Aside0.mk A280
                        clear A280
                        replace H := Option.bind_eq_some_iff.mp H
                        obtain ⟨⟨t813, t814⟩, A290, H⟩ := H
                        replace H : (if ((rd_T78 t793 x9_3).f0).toList = t794.toList then (laws_FnFields.l0 k3 l0 t793 t794 t798 (wrap64 (x9_3 + 1))) else (if t810.toList = t813.toList then (if (t811 != t814) = true then (some false) else (laws_FnFields.l0 k3 l0 t793 t794 t798 (wrap64 (x9_3 + 1)))) else (some false))) = some r := H
                        have A29 := Aside0.mk A290
                        clear A290
                        by_cases c30 : ((rd_T78 t793 x9_3).f0).toList = t794.toList
                        · rw [if_pos c30] at H
                          have c30b0 : (((rd_T78 t793 x9_3).f0).toList == t794.toList) = true := beq_iff_eq.mpr c30
                          have c30b1 : (((rd_T78 t793 x9_3).f0).toList != t794.toList) = false := bne_eq_false_iff_eq.mpr c30
                          clear c30
                          have H' := Aside0.mk H
                          clear H
                          have p809 : 0 ≤ (x9_3 : Int) := of_decide_eq_true (by first | (with_reducible assumption) | assumption)
                          have q809 : x9_3 < (t793.length : Int) := of_decide_eq_true (by first | (with_reducible assumption) | assumption)
                          obtain ⟨ad809, e809, hx809_0, hx809_1⟩ := at_T78 (Kd.R_reads' HO_3.out).2.2 x9_3 p809 q809
                          cases e809
                          replace p809 := eq_true p809
                          replace q809 := eq_true q809
                          go_wp2_with (first | ((with_reducible refine gate_callee (f := 63) rfl ?_); refine goesL_ (some 75) rfl rfl Tryd.func63 (by kernel_rfl) rfl #[.slice (some ad809) t793.length co8, .string ((rd_T78 t793 x9_3).f0)] rfl ma ?_; (with_reducible refine (impl_Get.calls _ _ t793 ((rd_T78 t793 x9_3).f0) t810 t811 _ ?side1 ?side2 A28.out).mono ?_); (case side1 => repeat (first | exact (Kd.R_reads' HO_3.out).2.2 | (with_reducible refine Kd.C_alloc ?_ _) | (with_reducible refine Kd.C_drewN ?_ _) | (with_reducible refine Kd.C_drew ?_))); (case side2 => exact (Kd.R_reads' HO_3.out).2.1); rintro e w31 ⟨rfl, hb⟩; refine ⟨_, rfl, ?_⟩; replace HO_3 := kr HO_3 hb; replace HO_6 := kr HO_6 hb; replace HB := Aside0.mk (below_step bl hb); (try clear hb); (try clear hb2); (try clear hk); (try clear hi); have p812 : 0 ≤ (x9_3 : Int) := of_decide_eq_true (by first | (with_reducible assumption) | assumption); have q812 : x9_3 < (t793.length : Int) := of_decide_eq_true (by first | (with_reducible assumption) | assumption); obtain ⟨ad812, e812, hx812_0, hx812_1⟩ := at_T78 (Kd.R_reads' HO_3.out).2.2 x9_3 p812 q812; obtain rfl : ad809 = ad812 := (by injection e812); replace p812 := eq_true p812; replace q812 := eq_true q812) | ((with_reducible refine gate_callee (f := 63) rfl ?_); refine goesL_ (some 85) rfl rfl Tryd.func63 (by kernel_rfl) rfl #[.slice Ao22 t798.length co22, .string ((rd_T78 t793 x9_3).f0)] rfl ma ?_; (with_reducible refine (impl_Get.calls _ _ t798 ((rd_T78 t793 x9_3).f0) t813 t814 _ ?side1 ?side2 A29.out).mono ?_); (case side1 => repeat (first | exact (Kd.R_reads' HO_6.out).2.2 | (with_reducible refine Kd.C_alloc ?_ _) | (with_reducible refine Kd.C_drewN ?_ _) | (with_reducible refine Kd.C_drew ?_))); (case side2 => exact (Kd.R_reads' HO_6.out).2.1); rintro e w32 ⟨rfl, hb⟩; refine ⟨_, rfl, ?_⟩; replace HO_3 := kr HO_3 hb; replace HO_6 := kr HO_6 hb; replace HB := Aside0.mk (below_step bl hb); (try clear hb); (try clear hb2); (try clear hk); (try clear hi); have p815 : 0 ≤ (x9_3 : Int) := of_decide_eq_true (by first | (with_reducible assumption) | assumption); have q815 : x9_3 < (t793.length : Int) := of_decide_eq_true (by first | (with_reducible assumption) | assumption); obtain ⟨ad815, e815, hx815_0, hx815_1⟩ := at_T78 (Kd.R_reads' HO_3.out).2.2 x9_3 p815 q815; obtain rfl : ad809 = ad815 := (by injection e815); replace p815 := eq_true p815; replace q815 := eq_true q815))
                          go_roundg k3
                          case measure => have := HJ5.out; have := HJ20.out; have := HK3.out; omega
                          case rel => exact ⟨(wrap64 (x9_3 + 1)), (by first | rfl | (simp; done) | (simp [*]; done)), H', ⟨by have := HJ5.out; have := HJ20.out; have := HK3.out; omega⟩, ⟨by (with_reducible repeat (first | apply Kd.R_alloc | apply Kd.R_drewN | apply Kd.R_drew)); exact HO_3.out⟩, ⟨by (with_reducible repeat (first | apply Kd.R_alloc | apply Kd.R_drewN | apply Kd.R_drew)); exact HO_6.out⟩, ⟨by repeat (first | (with_reducible first | exact HB.out | apply below_alloc | apply pw_below_drewN | apply below_drew1) | exact HB.out)⟩⟩
                        · rw [if_neg c30] at H
                          have c30b0 : (((rd_T78 t793 x9_3).f0).toList == t794.toList) = false := beq_eq_false_iff_ne.mpr c30
                          have c30b1 : (((rd_T78 t793 x9_3).f0).toList != t794.toList) = true := bne_iff_ne.mpr c30
                          by_cases c33 : t810.toList = t813.toList
                          · rw [if_pos c33] at H
                            have c33b0 : (t810.toList == t813.toList) = true := beq_iff_eq.mpr c33
                            have c33b1 : (t810.toList != t813.toList) = false := bne_eq_false_iff_eq.mpr c33
                            clear c33
                            by_cases c34 : (t811 != t814) = true
                            · rw [if_pos c34] at H
                              have c34b0 : (t811 != t814) = true := c34
                              (try (have c34b1 : decide (t811 = t814) = false := by simpa using c34))
                              (try (have c34b2 : (t811 == t814) = false := by simpa using c34))
                              (try (have c34b3 : ¬ (t811 = t814) := by simpa using c34))
                              clear c34
                              exact absurd (Option.some.inj H) (by rw [ht_]; decide)
                            · rw [if_neg c34] at H
                              have c34b0 : (t811 != t814) = false := by simpa using c34
                              (try (have c34b1 : decide (t811 = t814) = true := by simpa using c34))
                              (try (have c34b2 : (t811 == t814) = true := by simpa using c34))
                              clear c34
                              have H' := Aside0.mk H
                              clear H
                              have p809 : 0 ≤ (x9_3 : Int) := of_decide_eq_true (by first | (with_reducible assumption) | assumption)
                              have q809 : x9_3 < (t793.length : Int) := of_decide_eq_true (by first | (with_reducible assumption) | assumption)
                              obtain ⟨ad809, e809, hx809_0, hx809_1⟩ := at_T78 (Kd.R_reads' HO_3.out).2.2 x9_3 p809 q809
                              cases e809
                              replace p809 := eq_true p809
                              replace q809 := eq_true q809
                              go_wp2_with (first | ((with_reducible refine gate_callee (f := 63) rfl ?_); refine goesL_ (some 75) rfl rfl Tryd.func63 (by kernel_rfl) rfl #[.slice (some ad809) t793.length co8, .string ((rd_T78 t793 x9_3).f0)] rfl ma ?_; (with_reducible refine (impl_Get.calls _ _ t793 ((rd_T78 t793 x9_3).f0) t810 t811 _ ?side1 ?side2 A28.out).mono ?_); (case side1 => repeat (first | exact (Kd.R_reads' HO_3.out).2.2 | (with_reducible refine Kd.C_alloc ?_ _) | (with_reducible refine Kd.C_drewN ?_ _) | (with_reducible refine Kd.C_drew ?_))); (case side2 => exact (Kd.R_reads' HO_3.out).2.1); rintro e w35 ⟨rfl, hb⟩; refine ⟨_, rfl, ?_⟩; replace HO_3 := kr HO_3 hb; replace HO_6 := kr HO_6 hb; replace HB := Aside0.mk (below_step bl hb); (try clear hb); (try clear hb2); (try clear hk); (try clear hi); have p812 : 0 ≤ (x9_3 : Int) := of_decide_eq_true (by first | (with_reducible assumption) | assumption); have q812 : x9_3 < (t793.length : Int) := of_decide_eq_true (by first | (with_reducible assumption) | assumption); obtain ⟨ad812, e812, hx812_0, hx812_1⟩ := at_T78 (Kd.R_reads' HO_3.out).2.2 x9_3 p812 q812; obtain rfl : ad809 = ad812 := (by injection e812); replace p812 := eq_true p812; replace q812 := eq_true q812) | ((with_reducible refine gate_callee (f := 63) rfl ?_); refine goesL_ (some 85) rfl rfl Tryd.func63 (by kernel_rfl) rfl #[.slice Ao22 t798.length co22, .string ((rd_T78 t793 x9_3).f0)] rfl ma ?_; (with_reducible refine (impl_Get.calls _ _ t798 ((rd_T78 t793 x9_3).f0) t813 t814 _ ?side1 ?side2 A29.out).mono ?_); (case side1 => repeat (first | exact (Kd.R_reads' HO_6.out).2.2 | (with_reducible refine Kd.C_alloc ?_ _) | (with_reducible refine Kd.C_drewN ?_ _) | (with_reducible refine Kd.C_drew ?_))); (case side2 => exact (Kd.R_reads' HO_6.out).2.1); rintro e w36 ⟨rfl, hb⟩; refine ⟨_, rfl, ?_⟩; replace HO_3 := kr HO_3 hb; replace HO_6 := kr HO_6 hb; replace HB := Aside0.mk (below_step bl hb); (try clear hb); (try clear hb2); (try clear hk); (try clear hi); have p815 : 0 ≤ (x9_3 : Int) := of_decide_eq_true (by first | (with_reducible assumption) | assumption); have q815 : x9_3 < (t793.length : Int) := of_decide_eq_true (by first | (with_reducible assumption) | assumption); obtain ⟨ad815, e815, hx815_0, hx815_1⟩ := at_T78 (Kd.R_reads' HO_3.out).2.2 x9_3 p815 q815; obtain rfl : ad809 = ad815 := (by injection e815); replace p815 := eq_true p815; replace q815 := eq_true q815))
                              go_roundg k3
                              case measure => have := HJ5.out; have := HJ20.out; have := HK3.out; omega
                              case rel => exact ⟨(wrap64 (x9_3 + 1)), (by first | rfl | (simp; done) | (simp [*]; done)), H', ⟨by have := HJ5.out; have := HJ20.out; have := HK3.out; omega⟩, ⟨by (with_reducible repeat (first | apply Kd.R_alloc | apply Kd.R_drewN | apply Kd.R_drew)); exact HO_3.out⟩, ⟨by (with_reducible repeat (first | apply Kd.R_alloc | apply Kd.R_drewN | apply Kd.R_drew)); exact HO_6.out⟩, ⟨by repeat (first | (with_reducible first | exact HB.out | apply below_alloc | apply pw_below_drewN | apply below_drew1) | exact HB.out)⟩⟩
                          · rw [if_neg c33] at H
                            have c33b0 : (t810.toList == t813.toList) = false := beq_eq_false_iff_ne.mpr c33
                            have c33b1 : (t810.toList != t813.toList) = true := bne_iff_ne.mpr c33
                            exact absurd (Option.some.inj H) (by rw [ht_]; decide)
                      · rw [if_neg c27] at H
                        exact absurd H (by simp)
                    · rw [if_neg c26] at H
                      have c26b0 : decide (x9_3 < (t793.length : Int)) = false := decide_eq_false c26
                      clear c26
                      replace H := Option.bind_eq_some_iff.mp H
                      obtain ⟨t816, A370, H⟩ := H
                      replace H : ((impl_Get.f t816 t794).bind fun bt819 => ((spec_DrawGet.f k3 l0).bind fun bt821 => ((impl_Get.f bt821.1 bt821.2).bind fun bt825 => ((spec_Get.f k3 bt821.1 bt821.2).bind fun bt827 => ((spec_Drop.f k3 t793 t794).bind fun t829 => ((laws_sameFields.f k3 t816 t829).bind fun t832 => (if t832 = true then (if bt819.2 = true then ((impl_FieldsOk.f k3 t793).bind fun t833 => (if t833 = true then (some false) else (if bt825.1.toList = bt827.1.toList then (if (bt825.2 == bt827.2) = true then ((impl_FieldsText.f t793).bind fun t834 => ((spec_FieldsText.f k3 t793).bind fun t835 => (some (t834.toList == t835.toList)))) else (some false)) else (some false)))) else (if bt825.1.toList = bt827.1.toList then (if (bt825.2 == bt827.2) = true then ((impl_FieldsText.f t793).bind fun t836 => ((spec_FieldsText.f k3 t793).bind fun t837 => (some (t836.toList == t837.toList)))) else (some false)) else (some false))) else (some false)))))))) = some r := H
                      have A37 := Aside0.mk A370
                      clear A370
                      replace H := Option.bind_eq_some_iff.mp H
                      obtain ⟨⟨t819, t820⟩, A380, H⟩ := H
                      replace H : ((spec_DrawGet.f k3 l0).bind fun bt821 => ((impl_Get.f bt821.1 bt821.2).bind fun bt825 => ((spec_Get.f k3 bt821.1 bt821.2).bind fun bt827 => ((spec_Drop.f k3 t793 t794).bind fun t829 => ((laws_sameFields.f k3 t816 t829).bind fun t832 => (if t832 = true then (if t820 = true then ((impl_FieldsOk.f k3 t793).bind fun t833 => (if t833 = true then (some false) else (if bt825.1.toList = bt827.1.toList then (if (bt825.2 == bt827.2) = true then ((impl_FieldsText.f t793).bind fun t834 => ((spec_FieldsText.f k3 t793).bind fun t835 => (some (t834.toList == t835.toList)))) else (some false)) else (some false)))) else (if bt825.1.toList = bt827.1.toList then (if (bt825.2 == bt827.2) = true then ((impl_FieldsText.f t793).bind fun t836 => ((spec_FieldsText.f k3 t793).bind fun t837 => (some (t836.toList == t837.toList)))) else (some false)) else (some false))) else (some false))))))) = some r := H
                      have A38 := Aside0.mk A380
                      clear A380
                      replace H := Option.bind_eq_some_iff.mp H
                      obtain ⟨⟨t821, t822⟩, A390, H⟩ := H
                      replace H : ((impl_Get.f t821 t822).bind fun bt825 => ((spec_Get.f k3 t821 t822).bind fun bt827 => ((spec_Drop.f k3 t793 t794).bind fun t829 => ((laws_sameFields.f k3 t816 t829).bind fun t832 => (if t832 = true then (if t820 = true then ((impl_FieldsOk.f k3 t793).bind fun t833 => (if t833 = true then (some false) else (if bt825.1.toList = bt827.1.toList then (if (bt825.2 == bt827.2) = true then ((impl_FieldsText.f t793).bind fun t834 => ((spec_FieldsText.f k3 t793).bind fun t835 => (some (t834.toList == t835.toList)))) else (some false)) else (some false)))) else (if bt825.1.toList = bt827.1.toList then (if (bt825.2 == bt827.2) = true then ((impl_FieldsText.f t793).bind fun t836 => ((spec_FieldsText.f k3 t793).bind fun t837 => (some (t836.toList == t837.toList)))) else (some false)) else (some false))) else (some false)))))) = some r := H
                      have A39 := Aside0.mk A390
                      clear A390
                      replace H := Option.bind_eq_some_iff.mp H
                      obtain ⟨⟨t825, t826⟩, A400, H⟩ := H
                      replace H : ((spec_Get.f k3 t821 t822).bind fun bt827 => ((spec_Drop.f k3 t793 t794).bind fun t829 => ((laws_sameFields.f k3 t816 t829).bind fun t832 => (if t832 = true then (if t820 = true then ((impl_FieldsOk.f k3 t793).bind fun t833 => (if t833 = true then (some false) else (if t825.toList = bt827.1.toList then (if (t826 == bt827.2) = true then ((impl_FieldsText.f t793).bind fun t834 => ((spec_FieldsText.f k3 t793).bind fun t835 => (some (t834.toList == t835.toList)))) else (some false)) else (some false)))) else (if t825.toList = bt827.1.toList then (if (t826 == bt827.2) = true then ((impl_FieldsText.f t793).bind fun t836 => ((spec_FieldsText.f k3 t793).bind fun t837 => (some (t836.toList == t837.toList)))) else (some false)) else (some false))) else (some false))))) = some r := H
                      have A40 := Aside0.mk A400
                      clear A400
                      replace H := Option.bind_eq_some_iff.mp H
                      obtain ⟨⟨t827, t828⟩, A410, H⟩ := H
                      replace H : ((spec_Drop.f k3 t793 t794).bind fun t829 => ((laws_sameFields.f k3 t816 t829).bind fun t832 => (if t832 = true then (if t820 = true then ((impl_FieldsOk.f k3 t793).bind fun t833 => (if t833 = true then (some false) else (if t825.toList = t827.toList then (if (t826 == t828) = true then ((impl_FieldsText.f t793).bind fun t834 => ((spec_FieldsText.f k3 t793).bind fun t835 => (some (t834.toList == t835.toList)))) else (some false)) else (some false)))) else (if t825.toList = t827.toList then (if (t826 == t828) = true then ((impl_FieldsText.f t793).bind fun t836 => ((spec_FieldsText.f k3 t793).bind fun t837 => (some (t836.toList == t837.toList)))) else (some false)) else (some false))) else (some false)))) = some r := H
                      have A41 := Aside0.mk A410
                      clear A410
                      replace H := Option.bind_eq_some_iff.mp H
                      obtain ⟨t829, A420, H⟩ := H
                      replace H : ((laws_sameFields.f k3 t816 t829).bind fun t832 => (if t832 = true then (if t820 = true then ((impl_FieldsOk.f k3 t793).bind fun t833 => (if t833 = true then (some false) else (if t825.toList = t827.toList then (if (t826 == t828) = true then ((impl_FieldsText.f t793).bind fun t834 => ((spec_FieldsText.f k3 t793).bind fun t835 => (some (t834.toList == t835.toList)))) else (some false)) else (some false)))) else (if t825.toList = t827.toList then (if (t826 == t828) = true then ((impl_FieldsText.f t793).bind fun t836 => ((spec_FieldsText.f k3 t793).bind fun t837 => (some (t836.toList == t837.toList)))) else (some false)) else (some false))) else (some false))) = some r := H
                      have A42 := Aside0.mk A420
                      clear A420
                      replace H := Option.bind_eq_some_iff.mp H
                      obtain ⟨t832, A430, H⟩ := H
                      replace H : (if t832 = true then (if t820 = true then ((impl_FieldsOk.f k3 t793).bind fun t833 => (if t833 = true then (some false) else (if t825.toList = t827.toList then (if (t826 == t828) = true then ((impl_FieldsText.f t793).bind fun t834 => ((spec_FieldsText.f k3 t793).bind fun t835 => (some (t834.toList == t835.toList)))) else (some false)) else (some false)))) else (if t825.toList = t827.toList then (if (t826 == t828) = true then ((impl_FieldsText.f t793).bind fun t836 => ((spec_FieldsText.f k3 t793).bind fun t837 => (some (t836.toList == t837.toList)))) else (some false)) else (some false))) else (some false)) = some r := H
                      have A43 := Aside0.mk A430
                      clear A430
                      by_cases c44 : t832 = true
                      · subst c44
                        have H1 : (if t820 = true then ((impl_FieldsOk.f k3 t793).bind fun t833 => (if t833 = true then (some false) else (if t825.toList = t827.toList then (if (t826 == t828) = true then ((impl_FieldsText.f t793).bind fun t834 => ((spec_FieldsText.f k3 t793).bind fun t835 => (some (t834.toList == t835.toList)))) else (some false)) else (some false)))) else (if t825.toList = t827.toList then (if (t826 == t828) = true then ((impl_FieldsText.f t793).bind fun t836 => ((spec_FieldsText.f k3 t793).bind fun t837 => (some (t836.toList == t837.toList)))) else (some false)) else (some false))) = some r := by rw [if_pos rfl] at H; exact H
                        clear H
                        have H := H1
                        clear H1
                        by_cases c45 : t820 = true
                        · subst c45
                          have H1 : ((impl_FieldsOk.f k3 t793).bind fun t833 => (if t833 = true then (some false) else (if t825.toList = t827.toList then (if (t826 == t828) = true then ((impl_FieldsText.f t793).bind fun t834 => ((spec_FieldsText.f k3 t793).bind fun t835 => (some (t834.toList == t835.toList)))) else (some false)) else (some false)))) = some r := by rw [if_pos rfl] at H; exact H
                          clear H
                          have H := H1
                          clear H1
                          replace H := Option.bind_eq_some_iff.mp H
                          obtain ⟨t833, A460, H⟩ := H
                          replace H : (if t833 = true then (some false) else (if t825.toList = t827.toList then (if (t826 == t828) = true then ((impl_FieldsText.f t793).bind fun t834 => ((spec_FieldsText.f k3 t793).bind fun t835 => (some (t834.toList == t835.toList)))) else (some false)) else (some false))) = some r := H
                          have A46 := Aside0.mk A460
                          clear A460
                          by_cases c47 : t833 = true
                          · subst c47
                            have H1 : (some false) = some r := by rw [if_pos rfl] at H; exact H
                            clear H
                            have H := H1
                            clear H1
                            exact absurd (Option.some.inj H) (by rw [ht_]; decide)
                          · replace c47 := Bool.eq_false_iff.mpr c47
                            subst c47
                            have H1 : (if t825.toList = t827.toList then (if (t826 == t828) = true then ((impl_FieldsText.f t793).bind fun t834 => ((spec_FieldsText.f k3 t793).bind fun t835 => (some (t834.toList == t835.toList)))) else (some false)) else (some false)) = some r := by rw [if_neg (show ¬ (false = true) by decide)] at H; exact H
                            clear H
                            have H := H1
                            clear H1
                            by_cases c48 : t825.toList = t827.toList
                            · rw [if_pos c48] at H
                              have c48b0 : (t825.toList == t827.toList) = true := beq_iff_eq.mpr c48
                              have c48b1 : (t825.toList != t827.toList) = false := bne_eq_false_iff_eq.mpr c48
                              clear c48
                              by_cases c49 : (t826 == t828) = true
                              · rw [if_pos c49] at H
                                have c49b0 : (t826 == t828) = true := c49
                                (try (have c49b1 : decide (t826 = t828) = true := by simpa using c49))
                                (try (have c49b2 : (t826 == t828) = true := by simpa using c49))
                                clear c49
                                replace H := Option.bind_eq_some_iff.mp H
                                obtain ⟨t834, A500, H⟩ := H
                                replace H : ((spec_FieldsText.f k3 t793).bind fun t835 => (some (t834.toList == t835.toList))) = some r := H
                                have A50 := Aside0.mk A500
                                clear A500
                                replace H := Option.bind_eq_some_iff.mp H
                                obtain ⟨t835, A510, H⟩ := H
                                replace H : (some (t834.toList == t835.toList)) = some r := H
                                have A51 := Aside0.mk A510
                                clear A510
                                obtain rfl := Option.some.inj H
                                go_wp2_with (first | ((with_reducible refine gate_callee (f := 64) rfl ?_); refine goesL_ (some 107) rfl rfl Tryd.func64 (by kernel_rfl) rfl #[.slice Ao8 t793.length co8, .string t794] rfl ma ?_; (with_reducible refine (impl_Drop.calls _ _ t793 t794 t816 _ ?side1 ?side2 A37.out).mono ?_); (case side1 => repeat (first | exact (Kd.R_reads' HO_3.out).2.2 | (with_reducible refine Kd.C_alloc ?_ _) | (with_reducible refine Kd.C_drewN ?_ _) | (with_reducible refine Kd.C_drew ?_))); (case side2 => exact (Kd.R_reads' HO_3.out).2.1); rintro e w52 ⟨v817, rfl, ho0, hb⟩; refine ⟨_, rfl, ?_⟩; have HO818 := Aside0.mk (Kd.R_lower (Kd.R_new' (Kd.R_new' ho0 (Kd.R_lt (ro HO_3))) (Kd.R_lt (ro HO_6))) (below_size bl)); replace HO_3 := Aside0.mk (Kd.R_elder' (ro HO_3) (Kd.R_base ho0) hb); replace HO_6 := Aside0.mk (Kd.R_elder' (ro HO_6) (Kd.R_base ho0) hb); replace HB := Aside0.mk (below_step bl hb); (try clear hb); (try clear hb2); (try clear hk); (try clear hi); (try clear ho0); obtain ⟨Ao53, co53, eo53⟩ := Kd.R_slice HO818.out; subst eo53) | ((with_reducible refine gate_callee (f := 63) rfl ?_); refine goesL_ (some 111) rfl rfl Tryd.func63 (by kernel_rfl) rfl #[.slice Ao53 t816.length co53, .string t794] rfl ma ?_; (with_reducible refine (impl_Get.calls _ _ t816 t794 t819 true _ ?side1 ?side2 A38.out).mono ?_); (case side1 => repeat (first | exact (Kd.R_reads' HO818.out).2.2 | (with_reducible refine Kd.C_alloc ?_ _) | (with_reducible refine Kd.C_drewN ?_ _) | (with_reducible refine Kd.C_drew ?_))); (case side2 => exact (Kd.R_reads' HO818.out).2.1); rintro e w54 ⟨rfl, hb⟩; refine ⟨_, rfl, ?_⟩; replace HO_3 := kr HO_3 hb; replace HO_6 := kr HO_6 hb; replace HO818 := kr HO818 hb; replace HB := Aside0.mk (below_step bl hb); (try clear hb); (try clear hb2); (try clear hk); (try clear hi)) | ((with_reducible refine gate_callee (f := 65) rfl ?_); refine goesL_ (some 116) rfl rfl Tryd.func65 (by kernel_rfl) rfl #[.slice A0 l0.length c0] rfl ma ?_; (with_reducible refine (spec_DrawGet.calls k3 _ _ l0 t821 t822 _ ?side1 ?side2 A39.out).mono ?_); (case side1 => repeat (first | exact (Kd.C_below HR0.out HB.out) | (with_reducible refine Kd.C_alloc ?_ _) | (with_reducible refine Kd.C_drewN ?_ _) | (with_reducible refine Kd.C_drew ?_))); (case side2 => exact HC0.out); rintro e w55 ⟨v823, rfl, ho0, hb⟩; refine ⟨_, rfl, ?_⟩; have HO824 := Aside0.mk (Kd.R_lower (Kd.R_new' (Kd.R_new' (Kd.R_new' ho0 (Kd.R_lt (ro HO_3))) (Kd.R_lt (ro HO_6))) (Kd.R_lt (ro HO818))) (below_size bl)); replace HO_3 := Aside0.mk (Kd.R_elder' (ro HO_3) (Kd.R_base ho0) hb); replace HO_6 := Aside0.mk (Kd.R_elder' (ro HO_6) (Kd.R_base ho0) hb); replace HO818 := Aside0.mk (Kd.R_elder' (ro HO818) (Kd.R_base ho0) hb); replace HB := Aside0.mk (below_step bl hb); (try clear hb); (try clear hb2); (try clear hk); (try clear hi); (try clear ho0); obtain ⟨Ao56, co56, eo56⟩ := Kd.R_slice HO824.out; subst eo56) | ((with_reducible refine gate_callee (f := 63) rfl ?_); refine goesL_ (some 122) rfl rfl Tryd.func63 (by kernel_rfl) rfl #[.slice Ao56 t821.length co56, .string t822] rfl ma ?_; (with_reducible refine (impl_Get.calls _ _ t821 t822 t825 t826 _ ?side1 ?side2 A40.out).mono ?_); (case side1 => repeat (first | exact (Kd.R_reads' HO824.out).2.2 | (with_reducible refine Kd.C_alloc ?_ _) | (with_reducible refine Kd.C_drewN ?_ _) | (with_reducible refine Kd.C_drew ?_))); (case side2 => exact (Kd.R_reads' HO824.out).2.1); rintro e w57 ⟨rfl, hb⟩; refine ⟨_, rfl, ?_⟩; replace HO_3 := kr HO_3 hb; replace HO_6 := kr HO_6 hb; replace HO818 := kr HO818 hb; replace HO824 := kr HO824 hb; replace HB := Aside0.mk (below_step bl hb); (try clear hb); (try clear hb2); (try clear hk); (try clear hi)) | ((with_reducible refine gate_callee (f := 66) rfl ?_); refine goesL_ (some 128) rfl rfl Tryd.func66 (by kernel_rfl) rfl #[.slice Ao56 t821.length co56, .string t822] rfl ma ?_; (with_reducible refine (spec_Get.calls k3 _ _ t821 t822 t827 t828 _ ?side1 ?side2 A41.out).mono ?_); (case side1 => repeat (first | exact (Kd.R_reads' HO824.out).2.2 | (with_reducible refine Kd.C_alloc ?_ _) | (with_reducible refine Kd.C_drewN ?_ _) | (with_reducible refine Kd.C_drew ?_))); (case side2 => exact (Kd.R_reads' HO824.out).2.1); rintro e w' ⟨rfl, ⟨nd, rfl⟩⟩; refine ⟨_, rfl, ?_⟩) | ((with_reducible refine gate_callee (f := 67) rfl ?_); refine goesL_ (some 134) rfl rfl Tryd.func67 (by kernel_rfl) rfl #[.slice Ao8 t793.length co8, .string t794] rfl ma ?_; (with_reducible refine (spec_Drop.calls k3 _ _ t793 t794 t829 _ ?side1 ?side2 A42.out).mono ?_); (case side1 => repeat (first | exact (Kd.R_reads' HO_3.out).2.2 | (with_reducible refine Kd.C_alloc ?_ _) | (with_reducible refine Kd.C_drewN ?_ _) | (with_reducible refine Kd.C_drew ?_))); (case side2 => exact (Kd.R_reads' HO_3.out).2.1); rintro e w58 ⟨v830, rfl, ho0, hb⟩; refine ⟨_, rfl, ?_⟩; have HO831 := Aside0.mk (Kd.R_lower (Kd.R_new' (Kd.R_new' (Kd.R_new' (Kd.R_new' ho0 (Kd.R_lt (ro HO_3))) (Kd.R_lt (ro HO_6))) (Kd.R_lt (ro HO818))) (Kd.R_lt (ro HO824))) (below_size bl)); replace HO_3 := Aside0.mk (Kd.R_elder' (ro HO_3) (Kd.R_base ho0) hb); replace HO_6 := Aside0.mk (Kd.R_elder' (ro HO_6) (Kd.R_base ho0) hb); replace HO818 := Aside0.mk (Kd.R_elder' (ro HO818) (Kd.R_base ho0) hb); replace HO824 := Aside0.mk (Kd.R_elder' (ro HO824) (Kd.R_base ho0) hb); replace HB := Aside0.mk (below_step bl hb); (try clear hb); (try clear hb2); (try clear hk); (try clear hi); (try clear ho0); obtain ⟨Ao59, co59, eo59⟩ := Kd.R_slice HO831.out; subst eo59) | ((with_reducible refine gate_callee (f := 61) rfl ?_); refine goesL_ (some 135) rfl rfl Tryd.func61 (by kernel_rfl) rfl #[.slice Ao53 t816.length co53, .slice Ao59 t829.length co59] rfl ma ?_; (with_reducible refine (laws_sameFields.calls k3 _ _ t816 _ _ t829 true _ ?side1 ?side2 ?side3 ?side4 A43.out).mono ?_); (case side1 => repeat (first | exact (Kd.R_reads' HO818.out).2.2 | (with_reducible refine Kd.C_alloc ?_ _) | (with_reducible refine Kd.C_drewN ?_ _) | (with_reducible refine Kd.C_drew ?_))); (case side2 => exact (Kd.R_reads' HO818.out).2.1); (case side3 => repeat (first | exact (Kd.R_reads' HO831.out).2.2 | (with_reducible refine Kd.C_alloc ?_ _) | (with_reducible refine Kd.C_drewN ?_ _) | (with_reducible refine Kd.C_drew ?_))); (case side4 => exact (Kd.R_reads' HO831.out).2.1); rintro e w' ⟨rfl, ⟨nd, rfl⟩⟩; refine ⟨_, rfl, ?_⟩) | (go_at_call 38; (with_reducible refine (impl_FieldsOk.calls k3 _ _ t793 false _ ?side1 ?side2 A46.out).mono ?_); (case side1 => repeat (first | exact (Kd.R_reads' HO_3.out).2.2 | (with_reducible refine Kd.C_alloc ?_ _) | (with_reducible refine Kd.C_drewN ?_ _) | (with_reducible refine Kd.C_drew ?_))); (case side2 => exact (Kd.R_reads' HO_3.out).2.1); rintro e w60 ⟨rfl, hb⟩; replace HO_3 := kr HO_3 hb; replace HO_6 := kr HO_6 hb; replace HO818 := kr HO818 hb; replace HO824 := kr HO824 hb; replace HO831 := kr HO831 hb; replace HB := Aside0.mk (below_step bl hb); (try clear hb); (try clear hb2); (try clear hk); (try clear hi)) | (go_at_call 68; (with_reducible refine (impl_FieldsText.calls _ _ t793 t834 _ ?side1 ?side2 A50.out).mono ?_); (case side1 => repeat (first | exact (Kd.R_reads' HO_3.out).2.2 | (with_reducible refine Kd.C_alloc ?_ _) | (with_reducible refine Kd.C_drewN ?_ _) | (with_reducible refine Kd.C_drew ?_))); (case side2 => exact (Kd.R_reads' HO_3.out).2.1); rintro e w61 ⟨rfl, hb⟩; replace HO_3 := kr HO_3 hb; replace HO_6 := kr HO_6 hb; replace HO818 := kr HO818 hb; replace HO824 := kr HO824 hb; replace HO831 := kr HO831 hb; replace HB := Aside0.mk (below_step bl hb); (try clear hb); (try clear hb2); (try clear hk); (try clear hi)) | (go_at_call 69; (with_reducible refine (spec_FieldsText.calls k3 _ _ t793 t835 _ ?side1 ?side2 A51.out).mono ?_); (case side1 => repeat (first | exact (Kd.R_reads' HO_3.out).2.2 | (with_reducible refine Kd.C_alloc ?_ _) | (with_reducible refine Kd.C_drewN ?_ _) | (with_reducible refine Kd.C_drew ?_))); (case side2 => exact (Kd.R_reads' HO_3.out).2.1); rintro e w' ⟨rfl, ⟨nd, rfl⟩⟩))
                                go_ret
                                exact ⟨rf, bl⟩
                              · rw [if_neg c49] at H
                                have c49b0 : (t826 == t828) = false := by simpa using c49
                                (try (have c49b1 : decide (t826 = t828) = false := by simpa using c49))
                                (try (have c49b2 : (t826 == t828) = false := by simpa using c49))
                                (try (have c49b3 : ¬ (t826 = t828) := by simpa using c49))
                                clear c49
                                exact absurd (Option.some.inj H) (by rw [ht_]; decide)
                            · rw [if_neg c48] at H
                              have c48b0 : (t825.toList == t827.toList) = false := beq_eq_false_iff_ne.mpr c48
                              have c48b1 : (t825.toList != t827.toList) = true := bne_iff_ne.mpr c48
                              exact absurd (Option.some.inj H) (by rw [ht_]; decide)
                        · replace c45 := Bool.eq_false_iff.mpr c45
                          subst c45
                          have H1 : (if t825.toList = t827.toList then (if (t826 == t828) = true then ((impl_FieldsText.f t793).bind fun t836 => ((spec_FieldsText.f k3 t793).bind fun t837 => (some (t836.toList == t837.toList)))) else (some false)) else (some false)) = some r := by rw [if_neg (show ¬ (false = true) by decide)] at H; exact H
                          clear H
                          have H := H1
                          clear H1
                          by_cases c62 : t825.toList = t827.toList
                          · rw [if_pos c62] at H
                            have c62b0 : (t825.toList == t827.toList) = true := beq_iff_eq.mpr c62
                            have c62b1 : (t825.toList != t827.toList) = false := bne_eq_false_iff_eq.mpr c62
                            clear c62
                            by_cases c63 : (t826 == t828) = true
                            · rw [if_pos c63] at H
                              have c63b0 : (t826 == t828) = true := c63
                              (try (have c63b1 : decide (t826 = t828) = true := by simpa using c63))
                              (try (have c63b2 : (t826 == t828) = true := by simpa using c63))
                              clear c63
                              replace H := Option.bind_eq_some_iff.mp H
                              obtain ⟨t836, A640, H⟩ := H
                              replace H : ((spec_FieldsText.f k3 t793).bind fun t837 => (some (t836.toList == t837.toList))) = some r := H
                              have A64 := Aside0.mk A640
                              clear A640
                              replace H := Option.bind_eq_some_iff.mp H
                              obtain ⟨t837, A650, H⟩ := H
                              replace H : (some (t836.toList == t837.toList)) = some r := H
                              have A65 := Aside0.mk A650
                              clear A650
                              obtain rfl := Option.some.inj H
                              go_wp2_with (first | ((with_reducible refine gate_callee (f := 64) rfl ?_); refine goesL_ (some 107) rfl rfl Tryd.func64 (by kernel_rfl) rfl #[.slice Ao8 t793.length co8, .string t794] rfl ma ?_; (with_reducible refine (impl_Drop.calls _ _ t793 t794 t816 _ ?side1 ?side2 A37.out).mono ?_); (case side1 => repeat (first | exact (Kd.R_reads' HO_3.out).2.2 | (with_reducible refine Kd.C_alloc ?_ _) | (with_reducible refine Kd.C_drewN ?_ _) | (with_reducible refine Kd.C_drew ?_))); (case side2 => exact (Kd.R_reads' HO_3.out).2.1); rintro e w66 ⟨v817, rfl, ho0, hb⟩; refine ⟨_, rfl, ?_⟩; have HO818 := Aside0.mk (Kd.R_lower (Kd.R_new' (Kd.R_new' ho0 (Kd.R_lt (ro HO_3))) (Kd.R_lt (ro HO_6))) (below_size bl)); replace HO_3 := Aside0.mk (Kd.R_elder' (ro HO_3) (Kd.R_base ho0) hb); replace HO_6 := Aside0.mk (Kd.R_elder' (ro HO_6) (Kd.R_base ho0) hb); replace HB := Aside0.mk (below_step bl hb); (try clear hb); (try clear hb2); (try clear hk); (try clear hi); (try clear ho0); obtain ⟨Ao67, co67, eo67⟩ := Kd.R_slice HO818.out; subst eo67) | ((with_reducible refine gate_callee (f := 63) rfl ?_); refine goesL_ (some 111) rfl rfl Tryd.func63 (by kernel_rfl) rfl #[.slice Ao67 t816.length co67, .string t794] rfl ma ?_; (with_reducible refine (impl_Get.calls _ _ t816 t794 t819 false _ ?side1 ?side2 A38.out).mono ?_); (case side1 => repeat (first | exact (Kd.R_reads' HO818.out).2.2 | (with_reducible refine Kd.C_alloc ?_ _) | (with_reducible refine Kd.C_drewN ?_ _) | (with_reducible refine Kd.C_drew ?_))); (case side2 => exact (Kd.R_reads' HO818.out).2.1); rintro e w68 ⟨rfl, hb⟩; refine ⟨_, rfl, ?_⟩; replace HO_3 := kr HO_3 hb; replace HO_6 := kr HO_6 hb; replace HO818 := kr HO818 hb; replace HB := Aside0.mk (below_step bl hb); (try clear hb); (try clear hb2); (try clear hk); (try clear hi)) | ((with_reducible refine gate_callee (f := 65) rfl ?_); refine goesL_ (some 116) rfl rfl Tryd.func65 (by kernel_rfl) rfl #[.slice A0 l0.length c0] rfl ma ?_; (with_reducible refine (spec_DrawGet.calls k3 _ _ l0 t821 t822 _ ?side1 ?side2 A39.out).mono ?_); (case side1 => repeat (first | exact (Kd.C_below HR0.out HB.out) | (with_reducible refine Kd.C_alloc ?_ _) | (with_reducible refine Kd.C_drewN ?_ _) | (with_reducible refine Kd.C_drew ?_))); (case side2 => exact HC0.out); rintro e w69 ⟨v823, rfl, ho0, hb⟩; refine ⟨_, rfl, ?_⟩; have HO824 := Aside0.mk (Kd.R_lower (Kd.R_new' (Kd.R_new' (Kd.R_new' ho0 (Kd.R_lt (ro HO_3))) (Kd.R_lt (ro HO_6))) (Kd.R_lt (ro HO818))) (below_size bl)); replace HO_3 := Aside0.mk (Kd.R_elder' (ro HO_3) (Kd.R_base ho0) hb); replace HO_6 := Aside0.mk (Kd.R_elder' (ro HO_6) (Kd.R_base ho0) hb); replace HO818 := Aside0.mk (Kd.R_elder' (ro HO818) (Kd.R_base ho0) hb); replace HB := Aside0.mk (below_step bl hb); (try clear hb); (try clear hb2); (try clear hk); (try clear hi); (try clear ho0); obtain ⟨Ao70, co70, eo70⟩ := Kd.R_slice HO824.out; subst eo70) | ((with_reducible refine gate_callee (f := 63) rfl ?_); refine goesL_ (some 122) rfl rfl Tryd.func63 (by kernel_rfl) rfl #[.slice Ao70 t821.length co70, .string t822] rfl ma ?_; (with_reducible refine (impl_Get.calls _ _ t821 t822 t825 t826 _ ?side1 ?side2 A40.out).mono ?_); (case side1 => repeat (first | exact (Kd.R_reads' HO824.out).2.2 | (with_reducible refine Kd.C_alloc ?_ _) | (with_reducible refine Kd.C_drewN ?_ _) | (with_reducible refine Kd.C_drew ?_))); (case side2 => exact (Kd.R_reads' HO824.out).2.1); rintro e w71 ⟨rfl, hb⟩; refine ⟨_, rfl, ?_⟩; replace HO_3 := kr HO_3 hb; replace HO_6 := kr HO_6 hb; replace HO818 := kr HO818 hb; replace HO824 := kr HO824 hb; replace HB := Aside0.mk (below_step bl hb); (try clear hb); (try clear hb2); (try clear hk); (try clear hi)) | ((with_reducible refine gate_callee (f := 66) rfl ?_); refine goesL_ (some 128) rfl rfl Tryd.func66 (by kernel_rfl) rfl #[.slice Ao70 t821.length co70, .string t822] rfl ma ?_; (with_reducible refine (spec_Get.calls k3 _ _ t821 t822 t827 t828 _ ?side1 ?side2 A41.out).mono ?_); (case side1 => repeat (first | exact (Kd.R_reads' HO824.out).2.2 | (with_reducible refine Kd.C_alloc ?_ _) | (with_reducible refine Kd.C_drewN ?_ _) | (with_reducible refine Kd.C_drew ?_))); (case side2 => exact (Kd.R_reads' HO824.out).2.1); rintro e w' ⟨rfl, ⟨nd, rfl⟩⟩; refine ⟨_, rfl, ?_⟩) | ((with_reducible refine gate_callee (f := 67) rfl ?_); refine goesL_ (some 134) rfl rfl Tryd.func67 (by kernel_rfl) rfl #[.slice Ao8 t793.length co8, .string t794] rfl ma ?_; (with_reducible refine (spec_Drop.calls k3 _ _ t793 t794 t829 _ ?side1 ?side2 A42.out).mono ?_); (case side1 => repeat (first | exact (Kd.R_reads' HO_3.out).2.2 | (with_reducible refine Kd.C_alloc ?_ _) | (with_reducible refine Kd.C_drewN ?_ _) | (with_reducible refine Kd.C_drew ?_))); (case side2 => exact (Kd.R_reads' HO_3.out).2.1); rintro e w72 ⟨v830, rfl, ho0, hb⟩; refine ⟨_, rfl, ?_⟩; have HO831 := Aside0.mk (Kd.R_lower (Kd.R_new' (Kd.R_new' (Kd.R_new' (Kd.R_new' ho0 (Kd.R_lt (ro HO_3))) (Kd.R_lt (ro HO_6))) (Kd.R_lt (ro HO818))) (Kd.R_lt (ro HO824))) (below_size bl)); replace HO_3 := Aside0.mk (Kd.R_elder' (ro HO_3) (Kd.R_base ho0) hb); replace HO_6 := Aside0.mk (Kd.R_elder' (ro HO_6) (Kd.R_base ho0) hb); replace HO818 := Aside0.mk (Kd.R_elder' (ro HO818) (Kd.R_base ho0) hb); replace HO824 := Aside0.mk (Kd.R_elder' (ro HO824) (Kd.R_base ho0) hb); replace HB := Aside0.mk (below_step bl hb); (try clear hb); (try clear hb2); (try clear hk); (try clear hi); (try clear ho0); obtain ⟨Ao73, co73, eo73⟩ := Kd.R_slice HO831.out; subst eo73) | ((with_reducible refine gate_callee (f := 61) rfl ?_); refine goesL_ (some 135) rfl rfl Tryd.func61 (by kernel_rfl) rfl #[.slice Ao67 t816.length co67, .slice Ao73 t829.length co73] rfl ma ?_; (with_reducible refine (laws_sameFields.calls k3 _ _ t816 _ _ t829 true _ ?side1 ?side2 ?side3 ?side4 A43.out).mono ?_); (case side1 => repeat (first | exact (Kd.R_reads' HO818.out).2.2 | (with_reducible refine Kd.C_alloc ?_ _) | (with_reducible refine Kd.C_drewN ?_ _) | (with_reducible refine Kd.C_drew ?_))); (case side2 => exact (Kd.R_reads' HO818.out).2.1); (case side3 => repeat (first | exact (Kd.R_reads' HO831.out).2.2 | (with_reducible refine Kd.C_alloc ?_ _) | (with_reducible refine Kd.C_drewN ?_ _) | (with_reducible refine Kd.C_drew ?_))); (case side4 => exact (Kd.R_reads' HO831.out).2.1); rintro e w' ⟨rfl, ⟨nd, rfl⟩⟩; refine ⟨_, rfl, ?_⟩) | (go_at_call 68; (with_reducible refine (impl_FieldsText.calls _ _ t793 t836 _ ?side1 ?side2 A64.out).mono ?_); (case side1 => repeat (first | exact (Kd.R_reads' HO_3.out).2.2 | (with_reducible refine Kd.C_alloc ?_ _) | (with_reducible refine Kd.C_drewN ?_ _) | (with_reducible refine Kd.C_drew ?_))); (case side2 => exact (Kd.R_reads' HO_3.out).2.1); rintro e w74 ⟨rfl, hb⟩; replace HO_3 := kr HO_3 hb; replace HO_6 := kr HO_6 hb; replace HO818 := kr HO818 hb; replace HO824 := kr HO824 hb; replace HO831 := kr HO831 hb; replace HB := Aside0.mk (below_step bl hb); (try clear hb); (try clear hb2); (try clear hk); (try clear hi)) | (go_at_call 69; (with_reducible refine (spec_FieldsText.calls k3 _ _ t793 t837 _ ?side1 ?side2 A65.out).mono ?_); (case side1 => repeat (first | exact (Kd.R_reads' HO_3.out).2.2 | (with_reducible refine Kd.C_alloc ?_ _) | (with_reducible refine Kd.C_drewN ?_ _) | (with_reducible refine Kd.C_drew ?_))); (case side2 => exact (Kd.R_reads' HO_3.out).2.1); rintro e w' ⟨rfl, ⟨nd, rfl⟩⟩))
                              go_ret
                              exact ⟨rf, bl⟩
                            · rw [if_neg c63] at H
                              have c63b0 : (t826 == t828) = false := by simpa using c63
                              (try (have c63b1 : decide (t826 = t828) = false := by simpa using c63))
                              (try (have c63b2 : (t826 == t828) = false := by simpa using c63))
                              (try (have c63b3 : ¬ (t826 = t828) := by simpa using c63))
                              clear c63
                              exact absurd (Option.some.inj H) (by rw [ht_]; decide)
                          · rw [if_neg c62] at H
                            have c62b0 : (t825.toList == t827.toList) = false := beq_eq_false_iff_ne.mpr c62
                            have c62b1 : (t825.toList != t827.toList) = true := bne_iff_ne.mpr c62
                            exact absurd (Option.some.inj H) (by rw [ht_]; decide)
                      · replace c44 := Bool.eq_false_iff.mpr c44
                        subst c44
                        have H1 : (some false) = some r := by rw [if_neg (show ¬ (false = true) by decide)] at H; exact H
                        clear H
                        have H := H1
                        clear H1
                        exact absurd (Option.some.inj H) (by rw [ht_]; decide)

end Go.Proofs.YtogdmlgbdbgpkaaDoor.All
