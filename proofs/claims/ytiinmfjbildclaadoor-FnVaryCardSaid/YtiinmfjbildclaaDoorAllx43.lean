-- Written by a program of this session (wip/tools/hprint.py) out of the translation. Lean checks it.
import Derived.Test.YtiinmfjbildclaaDoorAllx0
import Derived.Test.YtiinmfjbildclaaDoorAllx7
import Derived.Test.YtiinmfjbildclaaDoorAllx16
import Derived.Test.YtiinmfjbildclaaDoorAllx40
import Derived.Test.YtiinmfjbildclaaDoorAllx41
import Derived.Test.YtiinmfjbildclaaDoorAllx42
namespace Go.Proofs.YtiinmfjbildclaaDoor.All
open Go.RowKit Go.Proofs.YtiinmfjbildclaaDoorW.PrintWords Go.Proofs.YtiinmfjbildclaaDoorW.PrintLast Go.Proofs.YtiinmfjbildclaaDoorW.PrintMore
attribute [local go_sem] max2_int min2_int max_two min_two max_three min_three max_four min_four   -- for this text's walks alone
set_option linter.unusedVariables false
set_option linter.unusedSimpArgs false

/-! ### laws_FnVary: function 7 -/
mutual
def laws_FnVary.l0 : Nat → List Int → List ByteArray → List ByteArray → List (S114) → Bool → List ByteArray → Bool → Int → Option (Bool)
 | 0, _, _, _, _, _, _, _, _ => none
 | k + 1, x0, x3, x4, x5, x6, x7, x8, x9 => if x9 < (x3.length : Int) then (if x8 = true then (laws_FnVary.l0 k x0 x3 x4 x5 x6 x7 true (wrap64 (x9 + 1))) else (if 0 ≤ x9 then (laws_FnVary.l0 k x0 x3 x4 x5 x6 x7 ((rdOf ByteArray.empty x3 x9).toList == ([42] : List UInt8)) (wrap64 (x9 + 1))) else (none))) else ((spec_DrawValuesOf.f k x0).bind fun bt1045 => ((spec_DrawVaryOf.f k x0).bind fun t1051 => ((impl_ValuesOf.f k bt1045.1 bt1045.2).bind fun t1054 => ((spec_ValuesOf.f k bt1045.1 bt1045.2).bind fun t1057 => ((laws_sameTexts.f k t1054 t1057).bind fun t1060 => (if t1060 = true then ((impl_VaryOf.f k t1051).bind fun t1061 => ((spec_VaryOf.f k t1051).bind fun t1064 => ((laws_sameTexts.f k t1061 t1064).bind fun t1067 => (laws_FnVary.j1 k x3 x4 x5 x6 x7 x8 (!t1067))))) else (laws_FnVary.j1 k x3 x4 x5 x6 x7 x8 true)))))))
def laws_FnVary.j1 : Nat → List ByteArray → List ByteArray → List (S114) → Bool → List ByteArray → Bool → Bool → Option (Bool)
 | 0, _, _, _, _, _, _, _ => none
 | k + 1, x3, x4, x5, x6, x7, x8, x70 => if x70 = true then (some false) else ((impl_Suits.f k x3 x7 x5).bind fun t1068 => (if (t1068 == (!x8)) = true then (if x6 = true then ((laws_sameTexts.f k x7 x4).bind fun t1069 => (if t1069 = true then (if x8 = true then (some false) else (some ((x7.length : Int) == (x3.length : Int)))) else (some false))) else (some ((x7.length : Int) == (x3.length : Int)))) else (some false)))
end
def laws_FnVary.f (k : Nat) (l0 : List Int) : Option (Bool) := (laws_big.f l0).bind fun t1029 => (if t1029 = true then (some true) else ((spec_DrawSuits.f k l0).bind fun bt1030 => ((impl_Suits.f k bt1030.1 bt1030.2.1 bt1030.2.2).bind fun t1039 => ((spec_Suits.f k bt1030.1 bt1030.2.1 bt1030.2.2).bind fun t1040 => (if (t1039 != t1040) = true then (some false) else ((impl_ValuesOf.f k bt1030.1 bt1030.2.2).bind fun t1041 => (laws_FnVary.l0 k l0 bt1030.1 bt1030.2.1 bt1030.2.2 t1039 t1041 false 0)))))))
theorem laws_FnVary.mono_l : ∀ k, (∀ y0 y1 y2 y3 y4 y5 y6 y7, LeO (laws_FnVary.l0 k y0 y1 y2 y3 y4 y5 y6 y7) (laws_FnVary.l0 (k + 1) y0 y1 y2 y3 y4 y5 y6 y7)) ∧ (∀ y0 y1 y2 y3 y4 y5 y6, LeO (laws_FnVary.j1 k y0 y1 y2 y3 y4 y5 y6) (laws_FnVary.j1 (k + 1) y0 y1 y2 y3 y4 y5 y6))
 | 0 => ⟨fun _ _ _ _ _ _ _ _ r h => by simp [laws_FnVary.l0] at h, fun _ _ _ _ _ _ _ r h => by simp [laws_FnVary.j1] at h⟩
 | k + 1 => by
  obtain ⟨ih0, ih1⟩ := laws_FnVary.mono_l k
  refine ⟨?_, ?_⟩
  ·intro y0 y1 y2 y3 y4 y5 y6 y7
   unfold laws_FnVary.l0
   repeat' first
   | (with_reducible exact ih0 _ _ _ _ _ _ _ _)
   | (with_reducible exact ih1 _ _ _ _ _ _ _)
   | (with_reducible exact impl_Suits.mono _ _ _ _)
   | (with_reducible exact impl_ValuesOf.mono _ _ _)
   | (with_reducible exact impl_VaryOf.mono _ _)
   | (with_reducible exact laws_sameTexts.mono _ _ _)
   | (with_reducible exact spec_DrawSuits.mono _ _)
   | (with_reducible exact spec_DrawValuesOf.mono _ _)
   | (with_reducible exact spec_DrawVaryOf.mono _ _)
   | (with_reducible exact spec_Suits.mono _ _ _ _)
   | (with_reducible exact spec_ValuesOf.mono _ _ _)
   | (with_reducible exact spec_VaryOf.mono _ _)
   | (with_reducible exact LeO.refl _)
   | (with_reducible exact LeO.none _)
   | (with_reducible refine LeO.ite ?_ ?_)
   | (with_reducible refine LeO.bind ?_ (fun _ => ?_))
   | exact ih0 _ _ _ _ _ _ _ _
   | exact ih1 _ _ _ _ _ _ _
   | exact impl_Suits.mono _ _ _ _
   | exact impl_ValuesOf.mono _ _ _
   | exact impl_VaryOf.mono _ _
   | exact laws_sameTexts.mono _ _ _
   | exact spec_DrawSuits.mono _ _
   | exact spec_DrawValuesOf.mono _ _
   | exact spec_DrawVaryOf.mono _ _
   | exact spec_Suits.mono _ _ _ _
   | exact spec_ValuesOf.mono _ _ _
   | exact spec_VaryOf.mono _ _
   | exact LeO.none _
   | refine LeO.ite ?_ ?_
   | refine LeO.bind ?_ (fun _ => ?_)
  ·intro y0 y1 y2 y3 y4 y5 y6
   unfold laws_FnVary.j1
   repeat' first
   | (with_reducible exact ih0 _ _ _ _ _ _ _ _)
   | (with_reducible exact ih1 _ _ _ _ _ _ _)
   | (with_reducible exact impl_Suits.mono _ _ _ _)
   | (with_reducible exact impl_ValuesOf.mono _ _ _)
   | (with_reducible exact impl_VaryOf.mono _ _)
   | (with_reducible exact laws_sameTexts.mono _ _ _)
   | (with_reducible exact spec_DrawSuits.mono _ _)
   | (with_reducible exact spec_DrawValuesOf.mono _ _)
   | (with_reducible exact spec_DrawVaryOf.mono _ _)
   | (with_reducible exact spec_Suits.mono _ _ _ _)
   | (with_reducible exact spec_ValuesOf.mono _ _ _)
   | (with_reducible exact spec_VaryOf.mono _ _)
   | (with_reducible exact LeO.refl _)
   | (with_reducible exact LeO.none _)
   | (with_reducible refine LeO.ite ?_ ?_)
   | (with_reducible refine LeO.bind ?_ (fun _ => ?_))
   | exact ih0 _ _ _ _ _ _ _ _
   | exact ih1 _ _ _ _ _ _ _
   | exact impl_Suits.mono _ _ _ _
   | exact impl_ValuesOf.mono _ _ _
   | exact impl_VaryOf.mono _ _
   | exact laws_sameTexts.mono _ _ _
   | exact spec_DrawSuits.mono _ _
   | exact spec_DrawValuesOf.mono _ _
   | exact spec_DrawVaryOf.mono _ _
   | exact spec_Suits.mono _ _ _ _
   | exact spec_ValuesOf.mono _ _ _
   | exact spec_VaryOf.mono _ _
   | exact LeO.none _
   | refine LeO.ite ?_ ?_
   | refine LeO.bind ?_ (fun _ => ?_)
theorem laws_FnVary.mono : ∀ a0 k, LeO (laws_FnVary.f k a0) (laws_FnVary.f (k + 1) a0) := by
 intro a0 k
 obtain ⟨ih0, ih1⟩ := laws_FnVary.mono_l k
 unfold laws_FnVary.f
 repeat' first
   | (with_reducible exact ih0 _ _ _ _ _ _ _ _)
   | (with_reducible exact ih1 _ _ _ _ _ _ _)
   | (with_reducible exact impl_Suits.mono _ _ _ _)
   | (with_reducible exact impl_ValuesOf.mono _ _ _)
   | (with_reducible exact impl_VaryOf.mono _ _)
   | (with_reducible exact laws_sameTexts.mono _ _ _)
   | (with_reducible exact spec_DrawSuits.mono _ _)
   | (with_reducible exact spec_DrawValuesOf.mono _ _)
   | (with_reducible exact spec_DrawVaryOf.mono _ _)
   | (with_reducible exact spec_Suits.mono _ _ _ _)
   | (with_reducible exact spec_ValuesOf.mono _ _ _)
   | (with_reducible exact spec_VaryOf.mono _ _)
   | (with_reducible exact LeO.refl _)
   | (with_reducible exact LeO.none _)
   | (with_reducible refine LeO.ite ?_ ?_)
   | (with_reducible refine LeO.bind ?_ (fun _ => ?_))
   | exact ih0 _ _ _ _ _ _ _ _
   | exact ih1 _ _ _ _ _ _ _
   | exact impl_Suits.mono _ _ _ _
   | exact impl_ValuesOf.mono _ _ _
   | exact impl_VaryOf.mono _ _
   | exact laws_sameTexts.mono _ _ _
   | exact spec_DrawSuits.mono _ _
   | exact spec_DrawValuesOf.mono _ _
   | exact spec_DrawVaryOf.mono _ _
   | exact spec_Suits.mono _ _ _ _
   | exact spec_ValuesOf.mono _ _ _
   | exact spec_VaryOf.mono _ _
   | exact LeO.none _
   | refine LeO.ite ?_ ?_
   | refine LeO.bind ?_ (fun _ => ?_)
set_option maxHeartbeats 8000000 in
set_option maxRecDepth 100000 in
theorem laws_FnVary.calls (k : Nat) (A0 : Option Addr) (c0 : Nat) (l0 : List Int) (r : Bool) (w : World) (hGM : GLOBM w) (hr0 : Kd.C (Kd.int .u8) w A0 l0.length l0) (hc0 : l0.length ≤ c0) (ht_ : r = true) (h : laws_FnVary.f k l0 = some r) :
  Calls Tryd.prog 7 #[.slice A0 l0.length c0] w fun e w' => e = .returned (.bool r) ∧ Below w.heap.size w w' := by
 have HR0 := am hr0
 have HC0 := am hc0
 clear hr0 hc0
 have HGM := am hGM
 clear hGM
 have HB := am (Below.refl w.heap.size w)
 have H : ((laws_big.f l0).bind fun t1029 => (if t1029 = true then (some true) else ((spec_DrawSuits.f k l0).bind fun bt1030 => ((impl_Suits.f k bt1030.1 bt1030.2.1 bt1030.2.2).bind fun t1039 => ((spec_Suits.f k bt1030.1 bt1030.2.1 bt1030.2.2).bind fun t1040 => (if (t1039 != t1040) = true then (some false) else ((impl_ValuesOf.f k bt1030.1 bt1030.2.2).bind fun t1041 => (laws_FnVary.l0 k l0 bt1030.1 bt1030.2.1 bt1030.2.2 t1039 t1041 false 0)))))))) = some r := h
 clear h
 replace H := ob H
 obtain ⟨t1029, A20, H⟩ := H
 replace H : (if t1029 = true then (some true) else ((spec_DrawSuits.f k l0).bind fun bt1030 => ((impl_Suits.f k bt1030.1 bt1030.2.1 bt1030.2.2).bind fun t1039 => ((spec_Suits.f k bt1030.1 bt1030.2.1 bt1030.2.2).bind fun t1040 => (if (t1039 != t1040) = true then (some false) else ((impl_ValuesOf.f k bt1030.1 bt1030.2.2).bind fun t1041 => (laws_FnVary.l0 k l0 bt1030.1 bt1030.2.1 bt1030.2.2 t1039 t1041 false 0))))))) = some r := H
 have A2 := am A20
 clear A20
 by_cases c3 : t1029 = true
 ·subst c3
  have H1 : (some true) = some r := by rw [if_pos rfl] at H; exact H
  clear H
  have H := H1
  clear H1
  obtain rfl := Option.some.inj H
  go_enter Tryd.func7, Tryd.ntmps7
  go_wp2_with (first | ((with_reducible refine gate_callee (f := 28) rfl ?_); refine goesL_ (some 14) rfl rfl Tryd.func28 (by kernel_rfl) rfl #[.slice A0 l0.length c0] rfl ma ?_; (with_reducible refine (laws_big.calls _ _ l0 true _ ?side1 ?side2 A2.out).mono ?_); (case side1 => exact cc HR0); (case side2 => exact HC0.out); rintro e w' ⟨rfl, ⟨nd, rfl⟩⟩; refine ⟨_, rfl, ?_⟩))
  go_ret
  exact ⟨rf, bl⟩
 ·replace c3 := Bool.eq_false_iff.mpr c3
  subst c3
  have H1 : ((spec_DrawSuits.f k l0).bind fun bt1030 => ((impl_Suits.f k bt1030.1 bt1030.2.1 bt1030.2.2).bind fun t1039 => ((spec_Suits.f k bt1030.1 bt1030.2.1 bt1030.2.2).bind fun t1040 => (if (t1039 != t1040) = true then (some false) else ((impl_ValuesOf.f k bt1030.1 bt1030.2.2).bind fun t1041 => (laws_FnVary.l0 k l0 bt1030.1 bt1030.2.1 bt1030.2.2 t1039 t1041 false 0)))))) = some r := by rw [if_neg (show ¬ (false = true) by decide)] at H; exact H
  clear H
  have H := H1
  clear H1
  replace H := ob H
  obtain ⟨⟨t1030, t1031, t1032⟩, A40, H⟩ := H
  replace H : ((impl_Suits.f k t1030 t1031 t1032).bind fun t1039 => ((spec_Suits.f k t1030 t1031 t1032).bind fun t1040 => (if (t1039 != t1040) = true then (some false) else ((impl_ValuesOf.f k t1030 t1032).bind fun t1041 => (laws_FnVary.l0 k l0 t1030 t1031 t1032 t1039 t1041 false 0))))) = some r := H
  have A4 := am A40
  clear A40
  replace H := ob H
  obtain ⟨t1039, A50, H⟩ := H
  replace H : ((spec_Suits.f k t1030 t1031 t1032).bind fun t1040 => (if (t1039 != t1040) = true then (some false) else ((impl_ValuesOf.f k t1030 t1032).bind fun t1041 => (laws_FnVary.l0 k l0 t1030 t1031 t1032 t1039 t1041 false 0)))) = some r := H
  have A5 := am A50
  clear A50
  replace H := ob H
  obtain ⟨t1040, A60, H⟩ := H
  replace H : (if (t1039 != t1040) = true then (some false) else ((impl_ValuesOf.f k t1030 t1032).bind fun t1041 => (laws_FnVary.l0 k l0 t1030 t1031 t1032 t1039 t1041 false 0))) = some r := H
  have A6 := am A60
  clear A60
  by_cases c7 : (t1039 != t1040) = true
  ·rw [if_pos c7] at H
   have c7b0 : (t1039 != t1040) = true := c7
   (try (have c7b1 : decide (t1039 = t1040) = false := by simpa using c7))
   (try (have c7b2 : (t1039 == t1040) = false := by simpa using c7))
   (try (have c7b3 : ¬ (t1039 = t1040) := by simpa using c7))
   clear c7
   exact absurd (Option.some.inj H) (by rw [ht_]; decide)
  ·rw [if_neg c7] at H
   have c7b0 : (t1039 != t1040) = false := by simpa using c7
   (try (have c7b1 : decide (t1039 = t1040) = true := by simpa using c7))
   (try (have c7b2 : (t1039 == t1040) = true := by simpa using c7))
   clear c7
   replace H := ob H
   obtain ⟨t1041, A80, H⟩ := H
   replace H : (laws_FnVary.l0 k l0 t1030 t1031 t1032 t1039 t1041 false 0) = some r := H
   have A8 := am A80
   clear A80
   have H' := am H
   clear H
   go_enter Tryd.func7, Tryd.ntmps7
   go_wp2_with (first | ((with_reducible refine gate_callee (f := 28) rfl ?_); refine goesL_ (some 14) rfl rfl Tryd.func28 (by kernel_rfl) rfl #[.slice A0 l0.length c0] rfl ma ?_; (with_reducible refine (laws_big.calls _ _ l0 false _ ?side1 ?side2 A2.out).mono ?_); (case side1 => exact cc HR0); (case side2 => exact HC0.out); rintro e w' ⟨rfl, ⟨nd, rfl⟩⟩; refine ⟨_, rfl, ?_⟩) | ((with_reducible refine gate_callee (f := 46) rfl ?_); refine goesL_ (some 17) rfl rfl Tryd.func46 (by kernel_rfl) rfl #[.slice A0 l0.length c0] rfl ma ?_; (with_reducible refine (spec_DrawSuits.calls k _ _ l0 t1030 t1031 t1032 _ ?side1 ?side2 A4.out).mono ?_); (case side1 => exact cc HR0); (case side2 => exact HC0.out); rintro e w9 ⟨v1033, v1035, v1037, rfl, ho0, ho1, ho2, hb⟩; refine ⟨_, rfl, ?_⟩; have HO1034 := am (Kd.R_lower ho0 (below_size bl)); have HO1036 := am (Kd.R_lower ho1 (below_size bl)); have HO1038 := am (Kd.R_lower ho2 (below_size bl)); replace HB := am (below_step bl hb); (try clear hb); (try clear hb2); (try clear hk); (try clear hi); (try clear ho0); (try clear ho1); (try clear ho2); obtain ⟨Ao10, co10, eo10⟩ := Kd.R_slice HO1034.out; subst eo10; obtain ⟨Ao11, co11, eo11⟩ := Kd.R_slice HO1036.out; subst eo11; obtain ⟨Ao12, co12, eo12⟩ := Kd.R_slice HO1038.out; subst eo12) | ((with_reducible refine gate_callee (f := 47) rfl ?_); refine goesL_ (some 24) rfl rfl Tryd.func47 (by kernel_rfl) rfl #[.slice Ao10 t1030.length co10, .slice Ao11 t1031.length co11, .slice Ao12 t1032.length co12] rfl ma ?_; (with_reducible refine (impl_Suits.calls k _ _ t1030 _ _ t1031 _ _ t1032 t1039 _ ?side1 ?side2 ?side3 ?side4 ?side5 ?side6 A5.out).mono ?_); (case side1 => exact rc HO1034); (case side2 => exact (Kd.R_reads' HO1034.out).2.1); (case side3 => exact rc HO1036); (case side4 => exact (Kd.R_reads' HO1036.out).2.1); (case side5 => exact rc HO1038); (case side6 => exact (Kd.R_reads' HO1038.out).2.1); rintro e w13 ⟨rfl, hb⟩; refine ⟨_, rfl, ?_⟩; replace HO1034 := kr HO1034 hb; replace HO1036 := kr HO1036 hb; replace HO1038 := kr HO1038 hb; replace HB := am (below_step bl hb); (try clear hb); (try clear hb2); (try clear hk); (try clear hi)) | ((with_reducible refine gate_callee (f := 48) rfl ?_); refine goesL_ (some 29) rfl rfl Tryd.func48 (by kernel_rfl) rfl #[.slice Ao10 t1030.length co10, .slice Ao11 t1031.length co11, .slice Ao12 t1032.length co12] rfl ma ?_; (with_reducible refine (spec_Suits.calls k _ _ t1030 _ _ t1031 _ _ t1032 t1040 _ ?side1 ?side2 ?side3 ?side4 ?side5 ?side6 A6.out).mono ?_); (case side1 => exact rc HO1034); (case side2 => exact (Kd.R_reads' HO1034.out).2.1); (case side3 => exact rc HO1036); (case side4 => exact (Kd.R_reads' HO1036.out).2.1); (case side5 => exact rc HO1038); (case side6 => exact (Kd.R_reads' HO1038.out).2.1); rintro e w14 ⟨rfl, hb⟩; refine ⟨_, rfl, ?_⟩; replace HO1034 := kr HO1034 hb; replace HO1036 := kr HO1036 hb; replace HO1038 := kr HO1038 hb; replace HB := am (below_step bl hb); (try clear hb); (try clear hb2); (try clear hk); (try clear hi)) | ((with_reducible refine gate_callee (f := 49) rfl ?_); refine goesL_ (some 33) rfl rfl Tryd.func49 (by kernel_rfl) rfl #[.slice Ao10 t1030.length co10, .slice Ao12 t1032.length co12] rfl ma ?_; (with_reducible refine (impl_ValuesOf.calls k _ _ t1030 _ _ t1032 t1041 _ ?side1 ?side2 ?side3 ?side4 A8.out).mono ?_); (case side1 => exact rc HO1034); (case side2 => exact (Kd.R_reads' HO1034.out).2.1); (case side3 => exact rc HO1038); (case side4 => exact (Kd.R_reads' HO1038.out).2.1); rintro e w15 ⟨v1042, rfl, ho0, hb⟩; refine ⟨_, rfl, ?_⟩; replace HO1038 := kr HO1038 hb; have HO1043 := am (Kd.R_lower (Kd.R_new' (Kd.R_new' ho0 (Kd.R_lt (ro HO1034))) (Kd.R_lt (ro HO1036))) (below_size bl)); replace HO1034 := am (Kd.R_elder' (ro HO1034) (Kd.R_base ho0) hb); replace HO1036 := am (Kd.R_elder' (ro HO1036) (Kd.R_base ho0) hb); replace HB := am (below_step bl hb); (try clear hb); (try clear hb2); (try clear hk); (try clear hi); (try clear ho0)))
   (try simp only [Act.put, List.setIfInBounds_toArray, List.set_cons_zero, List.set_cons_succ])
   go_loopg [8, 9] k (fun kq v8 v9 w' => ∃ (x8_1 : Bool) (x9_1 : Int), v8 = .bool x8_1 ∧ v9 = .int .i64 x9_1 ∧ Aside0 (laws_FnVary.l0 kq l0 t1030 t1031 t1032 t1039 t1041 x8_1 x9_1 = some r) ∧ Aside0 (kq ≤ k) ∧ Aside0 (Kd.R Kd.string 9 w' w.heap.size (fun k_ => some k_ ≠ ((.slice Ao11 t1031.length co11) : Value).ownBlock ∧ some k_ ≠ (v1042 : Value).ownBlock) (.slice Ao10 t1030.length co10) t1030) ∧ Aside0 (Kd.R Kd.string 9 w' w.heap.size (fun k_ => some k_ ≠ ((.slice Ao10 t1030.length co10) : Value).ownBlock ∧ some k_ ≠ (v1042 : Value).ownBlock) (.slice Ao11 t1031.length co11) t1031) ∧ Aside0 (Kd.R k114 114 w' w.heap.size (fun _ => True) (.slice Ao12 t1032.length co12) t1032) ∧ Aside0 (Kd.R Kd.string 9 w' w.heap.size (fun k_ => some k_ ≠ ((.slice Ao10 t1030.length co10) : Value).ownBlock ∧ some k_ ≠ ((.slice Ao11 t1031.length co11) : Value).ownBlock) v1042 t1041) ∧ Aside0 (Below w.heap.size w w'))
   case atStart => exact ⟨(false), (0), rs, rs, H', ⟨Nat.le_refl _⟩, ⟨by (with_reducible repeat (first | apply Kd.R_alloc | apply Kd.R_drewN | apply Kd.R_drew)); exact HO1034.out⟩, ⟨by (with_reducible repeat (first | apply Kd.R_alloc | apply Kd.R_drewN | apply Kd.R_drew)); exact HO1036.out⟩, ⟨by (with_reducible repeat (first | apply Kd.R_alloc | apply Kd.R_drewN | apply Kd.R_drew)); exact HO1038.out⟩, ⟨by (with_reducible repeat (first | apply Kd.R_alloc | apply Kd.R_drewN | apply Kd.R_drew)); exact Kd.R_mono HO1043.out (fun _ hk => ⟨hk.1.2, hk.2⟩)⟩, ⟨by repeat (first | (with_reducible first | exact HB.out | apply below_alloc | apply pw_below_drewN | apply below_drew1) | exact HB.out)⟩⟩
   case round =>
    clear H'
    try clear c2
    try clear p2
    try clear c3
    try clear c4
    try clear c7
    try clear c7b0
    try clear c7b1
    try clear c7b2
    obtain ⟨x8_1, x9_1, rfl, rfl, HA, HK1, HO_3, HO_4, HO_5, HO_7, HB⟩ := hrel
    cases gk with
    | zero => exact absurd HA.out (by simp [laws_FnVary.l0])
    | succ k1 =>
     have H := HA.out
     clear HA
     simp only [laws_FnVary.l0] at H
     by_cases c16 : x9_1 < (t1030.length : Int)
     ·rw [if_pos c16] at H
      have c16b0 : decide (x9_1 < (t1030.length : Int)) = true := decide_eq_true c16
      clear c16
      by_cases c17 : x8_1 = true
      ·subst c17
       have H1 : (laws_FnVary.l0 k1 l0 t1030 t1031 t1032 t1039 t1041 true (wrap64 (x9_1 + 1))) = some r := by rw [if_pos rfl] at H; exact H
       clear H
       have H := H1
       clear H1
       have H' := am H
       clear H
       go_wp2
       go_roundg k1
       case measure => have := HK1.out; omega
       case rel => exact ⟨(true), (wrap64 (x9_1 + 1)), rs, rs, H', ⟨by have := HK1.out; omega⟩, ⟨by (with_reducible repeat (first | apply Kd.R_alloc | apply Kd.R_drewN | apply Kd.R_drew)); exact HO_3.out⟩, ⟨by (with_reducible repeat (first | apply Kd.R_alloc | apply Kd.R_drewN | apply Kd.R_drew)); exact HO_4.out⟩, ⟨by (with_reducible repeat (first | apply Kd.R_alloc | apply Kd.R_drewN | apply Kd.R_drew)); exact HO_5.out⟩, ⟨by (with_reducible repeat (first | apply Kd.R_alloc | apply Kd.R_drewN | apply Kd.R_drew)); exact HO_7.out⟩, ⟨by repeat (first | (with_reducible first | exact HB.out | apply below_alloc | apply pw_below_drewN | apply below_drew1) | exact HB.out)⟩⟩
      ·replace c17 := Bool.eq_false_iff.mpr c17
       subst c17
       have H1 : (if 0 ≤ x9_1 then (laws_FnVary.l0 k1 l0 t1030 t1031 t1032 t1039 t1041 ((rdOf ByteArray.empty t1030 x9_1).toList == ([42] : List UInt8)) (wrap64 (x9_1 + 1))) else (none)) = some r := by rw [if_neg (show ¬ (false = true) by decide)] at H; exact H
       clear H
       have H := H1
       clear H1
       by_cases c18 : 0 ≤ x9_1
       ·rw [if_pos c18] at H
        have c18b0 : decide (0 ≤ x9_1) = true := decide_eq_true c18
        clear c18
        have H' := am H
        clear H
        have p1044 : 0 ≤ (x9_1 : Int) := od
        have q1044 : x9_1 < (t1030.length : Int) := od
        obtain ⟨ad1044, e1044, hx1044_0⟩ := Kd.at_string (Kd.R_reads' HO_3.out).2.2 x9_1 p1044 q1044
        cases e1044
        replace p1044 := eq_true p1044
        replace q1044 := eq_true q1044
        go_wp2
        go_roundg k1
        case measure => have := HK1.out; omega
        case rel => exact ⟨(((rdOf ByteArray.empty t1030 x9_1).toList == ([42] : List UInt8))), (wrap64 (x9_1 + 1)), rs, rs, H', ⟨by have := HK1.out; omega⟩, ⟨by (with_reducible repeat (first | apply Kd.R_alloc | apply Kd.R_drewN | apply Kd.R_drew)); exact HO_3.out⟩, ⟨by (with_reducible repeat (first | apply Kd.R_alloc | apply Kd.R_drewN | apply Kd.R_drew)); exact HO_4.out⟩, ⟨by (with_reducible repeat (first | apply Kd.R_alloc | apply Kd.R_drewN | apply Kd.R_drew)); exact HO_5.out⟩, ⟨by (with_reducible repeat (first | apply Kd.R_alloc | apply Kd.R_drewN | apply Kd.R_drew)); exact HO_7.out⟩, ⟨by repeat (first | (with_reducible first | exact HB.out | apply below_alloc | apply pw_below_drewN | apply below_drew1) | exact HB.out)⟩⟩
       ·rw [if_neg c18] at H
        exact absurd H (by simp)
     ·rw [if_neg c16] at H
      have c16b0 : decide (x9_1 < (t1030.length : Int)) = false := decide_eq_false c16
      clear c16
      replace H := ob H
      obtain ⟨⟨t1045, t1046⟩, A190, H⟩ := H
      replace H : ((spec_DrawVaryOf.f k1 l0).bind fun t1051 => ((impl_ValuesOf.f k1 t1045 t1046).bind fun t1054 => ((spec_ValuesOf.f k1 t1045 t1046).bind fun t1057 => ((laws_sameTexts.f k1 t1054 t1057).bind fun t1060 => (if t1060 = true then ((impl_VaryOf.f k1 t1051).bind fun t1061 => ((spec_VaryOf.f k1 t1051).bind fun t1064 => ((laws_sameTexts.f k1 t1061 t1064).bind fun t1067 => (laws_FnVary.j1 k1 t1030 t1031 t1032 t1039 t1041 x8_1 (!t1067))))) else (laws_FnVary.j1 k1 t1030 t1031 t1032 t1039 t1041 x8_1 true)))))) = some r := H
      have A19 := am A190
      clear A190
      replace H := ob H
      obtain ⟨t1051, A200, H⟩ := H
      replace H : ((impl_ValuesOf.f k1 t1045 t1046).bind fun t1054 => ((spec_ValuesOf.f k1 t1045 t1046).bind fun t1057 => ((laws_sameTexts.f k1 t1054 t1057).bind fun t1060 => (if t1060 = true then ((impl_VaryOf.f k1 t1051).bind fun t1061 => ((spec_VaryOf.f k1 t1051).bind fun t1064 => ((laws_sameTexts.f k1 t1061 t1064).bind fun t1067 => (laws_FnVary.j1 k1 t1030 t1031 t1032 t1039 t1041 x8_1 (!t1067))))) else (laws_FnVary.j1 k1 t1030 t1031 t1032 t1039 t1041 x8_1 true))))) = some r := H
      have A20 := am A200
      clear A200
      have HC21 := am H
      clear H
      go_upto_region 15 with (first | ((with_reducible refine gate_callee (f := 50) rfl ?_); refine goesL_ (some 50) rfl rfl Tryd.func50 (by kernel_rfl) rfl #[.slice A0 l0.length c0] rfl ma ?_; (with_reducible refine (spec_DrawValuesOf.calls k1 _ _ l0 t1045 t1046 _ ?side1 ?side2 A19.out).mono ?_); (case side1 => exact cb HR0); (case side2 => exact HC0.out); rintro e w22 ⟨v1047, v1049, rfl, ho0, ho1, hb⟩; refine ⟨_, rfl, ?_⟩; have HO1048 := am (Kd.R_lower (Kd.R_new' (Kd.R_new' (Kd.R_new' ho0 (Kd.R_lt (ro HO_3))) (Kd.R_lt (ro HO_4))) (Kd.R_lt (ro HO_7))) (below_size bl)); replace HO_3 := am (Kd.R_elder' (ro HO_3) (Kd.R_base ho0) hb); replace HO_4 := am (Kd.R_elder' (ro HO_4) (Kd.R_base ho0) hb); replace HO_7 := am (Kd.R_elder' (ro HO_7) (Kd.R_base ho0) hb); have HO1050 := am (Kd.R_lower (Kd.R_new' ho1 (Kd.R_lt (ro HO_5))) (below_size bl)); replace HO_5 := am (Kd.R_elder' (ro HO_5) (Kd.R_base ho1) hb); replace HB := am (below_step bl hb); (try clear hb); (try clear hb2); (try clear hk); (try clear hi); (try clear ho0); (try clear ho1)) | ((with_reducible refine gate_callee (f := 51) rfl ?_); refine goesL_ (some 54) rfl rfl Tryd.func51 (by kernel_rfl) rfl #[.slice A0 l0.length c0] rfl ma ?_; (with_reducible refine (spec_DrawVaryOf.calls k1 _ _ l0 t1051 _ ?side1 ?side2 A20.out).mono ?_); (case side1 => exact cb HR0); (case side2 => exact HC0.out); rintro e w23 ⟨v1052, rfl, ho0, hb⟩; refine ⟨_, rfl, ?_⟩; replace HO_3 := kr HO_3 hb; replace HO_4 := kr HO_4 hb; replace HO_7 := kr HO_7 hb; replace HO1048 := kr HO1048 hb; have HO1053 := am (Kd.R_lower (Kd.R_new' (Kd.R_new' ho0 (Kd.R_lt (ro HO_5))) (Kd.R_lt (ro HO1050))) (below_size bl)); replace HO_5 := am (Kd.R_elder' (ro HO_5) (Kd.R_base ho0) hb); replace HO1050 := am (Kd.R_elder' (ro HO1050) (Kd.R_base ho0) hb); replace HB := am (below_step bl hb); (try clear hb); (try clear hb2); (try clear hk); (try clear hi); (try clear ho0)))
      (try simp only [Act.put, List.setIfInBounds_toArray, List.set_cons_zero, List.set_cons_succ])
      go_cut [70] (fun v70 wc => ∃ (kq : Nat) (x70_20 : Bool), v70 = .bool x70_20 ∧ Aside0 (laws_FnVary.j1 kq t1030 t1031 t1032 t1039 t1041 x8_1 x70_20 = some r) ∧ Aside0 (kq ≤ k1) ∧ Aside0 (Kd.R Kd.string 9 wc w.heap.size (fun k_ => some k_ ≠ ((.slice Ao11 t1031.length co11) : Value).ownBlock ∧ some k_ ≠ (v1042 : Value).ownBlock) (.slice Ao10 t1030.length co10) t1030) ∧ Aside0 (Kd.R Kd.string 9 wc w.heap.size (fun k_ => some k_ ≠ ((.slice Ao10 t1030.length co10) : Value).ownBlock ∧ some k_ ≠ (v1042 : Value).ownBlock) (.slice Ao11 t1031.length co11) t1031) ∧ Aside0 (Kd.R k114 114 wc w.heap.size (fun _ => True) (.slice Ao12 t1032.length co12) t1032) ∧ Aside0 (Kd.R Kd.string 9 wc w.heap.size (fun k_ => some k_ ≠ ((.slice Ao10 t1030.length co10) : Value).ownBlock ∧ some k_ ≠ ((.slice Ao11 t1031.length co11) : Value).ownBlock) v1042 t1041) ∧ Aside0 (Below w.heap.size w wc))
      case first =>
       have H := HC21.out
       clear HC21
       replace H := ob H
       obtain ⟨t1054, A240, H⟩ := H
       replace H : ((spec_ValuesOf.f k1 t1045 t1046).bind fun t1057 => ((laws_sameTexts.f k1 t1054 t1057).bind fun t1060 => (if t1060 = true then ((impl_VaryOf.f k1 t1051).bind fun t1061 => ((spec_VaryOf.f k1 t1051).bind fun t1064 => ((laws_sameTexts.f k1 t1061 t1064).bind fun t1067 => (laws_FnVary.j1 k1 t1030 t1031 t1032 t1039 t1041 x8_1 (!t1067))))) else (laws_FnVary.j1 k1 t1030 t1031 t1032 t1039 t1041 x8_1 true)))) = some r := H
       have A24 := am A240
       clear A240
       replace H := ob H
       obtain ⟨t1057, A250, H⟩ := H
       replace H : ((laws_sameTexts.f k1 t1054 t1057).bind fun t1060 => (if t1060 = true then ((impl_VaryOf.f k1 t1051).bind fun t1061 => ((spec_VaryOf.f k1 t1051).bind fun t1064 => ((laws_sameTexts.f k1 t1061 t1064).bind fun t1067 => (laws_FnVary.j1 k1 t1030 t1031 t1032 t1039 t1041 x8_1 (!t1067))))) else (laws_FnVary.j1 k1 t1030 t1031 t1032 t1039 t1041 x8_1 true))) = some r := H
       have A25 := am A250
       clear A250
       replace H := ob H
       obtain ⟨t1060, A260, H⟩ := H
       replace H : (if t1060 = true then ((impl_VaryOf.f k1 t1051).bind fun t1061 => ((spec_VaryOf.f k1 t1051).bind fun t1064 => ((laws_sameTexts.f k1 t1061 t1064).bind fun t1067 => (laws_FnVary.j1 k1 t1030 t1031 t1032 t1039 t1041 x8_1 (!t1067))))) else (laws_FnVary.j1 k1 t1030 t1031 t1032 t1039 t1041 x8_1 true)) = some r := H
       have A26 := am A260
       clear A260
       by_cases c27 : t1060 = true
       ·subst c27
        have H1 : ((impl_VaryOf.f k1 t1051).bind fun t1061 => ((spec_VaryOf.f k1 t1051).bind fun t1064 => ((laws_sameTexts.f k1 t1061 t1064).bind fun t1067 => (laws_FnVary.j1 k1 t1030 t1031 t1032 t1039 t1041 x8_1 (!t1067))))) = some r := by rw [if_pos rfl] at H; exact H
        clear H
        have H := H1
        clear H1
        replace H := ob H
        obtain ⟨t1061, A280, H⟩ := H
        replace H : ((spec_VaryOf.f k1 t1051).bind fun t1064 => ((laws_sameTexts.f k1 t1061 t1064).bind fun t1067 => (laws_FnVary.j1 k1 t1030 t1031 t1032 t1039 t1041 x8_1 (!t1067)))) = some r := H
        have A28 := am A280
        clear A280
        replace H := ob H
        obtain ⟨t1064, A290, H⟩ := H
        replace H : ((laws_sameTexts.f k1 t1061 t1064).bind fun t1067 => (laws_FnVary.j1 k1 t1030 t1031 t1032 t1039 t1041 x8_1 (!t1067))) = some r := H
        have A29 := am A290
        clear A290
        replace H := ob H
        obtain ⟨t1067, A300, H⟩ := H
        replace H : (laws_FnVary.j1 k1 t1030 t1031 t1032 t1039 t1041 x8_1 (!t1067)) = some r := H
        have A30 := am A300
        clear A300
        have H' := am H
        clear H
        obtain ⟨Ao31, co31, eo31⟩ := Kd.R_slice HO1048.out
        subst eo31
        obtain ⟨Ao32, co32, eo32⟩ := Kd.R_slice HO1050.out
        subst eo32
        go_wp2_with (first | ((with_reducible refine gate_callee (f := 49) rfl ?_); refine goesL_ (some 57) rfl rfl Tryd.func49 (by kernel_rfl) rfl #[.slice Ao31 t1045.length co31, .slice Ao32 t1046.length co32] rfl ma ?_; (with_reducible refine (impl_ValuesOf.calls k1 _ _ t1045 _ _ t1046 t1054 _ ?side1 ?side2 ?side3 ?side4 A24.out).mono ?_); (case side1 => exact rc HO1048); (case side2 => exact (Kd.R_reads' HO1048.out).2.1); (case side3 => exact rc HO1050); (case side4 => exact (Kd.R_reads' HO1050.out).2.1); rintro e w33 ⟨v1055, rfl, ho0, hb⟩; refine ⟨_, rfl, ?_⟩; replace HO_5 := kr HO_5 hb; replace HO1050 := kr HO1050 hb; replace HO1053 := kr HO1053 hb; have HO1056 := am (Kd.R_lower (Kd.R_new' (Kd.R_new' (Kd.R_new' (Kd.R_new' ho0 (Kd.R_lt (ro HO_3))) (Kd.R_lt (ro HO_4))) (Kd.R_lt (ro HO_7))) (Kd.R_lt (ro HO1048))) (below_size bl)); replace HO_3 := am (Kd.R_elder' (ro HO_3) (Kd.R_base ho0) hb); replace HO_4 := am (Kd.R_elder' (ro HO_4) (Kd.R_base ho0) hb); replace HO_7 := am (Kd.R_elder' (ro HO_7) (Kd.R_base ho0) hb); replace HO1048 := am (Kd.R_elder' (ro HO1048) (Kd.R_base ho0) hb); replace HB := am (below_step bl hb); (try clear hb); (try clear hb2); (try clear hk); (try clear hi); (try clear ho0)) | ((with_reducible refine gate_callee (f := 53) rfl ?_); refine goesL_ (some 60) rfl rfl Tryd.func53 (by kernel_rfl) rfl #[.slice Ao31 t1045.length co31, .slice Ao32 t1046.length co32] rfl ma ?_; (with_reducible refine (spec_ValuesOf.calls k1 _ _ t1045 _ _ t1046 t1057 _ ?side1 ?side2 ?side3 ?side4 A25.out).mono ?_); (case side1 => exact rc HO1048); (case side2 => exact (Kd.R_reads' HO1048.out).2.1); (case side3 => exact rc HO1050); (case side4 => exact (Kd.R_reads' HO1050.out).2.1); rintro e w34 ⟨v1058, rfl, ho0, hb⟩; refine ⟨_, rfl, ?_⟩; replace HO_5 := kr HO_5 hb; replace HO1050 := kr HO1050 hb; replace HO1053 := kr HO1053 hb; have HO1059 := am (Kd.R_lower (Kd.R_new' (Kd.R_new' (Kd.R_new' (Kd.R_new' (Kd.R_new' ho0 (Kd.R_lt (ro HO_3))) (Kd.R_lt (ro HO_4))) (Kd.R_lt (ro HO_7))) (Kd.R_lt (ro HO1048))) (Kd.R_lt (ro HO1056))) (below_size bl)); replace HO_3 := am (Kd.R_elder' (ro HO_3) (Kd.R_base ho0) hb); replace HO_4 := am (Kd.R_elder' (ro HO_4) (Kd.R_base ho0) hb); replace HO_7 := am (Kd.R_elder' (ro HO_7) (Kd.R_base ho0) hb); replace HO1048 := am (Kd.R_elder' (ro HO1048) (Kd.R_base ho0) hb); replace HO1056 := am (Kd.R_elder' (ro HO1056) (Kd.R_base ho0) hb); replace HB := am (below_step bl hb); (try clear hb); (try clear hb2); (try clear hk); (try clear hi); (try clear ho0); obtain ⟨Ao35, co35, eo35⟩ := Kd.R_slice HO1056.out; subst eo35; obtain ⟨Ao36, co36, eo36⟩ := Kd.R_slice HO1059.out; subst eo36) | ((with_reducible refine gate_callee (f := 52) rfl ?_); refine goesL_ (some 61) rfl rfl Tryd.func52 (by kernel_rfl) rfl #[.slice Ao35 t1054.length co35, .slice Ao36 t1057.length co36] rfl ma ?_; (with_reducible refine (laws_sameTexts.calls k1 _ _ t1054 _ _ t1057 true _ ?side1 ?side2 ?side3 ?side4 A26.out).mono ?_); (case side1 => exact rc HO1056); (case side2 => exact (Kd.R_reads' HO1056.out).2.1); (case side3 => exact rc HO1059); (case side4 => exact (Kd.R_reads' HO1059.out).2.1); rintro e w' ⟨rfl, ⟨nd, rfl⟩⟩; refine ⟨_, rfl, ?_⟩; obtain ⟨Ao37, co37, eo37⟩ := Kd.R_slice HO1053.out; subst eo37) | (go_at_call 20; (with_reducible refine (impl_VaryOf.calls k1 _ _ t1051 t1061 _ ?side1 ?side2 ?side3 A28.out).mono ?_); (case side1 => exact GLOBM.below HGM.out bl); (case side2 => exact rc HO1053); (case side3 => exact (Kd.R_reads' HO1053.out).2.1); rintro e w38 ⟨v1062, rfl, ho0, hb⟩; replace HO_5 := kr HO_5 hb; replace HO1050 := kr HO1050 hb; replace HO1053 := kr HO1053 hb; have HO1063 := am (Kd.R_lower (Kd.R_new' (Kd.R_new' (Kd.R_new' (Kd.R_new' (Kd.R_new' (Kd.R_new' ho0 (Kd.R_lt (ro HO_3))) (Kd.R_lt (ro HO_4))) (Kd.R_lt (ro HO_7))) (Kd.R_lt (ro HO1048))) (Kd.R_lt (ro HO1056))) (Kd.R_lt (ro HO1059))) (below_size bl)); replace HO_3 := am (Kd.R_elder' (ro HO_3) (Kd.R_base ho0) hb); replace HO_4 := am (Kd.R_elder' (ro HO_4) (Kd.R_base ho0) hb); replace HO_7 := am (Kd.R_elder' (ro HO_7) (Kd.R_base ho0) hb); replace HO1048 := am (Kd.R_elder' (ro HO1048) (Kd.R_base ho0) hb); replace HO1056 := am (Kd.R_elder' (ro HO1056) (Kd.R_base ho0) hb); replace HO1059 := am (Kd.R_elder' (ro HO1059) (Kd.R_base ho0) hb); replace HB := am (below_step bl hb); (try clear hb); (try clear hb2); (try clear hk); (try clear hi); (try clear ho0)) | (go_at_call 18; (with_reducible refine (spec_VaryOf.calls k1 _ _ t1051 t1064 _ ?side1 ?side2 A29.out).mono ?_); (case side1 => exact rc HO1053); (case side2 => exact (Kd.R_reads' HO1053.out).2.1); rintro e w39 ⟨v1065, rfl, ho0, hb⟩; replace HO_5 := kr HO_5 hb; replace HO1050 := kr HO1050 hb; replace HO1053 := kr HO1053 hb; have HO1066 := am (Kd.R_lower (Kd.R_new' (Kd.R_new' (Kd.R_new' (Kd.R_new' (Kd.R_new' (Kd.R_new' (Kd.R_new' ho0 (Kd.R_lt (ro HO_3))) (Kd.R_lt (ro HO_4))) (Kd.R_lt (ro HO_7))) (Kd.R_lt (ro HO1048))) (Kd.R_lt (ro HO1056))) (Kd.R_lt (ro HO1059))) (Kd.R_lt (ro HO1063))) (below_size bl)); replace HO_3 := am (Kd.R_elder' (ro HO_3) (Kd.R_base ho0) hb); replace HO_4 := am (Kd.R_elder' (ro HO_4) (Kd.R_base ho0) hb); replace HO_7 := am (Kd.R_elder' (ro HO_7) (Kd.R_base ho0) hb); replace HO1048 := am (Kd.R_elder' (ro HO1048) (Kd.R_base ho0) hb); replace HO1056 := am (Kd.R_elder' (ro HO1056) (Kd.R_base ho0) hb); replace HO1059 := am (Kd.R_elder' (ro HO1059) (Kd.R_base ho0) hb); replace HO1063 := am (Kd.R_elder' (ro HO1063) (Kd.R_base ho0) hb); replace HB := am (below_step bl hb); (try clear hb); (try clear hb2); (try clear hk); (try clear hi); (try clear ho0); obtain ⟨Ao40, co40, eo40⟩ := Kd.R_slice HO1063.out; subst eo40; obtain ⟨Ao41, co41, eo41⟩ := Kd.R_slice HO1066.out; subst eo41) | (go_at_call 52; (with_reducible refine (laws_sameTexts.calls k1 _ _ t1061 _ _ t1064 t1067 _ ?side1 ?side2 ?side3 ?side4 A30.out).mono ?_); (case side1 => exact rc HO1063); (case side2 => exact (Kd.R_reads' HO1063.out).2.1); (case side3 => exact rc HO1066); (case side4 => exact (Kd.R_reads' HO1066.out).2.1); rintro e w' ⟨rfl, ⟨nd, rfl⟩⟩))
        go_meet
        case rel => exact ⟨_, (!t1067), rs, H', ⟨by have := HK1.out; first | omega | exact Nat.le_refl _⟩, ⟨by (with_reducible repeat (first | apply Kd.R_alloc | apply Kd.R_drewN | apply Kd.R_drew)); exact Kd.R_mono HO_3.out (fun _ hk => ⟨hk.1.1.1.1.1.1, hk.1.1.1.1.1.2⟩)⟩, ⟨by (with_reducible repeat (first | apply Kd.R_alloc | apply Kd.R_drewN | apply Kd.R_drew)); exact Kd.R_mono HO_4.out (fun _ hk => ⟨hk.1.1.1.1.1.1, hk.1.1.1.1.1.2⟩)⟩, ⟨by (with_reducible repeat (first | apply Kd.R_alloc | apply Kd.R_drewN | apply Kd.R_drew)); exact Kd.R_mono HO_5.out (fun _ hk => trivial)⟩, ⟨by (with_reducible repeat (first | apply Kd.R_alloc | apply Kd.R_drewN | apply Kd.R_drew)); exact Kd.R_mono HO_7.out (fun _ hk => ⟨hk.1.1.1.1.1.1, hk.1.1.1.1.1.2⟩)⟩, ⟨by repeat (first | (with_reducible first | exact HB.out | apply below_alloc | apply pw_below_drewN | apply below_drew1) | exact HB.out)⟩⟩
       ·replace c27 := Bool.eq_false_iff.mpr c27
        subst c27
        have H1 : (laws_FnVary.j1 k1 t1030 t1031 t1032 t1039 t1041 x8_1 true) = some r := by rw [if_neg (show ¬ (false = true) by decide)] at H; exact H
        clear H
        have H := H1
        clear H1
        cases k1 with
        | zero => exact absurd H (by simp [laws_FnVary.j1])
        | succ k_ => simp only [laws_FnVary.j1, if_true] at H; exact absurd (Option.some.inj H) (by rw [ht_]; decide)
      case rest =>
       clear HC21
       try clear c1
       try clear p1
       try clear q1
       try clear hx1
       try clear c2
       try clear p2
       try clear c3
       try clear c4
       try clear c5
       try clear p6
       try clear c7
       try clear c7b0
       try clear c7b1
       try clear c7b2
       try clear p10
       try clear q10
       try clear hx10
       try clear c16
       try clear c16b0
       try clear c17
       try clear c18
       try clear c18b0
       try clear c27
       try clear c28
       try clear hx1044_0
       try clear p1044
       try clear p2
       try clear q1044
       obtain ⟨kq, x70_20, rfl, HA, HJ20, HO_3, HO_4, HO_5, HO_7, HB⟩ := hcut
       cases kq with
       | zero => exact absurd HA.out (by simp [laws_FnVary.j1])
       | succ kj20 =>
        have H := HA.out
        clear HA
        simp only [laws_FnVary.j1] at H
        by_cases c42 : x70_20 = true
        ·subst c42
         have H1 : (some false) = some r := by rw [if_pos rfl] at H; exact H
         clear H
         have H := H1
         clear H1
         exact absurd (Option.some.inj H) (by rw [ht_]; decide)
        ·replace c42 := Bool.eq_false_iff.mpr c42
         subst c42
         have H1 : ((impl_Suits.f kj20 t1030 t1041 t1032).bind fun t1068 => (if (t1068 == (!x8_1)) = true then (if t1039 = true then ((laws_sameTexts.f kj20 t1041 t1031).bind fun t1069 => (if t1069 = true then (if x8_1 = true then (some false) else (some ((t1041.length : Int) == (t1030.length : Int)))) else (some false))) else (some ((t1041.length : Int) == (t1030.length : Int)))) else (some false))) = some r := by rw [if_neg (show ¬ (false = true) by decide)] at H; exact H
         clear H
         have H := H1
         clear H1
         replace H := ob H
         obtain ⟨t1068, A430, H⟩ := H
         replace H : (if (t1068 == (!x8_1)) = true then (if t1039 = true then ((laws_sameTexts.f kj20 t1041 t1031).bind fun t1069 => (if t1069 = true then (if x8_1 = true then (some false) else (some ((t1041.length : Int) == (t1030.length : Int)))) else (some false))) else (some ((t1041.length : Int) == (t1030.length : Int)))) else (some false)) = some r := H
         have A43 := am A430
         clear A430
         by_cases c44 : (t1068 == (!x8_1)) = true
         ·rw [if_pos c44] at H
          have c44b0 : (t1068 == (!x8_1)) = true := c44
          (try (have c44b1 : decide (t1068 = (!x8_1)) = true := by simpa using c44))
          (try (have c44b2 : (t1068 == (!x8_1)) = true := by simpa using c44))
          clear c44
          by_cases c45 : t1039 = true
          ·subst c45
           have H1 : ((laws_sameTexts.f kj20 t1041 t1031).bind fun t1069 => (if t1069 = true then (if x8_1 = true then (some false) else (some ((t1041.length : Int) == (t1030.length : Int)))) else (some false))) = some r := by rw [if_pos rfl] at H; exact H
           clear H
           have H := H1
           clear H1
           replace H := ob H
           obtain ⟨t1069, A460, H⟩ := H
           replace H : (if t1069 = true then (if x8_1 = true then (some false) else (some ((t1041.length : Int) == (t1030.length : Int)))) else (some false)) = some r := H
           have A46 := am A460
           clear A460
           by_cases c47 : t1069 = true
           ·subst c47
            have H1 : (if x8_1 = true then (some false) else (some ((t1041.length : Int) == (t1030.length : Int)))) = some r := by rw [if_pos rfl] at H; exact H
            clear H
            have H := H1
            clear H1
            by_cases c48 : x8_1 = true
            ·subst c48
             have H1 : (some false) = some r := by rw [if_pos rfl] at H; exact H
             clear H
             have H := H1
             clear H1
             exact absurd (Option.some.inj H) (by rw [ht_]; decide)
            ·replace c48 := Bool.eq_false_iff.mpr c48
             subst c48
             have e44_ : t1068 = true := by simpa using c44b0
             have H1 : (some ((t1041.length : Int) == (t1030.length : Int))) = some r := by rw [if_neg (show ¬ (false = true) by decide)] at H; exact H
             clear H
             have H := H1
             clear H1
             obtain rfl := Option.some.inj H
             obtain ⟨Ao49, co49, eo49⟩ := Kd.R_slice HO_7.out
             subst eo49
             go_wp2_with (first | ((with_reducible refine gate_callee (f := 47) rfl ?_); refine goesL_ (some 74) rfl rfl Tryd.func47 (by kernel_rfl) rfl #[.slice Ao10 t1030.length co10, .slice Ao49 t1041.length co49, .slice Ao12 t1032.length co12] rfl ma ?_; (with_reducible refine (impl_Suits.calls kj20 _ _ t1030 _ _ t1041 _ _ t1032 t1068 _ ?side1 ?side2 ?side3 ?side4 ?side5 ?side6 A43.out).mono ?_); (case side1 => exact rc HO_3); (case side2 => exact (Kd.R_reads' HO_3.out).2.1); (case side3 => exact rc HO_7); (case side4 => exact (Kd.R_reads' HO_7.out).2.1); (case side5 => exact rc HO_5); (case side6 => exact (Kd.R_reads' HO_5.out).2.1); rintro e w50 ⟨rfl, hb⟩; refine ⟨_, rfl, ?_⟩; replace HO_3 := kr HO_3 hb; replace HO_4 := kr HO_4 hb; replace HO_5 := kr HO_5 hb; replace HO_7 := kr HO_7 hb; replace HB := am (below_step bl hb); (try clear hb); (try clear hb2); (try clear hk); (try clear hi)) | (go_at_call 52; (with_reducible refine (laws_sameTexts.calls kj20 _ _ t1041 _ _ t1031 true _ ?side1 ?side2 ?side3 ?side4 A46.out).mono ?_); (case side1 => exact rc HO_7); (case side2 => exact (Kd.R_reads' HO_7.out).2.1); (case side3 => exact rc HO_4); (case side4 => exact (Kd.R_reads' HO_4.out).2.1); rintro e w' ⟨rfl, ⟨nd, rfl⟩⟩))
             go_ret
             exact ⟨rf, bl⟩
           ·replace c47 := Bool.eq_false_iff.mpr c47
            subst c47
            have H1 : (some false) = some r := by rw [if_neg (show ¬ (false = true) by decide)] at H; exact H
            clear H
            have H := H1
            clear H1
            exact absurd (Option.some.inj H) (by rw [ht_]; decide)
          ·replace c45 := Bool.eq_false_iff.mpr c45
           subst c45
           have H1 : (some ((t1041.length : Int) == (t1030.length : Int))) = some r := by rw [if_neg (show ¬ (false = true) by decide)] at H; exact H
           clear H
           have H := H1
           clear H1
           obtain rfl := Option.some.inj H
           obtain ⟨Ao51, co51, eo51⟩ := Kd.R_slice HO_7.out
           subst eo51
           go_wp2_with (first | ((with_reducible refine gate_callee (f := 47) rfl ?_); refine goesL_ (some 74) rfl rfl Tryd.func47 (by kernel_rfl) rfl #[.slice Ao10 t1030.length co10, .slice Ao51 t1041.length co51, .slice Ao12 t1032.length co12] rfl ma ?_; (with_reducible refine (impl_Suits.calls kj20 _ _ t1030 _ _ t1041 _ _ t1032 t1068 _ ?side1 ?side2 ?side3 ?side4 ?side5 ?side6 A43.out).mono ?_); (case side1 => exact rc HO_3); (case side2 => exact (Kd.R_reads' HO_3.out).2.1); (case side3 => exact rc HO_7); (case side4 => exact (Kd.R_reads' HO_7.out).2.1); (case side5 => exact rc HO_5); (case side6 => exact (Kd.R_reads' HO_5.out).2.1); rintro e w52 ⟨rfl, hb⟩; refine ⟨_, rfl, ?_⟩; replace HO_3 := kr HO_3 hb; replace HO_4 := kr HO_4 hb; replace HO_5 := kr HO_5 hb; replace HO_7 := kr HO_7 hb; replace HB := am (below_step bl hb); (try clear hb); (try clear hb2); (try clear hk); (try clear hi)))
           go_ret
           exact ⟨rf, bl⟩
         ·rw [if_neg c44] at H
          have c44b0 : (t1068 == (!x8_1)) = false := by simpa using c44
          (try (have c44b1 : decide (t1068 = (!x8_1)) = false := by simpa using c44))
          (try (have c44b2 : (t1068 == (!x8_1)) = false := by simpa using c44))
          (try (have c44b3 : ¬ (t1068 = (!x8_1)) := by simpa using c44))
          clear c44
          exact absurd (Option.some.inj H) (by rw [ht_]; decide)

end Go.Proofs.YtiinmfjbildclaaDoor.All
