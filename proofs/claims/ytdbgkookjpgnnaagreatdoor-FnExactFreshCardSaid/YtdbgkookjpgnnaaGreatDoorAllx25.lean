-- Written by a program of this session (wip/tools/hprint.py) out of the translation. Lean checks it.
import Derived.Test.YtdbgkookjpgnnaaGreatDoorAllx0
import Derived.Test.YtdbgkookjpgnnaaGreatDoorAllx22
import Derived.Test.YtdbgkookjpgnnaaGreatDoorAllx24
namespace Go.Proofs.YtdbgkookjpgnnaaGreatDoor.All
open Go.RowKit Go.Proofs.YtdbgkookjpgnnaaGreatDoorW.PrintWords Go.Proofs.YtdbgkookjpgnnaaGreatDoorW.PrintLast Go.Proofs.YtdbgkookjpgnnaaGreatDoorW.PrintMore
attribute [local go_sem] max2_int min2_int max_two min_two max_three min_three max_four min_four   -- for this text's walks alone
set_option linter.unusedVariables false
set_option linter.unusedSimpArgs false

/-! ### laws_FnExactFresh: function 4 -/
def laws_FnExactFresh.f (k : Nat) (l0 : List (S115)) (a1 : Int) (a2 : Int) : Option (Bool) := (laws_szFieldS.f k l0 1048576).bind fun t1013 => (if t1013 < 0 then (some true) else ((laws_toFieldS.f k l0).bind fun t1014 => ((spec_Fresh.f k t1014 a1 a2).bind fun t1017 => ((laws_toFieldS.f k l0).bind fun t1018 => ((impl_Fresh.f k t1018 a1 a2).bind fun t1021 => (if (t1021 != t1017) = true then (some false) else ((laws_toFieldS.f k l0).bind fun t1022 => ((laws_eqFieldS.f k t1018 t1022).bind fun t1025 => (if t1025 = true then (some true) else (some false))))))))))
theorem laws_FnExactFresh.mono : ∀ a0 a1 a2 k, LeO (laws_FnExactFresh.f k a0 a1 a2) (laws_FnExactFresh.f (k + 1) a0 a1 a2) := by
 intro a0 a1 a2 k
 unfold laws_FnExactFresh.f
 have m0 := @impl_Fresh.mono
 have m1 := @laws_eqFieldS.mono
 have m2 := @laws_szFieldS.mono
 have m3 := @laws_toFieldS.mono
 have m4 := @spec_Fresh.mono
 exact mo
set_option maxHeartbeats 8000000 in
set_option maxRecDepth 100000 in
theorem laws_FnExactFresh.calls (k : Nat) (A0 : Option Addr) (c0 : Nat) (l0 : List (S115)) (a1 : Int) (a2 : Int) (r : Bool) (w : World) (hGE : GLOBE w) (hGM : GLOBM w) (hGT : GLOBT w) (hr0 : Kd.C k115 w A0 l0.length l0) (hc0 : l0.length ≤ c0) (ht_ : r = true) (h : laws_FnExactFresh.f k l0 a1 a2 = some r) :
  Calls Tryz.prog 4 #[.slice A0 l0.length c0, .int .i64 a1, .int .i64 a2] w fun e w' => e = .returned (.bool r) ∧ Below w.heap.size w w' := by
 have HR0 := am hr0
 have HC0 := am hc0
 clear hr0 hc0
 have HGE := am hGE
 clear hGE
 have HGM := am hGM
 clear hGM
 have HGT := am hGT
 clear hGT
 have HB := am (Below.refl w.heap.size w)
 unfold laws_FnExactFresh.f at h
 have H := h
 clear h
 revert H
 refine ok1 fun t1013 A4 H => ?_
 by_cases c5 : t1013 < 0
 ·rw [if_pos c5] at H
  have c5b0 := decide_eq_true c5
  clear c5
  obtain rfl := Option.some.inj H
  go_enter Tryz.func4, Tryz.ntmps4
  go_wp2_with (first | (refine gl 13 Tryz.func21 #[.slice A0 l0.length c0, .int .i64 1048576] ?_; (with_reducible refine (laws_szFieldS.calls k _ _ l0 1048576 t1013 _ ?side1 ?side2 A4.out).mono ?_); (case side1 => exact cc HR0); (case side2 => exact HC0.out); rintro e w6 ⟨rfl, hb⟩; refine ⟨_, rfl, ?_⟩; replace HB := am (below_step bl hb); clear hb))
  go_ret
  exact ⟨rf, bl⟩
 rw [if_neg c5] at H
 have c5b0 := decide_eq_false c5
 clear c5
 revert H
 refine ok1 fun t1014 A7 H => ?_
 revert H
 refine ok1 fun t1017 A8 H => ?_
 revert H
 refine ok1 fun t1018 A9 H => ?_
 revert H
 refine ok1 fun t1021 A10 H => ?_
 by_cases c11 : (t1021 != t1017) = true
 ·rw [if_pos c11] at H
  have c11b0 : (t1021 != t1017) = true := c11
  (try (have c11b1 : decide (t1021 = t1017) = false := by simpa using c11))
  (try (have c11b2 : (t1021 == t1017) = false := by simpa using c11))
  (try (have c11b3 : ¬ (t1021 = t1017) := by simpa using c11))
  clear c11
  exact absurd (Option.some.inj H) (by rw [ht_]; decide)
 rw [if_neg c11] at H
 have c11b0 : (t1021 != t1017) = false := by simpa using c11
 (try (have c11b1 : decide (t1021 = t1017) = true := by simpa using c11))
 (try (have c11b2 : (t1021 == t1017) = true := by simpa using c11))
 clear c11
 revert H
 refine ok1 fun t1022 A12 H => ?_
 revert H
 refine ok1 fun t1025 A13 H => ?_
 by_cases c14 : t1025 = true
 rotate_left
 ·replace c14 := Bool.eq_false_iff.mpr c14
  subst c14
  rw [if_neg (show ¬ (false = true) by decide)] at H
  exact absurd (Option.some.inj H) (by rw [ht_]; decide)
 subst c14
 rw [if_pos rfl] at H
 obtain rfl := Option.some.inj H
 go_enter Tryz.func4, Tryz.ntmps4
 go_wp2_with (first | (refine gl 13 Tryz.func21 #[.slice A0 l0.length c0, .int .i64 1048576] ?_; (with_reducible refine (laws_szFieldS.calls k _ _ l0 1048576 t1013 _ ?side1 ?side2 A4.out).mono ?_); (case side1 => exact cc HR0); (case side2 => exact HC0.out); rintro e w15 ⟨rfl, hb⟩; refine ⟨_, rfl, ?_⟩; replace HB := am (below_step bl hb); clear hb) | (refine gl 17 Tryz.func23 #[.slice A0 l0.length c0] ?_; (with_reducible refine (laws_toFieldS.calls k _ _ l0 t1014 _ ?side1 ?side2 A7.out).mono ?_); (case side1 => exact cb HR0); (case side2 => exact HC0.out); rintro e w16 ⟨v1015, rfl, ho0, hb⟩; refine ⟨_, rfl, ?_⟩; have HO1016 := am (Kd.R_lower ho0 (below_size bl)); replace HB := am (below_step bl hb); clear hb ho0; obtain ⟨Ao17, co17, eo17⟩ := Kd.R_slice HO1016.out; subst eo17) | (refine gl 20 Tryz.func22 #[.slice Ao17 t1014.length co17, .int .i64 a1, .int .i64 a2] ?_; (with_reducible refine (spec_Fresh.calls k _ _ t1014 a1 a2 t1017 _ ?side1 ?side2 A8.out).mono ?_); (case side1 => exact rc HO1016); (case side2 => exact (Kd.R_reads' HO1016.out).2.1); rintro e w18 ⟨rfl, hb⟩; refine ⟨_, rfl, ?_⟩; replace HO1016 := kr HO1016 hb; replace HB := am (below_step bl hb); clear hb) | (refine gl 22 Tryz.func23 #[.slice A0 l0.length c0] ?_; (with_reducible refine (laws_toFieldS.calls k _ _ l0 t1018 _ ?side1 ?side2 A9.out).mono ?_); (case side1 => exact cb HR0); (case side2 => exact HC0.out); rintro e w19 ⟨v1019, rfl, ho0, hb⟩; refine ⟨_, rfl, ?_⟩; have HO1020 := am (Kd.R_lower (Kd.R_new' ho0 (Kd.R_lt (ro HO1016))) (below_size bl)); replace HO1016 := am (Kd.R_elder' (ro HO1016) (Kd.R_base ho0) hb); replace HB := am (below_step bl hb); clear hb ho0; obtain ⟨Ao20, co20, eo20⟩ := Kd.R_slice HO1020.out; subst eo20) | (refine gl 26 Tryz.func24 #[.slice Ao20 t1018.length co20, .int .i64 a1, .int .i64 a2] ?_; (with_reducible refine (impl_Fresh.calls k _ _ t1018 a1 a2 t1021 _ ?side1 ?side2 ?side3 ?side4 ?side5 A10.out).mono ?_); (case side1 => exact GLOBE.below HGE.out bl); (case side2 => exact GLOBM.below HGM.out bl); (case side3 => exact GLOBT.below HGT.out bl); (case side4 => exact rc HO1020); (case side5 => exact (Kd.R_reads' HO1020.out).2.1); rintro e w21 ⟨rfl, hb⟩; refine ⟨_, rfl, ?_⟩; replace HO1016 := kr HO1016 hb; replace HO1020 := kr HO1020 hb; replace HB := am (below_step bl hb); clear hb) | (refine gl 32 Tryz.func23 #[.slice A0 l0.length c0] ?_; (with_reducible refine (laws_toFieldS.calls k _ _ l0 t1022 _ ?side1 ?side2 A12.out).mono ?_); (case side1 => exact cb HR0); (case side2 => exact HC0.out); rintro e w22 ⟨v1023, rfl, ho0, hb⟩; refine ⟨_, rfl, ?_⟩; have HO1024 := am (Kd.R_lower (Kd.R_new' (Kd.R_new' ho0 (Kd.R_lt (ro HO1016))) (Kd.R_lt (ro HO1020))) (below_size bl)); replace HO1016 := am (Kd.R_elder' (ro HO1016) (Kd.R_base ho0) hb); replace HO1020 := am (Kd.R_elder' (ro HO1020) (Kd.R_base ho0) hb); replace HB := am (below_step bl hb); clear hb ho0; obtain ⟨Ao23, co23, eo23⟩ := Kd.R_slice HO1024.out; subst eo23) | (refine gl 33 Tryz.func25 #[.slice Ao20 t1018.length co20, .slice Ao23 t1022.length co23] ?_; (with_reducible refine (laws_eqFieldS.calls k _ _ t1018 _ _ t1022 true _ ?side1 ?side2 ?side3 ?side4 A13.out).mono ?_); (case side1 => exact rc HO1020); (case side2 => exact (Kd.R_reads' HO1020.out).2.1); (case side3 => exact rc HO1024); (case side4 => exact (Kd.R_reads' HO1024.out).2.1); rintro e w24 ⟨rfl, hb⟩; refine ⟨_, rfl, ?_⟩; replace HO1016 := kr HO1016 hb; replace HO1020 := kr HO1020 hb; replace HO1024 := kr HO1024 hb; replace HB := am (below_step bl hb); clear hb))
 go_ret
 exact ⟨rf, bl⟩

end Go.Proofs.YtdbgkookjpgnnaaGreatDoor.All
