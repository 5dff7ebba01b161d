-- Written by a program of this session (wip/tools/hprint.py) out of the translation. Lean checks it.
import Derived.Test.YtiinmfjbildclaaDoorAllx0
import Derived.Test.YtiinmfjbildclaaDoorAllx1
import Derived.Test.YtiinmfjbildclaaDoorAllx5
import Derived.Test.YtiinmfjbildclaaDoorAllx8
import Derived.Test.YtiinmfjbildclaaDoorAllx13
namespace Go.Proofs.YtiinmfjbildclaaDoor.All
open Go.RowKit Go.Proofs.YtiinmfjbildclaaDoorW.PrintWords Go.Proofs.YtiinmfjbildclaaDoorW.PrintLast Go.Proofs.YtiinmfjbildclaaDoorW.PrintMore
attribute [local go_sem] max2_int min2_int max_two min_two max_three min_three max_four min_four   -- for this text's walks alone
set_option linter.unusedVariables false
set_option linter.unusedSimpArgs false

/-! ### spec_l1Min: function 160 -/
def spec_l1Min.f (a0 : Int) (a1 : Int) : Option (Int) := if a0 < a1 then (some a0) else (some a1)
set_option maxHeartbeats 8000000 in
set_option maxRecDepth 100000 in
theorem spec_l1Min.calls (a0 : Int) (a1 : Int) (r : Int) (w : World) (h : spec_l1Min.f a0 a1 = some r) :
  Calls Tryd.prog 160 #[.int .i64 a0, .int .i64 a1] w fun e w' => e = .returned (.int .i64 r) ∧ Drawn0 w w' := by
 have H : (if a0 < a1 then (some a0) else (some a1)) = some r := h
 clear h
 by_cases c3 : a0 < a1
 ·rw [if_pos c3] at H
  have c3b0 : decide (a0 < a1) = true := decide_eq_true c3
  clear c3
  obtain rfl := Option.some.inj H
  go_enter Tryd.func160, Tryd.ntmps160
  go_wp2
  go_ret
  exact ⟨rs, dr⟩
 ·rw [if_neg c3] at H
  have c3b0 : decide (a0 < a1) = false := decide_eq_false c3
  clear c3
  obtain rfl := Option.some.inj H
  go_enter Tryd.func160, Tryd.ntmps160
  go_wp2
  go_ret
  exact ⟨rs, dr⟩

/-! ### spec_l1Max: function 163 -/
def spec_l1Max.f (a0 : Int) (a1 : Int) : Option (Int) := if a0 > a1 then (some a0) else (some a1)
set_option maxHeartbeats 8000000 in
set_option maxRecDepth 100000 in
theorem spec_l1Max.calls (a0 : Int) (a1 : Int) (r : Int) (w : World) (h : spec_l1Max.f a0 a1 = some r) :
  Calls Tryd.prog 163 #[.int .i64 a0, .int .i64 a1] w fun e w' => e = .returned (.int .i64 r) ∧ Drawn0 w w' := by
 have H : (if a0 > a1 then (some a0) else (some a1)) = some r := h
 clear h
 by_cases c3 : a0 > a1
 ·rw [if_pos c3] at H
  have c3b0 : decide (a1 < a0) = true := decide_eq_true c3
  clear c3
  obtain rfl := Option.some.inj H
  go_enter Tryd.func163, Tryd.ntmps163
  go_wp2
  go_ret
  exact ⟨rs, dr⟩
 ·rw [if_neg c3] at H
  have c3b0 : decide (a1 < a0) = false := decide_eq_false c3
  clear c3
  obtain rfl := Option.some.inj H
  go_enter Tryd.func163, Tryd.ntmps163
  go_wp2
  go_ret
  exact ⟨rs, dr⟩

/-! ### spec_Plus: function 103 -/
def spec_Plus.f (a0 : Int) (a1 : Int) : Option (Int) := (spec_l1Max.f a0 0).bind fun t220 => ((spec_l1Min.f t220 1000000).bind fun t221 => ((spec_l1Max.f a1 0).bind fun t222 => ((spec_l1Min.f t222 1000000).bind fun t223 => ((spec_l1Min.f (wrap64 (t221 + t223)) 1000000).bind fun t224 => (some t224)))))
set_option maxHeartbeats 8000000 in
set_option maxRecDepth 100000 in
theorem spec_Plus.calls (a0 : Int) (a1 : Int) (r : Int) (w : World) (h : spec_Plus.f a0 a1 = some r) :
  Calls Tryd.prog 103 #[.int .i64 a0, .int .i64 a1] w fun e w' => e = .returned (.int .i64 r) ∧ Drawn0 w w' := by
 have H : ((spec_l1Max.f a0 0).bind fun t220 => ((spec_l1Min.f t220 1000000).bind fun t221 => ((spec_l1Max.f a1 0).bind fun t222 => ((spec_l1Min.f t222 1000000).bind fun t223 => ((spec_l1Min.f (wrap64 (t221 + t223)) 1000000).bind fun t224 => (some t224)))))) = some r := h
 clear h
 replace H := ob H
 obtain ⟨t220, A30, H⟩ := H
 replace H : ((spec_l1Min.f t220 1000000).bind fun t221 => ((spec_l1Max.f a1 0).bind fun t222 => ((spec_l1Min.f t222 1000000).bind fun t223 => ((spec_l1Min.f (wrap64 (t221 + t223)) 1000000).bind fun t224 => (some t224))))) = some r := H
 have A3 := am A30
 clear A30
 replace H := ob H
 obtain ⟨t221, A40, H⟩ := H
 replace H : ((spec_l1Max.f a1 0).bind fun t222 => ((spec_l1Min.f t222 1000000).bind fun t223 => ((spec_l1Min.f (wrap64 (t221 + t223)) 1000000).bind fun t224 => (some t224)))) = some r := H
 have A4 := am A40
 clear A40
 replace H := ob H
 obtain ⟨t222, A50, H⟩ := H
 replace H : ((spec_l1Min.f t222 1000000).bind fun t223 => ((spec_l1Min.f (wrap64 (t221 + t223)) 1000000).bind fun t224 => (some t224))) = some r := H
 have A5 := am A50
 clear A50
 replace H := ob H
 obtain ⟨t223, A60, H⟩ := H
 replace H : ((spec_l1Min.f (wrap64 (t221 + t223)) 1000000).bind fun t224 => (some t224)) = some r := H
 have A6 := am A60
 clear A60
 replace H := ob H
 obtain ⟨t224, A70, H⟩ := H
 replace H : (some t224) = some r := H
 have A7 := am A70
 clear A70
 obtain rfl := Option.some.inj H
 go_enter Tryd.func103, Tryd.ntmps103
 go_wp2_with (first | ((with_reducible refine gate_callee (f := 163) rfl ?_); refine goesL_ (some 6) rfl rfl Tryd.func163 (by kernel_rfl) rfl #[.int .i64 a0, .int .i64 0] rfl ma ?_; (with_reducible refine (spec_l1Max.calls a0 0 t220 _ A3.out).mono ?_); rintro e w' ⟨rfl, ⟨nd, rfl⟩⟩; refine ⟨_, rfl, ?_⟩) | ((with_reducible refine gate_callee (f := 160) rfl ?_); refine goesL_ (some 7) rfl rfl Tryd.func160 (by kernel_rfl) rfl #[.int .i64 t220, .int .i64 1000000] rfl ma ?_; (with_reducible refine (spec_l1Min.calls t220 1000000 t221 _ A4.out).mono ?_); rintro e w' ⟨rfl, ⟨nd, rfl⟩⟩; refine ⟨_, rfl, ?_⟩) | ((with_reducible refine gate_callee (f := 163) rfl ?_); refine goesL_ (some 9) rfl rfl Tryd.func163 (by kernel_rfl) rfl #[.int .i64 a1, .int .i64 0] rfl ma ?_; (with_reducible refine (spec_l1Max.calls a1 0 t222 _ A5.out).mono ?_); rintro e w' ⟨rfl, ⟨nd, rfl⟩⟩; refine ⟨_, rfl, ?_⟩) | ((with_reducible refine gate_callee (f := 160) rfl ?_); refine goesL_ (some 10) rfl rfl Tryd.func160 (by kernel_rfl) rfl #[.int .i64 t222, .int .i64 1000000] rfl ma ?_; (with_reducible refine (spec_l1Min.calls t222 1000000 t223 _ A6.out).mono ?_); rintro e w' ⟨rfl, ⟨nd, rfl⟩⟩; refine ⟨_, rfl, ?_⟩) | ((with_reducible refine gate_callee (f := 160) rfl ?_); refine goesL_ (some 12) rfl rfl Tryd.func160 (by kernel_rfl) rfl #[.int .i64 (wrap64 (t221 + t223)), .int .i64 1000000] rfl ma ?_; (with_reducible refine (spec_l1Min.calls (wrap64 (t221 + t223)) 1000000 t224 _ A7.out).mono ?_); rintro e w' ⟨rfl, ⟨nd, rfl⟩⟩; refine ⟨_, rfl, ?_⟩))
 go_ret
 exact ⟨rs, dr⟩

/-! ### spec_l7Since: function 104 -/
def spec_l7Since.f (a0 : Int) (a1 : Int) : Option (Int) := if a1 ≤ a0 then (some 0) else (if a0 < 0 then (if a1 > (wrap64 (a0 + 1000000)) then (some 1000000) else ((spec_l1Min.f (wrap64 (a1 - a0)) 1000000).bind fun t225 => (some t225))) else ((spec_l1Min.f (wrap64 (a1 - a0)) 1000000).bind fun t226 => (some t226)))
set_option maxHeartbeats 8000000 in
set_option maxRecDepth 100000 in
theorem spec_l7Since.calls (a0 : Int) (a1 : Int) (r : Int) (w : World) (h : spec_l7Since.f a0 a1 = some r) :
  Calls Tryd.prog 104 #[.int .i64 a0, .int .i64 a1] w fun e w' => e = .returned (.int .i64 r) ∧ Drawn0 w w' := by
 have H : (if a1 ≤ a0 then (some 0) else (if a0 < 0 then (if a1 > (wrap64 (a0 + 1000000)) then (some 1000000) else ((spec_l1Min.f (wrap64 (a1 - a0)) 1000000).bind fun t225 => (some t225))) else ((spec_l1Min.f (wrap64 (a1 - a0)) 1000000).bind fun t226 => (some t226)))) = some r := h
 clear h
 by_cases c3 : a1 ≤ a0
 ·rw [if_pos c3] at H
  have c3b0 : decide (a1 ≤ a0) = true := decide_eq_true c3
  clear c3
  obtain rfl := Option.some.inj H
  go_enter Tryd.func104, Tryd.ntmps104
  go_wp2
  go_ret
  exact ⟨rs, dr⟩
 ·rw [if_neg c3] at H
  have c3b0 : decide (a1 ≤ a0) = false := decide_eq_false c3
  clear c3
  by_cases c4 : a0 < 0
  ·rw [if_pos c4] at H
   have c4b0 : decide (a0 < 0) = true := decide_eq_true c4
   clear c4
   by_cases c5 : a1 > (wrap64 (a0 + 1000000))
   ·rw [if_pos c5] at H
    have c5b0 : decide ((wrap64 (a0 + 1000000)) < a1) = true := decide_eq_true c5
    clear c5
    obtain rfl := Option.some.inj H
    go_enter Tryd.func104, Tryd.ntmps104
    go_wp2
    go_ret
    exact ⟨rs, dr⟩
   ·rw [if_neg c5] at H
    have c5b0 : decide ((wrap64 (a0 + 1000000)) < a1) = false := decide_eq_false c5
    clear c5
    replace H := ob H
    obtain ⟨t225, A60, H⟩ := H
    replace H : (some t225) = some r := H
    have A6 := am A60
    clear A60
    obtain rfl := Option.some.inj H
    go_enter Tryd.func104, Tryd.ntmps104
    go_wp2_with (first | ((with_reducible refine gate_callee (f := 160) rfl ?_); refine goesL_ (some 19) rfl rfl Tryd.func160 (by kernel_rfl) rfl #[.int .i64 (wrap64 (a1 - a0)), .int .i64 1000000] rfl ma ?_; (with_reducible refine (spec_l1Min.calls (wrap64 (a1 - a0)) 1000000 t225 _ A6.out).mono ?_); rintro e w' ⟨rfl, ⟨nd, rfl⟩⟩; refine ⟨_, rfl, ?_⟩))
    go_ret
    exact ⟨rs, dr⟩
  ·rw [if_neg c4] at H
   have c4b0 : decide (a0 < 0) = false := decide_eq_false c4
   clear c4
   replace H := ob H
   obtain ⟨t226, A70, H⟩ := H
   replace H : (some t226) = some r := H
   have A7 := am A70
   clear A70
   obtain rfl := Option.some.inj H
   go_enter Tryd.func104, Tryd.ntmps104
   go_wp2_with (first | ((with_reducible refine gate_callee (f := 160) rfl ?_); refine goesL_ (some 19) rfl rfl Tryd.func160 (by kernel_rfl) rfl #[.int .i64 (wrap64 (a1 - a0)), .int .i64 1000000] rfl ma ?_; (with_reducible refine (spec_l1Min.calls (wrap64 (a1 - a0)) 1000000 t226 _ A7.out).mono ?_); rintro e w' ⟨rfl, ⟨nd, rfl⟩⟩; refine ⟨_, rfl, ?_⟩))
   go_ret
   exact ⟨rs, dr⟩

/-! ### spec_AgeAt: function 26 -/
def spec_AgeAt.j0 : Nat → Int → Int → Int → Bool → Option (Int)
 | 0, _, _, _, _ => none
 | k + 1, x1, x2, x9, x25 => if x25 = true then ((spec_l7Since.f x1 x2).bind fun t231 => ((spec_Plus.f 1000000 t231).bind fun t232 => (some t232))) else ((spec_l7Since.f x1 x2).bind fun t233 => ((spec_Plus.f x9 t233).bind fun t234 => (some t234)))
def spec_AgeAt.f (k : Nat) (l0 : List (S114)) (a1 : Int) (a2 : Int) : Option (Int) := (spec_Get.f k l0 (⟨#[97, 103, 101]⟩ : ByteArray)).bind fun bt227 => ((spec_NumRead.f k bt227.1).bind fun bt229 => (if bt227.2 = true then (spec_AgeAt.j0 k a1 a2 bt229.1 (!bt229.2)) else (spec_AgeAt.j0 k a1 a2 bt229.1 false)))
theorem spec_AgeAt.mono_l : ∀ k, (∀ y0 y1 y2 y3, LeO (spec_AgeAt.j0 k y0 y1 y2 y3) (spec_AgeAt.j0 (k + 1) y0 y1 y2 y3))
 | 0 => fun _ _ _ _ r h => by simp [spec_AgeAt.j0] at h
 | k + 1 => by
  have ih0 := spec_AgeAt.mono_l k
  ·intro y0 y1 y2 y3
   unfold spec_AgeAt.j0
   repeat' first
   | (with_reducible exact ih0 _ _ _ _)
   | (with_reducible exact spec_Get.mono _ _ _)
   | (with_reducible exact spec_NumRead.mono _ _)
   | (with_reducible exact LeO.refl _)
   | (with_reducible exact LeO.none _)
   | (with_reducible refine LeO.ite ?_ ?_)
   | (with_reducible refine LeO.bind ?_ (fun _ => ?_))
   | exact ih0 _ _ _ _
   | exact spec_Get.mono _ _ _
   | exact spec_NumRead.mono _ _
   | exact LeO.none _
   | refine LeO.ite ?_ ?_
   | refine LeO.bind ?_ (fun _ => ?_)
theorem spec_AgeAt.mono : ∀ a0 a1 a2 k, LeO (spec_AgeAt.f k a0 a1 a2) (spec_AgeAt.f (k + 1) a0 a1 a2) := by
 intro a0 a1 a2 k
 have ih0 := spec_AgeAt.mono_l k
 unfold spec_AgeAt.f
 repeat' first
   | (with_reducible exact ih0 _ _ _ _)
   | (with_reducible exact spec_Get.mono _ _ _)
   | (with_reducible exact spec_NumRead.mono _ _)
   | (with_reducible exact LeO.refl _)
   | (with_reducible exact LeO.none _)
   | (with_reducible refine LeO.ite ?_ ?_)
   | (with_reducible refine LeO.bind ?_ (fun _ => ?_))
   | exact ih0 _ _ _ _
   | exact spec_Get.mono _ _ _
   | exact spec_NumRead.mono _ _
   | exact LeO.none _
   | refine LeO.ite ?_ ?_
   | refine LeO.bind ?_ (fun _ => ?_)
set_option maxHeartbeats 8000000 in
set_option maxRecDepth 100000 in
theorem spec_AgeAt.calls (k : Nat) (A0 : Option Addr) (c0 : Nat) (l0 : List (S114)) (a1 : Int) (a2 : Int) (r : Int) (w : World) (hr0 : Kd.C k114 w A0 l0.length l0) (hc0 : l0.length ≤ c0) (h : spec_AgeAt.f k l0 a1 a2 = some r) :
  Calls Tryd.prog 26 #[.slice A0 l0.length c0, .int .i64 a1, .int .i64 a2] w fun e w' => e = .returned (.int .i64 r) ∧ Below w.heap.size w w' := by
 have HR0 := am hr0
 have HC0 := am hc0
 clear hr0 hc0
 have HB := am (Below.refl w.heap.size w)
 have H : ((spec_Get.f k l0 (⟨#[97, 103, 101]⟩ : ByteArray)).bind fun bt227 => ((spec_NumRead.f k bt227.1).bind fun bt229 => (if bt227.2 = true then (spec_AgeAt.j0 k a1 a2 bt229.1 (!bt229.2)) else (spec_AgeAt.j0 k a1 a2 bt229.1 false)))) = some r := h
 clear h
 replace H := ob H
 obtain ⟨⟨t227, t228⟩, A40, H⟩ := H
 replace H : ((spec_NumRead.f k t227).bind fun bt229 => (if t228 = true then (spec_AgeAt.j0 k a1 a2 bt229.1 (!bt229.2)) else (spec_AgeAt.j0 k a1 a2 bt229.1 false))) = some r := H
 have A4 := am A40
 clear A40
 replace H := ob H
 obtain ⟨⟨t229, t230⟩, A50, H⟩ := H
 replace H : (if t228 = true then (spec_AgeAt.j0 k a1 a2 t229 (!t230)) else (spec_AgeAt.j0 k a1 a2 t229 false)) = some r := H
 have A5 := am A50
 clear A50
 have HC6 := am H
 clear H
 go_enter Tryd.func26, Tryd.ntmps26
 go_upto_region 3 with (first | ((with_reducible refine gate_callee (f := 97) rfl ?_); refine goesL_ (some 13) rfl rfl Tryd.func97 (by kernel_rfl) rfl #[.slice A0 l0.length c0, .string (⟨#[97, 103, 101]⟩ : ByteArray)] rfl ma ?_; (with_reducible refine (spec_Get.calls k _ _ l0 (⟨#[97, 103, 101]⟩ : ByteArray) t227 t228 _ ?side1 ?side2 A4.out).mono ?_); (case side1 => exact cc HR0); (case side2 => exact HC0.out); rintro e w' ⟨rfl, ⟨nd, rfl⟩⟩; refine ⟨_, rfl, ?_⟩) | ((with_reducible refine gate_callee (f := 82) rfl ?_); refine goesL_ (some 18) rfl rfl Tryd.func82 (by kernel_rfl) rfl #[.string t227] rfl ma ?_; (with_reducible refine (spec_NumRead.calls k t227 t229 t230 _ A5.out).mono ?_); rintro e w7 ⟨rfl, hb⟩; refine ⟨_, rfl, ?_⟩; replace HB := am (below_step bl hb); (try clear hb); (try clear hb2); (try clear hk); (try clear hi)))
 (try simp only [Act.put, List.setIfInBounds_toArray, List.set_cons_zero, List.set_cons_succ])
 go_cut [25] (fun v25 wc => ∃ (kq : Nat) (x25_5 : Bool), v25 = .bool x25_5 ∧ Aside0 (spec_AgeAt.j0 kq a1 a2 t229 x25_5 = some r) ∧ Aside0 (kq ≤ k) ∧ Aside0 (Below w.heap.size w wc))
 case first =>
  have H := HC6.out
  clear HC6
  by_cases c8 : t228 = true
  ·subst c8
   have H1 : (spec_AgeAt.j0 k a1 a2 t229 (!t230)) = some r := by rw [if_pos rfl] at H; exact H
   clear H
   have H := H1
   clear H1
   have H' := am H
   clear H
   go_wp2
   go_meet
   case rel => exact ⟨_, (!t230), rs, H', ⟨by first | omega | exact Nat.le_refl _⟩, ⟨by repeat (first | (with_reducible first | exact HB.out | apply below_alloc | apply pw_below_drewN | apply below_drew1) | exact HB.out)⟩⟩
  ·replace c8 := Bool.eq_false_iff.mpr c8
   subst c8
   have H1 : (spec_AgeAt.j0 k a1 a2 t229 false) = some r := by rw [if_neg (show ¬ (false = true) by decide)] at H; exact H
   clear H
   have H := H1
   clear H1
   have H' := am H
   clear H
   go_wp2
   go_meet
   case rel => exact ⟨_, (false), rs, H', ⟨by first | omega | exact Nat.le_refl _⟩, ⟨by repeat (first | (with_reducible first | exact HB.out | apply below_alloc | apply pw_below_drewN | apply below_drew1) | exact HB.out)⟩⟩
 case rest =>
  clear HC6
  try clear c2
  try clear p2
  try clear c8
  obtain ⟨kq, x25_5, rfl, HA, HJ5, HB⟩ := hcut
  cases kq with
  | zero => exact absurd HA.out (by simp [spec_AgeAt.j0])
  | succ kj5 =>
   have H := HA.out
   clear HA
   simp only [spec_AgeAt.j0] at H
   by_cases c9 : x25_5 = true
   ·subst c9
    have H1 : ((spec_l7Since.f a1 a2).bind fun t231 => ((spec_Plus.f 1000000 t231).bind fun t232 => (some t232))) = some r := by rw [if_pos rfl] at H; exact H
    clear H
    have H := H1
    clear H1
    replace H := ob H
    obtain ⟨t231, A100, H⟩ := H
    replace H : ((spec_Plus.f 1000000 t231).bind fun t232 => (some t232)) = some r := H
    have A10 := am A100
    clear A100
    replace H := ob H
    obtain ⟨t232, A110, H⟩ := H
    replace H : (some t232) = some r := H
    have A11 := am A110
    clear A110
    obtain rfl := Option.some.inj H
    go_wp2_with (first | ((with_reducible refine gate_callee (f := 104) rfl ?_); refine goesL_ (some 29) rfl rfl Tryd.func104 (by kernel_rfl) rfl #[.int .i64 a1, .int .i64 a2] rfl ma ?_; (with_reducible refine (spec_l7Since.calls a1 a2 t231 _ A10.out).mono ?_); rintro e w' ⟨rfl, ⟨nd, rfl⟩⟩; refine ⟨_, rfl, ?_⟩) | ((with_reducible refine gate_callee (f := 103) rfl ?_); refine goesL_ (some 30) rfl rfl Tryd.func103 (by kernel_rfl) rfl #[.int .i64 1000000, .int .i64 t231] rfl ma ?_; (with_reducible refine (spec_Plus.calls 1000000 t231 t232 _ A11.out).mono ?_); rintro e w' ⟨rfl, ⟨nd, rfl⟩⟩; refine ⟨_, rfl, ?_⟩))
    go_ret
    exact ⟨rf, bl⟩
   ·replace c9 := Bool.eq_false_iff.mpr c9
    subst c9
    have H1 : ((spec_l7Since.f a1 a2).bind fun t233 => ((spec_Plus.f t229 t233).bind fun t234 => (some t234))) = some r := by rw [if_neg (show ¬ (false = true) by decide)] at H; exact H
    clear H
    have H := H1
    clear H1
    replace H := ob H
    obtain ⟨t233, A120, H⟩ := H
    replace H : ((spec_Plus.f t229 t233).bind fun t234 => (some t234)) = some r := H
    have A12 := am A120
    clear A120
    replace H := ob H
    obtain ⟨t234, A130, H⟩ := H
    replace H : (some t234) = some r := H
    have A13 := am A130
    clear A130
    obtain rfl := Option.some.inj H
    go_wp2_with (first | ((with_reducible refine gate_callee (f := 104) rfl ?_); refine goesL_ (some 29) rfl rfl Tryd.func104 (by kernel_rfl) rfl #[.int .i64 a1, .int .i64 a2] rfl ma ?_; (with_reducible refine (spec_l7Since.calls a1 a2 t233 _ A12.out).mono ?_); rintro e w' ⟨rfl, ⟨nd, rfl⟩⟩; refine ⟨_, rfl, ?_⟩) | ((with_reducible refine gate_callee (f := 103) rfl ?_); refine goesL_ (some 30) rfl rfl Tryd.func103 (by kernel_rfl) rfl #[.int .i64 t229, .int .i64 t233] rfl ma ?_; (with_reducible refine (spec_Plus.calls t229 t233 t234 _ A13.out).mono ?_); rintro e w' ⟨rfl, ⟨nd, rfl⟩⟩; refine ⟨_, rfl, ?_⟩))
    go_ret
    exact ⟨rf, bl⟩

/-! ### impl_within: function 164 -/
def impl_within.f (a0 : Int) : Option (Int) := some (mx 0 (mn a0 1000000))
set_option maxHeartbeats 8000000 in
set_option maxRecDepth 100000 in
theorem impl_within.calls (a0 : Int) (r : Int) (w : World) (h : impl_within.f a0 = some r) :
  Calls Tryd.prog 164 #[.int .i64 a0] w fun e w' => e = .returned (.int .i64 r) ∧ Below w.heap.size w w' := by
 have HB := am (Below.refl w.heap.size w)
 have H : (some (mx 0 (mn a0 1000000))) = some r := h
 clear h
 obtain ⟨ji2, hji2⟩ : ∃ j_ : Int, (mn a0 1000000) = j_ := ⟨_, rfl⟩
 replace H : (some (mx 0 (ji2))) = some r := by first | (rw [hji2] at H; exact H) | (simp only [hji2] at H ⊢; exact H)
 (try (have hji2h : ji2 ≤ 1000000 := by (rw [← hji2]; unfold mn; (repeat' split) <;> omega)))
 (try (have hji2g : ji2 ≤ 64 := by omega))
 have hji2_ : (if 1000000 < a0 then 1000000 else a0) = ji2 := hji2
 obtain ⟨ji3, hji3⟩ : ∃ j_ : Int, (mx 0 (ji2)) = j_ := ⟨_, rfl⟩
 replace H : (some ji3) = some r := by first | (rw [hji3] at H; exact H) | (simp only [hji3] at H ⊢; exact H)
 have hji3_ : (if 0 < (ji2) then (ji2) else 0) = ji3 := hji3
 obtain rfl := Option.some.inj H
 go_enter Tryd.func164, Tryd.ntmps164
 go_wp2
 go_ret
 exact ⟨by first | rfl | (simp [errW_none, errW_some] <;> rfl) | (simp only [← hji2, ← hji3]; first | rfl | (simp [errW_none, errW_some] <;> rfl)) | (simp [*, errW_none, errW_some] <;> rfl), bl⟩

/-! ### impl_Plus: function 105 -/
def impl_Plus.f (a0 : Int) (a1 : Int) : Option (Int) := (impl_within.f a0).bind fun t235 => ((impl_within.f a1).bind fun t236 => ((impl_within.f (wrap64 (t235 + t236))).bind fun t237 => (some t237)))
set_option maxHeartbeats 8000000 in
set_option maxRecDepth 100000 in
theorem impl_Plus.calls (a0 : Int) (a1 : Int) (r : Int) (w : World) (h : impl_Plus.f a0 a1 = some r) :
  Calls Tryd.prog 105 #[.int .i64 a0, .int .i64 a1] w fun e w' => e = .returned (.int .i64 r) ∧ Below w.heap.size w w' := by
 have HB := am (Below.refl w.heap.size w)
 have H : ((impl_within.f a0).bind fun t235 => ((impl_within.f a1).bind fun t236 => ((impl_within.f (wrap64 (t235 + t236))).bind fun t237 => (some t237)))) = some r := h
 clear h
 replace H := ob H
 obtain ⟨t235, A30, H⟩ := H
 replace H : ((impl_within.f a1).bind fun t236 => ((impl_within.f (wrap64 (t235 + t236))).bind fun t237 => (some t237))) = some r := H
 have A3 := am A30
 clear A30
 replace H := ob H
 obtain ⟨t236, A40, H⟩ := H
 replace H : ((impl_within.f (wrap64 (t235 + t236))).bind fun t237 => (some t237)) = some r := H
 have A4 := am A40
 clear A40
 replace H := ob H
 obtain ⟨t237, A50, H⟩ := H
 replace H : (some t237) = some r := H
 have A5 := am A50
 clear A50
 obtain rfl := Option.some.inj H
 go_enter Tryd.func105, Tryd.ntmps105
 go_wp2_with (first | ((with_reducible refine gate_callee (f := 164) rfl ?_); refine goesL_ (some 6) rfl rfl Tryd.func164 (by kernel_rfl) rfl #[.int .i64 a0] rfl ma ?_; (with_reducible refine (impl_within.calls a0 t235 _ A3.out).mono ?_); rintro e w6 ⟨rfl, hb⟩; refine ⟨_, rfl, ?_⟩; replace HB := am (below_step bl hb); (try clear hb); (try clear hb2); (try clear hk); (try clear hi)) | ((with_reducible refine gate_callee (f := 164) rfl ?_); refine goesL_ (some 8) rfl rfl Tryd.func164 (by kernel_rfl) rfl #[.int .i64 a1] rfl ma ?_; (with_reducible refine (impl_within.calls a1 t236 _ A4.out).mono ?_); rintro e w7 ⟨rfl, hb⟩; refine ⟨_, rfl, ?_⟩; replace HB := am (below_step bl hb); (try clear hb); (try clear hb2); (try clear hk); (try clear hi)) | ((with_reducible refine gate_callee (f := 164) rfl ?_); refine goesL_ (some 10) rfl rfl Tryd.func164 (by kernel_rfl) rfl #[.int .i64 (wrap64 (t235 + t236))] rfl ma ?_; (with_reducible refine (impl_within.calls (wrap64 (t235 + t236)) t237 _ A5.out).mono ?_); rintro e w8 ⟨rfl, hb⟩; refine ⟨_, rfl, ?_⟩; replace HB := am (below_step bl hb); (try clear hb); (try clear hb2); (try clear hk); (try clear hi)))
 go_ret
 exact ⟨rf, bl⟩

/-! ### impl_since: function 106 -/
def impl_since.f (a0 : Int) (a1 : Int) : Option (Int) := if a1 ≤ a0 then (some 0) else (if (wrap64 (a1 - a0)) < 0 then (some 1000000) else ((impl_within.f (wrap64 (a1 - a0))).bind fun t238 => (some t238)))
set_option maxHeartbeats 8000000 in
set_option maxRecDepth 100000 in
theorem impl_since.calls (a0 : Int) (a1 : Int) (r : Int) (w : World) (h : impl_since.f a0 a1 = some r) :
  Calls Tryd.prog 106 #[.int .i64 a0, .int .i64 a1] w fun e w' => e = .returned (.int .i64 r) ∧ Below w.heap.size w w' := by
 have HB := am (Below.refl w.heap.size w)
 have H : (if a1 ≤ a0 then (some 0) else (if (wrap64 (a1 - a0)) < 0 then (some 1000000) else ((impl_within.f (wrap64 (a1 - a0))).bind fun t238 => (some t238)))) = some r := h
 clear h
 by_cases c3 : a1 ≤ a0
 ·rw [if_pos c3] at H
  have c3b0 : decide (a1 ≤ a0) = true := decide_eq_true c3
  clear c3
  obtain rfl := Option.some.inj H
  go_enter Tryd.func106, Tryd.ntmps106
  go_wp2
  go_ret
  exact ⟨rf, bl⟩
 ·rw [if_neg c3] at H
  have c3b0 : decide (a1 ≤ a0) = false := decide_eq_false c3
  clear c3
  by_cases c4 : (wrap64 (a1 - a0)) < 0
  ·rw [if_pos c4] at H
   have c4b0 : decide ((wrap64 (a1 - a0)) < 0) = true := decide_eq_true c4
   clear c4
   obtain rfl := Option.some.inj H
   go_enter Tryd.func106, Tryd.ntmps106
   go_wp2
   go_ret
   exact ⟨rf, bl⟩
  ·rw [if_neg c4] at H
   have c4b0 : decide ((wrap64 (a1 - a0)) < 0) = false := decide_eq_false c4
   clear c4
   replace H := ob H
   obtain ⟨t238, A50, H⟩ := H
   replace H : (some t238) = some r := H
   have A5 := am A50
   clear A50
   obtain rfl := Option.some.inj H
   go_enter Tryd.func106, Tryd.ntmps106
   go_wp2_with (first | ((with_reducible refine gate_callee (f := 164) rfl ?_); refine goesL_ (some 15) rfl rfl Tryd.func164 (by kernel_rfl) rfl #[.int .i64 (wrap64 (a1 - a0))] rfl ma ?_; (with_reducible refine (impl_within.calls (wrap64 (a1 - a0)) t238 _ A5.out).mono ?_); rintro e w6 ⟨rfl, hb⟩; refine ⟨_, rfl, ?_⟩; replace HB := am (below_step bl hb); (try clear hb); (try clear hb2); (try clear hk); (try clear hi)))
   go_ret
   exact ⟨rf, bl⟩

/-! ### impl_AgeAt: function 27 -/
def impl_AgeAt.f (l0 : List (S114)) (a1 : Int) (a2 : Int) : Option (Int) := (impl_Get.f l0 (⟨#[97, 103, 101]⟩ : ByteArray)).bind fun bt239 => (if bt239.2 = true then ((impl_NumRead.f bt239.1).bind fun bt241 => (if bt241.2 = true then ((impl_since.f a1 a2).bind fun t243 => ((impl_Plus.f bt241.1 t243).bind fun t244 => (some t244))) else ((impl_since.f a1 a2).bind fun t245 => ((impl_Plus.f 1000000 t245).bind fun t246 => (some t246))))) else ((impl_since.f a1 a2).bind fun t247 => ((impl_Plus.f 0 t247).bind fun t248 => (some t248))))
set_option maxHeartbeats 8000000 in
set_option maxRecDepth 100000 in
theorem impl_AgeAt.calls (A0 : Option Addr) (c0 : Nat) (l0 : List (S114)) (a1 : Int) (a2 : Int) (r : Int) (w : World) (hGE : GLOBE w) (hGT : GLOBT w) (hr0 : Kd.C k114 w A0 l0.length l0) (hc0 : l0.length ≤ c0) (h : impl_AgeAt.f l0 a1 a2 = some r) :
  Calls Tryd.prog 27 #[.slice A0 l0.length c0, .int .i64 a1, .int .i64 a2] w fun e w' => e = .returned (.int .i64 r) ∧ Below w.heap.size w w' := by
 have HR0 := am hr0
 have HC0 := am hc0
 clear hr0 hc0
 have HGE := am hGE
 clear hGE
 have HGT := am hGT
 clear hGT
 have HB := am (Below.refl w.heap.size w)
 have H : ((impl_Get.f l0 (⟨#[97, 103, 101]⟩ : ByteArray)).bind fun bt239 => (if bt239.2 = true then ((impl_NumRead.f bt239.1).bind fun bt241 => (if bt241.2 = true then ((impl_since.f a1 a2).bind fun t243 => ((impl_Plus.f bt241.1 t243).bind fun t244 => (some t244))) else ((impl_since.f a1 a2).bind fun t245 => ((impl_Plus.f 1000000 t245).bind fun t246 => (some t246))))) else ((impl_since.f a1 a2).bind fun t247 => ((impl_Plus.f 0 t247).bind fun t248 => (some t248))))) = some r := h
 clear h
 replace H := ob H
 obtain ⟨⟨t239, t240⟩, A40, H⟩ := H
 replace H : (if t240 = true then ((impl_NumRead.f t239).bind fun bt241 => (if bt241.2 = true then ((impl_since.f a1 a2).bind fun t243 => ((impl_Plus.f bt241.1 t243).bind fun t244 => (some t244))) else ((impl_since.f a1 a2).bind fun t245 => ((impl_Plus.f 1000000 t245).bind fun t246 => (some t246))))) else ((impl_since.f a1 a2).bind fun t247 => ((impl_Plus.f 0 t247).bind fun t248 => (some t248)))) = some r := H
 have A4 := am A40
 clear A40
 by_cases c5 : t240 = true
 ·subst c5
  have H1 : ((impl_NumRead.f t239).bind fun bt241 => (if bt241.2 = true then ((impl_since.f a1 a2).bind fun t243 => ((impl_Plus.f bt241.1 t243).bind fun t244 => (some t244))) else ((impl_since.f a1 a2).bind fun t245 => ((impl_Plus.f 1000000 t245).bind fun t246 => (some t246))))) = some r := by rw [if_pos rfl] at H; exact H
  clear H
  have H := H1
  clear H1
  replace H := ob H
  obtain ⟨⟨t241, t242⟩, A60, H⟩ := H
  replace H : (if t242 = true then ((impl_since.f a1 a2).bind fun t243 => ((impl_Plus.f t241 t243).bind fun t244 => (some t244))) else ((impl_since.f a1 a2).bind fun t245 => ((impl_Plus.f 1000000 t245).bind fun t246 => (some t246)))) = some r := H
  have A6 := am A60
  clear A60
  by_cases c7 : t242 = true
  ·subst c7
   have H1 : ((impl_since.f a1 a2).bind fun t243 => ((impl_Plus.f t241 t243).bind fun t244 => (some t244))) = some r := by rw [if_pos rfl] at H; exact H
   clear H
   have H := H1
   clear H1
   replace H := ob H
   obtain ⟨t243, A80, H⟩ := H
   replace H : ((impl_Plus.f t241 t243).bind fun t244 => (some t244)) = some r := H
   have A8 := am A80
   clear A80
   replace H := ob H
   obtain ⟨t244, A90, H⟩ := H
   replace H : (some t244) = some r := H
   have A9 := am A90
   clear A90
   obtain rfl := Option.some.inj H
   go_enter Tryd.func27, Tryd.ntmps27
   go_wp2_with (first | ((with_reducible refine gate_callee (f := 39) rfl ?_); refine goesL_ (some 14) rfl rfl Tryd.func39 (by kernel_rfl) rfl #[.slice A0 l0.length c0, .string (⟨#[97, 103, 101]⟩ : ByteArray)] rfl ma ?_; (with_reducible refine (impl_Get.calls _ _ l0 (⟨#[97, 103, 101]⟩ : ByteArray) t239 true _ ?side1 ?side2 A4.out).mono ?_); (case side1 => exact cc HR0); (case side2 => exact HC0.out); rintro e w10 ⟨rfl, hb⟩; refine ⟨_, rfl, ?_⟩; replace HB := am (below_step bl hb); (try clear hb); (try clear hb2); (try clear hk); (try clear hi)) | ((with_reducible refine gate_callee (f := 80) rfl ?_); refine goesL_ (some 20) rfl rfl Tryd.func80 (by kernel_rfl) rfl #[.string t239] rfl ma ?_; (with_reducible refine (impl_NumRead.calls t239 t241 true _ ?side1 ?side2 A6.out).mono ?_); (case side1 => exact GLOBE.below HGE.out bl); (case side2 => exact GLOBT.below HGT.out bl); rintro e w11 ⟨rfl, hb⟩; refine ⟨_, rfl, ?_⟩; replace HB := am (below_step bl hb); (try clear hb); (try clear hb2); (try clear hk); (try clear hi)) | ((with_reducible refine gate_callee (f := 106) rfl ?_); refine goesL_ (some 29) rfl rfl Tryd.func106 (by kernel_rfl) rfl #[.int .i64 a1, .int .i64 a2] rfl ma ?_; (with_reducible refine (impl_since.calls a1 a2 t243 _ A8.out).mono ?_); rintro e w12 ⟨rfl, hb⟩; refine ⟨_, rfl, ?_⟩; replace HB := am (below_step bl hb); (try clear hb); (try clear hb2); (try clear hk); (try clear hi)) | ((with_reducible refine gate_callee (f := 105) rfl ?_); refine goesL_ (some 30) rfl rfl Tryd.func105 (by kernel_rfl) rfl #[.int .i64 t241, .int .i64 t243] rfl ma ?_; (with_reducible refine (impl_Plus.calls t241 t243 t244 _ A9.out).mono ?_); rintro e w13 ⟨rfl, hb⟩; refine ⟨_, rfl, ?_⟩; replace HB := am (below_step bl hb); (try clear hb); (try clear hb2); (try clear hk); (try clear hi)))
   go_ret
   exact ⟨rf, bl⟩
  ·replace c7 := Bool.eq_false_iff.mpr c7
   subst c7
   have H1 : ((impl_since.f a1 a2).bind fun t245 => ((impl_Plus.f 1000000 t245).bind fun t246 => (some t246))) = some r := by rw [if_neg (show ¬ (false = true) by decide)] at H; exact H
   clear H
   have H := H1
   clear H1
   replace H := ob H
   obtain ⟨t245, A140, H⟩ := H
   replace H : ((impl_Plus.f 1000000 t245).bind fun t246 => (some t246)) = some r := H
   have A14 := am A140
   clear A140
   replace H := ob H
   obtain ⟨t246, A150, H⟩ := H
   replace H : (some t246) = some r := H
   have A15 := am A150
   clear A150
   obtain rfl := Option.some.inj H
   go_enter Tryd.func27, Tryd.ntmps27
   go_wp2_with (first | ((with_reducible refine gate_callee (f := 39) rfl ?_); refine goesL_ (some 14) rfl rfl Tryd.func39 (by kernel_rfl) rfl #[.slice A0 l0.length c0, .string (⟨#[97, 103, 101]⟩ : ByteArray)] rfl ma ?_; (with_reducible refine (impl_Get.calls _ _ l0 (⟨#[97, 103, 101]⟩ : ByteArray) t239 true _ ?side1 ?side2 A4.out).mono ?_); (case side1 => exact cc HR0); (case side2 => exact HC0.out); rintro e w16 ⟨rfl, hb⟩; refine ⟨_, rfl, ?_⟩; replace HB := am (below_step bl hb); (try clear hb); (try clear hb2); (try clear hk); (try clear hi)) | ((with_reducible refine gate_callee (f := 80) rfl ?_); refine goesL_ (some 20) rfl rfl Tryd.func80 (by kernel_rfl) rfl #[.string t239] rfl ma ?_; (with_reducible refine (impl_NumRead.calls t239 t241 false _ ?side1 ?side2 A6.out).mono ?_); (case side1 => exact GLOBE.below HGE.out bl); (case side2 => exact GLOBT.below HGT.out bl); rintro e w17 ⟨rfl, hb⟩; refine ⟨_, rfl, ?_⟩; replace HB := am (below_step bl hb); (try clear hb); (try clear hb2); (try clear hk); (try clear hi)) | ((with_reducible refine gate_callee (f := 106) rfl ?_); refine goesL_ (some 29) rfl rfl Tryd.func106 (by kernel_rfl) rfl #[.int .i64 a1, .int .i64 a2] rfl ma ?_; (with_reducible refine (impl_since.calls a1 a2 t245 _ A14.out).mono ?_); rintro e w18 ⟨rfl, hb⟩; refine ⟨_, rfl, ?_⟩; replace HB := am (below_step bl hb); (try clear hb); (try clear hb2); (try clear hk); (try clear hi)) | ((with_reducible refine gate_callee (f := 105) rfl ?_); refine goesL_ (some 30) rfl rfl Tryd.func105 (by kernel_rfl) rfl #[.int .i64 1000000, .int .i64 t245] rfl ma ?_; (with_reducible refine (impl_Plus.calls 1000000 t245 t246 _ A15.out).mono ?_); rintro e w19 ⟨rfl, hb⟩; refine ⟨_, rfl, ?_⟩; replace HB := am (below_step bl hb); (try clear hb); (try clear hb2); (try clear hk); (try clear hi)))
   go_ret
   exact ⟨rf, bl⟩
 ·replace c5 := Bool.eq_false_iff.mpr c5
  subst c5
  have H1 : ((impl_since.f a1 a2).bind fun t247 => ((impl_Plus.f 0 t247).bind fun t248 => (some t248))) = some r := by rw [if_neg (show ¬ (false = true) by decide)] at H; exact H
  clear H
  have H := H1
  clear H1
  replace H := ob H
  obtain ⟨t247, A200, H⟩ := H
  replace H : ((impl_Plus.f 0 t247).bind fun t248 => (some t248)) = some r := H
  have A20 := am A200
  clear A200
  replace H := ob H
  obtain ⟨t248, A210, H⟩ := H
  replace H : (some t248) = some r := H
  have A21 := am A210
  clear A210
  obtain rfl := Option.some.inj H
  go_enter Tryd.func27, Tryd.ntmps27
  go_wp2_with (first | ((with_reducible refine gate_callee (f := 39) rfl ?_); refine goesL_ (some 14) rfl rfl Tryd.func39 (by kernel_rfl) rfl #[.slice A0 l0.length c0, .string (⟨#[97, 103, 101]⟩ : ByteArray)] rfl ma ?_; (with_reducible refine (impl_Get.calls _ _ l0 (⟨#[97, 103, 101]⟩ : ByteArray) t239 false _ ?side1 ?side2 A4.out).mono ?_); (case side1 => exact cc HR0); (case side2 => exact HC0.out); rintro e w22 ⟨rfl, hb⟩; refine ⟨_, rfl, ?_⟩; replace HB := am (below_step bl hb); (try clear hb); (try clear hb2); (try clear hk); (try clear hi)) | ((with_reducible refine gate_callee (f := 106) rfl ?_); refine goesL_ (some 29) rfl rfl Tryd.func106 (by kernel_rfl) rfl #[.int .i64 a1, .int .i64 a2] rfl ma ?_; (with_reducible refine (impl_since.calls a1 a2 t247 _ A20.out).mono ?_); rintro e w23 ⟨rfl, hb⟩; refine ⟨_, rfl, ?_⟩; replace HB := am (below_step bl hb); (try clear hb); (try clear hb2); (try clear hk); (try clear hi)) | ((with_reducible refine gate_callee (f := 105) rfl ?_); refine goesL_ (some 30) rfl rfl Tryd.func105 (by kernel_rfl) rfl #[.int .i64 0, .int .i64 t247] rfl ma ?_; (with_reducible refine (impl_Plus.calls 0 t247 t248 _ A21.out).mono ?_); rintro e w24 ⟨rfl, hb⟩; refine ⟨_, rfl, ?_⟩; replace HB := am (below_step bl hb); (try clear hb); (try clear hb2); (try clear hk); (try clear hi)))
  go_ret
  exact ⟨rf, bl⟩

/-! ### laws_FnExactAgeAt: function 4 -/
def laws_FnExactAgeAt.f (k : Nat) (l0 : List (S113)) (a1 : Int) (a2 : Int) : Option (Bool) := (laws_szFieldS.f k l0 1048576).bind fun t249 => (if t249 < 0 then (some true) else ((laws_toFieldS.f k l0).bind fun t250 => ((spec_AgeAt.f k t250 a1 a2).bind fun t253 => ((laws_toFieldS.f k l0).bind fun t254 => ((impl_AgeAt.f t254 a1 a2).bind fun t257 => (if t257 = t253 then ((laws_toFieldS.f k l0).bind fun t258 => ((laws_eqFieldS.f k t254 t258).bind fun t261 => (if t261 = true then (some true) else (some false)))) else (some false)))))))
theorem laws_FnExactAgeAt.mono : ∀ a0 a1 a2 k, LeO (laws_FnExactAgeAt.f k a0 a1 a2) (laws_FnExactAgeAt.f (k + 1) a0 a1 a2) := by
 intro a0 a1 a2 k
 unfold laws_FnExactAgeAt.f
 repeat' first
   | (with_reducible exact laws_eqFieldS.mono _ _ _)
   | (with_reducible exact laws_szFieldS.mono _ _ _)
   | (with_reducible exact laws_toFieldS.mono _ _)
   | (with_reducible exact spec_AgeAt.mono _ _ _ _)
   | (with_reducible exact LeO.refl _)
   | (with_reducible exact LeO.none _)
   | (with_reducible refine LeO.ite ?_ ?_)
   | (with_reducible refine LeO.bind ?_ (fun _ => ?_))
   | exact laws_eqFieldS.mono _ _ _
   | exact laws_szFieldS.mono _ _ _
   | exact laws_toFieldS.mono _ _
   | exact spec_AgeAt.mono _ _ _ _
   | exact LeO.none _
   | refine LeO.ite ?_ ?_
   | refine LeO.bind ?_ (fun _ => ?_)
set_option maxHeartbeats 8000000 in
set_option maxRecDepth 100000 in
theorem laws_FnExactAgeAt.calls (k : Nat) (A0 : Option Addr) (c0 : Nat) (l0 : List (S113)) (a1 : Int) (a2 : Int) (r : Bool) (w : World) (hGE : GLOBE w) (hGT : GLOBT w) (hr0 : Kd.C k113 w A0 l0.length l0) (hc0 : l0.length ≤ c0) (ht_ : r = true) (h : laws_FnExactAgeAt.f k l0 a1 a2 = some r) :
  Calls Tryd.prog 4 #[.slice A0 l0.length c0, .int .i64 a1, .int .i64 a2] w fun e w' => e = .returned (.bool r) ∧ Below w.heap.size w w' := by
 have HR0 := am hr0
 have HC0 := am hc0
 clear hr0 hc0
 have HGE := am hGE
 clear hGE
 have HGT := am hGT
 clear hGT
 have HB := am (Below.refl w.heap.size w)
 have H : ((laws_szFieldS.f k l0 1048576).bind fun t249 => (if t249 < 0 then (some true) else ((laws_toFieldS.f k l0).bind fun t250 => ((spec_AgeAt.f k t250 a1 a2).bind fun t253 => ((laws_toFieldS.f k l0).bind fun t254 => ((impl_AgeAt.f t254 a1 a2).bind fun t257 => (if t257 = t253 then ((laws_toFieldS.f k l0).bind fun t258 => ((laws_eqFieldS.f k t254 t258).bind fun t261 => (if t261 = true then (some true) else (some false)))) else (some false)))))))) = some r := h
 clear h
 replace H := ob H
 obtain ⟨t249, A40, H⟩ := H
 replace H : (if t249 < 0 then (some true) else ((laws_toFieldS.f k l0).bind fun t250 => ((spec_AgeAt.f k t250 a1 a2).bind fun t253 => ((laws_toFieldS.f k l0).bind fun t254 => ((impl_AgeAt.f t254 a1 a2).bind fun t257 => (if t257 = t253 then ((laws_toFieldS.f k l0).bind fun t258 => ((laws_eqFieldS.f k t254 t258).bind fun t261 => (if t261 = true then (some true) else (some false)))) else (some false))))))) = some r := H
 have A4 := am A40
 clear A40
 by_cases c5 : t249 < 0
 ·rw [if_pos c5] at H
  have c5b0 : decide (t249 < 0) = true := decide_eq_true c5
  clear c5
  obtain rfl := Option.some.inj H
  go_enter Tryd.func4, Tryd.ntmps4
  go_wp2_with (first | ((with_reducible refine gate_callee (f := 17) rfl ?_); refine goesL_ (some 13) rfl rfl Tryd.func17 (by kernel_rfl) rfl #[.slice A0 l0.length c0, .int .i64 1048576] rfl ma ?_; (with_reducible refine (laws_szFieldS.calls k _ _ l0 1048576 t249 _ ?side1 ?side2 A4.out).mono ?_); (case side1 => exact cc HR0); (case side2 => exact HC0.out); rintro e w6 ⟨rfl, hb⟩; refine ⟨_, rfl, ?_⟩; replace HB := am (below_step bl hb); (try clear hb); (try clear hb2); (try clear hk); (try clear hi)))
  go_ret
  exact ⟨rf, bl⟩
 ·rw [if_neg c5] at H
  have c5b0 : decide (t249 < 0) = false := decide_eq_false c5
  clear c5
  replace H := ob H
  obtain ⟨t250, A70, H⟩ := H
  replace H : ((spec_AgeAt.f k t250 a1 a2).bind fun t253 => ((laws_toFieldS.f k l0).bind fun t254 => ((impl_AgeAt.f t254 a1 a2).bind fun t257 => (if t257 = t253 then ((laws_toFieldS.f k l0).bind fun t258 => ((laws_eqFieldS.f k t254 t258).bind fun t261 => (if t261 = true then (some true) else (some false)))) else (some false))))) = some r := H
  have A7 := am A70
  clear A70
  replace H := ob H
  obtain ⟨t253, A80, H⟩ := H
  replace H : ((laws_toFieldS.f k l0).bind fun t254 => ((impl_AgeAt.f t254 a1 a2).bind fun t257 => (if t257 = t253 then ((laws_toFieldS.f k l0).bind fun t258 => ((laws_eqFieldS.f k t254 t258).bind fun t261 => (if t261 = true then (some true) else (some false)))) else (some false)))) = some r := H
  have A8 := am A80
  clear A80
  replace H := ob H
  obtain ⟨t254, A90, H⟩ := H
  replace H : ((impl_AgeAt.f t254 a1 a2).bind fun t257 => (if t257 = t253 then ((laws_toFieldS.f k l0).bind fun t258 => ((laws_eqFieldS.f k t254 t258).bind fun t261 => (if t261 = true then (some true) else (some false)))) else (some false))) = some r := H
  have A9 := am A90
  clear A90
  replace H := ob H
  obtain ⟨t257, A100, H⟩ := H
  replace H : (if t257 = t253 then ((laws_toFieldS.f k l0).bind fun t258 => ((laws_eqFieldS.f k t254 t258).bind fun t261 => (if t261 = true then (some true) else (some false)))) else (some false)) = some r := H
  have A10 := am A100
  clear A100
  by_cases c11 : t257 = t253
  ·rw [if_pos c11] at H
   have c11b0 : (t257 == t253) = true := beq_iff_eq.mpr c11
   have c11b1 : (t257 != t253) = false := bne_eq_false_iff_eq.mpr c11
   clear c11
   replace H := ob H
   obtain ⟨t258, A120, H⟩ := H
   replace H : ((laws_eqFieldS.f k t254 t258).bind fun t261 => (if t261 = true then (some true) else (some false))) = some r := H
   have A12 := am A120
   clear A120
   replace H := ob H
   obtain ⟨t261, A130, H⟩ := H
   replace H : (if t261 = true then (some true) else (some false)) = some r := H
   have A13 := am A130
   clear A130
   by_cases c14 : t261 = true
   ·subst c14
    have H1 : (some true) = some r := by rw [if_pos rfl] at H; exact H
    clear H
    have H := H1
    clear H1
    obtain rfl := Option.some.inj H
    go_enter Tryd.func4, Tryd.ntmps4
    go_wp2_with (first | ((with_reducible refine gate_callee (f := 17) rfl ?_); refine goesL_ (some 13) rfl rfl Tryd.func17 (by kernel_rfl) rfl #[.slice A0 l0.length c0, .int .i64 1048576] rfl ma ?_; (with_reducible refine (laws_szFieldS.calls k _ _ l0 1048576 t249 _ ?side1 ?side2 A4.out).mono ?_); (case side1 => exact cc HR0); (case side2 => exact HC0.out); rintro e w15 ⟨rfl, hb⟩; refine ⟨_, rfl, ?_⟩; replace HB := am (below_step bl hb); (try clear hb); (try clear hb2); (try clear hk); (try clear hi)) | ((with_reducible refine gate_callee (f := 19) rfl ?_); refine goesL_ (some 17) rfl rfl Tryd.func19 (by kernel_rfl) rfl #[.slice A0 l0.length c0] rfl ma ?_; (with_reducible refine (laws_toFieldS.calls k _ _ l0 t250 _ ?side1 ?side2 A7.out).mono ?_); (case side1 => exact cb HR0); (case side2 => exact HC0.out); rintro e w16 ⟨v251, rfl, ho0, hb⟩; refine ⟨_, rfl, ?_⟩; have HO252 := am (Kd.R_lower ho0 (below_size bl)); replace HB := am (below_step bl hb); (try clear hb); (try clear hb2); (try clear hk); (try clear hi); (try clear ho0); obtain ⟨Ao17, co17, eo17⟩ := Kd.R_slice HO252.out; subst eo17) | ((with_reducible refine gate_callee (f := 26) rfl ?_); refine goesL_ (some 20) rfl rfl Tryd.func26 (by kernel_rfl) rfl #[.slice Ao17 t250.length co17, .int .i64 a1, .int .i64 a2] rfl ma ?_; (with_reducible refine (spec_AgeAt.calls k _ _ t250 a1 a2 t253 _ ?side1 ?side2 A8.out).mono ?_); (case side1 => exact rc HO252); (case side2 => exact (Kd.R_reads' HO252.out).2.1); rintro e w18 ⟨rfl, hb⟩; refine ⟨_, rfl, ?_⟩; replace HO252 := kr HO252 hb; replace HB := am (below_step bl hb); (try clear hb); (try clear hb2); (try clear hk); (try clear hi)) | ((with_reducible refine gate_callee (f := 19) rfl ?_); refine goesL_ (some 22) rfl rfl Tryd.func19 (by kernel_rfl) rfl #[.slice A0 l0.length c0] rfl ma ?_; (with_reducible refine (laws_toFieldS.calls k _ _ l0 t254 _ ?side1 ?side2 A9.out).mono ?_); (case side1 => exact cb HR0); (case side2 => exact HC0.out); rintro e w19 ⟨v255, rfl, ho0, hb⟩; refine ⟨_, rfl, ?_⟩; have HO256 := am (Kd.R_lower (Kd.R_new' ho0 (Kd.R_lt (ro HO252))) (below_size bl)); replace HO252 := am (Kd.R_elder' (ro HO252) (Kd.R_base ho0) hb); replace HB := am (below_step bl hb); (try clear hb); (try clear hb2); (try clear hk); (try clear hi); (try clear ho0); obtain ⟨Ao20, co20, eo20⟩ := Kd.R_slice HO256.out; subst eo20) | ((with_reducible refine gate_callee (f := 27) rfl ?_); refine goesL_ (some 26) rfl rfl Tryd.func27 (by kernel_rfl) rfl #[.slice Ao20 t254.length co20, .int .i64 a1, .int .i64 a2] rfl ma ?_; (with_reducible refine (impl_AgeAt.calls _ _ t254 a1 a2 t257 _ ?side1 ?side2 ?side3 ?side4 A10.out).mono ?_); (case side1 => exact GLOBE.below HGE.out bl); (case side2 => exact GLOBT.below HGT.out bl); (case side3 => exact rc HO256); (case side4 => exact (Kd.R_reads' HO256.out).2.1); rintro e w21 ⟨rfl, hb⟩; refine ⟨_, rfl, ?_⟩; replace HO252 := kr HO252 hb; replace HO256 := kr HO256 hb; replace HB := am (below_step bl hb); (try clear hb); (try clear hb2); (try clear hk); (try clear hi)) | ((with_reducible refine gate_callee (f := 19) rfl ?_); refine goesL_ (some 32) rfl rfl Tryd.func19 (by kernel_rfl) rfl #[.slice A0 l0.length c0] rfl ma ?_; (with_reducible refine (laws_toFieldS.calls k _ _ l0 t258 _ ?side1 ?side2 A12.out).mono ?_); (case side1 => exact cb HR0); (case side2 => exact HC0.out); rintro e w22 ⟨v259, rfl, ho0, hb⟩; refine ⟨_, rfl, ?_⟩; have HO260 := am (Kd.R_lower (Kd.R_new' (Kd.R_new' ho0 (Kd.R_lt (ro HO252))) (Kd.R_lt (ro HO256))) (below_size bl)); replace HO252 := am (Kd.R_elder' (ro HO252) (Kd.R_base ho0) hb); replace HO256 := am (Kd.R_elder' (ro HO256) (Kd.R_base ho0) hb); replace HB := am (below_step bl hb); (try clear hb); (try clear hb2); (try clear hk); (try clear hi); (try clear ho0); obtain ⟨Ao23, co23, eo23⟩ := Kd.R_slice HO260.out; subst eo23) | ((with_reducible refine gate_callee (f := 22) rfl ?_); refine goesL_ (some 33) rfl rfl Tryd.func22 (by kernel_rfl) rfl #[.slice Ao20 t254.length co20, .slice Ao23 t258.length co23] rfl ma ?_; (with_reducible refine (laws_eqFieldS.calls k _ _ t254 _ _ t258 true _ ?side1 ?side2 ?side3 ?side4 A13.out).mono ?_); (case side1 => exact rc HO256); (case side2 => exact (Kd.R_reads' HO256.out).2.1); (case side3 => exact rc HO260); (case side4 => exact (Kd.R_reads' HO260.out).2.1); rintro e w24 ⟨rfl, hb⟩; refine ⟨_, rfl, ?_⟩; replace HO252 := kr HO252 hb; replace HO256 := kr HO256 hb; replace HO260 := kr HO260 hb; replace HB := am (below_step bl hb); (try clear hb); (try clear hb2); (try clear hk); (try clear hi)))
    go_ret
    exact ⟨rf, bl⟩
   ·replace c14 := Bool.eq_false_iff.mpr c14
    subst c14
    have H1 : (some false) = some r := by rw [if_neg (show ¬ (false = true) by decide)] at H; exact H
    clear H
    have H := H1
    clear H1
    exact absurd (Option.some.inj H) (by rw [ht_]; decide)
  ·rw [if_neg c11] at H
   have c11b0 : (t257 == t253) = false := beq_eq_false_iff_ne.mpr c11
   have c11b1 : (t257 != t253) = true := bne_iff_ne.mpr c11
   exact absurd (Option.some.inj H) (by rw [ht_]; decide)

end Go.Proofs.YtiinmfjbildclaaDoor.All
