-- Written by a program of this session (wip/tools/hprint.py) out of the translation. Lean checks it.
import Derived.Test.YtiinmfjbildclaaDoorAllx0
import Derived.Test.YtiinmfjbildclaaDoorAllx4
namespace Go.Proofs.YtiinmfjbildclaaDoor.All
open Go.RowKit Go.Proofs.YtiinmfjbildclaaDoorW.PrintWords Go.Proofs.YtiinmfjbildclaaDoorW.PrintLast Go.Proofs.YtiinmfjbildclaaDoorW.PrintMore
attribute [local go_sem] max2_int min2_int max_two min_two max_three min_three max_four min_four   -- for this text's walks alone
set_option linter.unusedVariables false
set_option linter.unusedSimpArgs false

/-! ### spec_Get: function 97 -/
def spec_Get.f (k : Nat) (l0 : List (S114)) (a1 : ByteArray) : Option (ByteArray × Bool) := (spec_l2At.f k l0 a1).bind fun t112 => (if t112 < 0 then (some ((⟨#[]⟩ : ByteArray), false)) else (if 0 ≤ t112 then (if t112 < (l0.length : Int) then (some ((rd_T114 l0 t112).f1, true)) else (none)) else (none)))
theorem spec_Get.mono : ∀ a0 a1 k, LeO (spec_Get.f k a0 a1) (spec_Get.f (k + 1) a0 a1) := by
 intro a0 a1 k
 unfold spec_Get.f
 repeat' first
   | (with_reducible exact spec_l2At.mono _ _ _)
   | (with_reducible exact LeO.refl _)
   | (with_reducible exact LeO.none _)
   | (with_reducible refine LeO.ite ?_ ?_)
   | (with_reducible refine LeO.bind ?_ (fun _ => ?_))
   | exact spec_l2At.mono _ _ _
   | exact LeO.none _
   | refine LeO.ite ?_ ?_
   | refine LeO.bind ?_ (fun _ => ?_)
set_option maxHeartbeats 8000000 in
set_option maxRecDepth 100000 in
theorem spec_Get.calls (k : Nat) (A0 : Option Addr) (c0 : Nat) (l0 : List (S114)) (a1 : ByteArray) (r1 : ByteArray) (r2 : Bool) (w : World) (hr0 : Kd.C k114 w A0 l0.length l0) (hc0 : l0.length ≤ c0) (h : spec_Get.f k l0 a1 = some (r1, r2)) :
  Calls Tryd.prog 97 #[.slice A0 l0.length c0, .string a1] w fun e w' => e = .returned (.tuple #[.string r1, .bool r2]) ∧ Drawn0 w w' := by
 have HR0 := am hr0
 have HC0 := am hc0
 clear hr0 hc0
 have H : ((spec_l2At.f k l0 a1).bind fun t112 => (if t112 < 0 then (some ((⟨#[]⟩ : ByteArray), false)) else (if 0 ≤ t112 then (if t112 < (l0.length : Int) then (some ((rd_T114 l0 t112).f1, true)) else (none)) else (none)))) = some (r1, r2) := h
 clear h
 replace H := ob H
 obtain ⟨t112, A30, H⟩ := H
 replace H : (if t112 < 0 then (some ((⟨#[]⟩ : ByteArray), false)) else (if 0 ≤ t112 then (if t112 < (l0.length : Int) then (some ((rd_T114 l0 t112).f1, true)) else (none)) else (none))) = some (r1, r2) := H
 have A3 := am A30
 clear A30
 by_cases c4 : t112 < 0
 ·rw [if_pos c4] at H
  have c4b0 : decide (t112 < 0) = true := decide_eq_true c4
  clear c4
  simp only [Option.some.injEq, Prod.mk.injEq] at H
  obtain ⟨rfl, rfl⟩ := H
  go_enter Tryd.func97, Tryd.ntmps97
  go_wp2_with (first | ((with_reducible refine gate_callee (f := 162) rfl ?_); refine goesL_ (some 9) rfl rfl Tryd.func162 (by kernel_rfl) rfl #[.slice A0 l0.length c0, .string a1] rfl ma ?_; (with_reducible refine (spec_l2At.calls k _ _ l0 a1 t112 _ ?side1 ?side2 A3.out).mono ?_); (case side1 => exact cc HR0); (case side2 => exact HC0.out); rintro e w' ⟨rfl, ⟨nd, rfl⟩⟩; refine ⟨_, rfl, ?_⟩))
  go_ret2
  exact ⟨rs, dr⟩
 ·rw [if_neg c4] at H
  have c4b0 : decide (t112 < 0) = false := decide_eq_false c4
  clear c4
  by_cases c5 : 0 ≤ t112
  ·rw [if_pos c5] at H
   have c5b0 : decide (0 ≤ t112) = true := decide_eq_true c5
   clear c5
   by_cases c6 : t112 < (l0.length : Int)
   ·rw [if_pos c6] at H
    have c6b0 : decide (t112 < (l0.length : Int)) = true := decide_eq_true c6
    clear c6
    simp only [Option.some.injEq, Prod.mk.injEq] at H
    obtain ⟨rfl, rfl⟩ := H
    go_enter Tryd.func97, Tryd.ntmps97
    go_wp2_with (first | ((with_reducible refine gate_callee (f := 162) rfl ?_); refine goesL_ (some 9) rfl rfl Tryd.func162 (by kernel_rfl) rfl #[.slice A0 l0.length c0, .string a1] rfl ma ?_; (with_reducible refine (spec_l2At.calls k _ _ l0 a1 t112 _ ?side1 ?side2 A3.out).mono ?_); (case side1 => exact cc HR0); (case side2 => exact HC0.out); rintro e w' ⟨rfl, ⟨nd, rfl⟩⟩; refine ⟨_, rfl, ?_⟩; have p113 : 0 ≤ (t112 : Int) := od; have q113 : t112 < (l0.length : Int) := od; obtain ⟨ad113, e113, hx113_0, hx113_1⟩ := at_T114 HR0.out t112 p113 q113; cases e113; replace p113 := eq_true p113; replace q113 := eq_true q113))
    go_ret2
    exact ⟨rs, dr⟩
   ·rw [if_neg c6] at H
    exact absurd H (by simp)
  ·rw [if_neg c5] at H
   exact absurd H (by simp)

/-! ### impl_Get: function 39 -/
def impl_Get.f (l0 : List (S114)) (a1 : ByteArray) : Option (ByteArray × Bool) := (impl_fieldAt.f l0 a1).bind fun t144 => (if t144 < 0 then (some ((⟨#[]⟩ : ByteArray), false)) else (if 0 ≤ t144 then (if t144 < (l0.length : Int) then (some ((rd_T114 l0 t144).f1, true)) else (none)) else (none)))
set_option maxHeartbeats 8000000 in
set_option maxRecDepth 100000 in
theorem impl_Get.calls (A0 : Option Addr) (c0 : Nat) (l0 : List (S114)) (a1 : ByteArray) (r1 : ByteArray) (r2 : Bool) (w : World) (hr0 : Kd.C k114 w A0 l0.length l0) (hc0 : l0.length ≤ c0) (h : impl_Get.f l0 a1 = some (r1, r2)) :
  Calls Tryd.prog 39 #[.slice A0 l0.length c0, .string a1] w fun e w' => e = .returned (.tuple #[.string r1, .bool r2]) ∧ Below w.heap.size w w' := by
 have HR0 := am hr0
 have HC0 := am hc0
 clear hr0 hc0
 have HB := am (Below.refl w.heap.size w)
 have H : ((impl_fieldAt.f l0 a1).bind fun t144 => (if t144 < 0 then (some ((⟨#[]⟩ : ByteArray), false)) else (if 0 ≤ t144 then (if t144 < (l0.length : Int) then (some ((rd_T114 l0 t144).f1, true)) else (none)) else (none)))) = some (r1, r2) := h
 clear h
 replace H := ob H
 obtain ⟨t144, A30, H⟩ := H
 replace H : (if t144 < 0 then (some ((⟨#[]⟩ : ByteArray), false)) else (if 0 ≤ t144 then (if t144 < (l0.length : Int) then (some ((rd_T114 l0 t144).f1, true)) else (none)) else (none))) = some (r1, r2) := H
 have A3 := am A30
 clear A30
 by_cases c4 : t144 < 0
 ·rw [if_pos c4] at H
  have c4b0 : decide (t144 < 0) = true := decide_eq_true c4
  clear c4
  simp only [Option.some.injEq, Prod.mk.injEq] at H
  obtain ⟨rfl, rfl⟩ := H
  go_enter Tryd.func39, Tryd.ntmps39
  go_wp2_with (first | ((with_reducible refine gate_callee (f := 117) rfl ?_); refine goesL_ (some 9) rfl rfl Tryd.func117 (by kernel_rfl) rfl #[.slice A0 l0.length c0, .string a1] rfl ma ?_; (with_reducible refine (impl_fieldAt.calls _ _ l0 a1 t144 _ ?side1 ?side2 A3.out).mono ?_); (case side1 => exact cc HR0); (case side2 => exact HC0.out); rintro e w5 ⟨rfl, hb⟩; refine ⟨_, rfl, ?_⟩; replace HB := am (below_step bl hb); (try clear hb); (try clear hb2); (try clear hk); (try clear hi)))
  go_ret2
  exact ⟨rf, bl⟩
 ·rw [if_neg c4] at H
  have c4b0 : decide (t144 < 0) = false := decide_eq_false c4
  clear c4
  by_cases c6 : 0 ≤ t144
  ·rw [if_pos c6] at H
   have c6b0 : decide (0 ≤ t144) = true := decide_eq_true c6
   clear c6
   by_cases c7 : t144 < (l0.length : Int)
   ·rw [if_pos c7] at H
    have c7b0 : decide (t144 < (l0.length : Int)) = true := decide_eq_true c7
    clear c7
    simp only [Option.some.injEq, Prod.mk.injEq] at H
    obtain ⟨rfl, rfl⟩ := H
    go_enter Tryd.func39, Tryd.ntmps39
    go_wp2_with (first | ((with_reducible refine gate_callee (f := 117) rfl ?_); refine goesL_ (some 9) rfl rfl Tryd.func117 (by kernel_rfl) rfl #[.slice A0 l0.length c0, .string a1] rfl ma ?_; (with_reducible refine (impl_fieldAt.calls _ _ l0 a1 t144 _ ?side1 ?side2 A3.out).mono ?_); (case side1 => exact cc HR0); (case side2 => exact HC0.out); rintro e w8 ⟨rfl, hb⟩; refine ⟨_, rfl, ?_⟩; replace HB := am (below_step bl hb); (try clear hb); (try clear hb2); (try clear hk); (try clear hi); have p145 : 0 ≤ (t144 : Int) := od; have q145 : t144 < (l0.length : Int) := od; obtain ⟨ad145, e145, hx145_0, hx145_1⟩ := at_T114 HR0.out t144 p145 q145; cases e145; replace hx145_0 := hcw hx145_0; replace hx145_1 := hcw hx145_1; replace p145 := eq_true p145; replace q145 := eq_true q145))
    go_ret2
    exact ⟨rf, bl⟩
   ·rw [if_neg c7] at H
    exact absurd H (by simp)
  ·rw [if_neg c6] at H
   exact absurd H (by simp)

end Go.Proofs.YtiinmfjbildclaaDoor.All
