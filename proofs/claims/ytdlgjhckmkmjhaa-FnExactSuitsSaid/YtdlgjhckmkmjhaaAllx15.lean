-- Written by a program of this session (wip/tools/hprint.py) out of the translation. Lean checks it.
import Derived.Test.YtdlgjhckmkmjhaaAllx0
import Derived.Test.YtdlgjhckmkmjhaaAllx2
import Derived.Test.YtdlgjhckmkmjhaaAllx3
import Derived.Test.YtdlgjhckmkmjhaaAllx5
import Derived.Test.YtdlgjhckmkmjhaaAllx6
import Derived.Test.YtdlgjhckmkmjhaaAllx7
import Derived.Test.YtdlgjhckmkmjhaaAllx14
namespace Go.Proofs.Ytdlgjhckmkmjhaa.All
open Go.RowKit Go.Proofs.YtdlgjhckmkmjhaaW.PrintWords Go.Proofs.YtdlgjhckmkmjhaaW.PrintLast Go.Proofs.YtdlgjhckmkmjhaaW.PrintMore
attribute [local go_sem] max2_int min2_int max_two min_two max_three min_three max_four min_four   -- for this text's walks alone
set_option linter.unusedVariables false
set_option linter.unusedSimpArgs false

/-! ### laws_FnExactValuesOf: function 14 -/
def laws_FnExactValuesOf.j0 : Nat → List ByteArray → List (S79) → List ByteArray → List ByteArray → Bool → Option (Bool)
  | 0, _, _, _, _, _ => none
  | k + 1, x0, x1, x6, x9, x63 => if x63 = true then (some false) else ((laws_markStringS.f k x9 1).bind fun bt562 => ((laws_heldStringS.f k bt562.2 1).bind fun t564 => (if t564 < 0 then (some false) else (if t564 = bt562.1 then ((laws_toStringS.f k x0).bind fun t565 => ((laws_toFieldS.f k x1).bind fun t568 => ((impl_ValuesOf.f k t565 t568).bind fun t571 => ((laws_eqStringS.f k t571 x6).bind fun t574 => (if t574 = true then ((laws_heldStringS.f k bt562.2 1).bind fun t575 => (if t575 < 0 then (some false) else (if t575 = bt562.1 then (some true) else (some false)))) else (some false)))))) else (some false)))))
def laws_FnExactValuesOf.f (k : Nat) (l0 : List ByteArray) (l1 : List (S79)) : Option (Bool) := (laws_szStringS.f k l0 1048576).bind fun t528 => (if t528 < 0 then (some true) else ((laws_szFieldS.f k l1 t528).bind fun t529 => (if t529 < 0 then (some true) else ((laws_toStringS.f k l0).bind fun t530 => ((laws_toFieldS.f k l1).bind fun t533 => ((spec_ValuesOf.f k t530 t533).bind fun t536 => ((laws_toStringS.f k l0).bind fun t539 => ((laws_toFieldS.f k l1).bind fun t542 => ((impl_ValuesOf.f k t539 t542).bind fun t545 => ((laws_eqStringS.f k t545 t536).bind fun t548 => (if t548 = true then ((laws_toStringS.f k l0).bind fun t549 => ((laws_eqStringS.f k t539 t549).bind fun t552 => (if t552 = true then ((laws_toFieldS.f k l1).bind fun t553 => ((laws_eqFieldS.f k t542 t553).bind fun t556 => (if t556 = true then ((laws_markStringS.f k t539 1).bind fun bt557 => ((laws_markFieldS.f k t542 bt557.1).bind fun bt559 => (if bt559.1 < 0 then (laws_FnExactValuesOf.j0 k l0 l1 t536 t545 true) else ((laws_eqStringS.f k t545 t536).bind fun t561 => (laws_FnExactValuesOf.j0 k l0 l1 t536 t545 (!t561)))))) else (some false)))) else (some false)))) else (some false))))))))))))
theorem laws_FnExactValuesOf.mono_l : ∀ k, (∀ y0 y1 y2 y3 y4, LeO (laws_FnExactValuesOf.j0 k y0 y1 y2 y3 y4) (laws_FnExactValuesOf.j0 (k + 1) y0 y1 y2 y3 y4))
  | 0 => fun _ _ _ _ _ r h => by simp [laws_FnExactValuesOf.j0] at h
  | k + 1 => by
    have ih0 := laws_FnExactValuesOf.mono_l k
    · intro y0 y1 y2 y3 y4
      unfold laws_FnExactValuesOf.j0
      repeat' first
      | (with_reducible exact ih0 _ _ _ _ _)
      | (with_reducible exact impl_ValuesOf.mono _ _ _)
      | (with_reducible exact laws_eqFieldS.mono _ _ _)
      | (with_reducible exact laws_eqStringS.mono _ _ _)
      | (with_reducible exact laws_heldStringS.mono _ _ _)
      | (with_reducible exact laws_markFieldS.mono _ _ _)
      | (with_reducible exact laws_markStringS.mono _ _ _)
      | (with_reducible exact laws_szFieldS.mono _ _ _)
      | (with_reducible exact laws_szStringS.mono _ _ _)
      | (with_reducible exact laws_toFieldS.mono _ _)
      | (with_reducible exact laws_toStringS.mono _ _)
      | (with_reducible exact spec_ValuesOf.mono _ _ _)
      | (with_reducible exact LeO.refl _)
      | (with_reducible exact LeO.none _)
      | (with_reducible refine LeO.ite ?_ ?_)
      | (with_reducible refine LeO.bind ?_ (fun _ => ?_))
      | exact ih0 _ _ _ _ _
      | exact impl_ValuesOf.mono _ _ _
      | exact laws_eqFieldS.mono _ _ _
      | exact laws_eqStringS.mono _ _ _
      | exact laws_heldStringS.mono _ _ _
      | exact laws_markFieldS.mono _ _ _
      | exact laws_markStringS.mono _ _ _
      | exact laws_szFieldS.mono _ _ _
      | exact laws_szStringS.mono _ _ _
      | exact laws_toFieldS.mono _ _
      | exact laws_toStringS.mono _ _
      | exact spec_ValuesOf.mono _ _ _
      | exact LeO.none _
      | refine LeO.ite ?_ ?_
      | refine LeO.bind ?_ (fun _ => ?_)
theorem laws_FnExactValuesOf.mono : ∀ a0 a1 k, LeO (laws_FnExactValuesOf.f k a0 a1) (laws_FnExactValuesOf.f (k + 1) a0 a1) := by
  intro a0 a1 k
  have ih0 := laws_FnExactValuesOf.mono_l k
  unfold laws_FnExactValuesOf.f
  repeat' first
      | (with_reducible exact ih0 _ _ _ _ _)
      | (with_reducible exact impl_ValuesOf.mono _ _ _)
      | (with_reducible exact laws_eqFieldS.mono _ _ _)
      | (with_reducible exact laws_eqStringS.mono _ _ _)
      | (with_reducible exact laws_heldStringS.mono _ _ _)
      | (with_reducible exact laws_markFieldS.mono _ _ _)
      | (with_reducible exact laws_markStringS.mono _ _ _)
      | (with_reducible exact laws_szFieldS.mono _ _ _)
      | (with_reducible exact laws_szStringS.mono _ _ _)
      | (with_reducible exact laws_toFieldS.mono _ _)
      | (with_reducible exact laws_toStringS.mono _ _)
      | (with_reducible exact spec_ValuesOf.mono _ _ _)
      | (with_reducible exact LeO.refl _)
      | (with_reducible exact LeO.none _)
      | (with_reducible refine LeO.ite ?_ ?_)
      | (with_reducible refine LeO.bind ?_ (fun _ => ?_))
      | exact ih0 _ _ _ _ _
      | exact impl_ValuesOf.mono _ _ _
      | exact laws_eqFieldS.mono _ _ _
      | exact laws_eqStringS.mono _ _ _
      | exact laws_heldStringS.mono _ _ _
      | exact laws_markFieldS.mono _ _ _
      | exact laws_markStringS.mono _ _ _
      | exact laws_szFieldS.mono _ _ _
      | exact laws_szStringS.mono _ _ _
      | exact laws_toFieldS.mono _ _
      | exact laws_toStringS.mono _ _
      | exact spec_ValuesOf.mono _ _ _
      | exact LeO.none _
      | refine LeO.ite ?_ ?_
      | refine LeO.bind ?_ (fun _ => ?_)
set_option maxHeartbeats 8000000 in
set_option maxRecDepth 100000 in
theorem laws_FnExactValuesOf.calls (k : Nat) (A0 : Option Addr) (c0 : Nat) (l0 : List ByteArray) (A1 : Option Addr) (c1 : Nat) (l1 : List (S79)) (r : Bool) (w : World) (hr0 : Kd.C Kd.string w A0 l0.length l0) (hc0 : l0.length ≤ c0) (hr1 : Kd.C k79 w A1 l1.length l1) (hc1 : l1.length ≤ c1) (h : laws_FnExactValuesOf.f k l0 l1 = some r) :
    Calls Try.prog 14 #[.slice A0 l0.length c0, .slice A1 l1.length c1] w fun e w' => e = .returned (.bool r) ∧ Below w.heap.size w w' := by
  have HR0 := Aside0.mk hr0
  have HC0 := Aside0.mk hc0
  clear hr0 hc0
  have HR1 := Aside0.mk hr1
  have HC1 := Aside0.mk hc1
  clear hr1 hc1
  have HB := Aside0.mk (Below.refl w.heap.size w)
  have H : ((laws_szStringS.f k l0 1048576).bind fun t528 => (if t528 < 0 then (some true) else ((laws_szFieldS.f k l1 t528).bind fun t529 => (if t529 < 0 then (some true) else ((laws_toStringS.f k l0).bind fun t530 => ((laws_toFieldS.f k l1).bind fun t533 => ((spec_ValuesOf.f k t530 t533).bind fun t536 => ((laws_toStringS.f k l0).bind fun t539 => ((laws_toFieldS.f k l1).bind fun t542 => ((impl_ValuesOf.f k t539 t542).bind fun t545 => ((laws_eqStringS.f k t545 t536).bind fun t548 => (if t548 = true then ((laws_toStringS.f k l0).bind fun t549 => ((laws_eqStringS.f k t539 t549).bind fun t552 => (if t552 = true then ((laws_toFieldS.f k l1).bind fun t553 => ((laws_eqFieldS.f k t542 t553).bind fun t556 => (if t556 = true then ((laws_markStringS.f k t539 1).bind fun bt557 => ((laws_markFieldS.f k t542 bt557.1).bind fun bt559 => (if bt559.1 < 0 then (laws_FnExactValuesOf.j0 k l0 l1 t536 t545 true) else ((laws_eqStringS.f k t545 t536).bind fun t561 => (laws_FnExactValuesOf.j0 k l0 l1 t536 t545 (!t561)))))) else (some false)))) else (some false)))) else (some false))))))))))))) = some r := h
  clear h
  replace H := Option.bind_eq_some_iff.mp H
  obtain ⟨t528, A30, H⟩ := H
  replace H : (if t528 < 0 then (some true) else ((laws_szFieldS.f k l1 t528).bind fun t529 => (if t529 < 0 then (some true) else ((laws_toStringS.f k l0).bind fun t530 => ((laws_toFieldS.f k l1).bind fun t533 => ((spec_ValuesOf.f k t530 t533).bind fun t536 => ((laws_toStringS.f k l0).bind fun t539 => ((laws_toFieldS.f k l1).bind fun t542 => ((impl_ValuesOf.f k t539 t542).bind fun t545 => ((laws_eqStringS.f k t545 t536).bind fun t548 => (if t548 = true then ((laws_toStringS.f k l0).bind fun t549 => ((laws_eqStringS.f k t539 t549).bind fun t552 => (if t552 = true then ((laws_toFieldS.f k l1).bind fun t553 => ((laws_eqFieldS.f k t542 t553).bind fun t556 => (if t556 = true then ((laws_markStringS.f k t539 1).bind fun bt557 => ((laws_markFieldS.f k t542 bt557.1).bind fun bt559 => (if bt559.1 < 0 then (laws_FnExactValuesOf.j0 k l0 l1 t536 t545 true) else ((laws_eqStringS.f k t545 t536).bind fun t561 => (laws_FnExactValuesOf.j0 k l0 l1 t536 t545 (!t561)))))) else (some false)))) else (some false)))) else (some false)))))))))))) = some r := H
  have A3 := Aside0.mk A30
  clear A30
  by_cases c4 : t528 < 0
  · rw [if_pos c4] at H
    have c4b0 : decide (t528 < 0) = true := decide_eq_true c4
    clear c4
    obtain rfl := Option.some.inj H
    go_enter Try.func14, Try.ntmps14
    go_wp2_with (first | ((with_reducible refine gate_callee (f := 55) rfl ?_); refine goesL_ (some 16) rfl rfl Try.func55 (by kernel_rfl) rfl #[.slice A0 l0.length c0, .int .i64 1048576] rfl ma ?_; (with_reducible refine (laws_szStringS.calls k _ _ l0 1048576 t528 _ ?side1 ?side2 A3.out).mono ?_); (case side1 => repeat (first | exact HR0.out | (with_reducible refine Kd.C_alloc ?_ _) | (with_reducible refine Kd.C_drewN ?_ _) | (with_reducible refine Kd.C_drew ?_))); (case side2 => exact HC0.out); rintro e w' ⟨rfl, ⟨nd, rfl⟩⟩; refine ⟨_, rfl, ?_⟩))
    go_ret
    exact ⟨rf, bl⟩
  · rw [if_neg c4] at H
    have c4b0 : decide (t528 < 0) = false := decide_eq_false c4
    clear c4
    replace H := Option.bind_eq_some_iff.mp H
    obtain ⟨t529, A50, H⟩ := H
    replace H : (if t529 < 0 then (some true) else ((laws_toStringS.f k l0).bind fun t530 => ((laws_toFieldS.f k l1).bind fun t533 => ((spec_ValuesOf.f k t530 t533).bind fun t536 => ((laws_toStringS.f k l0).bind fun t539 => ((laws_toFieldS.f k l1).bind fun t542 => ((impl_ValuesOf.f k t539 t542).bind fun t545 => ((laws_eqStringS.f k t545 t536).bind fun t548 => (if t548 = true then ((laws_toStringS.f k l0).bind fun t549 => ((laws_eqStringS.f k t539 t549).bind fun t552 => (if t552 = true then ((laws_toFieldS.f k l1).bind fun t553 => ((laws_eqFieldS.f k t542 t553).bind fun t556 => (if t556 = true then ((laws_markStringS.f k t539 1).bind fun bt557 => ((laws_markFieldS.f k t542 bt557.1).bind fun bt559 => (if bt559.1 < 0 then (laws_FnExactValuesOf.j0 k l0 l1 t536 t545 true) else ((laws_eqStringS.f k t545 t536).bind fun t561 => (laws_FnExactValuesOf.j0 k l0 l1 t536 t545 (!t561)))))) else (some false)))) else (some false)))) else (some false)))))))))) = some r := H
    have A5 := Aside0.mk A50
    clear A50
    by_cases c6 : t529 < 0
    · rw [if_pos c6] at H
      have c6b0 : decide (t529 < 0) = true := decide_eq_true c6
      clear c6
      obtain rfl := Option.some.inj H
      go_enter Try.func14, Try.ntmps14
      go_wp2_with (first | ((with_reducible refine gate_callee (f := 55) rfl ?_); refine goesL_ (some 16) rfl rfl Try.func55 (by kernel_rfl) rfl #[.slice A0 l0.length c0, .int .i64 1048576] rfl ma ?_; (with_reducible refine (laws_szStringS.calls k _ _ l0 1048576 t528 _ ?side1 ?side2 A3.out).mono ?_); (case side1 => repeat (first | exact HR0.out | (with_reducible refine Kd.C_alloc ?_ _) | (with_reducible refine Kd.C_drewN ?_ _) | (with_reducible refine Kd.C_drew ?_))); (case side2 => exact HC0.out); rintro e w' ⟨rfl, ⟨nd, rfl⟩⟩; refine ⟨_, rfl, ?_⟩) | ((with_reducible refine gate_callee (f := 22) rfl ?_); refine goesL_ (some 21) rfl rfl Try.func22 (by kernel_rfl) rfl #[.slice A1 l1.length c1, .int .i64 t528] rfl ma ?_; (with_reducible refine (laws_szFieldS.calls k _ _ l1 t528 t529 _ ?side1 ?side2 A5.out).mono ?_); (case side1 => repeat (first | exact HR1.out | (with_reducible refine Kd.C_alloc ?_ _) | (with_reducible refine Kd.C_drewN ?_ _) | (with_reducible refine Kd.C_drew ?_))); (case side2 => exact HC1.out); rintro e w7 ⟨rfl, hb⟩; refine ⟨_, rfl, ?_⟩; have n0_ := Aside0.mk (below_step bl hb); clear HB; have HB := n0_; clear n0_; (try clear hb); (try clear hb2); (try clear hk); (try clear hi)))
      go_ret
      exact ⟨rf, bl⟩
    · rw [if_neg c6] at H
      have c6b0 : decide (t529 < 0) = false := decide_eq_false c6
      clear c6
      replace H := Option.bind_eq_some_iff.mp H
      obtain ⟨t530, A80, H⟩ := H
      replace H : ((laws_toFieldS.f k l1).bind fun t533 => ((spec_ValuesOf.f k t530 t533).bind fun t536 => ((laws_toStringS.f k l0).bind fun t539 => ((laws_toFieldS.f k l1).bind fun t542 => ((impl_ValuesOf.f k t539 t542).bind fun t545 => ((laws_eqStringS.f k t545 t536).bind fun t548 => (if t548 = true then ((laws_toStringS.f k l0).bind fun t549 => ((laws_eqStringS.f k t539 t549).bind fun t552 => (if t552 = true then ((laws_toFieldS.f k l1).bind fun t553 => ((laws_eqFieldS.f k t542 t553).bind fun t556 => (if t556 = true then ((laws_markStringS.f k t539 1).bind fun bt557 => ((laws_markFieldS.f k t542 bt557.1).bind fun bt559 => (if bt559.1 < 0 then (laws_FnExactValuesOf.j0 k l0 l1 t536 t545 true) else ((laws_eqStringS.f k t545 t536).bind fun t561 => (laws_FnExactValuesOf.j0 k l0 l1 t536 t545 (!t561)))))) else (some false)))) else (some false)))) else (some false)))))))) = some r := H
      have A8 := Aside0.mk A80
      clear A80
      replace H := Option.bind_eq_some_iff.mp H
      obtain ⟨t533, A90, H⟩ := H
      replace H : ((spec_ValuesOf.f k t530 t533).bind fun t536 => ((laws_toStringS.f k l0).bind fun t539 => ((laws_toFieldS.f k l1).bind fun t542 => ((impl_ValuesOf.f k t539 t542).bind fun t545 => ((laws_eqStringS.f k t545 t536).bind fun t548 => (if t548 = true then ((laws_toStringS.f k l0).bind fun t549 => ((laws_eqStringS.f k t539 t549).bind fun t552 => (if t552 = true then ((laws_toFieldS.f k l1).bind fun t553 => ((laws_eqFieldS.f k t542 t553).bind fun t556 => (if t556 = true then ((laws_markStringS.f k t539 1).bind fun bt557 => ((laws_markFieldS.f k t542 bt557.1).bind fun bt559 => (if bt559.1 < 0 then (laws_FnExactValuesOf.j0 k l0 l1 t536 t545 true) else ((laws_eqStringS.f k t545 t536).bind fun t561 => (laws_FnExactValuesOf.j0 k l0 l1 t536 t545 (!t561)))))) else (some false)))) else (some false)))) else (some false))))))) = some r := H
      have A9 := Aside0.mk A90
      clear A90
      replace H := Option.bind_eq_some_iff.mp H
      obtain ⟨t536, A100, H⟩ := H
      replace H : ((laws_toStringS.f k l0).bind fun t539 => ((laws_toFieldS.f k l1).bind fun t542 => ((impl_ValuesOf.f k t539 t542).bind fun t545 => ((laws_eqStringS.f k t545 t536).bind fun t548 => (if t548 = true then ((laws_toStringS.f k l0).bind fun t549 => ((laws_eqStringS.f k t539 t549).bind fun t552 => (if t552 = true then ((laws_toFieldS.f k l1).bind fun t553 => ((laws_eqFieldS.f k t542 t553).bind fun t556 => (if t556 = true then ((laws_markStringS.f k t539 1).bind fun bt557 => ((laws_markFieldS.f k t542 bt557.1).bind fun bt559 => (if bt559.1 < 0 then (laws_FnExactValuesOf.j0 k l0 l1 t536 t545 true) else ((laws_eqStringS.f k t545 t536).bind fun t561 => (laws_FnExactValuesOf.j0 k l0 l1 t536 t545 (!t561)))))) else (some false)))) else (some false)))) else (some false)))))) = some r := H
      have A10 := Aside0.mk A100
      clear A100
      replace H := Option.bind_eq_some_iff.mp H
      obtain ⟨t539, A110, H⟩ := H
      replace H : ((laws_toFieldS.f k l1).bind fun t542 => ((impl_ValuesOf.f k t539 t542).bind fun t545 => ((laws_eqStringS.f k t545 t536).bind fun t548 => (if t548 = true then ((laws_toStringS.f k l0).bind fun t549 => ((laws_eqStringS.f k t539 t549).bind fun t552 => (if t552 = true then ((laws_toFieldS.f k l1).bind fun t553 => ((laws_eqFieldS.f k t542 t553).bind fun t556 => (if t556 = true then ((laws_markStringS.f k t539 1).bind fun bt557 => ((laws_markFieldS.f k t542 bt557.1).bind fun bt559 => (if bt559.1 < 0 then (laws_FnExactValuesOf.j0 k l0 l1 t536 t545 true) else ((laws_eqStringS.f k t545 t536).bind fun t561 => (laws_FnExactValuesOf.j0 k l0 l1 t536 t545 (!t561)))))) else (some false)))) else (some false)))) else (some false))))) = some r := H
      have A11 := Aside0.mk A110
      clear A110
      replace H := Option.bind_eq_some_iff.mp H
      obtain ⟨t542, A120, H⟩ := H
      replace H : ((impl_ValuesOf.f k t539 t542).bind fun t545 => ((laws_eqStringS.f k t545 t536).bind fun t548 => (if t548 = true then ((laws_toStringS.f k l0).bind fun t549 => ((laws_eqStringS.f k t539 t549).bind fun t552 => (if t552 = true then ((laws_toFieldS.f k l1).bind fun t553 => ((laws_eqFieldS.f k t542 t553).bind fun t556 => (if t556 = true then ((laws_markStringS.f k t539 1).bind fun bt557 => ((laws_markFieldS.f k t542 bt557.1).bind fun bt559 => (if bt559.1 < 0 then (laws_FnExactValuesOf.j0 k l0 l1 t536 t545 true) else ((laws_eqStringS.f k t545 t536).bind fun t561 => (laws_FnExactValuesOf.j0 k l0 l1 t536 t545 (!t561)))))) else (some false)))) else (some false)))) else (some false)))) = some r := H
      have A12 := Aside0.mk A120
      clear A120
      replace H := Option.bind_eq_some_iff.mp H
      obtain ⟨t545, A130, H⟩ := H
      replace H : ((laws_eqStringS.f k t545 t536).bind fun t548 => (if t548 = true then ((laws_toStringS.f k l0).bind fun t549 => ((laws_eqStringS.f k t539 t549).bind fun t552 => (if t552 = true then ((laws_toFieldS.f k l1).bind fun t553 => ((laws_eqFieldS.f k t542 t553).bind fun t556 => (if t556 = true then ((laws_markStringS.f k t539 1).bind fun bt557 => ((laws_markFieldS.f k t542 bt557.1).bind fun bt559 => (if bt559.1 < 0 then (laws_FnExactValuesOf.j0 k l0 l1 t536 t545 true) else ((laws_eqStringS.f k t545 t536).bind fun t561 => (laws_FnExactValuesOf.j0 k l0 l1 t536 t545 (!t561)))))) else (some false)))) else (some false)))) else (some false))) = some r := H
      have A13 := Aside0.mk A130
      clear A130
      replace H := Option.bind_eq_some_iff.mp H
      obtain ⟨t548, A140, H⟩ := H
      replace H : (if t548 = true then ((laws_toStringS.f k l0).bind fun t549 => ((laws_eqStringS.f k t539 t549).bind fun t552 => (if t552 = true then ((laws_toFieldS.f k l1).bind fun t553 => ((laws_eqFieldS.f k t542 t553).bind fun t556 => (if t556 = true then ((laws_markStringS.f k t539 1).bind fun bt557 => ((laws_markFieldS.f k t542 bt557.1).bind fun bt559 => (if bt559.1 < 0 then (laws_FnExactValuesOf.j0 k l0 l1 t536 t545 true) else ((laws_eqStringS.f k t545 t536).bind fun t561 => (laws_FnExactValuesOf.j0 k l0 l1 t536 t545 (!t561)))))) else (some false)))) else (some false)))) else (some false)) = some r := H
      have A14 := Aside0.mk A140
      clear A140
      by_cases c15 : t548 = true
      · subst c15
        have H1 : ((laws_toStringS.f k l0).bind fun t549 => ((laws_eqStringS.f k t539 t549).bind fun t552 => (if t552 = true then ((laws_toFieldS.f k l1).bind fun t553 => ((laws_eqFieldS.f k t542 t553).bind fun t556 => (if t556 = true then ((laws_markStringS.f k t539 1).bind fun bt557 => ((laws_markFieldS.f k t542 bt557.1).bind fun bt559 => (if bt559.1 < 0 then (laws_FnExactValuesOf.j0 k l0 l1 t536 t545 true) else ((laws_eqStringS.f k t545 t536).bind fun t561 => (laws_FnExactValuesOf.j0 k l0 l1 t536 t545 (!t561)))))) else (some false)))) else (some false)))) = some r := by rw [if_pos rfl] at H; exact H
        clear H
        have H := H1
        clear H1
        replace H := Option.bind_eq_some_iff.mp H
        obtain ⟨t549, A160, H⟩ := H
        replace H : ((laws_eqStringS.f k t539 t549).bind fun t552 => (if t552 = true then ((laws_toFieldS.f k l1).bind fun t553 => ((laws_eqFieldS.f k t542 t553).bind fun t556 => (if t556 = true then ((laws_markStringS.f k t539 1).bind fun bt557 => ((laws_markFieldS.f k t542 bt557.1).bind fun bt559 => (if bt559.1 < 0 then (laws_FnExactValuesOf.j0 k l0 l1 t536 t545 true) else ((laws_eqStringS.f k t545 t536).bind fun t561 => (laws_FnExactValuesOf.j0 k l0 l1 t536 t545 (!t561)))))) else (some false)))) else (some false))) = some r := H
        have A16 := Aside0.mk A160
        clear A160
        replace H := Option.bind_eq_some_iff.mp H
        obtain ⟨t552, A170, H⟩ := H
        replace H : (if t552 = true then ((laws_toFieldS.f k l1).bind fun t553 => ((laws_eqFieldS.f k t542 t553).bind fun t556 => (if t556 = true then ((laws_markStringS.f k t539 1).bind fun bt557 => ((laws_markFieldS.f k t542 bt557.1).bind fun bt559 => (if bt559.1 < 0 then (laws_FnExactValuesOf.j0 k l0 l1 t536 t545 true) else ((laws_eqStringS.f k t545 t536).bind fun t561 => (laws_FnExactValuesOf.j0 k l0 l1 t536 t545 (!t561)))))) else (some false)))) else (some false)) = some r := H
        have A17 := Aside0.mk A170
        clear A170
        by_cases c18 : t552 = true
        · subst c18
          have H1 : ((laws_toFieldS.f k l1).bind fun t553 => ((laws_eqFieldS.f k t542 t553).bind fun t556 => (if t556 = true then ((laws_markStringS.f k t539 1).bind fun bt557 => ((laws_markFieldS.f k t542 bt557.1).bind fun bt559 => (if bt559.1 < 0 then (laws_FnExactValuesOf.j0 k l0 l1 t536 t545 true) else ((laws_eqStringS.f k t545 t536).bind fun t561 => (laws_FnExactValuesOf.j0 k l0 l1 t536 t545 (!t561)))))) else (some false)))) = some r := by rw [if_pos rfl] at H; exact H
          clear H
          have H := H1
          clear H1
          replace H := Option.bind_eq_some_iff.mp H
          obtain ⟨t553, A190, H⟩ := H
          replace H : ((laws_eqFieldS.f k t542 t553).bind fun t556 => (if t556 = true then ((laws_markStringS.f k t539 1).bind fun bt557 => ((laws_markFieldS.f k t542 bt557.1).bind fun bt559 => (if bt559.1 < 0 then (laws_FnExactValuesOf.j0 k l0 l1 t536 t545 true) else ((laws_eqStringS.f k t545 t536).bind fun t561 => (laws_FnExactValuesOf.j0 k l0 l1 t536 t545 (!t561)))))) else (some false))) = some r := H
          have A19 := Aside0.mk A190
          clear A190
          replace H := Option.bind_eq_some_iff.mp H
          obtain ⟨t556, A200, H⟩ := H
          replace H : (if t556 = true then ((laws_markStringS.f k t539 1).bind fun bt557 => ((laws_markFieldS.f k t542 bt557.1).bind fun bt559 => (if bt559.1 < 0 then (laws_FnExactValuesOf.j0 k l0 l1 t536 t545 true) else ((laws_eqStringS.f k t545 t536).bind fun t561 => (laws_FnExactValuesOf.j0 k l0 l1 t536 t545 (!t561)))))) else (some false)) = some r := H
          have A20 := Aside0.mk A200
          clear A200
          by_cases c21 : t556 = true
          · subst c21
            have H1 : ((laws_markStringS.f k t539 1).bind fun bt557 => ((laws_markFieldS.f k t542 bt557.1).bind fun bt559 => (if bt559.1 < 0 then (laws_FnExactValuesOf.j0 k l0 l1 t536 t545 true) else ((laws_eqStringS.f k t545 t536).bind fun t561 => (laws_FnExactValuesOf.j0 k l0 l1 t536 t545 (!t561)))))) = some r := by rw [if_pos rfl] at H; exact H
            clear H
            have H := H1
            clear H1
            replace H := Option.bind_eq_some_iff.mp H
            obtain ⟨⟨t557, t558⟩, A220, H⟩ := H
            replace H : ((laws_markFieldS.f k t542 t557).bind fun bt559 => (if bt559.1 < 0 then (laws_FnExactValuesOf.j0 k l0 l1 t536 t545 true) else ((laws_eqStringS.f k t545 t536).bind fun t561 => (laws_FnExactValuesOf.j0 k l0 l1 t536 t545 (!t561))))) = some r := H
            have A22 := Aside0.mk A220
            clear A220
            replace H := Option.bind_eq_some_iff.mp H
            obtain ⟨⟨t559, t560⟩, A230, H⟩ := H
            replace H : (if t559 < 0 then (laws_FnExactValuesOf.j0 k l0 l1 t536 t545 true) else ((laws_eqStringS.f k t545 t536).bind fun t561 => (laws_FnExactValuesOf.j0 k l0 l1 t536 t545 (!t561)))) = some r := H
            have A23 := Aside0.mk A230
            clear A230
            have HC24 := Aside0.mk H
            clear H
            go_enter Try.func14, Try.ntmps14
            go_upto_region 21 with (first | ((with_reducible refine gate_callee (f := 55) rfl ?_); refine goesL_ (some 16) rfl rfl Try.func55 (by kernel_rfl) rfl #[.slice A0 l0.length c0, .int .i64 1048576] rfl ma ?_; (with_reducible refine (laws_szStringS.calls k _ _ l0 1048576 t528 _ ?side1 ?side2 A3.out).mono ?_); (case side1 => repeat (first | exact HR0.out | (with_reducible refine Kd.C_alloc ?_ _) | (with_reducible refine Kd.C_drewN ?_ _) | (with_reducible refine Kd.C_drew ?_))); (case side2 => exact HC0.out); rintro e w' ⟨rfl, ⟨nd, rfl⟩⟩; refine ⟨_, rfl, ?_⟩) | ((with_reducible refine gate_callee (f := 22) rfl ?_); refine goesL_ (some 21) rfl rfl Try.func22 (by kernel_rfl) rfl #[.slice A1 l1.length c1, .int .i64 t528] rfl ma ?_; (with_reducible refine (laws_szFieldS.calls k _ _ l1 t528 t529 _ ?side1 ?side2 A5.out).mono ?_); (case side1 => repeat (first | exact HR1.out | (with_reducible refine Kd.C_alloc ?_ _) | (with_reducible refine Kd.C_drewN ?_ _) | (with_reducible refine Kd.C_drew ?_))); (case side2 => exact HC1.out); rintro e w25 ⟨rfl, hb⟩; refine ⟨_, rfl, ?_⟩; have n0_ := Aside0.mk (below_step bl hb); clear HB; have HB := n0_; clear n0_; (try clear hb); (try clear hb2); (try clear hk); (try clear hi)) | ((with_reducible refine gate_callee (f := 57) rfl ?_); refine goesL_ (some 25) rfl rfl Try.func57 (by kernel_rfl) rfl #[.slice A0 l0.length c0] rfl ma ?_; (with_reducible refine (laws_toStringS.calls k _ _ l0 t530 _ ?side1 ?side2 A8.out).mono ?_); (case side1 => repeat (first | exact (Kd.C_below HR0.out HB.out) | (with_reducible refine Kd.C_alloc ?_ _) | (with_reducible refine Kd.C_drewN ?_ _) | (with_reducible refine Kd.C_drew ?_))); (case side2 => exact HC0.out); rintro e w26 ⟨v531, rfl, ho0, hb⟩; refine ⟨_, rfl, ?_⟩; have n0_ := Aside0.mk (Kd.R_lower ho0 (below_size bl)); have n1_ := Aside0.mk (below_step bl hb); clear HB; have HO532 := n0_; have HB := n1_; clear n0_ n1_; (try clear hb); (try clear hb2); (try clear hk); (try clear hi); (try clear ho0)) | ((with_reducible refine gate_callee (f := 24) rfl ?_); refine goesL_ (some 27) rfl rfl Try.func24 (by kernel_rfl) rfl #[.slice A1 l1.length c1] rfl ma ?_; (with_reducible refine (laws_toFieldS.calls k _ _ l1 t533 _ ?side1 ?side2 A9.out).mono ?_); (case side1 => repeat (first | exact (Kd.C_below HR1.out HB.out) | (with_reducible refine Kd.C_alloc ?_ _) | (with_reducible refine Kd.C_drewN ?_ _) | (with_reducible refine Kd.C_drew ?_))); (case side2 => exact HC1.out); rintro e w27 ⟨v534, rfl, ho0, hb⟩; refine ⟨_, rfl, ?_⟩; have n0_ := Aside0.mk (Kd.R_below (ro HO532) hb); have n1_ := Aside0.mk (Kd.R_lower ho0 (below_size bl)); have n2_ := Aside0.mk (below_step bl hb); clear HO532; clear HB; have HO532 := n0_; have HO535 := n1_; have HB := n2_; clear n0_ n1_ n2_; (try clear hb); (try clear hb2); (try clear hk); (try clear hi); (try clear ho0); obtain ⟨Ao28, co28, eo28⟩ := Kd.R_slice HO532.out; subst eo28; obtain ⟨Ao29, co29, eo29⟩ := Kd.R_slice HO535.out; subst eo29) | ((with_reducible refine gate_callee (f := 56) rfl ?_); refine goesL_ (some 28) rfl rfl Try.func56 (by kernel_rfl) rfl #[.slice Ao28 t530.length co28, .slice Ao29 t533.length co29] rfl ma ?_; (with_reducible refine (spec_ValuesOf.calls k _ _ t530 _ _ t533 t536 _ ?side1 ?side2 ?side3 ?side4 A10.out).mono ?_); (case side1 => repeat (first | exact (Kd.R_reads' HO532.out).2.2 | (with_reducible refine Kd.C_alloc ?_ _) | (with_reducible refine Kd.C_drewN ?_ _) | (with_reducible refine Kd.C_drew ?_))); (case side2 => exact (Kd.R_reads' HO532.out).2.1); (case side3 => repeat (first | exact (Kd.R_reads' HO535.out).2.2 | (with_reducible refine Kd.C_alloc ?_ _) | (with_reducible refine Kd.C_drewN ?_ _) | (with_reducible refine Kd.C_drew ?_))); (case side4 => exact (Kd.R_reads' HO535.out).2.1); rintro e w30 ⟨v537, rfl, ho0, hb⟩; refine ⟨_, rfl, ?_⟩; have n0_ := Aside0.mk (Kd.R_elder' (ro HO532) (Kd.R_base ho0) hb); have n1_ := Aside0.mk (Kd.R_below (ro HO535) hb); have n2_ := Aside0.mk (Kd.R_lower (Kd.R_new' ho0 (Kd.R_lt (ro HO532))) (below_size bl)); have n3_ := Aside0.mk (below_step bl hb); clear HO532; clear HO535; clear HB; have HO532 := n0_; have HO535 := n1_; have HO538 := n2_; have HB := n3_; clear n0_ n1_ n2_ n3_; (try clear hb); (try clear hb2); (try clear hk); (try clear hi); (try clear ho0)) | ((with_reducible refine gate_callee (f := 57) rfl ?_); refine goesL_ (some 30) rfl rfl Try.func57 (by kernel_rfl) rfl #[.slice A0 l0.length c0] rfl ma ?_; (with_reducible refine (laws_toStringS.calls k _ _ l0 t539 _ ?side1 ?side2 A11.out).mono ?_); (case side1 => repeat (first | exact (Kd.C_below HR0.out HB.out) | (with_reducible refine Kd.C_alloc ?_ _) | (with_reducible refine Kd.C_drewN ?_ _) | (with_reducible refine Kd.C_drew ?_))); (case side2 => exact HC0.out); rintro e w31 ⟨v540, rfl, ho0, hb⟩; refine ⟨_, rfl, ?_⟩; have n0_ := Aside0.mk (Kd.R_elder' (ro HO532) (Kd.R_base ho0) hb); have n1_ := Aside0.mk (Kd.R_below (ro HO535) hb); have n2_ := Aside0.mk (Kd.R_elder' (ro HO538) (Kd.R_base ho0) hb); have n3_ := Aside0.mk (Kd.R_lower (Kd.R_new' (Kd.R_new' ho0 (Kd.R_lt (ro HO532))) (Kd.R_lt (ro HO538))) (below_size bl)); have n4_ := Aside0.mk (below_step bl hb); clear HO532; clear HO535; clear HO538; clear HB; have HO532 := n0_; have HO535 := n1_; have HO538 := n2_; have HO541 := n3_; have HB := n4_; clear n0_ n1_ n2_ n3_ n4_; (try clear hb); (try clear hb2); (try clear hk); (try clear hi); (try clear ho0)) | ((with_reducible refine gate_callee (f := 24) rfl ?_); refine goesL_ (some 32) rfl rfl Try.func24 (by kernel_rfl) rfl #[.slice A1 l1.length c1] rfl ma ?_; (with_reducible refine (laws_toFieldS.calls k _ _ l1 t542 _ ?side1 ?side2 A12.out).mono ?_); (case side1 => repeat (first | exact (Kd.C_below HR1.out HB.out) | (with_reducible refine Kd.C_alloc ?_ _) | (with_reducible refine Kd.C_drewN ?_ _) | (with_reducible refine Kd.C_drew ?_))); (case side2 => exact HC1.out); rintro e w32 ⟨v543, rfl, ho0, hb⟩; refine ⟨_, rfl, ?_⟩; have n0_ := Aside0.mk (Kd.R_below (ro HO532) hb); have n1_ := Aside0.mk (Kd.R_elder' (ro HO535) (Kd.R_base ho0) hb); have n2_ := Aside0.mk (Kd.R_below (ro HO538) hb); have n3_ := Aside0.mk (Kd.R_below (ro HO541) hb); have n4_ := Aside0.mk (Kd.R_lower (Kd.R_new' ho0 (Kd.R_lt (ro HO535))) (below_size bl)); have n5_ := Aside0.mk (below_step bl hb); clear HO532; clear HO535; clear HO538; clear HO541; clear HB; have HO532 := n0_; have HO535 := n1_; have HO538 := n2_; have HO541 := n3_; have HO544 := n4_; have HB := n5_; clear n0_ n1_ n2_ n3_ n4_ n5_; (try clear hb); (try clear hb2); (try clear hk); (try clear hi); (try clear ho0); obtain ⟨Ao33, co33, eo33⟩ := Kd.R_slice HO541.out; subst eo33; obtain ⟨Ao34, co34, eo34⟩ := Kd.R_slice HO544.out; subst eo34) | ((with_reducible refine gate_callee (f := 58) rfl ?_); refine goesL_ (some 35) rfl rfl Try.func58 (by kernel_rfl) rfl #[.slice Ao33 t539.length co33, .slice Ao34 t542.length co34] rfl ma ?_; (with_reducible refine (impl_ValuesOf.calls k _ _ t539 _ _ t542 t545 _ ?side1 ?side2 ?side3 ?side4 A13.out).mono ?_); (case side1 => repeat (first | exact (Kd.R_reads' HO541.out).2.2 | (with_reducible refine Kd.C_alloc ?_ _) | (with_reducible refine Kd.C_drewN ?_ _) | (with_reducible refine Kd.C_drew ?_))); (case side2 => exact (Kd.R_reads' HO541.out).2.1); (case side3 => repeat (first | exact (Kd.R_reads' HO544.out).2.2 | (with_reducible refine Kd.C_alloc ?_ _) | (with_reducible refine Kd.C_drewN ?_ _) | (with_reducible refine Kd.C_drew ?_))); (case side4 => exact (Kd.R_reads' HO544.out).2.1); rintro e w35 ⟨v546, rfl, ho0, hb⟩; refine ⟨_, rfl, ?_⟩; have n0_ := Aside0.mk (Kd.R_elder' (ro HO532) (Kd.R_base ho0) hb); have n1_ := Aside0.mk (Kd.R_below (ro HO535) hb); have n2_ := Aside0.mk (Kd.R_elder' (ro HO538) (Kd.R_base ho0) hb); have n3_ := Aside0.mk (Kd.R_elder' (ro HO541) (Kd.R_base ho0) hb); have n4_ := Aside0.mk (Kd.R_below (ro HO544) hb); have n5_ := Aside0.mk (Kd.R_lower (Kd.R_new' (Kd.R_new' (Kd.R_new' ho0 (Kd.R_lt (ro HO532))) (Kd.R_lt (ro HO538))) (Kd.R_lt (ro HO541))) (below_size bl)); have n6_ := Aside0.mk (below_step bl hb); clear HO532; clear HO535; clear HO538; clear HO541; clear HO544; clear HB; have HO532 := n0_; have HO535 := n1_; have HO538 := n2_; have HO541 := n3_; have HO544 := n4_; have HO547 := n5_; have HB := n6_; clear n0_ n1_ n2_ n3_ n4_ n5_ n6_; (try clear hb); (try clear hb2); (try clear hk); (try clear hi); (try clear ho0); obtain ⟨Ao36, co36, eo36⟩ := Kd.R_slice HO547.out; subst eo36; obtain ⟨Ao37, co37, eo37⟩ := Kd.R_slice HO538.out; subst eo37) | ((with_reducible refine gate_callee (f := 32) rfl ?_); refine goesL_ (some 38) rfl rfl Try.func32 (by kernel_rfl) rfl #[.slice Ao36 t545.length co36, .slice Ao37 t536.length co37] rfl ma ?_; (with_reducible refine (laws_eqStringS.calls k _ _ t545 _ _ t536 true _ ?side1 ?side2 ?side3 ?side4 A14.out).mono ?_); (case side1 => repeat (first | exact (Kd.R_reads' HO547.out).2.2 | (with_reducible refine Kd.C_alloc ?_ _) | (with_reducible refine Kd.C_drewN ?_ _) | (with_reducible refine Kd.C_drew ?_))); (case side2 => exact (Kd.R_reads' HO547.out).2.1); (case side3 => repeat (first | exact (Kd.R_reads' HO538.out).2.2 | (with_reducible refine Kd.C_alloc ?_ _) | (with_reducible refine Kd.C_drewN ?_ _) | (with_reducible refine Kd.C_drew ?_))); (case side4 => exact (Kd.R_reads' HO538.out).2.1); rintro e w' ⟨rfl, ⟨nd, rfl⟩⟩; refine ⟨_, rfl, ?_⟩) | ((with_reducible refine gate_callee (f := 57) rfl ?_); refine goesL_ (some 42) rfl rfl Try.func57 (by kernel_rfl) rfl #[.slice A0 l0.length c0] rfl ma ?_; (with_reducible refine (laws_toStringS.calls k _ _ l0 t549 _ ?side1 ?side2 A16.out).mono ?_); (case side1 => repeat (first | exact (Kd.C_below HR0.out bl) | (with_reducible refine Kd.C_alloc ?_ _) | (with_reducible refine Kd.C_drewN ?_ _) | (with_reducible refine Kd.C_drew ?_))); (case side2 => exact HC0.out); rintro e w38 ⟨v550, rfl, ho0, hb⟩; refine ⟨_, rfl, ?_⟩; have n0_ := Aside0.mk (Kd.R_elder' (ro HO532) (Kd.R_base ho0) hb); have n1_ := Aside0.mk (Kd.R_below (ro HO535) hb); have n2_ := Aside0.mk (Kd.R_elder' (ro HO538) (Kd.R_base ho0) hb); have n3_ := Aside0.mk (Kd.R_elder' (ro HO541) (Kd.R_base ho0) hb); have n4_ := Aside0.mk (Kd.R_below (ro HO544) hb); have n5_ := Aside0.mk (Kd.R_elder' (ro HO547) (Kd.R_base ho0) hb); have n6_ := Aside0.mk (Kd.R_lower (Kd.R_new' (Kd.R_new' (Kd.R_new' (Kd.R_new' ho0 (Kd.R_lt (ro HO532))) (Kd.R_lt (ro HO538))) (Kd.R_lt (ro HO541))) (Kd.R_lt (ro HO547))) (below_size bl)); have n7_ := Aside0.mk (below_step bl hb); clear HO532; clear HO535; clear HO538; clear HO541; clear HO544; clear HO547; clear HB; have HO532 := n0_; have HO535 := n1_; have HO538 := n2_; have HO541 := n3_; have HO544 := n4_; have HO547 := n5_; have HO551 := n6_; have HB := n7_; clear n0_ n1_ n2_ n3_ n4_ n5_ n6_ n7_; (try clear hb); (try clear hb2); (try clear hk); (try clear hi); (try clear ho0); obtain ⟨Ao39, co39, eo39⟩ := Kd.R_slice HO551.out; subst eo39) | ((with_reducible refine gate_callee (f := 32) rfl ?_); refine goesL_ (some 43) rfl rfl Try.func32 (by kernel_rfl) rfl #[.slice Ao33 t539.length co33, .slice Ao39 t549.length co39] rfl ma ?_; (with_reducible refine (laws_eqStringS.calls k _ _ t539 _ _ t549 true _ ?side1 ?side2 ?side3 ?side4 A17.out).mono ?_); (case side1 => repeat (first | exact (Kd.R_reads' HO541.out).2.2 | (with_reducible refine Kd.C_alloc ?_ _) | (with_reducible refine Kd.C_drewN ?_ _) | (with_reducible refine Kd.C_drew ?_))); (case side2 => exact (Kd.R_reads' HO541.out).2.1); (case side3 => repeat (first | exact (Kd.R_reads' HO551.out).2.2 | (with_reducible refine Kd.C_alloc ?_ _) | (with_reducible refine Kd.C_drewN ?_ _) | (with_reducible refine Kd.C_drew ?_))); (case side4 => exact (Kd.R_reads' HO551.out).2.1); rintro e w' ⟨rfl, ⟨nd, rfl⟩⟩; refine ⟨_, rfl, ?_⟩) | ((with_reducible refine gate_callee (f := 24) rfl ?_); refine goesL_ (some 47) rfl rfl Try.func24 (by kernel_rfl) rfl #[.slice A1 l1.length c1] rfl ma ?_; (with_reducible refine (laws_toFieldS.calls k _ _ l1 t553 _ ?side1 ?side2 A19.out).mono ?_); (case side1 => repeat (first | exact (Kd.C_below HR1.out bl) | (with_reducible refine Kd.C_alloc ?_ _) | (with_reducible refine Kd.C_drewN ?_ _) | (with_reducible refine Kd.C_drew ?_))); (case side2 => exact HC1.out); rintro e w40 ⟨v554, rfl, ho0, hb⟩; refine ⟨_, rfl, ?_⟩; have n0_ := Aside0.mk (Kd.R_below (ro HO532) hb); have n1_ := Aside0.mk (Kd.R_elder' (ro HO535) (Kd.R_base ho0) hb); have n2_ := Aside0.mk (Kd.R_below (ro HO538) hb); have n3_ := Aside0.mk (Kd.R_below (ro HO541) hb); have n4_ := Aside0.mk (Kd.R_elder' (ro HO544) (Kd.R_base ho0) hb); have n5_ := Aside0.mk (Kd.R_below (ro HO547) hb); have n6_ := Aside0.mk (Kd.R_below (ro HO551) hb); have n7_ := Aside0.mk (Kd.R_lower (Kd.R_new' (Kd.R_new' ho0 (Kd.R_lt (ro HO535))) (Kd.R_lt (ro HO544))) (below_size bl)); have n8_ := Aside0.mk (below_step bl hb); clear HO532; clear HO535; clear HO538; clear HO541; clear HO544; clear HO547; clear HO551; clear HB; have HO532 := n0_; have HO535 := n1_; have HO538 := n2_; have HO541 := n3_; have HO544 := n4_; have HO547 := n5_; have HO551 := n6_; have HO555 := n7_; have HB := n8_; clear n0_ n1_ n2_ n3_ n4_ n5_ n6_ n7_ n8_; (try clear hb); (try clear hb2); (try clear hk); (try clear hi); (try clear ho0); obtain ⟨Ao41, co41, eo41⟩ := Kd.R_slice HO555.out; subst eo41) | ((with_reducible refine gate_callee (f := 26) rfl ?_); refine goesL_ (some 48) rfl rfl Try.func26 (by kernel_rfl) rfl #[.slice Ao34 t542.length co34, .slice Ao41 t553.length co41] rfl ma ?_; (with_reducible refine (laws_eqFieldS.calls k _ _ t542 _ _ t553 true _ ?side1 ?side2 ?side3 ?side4 A20.out).mono ?_); (case side1 => repeat (first | exact (Kd.R_reads' HO544.out).2.2 | (with_reducible refine Kd.C_alloc ?_ _) | (with_reducible refine Kd.C_drewN ?_ _) | (with_reducible refine Kd.C_drew ?_))); (case side2 => exact (Kd.R_reads' HO544.out).2.1); (case side3 => repeat (first | exact (Kd.R_reads' HO555.out).2.2 | (with_reducible refine Kd.C_alloc ?_ _) | (with_reducible refine Kd.C_drewN ?_ _) | (with_reducible refine Kd.C_drew ?_))); (case side4 => exact (Kd.R_reads' HO555.out).2.1); rintro e w42 ⟨rfl, hb⟩; refine ⟨_, rfl, ?_⟩; have n0_ := Aside0.mk (Kd.R_below (ro HO532) hb); have n1_ := Aside0.mk (Kd.R_below (ro HO535) hb); have n2_ := Aside0.mk (Kd.R_below (ro HO538) hb); have n3_ := Aside0.mk (Kd.R_below (ro HO541) hb); have n4_ := Aside0.mk (Kd.R_below (ro HO544) hb); have n5_ := Aside0.mk (Kd.R_below (ro HO547) hb); have n6_ := Aside0.mk (Kd.R_below (ro HO551) hb); have n7_ := Aside0.mk (Kd.R_below (ro HO555) hb); have n8_ := Aside0.mk (below_step bl hb); clear HO532; clear HO535; clear HO538; clear HO541; clear HO544; clear HO547; clear HO551; clear HO555; clear HB; have HO532 := n0_; have HO535 := n1_; have HO538 := n2_; have HO541 := n3_; have HO544 := n4_; have HO547 := n5_; have HO551 := n6_; have HO555 := n7_; have HB := n8_; clear n0_ n1_ n2_ n3_ n4_ n5_ n6_ n7_ n8_; (try clear hb); (try clear hb2); (try clear hk); (try clear hi)) | ((with_reducible refine gate_callee (f := 35) rfl ?_); refine goesL_ (some 52) rfl rfl Try.func35 (by kernel_rfl) rfl #[.slice Ao33 t539.length co33, .int .i64 1] rfl ma ?_; (with_reducible refine (laws_markStringS.calls k (fun k_ => some k_ = (.slice Ao33 t539.length co33 : Value).ownBlock) (.slice Ao33 t539.length co33) t539 1 t557 t558 w _ ?side1 ?side2 A22.out).mono ?_); (case side1 => repeat (first | (with_reducible first | exact HB.out | apply below_alloc | apply pw_below_drewN | apply below_drew1) | exact HB.out)); (case side2 => exact Kd.R_tight rfl HO541.out); rintro e w43 ⟨rfl, hy0, hb, hkp⟩; refine ⟨_, rfl, ?_⟩; have n0_ := Aside0.mk (Kd.R_mono (ok' := fun k_ => some k_ ≠ (.slice Ao37 t536.length co37 : Value).ownBlock ∧ some k_ ≠ (.slice Ao33 t539.length co33 : Value).ownBlock ∧ some k_ ≠ (.slice Ao36 t545.length co36 : Value).ownBlock ∧ some k_ ≠ (.slice Ao39 t549.length co39 : Value).ownBlock) (Kd.R_keptB (HO532.out) hkp (fun k_ hk_ hs_ => (hk_.1.1.2) hs_)) (fun k_ hk_ => ⟨hk_.1.1.1.1.2, hk_.1.1.1.2, hk_.1.1.2, hk_.1.2⟩)); have n1_ := Aside0.mk (Kd.R_mono (ok' := fun k_ => some k_ ≠ (.slice Ao34 t542.length co34 : Value).ownBlock ∧ some k_ ≠ (.slice Ao41 t553.length co41 : Value).ownBlock) (Kd.R_keptB ((Kd.R_apart' HO535.out (Kd.R_typed HO541.out) (by decide))) hkp (fun k_ hk_ hs_ => (hk_.2) hs_)) (fun k_ hk_ => ⟨hk_.1.1.1.2, hk_.1.1.2⟩)); have n2_ := Aside0.mk (Kd.R_mono (ok' := fun k_ => some k_ ≠ (.slice Ao28 t530.length co28 : Value).ownBlock ∧ some k_ ≠ (.slice Ao33 t539.length co33 : Value).ownBlock ∧ some k_ ≠ (.slice Ao36 t545.length co36 : Value).ownBlock ∧ some k_ ≠ (.slice Ao39 t549.length co39 : Value).ownBlock) (Kd.R_keptB (HO538.out) hkp (fun k_ hk_ hs_ => (hk_.1.1.2) hs_)) (fun k_ hk_ => ⟨hk_.1.1.1.1.2, hk_.1.1.1.2, hk_.1.1.2, hk_.1.2⟩)); have n3_ := Aside0.mk (Kd.R_reok rfl hy0 (fun k_ e_ => HO541.out.1 k_ e_)); have n4_ := Aside0.mk (Kd.R_mono (ok' := fun k_ => some k_ ≠ (.slice Ao29 t533.length co29 : Value).ownBlock ∧ some k_ ≠ (.slice Ao41 t553.length co41 : Value).ownBlock) (Kd.R_keptB ((Kd.R_apart' HO544.out (Kd.R_typed HO541.out) (by decide))) hkp (fun k_ hk_ hs_ => (hk_.2) hs_)) (fun k_ hk_ => ⟨hk_.1.1.1.2, hk_.1.1.2⟩)); have n5_ := Aside0.mk (Kd.R_mono (ok' := fun k_ => some k_ ≠ (.slice Ao28 t530.length co28 : Value).ownBlock ∧ some k_ ≠ (.slice Ao37 t536.length co37 : Value).ownBlock ∧ some k_ ≠ (.slice Ao33 t539.length co33 : Value).ownBlock ∧ some k_ ≠ (.slice Ao39 t549.length co39 : Value).ownBlock) (Kd.R_keptB (HO547.out) hkp (fun k_ hk_ hs_ => (hk_.1.2) hs_)) (fun k_ hk_ => ⟨hk_.1.1.1.1.2, hk_.1.1.1.2, hk_.1.1.2, hk_.1.2⟩)); have n6_ := Aside0.mk (Kd.R_mono (ok' := fun k_ => some k_ ≠ (.slice Ao28 t530.length co28 : Value).ownBlock ∧ some k_ ≠ (.slice Ao37 t536.length co37 : Value).ownBlock ∧ some k_ ≠ (.slice Ao33 t539.length co33 : Value).ownBlock ∧ some k_ ≠ (.slice Ao36 t545.length co36 : Value).ownBlock) (Kd.R_keptB (HO551.out) hkp (fun k_ hk_ hs_ => (hk_.1.2) hs_)) (fun k_ hk_ => ⟨hk_.1.1.1.1.2, hk_.1.1.1.2, hk_.1.1.2, hk_.1.2⟩)); have n7_ := Aside0.mk (Kd.R_mono (ok' := fun k_ => some k_ ≠ (.slice Ao29 t533.length co29 : Value).ownBlock ∧ some k_ ≠ (.slice Ao34 t542.length co34 : Value).ownBlock) (Kd.R_keptB ((Kd.R_apart' HO555.out (Kd.R_typed HO541.out) (by decide))) hkp (fun k_ hk_ hs_ => (hk_.2) hs_)) (fun k_ hk_ => ⟨hk_.1.1.1.2, hk_.1.1.2⟩)); have n8_ := Aside0.mk (hb); clear HO532; clear HO535; clear HO538; clear HO541; clear HO544; clear HO547; clear HO551; clear HO555; clear HB; have HO532 := n0_; have HO535 := n1_; have HO538 := n2_; have HO541 := n3_; have HO544 := n4_; have HO547 := n5_; have HO551 := n6_; have HO555 := n7_; have HB := n8_; clear n0_ n1_ n2_ n3_ n4_ n5_ n6_ n7_ n8_; (try clear hb); (try clear hkp); (try clear hy0)) | ((with_reducible refine gate_callee (f := 39) rfl ?_); refine goesL_ (some 55) rfl rfl Try.func39 (by kernel_rfl) rfl #[.slice Ao34 t542.length co34, .int .i64 t557] rfl ma ?_; (with_reducible refine (laws_markFieldS.calls k (fun k_ => some k_ = (.slice Ao34 t542.length co34 : Value).ownBlock) (.slice Ao34 t542.length co34) t542 t557 t559 t560 w _ ?side1 ?side2 A23.out).mono ?_); (case side1 => repeat (first | (with_reducible first | exact HB.out | apply below_alloc | apply pw_below_drewN | apply below_drew1) | exact HB.out)); (case side2 => exact Kd.R_tight rfl HO544.out); rintro e w44 ⟨rfl, hy0, hb, hkp⟩; refine ⟨_, rfl, ?_⟩; have n0_ := Aside0.mk (Kd.R_mono (ok' := fun k_ => some k_ ≠ (.slice Ao37 t536.length co37 : Value).ownBlock ∧ some k_ ≠ (.slice Ao33 t539.length co33 : Value).ownBlock ∧ some k_ ≠ (.slice Ao36 t545.length co36 : Value).ownBlock ∧ some k_ ≠ (.slice Ao39 t549.length co39 : Value).ownBlock) (Kd.R_keptB ((Kd.R_apart' HO532.out (Kd.R_typed HO544.out) (by decide))) hkp (fun k_ hk_ hs_ => (hk_.2) hs_)) (fun k_ hk_ => ⟨hk_.1.1.1, hk_.1.1.2.1, hk_.1.1.2.2.1, hk_.1.1.2.2.2⟩)); have n1_ := Aside0.mk (Kd.R_mono (ok' := fun k_ => some k_ ≠ (.slice Ao34 t542.length co34 : Value).ownBlock ∧ some k_ ≠ (.slice Ao41 t553.length co41 : Value).ownBlock) (Kd.R_keptB (HO535.out) hkp (fun k_ hk_ hs_ => (hk_.1) hs_)) (fun k_ hk_ => ⟨hk_.1.1, hk_.1.2⟩)); have n2_ := Aside0.mk (Kd.R_mono (ok' := fun k_ => some k_ ≠ (.slice Ao28 t530.length co28 : Value).ownBlock ∧ some k_ ≠ (.slice Ao33 t539.length co33 : Value).ownBlock ∧ some k_ ≠ (.slice Ao36 t545.length co36 : Value).ownBlock ∧ some k_ ≠ (.slice Ao39 t549.length co39 : Value).ownBlock) (Kd.R_keptB ((Kd.R_apart' HO538.out (Kd.R_typed HO544.out) (by decide))) hkp (fun k_ hk_ hs_ => (hk_.2) hs_)) (fun k_ hk_ => ⟨hk_.1.1.1, hk_.1.1.2.1, hk_.1.1.2.2.1, hk_.1.1.2.2.2⟩)); have n3_ := Aside0.mk (Kd.R_mono (ok' := fun k_ => some k_ ≠ (.slice Ao28 t530.length co28 : Value).ownBlock ∧ some k_ ≠ (.slice Ao37 t536.length co37 : Value).ownBlock ∧ some k_ ≠ (.slice Ao36 t545.length co36 : Value).ownBlock ∧ some k_ ≠ (.slice Ao39 t549.length co39 : Value).ownBlock) (Kd.R_keptB ((Kd.R_apart' HO541.out (Kd.R_typed HO544.out) (by decide))) hkp (fun k_ hk_ hs_ => (hk_.2) hs_)) (fun k_ hk_ => ⟨hk_.1.1.1.1.1.2, hk_.1.1.1.1.2, hk_.1.1.1.2, hk_.1.1.2⟩)); have n4_ := Aside0.mk (Kd.R_reok rfl hy0 (fun k_ e_ => HO544.out.1 k_ e_)); have n5_ := Aside0.mk (Kd.R_mono (ok' := fun k_ => some k_ ≠ (.slice Ao28 t530.length co28 : Value).ownBlock ∧ some k_ ≠ (.slice Ao37 t536.length co37 : Value).ownBlock ∧ some k_ ≠ (.slice Ao33 t539.length co33 : Value).ownBlock ∧ some k_ ≠ (.slice Ao39 t549.length co39 : Value).ownBlock) (Kd.R_keptB ((Kd.R_apart' HO547.out (Kd.R_typed HO544.out) (by decide))) hkp (fun k_ hk_ hs_ => (hk_.2) hs_)) (fun k_ hk_ => ⟨hk_.1.1.1, hk_.1.1.2.1, hk_.1.1.2.2.1, hk_.1.1.2.2.2⟩)); have n6_ := Aside0.mk (Kd.R_mono (ok' := fun k_ => some k_ ≠ (.slice Ao28 t530.length co28 : Value).ownBlock ∧ some k_ ≠ (.slice Ao37 t536.length co37 : Value).ownBlock ∧ some k_ ≠ (.slice Ao33 t539.length co33 : Value).ownBlock ∧ some k_ ≠ (.slice Ao36 t545.length co36 : Value).ownBlock) (Kd.R_keptB ((Kd.R_apart' HO551.out (Kd.R_typed HO544.out) (by decide))) hkp (fun k_ hk_ hs_ => (hk_.2) hs_)) (fun k_ hk_ => ⟨hk_.1.1.1, hk_.1.1.2.1, hk_.1.1.2.2.1, hk_.1.1.2.2.2⟩)); have n7_ := Aside0.mk (Kd.R_mono (ok' := fun k_ => some k_ ≠ (.slice Ao29 t533.length co29 : Value).ownBlock ∧ some k_ ≠ (.slice Ao34 t542.length co34 : Value).ownBlock) (Kd.R_keptB (HO555.out) hkp (fun k_ hk_ hs_ => (hk_.2) hs_)) (fun k_ hk_ => ⟨hk_.1.1, hk_.1.2⟩)); have n8_ := Aside0.mk (hb); clear HO532; clear HO535; clear HO538; clear HO541; clear HO544; clear HO547; clear HO551; clear HO555; clear HB; have HO532 := n0_; have HO535 := n1_; have HO538 := n2_; have HO541 := n3_; have HO544 := n4_; have HO547 := n5_; have HO551 := n6_; have HO555 := n7_; have HB := n8_; clear n0_ n1_ n2_ n3_ n4_ n5_ n6_ n7_ n8_; (try clear hb); (try clear hkp); (try clear hy0)))
            (try simp only [Act.put, List.setIfInBounds_toArray, List.set_cons_zero, List.set_cons_succ])
            go_cut [63] (fun v63 wc => ∃ (kq : Nat) (x63_23 : Bool), v63 = .bool x63_23 ∧ Aside0 (laws_FnExactValuesOf.j0 kq l0 l1 t536 t545 x63_23 = some r) ∧ Aside0 (kq ≤ k) ∧ Aside0 (Kd.R Kd.string 9 wc w.heap.size (fun k_ => some k_ ≠ ((.slice Ao36 t545.length co36) : Value).ownBlock) (.slice Ao37 t536.length co37) t536) ∧ Aside0 (Kd.R Kd.string 9 wc w.heap.size (fun k_ => some k_ ≠ ((.slice Ao37 t536.length co37) : Value).ownBlock) (.slice Ao36 t545.length co36) t545) ∧ Aside0 (Below w.heap.size w wc))
            case first =>
              have H := HC24.out
              clear HC24
              by_cases c45 : t559 < 0
              · rw [if_pos c45] at H
                have c45b0 : decide (t559 < 0) = true := decide_eq_true c45
                clear c45
                (first | rw [c45b0] | (simp only [i64_w, i32_w]; rw [c45b0]) | skip)
                have H' := Aside0.mk H
                clear H
                go_wp2
                go_meet
                case rel => exact ⟨_, (true), (by first | rfl | (simp; done) | (simp [*]; done)), H', ⟨by first | omega | exact Nat.le_refl _⟩, ⟨by (with_reducible repeat (first | apply Kd.R_alloc | apply Kd.R_drewN | apply Kd.R_drew)); exact Kd.R_mono HO538.out (fun _ hk => hk.2.2.1)⟩, ⟨by (with_reducible repeat (first | apply Kd.R_alloc | apply Kd.R_drewN | apply Kd.R_drew)); exact Kd.R_mono HO547.out (fun _ hk => hk.2.1)⟩, ⟨by repeat (first | (with_reducible first | exact HB.out | apply below_alloc | apply pw_below_drewN | apply below_drew1) | exact HB.out)⟩⟩
              · rw [if_neg c45] at H
                have c45b0 : decide (t559 < 0) = false := decide_eq_false c45
                clear c45
                (first | rw [c45b0] | (simp only [i64_w, i32_w]; rw [c45b0]) | skip)
                replace H := Option.bind_eq_some_iff.mp H
                obtain ⟨t561, A460, H⟩ := H
                replace H : (laws_FnExactValuesOf.j0 k l0 l1 t536 t545 (!t561)) = some r := H
                have A46 := Aside0.mk A460
                clear A460
                have H' := Aside0.mk H
                clear H
                go_wp2_with (first | (go_at_call 32; (with_reducible refine (laws_eqStringS.calls k _ _ t545 _ _ t536 t561 _ ?side1 ?side2 ?side3 ?side4 A46.out).mono ?_); (case side1 => repeat (first | exact (Kd.R_reads' HO547.out).2.2 | (with_reducible refine Kd.C_alloc ?_ _) | (with_reducible refine Kd.C_drewN ?_ _) | (with_reducible refine Kd.C_drew ?_))); (case side2 => exact (Kd.R_reads' HO547.out).2.1); (case side3 => repeat (first | exact (Kd.R_reads' HO538.out).2.2 | (with_reducible refine Kd.C_alloc ?_ _) | (with_reducible refine Kd.C_drewN ?_ _) | (with_reducible refine Kd.C_drew ?_))); (case side4 => exact (Kd.R_reads' HO538.out).2.1); rintro e w' ⟨rfl, ⟨nd, rfl⟩⟩))
                go_meet
                case rel => exact ⟨_, (!t561), (by first | rfl | (simp; done) | (simp [*]; done)), H', ⟨by first | omega | exact Nat.le_refl _⟩, ⟨by (with_reducible repeat (first | apply Kd.R_alloc | apply Kd.R_drewN | apply Kd.R_drew)); exact Kd.R_mono HO538.out (fun _ hk => hk.2.2.1)⟩, ⟨by (with_reducible repeat (first | apply Kd.R_alloc | apply Kd.R_drewN | apply Kd.R_drew)); exact Kd.R_mono HO547.out (fun _ hk => hk.2.1)⟩, ⟨by repeat (first | (with_reducible first | exact HB.out | apply below_alloc | apply pw_below_drewN | apply below_drew1) | exact HB.out)⟩⟩
            case rest =>
              clear HC24
              try clear c1
              try clear c2
              try clear p2
              try clear c3
              try clear c4
              try clear c4b0
              try clear c5
              try clear c6
              try clear c6b0
              try clear c14
              try clear c15
              try clear c18
              try clear c21
              try clear c22
              try clear c24
              try clear c26
              try clear c32
              try clear c35
              try clear c39
              try clear c45
              try clear c45b0
              obtain ⟨kq, x63_23, rfl, HA, HJ23, HO_6, HO_9, HB⟩ := hcut
              cases kq with
              | zero => exact absurd HA.out (by simp [laws_FnExactValuesOf.j0])
              | succ kj23 =>
                have H := HA.out
                clear HA
                simp only [laws_FnExactValuesOf.j0] at H
                by_cases c47 : x63_23 = true
                · subst c47
                  have H1 : (some false) = some r := by rw [if_pos rfl] at H; exact H
                  clear H
                  have H := H1
                  clear H1
                  obtain rfl := Option.some.inj H
                  go_wp2
                  go_ret
                  exact ⟨rf, bl⟩
                · replace c47 := Bool.eq_false_iff.mpr c47
                  subst c47
                  have H1 : ((laws_markStringS.f kj23 t545 1).bind fun bt562 => ((laws_heldStringS.f kj23 bt562.2 1).bind fun t564 => (if t564 < 0 then (some false) else (if t564 = bt562.1 then ((laws_toStringS.f kj23 l0).bind fun t565 => ((laws_toFieldS.f kj23 l1).bind fun t568 => ((impl_ValuesOf.f kj23 t565 t568).bind fun t571 => ((laws_eqStringS.f kj23 t571 t536).bind fun t574 => (if t574 = true then ((laws_heldStringS.f kj23 bt562.2 1).bind fun t575 => (if t575 < 0 then (some false) else (if t575 = bt562.1 then (some true) else (some false)))) else (some false)))))) else (some false))))) = some r := by rw [if_neg (show ¬ (false = true) by decide)] at H; exact H
                  clear H
                  have H := H1
                  clear H1
                  replace H := Option.bind_eq_some_iff.mp H
                  obtain ⟨⟨t562, t563⟩, A480, H⟩ := H
                  replace H : ((laws_heldStringS.f kj23 t563 1).bind fun t564 => (if t564 < 0 then (some false) else (if t564 = t562 then ((laws_toStringS.f kj23 l0).bind fun t565 => ((laws_toFieldS.f kj23 l1).bind fun t568 => ((impl_ValuesOf.f kj23 t565 t568).bind fun t571 => ((laws_eqStringS.f kj23 t571 t536).bind fun t574 => (if t574 = true then ((laws_heldStringS.f kj23 t563 1).bind fun t575 => (if t575 < 0 then (some false) else (if t575 = t562 then (some true) else (some false)))) else (some false)))))) else (some false)))) = some r := H
                  have A48 := Aside0.mk A480
                  clear A480
                  replace H := Option.bind_eq_some_iff.mp H
                  obtain ⟨t564, A490, H⟩ := H
                  replace H : (if t564 < 0 then (some false) else (if t564 = t562 then ((laws_toStringS.f kj23 l0).bind fun t565 => ((laws_toFieldS.f kj23 l1).bind fun t568 => ((impl_ValuesOf.f kj23 t565 t568).bind fun t571 => ((laws_eqStringS.f kj23 t571 t536).bind fun t574 => (if t574 = true then ((laws_heldStringS.f kj23 t563 1).bind fun t575 => (if t575 < 0 then (some false) else (if t575 = t562 then (some true) else (some false)))) else (some false)))))) else (some false))) = some r := H
                  have A49 := Aside0.mk A490
                  clear A490
                  by_cases c50 : t564 < 0
                  · rw [if_pos c50] at H
                    have c50b0 : decide (t564 < 0) = true := decide_eq_true c50
                    clear c50
                    obtain rfl := Option.some.inj H
                    go_wp2_with (first | ((with_reducible refine gate_callee (f := 35) rfl ?_); refine goesL_ (some 66) rfl rfl Try.func35 (by kernel_rfl) rfl #[.slice Ao36 t545.length co36, .int .i64 1] rfl ma ?_; (with_reducible refine (laws_markStringS.calls kj23 (fun k_ => some k_ = (.slice Ao36 t545.length co36 : Value).ownBlock) (.slice Ao36 t545.length co36) t545 1 t562 t563 w _ ?side1 ?side2 A48.out).mono ?_); (case side1 => repeat (first | (with_reducible first | exact HB.out | apply below_alloc | apply pw_below_drewN | apply below_drew1) | exact HB.out)); (case side2 => exact Kd.R_tight rfl HO_9.out); rintro e w51 ⟨rfl, hy0, hb, hkp⟩; refine ⟨_, rfl, ?_⟩; have n0_ := Aside0.mk (Kd.R_mono (ok' := fun k_ => some k_ ≠ (.slice Ao36 t545.length co36 : Value).ownBlock) (Kd.R_keptB (HO_6.out) hkp (fun k_ hk_ hs_ => (hk_) hs_)) (fun k_ hk_ => hk_.1)); have n1_ := Aside0.mk (Kd.R_reok rfl hy0 (fun k_ e_ => HO_9.out.1 k_ e_)); have n2_ := Aside0.mk (hb); clear HO_6; clear HO_9; clear HB; have HO_6 := n0_; have HO_9 := n1_; have HB := n2_; clear n0_ n1_ n2_; (try clear hb); (try clear hkp); (try clear hy0)) | ((with_reducible refine gate_callee (f := 36) rfl ?_); refine goesL_ (some 69) rfl rfl Try.func36 (by kernel_rfl) rfl #[.slice Ao36 t563.length co36, .int .i64 1] rfl (by (try simp only [List.map_toArray, List.map_cons, List.map_nil]); first | done | (rw [show t563.length = t545.length from (Kd.R_reads' HO_9.out).1.symm] <;> rfl) | rfl | (simp only [List.length_drop, List.length_take]; rfl)) ?_; (with_reducible refine (laws_heldStringS.calls kj23 _ _ t563 1 t564 _ ?side1 ?side2 A49.out).mono ?_); (case side1 => repeat (first | exact (Kd.R_reads' HO_9.out).2.2 | (with_reducible refine Kd.C_alloc ?_ _) | (with_reducible refine Kd.C_drewN ?_ _) | (with_reducible refine Kd.C_drew ?_))); (case side2 => rw [show t563.length = t545.length from (Kd.R_reads' HO_9.out).1.symm]; exact (Kd.R_reads' HO_9.out).2.1); rintro e w52 ⟨rfl, hb⟩; refine ⟨_, rfl, ?_⟩; have n0_ := Aside0.mk (Kd.R_below (ro HO_6) hb); have n1_ := Aside0.mk (Kd.R_below (ro HO_9) hb); have n2_ := Aside0.mk (below_step bl hb); clear HO_6; clear HO_9; clear HB; have HO_6 := n0_; have HO_9 := n1_; have HB := n2_; clear n0_ n1_ n2_; (try clear hb); (try clear hb2); (try clear hk); (try clear hi)))
                    go_ret
                    exact ⟨rf, bl⟩
                  · rw [if_neg c50] at H
                    have c50b0 : decide (t564 < 0) = false := decide_eq_false c50
                    clear c50
                    by_cases c53 : t564 = t562
                    · rw [if_pos c53] at H
                      have c53b0 : (t564 == t562) = true := beq_iff_eq.mpr c53
                      have c53b1 : (t564 != t562) = false := bne_eq_false_iff_eq.mpr c53
                      clear c53
                      replace H := Option.bind_eq_some_iff.mp H
                      obtain ⟨t565, A540, H⟩ := H
                      replace H : ((laws_toFieldS.f kj23 l1).bind fun t568 => ((impl_ValuesOf.f kj23 t565 t568).bind fun t571 => ((laws_eqStringS.f kj23 t571 t536).bind fun t574 => (if t574 = true then ((laws_heldStringS.f kj23 t563 1).bind fun t575 => (if t575 < 0 then (some false) else (if t575 = t562 then (some true) else (some false)))) else (some false))))) = some r := H
                      have A54 := Aside0.mk A540
                      clear A540
                      replace H := Option.bind_eq_some_iff.mp H
                      obtain ⟨t568, A550, H⟩ := H
                      replace H : ((impl_ValuesOf.f kj23 t565 t568).bind fun t571 => ((laws_eqStringS.f kj23 t571 t536).bind fun t574 => (if t574 = true then ((laws_heldStringS.f kj23 t563 1).bind fun t575 => (if t575 < 0 then (some false) else (if t575 = t562 then (some true) else (some false)))) else (some false)))) = some r := H
                      have A55 := Aside0.mk A550
                      clear A550
                      replace H := Option.bind_eq_some_iff.mp H
                      obtain ⟨t571, A560, H⟩ := H
                      replace H : ((laws_eqStringS.f kj23 t571 t536).bind fun t574 => (if t574 = true then ((laws_heldStringS.f kj23 t563 1).bind fun t575 => (if t575 < 0 then (some false) else (if t575 = t562 then (some true) else (some false)))) else (some false))) = some r := H
                      have A56 := Aside0.mk A560
                      clear A560
                      replace H := Option.bind_eq_some_iff.mp H
                      obtain ⟨t574, A570, H⟩ := H
                      replace H : (if t574 = true then ((laws_heldStringS.f kj23 t563 1).bind fun t575 => (if t575 < 0 then (some false) else (if t575 = t562 then (some true) else (some false)))) else (some false)) = some r := H
                      have A57 := Aside0.mk A570
                      clear A570
                      by_cases c58 : t574 = true
                      · subst c58
                        have H1 : ((laws_heldStringS.f kj23 t563 1).bind fun t575 => (if t575 < 0 then (some false) else (if t575 = t562 then (some true) else (some false)))) = some r := by rw [if_pos rfl] at H; exact H
                        clear H
                        have H := H1
                        clear H1
                        replace H := Option.bind_eq_some_iff.mp H
                        obtain ⟨t575, A590, H⟩ := H
                        replace H : (if t575 < 0 then (some false) else (if t575 = t562 then (some true) else (some false))) = some r := H
                        have A59 := Aside0.mk A590
                        clear A590
                        by_cases c60 : t575 < 0
                        · rw [if_pos c60] at H
                          have c60b0 : decide (t575 < 0) = true := decide_eq_true c60
                          clear c60
                          obtain rfl := Option.some.inj H
                          go_wp2_with (first | ((with_reducible refine gate_callee (f := 35) rfl ?_); refine goesL_ (some 66) rfl rfl Try.func35 (by kernel_rfl) rfl #[.slice Ao36 t545.length co36, .int .i64 1] rfl ma ?_; (with_reducible refine (laws_markStringS.calls kj23 (fun k_ => some k_ = (.slice Ao36 t545.length co36 : Value).ownBlock) (.slice Ao36 t545.length co36) t545 1 t562 t563 w _ ?side1 ?side2 A48.out).mono ?_); (case side1 => repeat (first | (with_reducible first | exact HB.out | apply below_alloc | apply pw_below_drewN | apply below_drew1) | exact HB.out)); (case side2 => exact Kd.R_tight rfl HO_9.out); rintro e w61 ⟨rfl, hy0, hb, hkp⟩; refine ⟨_, rfl, ?_⟩; have n0_ := Aside0.mk (Kd.R_mono (ok' := fun k_ => some k_ ≠ (.slice Ao36 t545.length co36 : Value).ownBlock) (Kd.R_keptB (HO_6.out) hkp (fun k_ hk_ hs_ => (hk_) hs_)) (fun k_ hk_ => hk_.1)); have n1_ := Aside0.mk (Kd.R_reok rfl hy0 (fun k_ e_ => HO_9.out.1 k_ e_)); have n2_ := Aside0.mk (hb); clear HO_6; clear HO_9; clear HB; have HO_6 := n0_; have HO_9 := n1_; have HB := n2_; clear n0_ n1_ n2_; (try clear hb); (try clear hkp); (try clear hy0)) | ((with_reducible refine gate_callee (f := 36) rfl ?_); refine goesL_ (some 69) rfl rfl Try.func36 (by kernel_rfl) rfl #[.slice Ao36 t563.length co36, .int .i64 1] rfl (by (try simp only [List.map_toArray, List.map_cons, List.map_nil]); first | done | (rw [show t563.length = t545.length from (Kd.R_reads' HO_9.out).1.symm] <;> rfl) | rfl | (simp only [List.length_drop, List.length_take]; rfl)) ?_; (with_reducible refine (laws_heldStringS.calls kj23 _ _ t563 1 t564 _ ?side1 ?side2 A49.out).mono ?_); (case side1 => repeat (first | exact (Kd.R_reads' HO_9.out).2.2 | (with_reducible refine Kd.C_alloc ?_ _) | (with_reducible refine Kd.C_drewN ?_ _) | (with_reducible refine Kd.C_drew ?_))); (case side2 => rw [show t563.length = t545.length from (Kd.R_reads' HO_9.out).1.symm]; exact (Kd.R_reads' HO_9.out).2.1); rintro e w62 ⟨rfl, hb⟩; refine ⟨_, rfl, ?_⟩; have n0_ := Aside0.mk (Kd.R_below (ro HO_6) hb); have n1_ := Aside0.mk (Kd.R_below (ro HO_9) hb); have n2_ := Aside0.mk (below_step bl hb); clear HO_6; clear HO_9; clear HB; have HO_6 := n0_; have HO_9 := n1_; have HB := n2_; clear n0_ n1_ n2_; (try clear hb); (try clear hb2); (try clear hk); (try clear hi)) | ((with_reducible refine gate_callee (f := 57) rfl ?_); refine goesL_ (some 76) rfl rfl Try.func57 (by kernel_rfl) rfl #[.slice A0 l0.length c0] rfl ma ?_; (with_reducible refine (laws_toStringS.calls kj23 _ _ l0 t565 _ ?side1 ?side2 A54.out).mono ?_); (case side1 => repeat (first | exact (Kd.C_below HR0.out HB.out) | (with_reducible refine Kd.C_alloc ?_ _) | (with_reducible refine Kd.C_drewN ?_ _) | (with_reducible refine Kd.C_drew ?_))); (case side2 => exact HC0.out); rintro e w63 ⟨v566, rfl, ho0, hb⟩; refine ⟨_, rfl, ?_⟩; have n0_ := Aside0.mk (Kd.R_elder' (ro HO_6) (Kd.R_base ho0) hb); have n1_ := Aside0.mk (Kd.R_elder' (ro HO_9) (Kd.R_base ho0) hb); have n2_ := Aside0.mk (Kd.R_lower (Kd.R_new' (Kd.R_new' ho0 (Kd.R_lt (ro HO_6))) (Kd.R_lt (ro HO_9))) (below_size bl)); have n3_ := Aside0.mk (below_step bl hb); clear HO_6; clear HO_9; clear HB; have HO_6 := n0_; have HO_9 := n1_; have HO567 := n2_; have HB := n3_; clear n0_ n1_ n2_ n3_; (try clear hb); (try clear hb2); (try clear hk); (try clear hi); (try clear ho0)) | ((with_reducible refine gate_callee (f := 24) rfl ?_); refine goesL_ (some 78) rfl rfl Try.func24 (by kernel_rfl) rfl #[.slice A1 l1.length c1] rfl ma ?_; (with_reducible refine (laws_toFieldS.calls kj23 _ _ l1 t568 _ ?side1 ?side2 A55.out).mono ?_); (case side1 => repeat (first | exact (Kd.C_below HR1.out HB.out) | (with_reducible refine Kd.C_alloc ?_ _) | (with_reducible refine Kd.C_drewN ?_ _) | (with_reducible refine Kd.C_drew ?_))); (case side2 => exact HC1.out); rintro e w64 ⟨v569, rfl, ho0, hb⟩; refine ⟨_, rfl, ?_⟩; have n0_ := Aside0.mk (Kd.R_below (ro HO_6) hb); have n1_ := Aside0.mk (Kd.R_below (ro HO_9) hb); have n2_ := Aside0.mk (Kd.R_below (ro HO567) hb); have n3_ := Aside0.mk (Kd.R_lower ho0 (below_size bl)); have n4_ := Aside0.mk (below_step bl hb); clear HO_6; clear HO_9; clear HO567; clear HB; have HO_6 := n0_; have HO_9 := n1_; have HO567 := n2_; have HO570 := n3_; have HB := n4_; clear n0_ n1_ n2_ n3_ n4_; (try clear hb); (try clear hb2); (try clear hk); (try clear hi); (try clear ho0); obtain ⟨Ao65, co65, eo65⟩ := Kd.R_slice HO567.out; subst eo65; obtain ⟨Ao66, co66, eo66⟩ := Kd.R_slice HO570.out; subst eo66) | ((with_reducible refine gate_callee (f := 58) rfl ?_); refine goesL_ (some 79) rfl rfl Try.func58 (by kernel_rfl) rfl #[.slice Ao65 t565.length co65, .slice Ao66 t568.length co66] rfl ma ?_; (with_reducible refine (impl_ValuesOf.calls kj23 _ _ t565 _ _ t568 t571 _ ?side1 ?side2 ?side3 ?side4 A56.out).mono ?_); (case side1 => repeat (first | exact (Kd.R_reads' HO567.out).2.2 | (with_reducible refine Kd.C_alloc ?_ _) | (with_reducible refine Kd.C_drewN ?_ _) | (with_reducible refine Kd.C_drew ?_))); (case side2 => exact (Kd.R_reads' HO567.out).2.1); (case side3 => repeat (first | exact (Kd.R_reads' HO570.out).2.2 | (with_reducible refine Kd.C_alloc ?_ _) | (with_reducible refine Kd.C_drewN ?_ _) | (with_reducible refine Kd.C_drew ?_))); (case side4 => exact (Kd.R_reads' HO570.out).2.1); rintro e w67 ⟨v572, rfl, ho0, hb⟩; refine ⟨_, rfl, ?_⟩; have n0_ := Aside0.mk (Kd.R_elder' (ro HO_6) (Kd.R_base ho0) hb); have n1_ := Aside0.mk (Kd.R_elder' (ro HO_9) (Kd.R_base ho0) hb); have n2_ := Aside0.mk (Kd.R_elder' (ro HO567) (Kd.R_base ho0) hb); have n3_ := Aside0.mk (Kd.R_below (ro HO570) hb); have n4_ := Aside0.mk (Kd.R_lower (Kd.R_new' (Kd.R_new' (Kd.R_new' ho0 (Kd.R_lt (ro HO_6))) (Kd.R_lt (ro HO_9))) (Kd.R_lt (ro HO567))) (below_size bl)); have n5_ := Aside0.mk (below_step bl hb); clear HO_6; clear HO_9; clear HO567; clear HO570; clear HB; have HO_6 := n0_; have HO_9 := n1_; have HO567 := n2_; have HO570 := n3_; have HO573 := n4_; have HB := n5_; clear n0_ n1_ n2_ n3_ n4_ n5_; (try clear hb); (try clear hb2); (try clear hk); (try clear hi); (try clear ho0); obtain ⟨Ao68, co68, eo68⟩ := Kd.R_slice HO573.out; subst eo68) | ((with_reducible refine gate_callee (f := 32) rfl ?_); refine goesL_ (some 82) rfl rfl Try.func32 (by kernel_rfl) rfl #[.slice Ao68 t571.length co68, .slice Ao37 t536.length co37] rfl ma ?_; (with_reducible refine (laws_eqStringS.calls kj23 _ _ t571 _ _ t536 true _ ?side1 ?side2 ?side3 ?side4 A57.out).mono ?_); (case side1 => repeat (first | exact (Kd.R_reads' HO573.out).2.2 | (with_reducible refine Kd.C_alloc ?_ _) | (with_reducible refine Kd.C_drewN ?_ _) | (with_reducible refine Kd.C_drew ?_))); (case side2 => exact (Kd.R_reads' HO573.out).2.1); (case side3 => repeat (first | exact (Kd.R_reads' HO_6.out).2.2 | (with_reducible refine Kd.C_alloc ?_ _) | (with_reducible refine Kd.C_drewN ?_ _) | (with_reducible refine Kd.C_drew ?_))); (case side4 => exact (Kd.R_reads' HO_6.out).2.1); rintro e w' ⟨rfl, ⟨nd, rfl⟩⟩; refine ⟨_, rfl, ?_⟩) | ((with_reducible refine gate_callee (f := 36) rfl ?_); refine goesL_ (some 86) rfl rfl Try.func36 (by kernel_rfl) rfl #[.slice Ao36 t563.length co36, .int .i64 1] rfl (by (try simp only [List.map_toArray, List.map_cons, List.map_nil]); first | done | (rw [show t563.length = t545.length from (Kd.R_reads' HO_9.out).1.symm] <;> rfl) | rfl | (simp only [List.length_drop, List.length_take]; rfl)) ?_; (with_reducible refine (laws_heldStringS.calls kj23 _ _ t563 1 t575 _ ?side1 ?side2 A59.out).mono ?_); (case side1 => repeat (first | exact (Kd.R_reads' HO_9.out).2.2 | (with_reducible refine Kd.C_alloc ?_ _) | (with_reducible refine Kd.C_drewN ?_ _) | (with_reducible refine Kd.C_drew ?_))); (case side2 => rw [show t563.length = t545.length from (Kd.R_reads' HO_9.out).1.symm]; exact (Kd.R_reads' HO_9.out).2.1); rintro e w69 ⟨rfl, hb⟩; refine ⟨_, rfl, ?_⟩; have n0_ := Aside0.mk (Kd.R_below (ro HO_6) hb); have n1_ := Aside0.mk (Kd.R_below (ro HO_9) hb); have n2_ := Aside0.mk (Kd.R_below (ro HO567) hb); have n3_ := Aside0.mk (Kd.R_below (ro HO570) hb); have n4_ := Aside0.mk (Kd.R_below (ro HO573) hb); have n5_ := Aside0.mk (below_step bl hb); clear HO_6; clear HO_9; clear HO567; clear HO570; clear HO573; clear HB; have HO_6 := n0_; have HO_9 := n1_; have HO567 := n2_; have HO570 := n3_; have HO573 := n4_; have HB := n5_; clear n0_ n1_ n2_ n3_ n4_ n5_; (try clear hb); (try clear hb2); (try clear hk); (try clear hi)))
                          go_ret
                          exact ⟨rf, bl⟩
                        · rw [if_neg c60] at H
                          have c60b0 : decide (t575 < 0) = false := decide_eq_false c60
                          clear c60
                          by_cases c70 : t575 = t562
                          · rw [if_pos c70] at H
                            have c70b0 : (t575 == t562) = true := beq_iff_eq.mpr c70
                            have c70b1 : (t575 != t562) = false := bne_eq_false_iff_eq.mpr c70
                            clear c70
                            obtain rfl := Option.some.inj H
                            go_wp2_with (first | ((with_reducible refine gate_callee (f := 35) rfl ?_); refine goesL_ (some 66) rfl rfl Try.func35 (by kernel_rfl) rfl #[.slice Ao36 t545.length co36, .int .i64 1] rfl ma ?_; (with_reducible refine (laws_markStringS.calls kj23 (fun k_ => some k_ = (.slice Ao36 t545.length co36 : Value).ownBlock) (.slice Ao36 t545.length co36) t545 1 t562 t563 w _ ?side1 ?side2 A48.out).mono ?_); (case side1 => repeat (first | (with_reducible first | exact HB.out | apply below_alloc | apply pw_below_drewN | apply below_drew1) | exact HB.out)); (case side2 => exact Kd.R_tight rfl HO_9.out); rintro e w71 ⟨rfl, hy0, hb, hkp⟩; refine ⟨_, rfl, ?_⟩; have n0_ := Aside0.mk (Kd.R_mono (ok' := fun k_ => some k_ ≠ (.slice Ao36 t545.length co36 : Value).ownBlock) (Kd.R_keptB (HO_6.out) hkp (fun k_ hk_ hs_ => (hk_) hs_)) (fun k_ hk_ => hk_.1)); have n1_ := Aside0.mk (Kd.R_reok rfl hy0 (fun k_ e_ => HO_9.out.1 k_ e_)); have n2_ := Aside0.mk (hb); clear HO_6; clear HO_9; clear HB; have HO_6 := n0_; have HO_9 := n1_; have HB := n2_; clear n0_ n1_ n2_; (try clear hb); (try clear hkp); (try clear hy0)) | ((with_reducible refine gate_callee (f := 36) rfl ?_); refine goesL_ (some 69) rfl rfl Try.func36 (by kernel_rfl) rfl #[.slice Ao36 t563.length co36, .int .i64 1] rfl (by (try simp only [List.map_toArray, List.map_cons, List.map_nil]); first | done | (rw [show t563.length = t545.length from (Kd.R_reads' HO_9.out).1.symm] <;> rfl) | rfl | (simp only [List.length_drop, List.length_take]; rfl)) ?_; (with_reducible refine (laws_heldStringS.calls kj23 _ _ t563 1 t564 _ ?side1 ?side2 A49.out).mono ?_); (case side1 => repeat (first | exact (Kd.R_reads' HO_9.out).2.2 | (with_reducible refine Kd.C_alloc ?_ _) | (with_reducible refine Kd.C_drewN ?_ _) | (with_reducible refine Kd.C_drew ?_))); (case side2 => rw [show t563.length = t545.length from (Kd.R_reads' HO_9.out).1.symm]; exact (Kd.R_reads' HO_9.out).2.1); rintro e w72 ⟨rfl, hb⟩; refine ⟨_, rfl, ?_⟩; have n0_ := Aside0.mk (Kd.R_below (ro HO_6) hb); have n1_ := Aside0.mk (Kd.R_below (ro HO_9) hb); have n2_ := Aside0.mk (below_step bl hb); clear HO_6; clear HO_9; clear HB; have HO_6 := n0_; have HO_9 := n1_; have HB := n2_; clear n0_ n1_ n2_; (try clear hb); (try clear hb2); (try clear hk); (try clear hi)) | ((with_reducible refine gate_callee (f := 57) rfl ?_); refine goesL_ (some 76) rfl rfl Try.func57 (by kernel_rfl) rfl #[.slice A0 l0.length c0] rfl ma ?_; (with_reducible refine (laws_toStringS.calls kj23 _ _ l0 t565 _ ?side1 ?side2 A54.out).mono ?_); (case side1 => repeat (first | exact (Kd.C_below HR0.out HB.out) | (with_reducible refine Kd.C_alloc ?_ _) | (with_reducible refine Kd.C_drewN ?_ _) | (with_reducible refine Kd.C_drew ?_))); (case side2 => exact HC0.out); rintro e w73 ⟨v566, rfl, ho0, hb⟩; refine ⟨_, rfl, ?_⟩; have n0_ := Aside0.mk (Kd.R_elder' (ro HO_6) (Kd.R_base ho0) hb); have n1_ := Aside0.mk (Kd.R_elder' (ro HO_9) (Kd.R_base ho0) hb); have n2_ := Aside0.mk (Kd.R_lower (Kd.R_new' (Kd.R_new' ho0 (Kd.R_lt (ro HO_6))) (Kd.R_lt (ro HO_9))) (below_size bl)); have n3_ := Aside0.mk (below_step bl hb); clear HO_6; clear HO_9; clear HB; have HO_6 := n0_; have HO_9 := n1_; have HO567 := n2_; have HB := n3_; clear n0_ n1_ n2_ n3_; (try clear hb); (try clear hb2); (try clear hk); (try clear hi); (try clear ho0)) | ((with_reducible refine gate_callee (f := 24) rfl ?_); refine goesL_ (some 78) rfl rfl Try.func24 (by kernel_rfl) rfl #[.slice A1 l1.length c1] rfl ma ?_; (with_reducible refine (laws_toFieldS.calls kj23 _ _ l1 t568 _ ?side1 ?side2 A55.out).mono ?_); (case side1 => repeat (first | exact (Kd.C_below HR1.out HB.out) | (with_reducible refine Kd.C_alloc ?_ _) | (with_reducible refine Kd.C_drewN ?_ _) | (with_reducible refine Kd.C_drew ?_))); (case side2 => exact HC1.out); rintro e w74 ⟨v569, rfl, ho0, hb⟩; refine ⟨_, rfl, ?_⟩; have n0_ := Aside0.mk (Kd.R_below (ro HO_6) hb); have n1_ := Aside0.mk (Kd.R_below (ro HO_9) hb); have n2_ := Aside0.mk (Kd.R_below (ro HO567) hb); have n3_ := Aside0.mk (Kd.R_lower ho0 (below_size bl)); have n4_ := Aside0.mk (below_step bl hb); clear HO_6; clear HO_9; clear HO567; clear HB; have HO_6 := n0_; have HO_9 := n1_; have HO567 := n2_; have HO570 := n3_; have HB := n4_; clear n0_ n1_ n2_ n3_ n4_; (try clear hb); (try clear hb2); (try clear hk); (try clear hi); (try clear ho0); obtain ⟨Ao75, co75, eo75⟩ := Kd.R_slice HO567.out; subst eo75; obtain ⟨Ao76, co76, eo76⟩ := Kd.R_slice HO570.out; subst eo76) | ((with_reducible refine gate_callee (f := 58) rfl ?_); refine goesL_ (some 79) rfl rfl Try.func58 (by kernel_rfl) rfl #[.slice Ao75 t565.length co75, .slice Ao76 t568.length co76] rfl ma ?_; (with_reducible refine (impl_ValuesOf.calls kj23 _ _ t565 _ _ t568 t571 _ ?side1 ?side2 ?side3 ?side4 A56.out).mono ?_); (case side1 => repeat (first | exact (Kd.R_reads' HO567.out).2.2 | (with_reducible refine Kd.C_alloc ?_ _) | (with_reducible refine Kd.C_drewN ?_ _) | (with_reducible refine Kd.C_drew ?_))); (case side2 => exact (Kd.R_reads' HO567.out).2.1); (case side3 => repeat (first | exact (Kd.R_reads' HO570.out).2.2 | (with_reducible refine Kd.C_alloc ?_ _) | (with_reducible refine Kd.C_drewN ?_ _) | (with_reducible refine Kd.C_drew ?_))); (case side4 => exact (Kd.R_reads' HO570.out).2.1); rintro e w77 ⟨v572, rfl, ho0, hb⟩; refine ⟨_, rfl, ?_⟩; have n0_ := Aside0.mk (Kd.R_elder' (ro HO_6) (Kd.R_base ho0) hb); have n1_ := Aside0.mk (Kd.R_elder' (ro HO_9) (Kd.R_base ho0) hb); have n2_ := Aside0.mk (Kd.R_elder' (ro HO567) (Kd.R_base ho0) hb); have n3_ := Aside0.mk (Kd.R_below (ro HO570) hb); have n4_ := Aside0.mk (Kd.R_lower (Kd.R_new' (Kd.R_new' (Kd.R_new' ho0 (Kd.R_lt (ro HO_6))) (Kd.R_lt (ro HO_9))) (Kd.R_lt (ro HO567))) (below_size bl)); have n5_ := Aside0.mk (below_step bl hb); clear HO_6; clear HO_9; clear HO567; clear HO570; clear HB; have HO_6 := n0_; have HO_9 := n1_; have HO567 := n2_; have HO570 := n3_; have HO573 := n4_; have HB := n5_; clear n0_ n1_ n2_ n3_ n4_ n5_; (try clear hb); (try clear hb2); (try clear hk); (try clear hi); (try clear ho0); obtain ⟨Ao78, co78, eo78⟩ := Kd.R_slice HO573.out; subst eo78) | ((with_reducible refine gate_callee (f := 32) rfl ?_); refine goesL_ (some 82) rfl rfl Try.func32 (by kernel_rfl) rfl #[.slice Ao78 t571.length co78, .slice Ao37 t536.length co37] rfl ma ?_; (with_reducible refine (laws_eqStringS.calls kj23 _ _ t571 _ _ t536 true _ ?side1 ?side2 ?side3 ?side4 A57.out).mono ?_); (case side1 => repeat (first | exact (Kd.R_reads' HO573.out).2.2 | (with_reducible refine Kd.C_alloc ?_ _) | (with_reducible refine Kd.C_drewN ?_ _) | (with_reducible refine Kd.C_drew ?_))); (case side2 => exact (Kd.R_reads' HO573.out).2.1); (case side3 => repeat (first | exact (Kd.R_reads' HO_6.out).2.2 | (with_reducible refine Kd.C_alloc ?_ _) | (with_reducible refine Kd.C_drewN ?_ _) | (with_reducible refine Kd.C_drew ?_))); (case side4 => exact (Kd.R_reads' HO_6.out).2.1); rintro e w' ⟨rfl, ⟨nd, rfl⟩⟩; refine ⟨_, rfl, ?_⟩) | ((with_reducible refine gate_callee (f := 36) rfl ?_); refine goesL_ (some 86) rfl rfl Try.func36 (by kernel_rfl) rfl #[.slice Ao36 t563.length co36, .int .i64 1] rfl (by (try simp only [List.map_toArray, List.map_cons, List.map_nil]); first | done | (rw [show t563.length = t545.length from (Kd.R_reads' HO_9.out).1.symm] <;> rfl) | rfl | (simp only [List.length_drop, List.length_take]; rfl)) ?_; (with_reducible refine (laws_heldStringS.calls kj23 _ _ t563 1 t575 _ ?side1 ?side2 A59.out).mono ?_); (case side1 => repeat (first | exact (Kd.R_reads' HO_9.out).2.2 | (with_reducible refine Kd.C_alloc ?_ _) | (with_reducible refine Kd.C_drewN ?_ _) | (with_reducible refine Kd.C_drew ?_))); (case side2 => rw [show t563.length = t545.length from (Kd.R_reads' HO_9.out).1.symm]; exact (Kd.R_reads' HO_9.out).2.1); rintro e w79 ⟨rfl, hb⟩; refine ⟨_, rfl, ?_⟩; have n0_ := Aside0.mk (Kd.R_below (ro HO_6) hb); have n1_ := Aside0.mk (Kd.R_below (ro HO_9) hb); have n2_ := Aside0.mk (Kd.R_below (ro HO567) hb); have n3_ := Aside0.mk (Kd.R_below (ro HO570) hb); have n4_ := Aside0.mk (Kd.R_below (ro HO573) hb); have n5_ := Aside0.mk (below_step bl hb); clear HO_6; clear HO_9; clear HO567; clear HO570; clear HO573; clear HB; have HO_6 := n0_; have HO_9 := n1_; have HO567 := n2_; have HO570 := n3_; have HO573 := n4_; have HB := n5_; clear n0_ n1_ n2_ n3_ n4_ n5_; (try clear hb); (try clear hb2); (try clear hk); (try clear hi)))
                            go_ret
                            exact ⟨rf, bl⟩
                          · rw [if_neg c70] at H
                            have c70b0 : (t575 == t562) = false := beq_eq_false_iff_ne.mpr c70
                            have c70b1 : (t575 != t562) = true := bne_iff_ne.mpr c70
                            obtain rfl := Option.some.inj H
                            go_wp2_with (first | ((with_reducible refine gate_callee (f := 35) rfl ?_); refine goesL_ (some 66) rfl rfl Try.func35 (by kernel_rfl) rfl #[.slice Ao36 t545.length co36, .int .i64 1] rfl ma ?_; (with_reducible refine (laws_markStringS.calls kj23 (fun k_ => some k_ = (.slice Ao36 t545.length co36 : Value).ownBlock) (.slice Ao36 t545.length co36) t545 1 t562 t563 w _ ?side1 ?side2 A48.out).mono ?_); (case side1 => repeat (first | (with_reducible first | exact HB.out | apply below_alloc | apply pw_below_drewN | apply below_drew1) | exact HB.out)); (case side2 => exact Kd.R_tight rfl HO_9.out); rintro e w80 ⟨rfl, hy0, hb, hkp⟩; refine ⟨_, rfl, ?_⟩; have n0_ := Aside0.mk (Kd.R_mono (ok' := fun k_ => some k_ ≠ (.slice Ao36 t545.length co36 : Value).ownBlock) (Kd.R_keptB (HO_6.out) hkp (fun k_ hk_ hs_ => (hk_) hs_)) (fun k_ hk_ => hk_.1)); have n1_ := Aside0.mk (Kd.R_reok rfl hy0 (fun k_ e_ => HO_9.out.1 k_ e_)); have n2_ := Aside0.mk (hb); clear HO_6; clear HO_9; clear HB; have HO_6 := n0_; have HO_9 := n1_; have HB := n2_; clear n0_ n1_ n2_; (try clear hb); (try clear hkp); (try clear hy0)) | ((with_reducible refine gate_callee (f := 36) rfl ?_); refine goesL_ (some 69) rfl rfl Try.func36 (by kernel_rfl) rfl #[.slice Ao36 t563.length co36, .int .i64 1] rfl (by (try simp only [List.map_toArray, List.map_cons, List.map_nil]); first | done | (rw [show t563.length = t545.length from (Kd.R_reads' HO_9.out).1.symm] <;> rfl) | rfl | (simp only [List.length_drop, List.length_take]; rfl)) ?_; (with_reducible refine (laws_heldStringS.calls kj23 _ _ t563 1 t564 _ ?side1 ?side2 A49.out).mono ?_); (case side1 => repeat (first | exact (Kd.R_reads' HO_9.out).2.2 | (with_reducible refine Kd.C_alloc ?_ _) | (with_reducible refine Kd.C_drewN ?_ _) | (with_reducible refine Kd.C_drew ?_))); (case side2 => rw [show t563.length = t545.length from (Kd.R_reads' HO_9.out).1.symm]; exact (Kd.R_reads' HO_9.out).2.1); rintro e w81 ⟨rfl, hb⟩; refine ⟨_, rfl, ?_⟩; have n0_ := Aside0.mk (Kd.R_below (ro HO_6) hb); have n1_ := Aside0.mk (Kd.R_below (ro HO_9) hb); have n2_ := Aside0.mk (below_step bl hb); clear HO_6; clear HO_9; clear HB; have HO_6 := n0_; have HO_9 := n1_; have HB := n2_; clear n0_ n1_ n2_; (try clear hb); (try clear hb2); (try clear hk); (try clear hi)) | ((with_reducible refine gate_callee (f := 57) rfl ?_); refine goesL_ (some 76) rfl rfl Try.func57 (by kernel_rfl) rfl #[.slice A0 l0.length c0] rfl ma ?_; (with_reducible refine (laws_toStringS.calls kj23 _ _ l0 t565 _ ?side1 ?side2 A54.out).mono ?_); (case side1 => repeat (first | exact (Kd.C_below HR0.out HB.out) | (with_reducible refine Kd.C_alloc ?_ _) | (with_reducible refine Kd.C_drewN ?_ _) | (with_reducible refine Kd.C_drew ?_))); (case side2 => exact HC0.out); rintro e w82 ⟨v566, rfl, ho0, hb⟩; refine ⟨_, rfl, ?_⟩; have n0_ := Aside0.mk (Kd.R_elder' (ro HO_6) (Kd.R_base ho0) hb); have n1_ := Aside0.mk (Kd.R_elder' (ro HO_9) (Kd.R_base ho0) hb); have n2_ := Aside0.mk (Kd.R_lower (Kd.R_new' (Kd.R_new' ho0 (Kd.R_lt (ro HO_6))) (Kd.R_lt (ro HO_9))) (below_size bl)); have n3_ := Aside0.mk (below_step bl hb); clear HO_6; clear HO_9; clear HB; have HO_6 := n0_; have HO_9 := n1_; have HO567 := n2_; have HB := n3_; clear n0_ n1_ n2_ n3_; (try clear hb); (try clear hb2); (try clear hk); (try clear hi); (try clear ho0)) | ((with_reducible refine gate_callee (f := 24) rfl ?_); refine goesL_ (some 78) rfl rfl Try.func24 (by kernel_rfl) rfl #[.slice A1 l1.length c1] rfl ma ?_; (with_reducible refine (laws_toFieldS.calls kj23 _ _ l1 t568 _ ?side1 ?side2 A55.out).mono ?_); (case side1 => repeat (first | exact (Kd.C_below HR1.out HB.out) | (with_reducible refine Kd.C_alloc ?_ _) | (with_reducible refine Kd.C_drewN ?_ _) | (with_reducible refine Kd.C_drew ?_))); (case side2 => exact HC1.out); rintro e w83 ⟨v569, rfl, ho0, hb⟩; refine ⟨_, rfl, ?_⟩; have n0_ := Aside0.mk (Kd.R_below (ro HO_6) hb); have n1_ := Aside0.mk (Kd.R_below (ro HO_9) hb); have n2_ := Aside0.mk (Kd.R_below (ro HO567) hb); have n3_ := Aside0.mk (Kd.R_lower ho0 (below_size bl)); have n4_ := Aside0.mk (below_step bl hb); clear HO_6; clear HO_9; clear HO567; clear HB; have HO_6 := n0_; have HO_9 := n1_; have HO567 := n2_; have HO570 := n3_; have HB := n4_; clear n0_ n1_ n2_ n3_ n4_; (try clear hb); (try clear hb2); (try clear hk); (try clear hi); (try clear ho0); obtain ⟨Ao84, co84, eo84⟩ := Kd.R_slice HO567.out; subst eo84; obtain ⟨Ao85, co85, eo85⟩ := Kd.R_slice HO570.out; subst eo85) | ((with_reducible refine gate_callee (f := 58) rfl ?_); refine goesL_ (some 79) rfl rfl Try.func58 (by kernel_rfl) rfl #[.slice Ao84 t565.length co84, .slice Ao85 t568.length co85] rfl ma ?_; (with_reducible refine (impl_ValuesOf.calls kj23 _ _ t565 _ _ t568 t571 _ ?side1 ?side2 ?side3 ?side4 A56.out).mono ?_); (case side1 => repeat (first | exact (Kd.R_reads' HO567.out).2.2 | (with_reducible refine Kd.C_alloc ?_ _) | (with_reducible refine Kd.C_drewN ?_ _) | (with_reducible refine Kd.C_drew ?_))); (case side2 => exact (Kd.R_reads' HO567.out).2.1); (case side3 => repeat (first | exact (Kd.R_reads' HO570.out).2.2 | (with_reducible refine Kd.C_alloc ?_ _) | (with_reducible refine Kd.C_drewN ?_ _) | (with_reducible refine Kd.C_drew ?_))); (case side4 => exact (Kd.R_reads' HO570.out).2.1); rintro e w86 ⟨v572, rfl, ho0, hb⟩; refine ⟨_, rfl, ?_⟩; have n0_ := Aside0.mk (Kd.R_elder' (ro HO_6) (Kd.R_base ho0) hb); have n1_ := Aside0.mk (Kd.R_elder' (ro HO_9) (Kd.R_base ho0) hb); have n2_ := Aside0.mk (Kd.R_elder' (ro HO567) (Kd.R_base ho0) hb); have n3_ := Aside0.mk (Kd.R_below (ro HO570) hb); have n4_ := Aside0.mk (Kd.R_lower (Kd.R_new' (Kd.R_new' (Kd.R_new' ho0 (Kd.R_lt (ro HO_6))) (Kd.R_lt (ro HO_9))) (Kd.R_lt (ro HO567))) (below_size bl)); have n5_ := Aside0.mk (below_step bl hb); clear HO_6; clear HO_9; clear HO567; clear HO570; clear HB; have HO_6 := n0_; have HO_9 := n1_; have HO567 := n2_; have HO570 := n3_; have HO573 := n4_; have HB := n5_; clear n0_ n1_ n2_ n3_ n4_ n5_; (try clear hb); (try clear hb2); (try clear hk); (try clear hi); (try clear ho0); obtain ⟨Ao87, co87, eo87⟩ := Kd.R_slice HO573.out; subst eo87) | ((with_reducible refine gate_callee (f := 32) rfl ?_); refine goesL_ (some 82) rfl rfl Try.func32 (by kernel_rfl) rfl #[.slice Ao87 t571.length co87, .slice Ao37 t536.length co37] rfl ma ?_; (with_reducible refine (laws_eqStringS.calls kj23 _ _ t571 _ _ t536 true _ ?side1 ?side2 ?side3 ?side4 A57.out).mono ?_); (case side1 => repeat (first | exact (Kd.R_reads' HO573.out).2.2 | (with_reducible refine Kd.C_alloc ?_ _) | (with_reducible refine Kd.C_drewN ?_ _) | (with_reducible refine Kd.C_drew ?_))); (case side2 => exact (Kd.R_reads' HO573.out).2.1); (case side3 => repeat (first | exact (Kd.R_reads' HO_6.out).2.2 | (with_reducible refine Kd.C_alloc ?_ _) | (with_reducible refine Kd.C_drewN ?_ _) | (with_reducible refine Kd.C_drew ?_))); (case side4 => exact (Kd.R_reads' HO_6.out).2.1); rintro e w' ⟨rfl, ⟨nd, rfl⟩⟩; refine ⟨_, rfl, ?_⟩) | ((with_reducible refine gate_callee (f := 36) rfl ?_); refine goesL_ (some 86) rfl rfl Try.func36 (by kernel_rfl) rfl #[.slice Ao36 t563.length co36, .int .i64 1] rfl (by (try simp only [List.map_toArray, List.map_cons, List.map_nil]); first | done | (rw [show t563.length = t545.length from (Kd.R_reads' HO_9.out).1.symm] <;> rfl) | rfl | (simp only [List.length_drop, List.length_take]; rfl)) ?_; (with_reducible refine (laws_heldStringS.calls kj23 _ _ t563 1 t575 _ ?side1 ?side2 A59.out).mono ?_); (case side1 => repeat (first | exact (Kd.R_reads' HO_9.out).2.2 | (with_reducible refine Kd.C_alloc ?_ _) | (with_reducible refine Kd.C_drewN ?_ _) | (with_reducible refine Kd.C_drew ?_))); (case side2 => rw [show t563.length = t545.length from (Kd.R_reads' HO_9.out).1.symm]; exact (Kd.R_reads' HO_9.out).2.1); rintro e w88 ⟨rfl, hb⟩; refine ⟨_, rfl, ?_⟩; have n0_ := Aside0.mk (Kd.R_below (ro HO_6) hb); have n1_ := Aside0.mk (Kd.R_below (ro HO_9) hb); have n2_ := Aside0.mk (Kd.R_below (ro HO567) hb); have n3_ := Aside0.mk (Kd.R_below (ro HO570) hb); have n4_ := Aside0.mk (Kd.R_below (ro HO573) hb); have n5_ := Aside0.mk (below_step bl hb); clear HO_6; clear HO_9; clear HO567; clear HO570; clear HO573; clear HB; have HO_6 := n0_; have HO_9 := n1_; have HO567 := n2_; have HO570 := n3_; have HO573 := n4_; have HB := n5_; clear n0_ n1_ n2_ n3_ n4_ n5_; (try clear hb); (try clear hb2); (try clear hk); (try clear hi)))
                            go_ret
                            exact ⟨rf, bl⟩
                      · replace c58 := Bool.eq_false_iff.mpr c58
                        subst c58
                        have H1 : (some false) = some r := by rw [if_neg (show ¬ (false = true) by decide)] at H; exact H
                        clear H
                        have H := H1
                        clear H1
                        obtain rfl := Option.some.inj H
                        go_wp2_with (first | ((with_reducible refine gate_callee (f := 35) rfl ?_); refine goesL_ (some 66) rfl rfl Try.func35 (by kernel_rfl) rfl #[.slice Ao36 t545.length co36, .int .i64 1] rfl ma ?_; (with_reducible refine (laws_markStringS.calls kj23 (fun k_ => some k_ = (.slice Ao36 t545.length co36 : Value).ownBlock) (.slice Ao36 t545.length co36) t545 1 t562 t563 w _ ?side1 ?side2 A48.out).mono ?_); (case side1 => repeat (first | (with_reducible first | exact HB.out | apply below_alloc | apply pw_below_drewN | apply below_drew1) | exact HB.out)); (case side2 => exact Kd.R_tight rfl HO_9.out); rintro e w89 ⟨rfl, hy0, hb, hkp⟩; refine ⟨_, rfl, ?_⟩; have n0_ := Aside0.mk (Kd.R_mono (ok' := fun k_ => some k_ ≠ (.slice Ao36 t545.length co36 : Value).ownBlock) (Kd.R_keptB (HO_6.out) hkp (fun k_ hk_ hs_ => (hk_) hs_)) (fun k_ hk_ => hk_.1)); have n1_ := Aside0.mk (Kd.R_reok rfl hy0 (fun k_ e_ => HO_9.out.1 k_ e_)); have n2_ := Aside0.mk (hb); clear HO_6; clear HO_9; clear HB; have HO_6 := n0_; have HO_9 := n1_; have HB := n2_; clear n0_ n1_ n2_; (try clear hb); (try clear hkp); (try clear hy0)) | ((with_reducible refine gate_callee (f := 36) rfl ?_); refine goesL_ (some 69) rfl rfl Try.func36 (by kernel_rfl) rfl #[.slice Ao36 t563.length co36, .int .i64 1] rfl (by (try simp only [List.map_toArray, List.map_cons, List.map_nil]); first | done | (rw [show t563.length = t545.length from (Kd.R_reads' HO_9.out).1.symm] <;> rfl) | rfl | (simp only [List.length_drop, List.length_take]; rfl)) ?_; (with_reducible refine (laws_heldStringS.calls kj23 _ _ t563 1 t564 _ ?side1 ?side2 A49.out).mono ?_); (case side1 => repeat (first | exact (Kd.R_reads' HO_9.out).2.2 | (with_reducible refine Kd.C_alloc ?_ _) | (with_reducible refine Kd.C_drewN ?_ _) | (with_reducible refine Kd.C_drew ?_))); (case side2 => rw [show t563.length = t545.length from (Kd.R_reads' HO_9.out).1.symm]; exact (Kd.R_reads' HO_9.out).2.1); rintro e w90 ⟨rfl, hb⟩; refine ⟨_, rfl, ?_⟩; have n0_ := Aside0.mk (Kd.R_below (ro HO_6) hb); have n1_ := Aside0.mk (Kd.R_below (ro HO_9) hb); have n2_ := Aside0.mk (below_step bl hb); clear HO_6; clear HO_9; clear HB; have HO_6 := n0_; have HO_9 := n1_; have HB := n2_; clear n0_ n1_ n2_; (try clear hb); (try clear hb2); (try clear hk); (try clear hi)) | ((with_reducible refine gate_callee (f := 57) rfl ?_); refine goesL_ (some 76) rfl rfl Try.func57 (by kernel_rfl) rfl #[.slice A0 l0.length c0] rfl ma ?_; (with_reducible refine (laws_toStringS.calls kj23 _ _ l0 t565 _ ?side1 ?side2 A54.out).mono ?_); (case side1 => repeat (first | exact (Kd.C_below HR0.out HB.out) | (with_reducible refine Kd.C_alloc ?_ _) | (with_reducible refine Kd.C_drewN ?_ _) | (with_reducible refine Kd.C_drew ?_))); (case side2 => exact HC0.out); rintro e w91 ⟨v566, rfl, ho0, hb⟩; refine ⟨_, rfl, ?_⟩; have n0_ := Aside0.mk (Kd.R_elder' (ro HO_6) (Kd.R_base ho0) hb); have n1_ := Aside0.mk (Kd.R_elder' (ro HO_9) (Kd.R_base ho0) hb); have n2_ := Aside0.mk (Kd.R_lower (Kd.R_new' (Kd.R_new' ho0 (Kd.R_lt (ro HO_6))) (Kd.R_lt (ro HO_9))) (below_size bl)); have n3_ := Aside0.mk (below_step bl hb); clear HO_6; clear HO_9; clear HB; have HO_6 := n0_; have HO_9 := n1_; have HO567 := n2_; have HB := n3_; clear n0_ n1_ n2_ n3_; (try clear hb); (try clear hb2); (try clear hk); (try clear hi); (try clear ho0)) | ((with_reducible refine gate_callee (f := 24) rfl ?_); refine goesL_ (some 78) rfl rfl Try.func24 (by kernel_rfl) rfl #[.slice A1 l1.length c1] rfl ma ?_; (with_reducible refine (laws_toFieldS.calls kj23 _ _ l1 t568 _ ?side1 ?side2 A55.out).mono ?_); (case side1 => repeat (first | exact (Kd.C_below HR1.out HB.out) | (with_reducible refine Kd.C_alloc ?_ _) | (with_reducible refine Kd.C_drewN ?_ _) | (with_reducible refine Kd.C_drew ?_))); (case side2 => exact HC1.out); rintro e w92 ⟨v569, rfl, ho0, hb⟩; refine ⟨_, rfl, ?_⟩; have n0_ := Aside0.mk (Kd.R_below (ro HO_6) hb); have n1_ := Aside0.mk (Kd.R_below (ro HO_9) hb); have n2_ := Aside0.mk (Kd.R_below (ro HO567) hb); have n3_ := Aside0.mk (Kd.R_lower ho0 (below_size bl)); have n4_ := Aside0.mk (below_step bl hb); clear HO_6; clear HO_9; clear HO567; clear HB; have HO_6 := n0_; have HO_9 := n1_; have HO567 := n2_; have HO570 := n3_; have HB := n4_; clear n0_ n1_ n2_ n3_ n4_; (try clear hb); (try clear hb2); (try clear hk); (try clear hi); (try clear ho0); obtain ⟨Ao93, co93, eo93⟩ := Kd.R_slice HO567.out; subst eo93; obtain ⟨Ao94, co94, eo94⟩ := Kd.R_slice HO570.out; subst eo94) | ((with_reducible refine gate_callee (f := 58) rfl ?_); refine goesL_ (some 79) rfl rfl Try.func58 (by kernel_rfl) rfl #[.slice Ao93 t565.length co93, .slice Ao94 t568.length co94] rfl ma ?_; (with_reducible refine (impl_ValuesOf.calls kj23 _ _ t565 _ _ t568 t571 _ ?side1 ?side2 ?side3 ?side4 A56.out).mono ?_); (case side1 => repeat (first | exact (Kd.R_reads' HO567.out).2.2 | (with_reducible refine Kd.C_alloc ?_ _) | (with_reducible refine Kd.C_drewN ?_ _) | (with_reducible refine Kd.C_drew ?_))); (case side2 => exact (Kd.R_reads' HO567.out).2.1); (case side3 => repeat (first | exact (Kd.R_reads' HO570.out).2.2 | (with_reducible refine Kd.C_alloc ?_ _) | (with_reducible refine Kd.C_drewN ?_ _) | (with_reducible refine Kd.C_drew ?_))); (case side4 => exact (Kd.R_reads' HO570.out).2.1); rintro e w95 ⟨v572, rfl, ho0, hb⟩; refine ⟨_, rfl, ?_⟩; have n0_ := Aside0.mk (Kd.R_elder' (ro HO_6) (Kd.R_base ho0) hb); have n1_ := Aside0.mk (Kd.R_elder' (ro HO_9) (Kd.R_base ho0) hb); have n2_ := Aside0.mk (Kd.R_elder' (ro HO567) (Kd.R_base ho0) hb); have n3_ := Aside0.mk (Kd.R_below (ro HO570) hb); have n4_ := Aside0.mk (Kd.R_lower (Kd.R_new' (Kd.R_new' (Kd.R_new' ho0 (Kd.R_lt (ro HO_6))) (Kd.R_lt (ro HO_9))) (Kd.R_lt (ro HO567))) (below_size bl)); have n5_ := Aside0.mk (below_step bl hb); clear HO_6; clear HO_9; clear HO567; clear HO570; clear HB; have HO_6 := n0_; have HO_9 := n1_; have HO567 := n2_; have HO570 := n3_; have HO573 := n4_; have HB := n5_; clear n0_ n1_ n2_ n3_ n4_ n5_; (try clear hb); (try clear hb2); (try clear hk); (try clear hi); (try clear ho0); obtain ⟨Ao96, co96, eo96⟩ := Kd.R_slice HO573.out; subst eo96) | ((with_reducible refine gate_callee (f := 32) rfl ?_); refine goesL_ (some 82) rfl rfl Try.func32 (by kernel_rfl) rfl #[.slice Ao96 t571.length co96, .slice Ao37 t536.length co37] rfl ma ?_; (with_reducible refine (laws_eqStringS.calls kj23 _ _ t571 _ _ t536 false _ ?side1 ?side2 ?side3 ?side4 A57.out).mono ?_); (case side1 => repeat (first | exact (Kd.R_reads' HO573.out).2.2 | (with_reducible refine Kd.C_alloc ?_ _) | (with_reducible refine Kd.C_drewN ?_ _) | (with_reducible refine Kd.C_drew ?_))); (case side2 => exact (Kd.R_reads' HO573.out).2.1); (case side3 => repeat (first | exact (Kd.R_reads' HO_6.out).2.2 | (with_reducible refine Kd.C_alloc ?_ _) | (with_reducible refine Kd.C_drewN ?_ _) | (with_reducible refine Kd.C_drew ?_))); (case side4 => exact (Kd.R_reads' HO_6.out).2.1); rintro e w' ⟨rfl, ⟨nd, rfl⟩⟩; refine ⟨_, rfl, ?_⟩))
                        go_ret
                        exact ⟨rf, bl⟩
                    · rw [if_neg c53] at H
                      have c53b0 : (t564 == t562) = false := beq_eq_false_iff_ne.mpr c53
                      have c53b1 : (t564 != t562) = true := bne_iff_ne.mpr c53
                      obtain rfl := Option.some.inj H
                      go_wp2_with (first | ((with_reducible refine gate_callee (f := 35) rfl ?_); refine goesL_ (some 66) rfl rfl Try.func35 (by kernel_rfl) rfl #[.slice Ao36 t545.length co36, .int .i64 1] rfl ma ?_; (with_reducible refine (laws_markStringS.calls kj23 (fun k_ => some k_ = (.slice Ao36 t545.length co36 : Value).ownBlock) (.slice Ao36 t545.length co36) t545 1 t562 t563 w _ ?side1 ?side2 A48.out).mono ?_); (case side1 => repeat (first | (with_reducible first | exact HB.out | apply below_alloc | apply pw_below_drewN | apply below_drew1) | exact HB.out)); (case side2 => exact Kd.R_tight rfl HO_9.out); rintro e w97 ⟨rfl, hy0, hb, hkp⟩; refine ⟨_, rfl, ?_⟩; have n0_ := Aside0.mk (Kd.R_mono (ok' := fun k_ => some k_ ≠ (.slice Ao36 t545.length co36 : Value).ownBlock) (Kd.R_keptB (HO_6.out) hkp (fun k_ hk_ hs_ => (hk_) hs_)) (fun k_ hk_ => hk_.1)); have n1_ := Aside0.mk (Kd.R_reok rfl hy0 (fun k_ e_ => HO_9.out.1 k_ e_)); have n2_ := Aside0.mk (hb); clear HO_6; clear HO_9; clear HB; have HO_6 := n0_; have HO_9 := n1_; have HB := n2_; clear n0_ n1_ n2_; (try clear hb); (try clear hkp); (try clear hy0)) | ((with_reducible refine gate_callee (f := 36) rfl ?_); refine goesL_ (some 69) rfl rfl Try.func36 (by kernel_rfl) rfl #[.slice Ao36 t563.length co36, .int .i64 1] rfl (by (try simp only [List.map_toArray, List.map_cons, List.map_nil]); first | done | (rw [show t563.length = t545.length from (Kd.R_reads' HO_9.out).1.symm] <;> rfl) | rfl | (simp only [List.length_drop, List.length_take]; rfl)) ?_; (with_reducible refine (laws_heldStringS.calls kj23 _ _ t563 1 t564 _ ?side1 ?side2 A49.out).mono ?_); (case side1 => repeat (first | exact (Kd.R_reads' HO_9.out).2.2 | (with_reducible refine Kd.C_alloc ?_ _) | (with_reducible refine Kd.C_drewN ?_ _) | (with_reducible refine Kd.C_drew ?_))); (case side2 => rw [show t563.length = t545.length from (Kd.R_reads' HO_9.out).1.symm]; exact (Kd.R_reads' HO_9.out).2.1); rintro e w98 ⟨rfl, hb⟩; refine ⟨_, rfl, ?_⟩; have n0_ := Aside0.mk (Kd.R_below (ro HO_6) hb); have n1_ := Aside0.mk (Kd.R_below (ro HO_9) hb); have n2_ := Aside0.mk (below_step bl hb); clear HO_6; clear HO_9; clear HB; have HO_6 := n0_; have HO_9 := n1_; have HB := n2_; clear n0_ n1_ n2_; (try clear hb); (try clear hb2); (try clear hk); (try clear hi)))
                      go_ret
                      exact ⟨rf, bl⟩
          · replace c21 := Bool.eq_false_iff.mpr c21
            subst c21
            have H1 : (some false) = some r := by rw [if_neg (show ¬ (false = true) by decide)] at H; exact H
            clear H
            have H := H1
            clear H1
            obtain rfl := Option.some.inj H
            go_enter Try.func14, Try.ntmps14
            go_wp2_with (first | ((with_reducible refine gate_callee (f := 55) rfl ?_); refine goesL_ (some 16) rfl rfl Try.func55 (by kernel_rfl) rfl #[.slice A0 l0.length c0, .int .i64 1048576] rfl ma ?_; (with_reducible refine (laws_szStringS.calls k _ _ l0 1048576 t528 _ ?side1 ?side2 A3.out).mono ?_); (case side1 => repeat (first | exact HR0.out | (with_reducible refine Kd.C_alloc ?_ _) | (with_reducible refine Kd.C_drewN ?_ _) | (with_reducible refine Kd.C_drew ?_))); (case side2 => exact HC0.out); rintro e w' ⟨rfl, ⟨nd, rfl⟩⟩; refine ⟨_, rfl, ?_⟩) | ((with_reducible refine gate_callee (f := 22) rfl ?_); refine goesL_ (some 21) rfl rfl Try.func22 (by kernel_rfl) rfl #[.slice A1 l1.length c1, .int .i64 t528] rfl ma ?_; (with_reducible refine (laws_szFieldS.calls k _ _ l1 t528 t529 _ ?side1 ?side2 A5.out).mono ?_); (case side1 => repeat (first | exact HR1.out | (with_reducible refine Kd.C_alloc ?_ _) | (with_reducible refine Kd.C_drewN ?_ _) | (with_reducible refine Kd.C_drew ?_))); (case side2 => exact HC1.out); rintro e w99 ⟨rfl, hb⟩; refine ⟨_, rfl, ?_⟩; have n0_ := Aside0.mk (below_step bl hb); clear HB; have HB := n0_; clear n0_; (try clear hb); (try clear hb2); (try clear hk); (try clear hi)) | ((with_reducible refine gate_callee (f := 57) rfl ?_); refine goesL_ (some 25) rfl rfl Try.func57 (by kernel_rfl) rfl #[.slice A0 l0.length c0] rfl ma ?_; (with_reducible refine (laws_toStringS.calls k _ _ l0 t530 _ ?side1 ?side2 A8.out).mono ?_); (case side1 => repeat (first | exact (Kd.C_below HR0.out HB.out) | (with_reducible refine Kd.C_alloc ?_ _) | (with_reducible refine Kd.C_drewN ?_ _) | (with_reducible refine Kd.C_drew ?_))); (case side2 => exact HC0.out); rintro e w100 ⟨v531, rfl, ho0, hb⟩; refine ⟨_, rfl, ?_⟩; have n0_ := Aside0.mk (Kd.R_lower ho0 (below_size bl)); have n1_ := Aside0.mk (below_step bl hb); clear HB; have HO532 := n0_; have HB := n1_; clear n0_ n1_; (try clear hb); (try clear hb2); (try clear hk); (try clear hi); (try clear ho0)) | ((with_reducible refine gate_callee (f := 24) rfl ?_); refine goesL_ (some 27) rfl rfl Try.func24 (by kernel_rfl) rfl #[.slice A1 l1.length c1] rfl ma ?_; (with_reducible refine (laws_toFieldS.calls k _ _ l1 t533 _ ?side1 ?side2 A9.out).mono ?_); (case side1 => repeat (first | exact (Kd.C_below HR1.out HB.out) | (with_reducible refine Kd.C_alloc ?_ _) | (with_reducible refine Kd.C_drewN ?_ _) | (with_reducible refine Kd.C_drew ?_))); (case side2 => exact HC1.out); rintro e w101 ⟨v534, rfl, ho0, hb⟩; refine ⟨_, rfl, ?_⟩; have n0_ := Aside0.mk (Kd.R_below (ro HO532) hb); have n1_ := Aside0.mk (Kd.R_lower ho0 (below_size bl)); have n2_ := Aside0.mk (below_step bl hb); clear HO532; clear HB; have HO532 := n0_; have HO535 := n1_; have HB := n2_; clear n0_ n1_ n2_; (try clear hb); (try clear hb2); (try clear hk); (try clear hi); (try clear ho0); obtain ⟨Ao102, co102, eo102⟩ := Kd.R_slice HO532.out; subst eo102; obtain ⟨Ao103, co103, eo103⟩ := Kd.R_slice HO535.out; subst eo103) | ((with_reducible refine gate_callee (f := 56) rfl ?_); refine goesL_ (some 28) rfl rfl Try.func56 (by kernel_rfl) rfl #[.slice Ao102 t530.length co102, .slice Ao103 t533.length co103] rfl ma ?_; (with_reducible refine (spec_ValuesOf.calls k _ _ t530 _ _ t533 t536 _ ?side1 ?side2 ?side3 ?side4 A10.out).mono ?_); (case side1 => repeat (first | exact (Kd.R_reads' HO532.out).2.2 | (with_reducible refine Kd.C_alloc ?_ _) | (with_reducible refine Kd.C_drewN ?_ _) | (with_reducible refine Kd.C_drew ?_))); (case side2 => exact (Kd.R_reads' HO532.out).2.1); (case side3 => repeat (first | exact (Kd.R_reads' HO535.out).2.2 | (with_reducible refine Kd.C_alloc ?_ _) | (with_reducible refine Kd.C_drewN ?_ _) | (with_reducible refine Kd.C_drew ?_))); (case side4 => exact (Kd.R_reads' HO535.out).2.1); rintro e w104 ⟨v537, rfl, ho0, hb⟩; refine ⟨_, rfl, ?_⟩; have n0_ := Aside0.mk (Kd.R_elder' (ro HO532) (Kd.R_base ho0) hb); have n1_ := Aside0.mk (Kd.R_below (ro HO535) hb); have n2_ := Aside0.mk (Kd.R_lower (Kd.R_new' ho0 (Kd.R_lt (ro HO532))) (below_size bl)); have n3_ := Aside0.mk (below_step bl hb); clear HO532; clear HO535; clear HB; have HO532 := n0_; have HO535 := n1_; have HO538 := n2_; have HB := n3_; clear n0_ n1_ n2_ n3_; (try clear hb); (try clear hb2); (try clear hk); (try clear hi); (try clear ho0)) | ((with_reducible refine gate_callee (f := 57) rfl ?_); refine goesL_ (some 30) rfl rfl Try.func57 (by kernel_rfl) rfl #[.slice A0 l0.length c0] rfl ma ?_; (with_reducible refine (laws_toStringS.calls k _ _ l0 t539 _ ?side1 ?side2 A11.out).mono ?_); (case side1 => repeat (first | exact (Kd.C_below HR0.out HB.out) | (with_reducible refine Kd.C_alloc ?_ _) | (with_reducible refine Kd.C_drewN ?_ _) | (with_reducible refine Kd.C_drew ?_))); (case side2 => exact HC0.out); rintro e w105 ⟨v540, rfl, ho0, hb⟩; refine ⟨_, rfl, ?_⟩; have n0_ := Aside0.mk (Kd.R_elder' (ro HO532) (Kd.R_base ho0) hb); have n1_ := Aside0.mk (Kd.R_below (ro HO535) hb); have n2_ := Aside0.mk (Kd.R_elder' (ro HO538) (Kd.R_base ho0) hb); have n3_ := Aside0.mk (Kd.R_lower (Kd.R_new' (Kd.R_new' ho0 (Kd.R_lt (ro HO532))) (Kd.R_lt (ro HO538))) (below_size bl)); have n4_ := Aside0.mk (below_step bl hb); clear HO532; clear HO535; clear HO538; clear HB; have HO532 := n0_; have HO535 := n1_; have HO538 := n2_; have HO541 := n3_; have HB := n4_; clear n0_ n1_ n2_ n3_ n4_; (try clear hb); (try clear hb2); (try clear hk); (try clear hi); (try clear ho0)) | ((with_reducible refine gate_callee (f := 24) rfl ?_); refine goesL_ (some 32) rfl rfl Try.func24 (by kernel_rfl) rfl #[.slice A1 l1.length c1] rfl ma ?_; (with_reducible refine (laws_toFieldS.calls k _ _ l1 t542 _ ?side1 ?side2 A12.out).mono ?_); (case side1 => repeat (first | exact (Kd.C_below HR1.out HB.out) | (with_reducible refine Kd.C_alloc ?_ _) | (with_reducible refine Kd.C_drewN ?_ _) | (with_reducible refine Kd.C_drew ?_))); (case side2 => exact HC1.out); rintro e w106 ⟨v543, rfl, ho0, hb⟩; refine ⟨_, rfl, ?_⟩; have n0_ := Aside0.mk (Kd.R_below (ro HO532) hb); have n1_ := Aside0.mk (Kd.R_elder' (ro HO535) (Kd.R_base ho0) hb); have n2_ := Aside0.mk (Kd.R_below (ro HO538) hb); have n3_ := Aside0.mk (Kd.R_below (ro HO541) hb); have n4_ := Aside0.mk (Kd.R_lower (Kd.R_new' ho0 (Kd.R_lt (ro HO535))) (below_size bl)); have n5_ := Aside0.mk (below_step bl hb); clear HO532; clear HO535; clear HO538; clear HO541; clear HB; have HO532 := n0_; have HO535 := n1_; have HO538 := n2_; have HO541 := n3_; have HO544 := n4_; have HB := n5_; clear n0_ n1_ n2_ n3_ n4_ n5_; (try clear hb); (try clear hb2); (try clear hk); (try clear hi); (try clear ho0); obtain ⟨Ao107, co107, eo107⟩ := Kd.R_slice HO541.out; subst eo107; obtain ⟨Ao108, co108, eo108⟩ := Kd.R_slice HO544.out; subst eo108) | ((with_reducible refine gate_callee (f := 58) rfl ?_); refine goesL_ (some 35) rfl rfl Try.func58 (by kernel_rfl) rfl #[.slice Ao107 t539.length co107, .slice Ao108 t542.length co108] rfl ma ?_; (with_reducible refine (impl_ValuesOf.calls k _ _ t539 _ _ t542 t545 _ ?side1 ?side2 ?side3 ?side4 A13.out).mono ?_); (case side1 => repeat (first | exact (Kd.R_reads' HO541.out).2.2 | (with_reducible refine Kd.C_alloc ?_ _) | (with_reducible refine Kd.C_drewN ?_ _) | (with_reducible refine Kd.C_drew ?_))); (case side2 => exact (Kd.R_reads' HO541.out).2.1); (case side3 => repeat (first | exact (Kd.R_reads' HO544.out).2.2 | (with_reducible refine Kd.C_alloc ?_ _) | (with_reducible refine Kd.C_drewN ?_ _) | (with_reducible refine Kd.C_drew ?_))); (case side4 => exact (Kd.R_reads' HO544.out).2.1); rintro e w109 ⟨v546, rfl, ho0, hb⟩; refine ⟨_, rfl, ?_⟩; have n0_ := Aside0.mk (Kd.R_elder' (ro HO532) (Kd.R_base ho0) hb); have n1_ := Aside0.mk (Kd.R_below (ro HO535) hb); have n2_ := Aside0.mk (Kd.R_elder' (ro HO538) (Kd.R_base ho0) hb); have n3_ := Aside0.mk (Kd.R_elder' (ro HO541) (Kd.R_base ho0) hb); have n4_ := Aside0.mk (Kd.R_below (ro HO544) hb); have n5_ := Aside0.mk (Kd.R_lower (Kd.R_new' (Kd.R_new' (Kd.R_new' ho0 (Kd.R_lt (ro HO532))) (Kd.R_lt (ro HO538))) (Kd.R_lt (ro HO541))) (below_size bl)); have n6_ := Aside0.mk (below_step bl hb); clear HO532; clear HO535; clear HO538; clear HO541; clear HO544; clear HB; have HO532 := n0_; have HO535 := n1_; have HO538 := n2_; have HO541 := n3_; have HO544 := n4_; have HO547 := n5_; have HB := n6_; clear n0_ n1_ n2_ n3_ n4_ n5_ n6_; (try clear hb); (try clear hb2); (try clear hk); (try clear hi); (try clear ho0); obtain ⟨Ao110, co110, eo110⟩ := Kd.R_slice HO547.out; subst eo110; obtain ⟨Ao111, co111, eo111⟩ := Kd.R_slice HO538.out; subst eo111) | ((with_reducible refine gate_callee (f := 32) rfl ?_); refine goesL_ (some 38) rfl rfl Try.func32 (by kernel_rfl) rfl #[.slice Ao110 t545.length co110, .slice Ao111 t536.length co111] rfl ma ?_; (with_reducible refine (laws_eqStringS.calls k _ _ t545 _ _ t536 true _ ?side1 ?side2 ?side3 ?side4 A14.out).mono ?_); (case side1 => repeat (first | exact (Kd.R_reads' HO547.out).2.2 | (with_reducible refine Kd.C_alloc ?_ _) | (with_reducible refine Kd.C_drewN ?_ _) | (with_reducible refine Kd.C_drew ?_))); (case side2 => exact (Kd.R_reads' HO547.out).2.1); (case side3 => repeat (first | exact (Kd.R_reads' HO538.out).2.2 | (with_reducible refine Kd.C_alloc ?_ _) | (with_reducible refine Kd.C_drewN ?_ _) | (with_reducible refine Kd.C_drew ?_))); (case side4 => exact (Kd.R_reads' HO538.out).2.1); rintro e w' ⟨rfl, ⟨nd, rfl⟩⟩; refine ⟨_, rfl, ?_⟩) | ((with_reducible refine gate_callee (f := 57) rfl ?_); refine goesL_ (some 42) rfl rfl Try.func57 (by kernel_rfl) rfl #[.slice A0 l0.length c0] rfl ma ?_; (with_reducible refine (laws_toStringS.calls k _ _ l0 t549 _ ?side1 ?side2 A16.out).mono ?_); (case side1 => repeat (first | exact (Kd.C_below HR0.out bl) | (with_reducible refine Kd.C_alloc ?_ _) | (with_reducible refine Kd.C_drewN ?_ _) | (with_reducible refine Kd.C_drew ?_))); (case side2 => exact HC0.out); rintro e w112 ⟨v550, rfl, ho0, hb⟩; refine ⟨_, rfl, ?_⟩; have n0_ := Aside0.mk (Kd.R_elder' (ro HO532) (Kd.R_base ho0) hb); have n1_ := Aside0.mk (Kd.R_below (ro HO535) hb); have n2_ := Aside0.mk (Kd.R_elder' (ro HO538) (Kd.R_base ho0) hb); have n3_ := Aside0.mk (Kd.R_elder' (ro HO541) (Kd.R_base ho0) hb); have n4_ := Aside0.mk (Kd.R_below (ro HO544) hb); have n5_ := Aside0.mk (Kd.R_elder' (ro HO547) (Kd.R_base ho0) hb); have n6_ := Aside0.mk (Kd.R_lower (Kd.R_new' (Kd.R_new' (Kd.R_new' (Kd.R_new' ho0 (Kd.R_lt (ro HO532))) (Kd.R_lt (ro HO538))) (Kd.R_lt (ro HO541))) (Kd.R_lt (ro HO547))) (below_size bl)); have n7_ := Aside0.mk (below_step bl hb); clear HO532; clear HO535; clear HO538; clear HO541; clear HO544; clear HO547; clear HB; have HO532 := n0_; have HO535 := n1_; have HO538 := n2_; have HO541 := n3_; have HO544 := n4_; have HO547 := n5_; have HO551 := n6_; have HB := n7_; clear n0_ n1_ n2_ n3_ n4_ n5_ n6_ n7_; (try clear hb); (try clear hb2); (try clear hk); (try clear hi); (try clear ho0); obtain ⟨Ao113, co113, eo113⟩ := Kd.R_slice HO551.out; subst eo113) | ((with_reducible refine gate_callee (f := 32) rfl ?_); refine goesL_ (some 43) rfl rfl Try.func32 (by kernel_rfl) rfl #[.slice Ao107 t539.length co107, .slice Ao113 t549.length co113] rfl ma ?_; (with_reducible refine (laws_eqStringS.calls k _ _ t539 _ _ t549 true _ ?side1 ?side2 ?side3 ?side4 A17.out).mono ?_); (case side1 => repeat (first | exact (Kd.R_reads' HO541.out).2.2 | (with_reducible refine Kd.C_alloc ?_ _) | (with_reducible refine Kd.C_drewN ?_ _) | (with_reducible refine Kd.C_drew ?_))); (case side2 => exact (Kd.R_reads' HO541.out).2.1); (case side3 => repeat (first | exact (Kd.R_reads' HO551.out).2.2 | (with_reducible refine Kd.C_alloc ?_ _) | (with_reducible refine Kd.C_drewN ?_ _) | (with_reducible refine Kd.C_drew ?_))); (case side4 => exact (Kd.R_reads' HO551.out).2.1); rintro e w' ⟨rfl, ⟨nd, rfl⟩⟩; refine ⟨_, rfl, ?_⟩) | ((with_reducible refine gate_callee (f := 24) rfl ?_); refine goesL_ (some 47) rfl rfl Try.func24 (by kernel_rfl) rfl #[.slice A1 l1.length c1] rfl ma ?_; (with_reducible refine (laws_toFieldS.calls k _ _ l1 t553 _ ?side1 ?side2 A19.out).mono ?_); (case side1 => repeat (first | exact (Kd.C_below HR1.out bl) | (with_reducible refine Kd.C_alloc ?_ _) | (with_reducible refine Kd.C_drewN ?_ _) | (with_reducible refine Kd.C_drew ?_))); (case side2 => exact HC1.out); rintro e w114 ⟨v554, rfl, ho0, hb⟩; refine ⟨_, rfl, ?_⟩; have n0_ := Aside0.mk (Kd.R_below (ro HO532) hb); have n1_ := Aside0.mk (Kd.R_elder' (ro HO535) (Kd.R_base ho0) hb); have n2_ := Aside0.mk (Kd.R_below (ro HO538) hb); have n3_ := Aside0.mk (Kd.R_below (ro HO541) hb); have n4_ := Aside0.mk (Kd.R_elder' (ro HO544) (Kd.R_base ho0) hb); have n5_ := Aside0.mk (Kd.R_below (ro HO547) hb); have n6_ := Aside0.mk (Kd.R_below (ro HO551) hb); have n7_ := Aside0.mk (Kd.R_lower (Kd.R_new' (Kd.R_new' ho0 (Kd.R_lt (ro HO535))) (Kd.R_lt (ro HO544))) (below_size bl)); have n8_ := Aside0.mk (below_step bl hb); clear HO532; clear HO535; clear HO538; clear HO541; clear HO544; clear HO547; clear HO551; clear HB; have HO532 := n0_; have HO535 := n1_; have HO538 := n2_; have HO541 := n3_; have HO544 := n4_; have HO547 := n5_; have HO551 := n6_; have HO555 := n7_; have HB := n8_; clear n0_ n1_ n2_ n3_ n4_ n5_ n6_ n7_ n8_; (try clear hb); (try clear hb2); (try clear hk); (try clear hi); (try clear ho0); obtain ⟨Ao115, co115, eo115⟩ := Kd.R_slice HO555.out; subst eo115) | ((with_reducible refine gate_callee (f := 26) rfl ?_); refine goesL_ (some 48) rfl rfl Try.func26 (by kernel_rfl) rfl #[.slice Ao108 t542.length co108, .slice Ao115 t553.length co115] rfl ma ?_; (with_reducible refine (laws_eqFieldS.calls k _ _ t542 _ _ t553 false _ ?side1 ?side2 ?side3 ?side4 A20.out).mono ?_); (case side1 => repeat (first | exact (Kd.R_reads' HO544.out).2.2 | (with_reducible refine Kd.C_alloc ?_ _) | (with_reducible refine Kd.C_drewN ?_ _) | (with_reducible refine Kd.C_drew ?_))); (case side2 => exact (Kd.R_reads' HO544.out).2.1); (case side3 => repeat (first | exact (Kd.R_reads' HO555.out).2.2 | (with_reducible refine Kd.C_alloc ?_ _) | (with_reducible refine Kd.C_drewN ?_ _) | (with_reducible refine Kd.C_drew ?_))); (case side4 => exact (Kd.R_reads' HO555.out).2.1); rintro e w116 ⟨rfl, hb⟩; refine ⟨_, rfl, ?_⟩; have n0_ := Aside0.mk (Kd.R_below (ro HO532) hb); have n1_ := Aside0.mk (Kd.R_below (ro HO535) hb); have n2_ := Aside0.mk (Kd.R_below (ro HO538) hb); have n3_ := Aside0.mk (Kd.R_below (ro HO541) hb); have n4_ := Aside0.mk (Kd.R_below (ro HO544) hb); have n5_ := Aside0.mk (Kd.R_below (ro HO547) hb); have n6_ := Aside0.mk (Kd.R_below (ro HO551) hb); have n7_ := Aside0.mk (Kd.R_below (ro HO555) hb); have n8_ := Aside0.mk (below_step bl hb); clear HO532; clear HO535; clear HO538; clear HO541; clear HO544; clear HO547; clear HO551; clear HO555; clear HB; have HO532 := n0_; have HO535 := n1_; have HO538 := n2_; have HO541 := n3_; have HO544 := n4_; have HO547 := n5_; have HO551 := n6_; have HO555 := n7_; have HB := n8_; clear n0_ n1_ n2_ n3_ n4_ n5_ n6_ n7_ n8_; (try clear hb); (try clear hb2); (try clear hk); (try clear hi)))
            go_ret
            exact ⟨rf, bl⟩
        · replace c18 := Bool.eq_false_iff.mpr c18
          subst c18
          have H1 : (some false) = some r := by rw [if_neg (show ¬ (false = true) by decide)] at H; exact H
          clear H
          have H := H1
          clear H1
          obtain rfl := Option.some.inj H
          go_enter Try.func14, Try.ntmps14
          go_wp2_with (first | ((with_reducible refine gate_callee (f := 55) rfl ?_); refine goesL_ (some 16) rfl rfl Try.func55 (by kernel_rfl) rfl #[.slice A0 l0.length c0, .int .i64 1048576] rfl ma ?_; (with_reducible refine (laws_szStringS.calls k _ _ l0 1048576 t528 _ ?side1 ?side2 A3.out).mono ?_); (case side1 => repeat (first | exact HR0.out | (with_reducible refine Kd.C_alloc ?_ _) | (with_reducible refine Kd.C_drewN ?_ _) | (with_reducible refine Kd.C_drew ?_))); (case side2 => exact HC0.out); rintro e w' ⟨rfl, ⟨nd, rfl⟩⟩; refine ⟨_, rfl, ?_⟩) | ((with_reducible refine gate_callee (f := 22) rfl ?_); refine goesL_ (some 21) rfl rfl Try.func22 (by kernel_rfl) rfl #[.slice A1 l1.length c1, .int .i64 t528] rfl ma ?_; (with_reducible refine (laws_szFieldS.calls k _ _ l1 t528 t529 _ ?side1 ?side2 A5.out).mono ?_); (case side1 => repeat (first | exact HR1.out | (with_reducible refine Kd.C_alloc ?_ _) | (with_reducible refine Kd.C_drewN ?_ _) | (with_reducible refine Kd.C_drew ?_))); (case side2 => exact HC1.out); rintro e w117 ⟨rfl, hb⟩; refine ⟨_, rfl, ?_⟩; have n0_ := Aside0.mk (below_step bl hb); clear HB; have HB := n0_; clear n0_; (try clear hb); (try clear hb2); (try clear hk); (try clear hi)) | ((with_reducible refine gate_callee (f := 57) rfl ?_); refine goesL_ (some 25) rfl rfl Try.func57 (by kernel_rfl) rfl #[.slice A0 l0.length c0] rfl ma ?_; (with_reducible refine (laws_toStringS.calls k _ _ l0 t530 _ ?side1 ?side2 A8.out).mono ?_); (case side1 => repeat (first | exact (Kd.C_below HR0.out HB.out) | (with_reducible refine Kd.C_alloc ?_ _) | (with_reducible refine Kd.C_drewN ?_ _) | (with_reducible refine Kd.C_drew ?_))); (case side2 => exact HC0.out); rintro e w118 ⟨v531, rfl, ho0, hb⟩; refine ⟨_, rfl, ?_⟩; have n0_ := Aside0.mk (Kd.R_lower ho0 (below_size bl)); have n1_ := Aside0.mk (below_step bl hb); clear HB; have HO532 := n0_; have HB := n1_; clear n0_ n1_; (try clear hb); (try clear hb2); (try clear hk); (try clear hi); (try clear ho0)) | ((with_reducible refine gate_callee (f := 24) rfl ?_); refine goesL_ (some 27) rfl rfl Try.func24 (by kernel_rfl) rfl #[.slice A1 l1.length c1] rfl ma ?_; (with_reducible refine (laws_toFieldS.calls k _ _ l1 t533 _ ?side1 ?side2 A9.out).mono ?_); (case side1 => repeat (first | exact (Kd.C_below HR1.out HB.out) | (with_reducible refine Kd.C_alloc ?_ _) | (with_reducible refine Kd.C_drewN ?_ _) | (with_reducible refine Kd.C_drew ?_))); (case side2 => exact HC1.out); rintro e w119 ⟨v534, rfl, ho0, hb⟩; refine ⟨_, rfl, ?_⟩; have n0_ := Aside0.mk (Kd.R_below (ro HO532) hb); have n1_ := Aside0.mk (Kd.R_lower ho0 (below_size bl)); have n2_ := Aside0.mk (below_step bl hb); clear HO532; clear HB; have HO532 := n0_; have HO535 := n1_; have HB := n2_; clear n0_ n1_ n2_; (try clear hb); (try clear hb2); (try clear hk); (try clear hi); (try clear ho0); obtain ⟨Ao120, co120, eo120⟩ := Kd.R_slice HO532.out; subst eo120; obtain ⟨Ao121, co121, eo121⟩ := Kd.R_slice HO535.out; subst eo121) | ((with_reducible refine gate_callee (f := 56) rfl ?_); refine goesL_ (some 28) rfl rfl Try.func56 (by kernel_rfl) rfl #[.slice Ao120 t530.length co120, .slice Ao121 t533.length co121] rfl ma ?_; (with_reducible refine (spec_ValuesOf.calls k _ _ t530 _ _ t533 t536 _ ?side1 ?side2 ?side3 ?side4 A10.out).mono ?_); (case side1 => repeat (first | exact (Kd.R_reads' HO532.out).2.2 | (with_reducible refine Kd.C_alloc ?_ _) | (with_reducible refine Kd.C_drewN ?_ _) | (with_reducible refine Kd.C_drew ?_))); (case side2 => exact (Kd.R_reads' HO532.out).2.1); (case side3 => repeat (first | exact (Kd.R_reads' HO535.out).2.2 | (with_reducible refine Kd.C_alloc ?_ _) | (with_reducible refine Kd.C_drewN ?_ _) | (with_reducible refine Kd.C_drew ?_))); (case side4 => exact (Kd.R_reads' HO535.out).2.1); rintro e w122 ⟨v537, rfl, ho0, hb⟩; refine ⟨_, rfl, ?_⟩; have n0_ := Aside0.mk (Kd.R_elder' (ro HO532) (Kd.R_base ho0) hb); have n1_ := Aside0.mk (Kd.R_below (ro HO535) hb); have n2_ := Aside0.mk (Kd.R_lower (Kd.R_new' ho0 (Kd.R_lt (ro HO532))) (below_size bl)); have n3_ := Aside0.mk (below_step bl hb); clear HO532; clear HO535; clear HB; have HO532 := n0_; have HO535 := n1_; have HO538 := n2_; have HB := n3_; clear n0_ n1_ n2_ n3_; (try clear hb); (try clear hb2); (try clear hk); (try clear hi); (try clear ho0)) | ((with_reducible refine gate_callee (f := 57) rfl ?_); refine goesL_ (some 30) rfl rfl Try.func57 (by kernel_rfl) rfl #[.slice A0 l0.length c0] rfl ma ?_; (with_reducible refine (laws_toStringS.calls k _ _ l0 t539 _ ?side1 ?side2 A11.out).mono ?_); (case side1 => repeat (first | exact (Kd.C_below HR0.out HB.out) | (with_reducible refine Kd.C_alloc ?_ _) | (with_reducible refine Kd.C_drewN ?_ _) | (with_reducible refine Kd.C_drew ?_))); (case side2 => exact HC0.out); rintro e w123 ⟨v540, rfl, ho0, hb⟩; refine ⟨_, rfl, ?_⟩; have n0_ := Aside0.mk (Kd.R_elder' (ro HO532) (Kd.R_base ho0) hb); have n1_ := Aside0.mk (Kd.R_below (ro HO535) hb); have n2_ := Aside0.mk (Kd.R_elder' (ro HO538) (Kd.R_base ho0) hb); have n3_ := Aside0.mk (Kd.R_lower (Kd.R_new' (Kd.R_new' ho0 (Kd.R_lt (ro HO532))) (Kd.R_lt (ro HO538))) (below_size bl)); have n4_ := Aside0.mk (below_step bl hb); clear HO532; clear HO535; clear HO538; clear HB; have HO532 := n0_; have HO535 := n1_; have HO538 := n2_; have HO541 := n3_; have HB := n4_; clear n0_ n1_ n2_ n3_ n4_; (try clear hb); (try clear hb2); (try clear hk); (try clear hi); (try clear ho0)) | ((with_reducible refine gate_callee (f := 24) rfl ?_); refine goesL_ (some 32) rfl rfl Try.func24 (by kernel_rfl) rfl #[.slice A1 l1.length c1] rfl ma ?_; (with_reducible refine (laws_toFieldS.calls k _ _ l1 t542 _ ?side1 ?side2 A12.out).mono ?_); (case side1 => repeat (first | exact (Kd.C_below HR1.out HB.out) | (with_reducible refine Kd.C_alloc ?_ _) | (with_reducible refine Kd.C_drewN ?_ _) | (with_reducible refine Kd.C_drew ?_))); (case side2 => exact HC1.out); rintro e w124 ⟨v543, rfl, ho0, hb⟩; refine ⟨_, rfl, ?_⟩; have n0_ := Aside0.mk (Kd.R_below (ro HO532) hb); have n1_ := Aside0.mk (Kd.R_elder' (ro HO535) (Kd.R_base ho0) hb); have n2_ := Aside0.mk (Kd.R_below (ro HO538) hb); have n3_ := Aside0.mk (Kd.R_below (ro HO541) hb); have n4_ := Aside0.mk (Kd.R_lower (Kd.R_new' ho0 (Kd.R_lt (ro HO535))) (below_size bl)); have n5_ := Aside0.mk (below_step bl hb); clear HO532; clear HO535; clear HO538; clear HO541; clear HB; have HO532 := n0_; have HO535 := n1_; have HO538 := n2_; have HO541 := n3_; have HO544 := n4_; have HB := n5_; clear n0_ n1_ n2_ n3_ n4_ n5_; (try clear hb); (try clear hb2); (try clear hk); (try clear hi); (try clear ho0); obtain ⟨Ao125, co125, eo125⟩ := Kd.R_slice HO541.out; subst eo125; obtain ⟨Ao126, co126, eo126⟩ := Kd.R_slice HO544.out; subst eo126) | ((with_reducible refine gate_callee (f := 58) rfl ?_); refine goesL_ (some 35) rfl rfl Try.func58 (by kernel_rfl) rfl #[.slice Ao125 t539.length co125, .slice Ao126 t542.length co126] rfl ma ?_; (with_reducible refine (impl_ValuesOf.calls k _ _ t539 _ _ t542 t545 _ ?side1 ?side2 ?side3 ?side4 A13.out).mono ?_); (case side1 => repeat (first | exact (Kd.R_reads' HO541.out).2.2 | (with_reducible refine Kd.C_alloc ?_ _) | (with_reducible refine Kd.C_drewN ?_ _) | (with_reducible refine Kd.C_drew ?_))); (case side2 => exact (Kd.R_reads' HO541.out).2.1); (case side3 => repeat (first | exact (Kd.R_reads' HO544.out).2.2 | (with_reducible refine Kd.C_alloc ?_ _) | (with_reducible refine Kd.C_drewN ?_ _) | (with_reducible refine Kd.C_drew ?_))); (case side4 => exact (Kd.R_reads' HO544.out).2.1); rintro e w127 ⟨v546, rfl, ho0, hb⟩; refine ⟨_, rfl, ?_⟩; have n0_ := Aside0.mk (Kd.R_elder' (ro HO532) (Kd.R_base ho0) hb); have n1_ := Aside0.mk (Kd.R_below (ro HO535) hb); have n2_ := Aside0.mk (Kd.R_elder' (ro HO538) (Kd.R_base ho0) hb); have n3_ := Aside0.mk (Kd.R_elder' (ro HO541) (Kd.R_base ho0) hb); have n4_ := Aside0.mk (Kd.R_below (ro HO544) hb); have n5_ := Aside0.mk (Kd.R_lower (Kd.R_new' (Kd.R_new' (Kd.R_new' ho0 (Kd.R_lt (ro HO532))) (Kd.R_lt (ro HO538))) (Kd.R_lt (ro HO541))) (below_size bl)); have n6_ := Aside0.mk (below_step bl hb); clear HO532; clear HO535; clear HO538; clear HO541; clear HO544; clear HB; have HO532 := n0_; have HO535 := n1_; have HO538 := n2_; have HO541 := n3_; have HO544 := n4_; have HO547 := n5_; have HB := n6_; clear n0_ n1_ n2_ n3_ n4_ n5_ n6_; (try clear hb); (try clear hb2); (try clear hk); (try clear hi); (try clear ho0); obtain ⟨Ao128, co128, eo128⟩ := Kd.R_slice HO547.out; subst eo128; obtain ⟨Ao129, co129, eo129⟩ := Kd.R_slice HO538.out; subst eo129) | ((with_reducible refine gate_callee (f := 32) rfl ?_); refine goesL_ (some 38) rfl rfl Try.func32 (by kernel_rfl) rfl #[.slice Ao128 t545.length co128, .slice Ao129 t536.length co129] rfl ma ?_; (with_reducible refine (laws_eqStringS.calls k _ _ t545 _ _ t536 true _ ?side1 ?side2 ?side3 ?side4 A14.out).mono ?_); (case side1 => repeat (first | exact (Kd.R_reads' HO547.out).2.2 | (with_reducible refine Kd.C_alloc ?_ _) | (with_reducible refine Kd.C_drewN ?_ _) | (with_reducible refine Kd.C_drew ?_))); (case side2 => exact (Kd.R_reads' HO547.out).2.1); (case side3 => repeat (first | exact (Kd.R_reads' HO538.out).2.2 | (with_reducible refine Kd.C_alloc ?_ _) | (with_reducible refine Kd.C_drewN ?_ _) | (with_reducible refine Kd.C_drew ?_))); (case side4 => exact (Kd.R_reads' HO538.out).2.1); rintro e w' ⟨rfl, ⟨nd, rfl⟩⟩; refine ⟨_, rfl, ?_⟩) | ((with_reducible refine gate_callee (f := 57) rfl ?_); refine goesL_ (some 42) rfl rfl Try.func57 (by kernel_rfl) rfl #[.slice A0 l0.length c0] rfl ma ?_; (with_reducible refine (laws_toStringS.calls k _ _ l0 t549 _ ?side1 ?side2 A16.out).mono ?_); (case side1 => repeat (first | exact (Kd.C_below HR0.out bl) | (with_reducible refine Kd.C_alloc ?_ _) | (with_reducible refine Kd.C_drewN ?_ _) | (with_reducible refine Kd.C_drew ?_))); (case side2 => exact HC0.out); rintro e w130 ⟨v550, rfl, ho0, hb⟩; refine ⟨_, rfl, ?_⟩; have n0_ := Aside0.mk (Kd.R_elder' (ro HO532) (Kd.R_base ho0) hb); have n1_ := Aside0.mk (Kd.R_below (ro HO535) hb); have n2_ := Aside0.mk (Kd.R_elder' (ro HO538) (Kd.R_base ho0) hb); have n3_ := Aside0.mk (Kd.R_elder' (ro HO541) (Kd.R_base ho0) hb); have n4_ := Aside0.mk (Kd.R_below (ro HO544) hb); have n5_ := Aside0.mk (Kd.R_elder' (ro HO547) (Kd.R_base ho0) hb); have n6_ := Aside0.mk (Kd.R_lower (Kd.R_new' (Kd.R_new' (Kd.R_new' (Kd.R_new' ho0 (Kd.R_lt (ro HO532))) (Kd.R_lt (ro HO538))) (Kd.R_lt (ro HO541))) (Kd.R_lt (ro HO547))) (below_size bl)); have n7_ := Aside0.mk (below_step bl hb); clear HO532; clear HO535; clear HO538; clear HO541; clear HO544; clear HO547; clear HB; have HO532 := n0_; have HO535 := n1_; have HO538 := n2_; have HO541 := n3_; have HO544 := n4_; have HO547 := n5_; have HO551 := n6_; have HB := n7_; clear n0_ n1_ n2_ n3_ n4_ n5_ n6_ n7_; (try clear hb); (try clear hb2); (try clear hk); (try clear hi); (try clear ho0); obtain ⟨Ao131, co131, eo131⟩ := Kd.R_slice HO551.out; subst eo131) | ((with_reducible refine gate_callee (f := 32) rfl ?_); refine goesL_ (some 43) rfl rfl Try.func32 (by kernel_rfl) rfl #[.slice Ao125 t539.length co125, .slice Ao131 t549.length co131] rfl ma ?_; (with_reducible refine (laws_eqStringS.calls k _ _ t539 _ _ t549 false _ ?side1 ?side2 ?side3 ?side4 A17.out).mono ?_); (case side1 => repeat (first | exact (Kd.R_reads' HO541.out).2.2 | (with_reducible refine Kd.C_alloc ?_ _) | (with_reducible refine Kd.C_drewN ?_ _) | (with_reducible refine Kd.C_drew ?_))); (case side2 => exact (Kd.R_reads' HO541.out).2.1); (case side3 => repeat (first | exact (Kd.R_reads' HO551.out).2.2 | (with_reducible refine Kd.C_alloc ?_ _) | (with_reducible refine Kd.C_drewN ?_ _) | (with_reducible refine Kd.C_drew ?_))); (case side4 => exact (Kd.R_reads' HO551.out).2.1); rintro e w' ⟨rfl, ⟨nd, rfl⟩⟩; refine ⟨_, rfl, ?_⟩))
          go_ret
          exact ⟨rf, bl⟩
      · replace c15 := Bool.eq_false_iff.mpr c15
        subst c15
        have H1 : (some false) = some r := by rw [if_neg (show ¬ (false = true) by decide)] at H; exact H
        clear H
        have H := H1
        clear H1
        obtain rfl := Option.some.inj H
        go_enter Try.func14, Try.ntmps14
        go_wp2_with (first | ((with_reducible refine gate_callee (f := 55) rfl ?_); refine goesL_ (some 16) rfl rfl Try.func55 (by kernel_rfl) rfl #[.slice A0 l0.length c0, .int .i64 1048576] rfl ma ?_; (with_reducible refine (laws_szStringS.calls k _ _ l0 1048576 t528 _ ?side1 ?side2 A3.out).mono ?_); (case side1 => repeat (first | exact HR0.out | (with_reducible refine Kd.C_alloc ?_ _) | (with_reducible refine Kd.C_drewN ?_ _) | (with_reducible refine Kd.C_drew ?_))); (case side2 => exact HC0.out); rintro e w' ⟨rfl, ⟨nd, rfl⟩⟩; refine ⟨_, rfl, ?_⟩) | ((with_reducible refine gate_callee (f := 22) rfl ?_); refine goesL_ (some 21) rfl rfl Try.func22 (by kernel_rfl) rfl #[.slice A1 l1.length c1, .int .i64 t528] rfl ma ?_; (with_reducible refine (laws_szFieldS.calls k _ _ l1 t528 t529 _ ?side1 ?side2 A5.out).mono ?_); (case side1 => repeat (first | exact HR1.out | (with_reducible refine Kd.C_alloc ?_ _) | (with_reducible refine Kd.C_drewN ?_ _) | (with_reducible refine Kd.C_drew ?_))); (case side2 => exact HC1.out); rintro e w132 ⟨rfl, hb⟩; refine ⟨_, rfl, ?_⟩; have n0_ := Aside0.mk (below_step bl hb); clear HB; have HB := n0_; clear n0_; (try clear hb); (try clear hb2); (try clear hk); (try clear hi)) | ((with_reducible refine gate_callee (f := 57) rfl ?_); refine goesL_ (some 25) rfl rfl Try.func57 (by kernel_rfl) rfl #[.slice A0 l0.length c0] rfl ma ?_; (with_reducible refine (laws_toStringS.calls k _ _ l0 t530 _ ?side1 ?side2 A8.out).mono ?_); (case side1 => repeat (first | exact (Kd.C_below HR0.out HB.out) | (with_reducible refine Kd.C_alloc ?_ _) | (with_reducible refine Kd.C_drewN ?_ _) | (with_reducible refine Kd.C_drew ?_))); (case side2 => exact HC0.out); rintro e w133 ⟨v531, rfl, ho0, hb⟩; refine ⟨_, rfl, ?_⟩; have n0_ := Aside0.mk (Kd.R_lower ho0 (below_size bl)); have n1_ := Aside0.mk (below_step bl hb); clear HB; have HO532 := n0_; have HB := n1_; clear n0_ n1_; (try clear hb); (try clear hb2); (try clear hk); (try clear hi); (try clear ho0)) | ((with_reducible refine gate_callee (f := 24) rfl ?_); refine goesL_ (some 27) rfl rfl Try.func24 (by kernel_rfl) rfl #[.slice A1 l1.length c1] rfl ma ?_; (with_reducible refine (laws_toFieldS.calls k _ _ l1 t533 _ ?side1 ?side2 A9.out).mono ?_); (case side1 => repeat (first | exact (Kd.C_below HR1.out HB.out) | (with_reducible refine Kd.C_alloc ?_ _) | (with_reducible refine Kd.C_drewN ?_ _) | (with_reducible refine Kd.C_drew ?_))); (case side2 => exact HC1.out); rintro e w134 ⟨v534, rfl, ho0, hb⟩; refine ⟨_, rfl, ?_⟩; have n0_ := Aside0.mk (Kd.R_below (ro HO532) hb); have n1_ := Aside0.mk (Kd.R_lower ho0 (below_size bl)); have n2_ := Aside0.mk (below_step bl hb); clear HO532; clear HB; have HO532 := n0_; have HO535 := n1_; have HB := n2_; clear n0_ n1_ n2_; (try clear hb); (try clear hb2); (try clear hk); (try clear hi); (try clear ho0); obtain ⟨Ao135, co135, eo135⟩ := Kd.R_slice HO532.out; subst eo135; obtain ⟨Ao136, co136, eo136⟩ := Kd.R_slice HO535.out; subst eo136) | ((with_reducible refine gate_callee (f := 56) rfl ?_); refine goesL_ (some 28) rfl rfl Try.func56 (by kernel_rfl) rfl #[.slice Ao135 t530.length co135, .slice Ao136 t533.length co136] rfl ma ?_; (with_reducible refine (spec_ValuesOf.calls k _ _ t530 _ _ t533 t536 _ ?side1 ?side2 ?side3 ?side4 A10.out).mono ?_); (case side1 => repeat (first | exact (Kd.R_reads' HO532.out).2.2 | (with_reducible refine Kd.C_alloc ?_ _) | (with_reducible refine Kd.C_drewN ?_ _) | (with_reducible refine Kd.C_drew ?_))); (case side2 => exact (Kd.R_reads' HO532.out).2.1); (case side3 => repeat (first | exact (Kd.R_reads' HO535.out).2.2 | (with_reducible refine Kd.C_alloc ?_ _) | (with_reducible refine Kd.C_drewN ?_ _) | (with_reducible refine Kd.C_drew ?_))); (case side4 => exact (Kd.R_reads' HO535.out).2.1); rintro e w137 ⟨v537, rfl, ho0, hb⟩; refine ⟨_, rfl, ?_⟩; have n0_ := Aside0.mk (Kd.R_elder' (ro HO532) (Kd.R_base ho0) hb); have n1_ := Aside0.mk (Kd.R_below (ro HO535) hb); have n2_ := Aside0.mk (Kd.R_lower (Kd.R_new' ho0 (Kd.R_lt (ro HO532))) (below_size bl)); have n3_ := Aside0.mk (below_step bl hb); clear HO532; clear HO535; clear HB; have HO532 := n0_; have HO535 := n1_; have HO538 := n2_; have HB := n3_; clear n0_ n1_ n2_ n3_; (try clear hb); (try clear hb2); (try clear hk); (try clear hi); (try clear ho0)) | ((with_reducible refine gate_callee (f := 57) rfl ?_); refine goesL_ (some 30) rfl rfl Try.func57 (by kernel_rfl) rfl #[.slice A0 l0.length c0] rfl ma ?_; (with_reducible refine (laws_toStringS.calls k _ _ l0 t539 _ ?side1 ?side2 A11.out).mono ?_); (case side1 => repeat (first | exact (Kd.C_below HR0.out HB.out) | (with_reducible refine Kd.C_alloc ?_ _) | (with_reducible refine Kd.C_drewN ?_ _) | (with_reducible refine Kd.C_drew ?_))); (case side2 => exact HC0.out); rintro e w138 ⟨v540, rfl, ho0, hb⟩; refine ⟨_, rfl, ?_⟩; have n0_ := Aside0.mk (Kd.R_elder' (ro HO532) (Kd.R_base ho0) hb); have n1_ := Aside0.mk (Kd.R_below (ro HO535) hb); have n2_ := Aside0.mk (Kd.R_elder' (ro HO538) (Kd.R_base ho0) hb); have n3_ := Aside0.mk (Kd.R_lower (Kd.R_new' (Kd.R_new' ho0 (Kd.R_lt (ro HO532))) (Kd.R_lt (ro HO538))) (below_size bl)); have n4_ := Aside0.mk (below_step bl hb); clear HO532; clear HO535; clear HO538; clear HB; have HO532 := n0_; have HO535 := n1_; have HO538 := n2_; have HO541 := n3_; have HB := n4_; clear n0_ n1_ n2_ n3_ n4_; (try clear hb); (try clear hb2); (try clear hk); (try clear hi); (try clear ho0)) | ((with_reducible refine gate_callee (f := 24) rfl ?_); refine goesL_ (some 32) rfl rfl Try.func24 (by kernel_rfl) rfl #[.slice A1 l1.length c1] rfl ma ?_; (with_reducible refine (laws_toFieldS.calls k _ _ l1 t542 _ ?side1 ?side2 A12.out).mono ?_); (case side1 => repeat (first | exact (Kd.C_below HR1.out HB.out) | (with_reducible refine Kd.C_alloc ?_ _) | (with_reducible refine Kd.C_drewN ?_ _) | (with_reducible refine Kd.C_drew ?_))); (case side2 => exact HC1.out); rintro e w139 ⟨v543, rfl, ho0, hb⟩; refine ⟨_, rfl, ?_⟩; have n0_ := Aside0.mk (Kd.R_below (ro HO532) hb); have n1_ := Aside0.mk (Kd.R_elder' (ro HO535) (Kd.R_base ho0) hb); have n2_ := Aside0.mk (Kd.R_below (ro HO538) hb); have n3_ := Aside0.mk (Kd.R_below (ro HO541) hb); have n4_ := Aside0.mk (Kd.R_lower (Kd.R_new' ho0 (Kd.R_lt (ro HO535))) (below_size bl)); have n5_ := Aside0.mk (below_step bl hb); clear HO532; clear HO535; clear HO538; clear HO541; clear HB; have HO532 := n0_; have HO535 := n1_; have HO538 := n2_; have HO541 := n3_; have HO544 := n4_; have HB := n5_; clear n0_ n1_ n2_ n3_ n4_ n5_; (try clear hb); (try clear hb2); (try clear hk); (try clear hi); (try clear ho0); obtain ⟨Ao140, co140, eo140⟩ := Kd.R_slice HO541.out; subst eo140; obtain ⟨Ao141, co141, eo141⟩ := Kd.R_slice HO544.out; subst eo141) | ((with_reducible refine gate_callee (f := 58) rfl ?_); refine goesL_ (some 35) rfl rfl Try.func58 (by kernel_rfl) rfl #[.slice Ao140 t539.length co140, .slice Ao141 t542.length co141] rfl ma ?_; (with_reducible refine (impl_ValuesOf.calls k _ _ t539 _ _ t542 t545 _ ?side1 ?side2 ?side3 ?side4 A13.out).mono ?_); (case side1 => repeat (first | exact (Kd.R_reads' HO541.out).2.2 | (with_reducible refine Kd.C_alloc ?_ _) | (with_reducible refine Kd.C_drewN ?_ _) | (with_reducible refine Kd.C_drew ?_))); (case side2 => exact (Kd.R_reads' HO541.out).2.1); (case side3 => repeat (first | exact (Kd.R_reads' HO544.out).2.2 | (with_reducible refine Kd.C_alloc ?_ _) | (with_reducible refine Kd.C_drewN ?_ _) | (with_reducible refine Kd.C_drew ?_))); (case side4 => exact (Kd.R_reads' HO544.out).2.1); rintro e w142 ⟨v546, rfl, ho0, hb⟩; refine ⟨_, rfl, ?_⟩; have n0_ := Aside0.mk (Kd.R_elder' (ro HO532) (Kd.R_base ho0) hb); have n1_ := Aside0.mk (Kd.R_below (ro HO535) hb); have n2_ := Aside0.mk (Kd.R_elder' (ro HO538) (Kd.R_base ho0) hb); have n3_ := Aside0.mk (Kd.R_elder' (ro HO541) (Kd.R_base ho0) hb); have n4_ := Aside0.mk (Kd.R_below (ro HO544) hb); have n5_ := Aside0.mk (Kd.R_lower (Kd.R_new' (Kd.R_new' (Kd.R_new' ho0 (Kd.R_lt (ro HO532))) (Kd.R_lt (ro HO538))) (Kd.R_lt (ro HO541))) (below_size bl)); have n6_ := Aside0.mk (below_step bl hb); clear HO532; clear HO535; clear HO538; clear HO541; clear HO544; clear HB; have HO532 := n0_; have HO535 := n1_; have HO538 := n2_; have HO541 := n3_; have HO544 := n4_; have HO547 := n5_; have HB := n6_; clear n0_ n1_ n2_ n3_ n4_ n5_ n6_; (try clear hb); (try clear hb2); (try clear hk); (try clear hi); (try clear ho0); obtain ⟨Ao143, co143, eo143⟩ := Kd.R_slice HO547.out; subst eo143; obtain ⟨Ao144, co144, eo144⟩ := Kd.R_slice HO538.out; subst eo144) | ((with_reducible refine gate_callee (f := 32) rfl ?_); refine goesL_ (some 38) rfl rfl Try.func32 (by kernel_rfl) rfl #[.slice Ao143 t545.length co143, .slice Ao144 t536.length co144] rfl ma ?_; (with_reducible refine (laws_eqStringS.calls k _ _ t545 _ _ t536 false _ ?side1 ?side2 ?side3 ?side4 A14.out).mono ?_); (case side1 => repeat (first | exact (Kd.R_reads' HO547.out).2.2 | (with_reducible refine Kd.C_alloc ?_ _) | (with_reducible refine Kd.C_drewN ?_ _) | (with_reducible refine Kd.C_drew ?_))); (case side2 => exact (Kd.R_reads' HO547.out).2.1); (case side3 => repeat (first | exact (Kd.R_reads' HO538.out).2.2 | (with_reducible refine Kd.C_alloc ?_ _) | (with_reducible refine Kd.C_drewN ?_ _) | (with_reducible refine Kd.C_drew ?_))); (case side4 => exact (Kd.R_reads' HO538.out).2.1); rintro e w' ⟨rfl, ⟨nd, rfl⟩⟩; refine ⟨_, rfl, ?_⟩))
        go_ret
        exact ⟨rf, bl⟩

/-! ### spec_l8Star: function 76 -/
def spec_l8Star.l0 : Nat → List ByteArray → Int → Option (Bool)
  | 0, _, _ => none
  | k + 1, x0, x3 => if x3 < (x0.length : Int) then (if 0 ≤ x3 then (if (rdOf ByteArray.empty x0 x3).toList = ([42] : List UInt8) then (some true) else (spec_l8Star.l0 k x0 (wrap64 (x3 + 1)))) else (none)) else (some false)
def spec_l8Star.f (k : Nat) (l0 : List ByteArray) : Option (Bool) := spec_l8Star.l0 k l0 0
theorem spec_l8Star.mono_l : ∀ k, (∀ y0 y1, LeO (spec_l8Star.l0 k y0 y1) (spec_l8Star.l0 (k + 1) y0 y1))
  | 0 => fun _ _ r h => by simp [spec_l8Star.l0] at h
  | k + 1 => by
    have ih0 := spec_l8Star.mono_l k
    · intro y0 y1
      unfold spec_l8Star.l0
      repeat' first
      | (with_reducible exact ih0 _ _)
      | (with_reducible exact LeO.refl _)
      | (with_reducible exact LeO.none _)
      | (with_reducible refine LeO.ite ?_ ?_)
      | (with_reducible refine LeO.bind ?_ (fun _ => ?_))
      | exact ih0 _ _
      | exact LeO.none _
      | refine LeO.ite ?_ ?_
      | refine LeO.bind ?_ (fun _ => ?_)
theorem spec_l8Star.mono : ∀ a0 k, LeO (spec_l8Star.f k a0) (spec_l8Star.f (k + 1) a0) := by
  intro a0 k
  have ih0 := spec_l8Star.mono_l k
  unfold spec_l8Star.f
  repeat' first
      | (with_reducible exact ih0 _ _)
      | (with_reducible exact LeO.refl _)
      | (with_reducible exact LeO.none _)
      | (with_reducible refine LeO.ite ?_ ?_)
      | (with_reducible refine LeO.bind ?_ (fun _ => ?_))
      | exact ih0 _ _
      | exact LeO.none _
      | refine LeO.ite ?_ ?_
      | refine LeO.bind ?_ (fun _ => ?_)
set_option maxHeartbeats 8000000 in
set_option maxRecDepth 100000 in
theorem spec_l8Star.calls (k : Nat) (A0 : Option Addr) (c0 : Nat) (l0 : List ByteArray) (r : Bool) (w : World) (hr0 : Kd.C Kd.string w A0 l0.length l0) (hc0 : l0.length ≤ c0) (h : spec_l8Star.f k l0 = some r) :
    Calls Try.prog 76 #[.slice A0 l0.length c0] w fun e w' => e = .returned (.bool r) ∧ Drawn0 w w' := by
  have HR0 := Aside0.mk hr0
  have HC0 := Aside0.mk hc0
  clear hr0 hc0
  have H : (spec_l8Star.l0 k l0 0) = some r := h
  clear h
  have H' := Aside0.mk H
  clear H
  go_enter Try.func76, Try.ntmps76
  go_wp2
  go_loopg [3] k (fun kq v3 w' => ∃ (x3_1 : Int), v3 = .int .i64 x3_1 ∧ Aside0 (spec_l8Star.l0 kq l0 x3_1 = some r) ∧ Aside0 (kq ≤ k) ∧ Drawn0 w w')
  case atStart => exact ⟨(0), (by first | rfl | (simp; done) | (simp [*]; done)), H', ⟨Nat.le_refl _⟩, by repeat (first | exact Drawn0.refl _ | apply Drawn0.step)⟩
  case round =>
    clear H'
    obtain ⟨x3_1, rfl, HA, HK1, ⟨m1, rfl⟩⟩ := hrel
    cases gk with
    | zero => exact absurd HA.out (by simp [spec_l8Star.l0])
    | succ k1 =>
      have H := HA.out
      clear HA
      simp only [spec_l8Star.l0] at H
      by_cases c2 : x3_1 < (l0.length : Int)
      · rw [if_pos c2] at H
        have c2b0 : decide (x3_1 < (l0.length : Int)) = true := decide_eq_true c2
        clear c2
        by_cases c3 : 0 ≤ x3_1
        · rw [if_pos c3] at H
          have c3b0 : decide (0 ≤ x3_1) = true := decide_eq_true c3
          clear c3
          by_cases c4 : (rdOf ByteArray.empty l0 x3_1).toList = ([42] : List UInt8)
          · rw [if_pos c4] at H
            have c4b0 : ((rdOf ByteArray.empty l0 x3_1).toList == ([42] : List UInt8)) = true := beq_iff_eq.mpr c4
            have c4b1 : ((rdOf ByteArray.empty l0 x3_1).toList != ([42] : List UInt8)) = false := bne_eq_false_iff_eq.mpr c4
            clear c4
            obtain rfl := Option.some.inj H
            have p576 : 0 ≤ (x3_1 : Int) := of_decide_eq_true (by first | (with_reducible assumption) | assumption)
            have q576 : x3_1 < (l0.length : Int) := of_decide_eq_true (by first | (with_reducible assumption) | assumption)
            obtain ⟨ad576, e576, hx576_0⟩ := Kd.at_string HR0.out x3_1 p576 q576
            cases e576
            replace p576 := eq_true p576
            replace q576 := eq_true q576
            go_wp2
            go_ret
            exact ⟨by first | rfl | (simp; done) | (simp [*]; done), by repeat (first | exact Drawn0.refl _ | apply Drawn0.step)⟩
          · rw [if_neg c4] at H
            have c4b0 : ((rdOf ByteArray.empty l0 x3_1).toList == ([42] : List UInt8)) = false := beq_eq_false_iff_ne.mpr c4
            have c4b1 : ((rdOf ByteArray.empty l0 x3_1).toList != ([42] : List UInt8)) = true := bne_iff_ne.mpr c4
            have H' := Aside0.mk H
            clear H
            have p576 : 0 ≤ (x3_1 : Int) := of_decide_eq_true (by first | (with_reducible assumption) | assumption)
            have q576 : x3_1 < (l0.length : Int) := of_decide_eq_true (by first | (with_reducible assumption) | assumption)
            obtain ⟨ad576, e576, hx576_0⟩ := Kd.at_string HR0.out x3_1 p576 q576
            cases e576
            replace p576 := eq_true p576
            replace q576 := eq_true q576
            go_wp2
            go_roundg k1
            case measure => have := HK1.out; omega
            case rel => exact ⟨(wrap64 (x3_1 + 1)), (by first | rfl | (simp; done) | (simp [*]; done)), H', ⟨by have := HK1.out; omega⟩, by repeat (first | exact Drawn0.refl _ | apply Drawn0.step)⟩
        · rw [if_neg c3] at H
          exact absurd H (by simp)
      · rw [if_neg c2] at H
        have c2b0 : decide (x3_1 < (l0.length : Int)) = false := decide_eq_false c2
        clear c2
        obtain rfl := Option.some.inj H
        go_wp2
        go_ret
        exact ⟨by first | rfl | (simp; done) | (simp [*]; done), by repeat (first | exact Drawn0.refl _ | apply Drawn0.step)⟩

/-! ### spec_l8Texts: function 77 -/
mutual
def spec_l8Texts.l0 : Nat → List ByteArray → List ByteArray → Int → Option (Bool)
  | 0, _, _, _ => none
  | k + 1, x0, x1, x5 => if x5 < (x0.length : Int) then (spec_l8Texts.j1 k x0 x1 x5 (decide (x5 < (x1.length : Int)))) else (spec_l8Texts.j1 k x0 x1 x5 false)
def spec_l8Texts.j1 : Nat → List ByteArray → List ByteArray → Int → Bool → Option (Bool)
  | 0, _, _, _, _ => none
  | k + 1, x0, x1, x5, x15 => if x15 = true then (if 0 ≤ x5 then (if x5 < (x0.length : Int) then (if x5 < (x1.length : Int) then (if (rdOf ByteArray.empty x0 x5).toList = (rdOf ByteArray.empty x1 x5).toList then (spec_l8Texts.l0 k x0 x1 (wrap64 (x5 + 1))) else (some false)) else (none)) else (none)) else (none)) else (some ((x0.length : Int) == (x1.length : Int)))
end
def spec_l8Texts.f (k : Nat) (l0 : List ByteArray) (l1 : List ByteArray) : Option (Bool) := spec_l8Texts.l0 k l0 l1 0
theorem spec_l8Texts.mono_l : ∀ k, (∀ y0 y1 y2, LeO (spec_l8Texts.l0 k y0 y1 y2) (spec_l8Texts.l0 (k + 1) y0 y1 y2)) ∧ (∀ y0 y1 y2 y3, LeO (spec_l8Texts.j1 k y0 y1 y2 y3) (spec_l8Texts.j1 (k + 1) y0 y1 y2 y3))
  | 0 => ⟨fun _ _ _ r h => by simp [spec_l8Texts.l0] at h, fun _ _ _ _ r h => by simp [spec_l8Texts.j1] at h⟩
  | k + 1 => by
    obtain ⟨ih0, ih1⟩ := spec_l8Texts.mono_l k
    refine ⟨?_, ?_⟩
    · intro y0 y1 y2
      unfold spec_l8Texts.l0
      repeat' first
      | (with_reducible exact ih0 _ _ _)
      | (with_reducible exact ih1 _ _ _ _)
      | (with_reducible exact LeO.refl _)
      | (with_reducible exact LeO.none _)
      | (with_reducible refine LeO.ite ?_ ?_)
      | (with_reducible refine LeO.bind ?_ (fun _ => ?_))
      | exact ih0 _ _ _
      | exact ih1 _ _ _ _
      | exact LeO.none _
      | refine LeO.ite ?_ ?_
      | refine LeO.bind ?_ (fun _ => ?_)
    · intro y0 y1 y2 y3
      unfold spec_l8Texts.j1
      repeat' first
      | (with_reducible exact ih0 _ _ _)
      | (with_reducible exact ih1 _ _ _ _)
      | (with_reducible exact LeO.refl _)
      | (with_reducible exact LeO.none _)
      | (with_reducible refine LeO.ite ?_ ?_)
      | (with_reducible refine LeO.bind ?_ (fun _ => ?_))
      | exact ih0 _ _ _
      | exact ih1 _ _ _ _
      | exact LeO.none _
      | refine LeO.ite ?_ ?_
      | refine LeO.bind ?_ (fun _ => ?_)
theorem spec_l8Texts.mono : ∀ a0 a1 k, LeO (spec_l8Texts.f k a0 a1) (spec_l8Texts.f (k + 1) a0 a1) := by
  intro a0 a1 k
  obtain ⟨ih0, ih1⟩ := spec_l8Texts.mono_l k
  unfold spec_l8Texts.f
  repeat' first
      | (with_reducible exact ih0 _ _ _)
      | (with_reducible exact ih1 _ _ _ _)
      | (with_reducible exact LeO.refl _)
      | (with_reducible exact LeO.none _)
      | (with_reducible refine LeO.ite ?_ ?_)
      | (with_reducible refine LeO.bind ?_ (fun _ => ?_))
      | exact ih0 _ _ _
      | exact ih1 _ _ _ _
      | exact LeO.none _
      | refine LeO.ite ?_ ?_
      | refine LeO.bind ?_ (fun _ => ?_)
set_option maxHeartbeats 8000000 in
set_option maxRecDepth 100000 in
theorem spec_l8Texts.calls (k : Nat) (A0 : Option Addr) (c0 : Nat) (l0 : List ByteArray) (A1 : Option Addr) (c1 : Nat) (l1 : List ByteArray) (r : Bool) (w : World) (hr0 : Kd.C Kd.string w A0 l0.length l0) (hc0 : l0.length ≤ c0) (hr1 : Kd.C Kd.string w A1 l1.length l1) (hc1 : l1.length ≤ c1) (h : spec_l8Texts.f k l0 l1 = some r) :
    Calls Try.prog 77 #[.slice A0 l0.length c0, .slice A1 l1.length c1] w fun e w' => e = .returned (.bool r) ∧ Drawn0 w w' := by
  have HR0 := Aside0.mk hr0
  have HC0 := Aside0.mk hc0
  clear hr0 hc0
  have HR1 := Aside0.mk hr1
  have HC1 := Aside0.mk hc1
  clear hr1 hc1
  have H : (spec_l8Texts.l0 k l0 l1 0) = some r := h
  clear h
  have H' := Aside0.mk H
  clear H
  go_enter Try.func77, Try.ntmps77
  go_wp2
  repeat (go_quiet (fail); try go_wp2)
  go_loopg [5] k (fun kq v5 w' => ∃ (x5_1 : Int), v5 = .int .i64 x5_1 ∧ Aside0 (spec_l8Texts.l0 kq l0 l1 x5_1 = some r) ∧ Aside0 (kq ≤ k) ∧ Drawn0 w w')
  case atStart => exact ⟨(0), (by first | rfl | (simp; done) | (simp [*]; done)), H', ⟨Nat.le_refl _⟩, by repeat (first | exact Drawn0.refl _ | apply Drawn0.step)⟩
  case round =>
    clear H'
    try clear c1
    try clear p2
    obtain ⟨x5_1, rfl, HA, HK1, ⟨m1, rfl⟩⟩ := hrel
    cases gk with
    | zero => exact absurd HA.out (by simp [spec_l8Texts.l0])
    | succ k1 =>
      have H := HA.out
      clear HA
      simp only [spec_l8Texts.l0] at H
      have HC3 := Aside0.mk H
      clear H
      go_upto_region 2 with (fail)
      repeat (go_quiet (fail); go_upto_region 2 with (fail))
      go_cut [15] (fun v15 wc => ∃ (kq : Nat) (x15_2 : Bool), v15 = .bool x15_2 ∧ Aside0 (spec_l8Texts.j1 kq l0 l1 x5_1 x15_2 = some r) ∧ Aside0 (kq ≤ k1) ∧ Drawn0 w wc)
      case first =>
        have H := HC3.out
        clear HC3
        by_cases c4 : x5_1 < (l0.length : Int)
        · rw [if_pos c4] at H
          have c4b0 : decide (x5_1 < (l0.length : Int)) = true := decide_eq_true c4
          clear c4
          (first | rw [c4b0] | (simp only [i64_w, i32_w]; rw [c4b0]) | skip)
          have H' := Aside0.mk H
          clear H
          go_wp2
          repeat (go_quiet (fail); try go_wp2)
          go_meet
          case rel => exact ⟨_, (decide (x5_1 < (l1.length : Int))), (by first | rfl | (simp; done) | (simp [*]; done)), H', ⟨by have := HK1.out; first | omega | exact Nat.le_refl _⟩, by repeat (first | exact Drawn0.refl _ | apply Drawn0.step)⟩
        · rw [if_neg c4] at H
          have c4b0 : decide (x5_1 < (l0.length : Int)) = false := decide_eq_false c4
          clear c4
          (first | rw [c4b0] | (simp only [i64_w, i32_w]; rw [c4b0]) | skip)
          have H' := Aside0.mk H
          clear H
          go_wp2
          repeat (go_quiet (fail); try go_wp2)
          go_meet
          case rel => exact ⟨_, (false), (by first | rfl | (simp; done) | (simp [*]; done)), H', ⟨by have := HK1.out; first | omega | exact Nat.le_refl _⟩, by repeat (first | exact Drawn0.refl _ | apply Drawn0.step)⟩
      case rest =>
        clear HC3
        try clear c1
        try clear p2
        try clear c4
        try clear c4b0
        try clear p2
        obtain ⟨kq, x15_2, rfl, HA, HJ2, ⟨mc2, rfl⟩⟩ := hcut
        cases kq with
        | zero => exact absurd HA.out (by simp [spec_l8Texts.j1])
        | succ kj2 =>
          have H := HA.out
          clear HA
          simp only [spec_l8Texts.j1] at H
          by_cases c5 : x15_2 = true
          · subst c5
            have H1 : (if 0 ≤ x5_1 then (if x5_1 < (l0.length : Int) then (if x5_1 < (l1.length : Int) then (if (rdOf ByteArray.empty l0 x5_1).toList = (rdOf ByteArray.empty l1 x5_1).toList then (spec_l8Texts.l0 kj2 l0 l1 (wrap64 (x5_1 + 1))) else (some false)) else (none)) else (none)) else (none)) = some r := by rw [if_pos rfl] at H; exact H
            clear H
            have H := H1
            clear H1
            by_cases c6 : 0 ≤ x5_1
            · rw [if_pos c6] at H
              have c6b0 : decide (0 ≤ x5_1) = true := decide_eq_true c6
              clear c6
              by_cases c7 : x5_1 < (l0.length : Int)
              · rw [if_pos c7] at H
                have c7b0 : decide (x5_1 < (l0.length : Int)) = true := decide_eq_true c7
                clear c7
                by_cases c8 : x5_1 < (l1.length : Int)
                · rw [if_pos c8] at H
                  have c8b0 : decide (x5_1 < (l1.length : Int)) = true := decide_eq_true c8
                  clear c8
                  by_cases c9 : (rdOf ByteArray.empty l0 x5_1).toList = (rdOf ByteArray.empty l1 x5_1).toList
                  · rw [if_pos c9] at H
                    have c9b0 : ((rdOf ByteArray.empty l0 x5_1).toList == (rdOf ByteArray.empty l1 x5_1).toList) = true := beq_iff_eq.mpr c9
                    have c9b1 : ((rdOf ByteArray.empty l0 x5_1).toList != (rdOf ByteArray.empty l1 x5_1).toList) = false := bne_eq_false_iff_eq.mpr c9
                    clear c9
                    have H' := Aside0.mk H
                    clear H
                    have p577 : 0 ≤ (x5_1 : Int) := of_decide_eq_true (by first | (with_reducible assumption) | assumption)
                    have q577 : x5_1 < (l0.length : Int) := of_decide_eq_true (by first | (with_reducible assumption) | assumption)
                    obtain ⟨ad577, e577, hx577_0⟩ := Kd.at_string HR0.out x5_1 p577 q577
                    cases e577
                    replace p577 := eq_true p577
                    replace q577 := eq_true q577
                    have p578 : 0 ≤ (x5_1 : Int) := of_decide_eq_true (by first | (with_reducible assumption) | assumption)
                    have q578 : x5_1 < (l1.length : Int) := of_decide_eq_true (by first | (with_reducible assumption) | assumption)
                    obtain ⟨ad578, e578, hx578_0⟩ := Kd.at_string HR1.out x5_1 p578 q578
                    cases e578
                    replace p578 := eq_true p578
                    replace q578 := eq_true q578
                    go_wp2
                    repeat (go_quiet (fail); try go_wp2)
                    go_roundg kj2
                    case measure => have := HK1.out; have := HJ2.out; omega
                    case rel => exact ⟨(wrap64 (x5_1 + 1)), (by first | rfl | (simp; done) | (simp [*]; done)), H', ⟨by have := HK1.out; have := HJ2.out; omega⟩, by repeat (first | exact Drawn0.refl _ | apply Drawn0.step)⟩
                  · rw [if_neg c9] at H
                    have c9b0 : ((rdOf ByteArray.empty l0 x5_1).toList == (rdOf ByteArray.empty l1 x5_1).toList) = false := beq_eq_false_iff_ne.mpr c9
                    have c9b1 : ((rdOf ByteArray.empty l0 x5_1).toList != (rdOf ByteArray.empty l1 x5_1).toList) = true := bne_iff_ne.mpr c9
                    obtain rfl := Option.some.inj H
                    have p577 : 0 ≤ (x5_1 : Int) := of_decide_eq_true (by first | (with_reducible assumption) | assumption)
                    have q577 : x5_1 < (l0.length : Int) := of_decide_eq_true (by first | (with_reducible assumption) | assumption)
                    obtain ⟨ad577, e577, hx577_0⟩ := Kd.at_string HR0.out x5_1 p577 q577
                    cases e577
                    replace p577 := eq_true p577
                    replace q577 := eq_true q577
                    have p578 : 0 ≤ (x5_1 : Int) := of_decide_eq_true (by first | (with_reducible assumption) | assumption)
                    have q578 : x5_1 < (l1.length : Int) := of_decide_eq_true (by first | (with_reducible assumption) | assumption)
                    obtain ⟨ad578, e578, hx578_0⟩ := Kd.at_string HR1.out x5_1 p578 q578
                    cases e578
                    replace p578 := eq_true p578
                    replace q578 := eq_true q578
                    go_wp2
                    repeat (go_quiet (fail); try go_wp2)
                    go_ret
                    exact ⟨by first | rfl | (simp; done) | (simp [*]; done), by repeat (first | exact Drawn0.refl _ | apply Drawn0.step)⟩
                · rw [if_neg c8] at H
                  exact absurd H (by simp)
              · rw [if_neg c7] at H
                exact absurd H (by simp)
            · rw [if_neg c6] at H
              exact absurd H (by simp)
          · replace c5 := Bool.eq_false_iff.mpr c5
            subst c5
            have H1 : (some ((l0.length : Int) == (l1.length : Int))) = some r := by rw [if_neg (show ¬ (false = true) by decide)] at H; exact H
            clear H
            have H := H1
            clear H1
            obtain rfl := Option.some.inj H
            go_wp2
            repeat (go_quiet (fail); try go_wp2)
            go_ret
            exact ⟨by first | rfl | (simp; done) | (simp [*]; done), by repeat (first | exact Drawn0.refl _ | apply Drawn0.step)⟩

/-! ### spec_Suits: function 59 -/
def spec_Suits.f (k : Nat) (l0 : List ByteArray) (l1 : List ByteArray) (l2 : List (S81)) : Option (Bool) := (spec_l8Star.f k l0).bind fun t579 => (if t579 = true then (some false) else ((spec_ValuesOf.f k l0 l2).bind fun t580 => ((spec_l8Texts.f k t580 l1).bind fun t583 => (some t583))))
theorem spec_Suits.mono : ∀ a0 a1 a2 k, LeO (spec_Suits.f k a0 a1 a2) (spec_Suits.f (k + 1) a0 a1 a2) := by
  intro a0 a1 a2 k
  unfold spec_Suits.f
  repeat' first
      | (with_reducible exact spec_ValuesOf.mono _ _ _)
      | (with_reducible exact spec_l8Star.mono _ _)
      | (with_reducible exact spec_l8Texts.mono _ _ _)
      | (with_reducible exact LeO.refl _)
      | (with_reducible exact LeO.none _)
      | (with_reducible refine LeO.ite ?_ ?_)
      | (with_reducible refine LeO.bind ?_ (fun _ => ?_))
      | exact spec_ValuesOf.mono _ _ _
      | exact spec_l8Star.mono _ _
      | exact spec_l8Texts.mono _ _ _
      | exact LeO.none _
      | refine LeO.ite ?_ ?_
      | refine LeO.bind ?_ (fun _ => ?_)
set_option maxHeartbeats 8000000 in
set_option maxRecDepth 100000 in
theorem spec_Suits.calls (k : Nat) (A0 : Option Addr) (c0 : Nat) (l0 : List ByteArray) (A1 : Option Addr) (c1 : Nat) (l1 : List ByteArray) (A2 : Option Addr) (c2 : Nat) (l2 : List (S81)) (r : Bool) (w : World) (hr0 : Kd.C Kd.string w A0 l0.length l0) (hc0 : l0.length ≤ c0) (hr1 : Kd.C Kd.string w A1 l1.length l1) (hc1 : l1.length ≤ c1) (hr2 : Kd.C k81 w A2 l2.length l2) (hc2 : l2.length ≤ c2) (h : spec_Suits.f k l0 l1 l2 = some r) :
    Calls Try.prog 59 #[.slice A0 l0.length c0, .slice A1 l1.length c1, .slice A2 l2.length c2] w fun e w' => e = .returned (.bool r) ∧ Below w.heap.size w w' := by
  have HR0 := Aside0.mk hr0
  have HC0 := Aside0.mk hc0
  clear hr0 hc0
  have HR1 := Aside0.mk hr1
  have HC1 := Aside0.mk hc1
  clear hr1 hc1
  have HR2 := Aside0.mk hr2
  have HC2 := Aside0.mk hc2
  clear hr2 hc2
  have HB := Aside0.mk (Below.refl w.heap.size w)
  have H : ((spec_l8Star.f k l0).bind fun t579 => (if t579 = true then (some false) else ((spec_ValuesOf.f k l0 l2).bind fun t580 => ((spec_l8Texts.f k t580 l1).bind fun t583 => (some t583))))) = some r := h
  clear h
  replace H := Option.bind_eq_some_iff.mp H
  obtain ⟨t579, A40, H⟩ := H
  replace H : (if t579 = true then (some false) else ((spec_ValuesOf.f k l0 l2).bind fun t580 => ((spec_l8Texts.f k t580 l1).bind fun t583 => (some t583)))) = some r := H
  have A4 := Aside0.mk A40
  clear A40
  by_cases c5 : t579 = true
  · subst c5
    have H1 : (some false) = some r := by rw [if_pos rfl] at H; exact H
    clear H
    have H := H1
    clear H1
    obtain rfl := Option.some.inj H
    go_enter Try.func59, Try.ntmps59
    go_wp2_with (first | ((with_reducible refine gate_callee (f := 76) rfl ?_); refine goesL_ (some 8) rfl rfl Try.func76 (by kernel_rfl) rfl #[.slice A0 l0.length c0] rfl ma ?_; (with_reducible refine (spec_l8Star.calls k _ _ l0 true _ ?side1 ?side2 A4.out).mono ?_); (case side1 => repeat (first | exact HR0.out | (with_reducible refine Kd.C_alloc ?_ _) | (with_reducible refine Kd.C_drewN ?_ _) | (with_reducible refine Kd.C_drew ?_))); (case side2 => exact HC0.out); rintro e w' ⟨rfl, ⟨nd, rfl⟩⟩; refine ⟨_, rfl, ?_⟩))
    go_ret
    exact ⟨rf, bl⟩
  · replace c5 := Bool.eq_false_iff.mpr c5
    subst c5
    have H1 : ((spec_ValuesOf.f k l0 l2).bind fun t580 => ((spec_l8Texts.f k t580 l1).bind fun t583 => (some t583))) = some r := by rw [if_neg (show ¬ (false = true) by decide)] at H; exact H
    clear H
    have H := H1
    clear H1
    replace H := Option.bind_eq_some_iff.mp H
    obtain ⟨t580, A60, H⟩ := H
    replace H : ((spec_l8Texts.f k t580 l1).bind fun t583 => (some t583)) = some r := H
    have A6 := Aside0.mk A60
    clear A60
    replace H := Option.bind_eq_some_iff.mp H
    obtain ⟨t583, A70, H⟩ := H
    replace H : (some t583) = some r := H
    have A7 := Aside0.mk A70
    clear A70
    obtain rfl := Option.some.inj H
    go_enter Try.func59, Try.ntmps59
    go_wp2_with (first | ((with_reducible refine gate_callee (f := 76) rfl ?_); refine goesL_ (some 8) rfl rfl Try.func76 (by kernel_rfl) rfl #[.slice A0 l0.length c0] rfl ma ?_; (with_reducible refine (spec_l8Star.calls k _ _ l0 false _ ?side1 ?side2 A4.out).mono ?_); (case side1 => repeat (first | exact HR0.out | (with_reducible refine Kd.C_alloc ?_ _) | (with_reducible refine Kd.C_drewN ?_ _) | (with_reducible refine Kd.C_drew ?_))); (case side2 => exact HC0.out); rintro e w' ⟨rfl, ⟨nd, rfl⟩⟩; refine ⟨_, rfl, ?_⟩) | (go_at_call 56; (with_reducible refine (spec_ValuesOf.calls k _ _ l0 _ _ l2 t580 _ ?side1 ?side2 ?side3 ?side4 A6.out).mono ?_); (case side1 => repeat (first | exact HR0.out | (with_reducible refine Kd.C_alloc ?_ _) | (with_reducible refine Kd.C_drewN ?_ _) | (with_reducible refine Kd.C_drew ?_))); (case side2 => exact HC0.out); (case side3 => repeat (first | exact HR2.out | (with_reducible refine Kd.C_alloc ?_ _) | (with_reducible refine Kd.C_drewN ?_ _) | (with_reducible refine Kd.C_drew ?_))); (case side4 => exact HC2.out); rintro e w8 ⟨v581, rfl, ho0, hb⟩; have n0_ := Aside0.mk (Kd.R_lower ho0 (below_size bl)); have n1_ := Aside0.mk (below_step bl hb); clear HB; have HO582 := n0_; have HB := n1_; clear n0_ n1_; (try clear hb); (try clear hb2); (try clear hk); (try clear hi); (try clear ho0); obtain ⟨Ao9, co9, eo9⟩ := Kd.R_slice HO582.out; subst eo9) | (go_at_call 77; (with_reducible refine (spec_l8Texts.calls k _ _ t580 _ _ l1 t583 _ ?side1 ?side2 ?side3 ?side4 A7.out).mono ?_); (case side1 => repeat (first | exact (Kd.R_reads' HO582.out).2.2 | (with_reducible refine Kd.C_alloc ?_ _) | (with_reducible refine Kd.C_drewN ?_ _) | (with_reducible refine Kd.C_drew ?_))); (case side2 => exact (Kd.R_reads' HO582.out).2.1); (case side3 => repeat (first | exact (Kd.C_below HR1.out HB.out) | (with_reducible refine Kd.C_alloc ?_ _) | (with_reducible refine Kd.C_drewN ?_ _) | (with_reducible refine Kd.C_drew ?_))); (case side4 => exact HC1.out); rintro e w' ⟨rfl, ⟨nd, rfl⟩⟩))
    go_ret
    exact ⟨rf, bl⟩

end Go.Proofs.Ytdlgjhckmkmjhaa.All
