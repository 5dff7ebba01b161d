-- Written by a program of this session (wip/tools/hprint.py) out of the translation. Lean checks it.
import Derived.Test.YtdlgjhckmkmjhaaAllx0
import Derived.Test.YtdlgjhckmkmjhaaAllx3
import Derived.Test.YtdlgjhckmkmjhaaAllx9
import Derived.Test.YtdlgjhckmkmjhaaAllx10
import Derived.Test.YtdlgjhckmkmjhaaAllx11
namespace Go.Proofs.Ytdlgjhckmkmjhaa.All
open Go.RowKit Go.Proofs.YtdlgjhckmkmjhaaW.PrintWords Go.Proofs.YtdlgjhckmkmjhaaW.PrintLast Go.Proofs.YtdlgjhckmkmjhaaW.PrintMore
attribute [local go_sem] max2_int min2_int max_two min_two max_three min_three max_four min_four   -- for this text's walks alone
set_option linter.unusedVariables false
set_option linter.unusedSimpArgs false

/-! ### laws_FnExactShort: function 13 -/
def laws_FnExactShort.j0 : Nat → Bool → Int → List (S79) → ByteArray → Int → List (S81) → ByteArray → Int → List (S81) → ByteArray → Option (Bool)
  | 0, _, _, _, _, _, _, _, _, _, _ => none
  | k + 1, x42, x451000, x451001, x451002, x463000, x463001, x463002, x475000, x475001, x475002 => if x42 = true then (some false) else ((laws_markResp.f k x475000 x475001 x475002 1).bind fun bt485 => ((laws_heldResp.f k x475000 bt485.2 x475002 1).bind fun t487 => (if t487 < 0 then (some false) else (if t487 = bt485.1 then ((laws_toResp.f k x451000 x451001 x451002).bind fun bt488 => ((impl_Short.f k bt488.1 bt488.2.1 bt488.2.2).bind fun bt493 => ((laws_eqResp.f k bt493.1 bt493.2.1 bt493.2.2 x463000 x463001 x463002).bind fun t499 => (if t499 = true then ((laws_heldResp.f k x475000 bt485.2 x475002 1).bind fun t500 => (if t500 < 0 then (some false) else (if t500 = bt485.1 then (some true) else (some false)))) else (some false))))) else (some false)))))
def laws_FnExactShort.f (k : Nat) (a0_0 : Int) (l0_1 : List (S79)) (a0_2 : ByteArray) : Option (Bool) := (laws_szResp.f k a0_0 l0_1 a0_2 1048576).bind fun t451 => (if t451 < 0 then (some true) else ((laws_toResp.f k a0_0 l0_1 a0_2).bind fun bt452 => ((spec_Short.f k bt452.1 bt452.2.1 bt452.2.2).bind fun bt457 => ((laws_toResp.f k a0_0 l0_1 a0_2).bind fun bt463 => ((impl_Short.f k bt463.1 bt463.2.1 bt463.2.2).bind fun bt469 => ((laws_eqResp.f k bt469.1 bt469.2.1 bt469.2.2 bt457.1 bt457.2.1 bt457.2.2).bind fun t475 => (if t475 = true then ((laws_toResp.f k a0_0 l0_1 a0_2).bind fun bt476 => ((laws_eqResp.f k bt463.1 bt463.2.1 bt463.2.2 bt476.1 bt476.2.1 bt476.2.2).bind fun t481 => (if t481 = true then ((laws_markResp.f k bt463.1 bt463.2.1 bt463.2.2 1).bind fun bt482 => (if bt482.1 < 0 then (laws_FnExactShort.j0 k true a0_0 l0_1 a0_2 bt457.1 bt457.2.1 bt457.2.2 bt469.1 bt469.2.1 bt469.2.2) else ((laws_eqResp.f k bt469.1 bt469.2.1 bt469.2.2 bt457.1 bt457.2.1 bt457.2.2).bind fun t484 => (laws_FnExactShort.j0 k (!t484) a0_0 l0_1 a0_2 bt457.1 bt457.2.1 bt457.2.2 bt469.1 bt469.2.1 bt469.2.2)))) else (some false)))) else (some false))))))))
theorem laws_FnExactShort.mono_l : ∀ k, (∀ y0 y1 y2 y3 y4 y5 y6 y7 y8 y9, LeO (laws_FnExactShort.j0 k y0 y1 y2 y3 y4 y5 y6 y7 y8 y9) (laws_FnExactShort.j0 (k + 1) y0 y1 y2 y3 y4 y5 y6 y7 y8 y9))
  | 0 => fun _ _ _ _ _ _ _ _ _ _ r h => by simp [laws_FnExactShort.j0] at h
  | k + 1 => by
    have ih0 := laws_FnExactShort.mono_l k
    · intro y0 y1 y2 y3 y4 y5 y6 y7 y8 y9
      unfold laws_FnExactShort.j0
      repeat' first
      | (with_reducible exact ih0 _ _ _ _ _ _ _ _ _ _)
      | (with_reducible exact impl_Short.mono _ _ _ _)
      | (with_reducible exact laws_eqResp.mono _ _ _ _ _ _ _)
      | (with_reducible exact laws_heldResp.mono _ _ _ _ _)
      | (with_reducible exact laws_markResp.mono _ _ _ _ _)
      | (with_reducible exact laws_szResp.mono _ _ _ _ _)
      | (with_reducible exact laws_toResp.mono _ _ _ _)
      | (with_reducible exact spec_Short.mono _ _ _ _)
      | (with_reducible exact LeO.refl _)
      | (with_reducible exact LeO.none _)
      | (with_reducible refine LeO.ite ?_ ?_)
      | (with_reducible refine LeO.bind ?_ (fun _ => ?_))
      | exact ih0 _ _ _ _ _ _ _ _ _ _
      | exact impl_Short.mono _ _ _ _
      | exact laws_eqResp.mono _ _ _ _ _ _ _
      | exact laws_heldResp.mono _ _ _ _ _
      | exact laws_markResp.mono _ _ _ _ _
      | exact laws_szResp.mono _ _ _ _ _
      | exact laws_toResp.mono _ _ _ _
      | exact spec_Short.mono _ _ _ _
      | exact LeO.none _
      | refine LeO.ite ?_ ?_
      | refine LeO.bind ?_ (fun _ => ?_)
theorem laws_FnExactShort.mono : ∀ a0 a1 a2 k, LeO (laws_FnExactShort.f k a0 a1 a2) (laws_FnExactShort.f (k + 1) a0 a1 a2) := by
  intro a0 a1 a2 k
  have ih0 := laws_FnExactShort.mono_l k
  unfold laws_FnExactShort.f
  repeat' first
      | (with_reducible exact ih0 _ _ _ _ _ _ _ _ _ _)
      | (with_reducible exact impl_Short.mono _ _ _ _)
      | (with_reducible exact laws_eqResp.mono _ _ _ _ _ _ _)
      | (with_reducible exact laws_heldResp.mono _ _ _ _ _)
      | (with_reducible exact laws_markResp.mono _ _ _ _ _)
      | (with_reducible exact laws_szResp.mono _ _ _ _ _)
      | (with_reducible exact laws_toResp.mono _ _ _ _)
      | (with_reducible exact spec_Short.mono _ _ _ _)
      | (with_reducible exact LeO.refl _)
      | (with_reducible exact LeO.none _)
      | (with_reducible refine LeO.ite ?_ ?_)
      | (with_reducible refine LeO.bind ?_ (fun _ => ?_))
      | exact ih0 _ _ _ _ _ _ _ _ _ _
      | exact impl_Short.mono _ _ _ _
      | exact laws_eqResp.mono _ _ _ _ _ _ _
      | exact laws_heldResp.mono _ _ _ _ _
      | exact laws_markResp.mono _ _ _ _ _
      | exact laws_szResp.mono _ _ _ _ _
      | exact laws_toResp.mono _ _ _ _
      | exact spec_Short.mono _ _ _ _
      | exact LeO.none _
      | refine LeO.ite ?_ ?_
      | refine LeO.bind ?_ (fun _ => ?_)
set_option maxHeartbeats 8000000 in
set_option maxRecDepth 100000 in
theorem laws_FnExactShort.calls (k : Nat) (a0_0 : Int) (A0_1 : Option Addr) (c0_1 : Nat) (l0_1 : List (S79)) (a0_2 : ByteArray) (r : Bool) (w : World) (hr0_1 : Kd.C k79 w A0_1 l0_1.length l0_1) (hc0_1 : l0_1.length ≤ c0_1) (ht_ : r = true) (h : laws_FnExactShort.f k a0_0 l0_1 a0_2 = some r) :
    Calls Try.prog 13 #[.agg #[.int .i64 a0_0, .slice A0_1 l0_1.length c0_1, .string a0_2]] w fun e w' => e = .returned (.bool r) ∧ Below w.heap.size w w' := by
  have hu60 := Try.underlying60
  have hu63 := Try.underlying63
  have HR0_1 := Aside0.mk hr0_1
  have HC0_1 := Aside0.mk hc0_1
  clear hr0_1 hc0_1
  have HB := Aside0.mk (Below.refl w.heap.size w)
  have H : ((laws_szResp.f k a0_0 l0_1 a0_2 1048576).bind fun t451 => (if t451 < 0 then (some true) else ((laws_toResp.f k a0_0 l0_1 a0_2).bind fun bt452 => ((spec_Short.f k bt452.1 bt452.2.1 bt452.2.2).bind fun bt457 => ((laws_toResp.f k a0_0 l0_1 a0_2).bind fun bt463 => ((impl_Short.f k bt463.1 bt463.2.1 bt463.2.2).bind fun bt469 => ((laws_eqResp.f k bt469.1 bt469.2.1 bt469.2.2 bt457.1 bt457.2.1 bt457.2.2).bind fun t475 => (if t475 = true then ((laws_toResp.f k a0_0 l0_1 a0_2).bind fun bt476 => ((laws_eqResp.f k bt463.1 bt463.2.1 bt463.2.2 bt476.1 bt476.2.1 bt476.2.2).bind fun t481 => (if t481 = true then ((laws_markResp.f k bt463.1 bt463.2.1 bt463.2.2 1).bind fun bt482 => (if bt482.1 < 0 then (laws_FnExactShort.j0 k true a0_0 l0_1 a0_2 bt457.1 bt457.2.1 bt457.2.2 bt469.1 bt469.2.1 bt469.2.2) else ((laws_eqResp.f k bt469.1 bt469.2.1 bt469.2.2 bt457.1 bt457.2.1 bt457.2.2).bind fun t484 => (laws_FnExactShort.j0 k (!t484) a0_0 l0_1 a0_2 bt457.1 bt457.2.1 bt457.2.2 bt469.1 bt469.2.1 bt469.2.2)))) else (some false)))) else (some false))))))))) = some r := h
  clear h
  replace H := Option.bind_eq_some_iff.mp H
  obtain ⟨t451, A20, H⟩ := H
  replace H : (if t451 < 0 then (some true) else ((laws_toResp.f k a0_0 l0_1 a0_2).bind fun bt452 => ((spec_Short.f k bt452.1 bt452.2.1 bt452.2.2).bind fun bt457 => ((laws_toResp.f k a0_0 l0_1 a0_2).bind fun bt463 => ((impl_Short.f k bt463.1 bt463.2.1 bt463.2.2).bind fun bt469 => ((laws_eqResp.f k bt469.1 bt469.2.1 bt469.2.2 bt457.1 bt457.2.1 bt457.2.2).bind fun t475 => (if t475 = true then ((laws_toResp.f k a0_0 l0_1 a0_2).bind fun bt476 => ((laws_eqResp.f k bt463.1 bt463.2.1 bt463.2.2 bt476.1 bt476.2.1 bt476.2.2).bind fun t481 => (if t481 = true then ((laws_markResp.f k bt463.1 bt463.2.1 bt463.2.2 1).bind fun bt482 => (if bt482.1 < 0 then (laws_FnExactShort.j0 k true a0_0 l0_1 a0_2 bt457.1 bt457.2.1 bt457.2.2 bt469.1 bt469.2.1 bt469.2.2) else ((laws_eqResp.f k bt469.1 bt469.2.1 bt469.2.2 bt457.1 bt457.2.1 bt457.2.2).bind fun t484 => (laws_FnExactShort.j0 k (!t484) a0_0 l0_1 a0_2 bt457.1 bt457.2.1 bt457.2.2 bt469.1 bt469.2.1 bt469.2.2)))) else (some false)))) else (some false)))))))) = some r := H
  have A2 := Aside0.mk A20
  clear A20
  by_cases c3 : t451 < 0
  · rw [if_pos c3] at H
    have c3b0 : decide (t451 < 0) = true := decide_eq_true c3
    clear c3
    obtain rfl := Option.some.inj H
    go_enter Try.func13, Try.ntmps13
    go_wp2_with (first | ((with_reducible refine gate_dst (N := 1) rfl ?_); refine box_event ?hg (N := 1) ?hd (cs := #[.int .i64 a0_0, .slice A0_1 l0_1.length c0_1, .string a0_2]) (t := 60) ?hr ?_; (case hd => rfl); (case hg => rfl); (case hr => first | (go_simp; done) | (go_simp; rfl)); intro gb450 hg w4 hbox hb; have n0_ := Aside0.mk (below_step bl hb); have n1_ := Aside0.mk (hbox); have n2_ := Aside0.mk ((by rw [hg]; exact (below_size bl) : w.heap.size ≤ gb450)); have n3_ := Aside0.mk ((by rw [hg]; exact (below_size bl) : w.heap.size ≤ gb450)); clear HB; have HB := n0_; have BK450 := n1_; have GW450 := n2_; have GE450 := n3_; clear n0_ n1_ n2_ n3_; clear hb hbox hg; have hcz5_0 : w4.cell? ⟨gb450, 0, none⟩ = some (.int .i64 a0_0) := (blk_cell BK450.out 0).trans rfl; have hcz5_1 : w4.cell? ⟨gb450, 1, none⟩ = some (.slice A0_1 l0_1.length c0_1) := (blk_cell BK450.out 1).trans rfl; have hcz5_2 : w4.cell? ⟨gb450, 2, none⟩ = some (.string a0_2) := (blk_cell BK450.out 2).trans rfl; have hfz5_0 := blk_frozen BK450.out 0; have hfz5_1 := blk_frozen BK450.out 1; have hfz5_2 := blk_frozen BK450.out 2) | ((with_reducible refine gate_callee (f := 48) rfl ?_); refine goesL_ (some 13) rfl rfl Try.func48 (by kernel_rfl) rfl #[.agg #[.int .i64 a0_0, .slice A0_1 l0_1.length c0_1, .string a0_2], .int .i64 1048576] rfl ma ?_; (with_reducible refine (laws_szResp.calls k a0_0 _ _ l0_1 a0_2 1048576 t451 _ ?side1 ?side2 A2.out).mono ?_); (case side1 => repeat (first | exact (Kd.C_below HR0_1.out HB.out) | (with_reducible refine Kd.C_alloc ?_ _) | (with_reducible refine Kd.C_drewN ?_ _) | (with_reducible refine Kd.C_drew ?_))); (case side2 => exact HC0_1.out); rintro e w6 ⟨rfl, hb⟩; refine ⟨_, rfl, ?_⟩; replace BK450 := kb BK450 hb; replace HB := Aside0.mk (below_step bl hb); (try clear hb); (try clear hb2); (try clear hk); (try clear hi)))
    go_ret
    exact ⟨rf, bl⟩
  · rw [if_neg c3] at H
    have c3b0 : decide (t451 < 0) = false := decide_eq_false c3
    clear c3
    replace H := Option.bind_eq_some_iff.mp H
    obtain ⟨⟨t452, t453, t456⟩, A70, H⟩ := H
    replace H : ((spec_Short.f k t452 t453 t456).bind fun bt457 => ((laws_toResp.f k a0_0 l0_1 a0_2).bind fun bt463 => ((impl_Short.f k bt463.1 bt463.2.1 bt463.2.2).bind fun bt469 => ((laws_eqResp.f k bt469.1 bt469.2.1 bt469.2.2 bt457.1 bt457.2.1 bt457.2.2).bind fun t475 => (if t475 = true then ((laws_toResp.f k a0_0 l0_1 a0_2).bind fun bt476 => ((laws_eqResp.f k bt463.1 bt463.2.1 bt463.2.2 bt476.1 bt476.2.1 bt476.2.2).bind fun t481 => (if t481 = true then ((laws_markResp.f k bt463.1 bt463.2.1 bt463.2.2 1).bind fun bt482 => (if bt482.1 < 0 then (laws_FnExactShort.j0 k true a0_0 l0_1 a0_2 bt457.1 bt457.2.1 bt457.2.2 bt469.1 bt469.2.1 bt469.2.2) else ((laws_eqResp.f k bt469.1 bt469.2.1 bt469.2.2 bt457.1 bt457.2.1 bt457.2.2).bind fun t484 => (laws_FnExactShort.j0 k (!t484) a0_0 l0_1 a0_2 bt457.1 bt457.2.1 bt457.2.2 bt469.1 bt469.2.1 bt469.2.2)))) else (some false)))) else (some false)))))) = some r := H
    have A7 := Aside0.mk A70
    clear A70
    replace H := Option.bind_eq_some_iff.mp H
    obtain ⟨⟨t457, t458, t461⟩, A80, H⟩ := H
    replace H : ((laws_toResp.f k a0_0 l0_1 a0_2).bind fun bt463 => ((impl_Short.f k bt463.1 bt463.2.1 bt463.2.2).bind fun bt469 => ((laws_eqResp.f k bt469.1 bt469.2.1 bt469.2.2 t457 t458 t461).bind fun t475 => (if t475 = true then ((laws_toResp.f k a0_0 l0_1 a0_2).bind fun bt476 => ((laws_eqResp.f k bt463.1 bt463.2.1 bt463.2.2 bt476.1 bt476.2.1 bt476.2.2).bind fun t481 => (if t481 = true then ((laws_markResp.f k bt463.1 bt463.2.1 bt463.2.2 1).bind fun bt482 => (if bt482.1 < 0 then (laws_FnExactShort.j0 k true a0_0 l0_1 a0_2 t457 t458 t461 bt469.1 bt469.2.1 bt469.2.2) else ((laws_eqResp.f k bt469.1 bt469.2.1 bt469.2.2 t457 t458 t461).bind fun t484 => (laws_FnExactShort.j0 k (!t484) a0_0 l0_1 a0_2 t457 t458 t461 bt469.1 bt469.2.1 bt469.2.2)))) else (some false)))) else (some false))))) = some r := H
    have A8 := Aside0.mk A80
    clear A80
    replace H := Option.bind_eq_some_iff.mp H
    obtain ⟨⟨t463, t464, t467⟩, A90, H⟩ := H
    replace H : ((impl_Short.f k t463 t464 t467).bind fun bt469 => ((laws_eqResp.f k bt469.1 bt469.2.1 bt469.2.2 t457 t458 t461).bind fun t475 => (if t475 = true then ((laws_toResp.f k a0_0 l0_1 a0_2).bind fun bt476 => ((laws_eqResp.f k t463 t464 t467 bt476.1 bt476.2.1 bt476.2.2).bind fun t481 => (if t481 = true then ((laws_markResp.f k t463 t464 t467 1).bind fun bt482 => (if bt482.1 < 0 then (laws_FnExactShort.j0 k true a0_0 l0_1 a0_2 t457 t458 t461 bt469.1 bt469.2.1 bt469.2.2) else ((laws_eqResp.f k bt469.1 bt469.2.1 bt469.2.2 t457 t458 t461).bind fun t484 => (laws_FnExactShort.j0 k (!t484) a0_0 l0_1 a0_2 t457 t458 t461 bt469.1 bt469.2.1 bt469.2.2)))) else (some false)))) else (some false)))) = some r := H
    have A9 := Aside0.mk A90
    clear A90
    replace H := Option.bind_eq_some_iff.mp H
    obtain ⟨⟨t469, t470, t473⟩, A100, H⟩ := H
    replace H : ((laws_eqResp.f k t469 t470 t473 t457 t458 t461).bind fun t475 => (if t475 = true then ((laws_toResp.f k a0_0 l0_1 a0_2).bind fun bt476 => ((laws_eqResp.f k t463 t464 t467 bt476.1 bt476.2.1 bt476.2.2).bind fun t481 => (if t481 = true then ((laws_markResp.f k t463 t464 t467 1).bind fun bt482 => (if bt482.1 < 0 then (laws_FnExactShort.j0 k true a0_0 l0_1 a0_2 t457 t458 t461 t469 t470 t473) else ((laws_eqResp.f k t469 t470 t473 t457 t458 t461).bind fun t484 => (laws_FnExactShort.j0 k (!t484) a0_0 l0_1 a0_2 t457 t458 t461 t469 t470 t473)))) else (some false)))) else (some false))) = some r := H
    have A10 := Aside0.mk A100
    clear A100
    replace H := Option.bind_eq_some_iff.mp H
    obtain ⟨t475, A110, H⟩ := H
    replace H : (if t475 = true then ((laws_toResp.f k a0_0 l0_1 a0_2).bind fun bt476 => ((laws_eqResp.f k t463 t464 t467 bt476.1 bt476.2.1 bt476.2.2).bind fun t481 => (if t481 = true then ((laws_markResp.f k t463 t464 t467 1).bind fun bt482 => (if bt482.1 < 0 then (laws_FnExactShort.j0 k true a0_0 l0_1 a0_2 t457 t458 t461 t469 t470 t473) else ((laws_eqResp.f k t469 t470 t473 t457 t458 t461).bind fun t484 => (laws_FnExactShort.j0 k (!t484) a0_0 l0_1 a0_2 t457 t458 t461 t469 t470 t473)))) else (some false)))) else (some false)) = some r := H
    have A11 := Aside0.mk A110
    clear A110
    by_cases c12 : t475 = true
    · subst c12
      have H1 : ((laws_toResp.f k a0_0 l0_1 a0_2).bind fun bt476 => ((laws_eqResp.f k t463 t464 t467 bt476.1 bt476.2.1 bt476.2.2).bind fun t481 => (if t481 = true then ((laws_markResp.f k t463 t464 t467 1).bind fun bt482 => (if bt482.1 < 0 then (laws_FnExactShort.j0 k true a0_0 l0_1 a0_2 t457 t458 t461 t469 t470 t473) else ((laws_eqResp.f k t469 t470 t473 t457 t458 t461).bind fun t484 => (laws_FnExactShort.j0 k (!t484) a0_0 l0_1 a0_2 t457 t458 t461 t469 t470 t473)))) else (some false)))) = some r := by rw [if_pos rfl] at H; exact H
      clear H
      have H := H1
      clear H1
      replace H := Option.bind_eq_some_iff.mp H
      obtain ⟨⟨t476, t477, t480⟩, A130, H⟩ := H
      replace H : ((laws_eqResp.f k t463 t464 t467 t476 t477 t480).bind fun t481 => (if t481 = true then ((laws_markResp.f k t463 t464 t467 1).bind fun bt482 => (if bt482.1 < 0 then (laws_FnExactShort.j0 k true a0_0 l0_1 a0_2 t457 t458 t461 t469 t470 t473) else ((laws_eqResp.f k t469 t470 t473 t457 t458 t461).bind fun t484 => (laws_FnExactShort.j0 k (!t484) a0_0 l0_1 a0_2 t457 t458 t461 t469 t470 t473)))) else (some false))) = some r := H
      have A13 := Aside0.mk A130
      clear A130
      replace H := Option.bind_eq_some_iff.mp H
      obtain ⟨t481, A140, H⟩ := H
      replace H : (if t481 = true then ((laws_markResp.f k t463 t464 t467 1).bind fun bt482 => (if bt482.1 < 0 then (laws_FnExactShort.j0 k true a0_0 l0_1 a0_2 t457 t458 t461 t469 t470 t473) else ((laws_eqResp.f k t469 t470 t473 t457 t458 t461).bind fun t484 => (laws_FnExactShort.j0 k (!t484) a0_0 l0_1 a0_2 t457 t458 t461 t469 t470 t473)))) else (some false)) = some r := H
      have A14 := Aside0.mk A140
      clear A140
      by_cases c15 : t481 = true
      · subst c15
        have H1 : ((laws_markResp.f k t463 t464 t467 1).bind fun bt482 => (if bt482.1 < 0 then (laws_FnExactShort.j0 k true a0_0 l0_1 a0_2 t457 t458 t461 t469 t470 t473) else ((laws_eqResp.f k t469 t470 t473 t457 t458 t461).bind fun t484 => (laws_FnExactShort.j0 k (!t484) a0_0 l0_1 a0_2 t457 t458 t461 t469 t470 t473)))) = some r := by rw [if_pos rfl] at H; exact H
        clear H
        have H := H1
        clear H1
        replace H := Option.bind_eq_some_iff.mp H
        obtain ⟨⟨t482, t483⟩, A160, H⟩ := H
        replace H : (if t482 < 0 then (laws_FnExactShort.j0 k true a0_0 l0_1 a0_2 t457 t458 t461 t469 t470 t473) else ((laws_eqResp.f k t469 t470 t473 t457 t458 t461).bind fun t484 => (laws_FnExactShort.j0 k (!t484) a0_0 l0_1 a0_2 t457 t458 t461 t469 t470 t473))) = some r := H
        have A16 := Aside0.mk A160
        clear A160
        have HC17 := Aside0.mk H
        clear H
        go_enter Try.func13, Try.ntmps13
        try go_wp2_with (first | ((with_reducible refine gate_dst (N := 1) rfl ?_); refine box_event ?hg (N := 1) ?hd (cs := #[.int .i64 a0_0, .slice A0_1 l0_1.length c0_1, .string a0_2]) (t := 60) ?hr ?_; (case hd => rfl); (case hg => rfl); (case hr => first | (go_simp; done) | (go_simp; rfl)); intro gb450 hg w18 hbox hb; have n0_ := Aside0.mk (below_step bl hb); have n1_ := Aside0.mk (hbox); have n2_ := Aside0.mk ((by rw [hg]; exact (below_size bl) : w.heap.size ≤ gb450)); have n3_ := Aside0.mk ((by rw [hg]; exact (below_size bl) : w.heap.size ≤ gb450)); clear HB; have HB := n0_; have BK450 := n1_; have GW450 := n2_; have GE450 := n3_; clear n0_ n1_ n2_ n3_; clear hb hbox hg; have hcz19_0 : w18.cell? ⟨gb450, 0, none⟩ = some (.int .i64 a0_0) := (blk_cell BK450.out 0).trans rfl; have hcz19_1 : w18.cell? ⟨gb450, 1, none⟩ = some (.slice A0_1 l0_1.length c0_1) := (blk_cell BK450.out 1).trans rfl; have hcz19_2 : w18.cell? ⟨gb450, 2, none⟩ = some (.string a0_2) := (blk_cell BK450.out 2).trans rfl; have hfz19_0 := blk_frozen BK450.out 0; have hfz19_1 := blk_frozen BK450.out 1; have hfz19_2 := blk_frozen BK450.out 2) | ((with_reducible refine gate_callee (f := 48) rfl ?_); refine goesL_ (some 13) rfl rfl Try.func48 (by kernel_rfl) rfl #[.agg #[.int .i64 a0_0, .slice A0_1 l0_1.length c0_1, .string a0_2], .int .i64 1048576] rfl ma ?_; (with_reducible refine (laws_szResp.calls k a0_0 _ _ l0_1 a0_2 1048576 t451 _ ?side1 ?side2 A2.out).mono ?_); (case side1 => repeat (first | exact (Kd.C_below HR0_1.out HB.out) | (with_reducible refine Kd.C_alloc ?_ _) | (with_reducible refine Kd.C_drewN ?_ _) | (with_reducible refine Kd.C_drew ?_))); (case side2 => exact HC0_1.out); rintro e w20 ⟨rfl, hb⟩; refine ⟨_, rfl, ?_⟩; replace BK450 := kb BK450 hb; replace HB := Aside0.mk (below_step bl hb); (try clear hb); (try clear hb2); (try clear hk); (try clear hi); have hcz21_0 : w20.cell? ⟨gb450, 0, none⟩ = some (.int .i64 a0_0) := (blk_cell BK450.out 0).trans rfl; have hcz21_1 : w20.cell? ⟨gb450, 1, none⟩ = some (.slice A0_1 l0_1.length c0_1) := (blk_cell BK450.out 1).trans rfl; have hcz21_2 : w20.cell? ⟨gb450, 2, none⟩ = some (.string a0_2) := (blk_cell BK450.out 2).trans rfl; have hfz21_0 := blk_frozen BK450.out 0; have hfz21_1 := blk_frozen BK450.out 1; have hfz21_2 := blk_frozen BK450.out 2) | ((with_reducible refine gate_callee (f := 50) rfl ?_); refine goesL_ (some 17) rfl rfl Try.func50 (by kernel_rfl) rfl #[.agg #[.int .i64 a0_0, .slice A0_1 l0_1.length c0_1, .string a0_2]] rfl ma ?_; (with_reducible refine (laws_toResp.calls k a0_0 _ _ l0_1 a0_2 t452 t453 t456 _ ?side1 ?side2 A7.out).mono ?_); (case side1 => repeat (first | exact (Kd.C_below HR0_1.out HB.out) | (with_reducible refine Kd.C_alloc ?_ _) | (with_reducible refine Kd.C_drewN ?_ _) | (with_reducible refine Kd.C_drew ?_))); (case side2 => exact HC0_1.out); rintro e w22 ⟨v454, rfl, ho0, hb⟩; refine ⟨_, rfl, ?_⟩; have HO455 := Aside0.mk (Kd.R_lower ho0 (below_size bl)); replace BK450 := kb BK450 hb; replace HB := Aside0.mk (below_step bl hb); (try clear hb); (try clear hb2); (try clear hk); (try clear hi); (try clear ho0); obtain ⟨Ao23, co23, eo23⟩ := Kd.R_slice HO455.out; subst eo23) | ((with_reducible refine gate_callee (f := 49) rfl ?_); refine goesL_ (some 18) rfl rfl Try.func49 (by kernel_rfl) rfl #[.agg #[.int .i64 t452, .slice Ao23 t453.length co23, .string t456]] rfl ma ?_; (with_reducible refine (spec_Short.calls k t452 _ _ t453 t456 t457 t458 t461 _ ?side1 ?side2 A8.out).mono ?_); (case side1 => repeat (first | exact (Kd.R_reads' HO455.out).2.2 | (with_reducible refine Kd.C_alloc ?_ _) | (with_reducible refine Kd.C_drewN ?_ _) | (with_reducible refine Kd.C_drew ?_))); (case side2 => exact (Kd.R_reads' HO455.out).2.1); rintro e w24 ⟨v459, rfl, ho0, hb⟩; refine ⟨_, rfl, ?_⟩; have HO460 := Aside0.mk (Kd.R_lower (Kd.R_new' ho0 (Kd.R_lt (ro HO455))) (below_size bl)); replace HO455 := Aside0.mk (Kd.R_elder' (ro HO455) (Kd.R_base ho0) hb); replace BK450 := kb BK450 hb; replace HB := Aside0.mk (below_step bl hb); (try clear hb); (try clear hb2); (try clear hk); (try clear hi); (try clear ho0)) | ((with_reducible refine gate_dst (N := 4) rfl ?_); refine box_event ?hg (N := 4) ?hd (cs := #[.int .i64 0, .slice none 0 0, .string (⟨#[]⟩ : ByteArray)]) (t := 63) ?hr ?_; (case hd => rfl); (case hg => rfl); (case hr => first | (go_simp; done) | (go_simp; rfl)); intro gb462 hg w25 hbox hb; have n0_ := Aside0.mk (Kd.R_below (ro HO455) hb); have n1_ := Aside0.mk (Kd.R_below (ro HO460) hb); have n2_ := Aside0.mk (blk_below (g := gb450) (o := .cells #[.int .i64 a0_0, .slice A0_1 l0_1.length c0_1, .string a0_2] 60 (0, 0)) (bk BK450) hb); have n3_ := Aside0.mk (below_step bl hb); have n4_ := Aside0.mk (hbox); have n5_ := Aside0.mk ((by rw [hg]; exact (below_size bl) : w.heap.size ≤ gb462)); have n6_ := Aside0.mk ((by rw [hg]; exact (below_size bl) : w.heap.size ≤ gb462)); have n7_ := Aside0.mk ((by rw [hg]; exact Nat.ne_of_lt (blk_lt (g := gb450) (o := .cells #[.int .i64 a0_0, .slice A0_1 l0_1.length c0_1, .string a0_2] 60 (0, 0)) (bk BK450)) : gb450 ≠ gb462)); have n8_ := Aside0.mk ((by rw [hg]; exact Nat.ne_of_gt (blk_lt (g := gb450) (o := .cells #[.int .i64 a0_0, .slice A0_1 l0_1.length c0_1, .string a0_2] 60 (0, 0)) (bk BK450)) : gb462 ≠ gb450)); clear HO455; clear HO460; clear BK450; clear HB; have HO455 := n0_; have HO460 := n1_; have BK450 := n2_; have HB := n3_; have BK462 := n4_; have GW462 := n5_; have GE462 := n6_; have NB450_462 := n7_; have NB462_450 := n8_; clear n0_ n1_ n2_ n3_ n4_ n5_ n6_ n7_ n8_; clear hb hbox hg; have hnb26 := NB462_450.out; have hnc26 := NB450_462.out; have hcz27_0 : w25.cell? ⟨gb462, 0, none⟩ = some (.int .i64 0) := (blk_cell BK462.out 0).trans rfl; have hcz27_1 : w25.cell? ⟨gb462, 1, none⟩ = some (.slice none 0 0) := (blk_cell BK462.out 1).trans rfl; have hcz27_2 : w25.cell? ⟨gb462, 2, none⟩ = some (.string (⟨#[]⟩ : ByteArray)) := (blk_cell BK462.out 2).trans rfl; have hfz27_0 := blk_frozen BK462.out 0; have hfz27_1 := blk_frozen BK462.out 1; have hfz27_2 := blk_frozen BK462.out 2; obtain ⟨Ao28, co28, eo28⟩ := Kd.R_slice HO460.out; subst eo28; have hcz29_0 : w25.cell? ⟨gb450, 0, none⟩ = some (.int .i64 a0_0) := (blk_cell BK450.out 0).trans rfl; have hcz29_1 : w25.cell? ⟨gb450, 1, none⟩ = some (.slice A0_1 l0_1.length c0_1) := (blk_cell BK450.out 1).trans rfl; have hcz29_2 : w25.cell? ⟨gb450, 2, none⟩ = some (.string a0_2) := (blk_cell BK450.out 2).trans rfl; have hfz29_0 := blk_frozen BK450.out 0; have hfz29_1 := blk_frozen BK450.out 1; have hfz29_2 := blk_frozen BK450.out 2) | ((with_reducible refine gate_callee (f := 50) rfl ?_); refine goesL_ (some 20) rfl rfl Try.func50 (by kernel_rfl) rfl #[.agg #[.int .i64 a0_0, .slice A0_1 l0_1.length c0_1, .string a0_2]] rfl ma ?_; (with_reducible refine (laws_toResp.calls k a0_0 _ _ l0_1 a0_2 t463 t464 t467 _ ?side1 ?side2 A9.out).mono ?_); (case side1 => exact Kd.C_below HR0_1.out bl); (case side2 => exact HC0_1.out); rintro e w30 ⟨v465, rfl, ho0, hb⟩; refine ⟨_, rfl, ?_⟩; have n0_ := Aside0.mk (Kd.R_elder' (by (with_reducible repeat (first | apply Kd.R_alloc | apply Kd.R_drewN | apply Kd.R_drew)); exact (Kd.R_mono (Kd.R_far (p := ⟨gb462, 2, none⟩) (Kd.R_far (p := ⟨gb462, 1, none⟩) (Kd.R_far (p := ⟨gb462, 0, none⟩) (Kd.R_types HO455.out BK462.out (by decide)) (fun _ hk => hk.2) (.int .i64 t457)) (fun _ hk => hk.2) (.slice Ao28 t458.length co28)) (fun _ hk => hk.2) (.string t461)) (fun _ h_ => h_.1))) (Kd.R_base ho0) hb); have n1_ := Aside0.mk (Kd.R_elder' (by (with_reducible repeat (first | apply Kd.R_alloc | apply Kd.R_drewN | apply Kd.R_drew)); exact (Kd.R_mono (Kd.R_far (p := ⟨gb462, 2, none⟩) (Kd.R_far (p := ⟨gb462, 1, none⟩) (Kd.R_far (p := ⟨gb462, 0, none⟩) (Kd.R_types HO460.out BK462.out (by decide)) (fun _ hk => hk.2) (.int .i64 t457)) (fun _ hk => hk.2) (.slice Ao28 t458.length co28)) (fun _ hk => hk.2) (.string t461)) (fun _ h_ => h_.1))) (Kd.R_base ho0) hb); have n2_ := Aside0.mk (Kd.R_lower (Kd.R_new' (Kd.R_new' ho0 (Kd.R_lt (by (with_reducible repeat (first | apply Kd.R_alloc | apply Kd.R_drewN | apply Kd.R_drew)); exact (Kd.R_mono (Kd.R_far (p := ⟨gb462, 2, none⟩) (Kd.R_far (p := ⟨gb462, 1, none⟩) (Kd.R_far (p := ⟨gb462, 0, none⟩) (Kd.R_types HO455.out BK462.out (by decide)) (fun _ hk => hk.2) (.int .i64 t457)) (fun _ hk => hk.2) (.slice Ao28 t458.length co28)) (fun _ hk => hk.2) (.string t461)) (fun _ h_ => h_.1))))) (Kd.R_lt (by (with_reducible repeat (first | apply Kd.R_alloc | apply Kd.R_drewN | apply Kd.R_drew)); exact (Kd.R_mono (Kd.R_far (p := ⟨gb462, 2, none⟩) (Kd.R_far (p := ⟨gb462, 1, none⟩) (Kd.R_far (p := ⟨gb462, 0, none⟩) (Kd.R_types HO460.out BK462.out (by decide)) (fun _ hk => hk.2) (.int .i64 t457)) (fun _ hk => hk.2) (.slice Ao28 t458.length co28)) (fun _ hk => hk.2) (.string t461)) (fun _ h_ => h_.1))))) (below_size bl)); have n3_ := Aside0.mk (blk_below (g := gb450) (o := .cells #[.int .i64 a0_0, .slice A0_1 l0_1.length c0_1, .string a0_2] 60 (0, 0)) (bf BK450) hb); have n4_ := Aside0.mk (blk_below (g := gb462) (o := .cells #[.int .i64 t457, .slice Ao28 t458.length co28, .string t461] 63 (0, 0)) (by (with_reducible repeat (first | refine blk_drewN ?_ _ | refine blk_drew ?_ | refine blk_alloc ?_ _)); refine blk_put (cs := #[.int .i64 t457, .slice Ao28 t458.length co28, .string (⟨#[]⟩ : ByteArray)]) ?_ 2 _ rfl; (with_reducible repeat (first | refine blk_drewN ?_ _ | refine blk_drew ?_ | refine blk_alloc ?_ _)); refine blk_put (cs := #[.int .i64 t457, .slice none 0 0, .string (⟨#[]⟩ : ByteArray)]) ?_ 1 _ rfl; (with_reducible repeat (first | refine blk_drewN ?_ _ | refine blk_drew ?_ | refine blk_alloc ?_ _)); refine blk_put (cs := #[.int .i64 0, .slice none 0 0, .string (⟨#[]⟩ : ByteArray)]) ?_ 0 _ rfl; (with_reducible repeat (first | refine blk_drewN ?_ _ | refine blk_drew ?_ | refine blk_alloc ?_ _)); exact BK462.out) hb); have n5_ := Aside0.mk (below_step bl hb); clear HO455; clear HO460; clear BK450; clear BK462; clear HB; have HO455 := n0_; have HO460 := n1_; have HO466 := n2_; have BK450 := n3_; have BK462 := n4_; have HB := n5_; clear n0_ n1_ n2_ n3_ n4_ n5_; (try clear hb); (try clear hb2); (try clear hk); (try clear hi); (try clear ho0)) | ((with_reducible refine gate_dst (N := 5) rfl ?_); refine box_event ?hg (N := 5) ?hd (cs := #[.int .i64 0, .slice none 0 0, .string (⟨#[]⟩ : ByteArray)]) (t := 63) ?hr ?_; (case hd => rfl); (case hg => rfl); (case hr => first | (go_simp; done) | (go_simp; rfl)); intro gb468 hg w31 hbox hb; have n0_ := Aside0.mk (Kd.R_below (ro HO455) hb); have n1_ := Aside0.mk (Kd.R_below (ro HO460) hb); have n2_ := Aside0.mk (Kd.R_below (ro HO466) hb); have n3_ := Aside0.mk (blk_below (g := gb450) (o := .cells #[.int .i64 a0_0, .slice A0_1 l0_1.length c0_1, .string a0_2] 60 (0, 0)) (bk BK450) hb); have n4_ := Aside0.mk (blk_below (g := gb462) (o := .cells #[.int .i64 t457, .slice Ao28 t458.length co28, .string t461] 63 (0, 0)) (bk BK462) hb); have n5_ := Aside0.mk (below_step bl hb); have n6_ := Aside0.mk (hbox); have n7_ := Aside0.mk ((by rw [hg]; exact (below_size bl) : w.heap.size ≤ gb468)); have n8_ := Aside0.mk ((by rw [hg]; exact (below_size bl) : w.heap.size ≤ gb468)); have n9_ := Aside0.mk ((by rw [hg]; exact Nat.ne_of_lt (blk_lt (g := gb450) (o := .cells #[.int .i64 a0_0, .slice A0_1 l0_1.length c0_1, .string a0_2] 60 (0, 0)) (bk BK450)) : gb450 ≠ gb468)); have n10_ := Aside0.mk ((by rw [hg]; exact Nat.ne_of_gt (blk_lt (g := gb450) (o := .cells #[.int .i64 a0_0, .slice A0_1 l0_1.length c0_1, .string a0_2] 60 (0, 0)) (bk BK450)) : gb468 ≠ gb450)); have n11_ := Aside0.mk ((by rw [hg]; exact Nat.ne_of_lt (blk_lt (g := gb462) (o := .cells #[.int .i64 t457, .slice Ao28 t458.length co28, .string t461] 63 (0, 0)) (bk BK462)) : gb462 ≠ gb468)); have n12_ := Aside0.mk ((by rw [hg]; exact Nat.ne_of_gt (blk_lt (g := gb462) (o := .cells #[.int .i64 t457, .slice Ao28 t458.length co28, .string t461] 63 (0, 0)) (bk BK462)) : gb468 ≠ gb462)); clear HO455; clear HO460; clear HO466; clear BK450; clear BK462; clear HB; have HO455 := n0_; have HO460 := n1_; have HO466 := n2_; have BK450 := n3_; have BK462 := n4_; have HB := n5_; have BK468 := n6_; have GW468 := n7_; have GE468 := n8_; have NB450_468 := n9_; have NB468_450 := n10_; have NB462_468 := n11_; have NB468_462 := n12_; clear n0_ n1_ n2_ n3_ n4_ n5_ n6_ n7_ n8_ n9_ n10_ n11_ n12_; clear hb hbox hg; have hnb32 := NB468_450.out; have hnc32 := NB450_468.out; have hnb33 := NB468_462.out; have hnc33 := NB462_468.out; have hcz34_0 : w31.cell? ⟨gb468, 0, none⟩ = some (.int .i64 0) := (blk_cell BK468.out 0).trans rfl; have hcz34_1 : w31.cell? ⟨gb468, 1, none⟩ = some (.slice none 0 0) := (blk_cell BK468.out 1).trans rfl; have hcz34_2 : w31.cell? ⟨gb468, 2, none⟩ = some (.string (⟨#[]⟩ : ByteArray)) := (blk_cell BK468.out 2).trans rfl; have hfz34_0 := blk_frozen BK468.out 0; have hfz34_1 := blk_frozen BK468.out 1; have hfz34_2 := blk_frozen BK468.out 2; obtain ⟨Ao35, co35, eo35⟩ := Kd.R_slice HO466.out; subst eo35) | ((with_reducible refine gate_callee (f := 51) rfl ?_); refine goesL_ (some 22) rfl rfl Try.func51 (by kernel_rfl) rfl #[.agg #[.int .i64 t463, .slice Ao35 t464.length co35, .string t467]] rfl ma ?_; (with_reducible refine (impl_Short.calls k t463 _ _ t464 t467 t469 t470 t473 _ ?side1 ?side2 A10.out).mono ?_); (case side1 => refine (Kd.R_reads' (e := 81) (base := w.heap.size) (ok := fun k_ => ((True ∧ some k_ ≠ (.slice Ao23 t453.length co23 : Value).ownBlock) ∧ some k_ ≠ (.slice Ao28 t458.length co28 : Value).ownBlock)) (n := t464.length) (c := co35) ?_).2.2; exact (by (with_reducible repeat (first | apply Kd.R_alloc | apply Kd.R_drewN | apply Kd.R_drew)); exact (Kd.R_mono (Kd.R_far (p := ⟨gb468, 2, none⟩) (Kd.R_far (p := ⟨gb468, 1, none⟩) (Kd.R_far (p := ⟨gb468, 0, none⟩) (Kd.R_types HO466.out BK468.out (by decide)) (fun _ hk => hk.2) (.int .i64 t463)) (fun _ hk => hk.2) (.slice Ao35 t464.length co35)) (fun _ hk => hk.2) (.string t467)) (fun _ h_ => h_.1)))); (case side2 => exact (Kd.R_reads' HO466.out).2.1); rintro e w36 ⟨v471, rfl, ho0, hb⟩; refine ⟨_, rfl, ?_⟩; have n0_ := Aside0.mk (Kd.R_elder' (by (with_reducible repeat (first | apply Kd.R_alloc | apply Kd.R_drewN | apply Kd.R_drew)); exact (Kd.R_mono (Kd.R_far (p := ⟨gb468, 2, none⟩) (Kd.R_far (p := ⟨gb468, 1, none⟩) (Kd.R_far (p := ⟨gb468, 0, none⟩) (Kd.R_types HO455.out BK468.out (by decide)) (fun _ hk => hk.2) (.int .i64 t463)) (fun _ hk => hk.2) (.slice Ao35 t464.length co35)) (fun _ hk => hk.2) (.string t467)) (fun _ h_ => h_.1))) (Kd.R_base ho0) hb); have n1_ := Aside0.mk (Kd.R_elder' (by (with_reducible repeat (first | apply Kd.R_alloc | apply Kd.R_drewN | apply Kd.R_drew)); exact (Kd.R_mono (Kd.R_far (p := ⟨gb468, 2, none⟩) (Kd.R_far (p := ⟨gb468, 1, none⟩) (Kd.R_far (p := ⟨gb468, 0, none⟩) (Kd.R_types HO460.out BK468.out (by decide)) (fun _ hk => hk.2) (.int .i64 t463)) (fun _ hk => hk.2) (.slice Ao35 t464.length co35)) (fun _ hk => hk.2) (.string t467)) (fun _ h_ => h_.1))) (Kd.R_base ho0) hb); have n2_ := Aside0.mk (Kd.R_elder' (by (with_reducible repeat (first | apply Kd.R_alloc | apply Kd.R_drewN | apply Kd.R_drew)); exact (Kd.R_mono (Kd.R_far (p := ⟨gb468, 2, none⟩) (Kd.R_far (p := ⟨gb468, 1, none⟩) (Kd.R_far (p := ⟨gb468, 0, none⟩) (Kd.R_types HO466.out BK468.out (by decide)) (fun _ hk => hk.2) (.int .i64 t463)) (fun _ hk => hk.2) (.slice Ao35 t464.length co35)) (fun _ hk => hk.2) (.string t467)) (fun _ h_ => h_.1))) (Kd.R_base ho0) hb); have n3_ := Aside0.mk (Kd.R_lower (Kd.R_new' (Kd.R_new' (Kd.R_new' ho0 (Kd.R_lt (by (with_reducible repeat (first | apply Kd.R_alloc | apply Kd.R_drewN | apply Kd.R_drew)); exact (Kd.R_mono (Kd.R_far (p := ⟨gb468, 2, none⟩) (Kd.R_far (p := ⟨gb468, 1, none⟩) (Kd.R_far (p := ⟨gb468, 0, none⟩) (Kd.R_types HO455.out BK468.out (by decide)) (fun _ hk => hk.2) (.int .i64 t463)) (fun _ hk => hk.2) (.slice Ao35 t464.length co35)) (fun _ hk => hk.2) (.string t467)) (fun _ h_ => h_.1))))) (Kd.R_lt (by (with_reducible repeat (first | apply Kd.R_alloc | apply Kd.R_drewN | apply Kd.R_drew)); exact (Kd.R_mono (Kd.R_far (p := ⟨gb468, 2, none⟩) (Kd.R_far (p := ⟨gb468, 1, none⟩) (Kd.R_far (p := ⟨gb468, 0, none⟩) (Kd.R_types HO460.out BK468.out (by decide)) (fun _ hk => hk.2) (.int .i64 t463)) (fun _ hk => hk.2) (.slice Ao35 t464.length co35)) (fun _ hk => hk.2) (.string t467)) (fun _ h_ => h_.1))))) (Kd.R_lt (by (with_reducible repeat (first | apply Kd.R_alloc | apply Kd.R_drewN | apply Kd.R_drew)); exact (Kd.R_mono (Kd.R_far (p := ⟨gb468, 2, none⟩) (Kd.R_far (p := ⟨gb468, 1, none⟩) (Kd.R_far (p := ⟨gb468, 0, none⟩) (Kd.R_types HO466.out BK468.out (by decide)) (fun _ hk => hk.2) (.int .i64 t463)) (fun _ hk => hk.2) (.slice Ao35 t464.length co35)) (fun _ hk => hk.2) (.string t467)) (fun _ h_ => h_.1))))) (below_size bl)); have n4_ := Aside0.mk (blk_below (g := gb450) (o := .cells #[.int .i64 a0_0, .slice A0_1 l0_1.length c0_1, .string a0_2] 60 (0, 0)) (bf BK450) hb); have n5_ := Aside0.mk (blk_below (g := gb462) (o := .cells #[.int .i64 t457, .slice Ao28 t458.length co28, .string t461] 63 (0, 0)) (bf BK462) hb); have n6_ := Aside0.mk (blk_below (g := gb468) (o := .cells #[.int .i64 t463, .slice Ao35 t464.length co35, .string t467] 63 (0, 0)) (by (with_reducible repeat (first | refine blk_drewN ?_ _ | refine blk_drew ?_ | refine blk_alloc ?_ _)); refine blk_put (cs := #[.int .i64 t463, .slice Ao35 t464.length co35, .string (⟨#[]⟩ : ByteArray)]) ?_ 2 _ rfl; (with_reducible repeat (first | refine blk_drewN ?_ _ | refine blk_drew ?_ | refine blk_alloc ?_ _)); refine blk_put (cs := #[.int .i64 t463, .slice none 0 0, .string (⟨#[]⟩ : ByteArray)]) ?_ 1 _ rfl; (with_reducible repeat (first | refine blk_drewN ?_ _ | refine blk_drew ?_ | refine blk_alloc ?_ _)); refine blk_put (cs := #[.int .i64 0, .slice none 0 0, .string (⟨#[]⟩ : ByteArray)]) ?_ 0 _ rfl; (with_reducible repeat (first | refine blk_drewN ?_ _ | refine blk_drew ?_ | refine blk_alloc ?_ _)); exact BK468.out) hb); have n7_ := Aside0.mk (below_step bl hb); clear HO455; clear HO460; clear HO466; clear BK450; clear BK462; clear BK468; clear HB; have HO455 := n0_; have HO460 := n1_; have HO466 := n2_; have HO472 := n3_; have BK450 := n4_; have BK462 := n5_; have BK468 := n6_; have HB := n7_; clear n0_ n1_ n2_ n3_ n4_ n5_ n6_ n7_; (try clear hb); (try clear hb2); (try clear hk); (try clear hi); (try clear ho0)) | ((with_reducible refine gate_dst (N := 6) rfl ?_); refine box_event ?hg (N := 6) ?hd (cs := #[.int .i64 0, .slice none 0 0, .string (⟨#[]⟩ : ByteArray)]) (t := 63) ?hr ?_; (case hd => rfl); (case hg => rfl); (case hr => first | (go_simp; done) | (go_simp; rfl)); intro gb474 hg w37 hbox hb; have n0_ := Aside0.mk (Kd.R_below (ro HO455) hb); have n1_ := Aside0.mk (Kd.R_below (ro HO460) hb); have n2_ := Aside0.mk (Kd.R_below (ro HO466) hb); have n3_ := Aside0.mk (Kd.R_below (ro HO472) hb); have n4_ := Aside0.mk (blk_below (g := gb450) (o := .cells #[.int .i64 a0_0, .slice A0_1 l0_1.length c0_1, .string a0_2] 60 (0, 0)) (bk BK450) hb); have n5_ := Aside0.mk (blk_below (g := gb462) (o := .cells #[.int .i64 t457, .slice Ao28 t458.length co28, .string t461] 63 (0, 0)) (bk BK462) hb); have n6_ := Aside0.mk (blk_below (g := gb468) (o := .cells #[.int .i64 t463, .slice Ao35 t464.length co35, .string t467] 63 (0, 0)) (bk BK468) hb); have n7_ := Aside0.mk (below_step bl hb); have n8_ := Aside0.mk (hbox); have n9_ := Aside0.mk ((by rw [hg]; exact (below_size bl) : w.heap.size ≤ gb474)); have n10_ := Aside0.mk ((by rw [hg]; exact (below_size bl) : w.heap.size ≤ gb474)); have n11_ := Aside0.mk ((by rw [hg]; exact Nat.ne_of_lt (blk_lt (g := gb450) (o := .cells #[.int .i64 a0_0, .slice A0_1 l0_1.length c0_1, .string a0_2] 60 (0, 0)) (bk BK450)) : gb450 ≠ gb474)); have n12_ := Aside0.mk ((by rw [hg]; exact Nat.ne_of_gt (blk_lt (g := gb450) (o := .cells #[.int .i64 a0_0, .slice A0_1 l0_1.length c0_1, .string a0_2] 60 (0, 0)) (bk BK450)) : gb474 ≠ gb450)); have n13_ := Aside0.mk ((by rw [hg]; exact Nat.ne_of_lt (blk_lt (g := gb462) (o := .cells #[.int .i64 t457, .slice Ao28 t458.length co28, .string t461] 63 (0, 0)) (bk BK462)) : gb462 ≠ gb474)); have n14_ := Aside0.mk ((by rw [hg]; exact Nat.ne_of_gt (blk_lt (g := gb462) (o := .cells #[.int .i64 t457, .slice Ao28 t458.length co28, .string t461] 63 (0, 0)) (bk BK462)) : gb474 ≠ gb462)); have n15_ := Aside0.mk ((by rw [hg]; exact Nat.ne_of_lt (blk_lt (g := gb468) (o := .cells #[.int .i64 t463, .slice Ao35 t464.length co35, .string t467] 63 (0, 0)) (bk BK468)) : gb468 ≠ gb474)); have n16_ := Aside0.mk ((by rw [hg]; exact Nat.ne_of_gt (blk_lt (g := gb468) (o := .cells #[.int .i64 t463, .slice Ao35 t464.length co35, .string t467] 63 (0, 0)) (bk BK468)) : gb474 ≠ gb468)); clear HO455; clear HO460; clear HO466; clear HO472; clear BK450; clear BK462; clear BK468; clear HB; have HO455 := n0_; have HO460 := n1_; have HO466 := n2_; have HO472 := n3_; have BK450 := n4_; have BK462 := n5_; have BK468 := n6_; have HB := n7_; have BK474 := n8_; have GW474 := n9_; have GE474 := n10_; have NB450_474 := n11_; have NB474_450 := n12_; have NB462_474 := n13_; have NB474_462 := n14_; have NB468_474 := n15_; have NB474_468 := n16_; clear n0_ n1_ n2_ n3_ n4_ n5_ n6_ n7_ n8_ n9_ n10_ n11_ n12_ n13_ n14_ n15_ n16_; clear hb hbox hg; have hnb38 := NB474_450.out; have hnc38 := NB450_474.out; have hnb39 := NB474_462.out; have hnc39 := NB462_474.out; have hnb40 := NB474_468.out; have hnc40 := NB468_474.out; have hcz41_0 : w37.cell? ⟨gb474, 0, none⟩ = some (.int .i64 0) := (blk_cell BK474.out 0).trans rfl; have hcz41_1 : w37.cell? ⟨gb474, 1, none⟩ = some (.slice none 0 0) := (blk_cell BK474.out 1).trans rfl; have hcz41_2 : w37.cell? ⟨gb474, 2, none⟩ = some (.string (⟨#[]⟩ : ByteArray)) := (blk_cell BK474.out 2).trans rfl; have hfz41_0 := blk_frozen BK474.out 0; have hfz41_1 := blk_frozen BK474.out 1; have hfz41_2 := blk_frozen BK474.out 2; obtain ⟨Ao42, co42, eo42⟩ := Kd.R_slice HO472.out; subst eo42; have hcz43_0 : w37.cell? ⟨gb462, 0, none⟩ = some (.int .i64 t457) := (blk_cell BK462.out 0).trans rfl; have hcz43_1 : w37.cell? ⟨gb462, 1, none⟩ = some (.slice Ao28 t458.length co28) := (blk_cell BK462.out 1).trans rfl; have hcz43_2 : w37.cell? ⟨gb462, 2, none⟩ = some (.string t461) := (blk_cell BK462.out 2).trans rfl; have hfz43_0 := blk_frozen BK462.out 0; have hfz43_1 := blk_frozen BK462.out 1; have hfz43_2 := blk_frozen BK462.out 2) | ((with_reducible refine gate_callee (f := 52) rfl ?_); refine goesL_ (some 25) rfl rfl Try.func52 (by kernel_rfl) rfl #[.agg #[.int .i64 t469, .slice Ao42 t470.length co42, .string t473], .agg #[.int .i64 t457, .slice Ao28 t458.length co28, .string t461]] rfl ma ?_; (with_reducible refine (laws_eqResp.calls k t469 _ _ t470 t473 t457 _ _ t458 t461 true _ ?side1 ?side2 ?side3 ?side4 A11.out).mono ?_); (case side1 => refine (Kd.R_reads' (e := 81) (base := w.heap.size) (ok := fun k_ => (((True ∧ some k_ ≠ (.slice Ao23 t453.length co23 : Value).ownBlock) ∧ some k_ ≠ (.slice Ao28 t458.length co28 : Value).ownBlock) ∧ some k_ ≠ (.slice Ao35 t464.length co35 : Value).ownBlock)) (n := t470.length) (c := co42) ?_).2.2; exact (by (with_reducible repeat (first | apply Kd.R_alloc | apply Kd.R_drewN | apply Kd.R_drew)); exact (Kd.R_mono (Kd.R_far (p := ⟨gb474, 2, none⟩) (Kd.R_far (p := ⟨gb474, 1, none⟩) (Kd.R_far (p := ⟨gb474, 0, none⟩) (Kd.R_types HO472.out BK474.out (by decide)) (fun _ hk => hk.2) (.int .i64 t469)) (fun _ hk => hk.2) (.slice Ao42 t470.length co42)) (fun _ hk => hk.2) (.string t473)) (fun _ h_ => h_.1)))); (case side2 => exact (Kd.R_reads' HO472.out).2.1); (case side3 => refine (Kd.R_reads' (e := 81) (base := w.heap.size) (ok := fun k_ => (((True ∧ some k_ ≠ (.slice Ao23 t453.length co23 : Value).ownBlock) ∧ some k_ ≠ (.slice Ao35 t464.length co35 : Value).ownBlock) ∧ some k_ ≠ (.slice Ao42 t470.length co42 : Value).ownBlock)) (n := t458.length) (c := co28) ?_).2.2; exact (by (with_reducible repeat (first | apply Kd.R_alloc | apply Kd.R_drewN | apply Kd.R_drew)); exact (Kd.R_mono (Kd.R_far (p := ⟨gb474, 2, none⟩) (Kd.R_far (p := ⟨gb474, 1, none⟩) (Kd.R_far (p := ⟨gb474, 0, none⟩) (Kd.R_types HO460.out BK474.out (by decide)) (fun _ hk => hk.2) (.int .i64 t469)) (fun _ hk => hk.2) (.slice Ao42 t470.length co42)) (fun _ hk => hk.2) (.string t473)) (fun _ h_ => h_.1)))); (case side4 => exact (Kd.R_reads' HO460.out).2.1); rintro e w44 ⟨rfl, hb⟩; refine ⟨_, rfl, ?_⟩; have n0_ := Aside0.mk (Kd.R_below (by (with_reducible repeat (first | apply Kd.R_alloc | apply Kd.R_drewN | apply Kd.R_drew)); exact (Kd.R_mono (Kd.R_far (p := ⟨gb474, 2, none⟩) (Kd.R_far (p := ⟨gb474, 1, none⟩) (Kd.R_far (p := ⟨gb474, 0, none⟩) (Kd.R_types HO455.out BK474.out (by decide)) (fun _ hk => hk.2) (.int .i64 t469)) (fun _ hk => hk.2) (.slice Ao42 t470.length co42)) (fun _ hk => hk.2) (.string t473)) (fun _ h_ => h_.1))) hb); have n1_ := Aside0.mk (Kd.R_below (by (with_reducible repeat (first | apply Kd.R_alloc | apply Kd.R_drewN | apply Kd.R_drew)); exact (Kd.R_mono (Kd.R_far (p := ⟨gb474, 2, none⟩) (Kd.R_far (p := ⟨gb474, 1, none⟩) (Kd.R_far (p := ⟨gb474, 0, none⟩) (Kd.R_types HO460.out BK474.out (by decide)) (fun _ hk => hk.2) (.int .i64 t469)) (fun _ hk => hk.2) (.slice Ao42 t470.length co42)) (fun _ hk => hk.2) (.string t473)) (fun _ h_ => h_.1))) hb); have n2_ := Aside0.mk (Kd.R_below (by (with_reducible repeat (first | apply Kd.R_alloc | apply Kd.R_drewN | apply Kd.R_drew)); exact (Kd.R_mono (Kd.R_far (p := ⟨gb474, 2, none⟩) (Kd.R_far (p := ⟨gb474, 1, none⟩) (Kd.R_far (p := ⟨gb474, 0, none⟩) (Kd.R_types HO466.out BK474.out (by decide)) (fun _ hk => hk.2) (.int .i64 t469)) (fun _ hk => hk.2) (.slice Ao42 t470.length co42)) (fun _ hk => hk.2) (.string t473)) (fun _ h_ => h_.1))) hb); have n3_ := Aside0.mk (Kd.R_below (by (with_reducible repeat (first | apply Kd.R_alloc | apply Kd.R_drewN | apply Kd.R_drew)); exact (Kd.R_mono (Kd.R_far (p := ⟨gb474, 2, none⟩) (Kd.R_far (p := ⟨gb474, 1, none⟩) (Kd.R_far (p := ⟨gb474, 0, none⟩) (Kd.R_types HO472.out BK474.out (by decide)) (fun _ hk => hk.2) (.int .i64 t469)) (fun _ hk => hk.2) (.slice Ao42 t470.length co42)) (fun _ hk => hk.2) (.string t473)) (fun _ h_ => h_.1))) hb); have n4_ := Aside0.mk (blk_below (g := gb450) (o := .cells #[.int .i64 a0_0, .slice A0_1 l0_1.length c0_1, .string a0_2] 60 (0, 0)) (bf BK450) hb); have n5_ := Aside0.mk (blk_below (g := gb462) (o := .cells #[.int .i64 t457, .slice Ao28 t458.length co28, .string t461] 63 (0, 0)) (bf BK462) hb); have n6_ := Aside0.mk (blk_below (g := gb468) (o := .cells #[.int .i64 t463, .slice Ao35 t464.length co35, .string t467] 63 (0, 0)) (bf BK468) hb); have n7_ := Aside0.mk (blk_below (g := gb474) (o := .cells #[.int .i64 t469, .slice Ao42 t470.length co42, .string t473] 63 (0, 0)) (by (with_reducible repeat (first | refine blk_drewN ?_ _ | refine blk_drew ?_ | refine blk_alloc ?_ _)); refine blk_put (cs := #[.int .i64 t469, .slice Ao42 t470.length co42, .string (⟨#[]⟩ : ByteArray)]) ?_ 2 _ rfl; (with_reducible repeat (first | refine blk_drewN ?_ _ | refine blk_drew ?_ | refine blk_alloc ?_ _)); refine blk_put (cs := #[.int .i64 t469, .slice none 0 0, .string (⟨#[]⟩ : ByteArray)]) ?_ 1 _ rfl; (with_reducible repeat (first | refine blk_drewN ?_ _ | refine blk_drew ?_ | refine blk_alloc ?_ _)); refine blk_put (cs := #[.int .i64 0, .slice none 0 0, .string (⟨#[]⟩ : ByteArray)]) ?_ 0 _ rfl; (with_reducible repeat (first | refine blk_drewN ?_ _ | refine blk_drew ?_ | refine blk_alloc ?_ _)); exact BK474.out) hb); have n8_ := Aside0.mk (below_step bl hb); clear HO455; clear HO460; clear HO466; clear HO472; clear BK450; clear BK462; clear BK468; clear BK474; clear HB; have HO455 := n0_; have HO460 := n1_; have HO466 := n2_; have HO472 := n3_; have BK450 := n4_; have BK462 := n5_; have BK468 := n6_; have BK474 := n7_; have HB := n8_; clear n0_ n1_ n2_ n3_ n4_ n5_ n6_ n7_ n8_; (try clear hb); (try clear hb2); (try clear hk); (try clear hi)))
        replace HO455 := Aside0.mk (Kd.R_drew HO455.out)
        replace HO460 := Aside0.mk (Kd.R_drew HO460.out)
        replace HO466 := Aside0.mk (Kd.R_drew HO466.out)
        replace HO472 := Aside0.mk (Kd.R_drew HO472.out)
        replace BK450 := Aside0.mk (blk_drew BK450.out)
        replace BK462 := Aside0.mk (blk_drew BK462.out)
        replace BK468 := Aside0.mk (blk_drew BK468.out)
        replace BK474 := Aside0.mk (blk_drew BK474.out)
        replace HB := Aside0.mk (below_drew1 HB.out)
        refine start_ (n := 5) (S := fun w' => w'.cell? ⟨gb468, 0, none⟩ = some (.int .i64 t463) ∧ w'.cell? ⟨gb468, 1, none⟩ = some (.slice Ao35 t464.length co35) ∧ w'.cell? ⟨gb468, 2, none⟩ = some (.string t467) ∧ w'.cell? ⟨gb450, 0, none⟩ = some (.int .i64 a0_0) ∧ w'.cell? ⟨gb450, 1, none⟩ = some (.slice A0_1 l0_1.length c0_1) ∧ w'.cell? ⟨gb450, 2, none⟩ = some (.string a0_2)) (ds := []) #[false, false, false, false, false] (by kernel_rfl) rfl rfl ⟨(blk_cell BK468.out 0).trans rfl, (blk_cell BK468.out 1).trans rfl, (blk_cell BK468.out 2).trans rfl, (blk_cell BK450.out 0).trans rfl, (blk_cell BK450.out 1).trans rfl, (blk_cell BK450.out 2).trans rfl⟩ (fun hHeld => ?_)
        generalize w44.drew = w45 at HO455 HO460 HO466 HO472 BK450 BK462 BK468 BK474 HB hHeld ⊢
        refine take_ (i := 0) (N := some 27) (v := ?_) (a' := ?_) #[true, false, false, false, false] rfl rfl (by kernel_rfl) (fun _ _ _ h => h) (Or.inl ⟨by rfl, ?_⟩) hHeld ?_ ?_
        rotate_left
        · rintro w' ⟨s0, s1, s2, s3, s4, s5⟩
          go_simp
          with_reducible rfl
        rotate_left
        · simp only [Act.put, List.setIfInBounds_toArray, List.set_cons_zero, List.set_cons_succ, i64_w, i32_w]
          rfl
        refine take_ (i := 1) (N := some 28) (v := ?_) (a' := ?_) #[true, true, false, false, false] rfl rfl (by kernel_rfl) (fun _ _ _ h => h) (Or.inl ⟨by rfl, ?_⟩) hHeld ?_ ?_
        rotate_left
        · rintro w' ⟨s0, s1, s2, s3, s4, s5⟩
          go_simp
          with_reducible rfl
        rotate_left
        · simp only [Act.put, List.setIfInBounds_toArray, List.set_cons_zero, List.set_cons_succ, i64_w, i32_w]
          rfl
        refine one_ (i := 2) (N := some 29) #[true, true, true, false, false] rfl rfl (by kernel_rfl) (by decide) (fun K hK => ?_)
        refine goes_ Try.func50 (by kernel_rfl) rfl #[.agg #[.int .i64 a0_0, .slice A0_1 l0_1.length c0_1, .string a0_2]] (by rfl) rfl rfl ma ?_
        with_reducible refine (laws_toResp.calls k a0_0 _ _ l0_1 a0_2 t476 t477 t480 _ ?side1 ?side2 A13.out).mono ?_
        (case side1 => repeat (first | exact (Kd.C_below HR0_1.out HB.out) | (with_reducible refine Kd.C_alloc ?_ _) | (with_reducible refine Kd.C_drewN ?_ _) | (with_reducible refine Kd.C_drew ?_)))
        (case side2 => exact HC0_1.out)
        rintro e w46 ⟨v478, rfl, ho0, hb⟩
        refine ⟨_, rfl, ?_⟩
        have HO479 := Aside0.mk (Kd.R_lower (Kd.R_new' (Kd.R_new' (Kd.R_new' (Kd.R_new' ho0 (Kd.R_lt (ro HO455))) (Kd.R_lt (ro HO460))) (Kd.R_lt (ro HO466))) (Kd.R_lt (ro HO472))) (below_size bl))
        replace HO455 := Aside0.mk (Kd.R_elder' (ro HO455) (Kd.R_base ho0) hb)
        replace HO460 := Aside0.mk (Kd.R_elder' (ro HO460) (Kd.R_base ho0) hb)
        replace HO466 := Aside0.mk (Kd.R_elder' (ro HO466) (Kd.R_base ho0) hb)
        replace HO472 := Aside0.mk (Kd.R_elder' (ro HO472) (Kd.R_base ho0) hb)
        replace BK450 := kb BK450 hb
        replace BK462 := kb BK462 hb
        replace BK468 := kb BK468 hb
        replace BK474 := kb BK474 hb
        replace HB := Aside0.mk (below_step bl hb)
        (try clear hb)
        (try clear hb2)
        (try clear hk)
        (try clear hi)
        (try clear ho0)
        obtain ⟨Ao47, co47, eo47⟩ := Kd.R_slice HO479.out
        (first | subst eo47 | (injection eo47 with f1_ f2_ f3_; have f4_ := f1_.symm; have f5_ := f3_.symm; clear f1_ f2_ f3_; subst f4_; subst f5_))
        refine hK.out _ _ ⟨(blk_cell BK468.out 0).trans rfl, (blk_cell BK468.out 1).trans rfl, (blk_cell BK468.out 2).trans rfl, (blk_cell BK450.out 0).trans rfl, (blk_cell BK450.out 1).trans rfl, (blk_cell BK450.out 2).trans rfl⟩ (fun hHeld => ?_)
        clear hK K
        refine norm_ (a' := ?_) ?_ ?_
        rotate_left
        · show Act.put _ (some 29) _ = _
          simp only [Act.put, List.setIfInBounds_toArray, List.set_cons_zero, List.set_cons_succ, i64_w, i32_w]
          rfl
        refine one_ (i := 3) (N := some 30) #[true, true, true, true, false] rfl rfl (by kernel_rfl) (by decide) (fun K hK => ?_)
        refine goes_ Try.func52 (by kernel_rfl) rfl #[.agg #[.int .i64 t463, .slice Ao35 t464.length co35, .string t467], .agg #[.int .i64 t476, .slice Ao47 t477.length co47, .string t480]] (by rfl) rfl rfl ma ?_
        with_reducible refine (laws_eqResp.calls k t463 _ _ t464 t467 t476 _ _ t477 t480 true _ ?side1 ?side2 ?side3 ?side4 A14.out).mono ?_
        (case side1 => repeat (first | exact (Kd.R_reads' HO466.out).2.2 | (with_reducible refine Kd.C_alloc ?_ _) | (with_reducible refine Kd.C_drewN ?_ _) | (with_reducible refine Kd.C_drew ?_)))
        (case side2 => exact (Kd.R_reads' HO466.out).2.1)
        (case side3 => repeat (first | exact (Kd.R_reads' HO479.out).2.2 | (with_reducible refine Kd.C_alloc ?_ _) | (with_reducible refine Kd.C_drewN ?_ _) | (with_reducible refine Kd.C_drew ?_)))
        (case side4 => exact (Kd.R_reads' HO479.out).2.1)
        rintro e w48 ⟨rfl, hb⟩
        refine ⟨_, rfl, ?_⟩
        replace HO455 := kr HO455 hb
        replace HO460 := kr HO460 hb
        replace HO466 := kr HO466 hb
        replace HO472 := kr HO472 hb
        replace HO479 := kr HO479 hb
        replace BK450 := kb BK450 hb
        replace BK462 := kb BK462 hb
        replace BK468 := kb BK468 hb
        replace BK474 := kb BK474 hb
        replace HB := Aside0.mk (below_step bl hb)
        (try clear hb)
        (try clear hb2)
        (try clear hk)
        (try clear hi)
        refine hK.out _ _ ⟨(blk_cell BK468.out 0).trans rfl, (blk_cell BK468.out 1).trans rfl, (blk_cell BK468.out 2).trans rfl, (blk_cell BK450.out 0).trans rfl, (blk_cell BK450.out 1).trans rfl, (blk_cell BK450.out 2).trans rfl⟩ (fun hHeld => ?_)
        clear hK K
        refine norm_ (a' := ?_) ?_ ?_
        rotate_left
        · show Act.put _ (some 30) _ = _
          simp only [Act.put, List.setIfInBounds_toArray, List.set_cons_zero, List.set_cons_succ, i64_w, i32_w]
          rfl
        refine pure_ (i := 4) (N := some 31) (v := ?_) (a' := ?_) #[true, true, true, true, true] rfl rfl (by kernel_rfl) (fun _ _ _ h => h) (Or.inl ⟨by rfl, ?_⟩) ?_ ?_
        rotate_left
        · intro w'
          go_simp
          with_reducible rfl
        rotate_left
        · simp only [Act.put, List.setIfInBounds_toArray, List.set_cons_zero, List.set_cons_succ, i64_w, i32_w]
          rfl
        refine done_ (by kernel_rfl) ?_
        have hcz49_0 : w48.cell? ⟨gb468, 0, none⟩ = some (.int .i64 t463) := (blk_cell BK468.out 0).trans rfl
        have hcz49_1 : w48.cell? ⟨gb468, 1, none⟩ = some (.slice Ao35 t464.length co35) := (blk_cell BK468.out 1).trans rfl
        have hcz49_2 : w48.cell? ⟨gb468, 2, none⟩ = some (.string t467) := (blk_cell BK468.out 2).trans rfl
        have hfz49_0 := blk_frozen BK468.out 0
        have hfz49_1 := blk_frozen BK468.out 1
        have hfz49_2 := blk_frozen BK468.out 2
        go_upto_region 14 with (first | ((with_reducible refine gate_callee (f := 53) rfl ?_); refine goesL_ (some 34) rfl rfl Try.func53 (by kernel_rfl) rfl #[.agg #[.int .i64 t463, .slice Ao35 t464.length co35, .string t467], .int .i64 1] rfl ma ?_; (with_reducible refine (laws_markResp.calls k t463 (fun k_ => some k_ = (.slice Ao35 t464.length co35 : Value).ownBlock) (.slice Ao35 t464.length co35) t464 t467 1 t482 t483 w _ ?side1 ?side2 A16.out).mono ?_); (case side1 => repeat (first | (with_reducible first | exact HB.out | apply below_alloc | apply pw_below_drewN | apply below_drew1 | refine below_set ?_ GE450.out | refine below_set ?_ GE462.out | refine below_set ?_ GE468.out | refine below_set ?_ GE474.out) | exact HB.out)); (case side2 => exact Kd.R_tight rfl HO466.out); rintro e w50 ⟨rfl, hy0, hb, hkp⟩; refine ⟨_, rfl, ?_⟩; replace BK450 := Aside0.mk (blk_kept (bk BK450) hkp (fun hs_ => (fun e_ => (Kd.R_ne HO466.out BK450.out (by decide)) e_) hs_)); replace HO455 := Aside0.mk (Kd.R_mono (ok' := fun k_ => some k_ ≠ (.slice Ao28 t458.length co28 : Value).ownBlock ∧ some k_ ≠ (.slice Ao35 t464.length co35 : Value).ownBlock ∧ some k_ ≠ (.slice Ao42 t470.length co42 : Value).ownBlock ∧ some k_ ≠ (.slice Ao47 t477.length co47 : Value).ownBlock) (Kd.R_keptB (HO455.out) hkp (fun k_ hk_ hs_ => (hk_.1.1.2) hs_)) (fun k_ hk_ => ⟨hk_.1.1.1.1.2, hk_.1.1.1.2, hk_.1.1.2, hk_.1.2⟩)); replace HO460 := Aside0.mk (Kd.R_mono (ok' := fun k_ => some k_ ≠ (.slice Ao23 t453.length co23 : Value).ownBlock ∧ some k_ ≠ (.slice Ao35 t464.length co35 : Value).ownBlock ∧ some k_ ≠ (.slice Ao42 t470.length co42 : Value).ownBlock ∧ some k_ ≠ (.slice Ao47 t477.length co47 : Value).ownBlock) (Kd.R_keptB (HO460.out) hkp (fun k_ hk_ hs_ => (hk_.1.1.2) hs_)) (fun k_ hk_ => ⟨hk_.1.1.1.1.2, hk_.1.1.1.2, hk_.1.1.2, hk_.1.2⟩)); replace BK462 := Aside0.mk (blk_kept (bk BK462) hkp (fun hs_ => (fun e_ => (Kd.R_ne HO466.out BK462.out (by decide)) e_) hs_)); replace BK468 := Aside0.mk (blk_kept (bk BK468) hkp (fun hs_ => (fun e_ => (Kd.R_ne HO466.out BK468.out (by decide)) e_) hs_)); replace HO472 := Aside0.mk (Kd.R_mono (ok' := fun k_ => some k_ ≠ (.slice Ao23 t453.length co23 : Value).ownBlock ∧ some k_ ≠ (.slice Ao28 t458.length co28 : Value).ownBlock ∧ some k_ ≠ (.slice Ao35 t464.length co35 : Value).ownBlock ∧ some k_ ≠ (.slice Ao47 t477.length co47 : Value).ownBlock) (Kd.R_keptB (HO472.out) hkp (fun k_ hk_ hs_ => (hk_.1.2) hs_)) (fun k_ hk_ => ⟨hk_.1.1.1.1.2, hk_.1.1.1.2, hk_.1.1.2, hk_.1.2⟩)); replace BK474 := Aside0.mk (blk_kept (bk BK474) hkp (fun hs_ => (fun e_ => (Kd.R_ne HO466.out BK474.out (by decide)) e_) hs_)); replace HO466 := Aside0.mk (Kd.R_reok rfl hy0 (fun k_ e_ => HO466.out.1 k_ e_)); replace HO479 := Aside0.mk (Kd.R_mono (ok' := fun k_ => some k_ ≠ (.slice Ao23 t453.length co23 : Value).ownBlock ∧ some k_ ≠ (.slice Ao28 t458.length co28 : Value).ownBlock ∧ some k_ ≠ (.slice Ao35 t464.length co35 : Value).ownBlock ∧ some k_ ≠ (.slice Ao42 t470.length co42 : Value).ownBlock) (Kd.R_keptB (HO479.out) hkp (fun k_ hk_ hs_ => (hk_.1.2) hs_)) (fun k_ hk_ => ⟨hk_.1.1.1.1.2, hk_.1.1.1.2, hk_.1.1.2, hk_.1.2⟩)); replace HB := Aside0.mk (hb); (try clear hb); (try clear hkp); (try clear hy0)))
        (try simp only [Act.put, List.setIfInBounds_toArray, List.set_cons_zero, List.set_cons_succ])
        go_cut [42] (fun v42 wc => ∃ (kq : Nat) (x42_16 : Bool), v42 = .bool x42_16 ∧ Aside0 (laws_FnExactShort.j0 kq x42_16 a0_0 l0_1 a0_2 t457 t458 t461 t469 t470 t473 = some r) ∧ Aside0 (kq ≤ k) ∧ Aside0 (Kd.R k81 81 wc w.heap.size (fun k_ => some k_ ≠ ((.slice Ao35 t464.length co35) : Value).ownBlock ∧ some k_ ≠ ((.slice Ao42 t470.length co42) : Value).ownBlock) (.slice Ao28 t458.length co28) t458) ∧ Aside0 (Kd.R k81 81 wc w.heap.size (fun k_ => some k_ ≠ ((.slice Ao28 t458.length co28) : Value).ownBlock ∧ some k_ ≠ ((.slice Ao42 t470.length co42) : Value).ownBlock) (.slice Ao35 t464.length co35) t483) ∧ Aside0 (Kd.R k81 81 wc w.heap.size (fun k_ => some k_ ≠ ((.slice Ao28 t458.length co28) : Value).ownBlock ∧ some k_ ≠ ((.slice Ao35 t464.length co35) : Value).ownBlock) (.slice Ao42 t470.length co42) t470) ∧ Aside0 (wc.heap[gb450]? = some (.cells #[.int .i64 a0_0, (.slice A0_1 l0_1.length c0_1), .string a0_2] 60 (0, 0))) ∧ Aside0 (wc.heap[gb462]? = some (.cells #[.int .i64 t457, (.slice Ao28 t458.length co28), .string t461] 63 (0, 0))) ∧ Aside0 (wc.heap[gb468]? = some (.cells #[.int .i64 t463, (.slice Ao35 t464.length co35), .string t467] 63 (0, 0))) ∧ Aside0 (wc.heap[gb474]? = some (.cells #[.int .i64 t469, (.slice Ao42 t470.length co42), .string t473] 63 (0, 0))) ∧ Aside0 (Below w.heap.size w wc))
        case first =>
          have H := HC17.out
          clear HC17
          by_cases c51 : t482 < 0
          · rw [if_pos c51] at H
            have c51b0 : decide (t482 < 0) = true := decide_eq_true c51
            clear c51
            (first | rw [c51b0] | (simp only [i64_w, i32_w]; rw [c51b0]) | skip)
            cases k with
            | zero => exact absurd H (by simp [laws_FnExactShort.j0])
            | succ k_ => simp only [laws_FnExactShort.j0, if_true] at H; exact absurd (Option.some.inj H) (by rw [ht_]; decide)
          · rw [if_neg c51] at H
            have c51b0 : decide (t482 < 0) = false := decide_eq_false c51
            clear c51
            (first | rw [c51b0] | (simp only [i64_w, i32_w]; rw [c51b0]) | skip)
            replace H := Option.bind_eq_some_iff.mp H
            obtain ⟨t484, A520, H⟩ := H
            replace H : (laws_FnExactShort.j0 k (!t484) a0_0 l0_1 a0_2 t457 t458 t461 t469 t470 t473) = some r := H
            have A52 := Aside0.mk A520
            clear A520
            have H' := Aside0.mk H
            clear H
            have hnb53 := NB474_450.out
            have hnc53 := NB450_474.out
            have hnb54 := NB474_462.out
            have hnc54 := NB462_474.out
            have hnb55 := NB474_468.out
            have hnc55 := NB468_474.out
            have hcz56_0 : w50.cell? ⟨gb474, 0, none⟩ = some (.int .i64 t469) := (blk_cell BK474.out 0).trans rfl
            have hcz56_1 : w50.cell? ⟨gb474, 1, none⟩ = some (.slice Ao42 t470.length co42) := (blk_cell BK474.out 1).trans rfl
            have hcz56_2 : w50.cell? ⟨gb474, 2, none⟩ = some (.string t473) := (blk_cell BK474.out 2).trans rfl
            have hfz56_0 := blk_frozen BK474.out 0
            have hfz56_1 := blk_frozen BK474.out 1
            have hfz56_2 := blk_frozen BK474.out 2
            have hnb57 := NB462_450.out
            have hnc57 := NB450_462.out
            have hnb58 := NB462_468.out
            have hnc58 := NB468_462.out
            have hcz59_0 : w50.cell? ⟨gb462, 0, none⟩ = some (.int .i64 t457) := (blk_cell BK462.out 0).trans rfl
            have hcz59_1 : w50.cell? ⟨gb462, 1, none⟩ = some (.slice Ao28 t458.length co28) := (blk_cell BK462.out 1).trans rfl
            have hcz59_2 : w50.cell? ⟨gb462, 2, none⟩ = some (.string t461) := (blk_cell BK462.out 2).trans rfl
            have hfz59_0 := blk_frozen BK462.out 0
            have hfz59_1 := blk_frozen BK462.out 1
            have hfz59_2 := blk_frozen BK462.out 2
            go_wp2_with (first | (go_at_call 52; (with_reducible refine (laws_eqResp.calls k t469 _ _ t470 t473 t457 _ _ t458 t461 t484 _ ?side1 ?side2 ?side3 ?side4 A52.out).mono ?_); (case side1 => repeat (first | exact (Kd.R_reads' HO472.out).2.2 | (with_reducible refine Kd.C_alloc ?_ _) | (with_reducible refine Kd.C_drewN ?_ _) | (with_reducible refine Kd.C_drew ?_))); (case side2 => exact (Kd.R_reads' HO472.out).2.1); (case side3 => repeat (first | exact (Kd.R_reads' HO460.out).2.2 | (with_reducible refine Kd.C_alloc ?_ _) | (with_reducible refine Kd.C_drewN ?_ _) | (with_reducible refine Kd.C_drew ?_))); (case side4 => exact (Kd.R_reads' HO460.out).2.1); rintro e w60 ⟨rfl, hb⟩; replace HO455 := kr HO455 hb; replace HO460 := kr HO460 hb; replace HO466 := kr HO466 hb; replace HO472 := kr HO472 hb; replace HO479 := kr HO479 hb; replace BK450 := kb BK450 hb; replace BK462 := kb BK462 hb; replace BK468 := kb BK468 hb; replace BK474 := kb BK474 hb; replace HB := Aside0.mk (below_step bl hb); (try clear hb); (try clear hb2); (try clear hk); (try clear hi)))
            go_meet
            case rel => exact ⟨_, (!t484), (by first | rfl | (simp; done) | (simp [*]; done)), H', ⟨by first | omega | exact Nat.le_refl _⟩, ⟨by (with_reducible repeat (first | apply Kd.R_alloc | apply Kd.R_drewN | apply Kd.R_drew)); exact Kd.R_mono HO460.out (fun _ hk => ⟨hk.2.1, hk.2.2.1⟩)⟩, ⟨by (with_reducible repeat (first | apply Kd.R_alloc | apply Kd.R_drewN | apply Kd.R_drew)); exact Kd.R_mono HO466.out (fun _ hk => ⟨hk.1.1.2, hk.1.2⟩)⟩, ⟨by (with_reducible repeat (first | apply Kd.R_alloc | apply Kd.R_drewN | apply Kd.R_drew)); exact Kd.R_mono HO472.out (fun _ hk => ⟨hk.2.1, hk.2.2.1⟩)⟩, ⟨by (with_reducible repeat (first | refine blk_drewN ?_ _ | refine blk_drew ?_ | refine blk_alloc ?_ _)); exact BK450.out⟩, ⟨by (with_reducible repeat (first | refine blk_drewN ?_ _ | refine blk_drew ?_ | refine blk_alloc ?_ _)); exact BK462.out⟩, ⟨by (with_reducible repeat (first | refine blk_drewN ?_ _ | refine blk_drew ?_ | refine blk_alloc ?_ _)); exact BK468.out⟩, ⟨by (with_reducible repeat (first | refine blk_drewN ?_ _ | refine blk_drew ?_ | refine blk_alloc ?_ _)); exact BK474.out⟩, ⟨by repeat (first | (with_reducible first | exact HB.out | apply below_alloc | apply pw_below_drewN | apply below_drew1 | refine below_set ?_ GE450.out | refine below_set ?_ GE462.out | refine below_set ?_ GE468.out | refine below_set ?_ GE474.out) | exact HB.out)⟩⟩
        case rest =>
          clear HC17
          try clear c1
          try clear c2
          try clear p2
          try clear c3
          try clear c3b0
          try clear c4
          try clear c5
          try clear c12
          try clear c13
          try clear c15
          try clear c26
          try clear c32
          try clear c33
          try clear c38
          try clear c39
          try clear c40
          try clear c48
          try clear c49
          try clear c50
          try clear c51
          try clear c51b0
          try clear c52
          try clear c53
          try clear c54
          try clear c55
          try clear c57
          try clear c58
          try clear hcz19_0
          try clear hcz19_1
          try clear hcz19_2
          try clear hcz21_0
          try clear hcz21_1
          try clear hcz21_2
          try clear hcz27_0
          try clear hcz27_1
          try clear hcz27_2
          try clear hcz29_0
          try clear hcz29_1
          try clear hcz29_2
          try clear hcz34_0
          try clear hcz34_1
          try clear hcz34_2
          try clear hcz41_0
          try clear hcz41_1
          try clear hcz41_2
          try clear hcz43_0
          try clear hcz43_1
          try clear hcz43_2
          try clear hcz49_0
          try clear hcz49_1
          try clear hcz49_2
          try clear hcz56_0
          try clear hcz56_1
          try clear hcz56_2
          try clear hcz59_0
          try clear hcz59_1
          try clear hcz59_2
          try clear hcz5_0
          try clear hcz5_1
          try clear hcz5_2
          try clear hfz19_0
          try clear hfz19_1
          try clear hfz19_2
          try clear hfz21_0
          try clear hfz21_1
          try clear hfz21_2
          try clear hfz27_0
          try clear hfz27_1
          try clear hfz27_2
          try clear hfz29_0
          try clear hfz29_1
          try clear hfz29_2
          try clear hfz34_0
          try clear hfz34_1
          try clear hfz34_2
          try clear hfz41_0
          try clear hfz41_1
          try clear hfz41_2
          try clear hfz43_0
          try clear hfz43_1
          try clear hfz43_2
          try clear hfz49_0
          try clear hfz49_1
          try clear hfz49_2
          try clear hfz56_0
          try clear hfz56_1
          try clear hfz56_2
          try clear hfz59_0
          try clear hfz59_1
          try clear hfz59_2
          try clear hfz5_0
          try clear hfz5_1
          try clear hfz5_2
          obtain ⟨kq, x42_16, rfl, HA, HJ16, HO_463001, HO_469001, HO_475001, BK450, BK462, BK468, BK474, HB⟩ := hcut
          have hl469001_16 := (Kd.R_reads' HO_469001.out).1
          rw [hl469001_16] at HO_469001
          (try simp only [hl469001_16])
          (try simp only [hl469001_16] at BK450)
          (try simp only [hl469001_16] at BK462)
          (try simp only [hl469001_16] at BK468)
          (try simp only [hl469001_16] at BK474)
          (try simp only [hl469001_16] at HO_463001)
          (try simp only [hl469001_16] at HO_475001)
          cases kq with
          | zero => exact absurd HA.out (by simp [laws_FnExactShort.j0])
          | succ kj16 =>
            have H := HA.out
            clear HA
            simp only [laws_FnExactShort.j0] at H
            by_cases c61 : x42_16 = true
            · subst c61
              have H1 : (some false) = some r := by rw [if_pos rfl] at H; exact H
              clear H
              have H := H1
              clear H1
              exact absurd (Option.some.inj H) (by rw [ht_]; decide)
            · replace c61 := Bool.eq_false_iff.mpr c61
              subst c61
              have H1 : ((laws_markResp.f kj16 t469 t470 t473 1).bind fun bt485 => ((laws_heldResp.f kj16 t469 bt485.2 t473 1).bind fun t487 => (if t487 < 0 then (some false) else (if t487 = bt485.1 then ((laws_toResp.f kj16 a0_0 l0_1 a0_2).bind fun bt488 => ((impl_Short.f kj16 bt488.1 bt488.2.1 bt488.2.2).bind fun bt493 => ((laws_eqResp.f kj16 bt493.1 bt493.2.1 bt493.2.2 t457 t458 t461).bind fun t499 => (if t499 = true then ((laws_heldResp.f kj16 t469 bt485.2 t473 1).bind fun t500 => (if t500 < 0 then (some false) else (if t500 = bt485.1 then (some true) else (some false)))) else (some false))))) else (some false))))) = some r := by rw [if_neg (show ¬ (false = true) by decide)] at H; exact H
              clear H
              have H := H1
              clear H1
              replace H := Option.bind_eq_some_iff.mp H
              obtain ⟨⟨t485, t486⟩, A620, H⟩ := H
              replace H : ((laws_heldResp.f kj16 t469 t486 t473 1).bind fun t487 => (if t487 < 0 then (some false) else (if t487 = t485 then ((laws_toResp.f kj16 a0_0 l0_1 a0_2).bind fun bt488 => ((impl_Short.f kj16 bt488.1 bt488.2.1 bt488.2.2).bind fun bt493 => ((laws_eqResp.f kj16 bt493.1 bt493.2.1 bt493.2.2 t457 t458 t461).bind fun t499 => (if t499 = true then ((laws_heldResp.f kj16 t469 t486 t473 1).bind fun t500 => (if t500 < 0 then (some false) else (if t500 = t485 then (some true) else (some false)))) else (some false))))) else (some false)))) = some r := H
              have A62 := Aside0.mk A620
              clear A620
              replace H := Option.bind_eq_some_iff.mp H
              obtain ⟨t487, A630, H⟩ := H
              replace H : (if t487 < 0 then (some false) else (if t487 = t485 then ((laws_toResp.f kj16 a0_0 l0_1 a0_2).bind fun bt488 => ((impl_Short.f kj16 bt488.1 bt488.2.1 bt488.2.2).bind fun bt493 => ((laws_eqResp.f kj16 bt493.1 bt493.2.1 bt493.2.2 t457 t458 t461).bind fun t499 => (if t499 = true then ((laws_heldResp.f kj16 t469 t486 t473 1).bind fun t500 => (if t500 < 0 then (some false) else (if t500 = t485 then (some true) else (some false)))) else (some false))))) else (some false))) = some r := H
              have A63 := Aside0.mk A630
              clear A630
              by_cases c64 : t487 < 0
              · rw [if_pos c64] at H
                have c64b0 : decide (t487 < 0) = true := decide_eq_true c64
                clear c64
                exact absurd (Option.some.inj H) (by rw [ht_]; decide)
              · rw [if_neg c64] at H
                have c64b0 : decide (t487 < 0) = false := decide_eq_false c64
                clear c64
                by_cases c65 : t487 = t485
                · rw [if_pos c65] at H
                  have c65b0 : (t487 == t485) = true := beq_iff_eq.mpr c65
                  have c65b1 : (t487 != t485) = false := bne_eq_false_iff_eq.mpr c65
                  clear c65
                  replace H := Option.bind_eq_some_iff.mp H
                  obtain ⟨⟨t488, t489, t492⟩, A660, H⟩ := H
                  replace H : ((impl_Short.f kj16 t488 t489 t492).bind fun bt493 => ((laws_eqResp.f kj16 bt493.1 bt493.2.1 bt493.2.2 t457 t458 t461).bind fun t499 => (if t499 = true then ((laws_heldResp.f kj16 t469 t486 t473 1).bind fun t500 => (if t500 < 0 then (some false) else (if t500 = t485 then (some true) else (some false)))) else (some false)))) = some r := H
                  have A66 := Aside0.mk A660
                  clear A660
                  replace H := Option.bind_eq_some_iff.mp H
                  obtain ⟨⟨t493, t494, t497⟩, A670, H⟩ := H
                  replace H : ((laws_eqResp.f kj16 t493 t494 t497 t457 t458 t461).bind fun t499 => (if t499 = true then ((laws_heldResp.f kj16 t469 t486 t473 1).bind fun t500 => (if t500 < 0 then (some false) else (if t500 = t485 then (some true) else (some false)))) else (some false))) = some r := H
                  have A67 := Aside0.mk A670
                  clear A670
                  replace H := Option.bind_eq_some_iff.mp H
                  obtain ⟨t499, A680, H⟩ := H
                  replace H : (if t499 = true then ((laws_heldResp.f kj16 t469 t486 t473 1).bind fun t500 => (if t500 < 0 then (some false) else (if t500 = t485 then (some true) else (some false)))) else (some false)) = some r := H
                  have A68 := Aside0.mk A680
                  clear A680
                  by_cases c69 : t499 = true
                  · subst c69
                    have H1 : ((laws_heldResp.f kj16 t469 t486 t473 1).bind fun t500 => (if t500 < 0 then (some false) else (if t500 = t485 then (some true) else (some false)))) = some r := by rw [if_pos rfl] at H; exact H
                    clear H
                    have H := H1
                    clear H1
                    replace H := Option.bind_eq_some_iff.mp H
                    obtain ⟨t500, A700, H⟩ := H
                    replace H : (if t500 < 0 then (some false) else (if t500 = t485 then (some true) else (some false))) = some r := H
                    have A70 := Aside0.mk A700
                    clear A700
                    by_cases c71 : t500 < 0
                    · rw [if_pos c71] at H
                      have c71b0 : decide (t500 < 0) = true := decide_eq_true c71
                      clear c71
                      exact absurd (Option.some.inj H) (by rw [ht_]; decide)
                    · rw [if_neg c71] at H
                      have c71b0 : decide (t500 < 0) = false := decide_eq_false c71
                      clear c71
                      by_cases c72 : t500 = t485
                      · rw [if_pos c72] at H
                        have c72b0 : (t500 == t485) = true := beq_iff_eq.mpr c72
                        have c72b1 : (t500 != t485) = false := bne_eq_false_iff_eq.mpr c72
                        clear c72
                        obtain rfl := Option.some.inj H
                        have hnb73 := NB474_450.out
                        have hnc73 := NB450_474.out
                        have hnb74 := NB474_462.out
                        have hnc74 := NB462_474.out
                        have hnb75 := NB474_468.out
                        have hnc75 := NB468_474.out
                        have hcz76_0 : wc.cell? ⟨gb474, 0, none⟩ = some (.int .i64 t469) := (blk_cell BK474.out 0).trans rfl
                        have hcz76_1 : wc.cell? ⟨gb474, 1, none⟩ = some (.slice Ao42 t470.length co42) := (blk_cell BK474.out 1).trans rfl
                        have hcz76_2 : wc.cell? ⟨gb474, 2, none⟩ = some (.string t473) := (blk_cell BK474.out 2).trans rfl
                        have hfz76_0 := blk_frozen BK474.out 0
                        have hfz76_1 := blk_frozen BK474.out 1
                        have hfz76_2 := blk_frozen BK474.out 2
                        go_wp2_with (first | ((with_reducible refine gate_callee (f := 53) rfl ?_); refine goesL_ (some 45) rfl rfl Try.func53 (by kernel_rfl) rfl #[.agg #[.int .i64 t469, .slice Ao42 t470.length co42, .string t473], .int .i64 1] rfl ma ?_; (with_reducible refine (laws_markResp.calls kj16 t469 (fun k_ => some k_ = (.slice Ao42 t470.length co42 : Value).ownBlock) (.slice Ao42 t470.length co42) t470 t473 1 t485 t486 w _ ?side1 ?side2 A62.out).mono ?_); (case side1 => repeat (first | (with_reducible first | exact HB.out | apply below_alloc | apply pw_below_drewN | apply below_drew1 | refine below_set ?_ GE450.out | refine below_set ?_ GE462.out | refine below_set ?_ GE468.out | refine below_set ?_ GE474.out) | exact HB.out)); (case side2 => exact Kd.R_tight rfl HO_475001.out); rintro e w77 ⟨rfl, hy0, hb, hkp⟩; refine ⟨_, rfl, ?_⟩; replace HO_463001 := Aside0.mk (Kd.R_mono (ok' := fun k_ => some k_ ≠ (.slice Ao35 t483.length co35 : Value).ownBlock ∧ some k_ ≠ (.slice Ao42 t470.length co42 : Value).ownBlock) (Kd.R_keptB (HO_463001.out) hkp (fun k_ hk_ hs_ => (hk_.2) hs_)) (fun k_ hk_ => ⟨hk_.1.1, hk_.1.2⟩)); replace HO_469001 := Aside0.mk (Kd.R_mono (ok' := fun k_ => some k_ ≠ (.slice Ao28 t458.length co28 : Value).ownBlock ∧ some k_ ≠ (.slice Ao42 t470.length co42 : Value).ownBlock) (Kd.R_keptB (HO_469001.out) hkp (fun k_ hk_ hs_ => (hk_.2) hs_)) (fun k_ hk_ => ⟨hk_.1.1, hk_.1.2⟩)); replace BK450 := Aside0.mk (blk_kept (bk BK450) hkp (fun hs_ => (fun e_ => (Kd.R_ne HO_475001.out BK450.out (by decide)) e_) hs_)); replace BK462 := Aside0.mk (blk_kept (bk BK462) hkp (fun hs_ => (fun e_ => (Kd.R_ne HO_475001.out BK462.out (by decide)) e_) hs_)); replace BK468 := Aside0.mk (blk_kept (bk BK468) hkp (fun hs_ => (fun e_ => (Kd.R_ne HO_475001.out BK468.out (by decide)) e_) hs_)); replace BK474 := Aside0.mk (blk_kept (bk BK474) hkp (fun hs_ => (fun e_ => (Kd.R_ne HO_475001.out BK474.out (by decide)) e_) hs_)); replace HO_475001 := Aside0.mk (Kd.R_reok rfl hy0 (fun k_ e_ => HO_475001.out.1 k_ e_)); replace HB := Aside0.mk (hb); (try clear hb); (try clear hkp); (try clear hy0); have hcz78_0 : w77.cell? ⟨gb474, 0, none⟩ = some (.int .i64 t469) := (blk_cell BK474.out 0).trans rfl; have hcz78_1 : w77.cell? ⟨gb474, 1, none⟩ = some (.slice Ao42 t470.length co42) := (blk_cell BK474.out 1).trans rfl; have hcz78_2 : w77.cell? ⟨gb474, 2, none⟩ = some (.string t473) := (blk_cell BK474.out 2).trans rfl; have hfz78_0 := blk_frozen BK474.out 0; have hfz78_1 := blk_frozen BK474.out 1; have hfz78_2 := blk_frozen BK474.out 2) | ((with_reducible refine gate_callee (f := 54) rfl ?_); refine goesL_ (some 48) rfl rfl Try.func54 (by kernel_rfl) rfl #[.agg #[.int .i64 t469, .slice Ao42 t486.length co42, .string t473], .int .i64 1] rfl (by (try simp only [List.map_toArray, List.map_cons, List.map_nil]); first | done | (rw [show t486.length = t470.length from (Kd.R_reads' HO_475001.out).1.symm] <;> rfl) | rfl | (simp only [List.length_drop, List.length_take]; rfl)) ?_; (with_reducible refine (laws_heldResp.calls kj16 t469 _ _ t486 t473 1 t487 _ ?side1 ?side2 A63.out).mono ?_); (case side1 => repeat (first | exact (Kd.R_reads' HO_475001.out).2.2 | (with_reducible refine Kd.C_alloc ?_ _) | (with_reducible refine Kd.C_drewN ?_ _) | (with_reducible refine Kd.C_drew ?_))); (case side2 => rw [show t486.length = t470.length from (Kd.R_reads' HO_475001.out).1.symm]; exact (Kd.R_reads' HO_475001.out).2.1); rintro e w79 ⟨rfl, hb⟩; refine ⟨_, rfl, ?_⟩; replace HO_463001 := kr HO_463001 hb; replace HO_469001 := kr HO_469001 hb; replace HO_475001 := kr HO_475001 hb; replace BK450 := kb BK450 hb; replace BK462 := kb BK462 hb; replace BK468 := kb BK468 hb; replace BK474 := kb BK474 hb; replace HB := Aside0.mk (below_step bl hb); (try clear hb); (try clear hb2); (try clear hk); (try clear hi); have hnb80 := NB450_462.out; have hnc80 := NB462_450.out; have hnb81 := NB450_468.out; have hnc81 := NB468_450.out; have hcz82_0 : w79.cell? ⟨gb450, 0, none⟩ = some (.int .i64 a0_0) := (blk_cell BK450.out 0).trans rfl; have hcz82_1 : w79.cell? ⟨gb450, 1, none⟩ = some (.slice A0_1 l0_1.length c0_1) := (blk_cell BK450.out 1).trans rfl; have hcz82_2 : w79.cell? ⟨gb450, 2, none⟩ = some (.string a0_2) := (blk_cell BK450.out 2).trans rfl; have hfz82_0 := blk_frozen BK450.out 0; have hfz82_1 := blk_frozen BK450.out 1; have hfz82_2 := blk_frozen BK450.out 2) | ((with_reducible refine gate_callee (f := 50) rfl ?_); refine goesL_ (some 55) rfl rfl Try.func50 (by kernel_rfl) rfl #[.agg #[.int .i64 a0_0, .slice A0_1 l0_1.length c0_1, .string a0_2]] rfl ma ?_; (with_reducible refine (laws_toResp.calls kj16 a0_0 _ _ l0_1 a0_2 t488 t489 t492 _ ?side1 ?side2 A66.out).mono ?_); (case side1 => repeat (first | exact (Kd.C_below HR0_1.out HB.out) | (with_reducible refine Kd.C_alloc ?_ _) | (with_reducible refine Kd.C_drewN ?_ _) | (with_reducible refine Kd.C_drew ?_))); (case side2 => exact HC0_1.out); rintro e w83 ⟨v490, rfl, ho0, hb⟩; refine ⟨_, rfl, ?_⟩; have HO491 := Aside0.mk (Kd.R_lower (Kd.R_new' (Kd.R_new' (Kd.R_new' ho0 (Kd.R_lt (ro HO_463001))) (Kd.R_lt (ro HO_469001))) (Kd.R_lt (ro HO_475001))) (below_size bl)); replace HO_463001 := Aside0.mk (Kd.R_elder' (ro HO_463001) (Kd.R_base ho0) hb); replace HO_469001 := Aside0.mk (Kd.R_elder' (ro HO_469001) (Kd.R_base ho0) hb); replace HO_475001 := Aside0.mk (Kd.R_elder' (ro HO_475001) (Kd.R_base ho0) hb); replace BK450 := kb BK450 hb; replace BK462 := kb BK462 hb; replace BK468 := kb BK468 hb; replace BK474 := kb BK474 hb; replace HB := Aside0.mk (below_step bl hb); (try clear hb); (try clear hb2); (try clear hk); (try clear hi); (try clear ho0); obtain ⟨Ao84, co84, eo84⟩ := Kd.R_slice HO491.out; subst eo84) | ((with_reducible refine gate_callee (f := 51) rfl ?_); refine goesL_ (some 56) rfl rfl Try.func51 (by kernel_rfl) rfl #[.agg #[.int .i64 t488, .slice Ao84 t489.length co84, .string t492]] rfl ma ?_; (with_reducible refine (impl_Short.calls kj16 t488 _ _ t489 t492 t493 t494 t497 _ ?side1 ?side2 A67.out).mono ?_); (case side1 => repeat (first | exact (Kd.R_reads' HO491.out).2.2 | (with_reducible refine Kd.C_alloc ?_ _) | (with_reducible refine Kd.C_drewN ?_ _) | (with_reducible refine Kd.C_drew ?_))); (case side2 => exact (Kd.R_reads' HO491.out).2.1); rintro e w85 ⟨v495, rfl, ho0, hb⟩; refine ⟨_, rfl, ?_⟩; have HO496 := Aside0.mk (Kd.R_lower (Kd.R_new' (Kd.R_new' (Kd.R_new' (Kd.R_new' ho0 (Kd.R_lt (ro HO_463001))) (Kd.R_lt (ro HO_469001))) (Kd.R_lt (ro HO_475001))) (Kd.R_lt (ro HO491))) (below_size bl)); replace HO_463001 := Aside0.mk (Kd.R_elder' (ro HO_463001) (Kd.R_base ho0) hb); replace HO_469001 := Aside0.mk (Kd.R_elder' (ro HO_469001) (Kd.R_base ho0) hb); replace HO_475001 := Aside0.mk (Kd.R_elder' (ro HO_475001) (Kd.R_base ho0) hb); replace HO491 := Aside0.mk (Kd.R_elder' (ro HO491) (Kd.R_base ho0) hb); replace BK450 := kb BK450 hb; replace BK462 := kb BK462 hb; replace BK468 := kb BK468 hb; replace BK474 := kb BK474 hb; replace HB := Aside0.mk (below_step bl hb); (try clear hb); (try clear hb2); (try clear hk); (try clear hi); (try clear ho0)) | ((with_reducible refine gate_dst (N := 10) rfl ?_); refine box_event ?hg (N := 10) ?hd (cs := #[.int .i64 0, .slice none 0 0, .string (⟨#[]⟩ : ByteArray)]) (t := 63) ?hr ?_; (case hd => rfl); (case hg => rfl); (case hr => first | (go_simp; done) | (go_simp; rfl)); intro gb498 hg w86 hbox hb; have n0_ := Aside0.mk (Kd.R_below (ro HO_463001) hb); have n1_ := Aside0.mk (Kd.R_below (ro HO_469001) hb); have n2_ := Aside0.mk (Kd.R_below (ro HO_475001) hb); have n3_ := Aside0.mk (Kd.R_below (ro HO491) hb); have n4_ := Aside0.mk (Kd.R_below (ro HO496) hb); have n5_ := Aside0.mk (blk_below (g := gb450) (o := .cells #[.int .i64 a0_0, .slice A0_1 l0_1.length c0_1, .string a0_2] 60 (0, 0)) (bk BK450) hb); have n6_ := Aside0.mk (blk_below (g := gb462) (o := .cells #[.int .i64 t457, .slice Ao28 t458.length co28, .string t461] 63 (0, 0)) (bk BK462) hb); have n7_ := Aside0.mk (blk_below (g := gb468) (o := .cells #[.int .i64 t463, .slice Ao35 t483.length co35, .string t467] 63 (0, 0)) (bk BK468) hb); have n8_ := Aside0.mk (blk_below (g := gb474) (o := .cells #[.int .i64 t469, .slice Ao42 t470.length co42, .string t473] 63 (0, 0)) (bk BK474) hb); have n9_ := Aside0.mk (below_step bl hb); have n10_ := Aside0.mk (hbox); have n11_ := Aside0.mk ((by rw [hg]; exact (below_size bl) : w.heap.size ≤ gb498)); have n12_ := Aside0.mk ((by rw [hg]; exact (below_size bl) : w.heap.size ≤ gb498)); have n13_ := Aside0.mk ((by rw [hg]; exact Nat.ne_of_lt (blk_lt (g := gb450) (o := .cells #[.int .i64 a0_0, .slice A0_1 l0_1.length c0_1, .string a0_2] 60 (0, 0)) (bk BK450)) : gb450 ≠ gb498)); have n14_ := Aside0.mk ((by rw [hg]; exact Nat.ne_of_gt (blk_lt (g := gb450) (o := .cells #[.int .i64 a0_0, .slice A0_1 l0_1.length c0_1, .string a0_2] 60 (0, 0)) (bk BK450)) : gb498 ≠ gb450)); have n15_ := Aside0.mk ((by rw [hg]; exact Nat.ne_of_lt (blk_lt (g := gb462) (o := .cells #[.int .i64 t457, .slice Ao28 t458.length co28, .string t461] 63 (0, 0)) (bk BK462)) : gb462 ≠ gb498)); have n16_ := Aside0.mk ((by rw [hg]; exact Nat.ne_of_gt (blk_lt (g := gb462) (o := .cells #[.int .i64 t457, .slice Ao28 t458.length co28, .string t461] 63 (0, 0)) (bk BK462)) : gb498 ≠ gb462)); have n17_ := Aside0.mk ((by rw [hg]; exact Nat.ne_of_lt (blk_lt (g := gb468) (o := .cells #[.int .i64 t463, .slice Ao35 t483.length co35, .string t467] 63 (0, 0)) (bk BK468)) : gb468 ≠ gb498)); have n18_ := Aside0.mk ((by rw [hg]; exact Nat.ne_of_gt (blk_lt (g := gb468) (o := .cells #[.int .i64 t463, .slice Ao35 t483.length co35, .string t467] 63 (0, 0)) (bk BK468)) : gb498 ≠ gb468)); have n19_ := Aside0.mk ((by rw [hg]; exact Nat.ne_of_lt (blk_lt (g := gb474) (o := .cells #[.int .i64 t469, .slice Ao42 t470.length co42, .string t473] 63 (0, 0)) (bk BK474)) : gb474 ≠ gb498)); have n20_ := Aside0.mk ((by rw [hg]; exact Nat.ne_of_gt (blk_lt (g := gb474) (o := .cells #[.int .i64 t469, .slice Ao42 t470.length co42, .string t473] 63 (0, 0)) (bk BK474)) : gb498 ≠ gb474)); clear HO_463001; clear HO_469001; clear HO_475001; clear HO491; clear HO496; clear BK450; clear BK462; clear BK468; clear BK474; clear HB; have HO_463001 := n0_; have HO_469001 := n1_; have HO_475001 := n2_; have HO491 := n3_; have HO496 := n4_; have BK450 := n5_; have BK462 := n6_; have BK468 := n7_; have BK474 := n8_; have HB := n9_; have BK498 := n10_; have GW498 := n11_; have GE498 := n12_; have NB450_498 := n13_; have NB498_450 := n14_; have NB462_498 := n15_; have NB498_462 := n16_; have NB468_498 := n17_; have NB498_468 := n18_; have NB474_498 := n19_; have NB498_474 := n20_; clear n0_ n1_ n2_ n3_ n4_ n5_ n6_ n7_ n8_ n9_ n10_ n11_ n12_ n13_ n14_ n15_ n16_ n17_ n18_ n19_ n20_; clear hb hbox hg; have hnb87 := NB498_450.out; have hnc87 := NB450_498.out; have hnb88 := NB498_462.out; have hnc88 := NB462_498.out; have hnb89 := NB498_468.out; have hnc89 := NB468_498.out; have hnb90 := NB498_474.out; have hnc90 := NB474_498.out; have hcz91_0 : w86.cell? ⟨gb498, 0, none⟩ = some (.int .i64 0) := (blk_cell BK498.out 0).trans rfl; have hcz91_1 : w86.cell? ⟨gb498, 1, none⟩ = some (.slice none 0 0) := (blk_cell BK498.out 1).trans rfl; have hcz91_2 : w86.cell? ⟨gb498, 2, none⟩ = some (.string (⟨#[]⟩ : ByteArray)) := (blk_cell BK498.out 2).trans rfl; have hfz91_0 := blk_frozen BK498.out 0; have hfz91_1 := blk_frozen BK498.out 1; have hfz91_2 := blk_frozen BK498.out 2; obtain ⟨Ao92, co92, eo92⟩ := Kd.R_slice HO496.out; subst eo92; have hnb93 := NB462_468.out; have hnc93 := NB468_462.out; have hcz94_0 : w86.cell? ⟨gb462, 0, none⟩ = some (.int .i64 t457) := (blk_cell BK462.out 0).trans rfl; have hcz94_1 : w86.cell? ⟨gb462, 1, none⟩ = some (.slice Ao28 t458.length co28) := (blk_cell BK462.out 1).trans rfl; have hcz94_2 : w86.cell? ⟨gb462, 2, none⟩ = some (.string t461) := (blk_cell BK462.out 2).trans rfl; have hfz94_0 := blk_frozen BK462.out 0; have hfz94_1 := blk_frozen BK462.out 1; have hfz94_2 := blk_frozen BK462.out 2) | ((with_reducible refine gate_callee (f := 52) rfl ?_); refine goesL_ (some 59) rfl rfl Try.func52 (by kernel_rfl) rfl #[.agg #[.int .i64 t493, .slice Ao92 t494.length co92, .string t497], .agg #[.int .i64 t457, .slice Ao28 t458.length co28, .string t461]] rfl ma ?_; (with_reducible refine (laws_eqResp.calls kj16 t493 _ _ t494 t497 t457 _ _ t458 t461 true _ ?side1 ?side2 ?side3 ?side4 A68.out).mono ?_); (case side1 => refine (Kd.R_reads' (e := 81) (base := w.heap.size) (ok := fun k_ => ((((True ∧ some k_ ≠ (.slice Ao28 t458.length co28 : Value).ownBlock) ∧ some k_ ≠ (.slice Ao35 t483.length co35 : Value).ownBlock) ∧ some k_ ≠ (.slice Ao42 t470.length co42 : Value).ownBlock) ∧ some k_ ≠ (.slice Ao84 t489.length co84 : Value).ownBlock)) (n := t494.length) (c := co92) ?_).2.2; exact (by (with_reducible repeat (first | apply Kd.R_alloc | apply Kd.R_drewN | apply Kd.R_drew)); exact (Kd.R_mono (Kd.R_far (p := ⟨gb498, 2, none⟩) (Kd.R_far (p := ⟨gb498, 1, none⟩) (Kd.R_far (p := ⟨gb498, 0, none⟩) (Kd.R_types HO496.out BK498.out (by decide)) (fun _ hk => hk.2) (.int .i64 t493)) (fun _ hk => hk.2) (.slice Ao92 t494.length co92)) (fun _ hk => hk.2) (.string t497)) (fun _ h_ => h_.1)))); (case side2 => exact (Kd.R_reads' HO496.out).2.1); (case side3 => refine (Kd.R_reads' (e := 81) (base := w.heap.size) (ok := fun k_ => (((some k_ ≠ (.slice Ao35 t483.length co35 : Value).ownBlock ∧ some k_ ≠ (.slice Ao42 t470.length co42 : Value).ownBlock) ∧ some k_ ≠ (.slice Ao84 t489.length co84 : Value).ownBlock) ∧ some k_ ≠ (.slice Ao92 t494.length co92 : Value).ownBlock)) (n := t458.length) (c := co28) ?_).2.2; exact (by (with_reducible repeat (first | apply Kd.R_alloc | apply Kd.R_drewN | apply Kd.R_drew)); exact (Kd.R_mono (Kd.R_far (p := ⟨gb498, 2, none⟩) (Kd.R_far (p := ⟨gb498, 1, none⟩) (Kd.R_far (p := ⟨gb498, 0, none⟩) (Kd.R_types HO_463001.out BK498.out (by decide)) (fun _ hk => hk.2) (.int .i64 t493)) (fun _ hk => hk.2) (.slice Ao92 t494.length co92)) (fun _ hk => hk.2) (.string t497)) (fun _ h_ => h_.1)))); (case side4 => exact (Kd.R_reads' HO_463001.out).2.1); rintro e w95 ⟨rfl, hb⟩; refine ⟨_, rfl, ?_⟩; have n0_ := Aside0.mk (Kd.R_below (by (with_reducible repeat (first | apply Kd.R_alloc | apply Kd.R_drewN | apply Kd.R_drew)); exact (Kd.R_mono (Kd.R_far (p := ⟨gb498, 2, none⟩) (Kd.R_far (p := ⟨gb498, 1, none⟩) (Kd.R_far (p := ⟨gb498, 0, none⟩) (Kd.R_types HO_463001.out BK498.out (by decide)) (fun _ hk => hk.2) (.int .i64 t493)) (fun _ hk => hk.2) (.slice Ao92 t494.length co92)) (fun _ hk => hk.2) (.string t497)) (fun _ h_ => h_.1))) hb); have n1_ := Aside0.mk (Kd.R_below (by (with_reducible repeat (first | apply Kd.R_alloc | apply Kd.R_drewN | apply Kd.R_drew)); exact (Kd.R_mono (Kd.R_far (p := ⟨gb498, 2, none⟩) (Kd.R_far (p := ⟨gb498, 1, none⟩) (Kd.R_far (p := ⟨gb498, 0, none⟩) (Kd.R_types HO_469001.out BK498.out (by decide)) (fun _ hk => hk.2) (.int .i64 t493)) (fun _ hk => hk.2) (.slice Ao92 t494.length co92)) (fun _ hk => hk.2) (.string t497)) (fun _ h_ => h_.1))) hb); have n2_ := Aside0.mk (Kd.R_below (by (with_reducible repeat (first | apply Kd.R_alloc | apply Kd.R_drewN | apply Kd.R_drew)); exact (Kd.R_mono (Kd.R_far (p := ⟨gb498, 2, none⟩) (Kd.R_far (p := ⟨gb498, 1, none⟩) (Kd.R_far (p := ⟨gb498, 0, none⟩) (Kd.R_types HO_475001.out BK498.out (by decide)) (fun _ hk => hk.2) (.int .i64 t493)) (fun _ hk => hk.2) (.slice Ao92 t494.length co92)) (fun _ hk => hk.2) (.string t497)) (fun _ h_ => h_.1))) hb); have n3_ := Aside0.mk (Kd.R_below (by (with_reducible repeat (first | apply Kd.R_alloc | apply Kd.R_drewN | apply Kd.R_drew)); exact (Kd.R_mono (Kd.R_far (p := ⟨gb498, 2, none⟩) (Kd.R_far (p := ⟨gb498, 1, none⟩) (Kd.R_far (p := ⟨gb498, 0, none⟩) (Kd.R_types HO491.out BK498.out (by decide)) (fun _ hk => hk.2) (.int .i64 t493)) (fun _ hk => hk.2) (.slice Ao92 t494.length co92)) (fun _ hk => hk.2) (.string t497)) (fun _ h_ => h_.1))) hb); have n4_ := Aside0.mk (Kd.R_below (by (with_reducible repeat (first | apply Kd.R_alloc | apply Kd.R_drewN | apply Kd.R_drew)); exact (Kd.R_mono (Kd.R_far (p := ⟨gb498, 2, none⟩) (Kd.R_far (p := ⟨gb498, 1, none⟩) (Kd.R_far (p := ⟨gb498, 0, none⟩) (Kd.R_types HO496.out BK498.out (by decide)) (fun _ hk => hk.2) (.int .i64 t493)) (fun _ hk => hk.2) (.slice Ao92 t494.length co92)) (fun _ hk => hk.2) (.string t497)) (fun _ h_ => h_.1))) hb); have n5_ := Aside0.mk (blk_below (g := gb450) (o := .cells #[.int .i64 a0_0, .slice A0_1 l0_1.length c0_1, .string a0_2] 60 (0, 0)) (bf BK450) hb); have n6_ := Aside0.mk (blk_below (g := gb462) (o := .cells #[.int .i64 t457, .slice Ao28 t458.length co28, .string t461] 63 (0, 0)) (bf BK462) hb); have n7_ := Aside0.mk (blk_below (g := gb468) (o := .cells #[.int .i64 t463, .slice Ao35 t483.length co35, .string t467] 63 (0, 0)) (bf BK468) hb); have n8_ := Aside0.mk (blk_below (g := gb474) (o := .cells #[.int .i64 t469, .slice Ao42 t470.length co42, .string t473] 63 (0, 0)) (bf BK474) hb); have n9_ := Aside0.mk (blk_below (g := gb498) (o := .cells #[.int .i64 t493, .slice Ao92 t494.length co92, .string t497] 63 (0, 0)) (by (with_reducible repeat (first | refine blk_drewN ?_ _ | refine blk_drew ?_ | refine blk_alloc ?_ _)); refine blk_put (cs := #[.int .i64 t493, .slice Ao92 t494.length co92, .string (⟨#[]⟩ : ByteArray)]) ?_ 2 _ rfl; (with_reducible repeat (first | refine blk_drewN ?_ _ | refine blk_drew ?_ | refine blk_alloc ?_ _)); refine blk_put (cs := #[.int .i64 t493, .slice none 0 0, .string (⟨#[]⟩ : ByteArray)]) ?_ 1 _ rfl; (with_reducible repeat (first | refine blk_drewN ?_ _ | refine blk_drew ?_ | refine blk_alloc ?_ _)); refine blk_put (cs := #[.int .i64 0, .slice none 0 0, .string (⟨#[]⟩ : ByteArray)]) ?_ 0 _ rfl; (with_reducible repeat (first | refine blk_drewN ?_ _ | refine blk_drew ?_ | refine blk_alloc ?_ _)); exact BK498.out) hb); have n10_ := Aside0.mk (below_step bl hb); clear HO_463001; clear HO_469001; clear HO_475001; clear HO491; clear HO496; clear BK450; clear BK462; clear BK468; clear BK474; clear BK498; clear HB; have HO_463001 := n0_; have HO_469001 := n1_; have HO_475001 := n2_; have HO491 := n3_; have HO496 := n4_; have BK450 := n5_; have BK462 := n6_; have BK468 := n7_; have BK474 := n8_; have BK498 := n9_; have HB := n10_; clear n0_ n1_ n2_ n3_ n4_ n5_ n6_ n7_ n8_ n9_ n10_; (try clear hb); (try clear hb2); (try clear hk); (try clear hi); have hcz96_0 : w95.cell? ⟨gb474, 0, none⟩ = some (.int .i64 t469) := (blk_cell BK474.out 0).trans rfl; have hcz96_1 : w95.cell? ⟨gb474, 1, none⟩ = some (.slice Ao42 t470.length co42) := (blk_cell BK474.out 1).trans rfl; have hcz96_2 : w95.cell? ⟨gb474, 2, none⟩ = some (.string t473) := (blk_cell BK474.out 2).trans rfl; have hfz96_0 := blk_frozen BK474.out 0; have hfz96_1 := blk_frozen BK474.out 1; have hfz96_2 := blk_frozen BK474.out 2) | ((with_reducible refine gate_callee (f := 54) rfl ?_); refine goesL_ (some 63) rfl rfl Try.func54 (by kernel_rfl) rfl #[.agg #[.int .i64 t469, .slice Ao42 t486.length co42, .string t473], .int .i64 1] rfl (by (try simp only [List.map_toArray, List.map_cons, List.map_nil]); first | done | (rw [show t486.length = t470.length from (Kd.R_reads' HO_475001.out).1.symm] <;> rfl) | rfl | (simp only [List.length_drop, List.length_take]; rfl)) ?_; (with_reducible refine (laws_heldResp.calls kj16 t469 _ _ t486 t473 1 t500 _ ?side1 ?side2 A70.out).mono ?_); (case side1 => repeat (first | exact (Kd.R_reads' HO_475001.out).2.2 | (with_reducible refine Kd.C_alloc ?_ _) | (with_reducible refine Kd.C_drewN ?_ _) | (with_reducible refine Kd.C_drew ?_))); (case side2 => rw [show t486.length = t470.length from (Kd.R_reads' HO_475001.out).1.symm]; exact (Kd.R_reads' HO_475001.out).2.1); rintro e w97 ⟨rfl, hb⟩; refine ⟨_, rfl, ?_⟩; replace HO_463001 := kr HO_463001 hb; replace HO_469001 := kr HO_469001 hb; replace HO_475001 := kr HO_475001 hb; replace HO491 := kr HO491 hb; replace HO496 := kr HO496 hb; replace BK450 := kb BK450 hb; replace BK462 := kb BK462 hb; replace BK468 := kb BK468 hb; replace BK474 := kb BK474 hb; replace BK498 := kb BK498 hb; replace HB := Aside0.mk (below_step bl hb); (try clear hb); (try clear hb2); (try clear hk); (try clear hi)))
                        go_ret
                        exact ⟨rf, bl⟩
                      · rw [if_neg c72] at H
                        have c72b0 : (t500 == t485) = false := beq_eq_false_iff_ne.mpr c72
                        have c72b1 : (t500 != t485) = true := bne_iff_ne.mpr c72
                        exact absurd (Option.some.inj H) (by rw [ht_]; decide)
                  · replace c69 := Bool.eq_false_iff.mpr c69
                    subst c69
                    have H1 : (some false) = some r := by rw [if_neg (show ¬ (false = true) by decide)] at H; exact H
                    clear H
                    have H := H1
                    clear H1
                    exact absurd (Option.some.inj H) (by rw [ht_]; decide)
                · rw [if_neg c65] at H
                  have c65b0 : (t487 == t485) = false := beq_eq_false_iff_ne.mpr c65
                  have c65b1 : (t487 != t485) = true := bne_iff_ne.mpr c65
                  exact absurd (Option.some.inj H) (by rw [ht_]; decide)
      · replace c15 := Bool.eq_false_iff.mpr c15
        subst c15
        have H1 : (some false) = some r := by rw [if_neg (show ¬ (false = true) by decide)] at H; exact H
        clear H
        have H := H1
        clear H1
        exact absurd (Option.some.inj H) (by rw [ht_]; decide)
    · replace c12 := Bool.eq_false_iff.mpr c12
      subst c12
      have H1 : (some false) = some r := by rw [if_neg (show ¬ (false = true) by decide)] at H; exact H
      clear H
      have H := H1
      clear H1
      exact absurd (Option.some.inj H) (by rw [ht_]; decide)

/-! ### laws_szStringS: function 55 -/
def laws_szStringS.l0 : Nat → List ByteArray → Int → Int → Option (Int)
  | 0, _, _, _ => none
  | k + 1, x0, x1, x5 => if x5 < (x0.length : Int) then (if 0 ≤ x5 then (if (wrap64 (x1 - ((rdOf ByteArray.empty x0 x5).size : Int))) < 0 then (some (-1)) else (laws_szStringS.l0 k x0 (wrap64 (x1 - ((rdOf ByteArray.empty x0 x5).size : Int))) (wrap64 (x5 + 1)))) else (none)) else (some x1)
def laws_szStringS.f (k : Nat) (l0 : List ByteArray) (a1 : Int) : Option (Int) := if (wrap64 (a1 - (l0.length : Int))) < 0 then (some (-1)) else (laws_szStringS.l0 k l0 (wrap64 (a1 - (l0.length : Int))) 0)
theorem laws_szStringS.mono_l : ∀ k, (∀ y0 y1 y2, LeO (laws_szStringS.l0 k y0 y1 y2) (laws_szStringS.l0 (k + 1) y0 y1 y2))
  | 0 => fun _ _ _ r h => by simp [laws_szStringS.l0] at h
  | k + 1 => by
    have ih0 := laws_szStringS.mono_l k
    · intro y0 y1 y2
      unfold laws_szStringS.l0
      repeat' first
      | (with_reducible exact ih0 _ _ _)
      | (with_reducible exact LeO.refl _)
      | (with_reducible exact LeO.none _)
      | (with_reducible refine LeO.ite ?_ ?_)
      | (with_reducible refine LeO.bind ?_ (fun _ => ?_))
      | exact ih0 _ _ _
      | exact LeO.none _
      | refine LeO.ite ?_ ?_
      | refine LeO.bind ?_ (fun _ => ?_)
theorem laws_szStringS.mono : ∀ a0 a1 k, LeO (laws_szStringS.f k a0 a1) (laws_szStringS.f (k + 1) a0 a1) := by
  intro a0 a1 k
  have ih0 := laws_szStringS.mono_l k
  unfold laws_szStringS.f
  repeat' first
      | (with_reducible exact ih0 _ _ _)
      | (with_reducible exact LeO.refl _)
      | (with_reducible exact LeO.none _)
      | (with_reducible refine LeO.ite ?_ ?_)
      | (with_reducible refine LeO.bind ?_ (fun _ => ?_))
      | exact ih0 _ _ _
      | exact LeO.none _
      | refine LeO.ite ?_ ?_
      | refine LeO.bind ?_ (fun _ => ?_)
set_option maxHeartbeats 8000000 in
set_option maxRecDepth 100000 in
theorem laws_szStringS.calls (k : Nat) (A0 : Option Addr) (c0 : Nat) (l0 : List ByteArray) (a1 : Int) (r : Int) (w : World) (hr0 : Kd.C Kd.string w A0 l0.length l0) (hc0 : l0.length ≤ c0) (h : laws_szStringS.f k l0 a1 = some r) :
    Calls Try.prog 55 #[.slice A0 l0.length c0, .int .i64 a1] w fun e w' => e = .returned (.int .i64 r) ∧ Drawn0 w w' := by
  have HR0 := Aside0.mk hr0
  have HC0 := Aside0.mk hc0
  clear hr0 hc0
  have H : (if (wrap64 (a1 - (l0.length : Int))) < 0 then (some (-1)) else (laws_szStringS.l0 k l0 (wrap64 (a1 - (l0.length : Int))) 0)) = some r := h
  clear h
  by_cases c3 : (wrap64 (a1 - (l0.length : Int))) < 0
  · rw [if_pos c3] at H
    have c3b0 : decide ((wrap64 (a1 - (l0.length : Int))) < 0) = true := decide_eq_true c3
    clear c3
    obtain rfl := Option.some.inj H
    go_enter Try.func55, Try.ntmps55
    go_wp2
    go_ret
    exact ⟨by first | rfl | (simp; done) | (simp [*]; done), by repeat (first | exact Drawn0.refl _ | apply Drawn0.step)⟩
  · rw [if_neg c3] at H
    have c3b0 : decide ((wrap64 (a1 - (l0.length : Int))) < 0) = false := decide_eq_false c3
    clear c3
    have H' := Aside0.mk H
    clear H
    go_enter Try.func55, Try.ntmps55
    go_wp2
    go_loopg [1, 5] k (fun kq v1 v5 w' => ∃ (x1_1 : Int) (x5_1 : Int), v1 = .int .i64 x1_1 ∧ v5 = .int .i64 x5_1 ∧ Aside0 (laws_szStringS.l0 kq l0 x1_1 x5_1 = some r) ∧ Aside0 (kq ≤ k) ∧ Drawn0 w w')
    case atStart => exact ⟨(wrap64 (a1 - (l0.length : Int))), (0), (by first | rfl | (simp; done) | (simp [*]; done)), (by first | rfl | (simp; done) | (simp [*]; done)), H', ⟨Nat.le_refl _⟩, by repeat (first | exact Drawn0.refl _ | apply Drawn0.step)⟩
    case round =>
      clear H'
      try clear p2
      try clear c3
      try clear c3b0
      obtain ⟨x1_1, x5_1, rfl, rfl, HA, HK1, ⟨m1, rfl⟩⟩ := hrel
      cases gk with
      | zero => exact absurd HA.out (by simp [laws_szStringS.l0])
      | succ k1 =>
        have H := HA.out
        clear HA
        simp only [laws_szStringS.l0] at H
        by_cases c4 : x5_1 < (l0.length : Int)
        · rw [if_pos c4] at H
          have c4b0 : decide (x5_1 < (l0.length : Int)) = true := decide_eq_true c4
          clear c4
          by_cases c5 : 0 ≤ x5_1
          · rw [if_pos c5] at H
            have c5b0 : decide (0 ≤ x5_1) = true := decide_eq_true c5
            clear c5
            by_cases c6 : (wrap64 (x1_1 - ((rdOf ByteArray.empty l0 x5_1).size : Int))) < 0
            · rw [if_pos c6] at H
              have c6b0 : decide ((wrap64 (x1_1 - ((rdOf ByteArray.empty l0 x5_1).size : Int))) < 0) = true := decide_eq_true c6
              clear c6
              obtain rfl := Option.some.inj H
              have p501 : 0 ≤ (x5_1 : Int) := of_decide_eq_true (by first | (with_reducible assumption) | assumption)
              have q501 : x5_1 < (l0.length : Int) := of_decide_eq_true (by first | (with_reducible assumption) | assumption)
              obtain ⟨ad501, e501, hx501_0⟩ := Kd.at_string HR0.out x5_1 p501 q501
              cases e501
              replace p501 := eq_true p501
              replace q501 := eq_true q501
              go_wp2
              go_ret
              exact ⟨by first | rfl | (simp; done) | (simp [*]; done), by repeat (first | exact Drawn0.refl _ | apply Drawn0.step)⟩
            · rw [if_neg c6] at H
              have c6b0 : decide ((wrap64 (x1_1 - ((rdOf ByteArray.empty l0 x5_1).size : Int))) < 0) = false := decide_eq_false c6
              clear c6
              have H' := Aside0.mk H
              clear H
              have p501 : 0 ≤ (x5_1 : Int) := of_decide_eq_true (by first | (with_reducible assumption) | assumption)
              have q501 : x5_1 < (l0.length : Int) := of_decide_eq_true (by first | (with_reducible assumption) | assumption)
              obtain ⟨ad501, e501, hx501_0⟩ := Kd.at_string HR0.out x5_1 p501 q501
              cases e501
              replace p501 := eq_true p501
              replace q501 := eq_true q501
              go_wp2
              go_roundg k1
              case measure => have := HK1.out; omega
              case rel => exact ⟨(wrap64 (x1_1 - ((rdOf ByteArray.empty l0 x5_1).size : Int))), (wrap64 (x5_1 + 1)), (by first | rfl | (simp; done) | (simp [*]; done)), (by first | rfl | (simp; done) | (simp [*]; done)), H', ⟨by have := HK1.out; omega⟩, by repeat (first | exact Drawn0.refl _ | apply Drawn0.step)⟩
          · rw [if_neg c5] at H
            exact absurd H (by simp)
        · rw [if_neg c4] at H
          have c4b0 : decide (x5_1 < (l0.length : Int)) = false := decide_eq_false c4
          clear c4
          obtain rfl := Option.some.inj H
          go_wp2
          go_ret
          exact ⟨by first | rfl | (simp; done) | (simp [*]; done), by repeat (first | exact Drawn0.refl _ | apply Drawn0.step)⟩

/-! ### spec_ValuesOf: function 56 -/
def spec_ValuesOf.l0 : Nat → List ByteArray → List (S81) → List ByteArray → Int → Option (List ByteArray)
  | 0, _, _, _, _ => none
  | k + 1, x0, x1, x5, x6 => if x6 < (x0.length : Int) then (if 0 ≤ x6 then ((spec_Get.f k x1 (rdOf ByteArray.empty x0 x6)).bind fun bt506 => (if bt506.2 = true then (if x5.length < 8796093022208 then (spec_ValuesOf.l0 k x0 x1 (x5 ++ [bt506.1]) (wrap64 (x6 + 1))) else (none)) else (if x5.length < 8796093022208 then (spec_ValuesOf.l0 k x0 x1 (x5 ++ [(⟨#[45]⟩ : ByteArray)]) (wrap64 (x6 + 1))) else (none)))) else (none)) else (some x5)
def spec_ValuesOf.f (k : Nat) (l0 : List ByteArray) (l1 : List (S81)) : Option (List ByteArray) := spec_ValuesOf.l0 k l0 l1 (([] : List ByteArray)) 0
theorem spec_ValuesOf.mono_l : ∀ k, (∀ y0 y1 y2 y3, LeO (spec_ValuesOf.l0 k y0 y1 y2 y3) (spec_ValuesOf.l0 (k + 1) y0 y1 y2 y3))
  | 0 => fun _ _ _ _ r h => by simp [spec_ValuesOf.l0] at h
  | k + 1 => by
    have ih0 := spec_ValuesOf.mono_l k
    · intro y0 y1 y2 y3
      unfold spec_ValuesOf.l0
      repeat' first
      | (with_reducible exact ih0 _ _ _ _)
      | (with_reducible exact spec_Get.mono _ _ _)
      | (with_reducible exact LeO.refl _)
      | (with_reducible exact LeO.none _)
      | (with_reducible refine LeO.ite ?_ ?_)
      | (with_reducible refine LeO.bind ?_ (fun _ => ?_))
      | exact ih0 _ _ _ _
      | exact spec_Get.mono _ _ _
      | exact LeO.none _
      | refine LeO.ite ?_ ?_
      | refine LeO.bind ?_ (fun _ => ?_)
theorem spec_ValuesOf.mono : ∀ a0 a1 k, LeO (spec_ValuesOf.f k a0 a1) (spec_ValuesOf.f (k + 1) a0 a1) := by
  intro a0 a1 k
  have ih0 := spec_ValuesOf.mono_l k
  unfold spec_ValuesOf.f
  repeat' first
      | (with_reducible exact ih0 _ _ _ _)
      | (with_reducible exact spec_Get.mono _ _ _)
      | (with_reducible exact LeO.refl _)
      | (with_reducible exact LeO.none _)
      | (with_reducible refine LeO.ite ?_ ?_)
      | (with_reducible refine LeO.bind ?_ (fun _ => ?_))
      | exact ih0 _ _ _ _
      | exact spec_Get.mono _ _ _
      | exact LeO.none _
      | refine LeO.ite ?_ ?_
      | refine LeO.bind ?_ (fun _ => ?_)
set_option maxHeartbeats 8000000 in
set_option maxRecDepth 100000 in
theorem spec_ValuesOf.calls (k : Nat) (A0 : Option Addr) (c0 : Nat) (l0 : List ByteArray) (A1 : Option Addr) (c1 : Nat) (l1 : List (S81)) (r : List ByteArray) (w : World) (hr0 : Kd.C Kd.string w A0 l0.length l0) (hc0 : l0.length ≤ c0) (hr1 : Kd.C k81 w A1 l1.length l1) (hc1 : l1.length ≤ c1) (h : spec_ValuesOf.f k l0 l1 = some r) :
    Calls Try.prog 56 #[.slice A0 l0.length c0, .slice A1 l1.length c1] w fun e w' => ∃ v0_ : Value, e = .returned (v0_) ∧ Kd.R Kd.string 9 w' w.heap.size (fun _ => True) v0_ r ∧ Below w.heap.size w w' := by
  have HR0 := Aside0.mk hr0
  have HC0 := Aside0.mk hc0
  clear hr0 hc0
  have HR1 := Aside0.mk hr1
  have HC1 := Aside0.mk hc1
  clear hr1 hc1
  have HB := Aside0.mk (Below.refl w.heap.size w)
  have H : (spec_ValuesOf.l0 k l0 l1 (([] : List ByteArray)) 0) = some r := h
  clear h
  obtain ⟨y502, hy502⟩ : ∃ y_ : List ByteArray, y_ = (([] : List ByteArray)) := ⟨_, rfl⟩
  replace H : (spec_ValuesOf.l0 k l0 l1 y502 0) = some r := by first | (rw [hy502]; with_reducible exact H) | (have H2_ := (Option.bind_some _ _).symm.trans H; rw [hy502]; with_reducible exact H2_) | (have H2_ := (Option.bind_some _ _).symm.trans H; with_reducible exact H2_) | with_reducible exact H | (rw [hy502]; exact H) | exact H
  have Ny502 := Aside0.mk hy502
  clear hy502
  have H' := Aside0.mk H
  clear H
  go_enter Try.func56, Try.ntmps56
  go_wp2_with (first | ((with_reducible refine gate_dst (N := 9) rfl ?_); refine Kd.R_lit Kd.string _ 9 ?hg (N := 9) ?hd (xs := ([] : List ByteArray)) (inner := []) (ok := fun _ => True) (okp := fun _ => True) ?hr ?hp (fun _ hk => hk) trivial (Below.refl _ _) (Nat.le_refl _) (by simp) ?_; (case hd => rfl); (case hg => rfl); (case hr => first | (go_simp; done) | (go_simp; rfl)); (case hp => exact (Reps.none _ _)); intro v503 w3 ho4 hb hg_ hnew_; clear hg_ hnew_; (first | rw [← Ny502.out] at ho4 | (simp only [Int.reduceToNat] at ho4; rw [← Ny502.out] at ho4)); have HO504 := Aside0.mk (Kd.R_lower ho4 (below_size bl)); replace HB := Aside0.mk (below_step bl hb); clear hb ho4))
  go_loopg [5, 6] k (fun kq v5 v6 w' => ∃ (x5_1 : List ByteArray) (x6_1 : Int), v6 = .int .i64 x6_1 ∧ Aside0 (spec_ValuesOf.l0 kq l0 l1 x5_1 x6_1 = some r) ∧ Aside0 (kq ≤ k) ∧ Aside0 (Kd.R Kd.string 9 w' w.heap.size (fun _ => True) v5 x5_1) ∧ Aside0 (Below w.heap.size w w'))
  case atStart => exact ⟨(y502), (0), (by first | rfl | (simp; done) | (simp [*]; done)), H', ⟨Nat.le_refl _⟩, ⟨by (with_reducible repeat (first | apply Kd.R_alloc | apply Kd.R_drewN | apply Kd.R_drew)); exact HO504.out⟩, ⟨by repeat (first | (with_reducible first | exact HB.out | apply below_alloc | apply pw_below_drewN | apply below_drew1) | exact HB.out)⟩⟩
  case round =>
    clear H'
    try clear c1
    try clear p2
    obtain ⟨x5_1, x6_1, rfl, HA, HK1, HO_5, HB⟩ := hrel
    cases gk with
    | zero => exact absurd HA.out (by simp [spec_ValuesOf.l0])
    | succ k1 =>
      have H := HA.out
      clear HA
      simp only [spec_ValuesOf.l0] at H
      by_cases c5 : x6_1 < (l0.length : Int)
      · rw [if_pos c5] at H
        have c5b0 : decide (x6_1 < (l0.length : Int)) = true := decide_eq_true c5
        clear c5
        by_cases c6 : 0 ≤ x6_1
        · rw [if_pos c6] at H
          have c6b0 : decide (0 ≤ x6_1) = true := decide_eq_true c6
          clear c6
          replace H := Option.bind_eq_some_iff.mp H
          obtain ⟨⟨t506, t507⟩, A70, H⟩ := H
          replace H : (if t507 = true then (if x5_1.length < 8796093022208 then (spec_ValuesOf.l0 k1 l0 l1 (x5_1 ++ [t506]) (wrap64 (x6_1 + 1))) else (none)) else (if x5_1.length < 8796093022208 then (spec_ValuesOf.l0 k1 l0 l1 (x5_1 ++ [(⟨#[45]⟩ : ByteArray)]) (wrap64 (x6_1 + 1))) else (none))) = some r := H
          have A7 := Aside0.mk A70
          clear A70
          by_cases c8 : t507 = true
          · subst c8
            have H1 : (if x5_1.length < 8796093022208 then (spec_ValuesOf.l0 k1 l0 l1 (x5_1 ++ [t506]) (wrap64 (x6_1 + 1))) else (none)) = some r := by rw [if_pos rfl] at H; exact H
            clear H
            have H := H1
            clear H1
            by_cases c9 : x5_1.length < 8796093022208
            · rw [if_pos c9] at H
              have LMc9 := Aside0.mk c9
              clear c9
              obtain ⟨y508, hy508⟩ : ∃ y_ : List ByteArray, y_ = (x5_1 ++ [t506]) := ⟨_, rfl⟩
              replace H : (spec_ValuesOf.l0 k1 l0 l1 y508 (wrap64 (x6_1 + 1))) = some r := by first | (rw [hy508]; with_reducible exact H) | (have H2_ := (Option.bind_some _ _).symm.trans H; rw [hy508]; with_reducible exact H2_) | (have H2_ := (Option.bind_some _ _).symm.trans H; with_reducible exact H2_) | with_reducible exact H | (rw [hy508]; exact H) | exact H
              have Ny508 := Aside0.mk hy508
              clear hy508
              have H' := Aside0.mk H
              clear H
              have p505 : 0 ≤ (x6_1 : Int) := of_decide_eq_true (by first | (with_reducible assumption) | assumption)
              have q505 : x6_1 < (l0.length : Int) := of_decide_eq_true (by first | (with_reducible assumption) | assumption)
              obtain ⟨ad505, e505, hx505_0⟩ := Kd.at_string HR0.out x6_1 p505 q505
              cases e505
              replace hx505_0 := (HB.out.cell (World.block_lt_of_cell? w _ hx505_0)).trans hx505_0
              replace p505 := eq_true p505
              replace q505 := eq_true q505
              go_wp2_with (first | ((with_reducible refine gate_callee (f := 23) rfl ?_); refine goesL_ (some 22) rfl rfl Try.func23 (by kernel_rfl) rfl #[.slice A1 l1.length c1, .string (rdOf ByteArray.empty l0 x6_1)] rfl ma ?_; (with_reducible refine (spec_Get.calls k1 _ _ l1 (rdOf ByteArray.empty l0 x6_1) t506 true _ ?side1 ?side2 A7.out).mono ?_); (case side1 => repeat (first | exact (Kd.C_below HR1.out HB.out) | (with_reducible refine Kd.C_alloc ?_ _) | (with_reducible refine Kd.C_drewN ?_ _) | (with_reducible refine Kd.C_drew ?_))); (case side2 => exact HC1.out); rintro e w' ⟨rfl, ⟨nd, rfl⟩⟩; refine ⟨_, rfl, ?_⟩) | ((with_reducible refine gate_builtin (b := .append) (xs := #[.tmp 27, .tmp 29]) rfl ?_); at_builtin; refine Kd.R_append Kd.string (w0 := w) w.heap.size rfl (.tmp 27) (.tmp 29) 38 9 (.string ⟨#[]⟩) 16 rfl Try.underlying38 info9 rfl (by decide) (by omega) u5 x5_1 t506 [.string t506] (fun _ => True) (fun _ => False) rfl rfl ?aP (fun _ hk => hk.elim) ?aF ?aO ?aB ?aS ?aL ?_; (case aP => exact rfl); (case aB => exact bl); (case aF => exact (fun _ _ => trivial)); (case aO => exact (ro HO_5)); (case aS => exact (below_size bl)); (case aL => have := LMc9.out; omega); intro v509 w10 ho hb hg hat; rw [← Ny508.out] at ho; have n0_ := Aside0.mk (hb); have n1_ := Aside0.mk (ho); clear HB; clear HO_5; have HB := n0_; have HO510 := n1_; clear n0_ n1_; clear ho hb hg hat))
              go_roundg k1
              case measure => have := HK1.out; omega
              case rel => exact ⟨(y508), (wrap64 (x6_1 + 1)), (by first | rfl | (simp; done) | (simp [*]; done)), H', ⟨by have := HK1.out; omega⟩, ⟨by (with_reducible repeat (first | apply Kd.R_alloc | apply Kd.R_drewN | apply Kd.R_drew)); exact HO510.out⟩, ⟨by repeat (first | (with_reducible first | exact HB.out | apply below_alloc | apply pw_below_drewN | apply below_drew1) | exact HB.out)⟩⟩
            · rw [if_neg c9] at H
              exact absurd H (by simp)
          · replace c8 := Bool.eq_false_iff.mpr c8
            subst c8
            have H1 : (if x5_1.length < 8796093022208 then (spec_ValuesOf.l0 k1 l0 l1 (x5_1 ++ [(⟨#[45]⟩ : ByteArray)]) (wrap64 (x6_1 + 1))) else (none)) = some r := by rw [if_neg (show ¬ (false = true) by decide)] at H; exact H
            clear H
            have H := H1
            clear H1
            by_cases c11 : x5_1.length < 8796093022208
            · rw [if_pos c11] at H
              have LMc11 := Aside0.mk c11
              clear c11
              obtain ⟨y511, hy511⟩ : ∃ y_ : List ByteArray, y_ = (x5_1 ++ [(⟨#[45]⟩ : ByteArray)]) := ⟨_, rfl⟩
              replace H : (spec_ValuesOf.l0 k1 l0 l1 y511 (wrap64 (x6_1 + 1))) = some r := by first | (rw [hy511]; with_reducible exact H) | (have H2_ := (Option.bind_some _ _).symm.trans H; rw [hy511]; with_reducible exact H2_) | (have H2_ := (Option.bind_some _ _).symm.trans H; with_reducible exact H2_) | with_reducible exact H | (rw [hy511]; exact H) | exact H
              have Ny511 := Aside0.mk hy511
              clear hy511
              have H' := Aside0.mk H
              clear H
              have p505 : 0 ≤ (x6_1 : Int) := of_decide_eq_true (by first | (with_reducible assumption) | assumption)
              have q505 : x6_1 < (l0.length : Int) := of_decide_eq_true (by first | (with_reducible assumption) | assumption)
              obtain ⟨ad505, e505, hx505_0⟩ := Kd.at_string HR0.out x6_1 p505 q505
              cases e505
              replace hx505_0 := (HB.out.cell (World.block_lt_of_cell? w _ hx505_0)).trans hx505_0
              replace p505 := eq_true p505
              replace q505 := eq_true q505
              go_wp2_with (first | ((with_reducible refine gate_callee (f := 23) rfl ?_); refine goesL_ (some 22) rfl rfl Try.func23 (by kernel_rfl) rfl #[.slice A1 l1.length c1, .string (rdOf ByteArray.empty l0 x6_1)] rfl ma ?_; (with_reducible refine (spec_Get.calls k1 _ _ l1 (rdOf ByteArray.empty l0 x6_1) t506 false _ ?side1 ?side2 A7.out).mono ?_); (case side1 => repeat (first | exact (Kd.C_below HR1.out HB.out) | (with_reducible refine Kd.C_alloc ?_ _) | (with_reducible refine Kd.C_drewN ?_ _) | (with_reducible refine Kd.C_drew ?_))); (case side2 => exact HC1.out); rintro e w' ⟨rfl, ⟨nd, rfl⟩⟩; refine ⟨_, rfl, ?_⟩) | ((with_reducible refine gate_builtin (b := .append) (xs := #[.tmp 27, .tmp 29]) rfl ?_); at_builtin; refine Kd.R_append Kd.string (w0 := w) w.heap.size rfl (.tmp 27) (.tmp 29) 38 9 (.string ⟨#[]⟩) 16 rfl Try.underlying38 info9 rfl (by decide) (by omega) u5 x5_1 (⟨#[45]⟩ : ByteArray) [.string (⟨#[45]⟩ : ByteArray)] (fun _ => True) (fun _ => False) rfl rfl ?aP (fun _ hk => hk.elim) ?aF ?aO ?aB ?aS ?aL ?_; (case aP => exact rfl); (case aB => exact bl); (case aF => exact (fun _ _ => trivial)); (case aO => exact (ro HO_5)); (case aS => exact (below_size bl)); (case aL => have := LMc11.out; omega); intro v512 w12 ho hb hg hat; rw [← Ny511.out] at ho; have n0_ := Aside0.mk (hb); have n1_ := Aside0.mk (ho); clear HB; clear HO_5; have HB := n0_; have HO513 := n1_; clear n0_ n1_; clear ho hb hg hat))
              go_roundg k1
              case measure => have := HK1.out; omega
              case rel => exact ⟨(y511), (wrap64 (x6_1 + 1)), (by first | rfl | (simp; done) | (simp [*]; done)), H', ⟨by have := HK1.out; omega⟩, ⟨by (with_reducible repeat (first | apply Kd.R_alloc | apply Kd.R_drewN | apply Kd.R_drew)); exact HO513.out⟩, ⟨by repeat (first | (with_reducible first | exact HB.out | apply below_alloc | apply pw_below_drewN | apply below_drew1) | exact HB.out)⟩⟩
            · rw [if_neg c11] at H
              exact absurd H (by simp)
        · rw [if_neg c6] at H
          exact absurd H (by simp)
      · rw [if_neg c5] at H
        have c5b0 : decide (x6_1 < (l0.length : Int)) = false := decide_eq_false c5
        clear c5
        obtain rfl := Option.some.inj H
        go_wp2
        go_ret
        exact ⟨_, rf, by (with_reducible repeat (first | apply Kd.R_alloc | apply Kd.R_drewN | apply Kd.R_drew)); exact HO_5.out, bl⟩

end Go.Proofs.Ytdlgjhckmkmjhaa.All
