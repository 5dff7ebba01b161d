-- Written by a program of this session (wip/tools/hprint.py) out of the translation. Lean checks it.
import Derived.Test.YtogdmlgbdbgpkaaDoorAllx0
import Derived.Test.YtogdmlgbdbgpkaaDoorAllx6
import Derived.Test.YtogdmlgbdbgpkaaDoorAllx9
import Derived.Test.YtogdmlgbdbgpkaaDoorAllx29
import Derived.Test.YtogdmlgbdbgpkaaDoorAllx30
import Derived.Test.YtogdmlgbdbgpkaaDoorAllx31
namespace Go.Proofs.YtogdmlgbdbgpkaaDoor.All
open Go.RowKit Go.Proofs.YtogdmlgbdbgpkaaDoorW.PrintWords Go.Proofs.YtogdmlgbdbgpkaaDoorW.PrintLast Go.Proofs.YtogdmlgbdbgpkaaDoorW.PrintMore
attribute [local go_sem] max2_int min2_int max_two min_two max_three min_three max_four min_four   -- for this text's walks alone
set_option linter.unusedVariables false
set_option linter.unusedSimpArgs false

/-! ### spec_l2Draw: function 111 -/
def spec_l2Draw.l0 : Nat → List (S78) → List Int → Int → Int → Option ((List (S78)) × Int × Int)
  | 0, _, _, _, _ => none
  | k + 1, x3, x1000, x1001, x1002 => (spec_l1Below.f x1000 x1001 x1002 2).bind fun bt736 => (if (x3.length : Int) < (wrap64 (8 + bt736.1)) then ((spec_NumText.f k (x3.length : Int)).bind fun t739 => (if 1 + t739.size ≤ 9223372036854775807 then (if x3.length < 4398046511104 then (spec_l2Draw.l0 k (x3 ++ [(⟨(⟨#[110]⟩ : ByteArray) ++ t739, (⟨#[118]⟩ : ByteArray)⟩ : S78)]) x1000 bt736.2.1 bt736.2.2) else (none)) else (none))) else (some (x3, bt736.2.1, bt736.2.2)))
def spec_l2Draw.f (k : Nat) (s0_0 : List Int) (s0_1 : Int) (s0_2 : Int) : Option ((List (S78)) × Int × Int) := (spec_l2DrawRight.f k s0_0 s0_1 s0_2).bind fun bt699 => ((spec_l1Below.f s0_0 bt699.2.1 bt699.2.2 15).bind fun bt704 => (if bt704.1 = 0 then ((spec_l2DrawField.f s0_0 bt704.2.1 bt704.2.2).bind fun bt707 => ((spec_l2DrawField.f s0_0 bt707.2.2.1 bt707.2.2.2).bind fun bt711 => ((some (([(⟨bt707.1, bt707.2.1⟩ : S78), (⟨bt711.1, bt711.2.1⟩ : S78)] : List (S78)) : List (S78))).bind fun y715 => (if bt699.1.length + y715.length < 4398046511104 then (some ((bt699.1 ++ y715), bt711.2.2.1, bt711.2.2.2)) else (none))))) else (if bt704.1 = 1 then ((spec_l1Pick.f s0_0 bt704.2.1 bt704.2.2 (([(⟨#[]⟩ : ByteArray), (⟨#[65]⟩ : ByteArray), (⟨#[99, 111, 110, 116, 101, 110, 116, 45, 108, 101, 110, 103, 116, 104]⟩ : ByteArray)] : List ByteArray))).bind fun bt724 => ((spec_l1Pick.f s0_0 bt724.2.1 bt724.2.2 (([(⟨#[]⟩ : ByteArray), (⟨#[32, 97]⟩ : ByteArray), (⟨#[49]⟩ : ByteArray)] : List ByteArray))).bind fun bt730 => (if bt699.1.length < 4398046511104 then (some ((bt699.1 ++ [(⟨bt724.1, bt730.1⟩ : S78)]), bt730.2.1, bt730.2.2)) else (none)))) else (if bt704.1 = 2 then (spec_l2Draw.l0 k bt699.1 s0_0 bt704.2.1 bt704.2.2) else (some (bt699.1, bt704.2.1, bt704.2.2))))))
theorem spec_l2Draw.mono_l : ∀ k, (∀ y0 y1 y2 y3, LeO (spec_l2Draw.l0 k y0 y1 y2 y3) (spec_l2Draw.l0 (k + 1) y0 y1 y2 y3))
  | 0 => fun _ _ _ _ r h => by simp [spec_l2Draw.l0] at h
  | k + 1 => by
    have ih0 := spec_l2Draw.mono_l k
    · intro y0 y1 y2 y3
      unfold spec_l2Draw.l0
      repeat' first
      | (with_reducible exact ih0 _ _ _ _)
      | (with_reducible exact spec_NumText.mono _ _)
      | (with_reducible exact spec_l2DrawRight.mono _ _ _ _)
      | (with_reducible exact LeO.refl _)
      | (with_reducible exact LeO.none _)
      | (with_reducible refine LeO.ite ?_ ?_)
      | (with_reducible refine LeO.bind ?_ (fun _ => ?_))
      | exact ih0 _ _ _ _
      | exact spec_NumText.mono _ _
      | exact spec_l2DrawRight.mono _ _ _ _
      | exact LeO.none _
      | refine LeO.ite ?_ ?_
      | refine LeO.bind ?_ (fun _ => ?_)
theorem spec_l2Draw.mono : ∀ a0 a1 a2 k, LeO (spec_l2Draw.f k a0 a1 a2) (spec_l2Draw.f (k + 1) a0 a1 a2) := by
  intro a0 a1 a2 k
  have ih0 := spec_l2Draw.mono_l k
  unfold spec_l2Draw.f
  repeat' first
      | (with_reducible exact ih0 _ _ _ _)
      | (with_reducible exact spec_NumText.mono _ _)
      | (with_reducible exact spec_l2DrawRight.mono _ _ _ _)
      | (with_reducible exact LeO.refl _)
      | (with_reducible exact LeO.none _)
      | (with_reducible refine LeO.ite ?_ ?_)
      | (with_reducible refine LeO.bind ?_ (fun _ => ?_))
      | exact ih0 _ _ _ _
      | exact spec_NumText.mono _ _
      | exact spec_l2DrawRight.mono _ _ _ _
      | exact LeO.none _
      | refine LeO.ite ?_ ?_
      | refine LeO.bind ?_ (fun _ => ?_)
set_option maxHeartbeats 8000000 in
set_option maxRecDepth 100000 in
theorem spec_l2Draw.calls (k : Nat) (g : Nat) (s0_0 : List Int) (s0_1 : Int) (s0_2 : Int) (r1 : List (S78)) (r2 : Int) (r3 : Int) (w0 w : World) (hI : IsS132 w0 w g s0_0 s0_1 s0_2) (hB : Below w0.heap.size w0 w) (h : spec_l2Draw.f k s0_0 s0_1 s0_2 = some (r1, r2, r3)) :
    Calls Tryd.prog 111 #[.pointer (some ⟨g, 0, none⟩)] w fun e w' => ∃ v0_ : Value, e = .returned (v0_) ∧ Kd.R k78 78 w' w.heap.size (fun _ => True) v0_ r1 ∧ IsS132 w0 w' g s0_0 r2 r3 ∧ Below w0.heap.size w0 w' ∧ KeepBut w w' g none := by
  have hu78 := Tryd.underlying78
  have HI0 := Aside0.mk hI
  have HK := Aside0.mk (KeepBut.refl w g none)
  have HL := Aside0.mk hB.size
  clear hI
  have HW0 := Aside0.mk hB.size
  have HB := Aside0.mk hB
  clear hB
  have H : ((spec_l2DrawRight.f k s0_0 s0_1 s0_2).bind fun bt699 => ((spec_l1Below.f s0_0 bt699.2.1 bt699.2.2 15).bind fun bt704 => (if bt704.1 = 0 then ((spec_l2DrawField.f s0_0 bt704.2.1 bt704.2.2).bind fun bt707 => ((spec_l2DrawField.f s0_0 bt707.2.2.1 bt707.2.2.2).bind fun bt711 => ((some (([(⟨bt707.1, bt707.2.1⟩ : S78), (⟨bt711.1, bt711.2.1⟩ : S78)] : List (S78)) : List (S78))).bind fun y715 => (if bt699.1.length + y715.length < 4398046511104 then (some ((bt699.1 ++ y715), bt711.2.2.1, bt711.2.2.2)) else (none))))) else (if bt704.1 = 1 then ((spec_l1Pick.f s0_0 bt704.2.1 bt704.2.2 (([(⟨#[]⟩ : ByteArray), (⟨#[65]⟩ : ByteArray), (⟨#[99, 111, 110, 116, 101, 110, 116, 45, 108, 101, 110, 103, 116, 104]⟩ : ByteArray)] : List ByteArray))).bind fun bt724 => ((spec_l1Pick.f s0_0 bt724.2.1 bt724.2.2 (([(⟨#[]⟩ : ByteArray), (⟨#[32, 97]⟩ : ByteArray), (⟨#[49]⟩ : ByteArray)] : List ByteArray))).bind fun bt730 => (if bt699.1.length < 4398046511104 then (some ((bt699.1 ++ [(⟨bt724.1, bt730.1⟩ : S78)]), bt730.2.1, bt730.2.2)) else (none)))) else (if bt704.1 = 2 then (spec_l2Draw.l0 k bt699.1 s0_0 bt704.2.1 bt704.2.2) else (some (bt699.1, bt704.2.1, bt704.2.2))))))) = some (r1, r2, r3) := h
  clear h
  replace H := Option.bind_eq_some_iff.mp H
  obtain ⟨⟨t699, t702, t703⟩, A20, H⟩ := H
  replace H : ((spec_l1Below.f s0_0 t702 t703 15).bind fun bt704 => (if bt704.1 = 0 then ((spec_l2DrawField.f s0_0 bt704.2.1 bt704.2.2).bind fun bt707 => ((spec_l2DrawField.f s0_0 bt707.2.2.1 bt707.2.2.2).bind fun bt711 => ((some (([(⟨bt707.1, bt707.2.1⟩ : S78), (⟨bt711.1, bt711.2.1⟩ : S78)] : List (S78)) : List (S78))).bind fun y715 => (if t699.length + y715.length < 4398046511104 then (some ((t699 ++ y715), bt711.2.2.1, bt711.2.2.2)) else (none))))) else (if bt704.1 = 1 then ((spec_l1Pick.f s0_0 bt704.2.1 bt704.2.2 (([(⟨#[]⟩ : ByteArray), (⟨#[65]⟩ : ByteArray), (⟨#[99, 111, 110, 116, 101, 110, 116, 45, 108, 101, 110, 103, 116, 104]⟩ : ByteArray)] : List ByteArray))).bind fun bt724 => ((spec_l1Pick.f s0_0 bt724.2.1 bt724.2.2 (([(⟨#[]⟩ : ByteArray), (⟨#[32, 97]⟩ : ByteArray), (⟨#[49]⟩ : ByteArray)] : List ByteArray))).bind fun bt730 => (if t699.length < 4398046511104 then (some ((t699 ++ [(⟨bt724.1, bt730.1⟩ : S78)]), bt730.2.1, bt730.2.2)) else (none)))) else (if bt704.1 = 2 then (spec_l2Draw.l0 k t699 s0_0 bt704.2.1 bt704.2.2) else (some (t699, bt704.2.1, bt704.2.2)))))) = some (r1, r2, r3) := H
  have A2 := Aside0.mk A20
  clear A20
  replace H := Option.bind_eq_some_iff.mp H
  obtain ⟨⟨t704, t705, t706⟩, A30, H⟩ := H
  replace H : (if t704 = 0 then ((spec_l2DrawField.f s0_0 t705 t706).bind fun bt707 => ((spec_l2DrawField.f s0_0 bt707.2.2.1 bt707.2.2.2).bind fun bt711 => ((some (([(⟨bt707.1, bt707.2.1⟩ : S78), (⟨bt711.1, bt711.2.1⟩ : S78)] : List (S78)) : List (S78))).bind fun y715 => (if t699.length + y715.length < 4398046511104 then (some ((t699 ++ y715), bt711.2.2.1, bt711.2.2.2)) else (none))))) else (if t704 = 1 then ((spec_l1Pick.f s0_0 t705 t706 (([(⟨#[]⟩ : ByteArray), (⟨#[65]⟩ : ByteArray), (⟨#[99, 111, 110, 116, 101, 110, 116, 45, 108, 101, 110, 103, 116, 104]⟩ : ByteArray)] : List ByteArray))).bind fun bt724 => ((spec_l1Pick.f s0_0 bt724.2.1 bt724.2.2 (([(⟨#[]⟩ : ByteArray), (⟨#[32, 97]⟩ : ByteArray), (⟨#[49]⟩ : ByteArray)] : List ByteArray))).bind fun bt730 => (if t699.length < 4398046511104 then (some ((t699 ++ [(⟨bt724.1, bt730.1⟩ : S78)]), bt730.2.1, bt730.2.2)) else (none)))) else (if t704 = 2 then (spec_l2Draw.l0 k t699 s0_0 t705 t706) else (some (t699, t705, t706))))) = some (r1, r2, r3) := H
  have A3 := Aside0.mk A30
  clear A30
  by_cases c4 : t704 = 0
  · rw [if_pos c4] at H
    have c4b0 : (t704 == 0) = true := beq_iff_eq.mpr c4
    have c4b1 : (t704 != 0) = false := bne_eq_false_iff_eq.mpr c4
    clear c4
    replace H := Option.bind_eq_some_iff.mp H
    obtain ⟨⟨t707, t708, t709, t710⟩, A50, H⟩ := H
    replace H : ((spec_l2DrawField.f s0_0 t709 t710).bind fun bt711 => ((some (([(⟨t707, t708⟩ : S78), (⟨bt711.1, bt711.2.1⟩ : S78)] : List (S78)) : List (S78))).bind fun y715 => (if t699.length + y715.length < 4398046511104 then (some ((t699 ++ y715), bt711.2.2.1, bt711.2.2.2)) else (none)))) = some (r1, r2, r3) := H
    have A5 := Aside0.mk A50
    clear A50
    replace H := Option.bind_eq_some_iff.mp H
    obtain ⟨⟨t711, t712, t713, t714⟩, A60, H⟩ := H
    replace H : ((some (([(⟨t707, t708⟩ : S78), (⟨t711, t712⟩ : S78)] : List (S78)) : List (S78))).bind fun y715 => (if t699.length + y715.length < 4398046511104 then (some ((t699 ++ y715), t713, t714)) else (none))) = some (r1, r2, r3) := H
    have A6 := Aside0.mk A60
    clear A60
    obtain ⟨y715, hy715⟩ : ∃ y_ : List (S78), y_ = (([(⟨t707, t708⟩ : S78), (⟨t711, t712⟩ : S78)] : List (S78))) := ⟨_, rfl⟩
    replace H : (if t699.length + y715.length < 4398046511104 then (some ((t699 ++ y715), t713, t714)) else (none)) = some (r1, r2, r3) := by first | (rw [hy715]; with_reducible exact H) | (have H2_ := (Option.bind_some _ _).symm.trans H; rw [hy715]; with_reducible exact H2_) | (have H2_ := (Option.bind_some _ _).symm.trans H; with_reducible exact H2_) | with_reducible exact H | (rw [hy715]; exact H) | exact H
    have Ny715 := Aside0.mk hy715
    clear hy715
    by_cases c7 : t699.length + y715.length < 4398046511104
    · rw [if_pos c7] at H
      have LMc7 := Aside0.mk c7
      clear c7
      obtain ⟨y718, hy718⟩ : ∃ y_ : List (S78), y_ = (t699 ++ y715) := ⟨_, rfl⟩
      replace H : (some (y718, t713, t714)) = some (r1, r2, r3) := by first | (rw [hy718]; with_reducible exact H) | (have H2_ := (Option.bind_some _ _).symm.trans H; rw [hy718]; with_reducible exact H2_) | (have H2_ := (Option.bind_some _ _).symm.trans H; with_reducible exact H2_) | with_reducible exact H | (rw [hy718]; exact H) | exact H
      have Ny718 := Aside0.mk hy718
      clear hy718
      simp only [Option.some.injEq, Prod.mk.injEq] at H
      obtain ⟨rfl, rfl, rfl⟩ := H
      go_enter Tryd.func111, Tryd.ntmps111
      go_wp2_with (first | ((with_reducible refine gate_callee (f := 135) rfl ?_); refine goesL_ (some 5) rfl rfl Tryd.func135 (by kernel_rfl) rfl #[.pointer (some ⟨g, 0, none⟩)] rfl ma ?_; (with_reducible refine (spec_l2DrawRight.calls k g s0_0 s0_1 s0_2 t699 t702 t703 w0 _ ?side1 ?side2 A2.out).mono ?_); (case side1 => repeat (first | (with_reducible first | exact HI0.out | apply IsS132.alloc | apply IsS132.drewN | apply IsS132.drew | apply IsS132.set_1 | apply IsS132.set_2) | exact HI0.out)); (case side2 => repeat (first | (with_reducible first | exact HB.out | apply below_alloc | apply pw_below_drewN | apply below_drew1 | refine below_set ?_ (IsS132.ge HI0.out)) | exact HB.out)); rintro e w8 ⟨v700, rfl, ho0, hi, hb, hk⟩; refine ⟨_, rfl, ?_⟩; have HO701 := Aside0.mk (Kd.R_lower ho0 (keep_size (w := w) (g := g) (row := none) (by repeat (first | (with_reducible first | exact HK.out | apply KeepBut.set_ | apply keep_drewN | apply keep_drew | apply keep_alloc) | exact HK.out)))); replace HK := Aside0.mk (KeepBut.trans (by repeat (first | (with_reducible first | exact HK.out | apply KeepBut.set_ | apply keep_drewN | apply keep_drew | apply keep_alloc) | exact HK.out)) hk (.inl rfl)); replace HB := Aside0.mk (hb); replace HI0 := Aside0.mk (hi); (try clear hb); (try clear hb2); (try clear hk); (try clear hi); (try clear ho0)) | ((with_reducible refine gate_callee (f := 95) rfl ?_); refine goesL_ (some 7) rfl rfl Tryd.func95 (by kernel_rfl) rfl #[.pointer (some ⟨g, 0, none⟩), .int .i64 15] rfl ma ?_; (with_reducible refine (spec_l1Below.calls g s0_0 t702 t703 15 t704 t705 t706 w0 _ ?side1 ?side2 A3.out).mono ?_); (case side1 => repeat (first | (with_reducible first | exact HI0.out | apply IsS132.alloc | apply IsS132.drewN | apply IsS132.drew | apply IsS132.set_1 | apply IsS132.set_2) | exact HI0.out)); (case side2 => repeat (first | (with_reducible first | exact HB.out | apply below_alloc | apply pw_below_drewN | apply below_drew1 | refine below_set ?_ (IsS132.ge HI0.out)) | exact HB.out)); rintro e w9 ⟨rfl, hi, hb, hk⟩; refine ⟨_, rfl, ?_⟩; replace HO701 := Aside0.mk (Kd.R_mono (Kd.R_keep (IsS132.apart (show IsS132 w0 _ g s0_0 t702 t703 from by repeat (first | (with_reducible first | exact HI0.out | apply IsS132.alloc | apply IsS132.drewN | apply IsS132.drew | apply IsS132.set_1 | apply IsS132.set_2) | exact HI0.out)) (ro HO701) (by decide)) hk (fun _ h => h.2)) (fun _ h => h.1)); replace HK := Aside0.mk (KeepBut.trans (by repeat (first | (with_reducible first | exact HK.out | apply KeepBut.set_ | apply keep_drewN | apply keep_drew | apply keep_alloc) | exact HK.out)) hk (.inl rfl)); replace HB := Aside0.mk (hb); replace HI0 := Aside0.mk (hi); (try clear hb); (try clear hb2); (try clear hk); (try clear hi)) | ((with_reducible refine gate_callee (f := 136) rfl ?_); refine goesL_ (some 12) rfl rfl Tryd.func136 (by kernel_rfl) rfl #[.pointer (some ⟨g, 0, none⟩)] rfl ma ?_; (with_reducible refine (spec_l2DrawField.calls g s0_0 t705 t706 t707 t708 t709 t710 w0 _ ?side1 ?side2 A5.out).mono ?_); (case side1 => repeat (first | (with_reducible first | exact HI0.out | apply IsS132.alloc | apply IsS132.drewN | apply IsS132.drew | apply IsS132.set_1 | apply IsS132.set_2) | exact HI0.out)); (case side2 => repeat (first | (with_reducible first | exact HB.out | apply below_alloc | apply pw_below_drewN | apply below_drew1 | refine below_set ?_ (IsS132.ge HI0.out)) | exact HB.out)); rintro e w10 ⟨rfl, hi, hb, hk⟩; refine ⟨_, rfl, ?_⟩; replace HO701 := Aside0.mk (Kd.R_mono (Kd.R_keep (IsS132.apart (show IsS132 w0 _ g s0_0 t705 t706 from by repeat (first | (with_reducible first | exact HI0.out | apply IsS132.alloc | apply IsS132.drewN | apply IsS132.drew | apply IsS132.set_1 | apply IsS132.set_2) | exact HI0.out)) (ro HO701) (by decide)) hk (fun _ h => h.2)) (fun _ h => h.1)); replace HK := Aside0.mk (KeepBut.trans (by repeat (first | (with_reducible first | exact HK.out | apply KeepBut.set_ | apply keep_drewN | apply keep_drew | apply keep_alloc) | exact HK.out)) hk (.inl rfl)); replace HB := Aside0.mk (hb); replace HI0 := Aside0.mk (hi); (try clear hb); (try clear hb2); (try clear hk); (try clear hi)) | ((with_reducible refine gate_callee (f := 136) rfl ?_); refine goesL_ (some 14) rfl rfl Tryd.func136 (by kernel_rfl) rfl #[.pointer (some ⟨g, 0, none⟩)] rfl ma ?_; (with_reducible refine (spec_l2DrawField.calls g s0_0 t709 t710 t711 t712 t713 t714 w0 _ ?side1 ?side2 A6.out).mono ?_); (case side1 => repeat (first | (with_reducible first | exact HI0.out | apply IsS132.alloc | apply IsS132.drewN | apply IsS132.drew | apply IsS132.set_1 | apply IsS132.set_2) | exact HI0.out)); (case side2 => repeat (first | (with_reducible first | exact HB.out | apply below_alloc | apply pw_below_drewN | apply below_drew1 | refine below_set ?_ (IsS132.ge HI0.out)) | exact HB.out)); rintro e w11 ⟨rfl, hi, hb, hk⟩; refine ⟨_, rfl, ?_⟩; replace HO701 := Aside0.mk (Kd.R_mono (Kd.R_keep (IsS132.apart (show IsS132 w0 _ g s0_0 t709 t710 from by repeat (first | (with_reducible first | exact HI0.out | apply IsS132.alloc | apply IsS132.drewN | apply IsS132.drew | apply IsS132.set_1 | apply IsS132.set_2) | exact HI0.out)) (ro HO701) (by decide)) hk (fun _ h => h.2)) (fun _ h => h.1)); replace HK := Aside0.mk (KeepBut.trans (by repeat (first | (with_reducible first | exact HK.out | apply KeepBut.set_ | apply keep_drewN | apply keep_drew | apply keep_alloc) | exact HK.out)) hk (.inl rfl)); replace HB := Aside0.mk (hb); replace HI0 := Aside0.mk (hi); (try clear hb); (try clear hb2); (try clear hk); (try clear hi)) | ((with_reducible refine gate_dst (N := 15) rfl ?_); refine Kd.R_lit k78 _ 78 ?hg (N := 15) ?hd (xs := ([(⟨t707, t708⟩ : S78), (⟨t711, t712⟩ : S78)] : List (S78))) (inner := [.string t707, .string t708, .string t711, .string t712]) (ok := fun _ => True) (okp := fun _ => True) ?hr ?hp (fun _ hk => hk) trivial (Below.refl _ _) (Nat.le_refl _) (by simp) ?_; (case hd => rfl); (case hg => rfl); (case hr => first | (go_simp; done) | (go_simp; rfl)); (case hp => exact (Reps.c2 (show Kd.M k78 _ _ _ (⟨t707, t708⟩ : S78) [.string t707, .string t708] from (k78_mkM _ _ _ (⟨t707, t708⟩ : S78) )) (Reps.c2 (show Kd.M k78 _ _ _ (⟨t711, t712⟩ : S78) [.string t711, .string t712] from (k78_mkM _ _ _ (⟨t711, t712⟩ : S78) )) (Reps.none _ _)))); intro v716 w12 ho13 hb hg_ hnew_; clear hg_ hnew_; (first | rw [← Ny715.out] at ho13 | (simp only [Int.reduceToNat] at ho13; rw [← Ny715.out] at ho13)); have HO717 := Aside0.mk (Kd.R_lower (Kd.R_new' ho13 (Kd.R_lt (ro HO701))) (keep_size (w := w) (g := g) (row := none) (by repeat (first | (with_reducible first | exact HK.out | apply KeepBut.set_ | apply keep_drewN | apply keep_drew | apply keep_alloc) | exact HK.out)))); replace HO701 := Aside0.mk (Kd.R_elder' (ro HO701) (Kd.R_base ho13) hb); replace HK := Aside0.mk (KeepBut.trans (by repeat (first | (with_reducible first | exact HK.out | apply KeepBut.set_ | apply keep_drewN | apply keep_drew | apply keep_alloc) | exact HK.out)) (KeepBut.of_below hb g none) (.inl rfl)); replace HB := Aside0.mk (below_step (by repeat (first | (with_reducible first | exact HB.out | apply below_alloc | apply pw_below_drewN | apply below_drew1 | refine below_set ?_ (IsS132.ge HI0.out)) | exact HB.out)) hb); replace HI0 := Aside0.mk (IsS132.below (by repeat (first | (with_reducible first | exact HI0.out | apply IsS132.alloc | apply IsS132.drewN | apply IsS132.drew | apply IsS132.set_1 | apply IsS132.set_2) | exact HI0.out)) hb); clear hb ho13; obtain ⟨Ao15, co15, eo15⟩ := Kd.R_slice HO717.out; subst eo15) | ((with_reducible refine gate_builtin (b := .append) (xs := #[.tmp 10, .tmp 15]) rfl ?_); at_builtin; refine Kd.R_append_rows k78 w.heap.size rfl (.tmp 10) (.tmp 15) 43 78 (.agg #[(.string ⟨#[]⟩), (.string ⟨#[]⟩)]) 32 rfl Tryd.underlying43 info78 rfl (by decide) (by omega) v700 t699 y715 _ _ _ (fun k_ => some k_ ≠ (.slice Ao15 y715.length co15 : Value).ownBlock) (fun _ => False) rfl rfl ?aO ?aR (fun _ _ h => h) (fun _ h => h.elim) ?aF (Below.refl _ _) ?aS ?aL ?_; (case aR => repeat (first | exact (Kd.R_reads' HO717.out).2.2 | (with_reducible refine Kd.C_alloc ?_ _) | (with_reducible refine Kd.C_drewN ?_ _) | (with_reducible refine Kd.C_drew ?_))); (case aF => exact (fun k_ hk => Kd.fresh' (Kd.R_lt (ro HO717)) k_ hk)); (case aO => exact (by (with_reducible repeat (first | apply Kd.R_alloc | apply Kd.R_drewN | apply Kd.R_drew)); exact Kd.R_mono HO701.out (fun _ hk => hk.2))); (case aS => exact (keep_size (w := w) (g := g) (row := none) (by repeat (first | (with_reducible first | exact HK.out | apply KeepBut.set_ | apply keep_drewN | apply keep_drew | apply keep_alloc) | exact HK.out)))); (case aL => have := LMc7.out; omega); intro v719 w14 ho hb hg hat; rw [← Ny718.out] at ho; have n0_ := Aside0.mk (IsS132.grown (by repeat (first | (with_reducible first | exact HI0.out | apply IsS132.alloc | apply IsS132.drewN | apply IsS132.drew | apply IsS132.set_1 | apply IsS132.set_2) | exact HI0.out)) hg (IsS132.own_ne HI0.out HO701.out (by decide))); have n1_ := Aside0.mk (Kd.R_after (ok := (fun _ => True)) (ro HO717) hg hat); have n2_ := Aside0.mk (below_weaken (by repeat (first | (with_reducible first | exact HB.out | apply below_alloc | apply pw_below_drewN | apply below_drew1 | refine below_set ?_ (IsS132.ge HI0.out)) | exact HB.out)) HL.out hb); have n3_ := Aside0.mk (KeepBut.trans (by repeat (first | (with_reducible first | exact HK.out | apply KeepBut.set_ | apply keep_drewN | apply keep_drew | apply keep_alloc) | exact HK.out)) (KeepBut.of_grown hg g) (Kd.R_base2 HO701.out)); have n4_ := Aside0.mk (ho); clear HI0; clear HO717; clear HB; clear HK; clear HO701; have HI0 := n0_; have HO717 := n1_; have HB := n2_; have HK := n3_; have HO720 := n4_; clear n0_ n1_ n2_ n3_ n4_; clear ho hb hg hat))
      go_ret
      exact ⟨_, rf, by (with_reducible repeat (first | apply Kd.R_alloc | apply Kd.R_drewN | apply Kd.R_drew)); exact Kd.R_mono HO720.out (fun _ hk => trivial), by repeat (first | (with_reducible first | exact HI0.out | apply IsS132.alloc | apply IsS132.drewN | apply IsS132.drew | apply IsS132.set_1 | apply IsS132.set_2) | exact HI0.out), by repeat (first | (with_reducible first | exact HB.out | apply below_alloc | apply pw_below_drewN | apply below_drew1 | refine below_set ?_ (IsS132.ge HI0.out)) | exact HB.out), by repeat (first | (with_reducible first | exact HK.out | apply KeepBut.set_ | apply keep_drewN | apply keep_drew | apply keep_alloc) | exact HK.out)⟩
    · rw [if_neg c7] at H
      exact absurd H (by simp)
  · rw [if_neg c4] at H
    have c4b0 : (t704 == 0) = false := beq_eq_false_iff_ne.mpr c4
    have c4b1 : (t704 != 0) = true := bne_iff_ne.mpr c4
    by_cases c16 : t704 = 1
    · rw [if_pos c16] at H
      have c16b0 : (t704 == 1) = true := beq_iff_eq.mpr c16
      have c16b1 : (t704 != 1) = false := bne_eq_false_iff_eq.mpr c16
      clear c16
      obtain ⟨y721, hy721⟩ : ∃ y_ : List ByteArray, y_ = (([(⟨#[]⟩ : ByteArray), (⟨#[65]⟩ : ByteArray), (⟨#[99, 111, 110, 116, 101, 110, 116, 45, 108, 101, 110, 103, 116, 104]⟩ : ByteArray)] : List ByteArray)) := ⟨_, rfl⟩
      replace H : ((spec_l1Pick.f s0_0 t705 t706 y721).bind fun bt724 => ((spec_l1Pick.f s0_0 bt724.2.1 bt724.2.2 (([(⟨#[]⟩ : ByteArray), (⟨#[32, 97]⟩ : ByteArray), (⟨#[49]⟩ : ByteArray)] : List ByteArray))).bind fun bt730 => (if t699.length < 4398046511104 then (some ((t699 ++ [(⟨bt724.1, bt730.1⟩ : S78)]), bt730.2.1, bt730.2.2)) else (none)))) = some (r1, r2, r3) := by first | (rw [hy721]; with_reducible exact H) | (have H2_ := (Option.bind_some _ _).symm.trans H; rw [hy721]; with_reducible exact H2_) | (have H2_ := (Option.bind_some _ _).symm.trans H; with_reducible exact H2_) | with_reducible exact H | (rw [hy721]; exact H) | exact H
      have Ny721 := Aside0.mk hy721
      clear hy721
      replace H := Option.bind_eq_some_iff.mp H
      obtain ⟨⟨t724, t725, t726⟩, A170, H⟩ := H
      replace H : ((spec_l1Pick.f s0_0 t725 t726 (([(⟨#[]⟩ : ByteArray), (⟨#[32, 97]⟩ : ByteArray), (⟨#[49]⟩ : ByteArray)] : List ByteArray))).bind fun bt730 => (if t699.length < 4398046511104 then (some ((t699 ++ [(⟨t724, bt730.1⟩ : S78)]), bt730.2.1, bt730.2.2)) else (none))) = some (r1, r2, r3) := H
      have A17 := Aside0.mk A170
      clear A170
      obtain ⟨y727, hy727⟩ : ∃ y_ : List ByteArray, y_ = (([(⟨#[]⟩ : ByteArray), (⟨#[32, 97]⟩ : ByteArray), (⟨#[49]⟩ : ByteArray)] : List ByteArray)) := ⟨_, rfl⟩
      replace H : ((spec_l1Pick.f s0_0 t725 t726 y727).bind fun bt730 => (if t699.length < 4398046511104 then (some ((t699 ++ [(⟨t724, bt730.1⟩ : S78)]), bt730.2.1, bt730.2.2)) else (none))) = some (r1, r2, r3) := by first | (rw [hy727]; with_reducible exact H) | (have H2_ := (Option.bind_some _ _).symm.trans H; rw [hy727]; with_reducible exact H2_) | (have H2_ := (Option.bind_some _ _).symm.trans H; with_reducible exact H2_) | with_reducible exact H | (rw [hy727]; exact H) | exact H
      have Ny727 := Aside0.mk hy727
      clear hy727
      replace H := Option.bind_eq_some_iff.mp H
      obtain ⟨⟨t730, t731, t732⟩, A180, H⟩ := H
      replace H : (if t699.length < 4398046511104 then (some ((t699 ++ [(⟨t724, t730⟩ : S78)]), t731, t732)) else (none)) = some (r1, r2, r3) := H
      have A18 := Aside0.mk A180
      clear A180
      by_cases c19 : t699.length < 4398046511104
      · rw [if_pos c19] at H
        have LMc19 := Aside0.mk c19
        clear c19
        obtain ⟨y733, hy733⟩ : ∃ y_ : List (S78), y_ = (t699 ++ [(⟨t724, t730⟩ : S78)]) := ⟨_, rfl⟩
        replace H : (some (y733, t731, t732)) = some (r1, r2, r3) := by first | (rw [hy733]; with_reducible exact H) | (have H2_ := (Option.bind_some _ _).symm.trans H; rw [hy733]; with_reducible exact H2_) | (have H2_ := (Option.bind_some _ _).symm.trans H; with_reducible exact H2_) | with_reducible exact H | (rw [hy733]; exact H) | exact H
        have Ny733 := Aside0.mk hy733
        clear hy733
        simp only [Option.some.injEq, Prod.mk.injEq] at H
        obtain ⟨rfl, rfl, rfl⟩ := H
        go_enter Tryd.func111, Tryd.ntmps111
        go_wp2_with (first | ((with_reducible refine gate_callee (f := 135) rfl ?_); refine goesL_ (some 5) rfl rfl Tryd.func135 (by kernel_rfl) rfl #[.pointer (some ⟨g, 0, none⟩)] rfl ma ?_; (with_reducible refine (spec_l2DrawRight.calls k g s0_0 s0_1 s0_2 t699 t702 t703 w0 _ ?side1 ?side2 A2.out).mono ?_); (case side1 => repeat (first | (with_reducible first | exact HI0.out | apply IsS132.alloc | apply IsS132.drewN | apply IsS132.drew | apply IsS132.set_1 | apply IsS132.set_2) | exact HI0.out)); (case side2 => repeat (first | (with_reducible first | exact HB.out | apply below_alloc | apply pw_below_drewN | apply below_drew1 | refine below_set ?_ (IsS132.ge HI0.out)) | exact HB.out)); rintro e w20 ⟨v700, rfl, ho0, hi, hb, hk⟩; refine ⟨_, rfl, ?_⟩; have HO701 := Aside0.mk (Kd.R_lower ho0 (keep_size (w := w) (g := g) (row := none) (by repeat (first | (with_reducible first | exact HK.out | apply KeepBut.set_ | apply keep_drewN | apply keep_drew | apply keep_alloc) | exact HK.out)))); replace HK := Aside0.mk (KeepBut.trans (by repeat (first | (with_reducible first | exact HK.out | apply KeepBut.set_ | apply keep_drewN | apply keep_drew | apply keep_alloc) | exact HK.out)) hk (.inl rfl)); replace HB := Aside0.mk (hb); replace HI0 := Aside0.mk (hi); (try clear hb); (try clear hb2); (try clear hk); (try clear hi); (try clear ho0)) | ((with_reducible refine gate_callee (f := 95) rfl ?_); refine goesL_ (some 7) rfl rfl Tryd.func95 (by kernel_rfl) rfl #[.pointer (some ⟨g, 0, none⟩), .int .i64 15] rfl ma ?_; (with_reducible refine (spec_l1Below.calls g s0_0 t702 t703 15 t704 t705 t706 w0 _ ?side1 ?side2 A3.out).mono ?_); (case side1 => repeat (first | (with_reducible first | exact HI0.out | apply IsS132.alloc | apply IsS132.drewN | apply IsS132.drew | apply IsS132.set_1 | apply IsS132.set_2) | exact HI0.out)); (case side2 => repeat (first | (with_reducible first | exact HB.out | apply below_alloc | apply pw_below_drewN | apply below_drew1 | refine below_set ?_ (IsS132.ge HI0.out)) | exact HB.out)); rintro e w21 ⟨rfl, hi, hb, hk⟩; refine ⟨_, rfl, ?_⟩; replace HO701 := Aside0.mk (Kd.R_mono (Kd.R_keep (IsS132.apart (show IsS132 w0 _ g s0_0 t702 t703 from by repeat (first | (with_reducible first | exact HI0.out | apply IsS132.alloc | apply IsS132.drewN | apply IsS132.drew | apply IsS132.set_1 | apply IsS132.set_2) | exact HI0.out)) (ro HO701) (by decide)) hk (fun _ h => h.2)) (fun _ h => h.1)); replace HK := Aside0.mk (KeepBut.trans (by repeat (first | (with_reducible first | exact HK.out | apply KeepBut.set_ | apply keep_drewN | apply keep_drew | apply keep_alloc) | exact HK.out)) hk (.inl rfl)); replace HB := Aside0.mk (hb); replace HI0 := Aside0.mk (hi); (try clear hb); (try clear hb2); (try clear hk); (try clear hi)) | ((with_reducible refine gate_dst (N := 21) rfl ?_); refine Kd.R_lit Kd.string _ 9 ?hg (N := 21) ?hd (xs := ([(⟨#[]⟩ : ByteArray), (⟨#[65]⟩ : ByteArray), (⟨#[99, 111, 110, 116, 101, 110, 116, 45, 108, 101, 110, 103, 116, 104]⟩ : ByteArray)] : List ByteArray)) (inner := [.string (⟨#[]⟩ : ByteArray), .string (⟨#[65]⟩ : ByteArray), .string (⟨#[99, 111, 110, 116, 101, 110, 116, 45, 108, 101, 110, 103, 116, 104]⟩ : ByteArray)]) (ok := fun _ => True) (okp := fun _ => True) ?hr ?hp (fun _ hk => hk) trivial (Below.refl _ _) (Nat.le_refl _) (by simp) ?_; (case hd => rfl); (case hg => rfl); (case hr => first | (go_simp; done) | (go_simp; rfl)); (case hp => exact (Reps.one (show Kd.M Kd.string _ _ _ (⟨#[]⟩ : ByteArray) [.string (⟨#[]⟩ : ByteArray)] from rfl) (Reps.one (show Kd.M Kd.string _ _ _ (⟨#[65]⟩ : ByteArray) [.string (⟨#[65]⟩ : ByteArray)] from rfl) (Reps.one (show Kd.M Kd.string _ _ _ (⟨#[99, 111, 110, 116, 101, 110, 116, 45, 108, 101, 110, 103, 116, 104]⟩ : ByteArray) [.string (⟨#[99, 111, 110, 116, 101, 110, 116, 45, 108, 101, 110, 103, 116, 104]⟩ : ByteArray)] from rfl) (Reps.none _ _))))); intro v722 w22 ho23 hb hg_ hnew_; clear hg_ hnew_; (first | rw [← Ny721.out] at ho23 | (simp only [Int.reduceToNat] at ho23; rw [← Ny721.out] at ho23)); replace HO701 := kr HO701 hb; have HO723 := Aside0.mk (Kd.R_lower ho23 (keep_size (w := w) (g := g) (row := none) (by repeat (first | (with_reducible first | exact HK.out | apply KeepBut.set_ | apply keep_drewN | apply keep_drew | apply keep_alloc) | exact HK.out)))); replace HK := Aside0.mk (KeepBut.trans (by repeat (first | (with_reducible first | exact HK.out | apply KeepBut.set_ | apply keep_drewN | apply keep_drew | apply keep_alloc) | exact HK.out)) (KeepBut.of_below hb g none) (.inl rfl)); replace HB := Aside0.mk (below_step (by repeat (first | (with_reducible first | exact HB.out | apply below_alloc | apply pw_below_drewN | apply below_drew1 | refine below_set ?_ (IsS132.ge HI0.out)) | exact HB.out)) hb); replace HI0 := Aside0.mk (IsS132.below (by repeat (first | (with_reducible first | exact HI0.out | apply IsS132.alloc | apply IsS132.drewN | apply IsS132.drew | apply IsS132.set_1 | apply IsS132.set_2) | exact HI0.out)) hb); clear hb ho23; obtain ⟨Ao24, co24, eo24⟩ := Kd.R_slice HO723.out; subst eo24) | ((with_reducible refine gate_callee (f := 93) rfl ?_); refine goesL_ (some 22) rfl rfl Tryd.func93 (by kernel_rfl) rfl #[.pointer (some ⟨g, 0, none⟩), .slice Ao24 y721.length co24] rfl ma ?_; (with_reducible refine (spec_l1Pick.calls g s0_0 t705 t706 _ _ y721 t724 t725 t726 w0 _ ?side1 ?side2 ?side3 ?side4 ?side5 A17.out).mono ?_); (case side1 => repeat (first | (with_reducible first | exact HI0.out | apply IsS132.alloc | apply IsS132.drewN | apply IsS132.drew | apply IsS132.set_1 | apply IsS132.set_2) | exact HI0.out)); (case side2 => repeat (first | (with_reducible first | exact HB.out | apply below_alloc | apply pw_below_drewN | apply below_drew1 | refine below_set ?_ (IsS132.ge HI0.out)) | exact HB.out)); (case side3 => repeat (first | exact (Kd.R_reads' HO723.out).2.2 | (with_reducible refine Kd.C_alloc ?_ _) | (with_reducible refine Kd.C_drewN ?_ _) | (with_reducible refine Kd.C_drew ?_))); (case side4 => exact (Kd.R_reads' HO723.out).2.1); (case side5 => exact far_slice (IsS132.own_ne HI0.out HO723.out (by decide))); rintro e w25 ⟨rfl, hi, hb, hk⟩; refine ⟨_, rfl, ?_⟩; replace HO701 := Aside0.mk (Kd.R_mono (Kd.R_keep (IsS132.apart (show IsS132 w0 _ g s0_0 t705 t706 from by repeat (first | (with_reducible first | exact HI0.out | apply IsS132.alloc | apply IsS132.drewN | apply IsS132.drew | apply IsS132.set_1 | apply IsS132.set_2) | exact HI0.out)) (ro HO701) (by decide)) hk (fun _ h => h.2)) (fun _ h => h.1)); replace HO723 := Aside0.mk (Kd.R_mono (Kd.R_keep (IsS132.apart (show IsS132 w0 _ g s0_0 t705 t706 from by repeat (first | (with_reducible first | exact HI0.out | apply IsS132.alloc | apply IsS132.drewN | apply IsS132.drew | apply IsS132.set_1 | apply IsS132.set_2) | exact HI0.out)) (ro HO723) (by decide)) hk (fun _ h => h.2)) (fun _ h => h.1)); replace HK := Aside0.mk (KeepBut.trans (by repeat (first | (with_reducible first | exact HK.out | apply KeepBut.set_ | apply keep_drewN | apply keep_drew | apply keep_alloc) | exact HK.out)) hk (.inl rfl)); replace HB := Aside0.mk (hb); replace HI0 := Aside0.mk (hi); (try clear hb); (try clear hb2); (try clear hk); (try clear hi)) | ((with_reducible refine gate_dst (N := 24) rfl ?_); refine Kd.R_lit Kd.string _ 9 ?hg (N := 24) ?hd (xs := ([(⟨#[]⟩ : ByteArray), (⟨#[32, 97]⟩ : ByteArray), (⟨#[49]⟩ : ByteArray)] : List ByteArray)) (inner := [.string (⟨#[]⟩ : ByteArray), .string (⟨#[32, 97]⟩ : ByteArray), .string (⟨#[49]⟩ : ByteArray)]) (ok := fun _ => True) (okp := fun _ => True) ?hr ?hp (fun _ hk => hk) trivial (Below.refl _ _) (Nat.le_refl _) (by simp) ?_; (case hd => rfl); (case hg => rfl); (case hr => first | (go_simp; done) | (go_simp; rfl)); (case hp => exact (Reps.one (show Kd.M Kd.string _ _ _ (⟨#[]⟩ : ByteArray) [.string (⟨#[]⟩ : ByteArray)] from rfl) (Reps.one (show Kd.M Kd.string _ _ _ (⟨#[32, 97]⟩ : ByteArray) [.string (⟨#[32, 97]⟩ : ByteArray)] from rfl) (Reps.one (show Kd.M Kd.string _ _ _ (⟨#[49]⟩ : ByteArray) [.string (⟨#[49]⟩ : ByteArray)] from rfl) (Reps.none _ _))))); intro v728 w26 ho27 hb hg_ hnew_; clear hg_ hnew_; (first | rw [← Ny727.out] at ho27 | (simp only [Int.reduceToNat] at ho27; rw [← Ny727.out] at ho27)); replace HO701 := kr HO701 hb; have HO729 := Aside0.mk (Kd.R_lower (Kd.R_new' ho27 (Kd.R_lt (ro HO723))) (keep_size (w := w) (g := g) (row := none) (by repeat (first | (with_reducible first | exact HK.out | apply KeepBut.set_ | apply keep_drewN | apply keep_drew | apply keep_alloc) | exact HK.out)))); replace HO723 := Aside0.mk (Kd.R_elder' (ro HO723) (Kd.R_base ho27) hb); replace HK := Aside0.mk (KeepBut.trans (by repeat (first | (with_reducible first | exact HK.out | apply KeepBut.set_ | apply keep_drewN | apply keep_drew | apply keep_alloc) | exact HK.out)) (KeepBut.of_below hb g none) (.inl rfl)); replace HB := Aside0.mk (below_step (by repeat (first | (with_reducible first | exact HB.out | apply below_alloc | apply pw_below_drewN | apply below_drew1 | refine below_set ?_ (IsS132.ge HI0.out)) | exact HB.out)) hb); replace HI0 := Aside0.mk (IsS132.below (by repeat (first | (with_reducible first | exact HI0.out | apply IsS132.alloc | apply IsS132.drewN | apply IsS132.drew | apply IsS132.set_1 | apply IsS132.set_2) | exact HI0.out)) hb); clear hb ho27; obtain ⟨Ao28, co28, eo28⟩ := Kd.R_slice HO729.out; subst eo28) | ((with_reducible refine gate_callee (f := 93) rfl ?_); refine goesL_ (some 25) rfl rfl Tryd.func93 (by kernel_rfl) rfl #[.pointer (some ⟨g, 0, none⟩), .slice Ao28 y727.length co28] rfl ma ?_; (with_reducible refine (spec_l1Pick.calls g s0_0 t725 t726 _ _ y727 t730 t731 t732 w0 _ ?side1 ?side2 ?side3 ?side4 ?side5 A18.out).mono ?_); (case side1 => repeat (first | (with_reducible first | exact HI0.out | apply IsS132.alloc | apply IsS132.drewN | apply IsS132.drew | apply IsS132.set_1 | apply IsS132.set_2) | exact HI0.out)); (case side2 => repeat (first | (with_reducible first | exact HB.out | apply below_alloc | apply pw_below_drewN | apply below_drew1 | refine below_set ?_ (IsS132.ge HI0.out)) | exact HB.out)); (case side3 => repeat (first | exact (Kd.R_reads' HO729.out).2.2 | (with_reducible refine Kd.C_alloc ?_ _) | (with_reducible refine Kd.C_drewN ?_ _) | (with_reducible refine Kd.C_drew ?_))); (case side4 => exact (Kd.R_reads' HO729.out).2.1); (case side5 => exact far_slice (IsS132.own_ne HI0.out HO729.out (by decide))); rintro e w29 ⟨rfl, hi, hb, hk⟩; refine ⟨_, rfl, ?_⟩; replace HO701 := Aside0.mk (Kd.R_mono (Kd.R_keep (IsS132.apart (show IsS132 w0 _ g s0_0 t725 t726 from by repeat (first | (with_reducible first | exact HI0.out | apply IsS132.alloc | apply IsS132.drewN | apply IsS132.drew | apply IsS132.set_1 | apply IsS132.set_2) | exact HI0.out)) (ro HO701) (by decide)) hk (fun _ h => h.2)) (fun _ h => h.1)); replace HO723 := Aside0.mk (Kd.R_mono (Kd.R_keep (IsS132.apart (show IsS132 w0 _ g s0_0 t725 t726 from by repeat (first | (with_reducible first | exact HI0.out | apply IsS132.alloc | apply IsS132.drewN | apply IsS132.drew | apply IsS132.set_1 | apply IsS132.set_2) | exact HI0.out)) (ro HO723) (by decide)) hk (fun _ h => h.2)) (fun _ h => h.1)); replace HO729 := Aside0.mk (Kd.R_mono (Kd.R_keep (IsS132.apart (show IsS132 w0 _ g s0_0 t725 t726 from by repeat (first | (with_reducible first | exact HI0.out | apply IsS132.alloc | apply IsS132.drewN | apply IsS132.drew | apply IsS132.set_1 | apply IsS132.set_2) | exact HI0.out)) (ro HO729) (by decide)) hk (fun _ h => h.2)) (fun _ h => h.1)); replace HK := Aside0.mk (KeepBut.trans (by repeat (first | (with_reducible first | exact HK.out | apply KeepBut.set_ | apply keep_drewN | apply keep_drew | apply keep_alloc) | exact HK.out)) hk (.inl rfl)); replace HB := Aside0.mk (hb); replace HI0 := Aside0.mk (hi); (try clear hb); (try clear hb2); (try clear hk); (try clear hi)) | ((with_reducible refine gate_builtin (b := .append) (xs := #[.tmp 19, .tmp 27]) rfl ?_); at_builtin; refine Kd.R_append k78 w.heap.size rfl (.tmp 19) (.tmp 27) 43 78 (.agg #[(.string ⟨#[]⟩), (.string ⟨#[]⟩)]) 32 rfl Tryd.underlying43 info78 rfl (by decide) (by omega) v700 t699 (⟨t724, t730⟩ : S78) [.string t724, .string t730] (fun _ => True) (fun _ => False) rfl rfl ?aP (fun _ hk => hk.elim) ?aF ?aO (Below.refl _ _) ?aS ?aL ?_; (case aP => exact k78_mkM _ _ _ (⟨t724, t730⟩ : S78)); (case aF => exact (fun _ _ => trivial)); (case aO => exact (ro HO701)); (case aS => exact (keep_size (w := w) (g := g) (row := none) (by repeat (first | (with_reducible first | exact HK.out | apply KeepBut.set_ | apply keep_drewN | apply keep_drew | apply keep_alloc) | exact HK.out)))); (case aL => have := LMc19.out; omega); intro v734 w30 ho hb hg hat; rw [← Ny733.out] at ho; have n0_ := Aside0.mk (IsS132.grown (by repeat (first | (with_reducible first | exact HI0.out | apply IsS132.alloc | apply IsS132.drewN | apply IsS132.drew | apply IsS132.set_1 | apply IsS132.set_2) | exact HI0.out)) hg (IsS132.own_ne HI0.out HO701.out (by decide))); have n1_ := Aside0.mk (Kd.R_over' (ro HO723) (Kd.R_typed (ro HO701)) (by decide) hg); have n2_ := Aside0.mk (Kd.R_over' (ro HO729) (Kd.R_typed (ro HO701)) (by decide) hg); have n3_ := Aside0.mk (below_weaken (by repeat (first | (with_reducible first | exact HB.out | apply below_alloc | apply pw_below_drewN | apply below_drew1 | refine below_set ?_ (IsS132.ge HI0.out)) | exact HB.out)) HL.out hb); have n4_ := Aside0.mk (KeepBut.trans (by repeat (first | (with_reducible first | exact HK.out | apply KeepBut.set_ | apply keep_drewN | apply keep_drew | apply keep_alloc) | exact HK.out)) (KeepBut.of_grown hg g) (Kd.R_base2 HO701.out)); have n5_ := Aside0.mk (ho); clear HI0; clear HO723; clear HO729; clear HB; clear HK; clear HO701; have HI0 := n0_; have HO723 := n1_; have HO729 := n2_; have HB := n3_; have HK := n4_; have HO735 := n5_; clear n0_ n1_ n2_ n3_ n4_ n5_; clear ho hb hg hat))
        go_ret
        exact ⟨_, rf, by (with_reducible repeat (first | apply Kd.R_alloc | apply Kd.R_drewN | apply Kd.R_drew)); exact HO735.out, by repeat (first | (with_reducible first | exact HI0.out | apply IsS132.alloc | apply IsS132.drewN | apply IsS132.drew | apply IsS132.set_1 | apply IsS132.set_2) | exact HI0.out), by repeat (first | (with_reducible first | exact HB.out | apply below_alloc | apply pw_below_drewN | apply below_drew1 | refine below_set ?_ (IsS132.ge HI0.out)) | exact HB.out), by repeat (first | (with_reducible first | exact HK.out | apply KeepBut.set_ | apply keep_drewN | apply keep_drew | apply keep_alloc) | exact HK.out)⟩
      · rw [if_neg c19] at H
        exact absurd H (by simp)
    · rw [if_neg c16] at H
      have c16b0 : (t704 == 1) = false := beq_eq_false_iff_ne.mpr c16
      have c16b1 : (t704 != 1) = true := bne_iff_ne.mpr c16
      by_cases c31 : t704 = 2
      · rw [if_pos c31] at H
        have c31b0 : (t704 == 2) = true := beq_iff_eq.mpr c31
        have c31b1 : (t704 != 2) = false := bne_eq_false_iff_eq.mpr c31
        clear c31
        have H' := Aside0.mk H
        clear H
        go_enter Tryd.func111, Tryd.ntmps111
        go_wp2_with (first | ((with_reducible refine gate_callee (f := 135) rfl ?_); refine goesL_ (some 5) rfl rfl Tryd.func135 (by kernel_rfl) rfl #[.pointer (some ⟨g, 0, none⟩)] rfl ma ?_; (with_reducible refine (spec_l2DrawRight.calls k g s0_0 s0_1 s0_2 t699 t702 t703 w0 _ ?side1 ?side2 A2.out).mono ?_); (case side1 => repeat (first | (with_reducible first | exact HI0.out | apply IsS132.alloc | apply IsS132.drewN | apply IsS132.drew | apply IsS132.set_1 | apply IsS132.set_2) | exact HI0.out)); (case side2 => repeat (first | (with_reducible first | exact HB.out | apply below_alloc | apply pw_below_drewN | apply below_drew1 | refine below_set ?_ (IsS132.ge HI0.out)) | exact HB.out)); rintro e w32 ⟨v700, rfl, ho0, hi, hb, hk⟩; refine ⟨_, rfl, ?_⟩; have HO701 := Aside0.mk (Kd.R_lower ho0 (keep_size (w := w) (g := g) (row := none) (by repeat (first | (with_reducible first | exact HK.out | apply KeepBut.set_ | apply keep_drewN | apply keep_drew | apply keep_alloc) | exact HK.out)))); replace HK := Aside0.mk (KeepBut.trans (by repeat (first | (with_reducible first | exact HK.out | apply KeepBut.set_ | apply keep_drewN | apply keep_drew | apply keep_alloc) | exact HK.out)) hk (.inl rfl)); replace HB := Aside0.mk (hb); replace HI0 := Aside0.mk (hi); (try clear hb); (try clear hb2); (try clear hk); (try clear hi); (try clear ho0)) | ((with_reducible refine gate_callee (f := 95) rfl ?_); refine goesL_ (some 7) rfl rfl Tryd.func95 (by kernel_rfl) rfl #[.pointer (some ⟨g, 0, none⟩), .int .i64 15] rfl ma ?_; (with_reducible refine (spec_l1Below.calls g s0_0 t702 t703 15 t704 t705 t706 w0 _ ?side1 ?side2 A3.out).mono ?_); (case side1 => repeat (first | (with_reducible first | exact HI0.out | apply IsS132.alloc | apply IsS132.drewN | apply IsS132.drew | apply IsS132.set_1 | apply IsS132.set_2) | exact HI0.out)); (case side2 => repeat (first | (with_reducible first | exact HB.out | apply below_alloc | apply pw_below_drewN | apply below_drew1 | refine below_set ?_ (IsS132.ge HI0.out)) | exact HB.out)); rintro e w33 ⟨rfl, hi, hb, hk⟩; refine ⟨_, rfl, ?_⟩; replace HO701 := Aside0.mk (Kd.R_mono (Kd.R_keep (IsS132.apart (show IsS132 w0 _ g s0_0 t702 t703 from by repeat (first | (with_reducible first | exact HI0.out | apply IsS132.alloc | apply IsS132.drewN | apply IsS132.drew | apply IsS132.set_1 | apply IsS132.set_2) | exact HI0.out)) (ro HO701) (by decide)) hk (fun _ h => h.2)) (fun _ h => h.1)); replace HK := Aside0.mk (KeepBut.trans (by repeat (first | (with_reducible first | exact HK.out | apply KeepBut.set_ | apply keep_drewN | apply keep_drew | apply keep_alloc) | exact HK.out)) hk (.inl rfl)); replace HB := Aside0.mk (hb); replace HI0 := Aside0.mk (hi); (try clear hb); (try clear hb2); (try clear hk); (try clear hi)))
        (try simp only [Act.put, List.setIfInBounds_toArray, List.set_cons_zero, List.set_cons_succ])
        go_loopg [3] k (fun kq v3 w' => ∃ (x3_1 : List (S78)) (x1001_1 : Int) (x1002_1 : Int), Aside0 (spec_l2Draw.l0 kq x3_1 s0_0 x1001_1 x1002_1 = some (r1, r2, r3)) ∧ Aside0 (kq ≤ k) ∧ Aside0 (Kd.R k78 78 w' w.heap.size (fun _ => True) v3 x3_1) ∧ Aside0 (IsS132 w0 w' g s0_0 x1001_1 x1002_1) ∧ Aside0 (KeepBut w w' g none) ∧ Aside0 (Below w0.heap.size w0 w'))
        case atStart => exact ⟨(t699), (t705), (t706), H', ⟨Nat.le_refl _⟩, ⟨by (with_reducible repeat (first | apply Kd.R_alloc | apply Kd.R_drewN | apply Kd.R_drew)); exact HO701.out⟩, ⟨by repeat (first | (with_reducible first | exact HI0.out | apply IsS132.alloc | apply IsS132.drewN | apply IsS132.drew | apply IsS132.set_1 | apply IsS132.set_2) | exact HI0.out)⟩, ⟨by repeat (first | (with_reducible first | exact HK.out | apply KeepBut.set_ | apply keep_drewN | apply keep_drew | apply keep_alloc) | exact HK.out)⟩, ⟨by repeat (first | (with_reducible first | exact HB.out | apply below_alloc | apply pw_below_drewN | apply below_drew1 | refine below_set ?_ (IsS132.ge HI0.out)) | exact HB.out)⟩⟩
        case round =>
          clear H'
          try clear c1
          try clear c2
          try clear p2
          try clear c3
          try clear c4
          try clear c4b0
          try clear c4b1
          try clear c7
          try clear c9
          try clear c11
          try clear c13
          try clear c16
          try clear c16b0
          try clear c16b1
          try clear c19
          try clear c31
          try clear c31b0
          try clear c31b1
          obtain ⟨x3_1, x1001_1, x1002_1, HA, HK1, HO_3, HI0, HK, HB⟩ := hrel
          cases gk with
          | zero => exact absurd HA.out (by simp [spec_l2Draw.l0])
          | succ k1 =>
            have H := HA.out
            clear HA
            simp only [spec_l2Draw.l0] at H
            replace H := Option.bind_eq_some_iff.mp H
            obtain ⟨⟨t736, t737, t738⟩, A340, H⟩ := H
            replace H : (if (x3_1.length : Int) < (wrap64 (8 + t736)) then ((spec_NumText.f k1 (x3_1.length : Int)).bind fun t739 => (if 1 + t739.size ≤ 9223372036854775807 then (if x3_1.length < 4398046511104 then (spec_l2Draw.l0 k1 (x3_1 ++ [(⟨(⟨#[110]⟩ : ByteArray) ++ t739, (⟨#[118]⟩ : ByteArray)⟩ : S78)]) s0_0 t737 t738) else (none)) else (none))) else (some (x3_1, t737, t738))) = some (r1, r2, r3) := H
            have A34 := Aside0.mk A340
            clear A340
            by_cases c35 : (x3_1.length : Int) < (wrap64 (8 + t736))
            · rw [if_pos c35] at H
              have c35b0 : decide ((x3_1.length : Int) < (wrap64 (8 + t736))) = true := decide_eq_true c35
              clear c35
              replace H := Option.bind_eq_some_iff.mp H
              obtain ⟨t739, A360, H⟩ := H
              replace H : (if 1 + t739.size ≤ 9223372036854775807 then (if x3_1.length < 4398046511104 then (spec_l2Draw.l0 k1 (x3_1 ++ [(⟨(⟨#[110]⟩ : ByteArray) ++ t739, (⟨#[118]⟩ : ByteArray)⟩ : S78)]) s0_0 t737 t738) else (none)) else (none)) = some (r1, r2, r3) := H
              have A36 := Aside0.mk A360
              clear A360
              by_cases c37 : 1 + t739.size ≤ 9223372036854775807
              · rw [if_pos c37] at H
                have c37b0 := eq_true c37
                have c37b1 : decide (1 + t739.size ≤ 9223372036854775807) = true := decide_eq_true c37
                try have c37b2 : (9223372036854775807 < 1 + t739.size) = False := eq_false (Nat.not_lt.2 c37)
                by_cases c38 : x3_1.length < 4398046511104
                · rw [if_pos c38] at H
                  have LMc38 := Aside0.mk c38
                  clear c38
                  obtain ⟨y740, hy740⟩ : ∃ y_ : List (S78), y_ = (x3_1 ++ [(⟨(⟨#[110]⟩ : ByteArray) ++ t739, (⟨#[118]⟩ : ByteArray)⟩ : S78)]) := ⟨_, rfl⟩
                  replace H : (spec_l2Draw.l0 k1 y740 s0_0 t737 t738) = some (r1, r2, r3) := by first | (rw [hy740]; with_reducible exact H) | (have H2_ := (Option.bind_some _ _).symm.trans H; rw [hy740]; with_reducible exact H2_) | (have H2_ := (Option.bind_some _ _).symm.trans H; with_reducible exact H2_) | with_reducible exact H | (rw [hy740]; exact H) | exact H
                  have Ny740 := Aside0.mk hy740
                  clear hy740
                  have H' := Aside0.mk H
                  clear H
                  obtain ⟨Ao39, co39, eo39⟩ := Kd.R_slice HO_3.out
                  subst eo39
                  go_wp2_with (first | ((with_reducible refine gate_callee (f := 95) rfl ?_); refine goesL_ (some 34) rfl rfl Tryd.func95 (by kernel_rfl) rfl #[.pointer (some ⟨g, 0, none⟩), .int .i64 2] rfl ma ?_; (with_reducible refine (spec_l1Below.calls g s0_0 x1001_1 x1002_1 2 t736 t737 t738 w0 _ ?side1 ?side2 A34.out).mono ?_); (case side1 => repeat (first | (with_reducible first | exact HI0.out | apply IsS132.alloc | apply IsS132.drewN | apply IsS132.drew | apply IsS132.set_1 | apply IsS132.set_2) | exact HI0.out)); (case side2 => repeat (first | (with_reducible first | exact HB.out | apply below_alloc | apply pw_below_drewN | apply below_drew1 | refine below_set ?_ (IsS132.ge HI0.out)) | exact HB.out)); rintro e w40 ⟨rfl, hi, hb, hk⟩; refine ⟨_, rfl, ?_⟩; replace HO_3 := Aside0.mk (Kd.R_mono (Kd.R_keep (IsS132.apart (show IsS132 w0 _ g s0_0 x1001_1 x1002_1 from by repeat (first | (with_reducible first | exact HI0.out | apply IsS132.alloc | apply IsS132.drewN | apply IsS132.drew | apply IsS132.set_1 | apply IsS132.set_2) | exact HI0.out)) (ro HO_3) (by decide)) hk (fun _ h => h.2)) (fun _ h => h.1)); replace HK := Aside0.mk (KeepBut.trans (by repeat (first | (with_reducible first | exact HK.out | apply KeepBut.set_ | apply keep_drewN | apply keep_drew | apply keep_alloc) | exact HK.out)) hk (.inl rfl)); replace HB := Aside0.mk (hb); replace HI0 := Aside0.mk (hi); (try clear hb); (try clear hb2); (try clear hk); (try clear hi)) | ((with_reducible refine gate_callee (f := 88) rfl ?_); refine goesL_ (some 40) rfl rfl Tryd.func88 (by kernel_rfl) rfl #[.int .i64 (x3_1.length : Int)] rfl ma ?_; (with_reducible refine (spec_NumText.calls k1 (x3_1.length : Int) t739 _ A36.out).mono ?_); rintro e w41 ⟨rfl, hb⟩; refine ⟨_, rfl, ?_⟩; replace HO_3 := kr HO_3 hb; replace HK := Aside0.mk (KeepBut.trans (by repeat (first | (with_reducible first | exact HK.out | apply KeepBut.set_ | apply keep_drewN | apply keep_drew | apply keep_alloc) | exact HK.out)) (KeepBut.of_below hb g none) (.inl rfl)); replace HB := Aside0.mk (below_step (by repeat (first | (with_reducible first | exact HB.out | apply below_alloc | apply pw_below_drewN | apply below_drew1 | refine below_set ?_ (IsS132.ge HI0.out)) | exact HB.out)) hb); replace HI0 := Aside0.mk (IsS132.below (by repeat (first | (with_reducible first | exact HI0.out | apply IsS132.alloc | apply IsS132.drewN | apply IsS132.drew | apply IsS132.set_1 | apply IsS132.set_2) | exact HI0.out)) hb); (try clear hb); (try clear hb2); (try clear hk); (try clear hi)) | ((with_reducible refine gate_builtin (b := .append) (xs := #[.tmp 37, .tmp 43]) rfl ?_); at_builtin; refine Kd.R_append k78 w.heap.size rfl (.tmp 37) (.tmp 43) 43 78 (.agg #[(.string ⟨#[]⟩), (.string ⟨#[]⟩)]) 32 rfl Tryd.underlying43 info78 rfl (by decide) (by omega) (.slice Ao39 x3_1.length co39) x3_1 (⟨(⟨#[110]⟩ : ByteArray) ++ t739, (⟨#[118]⟩ : ByteArray)⟩ : S78) [.string ((⟨#[110]⟩ : ByteArray) ++ t739), .string (⟨#[118]⟩ : ByteArray)] (fun _ => True) (fun _ => False) rfl rfl ?aP (fun _ hk => hk.elim) ?aF ?aO (Below.refl _ _) ?aS ?aL ?_; (case aP => exact k78_mkM _ _ _ (⟨(⟨#[110]⟩ : ByteArray) ++ t739, (⟨#[118]⟩ : ByteArray)⟩ : S78)); (case aF => exact (fun _ _ => trivial)); (case aO => exact (ro HO_3)); (case aS => exact (keep_size (w := w) (g := g) (row := none) (by repeat (first | (with_reducible first | exact HK.out | apply KeepBut.set_ | apply keep_drewN | apply keep_drew | apply keep_alloc) | exact HK.out)))); (case aL => have := LMc38.out; omega); intro v741 w42 ho hb hg hat; rw [← Ny740.out] at ho; have n0_ := Aside0.mk (IsS132.grown (by repeat (first | (with_reducible first | exact HI0.out | apply IsS132.alloc | apply IsS132.drewN | apply IsS132.drew | apply IsS132.set_1 | apply IsS132.set_2) | exact HI0.out)) hg (IsS132.own_ne HI0.out HO_3.out (by decide))); have n1_ := Aside0.mk (below_weaken (by repeat (first | (with_reducible first | exact HB.out | apply below_alloc | apply pw_below_drewN | apply below_drew1 | refine below_set ?_ (IsS132.ge HI0.out)) | exact HB.out)) HL.out hb); have n2_ := Aside0.mk (KeepBut.trans (by repeat (first | (with_reducible first | exact HK.out | apply KeepBut.set_ | apply keep_drewN | apply keep_drew | apply keep_alloc) | exact HK.out)) (KeepBut.of_grown hg g) (Kd.R_base2 HO_3.out)); have n3_ := Aside0.mk (ho); clear HI0; clear HB; clear HK; clear HO_3; have HI0 := n0_; have HB := n1_; have HK := n2_; have HO742 := n3_; clear n0_ n1_ n2_ n3_; clear ho hb hg hat))
                  go_roundg k1
                  case measure => have := HK1.out; omega
                  case rel => exact ⟨(y740), (t737), (t738), H', ⟨by have := HK1.out; omega⟩, ⟨by (with_reducible repeat (first | apply Kd.R_alloc | apply Kd.R_drewN | apply Kd.R_drew)); exact HO742.out⟩, ⟨by repeat (first | (with_reducible first | exact HI0.out | apply IsS132.alloc | apply IsS132.drewN | apply IsS132.drew | apply IsS132.set_1 | apply IsS132.set_2) | exact HI0.out)⟩, ⟨by repeat (first | (with_reducible first | exact HK.out | apply KeepBut.set_ | apply keep_drewN | apply keep_drew | apply keep_alloc) | exact HK.out)⟩, ⟨by repeat (first | (with_reducible first | exact HB.out | apply below_alloc | apply pw_below_drewN | apply below_drew1 | refine below_set ?_ (IsS132.ge HI0.out)) | exact HB.out)⟩⟩
                · rw [if_neg c38] at H
                  exact absurd H (by simp)
              · rw [if_neg c37] at H
                exact absurd H (by simp)
            · rw [if_neg c35] at H
              have c35b0 : decide ((x3_1.length : Int) < (wrap64 (8 + t736))) = false := decide_eq_false c35
              clear c35
              simp only [Option.some.injEq, Prod.mk.injEq] at H
              obtain ⟨rfl, rfl, rfl⟩ := H
              obtain ⟨Ao43, co43, eo43⟩ := Kd.R_slice HO_3.out
              subst eo43
              go_wp2_with (first | ((with_reducible refine gate_callee (f := 95) rfl ?_); refine goesL_ (some 34) rfl rfl Tryd.func95 (by kernel_rfl) rfl #[.pointer (some ⟨g, 0, none⟩), .int .i64 2] rfl ma ?_; (with_reducible refine (spec_l1Below.calls g s0_0 x1001_1 x1002_1 2 t736 t737 t738 w0 _ ?side1 ?side2 A34.out).mono ?_); (case side1 => repeat (first | (with_reducible first | exact HI0.out | apply IsS132.alloc | apply IsS132.drewN | apply IsS132.drew | apply IsS132.set_1 | apply IsS132.set_2) | exact HI0.out)); (case side2 => repeat (first | (with_reducible first | exact HB.out | apply below_alloc | apply pw_below_drewN | apply below_drew1 | refine below_set ?_ (IsS132.ge HI0.out)) | exact HB.out)); rintro e w44 ⟨rfl, hi, hb, hk⟩; refine ⟨_, rfl, ?_⟩; replace HO_3 := Aside0.mk (Kd.R_mono (Kd.R_keep (IsS132.apart (show IsS132 w0 _ g s0_0 x1001_1 x1002_1 from by repeat (first | (with_reducible first | exact HI0.out | apply IsS132.alloc | apply IsS132.drewN | apply IsS132.drew | apply IsS132.set_1 | apply IsS132.set_2) | exact HI0.out)) (ro HO_3) (by decide)) hk (fun _ h => h.2)) (fun _ h => h.1)); replace HK := Aside0.mk (KeepBut.trans (by repeat (first | (with_reducible first | exact HK.out | apply KeepBut.set_ | apply keep_drewN | apply keep_drew | apply keep_alloc) | exact HK.out)) hk (.inl rfl)); replace HB := Aside0.mk (hb); replace HI0 := Aside0.mk (hi); (try clear hb); (try clear hb2); (try clear hk); (try clear hi)))
              go_ret
              exact ⟨_, rf, by (with_reducible repeat (first | apply Kd.R_alloc | apply Kd.R_drewN | apply Kd.R_drew)); exact HO_3.out, by repeat (first | (with_reducible first | exact HI0.out | apply IsS132.alloc | apply IsS132.drewN | apply IsS132.drew | apply IsS132.set_1 | apply IsS132.set_2) | exact HI0.out), by repeat (first | (with_reducible first | exact HB.out | apply below_alloc | apply pw_below_drewN | apply below_drew1 | refine below_set ?_ (IsS132.ge HI0.out)) | exact HB.out), by repeat (first | (with_reducible first | exact HK.out | apply KeepBut.set_ | apply keep_drewN | apply keep_drew | apply keep_alloc) | exact HK.out)⟩
      · rw [if_neg c31] at H
        have c31b0 : (t704 == 2) = false := beq_eq_false_iff_ne.mpr c31
        have c31b1 : (t704 != 2) = true := bne_iff_ne.mpr c31
        simp only [Option.some.injEq, Prod.mk.injEq] at H
        obtain ⟨rfl, rfl, rfl⟩ := H
        go_enter Tryd.func111, Tryd.ntmps111
        go_wp2_with (first | ((with_reducible refine gate_callee (f := 135) rfl ?_); refine goesL_ (some 5) rfl rfl Tryd.func135 (by kernel_rfl) rfl #[.pointer (some ⟨g, 0, none⟩)] rfl ma ?_; (with_reducible refine (spec_l2DrawRight.calls k g s0_0 s0_1 s0_2 t699 t702 t703 w0 _ ?side1 ?side2 A2.out).mono ?_); (case side1 => repeat (first | (with_reducible first | exact HI0.out | apply IsS132.alloc | apply IsS132.drewN | apply IsS132.drew | apply IsS132.set_1 | apply IsS132.set_2) | exact HI0.out)); (case side2 => repeat (first | (with_reducible first | exact HB.out | apply below_alloc | apply pw_below_drewN | apply below_drew1 | refine below_set ?_ (IsS132.ge HI0.out)) | exact HB.out)); rintro e w45 ⟨v700, rfl, ho0, hi, hb, hk⟩; refine ⟨_, rfl, ?_⟩; have HO701 := Aside0.mk (Kd.R_lower ho0 (keep_size (w := w) (g := g) (row := none) (by repeat (first | (with_reducible first | exact HK.out | apply KeepBut.set_ | apply keep_drewN | apply keep_drew | apply keep_alloc) | exact HK.out)))); replace HK := Aside0.mk (KeepBut.trans (by repeat (first | (with_reducible first | exact HK.out | apply KeepBut.set_ | apply keep_drewN | apply keep_drew | apply keep_alloc) | exact HK.out)) hk (.inl rfl)); replace HB := Aside0.mk (hb); replace HI0 := Aside0.mk (hi); (try clear hb); (try clear hb2); (try clear hk); (try clear hi); (try clear ho0)) | ((with_reducible refine gate_callee (f := 95) rfl ?_); refine goesL_ (some 7) rfl rfl Tryd.func95 (by kernel_rfl) rfl #[.pointer (some ⟨g, 0, none⟩), .int .i64 15] rfl ma ?_; (with_reducible refine (spec_l1Below.calls g s0_0 t702 t703 15 t704 t705 t706 w0 _ ?side1 ?side2 A3.out).mono ?_); (case side1 => repeat (first | (with_reducible first | exact HI0.out | apply IsS132.alloc | apply IsS132.drewN | apply IsS132.drew | apply IsS132.set_1 | apply IsS132.set_2) | exact HI0.out)); (case side2 => repeat (first | (with_reducible first | exact HB.out | apply below_alloc | apply pw_below_drewN | apply below_drew1 | refine below_set ?_ (IsS132.ge HI0.out)) | exact HB.out)); rintro e w46 ⟨rfl, hi, hb, hk⟩; refine ⟨_, rfl, ?_⟩; replace HO701 := Aside0.mk (Kd.R_mono (Kd.R_keep (IsS132.apart (show IsS132 w0 _ g s0_0 t702 t703 from by repeat (first | (with_reducible first | exact HI0.out | apply IsS132.alloc | apply IsS132.drewN | apply IsS132.drew | apply IsS132.set_1 | apply IsS132.set_2) | exact HI0.out)) (ro HO701) (by decide)) hk (fun _ h => h.2)) (fun _ h => h.1)); replace HK := Aside0.mk (KeepBut.trans (by repeat (first | (with_reducible first | exact HK.out | apply KeepBut.set_ | apply keep_drewN | apply keep_drew | apply keep_alloc) | exact HK.out)) hk (.inl rfl)); replace HB := Aside0.mk (hb); replace HI0 := Aside0.mk (hi); (try clear hb); (try clear hb2); (try clear hk); (try clear hi)))
        go_ret
        exact ⟨_, rf, by (with_reducible repeat (first | apply Kd.R_alloc | apply Kd.R_drewN | apply Kd.R_drew)); exact HO701.out, by repeat (first | (with_reducible first | exact HI0.out | apply IsS132.alloc | apply IsS132.drewN | apply IsS132.drew | apply IsS132.set_1 | apply IsS132.set_2) | exact HI0.out), by repeat (first | (with_reducible first | exact HB.out | apply below_alloc | apply pw_below_drewN | apply below_drew1 | refine below_set ?_ (IsS132.ge HI0.out)) | exact HB.out), by repeat (first | (with_reducible first | exact HK.out | apply KeepBut.set_ | apply keep_drewN | apply keep_drew | apply keep_alloc) | exact HK.out)⟩

/-! ### spec_l2DrawName: function 112 -/
def spec_l2DrawName.f (s0_0 : List Int) (s0_1 : Int) (s0_2 : Int) : Option (ByteArray × Int × Int) := (spec_l1Pick.f s0_0 s0_1 s0_2 (([(⟨#[101, 116, 97, 103]⟩ : ByteArray), (⟨#[118, 97, 114, 121]⟩ : ByteArray), (⟨#[108, 97, 110, 103]⟩ : ByteArray), (⟨#[97, 103, 101]⟩ : ByteArray), (⟨#[120, 45, 97]⟩ : ByteArray), (⟨#[122, 122]⟩ : ByteArray), (⟨#[]⟩ : ByteArray)] : List ByteArray))).bind fun bt746 => (some (bt746.1, bt746.2.1, bt746.2.2))
set_option maxHeartbeats 8000000 in
set_option maxRecDepth 100000 in
theorem spec_l2DrawName.calls (g : Nat) (s0_0 : List Int) (s0_1 : Int) (s0_2 : Int) (r1 : ByteArray) (r2 : Int) (r3 : Int) (w0 w : World) (hI : IsS132 w0 w g s0_0 s0_1 s0_2) (hB : Below w0.heap.size w0 w) (h : spec_l2DrawName.f s0_0 s0_1 s0_2 = some (r1, r2, r3)) :
    Calls Tryd.prog 112 #[.pointer (some ⟨g, 0, none⟩)] w fun e w' => e = .returned (.string r1) ∧ IsS132 w0 w' g s0_0 r2 r3 ∧ Below w0.heap.size w0 w' ∧ KeepBut w w' g none := by
  have HI0 := Aside0.mk hI
  have HK := Aside0.mk (KeepBut.refl w g none)
  have HL := Aside0.mk hB.size
  clear hI
  have HW0 := Aside0.mk hB.size
  have HB := Aside0.mk hB
  clear hB
  have H : ((spec_l1Pick.f s0_0 s0_1 s0_2 (([(⟨#[101, 116, 97, 103]⟩ : ByteArray), (⟨#[118, 97, 114, 121]⟩ : ByteArray), (⟨#[108, 97, 110, 103]⟩ : ByteArray), (⟨#[97, 103, 101]⟩ : ByteArray), (⟨#[120, 45, 97]⟩ : ByteArray), (⟨#[122, 122]⟩ : ByteArray), (⟨#[]⟩ : ByteArray)] : List ByteArray))).bind fun bt746 => (some (bt746.1, bt746.2.1, bt746.2.2))) = some (r1, r2, r3) := h
  clear h
  obtain ⟨y743, hy743⟩ : ∃ y_ : List ByteArray, y_ = (([(⟨#[101, 116, 97, 103]⟩ : ByteArray), (⟨#[118, 97, 114, 121]⟩ : ByteArray), (⟨#[108, 97, 110, 103]⟩ : ByteArray), (⟨#[97, 103, 101]⟩ : ByteArray), (⟨#[120, 45, 97]⟩ : ByteArray), (⟨#[122, 122]⟩ : ByteArray), (⟨#[]⟩ : ByteArray)] : List ByteArray)) := ⟨_, rfl⟩
  replace H : ((spec_l1Pick.f s0_0 s0_1 s0_2 y743).bind fun bt746 => (some (bt746.1, bt746.2.1, bt746.2.2))) = some (r1, r2, r3) := by first | (rw [hy743]; with_reducible exact H) | (have H2_ := (Option.bind_some _ _).symm.trans H; rw [hy743]; with_reducible exact H2_) | (have H2_ := (Option.bind_some _ _).symm.trans H; with_reducible exact H2_) | with_reducible exact H | (rw [hy743]; exact H) | exact H
  have Ny743 := Aside0.mk hy743
  clear hy743
  replace H := Option.bind_eq_some_iff.mp H
  obtain ⟨⟨t746, t747, t748⟩, A20, H⟩ := H
  replace H : (some (t746, t747, t748)) = some (r1, r2, r3) := H
  have A2 := Aside0.mk A20
  clear A20
  simp only [Option.some.injEq, Prod.mk.injEq] at H
  obtain ⟨rfl, rfl, rfl⟩ := H
  go_enter Tryd.func112, Tryd.ntmps112
  go_wp2_with (first | ((with_reducible refine gate_dst (N := 4) rfl ?_); refine Kd.R_lit Kd.string _ 9 ?hg (N := 4) ?hd (xs := ([(⟨#[101, 116, 97, 103]⟩ : ByteArray), (⟨#[118, 97, 114, 121]⟩ : ByteArray), (⟨#[108, 97, 110, 103]⟩ : ByteArray), (⟨#[97, 103, 101]⟩ : ByteArray), (⟨#[120, 45, 97]⟩ : ByteArray), (⟨#[122, 122]⟩ : ByteArray), (⟨#[]⟩ : ByteArray)] : List ByteArray)) (inner := [.string (⟨#[101, 116, 97, 103]⟩ : ByteArray), .string (⟨#[118, 97, 114, 121]⟩ : ByteArray), .string (⟨#[108, 97, 110, 103]⟩ : ByteArray), .string (⟨#[97, 103, 101]⟩ : ByteArray), .string (⟨#[120, 45, 97]⟩ : ByteArray), .string (⟨#[122, 122]⟩ : ByteArray), .string (⟨#[]⟩ : ByteArray)]) (ok := fun _ => True) (okp := fun _ => True) ?hr ?hp (fun _ hk => hk) trivial (Below.refl _ _) (Nat.le_refl _) (by simp) ?_; (case hd => rfl); (case hg => rfl); (case hr => first | (go_simp; done) | (go_simp; rfl)); (case hp => exact (Reps.one (show Kd.M Kd.string _ _ _ (⟨#[101, 116, 97, 103]⟩ : ByteArray) [.string (⟨#[101, 116, 97, 103]⟩ : ByteArray)] from rfl) (Reps.one (show Kd.M Kd.string _ _ _ (⟨#[118, 97, 114, 121]⟩ : ByteArray) [.string (⟨#[118, 97, 114, 121]⟩ : ByteArray)] from rfl) (Reps.one (show Kd.M Kd.string _ _ _ (⟨#[108, 97, 110, 103]⟩ : ByteArray) [.string (⟨#[108, 97, 110, 103]⟩ : ByteArray)] from rfl) (Reps.one (show Kd.M Kd.string _ _ _ (⟨#[97, 103, 101]⟩ : ByteArray) [.string (⟨#[97, 103, 101]⟩ : ByteArray)] from rfl) (Reps.one (show Kd.M Kd.string _ _ _ (⟨#[120, 45, 97]⟩ : ByteArray) [.string (⟨#[120, 45, 97]⟩ : ByteArray)] from rfl) (Reps.one (show Kd.M Kd.string _ _ _ (⟨#[122, 122]⟩ : ByteArray) [.string (⟨#[122, 122]⟩ : ByteArray)] from rfl) (Reps.one (show Kd.M Kd.string _ _ _ (⟨#[]⟩ : ByteArray) [.string (⟨#[]⟩ : ByteArray)] from rfl) (Reps.none _ _))))))))); intro v744 w3 ho4 hb hg_ hnew_; clear hg_ hnew_; (first | rw [← Ny743.out] at ho4 | (simp only [Int.reduceToNat] at ho4; rw [← Ny743.out] at ho4)); have HO745 := Aside0.mk (Kd.R_lower ho4 (keep_size (w := w) (g := g) (row := none) (by repeat (first | (with_reducible first | exact HK.out | apply KeepBut.set_ | apply keep_drewN | apply keep_drew | apply keep_alloc) | exact HK.out)))); replace HK := Aside0.mk (KeepBut.trans (by repeat (first | (with_reducible first | exact HK.out | apply KeepBut.set_ | apply keep_drewN | apply keep_drew | apply keep_alloc) | exact HK.out)) (KeepBut.of_below hb g none) (.inl rfl)); replace HB := Aside0.mk (below_step (by repeat (first | (with_reducible first | exact HB.out | apply below_alloc | apply pw_below_drewN | apply below_drew1 | refine below_set ?_ (IsS132.ge HI0.out)) | exact HB.out)) hb); replace HI0 := Aside0.mk (IsS132.below (by repeat (first | (with_reducible first | exact HI0.out | apply IsS132.alloc | apply IsS132.drewN | apply IsS132.drew | apply IsS132.set_1 | apply IsS132.set_2) | exact HI0.out)) hb); clear hb ho4; obtain ⟨Ao5, co5, eo5⟩ := Kd.R_slice HO745.out; subst eo5) | ((with_reducible refine gate_callee (f := 93) rfl ?_); refine goesL_ (some 5) rfl rfl Tryd.func93 (by kernel_rfl) rfl #[.pointer (some ⟨g, 0, none⟩), .slice Ao5 y743.length co5] rfl ma ?_; (with_reducible refine (spec_l1Pick.calls g s0_0 s0_1 s0_2 _ _ y743 t746 t747 t748 w0 _ ?side1 ?side2 ?side3 ?side4 ?side5 A2.out).mono ?_); (case side1 => repeat (first | (with_reducible first | exact HI0.out | apply IsS132.alloc | apply IsS132.drewN | apply IsS132.drew | apply IsS132.set_1 | apply IsS132.set_2) | exact HI0.out)); (case side2 => repeat (first | (with_reducible first | exact HB.out | apply below_alloc | apply pw_below_drewN | apply below_drew1 | refine below_set ?_ (IsS132.ge HI0.out)) | exact HB.out)); (case side3 => repeat (first | exact (Kd.R_reads' HO745.out).2.2 | (with_reducible refine Kd.C_alloc ?_ _) | (with_reducible refine Kd.C_drewN ?_ _) | (with_reducible refine Kd.C_drew ?_))); (case side4 => exact (Kd.R_reads' HO745.out).2.1); (case side5 => exact far_slice (IsS132.own_ne HI0.out HO745.out (by decide))); rintro e w6 ⟨rfl, hi, hb, hk⟩; refine ⟨_, rfl, ?_⟩; replace HO745 := Aside0.mk (Kd.R_mono (Kd.R_keep (IsS132.apart (show IsS132 w0 _ g s0_0 s0_1 s0_2 from by repeat (first | (with_reducible first | exact HI0.out | apply IsS132.alloc | apply IsS132.drewN | apply IsS132.drew | apply IsS132.set_1 | apply IsS132.set_2) | exact HI0.out)) (ro HO745) (by decide)) hk (fun _ h => h.2)) (fun _ h => h.1)); replace HK := Aside0.mk (KeepBut.trans (by repeat (first | (with_reducible first | exact HK.out | apply KeepBut.set_ | apply keep_drewN | apply keep_drew | apply keep_alloc) | exact HK.out)) hk (.inl rfl)); replace HB := Aside0.mk (hb); replace HI0 := Aside0.mk (hi); (try clear hb); (try clear hb2); (try clear hk); (try clear hi)))
  go_ret
  exact ⟨rf, by repeat (first | (with_reducible first | exact HI0.out | apply IsS132.alloc | apply IsS132.drewN | apply IsS132.drew | apply IsS132.set_1 | apply IsS132.set_2) | exact HI0.out), by repeat (first | (with_reducible first | exact HB.out | apply below_alloc | apply pw_below_drewN | apply below_drew1 | refine below_set ?_ (IsS132.ge HI0.out)) | exact HB.out), by repeat (first | (with_reducible first | exact HK.out | apply KeepBut.set_ | apply keep_drewN | apply keep_drew | apply keep_alloc) | exact HK.out)⟩

/-! ### spec_DrawPut: function 59 -/
def spec_DrawPut.f (k : Nat) (l0 : List Int) : Option ((List (S78)) × ByteArray × ByteArray) := (spec_l1New.f k l0).bind fun bt749 => ((spec_l2Draw.f k bt749.1 bt749.2.1 bt749.2.2).bind fun bt753 => ((spec_l2DrawName.f bt749.1 bt753.2.1 bt753.2.2).bind fun bt758 => ((spec_l1DrawText.f k bt749.1 bt758.2.1 bt758.2.2).bind fun bt761 => (some (bt753.1, bt758.1, bt761.1)))))
theorem spec_DrawPut.mono : ∀ a0 k, LeO (spec_DrawPut.f k a0) (spec_DrawPut.f (k + 1) a0) := by
  intro a0 k
  unfold spec_DrawPut.f
  repeat' first
      | (with_reducible exact spec_l1DrawText.mono _ _ _ _)
      | (with_reducible exact spec_l1New.mono _ _)
      | (with_reducible exact spec_l2Draw.mono _ _ _ _)
      | (with_reducible exact LeO.refl _)
      | (with_reducible exact LeO.none _)
      | (with_reducible refine LeO.ite ?_ ?_)
      | (with_reducible refine LeO.bind ?_ (fun _ => ?_))
      | exact spec_l1DrawText.mono _ _ _ _
      | exact spec_l1New.mono _ _
      | exact spec_l2Draw.mono _ _ _ _
      | exact LeO.none _
      | refine LeO.ite ?_ ?_
      | refine LeO.bind ?_ (fun _ => ?_)
set_option maxHeartbeats 8000000 in
set_option maxRecDepth 100000 in
theorem spec_DrawPut.calls (k : Nat) (A0 : Option Addr) (c0 : Nat) (l0 : List Int) (r1 : List (S78)) (r2 : ByteArray) (r3 : ByteArray) (w : World) (hr0 : Kd.C (Kd.int .u8) w A0 l0.length l0) (hc0 : l0.length ≤ c0) (h : spec_DrawPut.f k l0 = some (r1, r2, r3)) :
    Calls Tryd.prog 59 #[.slice A0 l0.length c0] w fun e w' => ∃ v0_ : Value, e = .returned (.tuple #[v0_, .string r2, .string r3]) ∧ Kd.R k78 78 w' w.heap.size (fun _ => True) v0_ r1 ∧ Below w.heap.size w w' := by
  have HR0 := Aside0.mk hr0
  have HC0 := Aside0.mk hc0
  clear hr0 hc0
  have HB := Aside0.mk (Below.refl w.heap.size w)
  have H : ((spec_l1New.f k l0).bind fun bt749 => ((spec_l2Draw.f k bt749.1 bt749.2.1 bt749.2.2).bind fun bt753 => ((spec_l2DrawName.f bt749.1 bt753.2.1 bt753.2.2).bind fun bt758 => ((spec_l1DrawText.f k bt749.1 bt758.2.1 bt758.2.2).bind fun bt761 => (some (bt753.1, bt758.1, bt761.1)))))) = some (r1, r2, r3) := h
  clear h
  replace H := Option.bind_eq_some_iff.mp H
  obtain ⟨⟨t749, t750, t751⟩, A20, H⟩ := H
  replace H : ((spec_l2Draw.f k t749 t750 t751).bind fun bt753 => ((spec_l2DrawName.f t749 bt753.2.1 bt753.2.2).bind fun bt758 => ((spec_l1DrawText.f k t749 bt758.2.1 bt758.2.2).bind fun bt761 => (some (bt753.1, bt758.1, bt761.1))))) = some (r1, r2, r3) := H
  have A2 := Aside0.mk A20
  clear A20
  replace H := Option.bind_eq_some_iff.mp H
  obtain ⟨⟨t753, t756, t757⟩, A30, H⟩ := H
  replace H : ((spec_l2DrawName.f t749 t756 t757).bind fun bt758 => ((spec_l1DrawText.f k t749 bt758.2.1 bt758.2.2).bind fun bt761 => (some (t753, bt758.1, bt761.1)))) = some (r1, r2, r3) := H
  have A3 := Aside0.mk A30
  clear A30
  replace H := Option.bind_eq_some_iff.mp H
  obtain ⟨⟨t758, t759, t760⟩, A40, H⟩ := H
  replace H : ((spec_l1DrawText.f k t749 t759 t760).bind fun bt761 => (some (t753, t758, bt761.1))) = some (r1, r2, r3) := H
  have A4 := Aside0.mk A40
  clear A40
  replace H := Option.bind_eq_some_iff.mp H
  obtain ⟨⟨t761, t762, t763⟩, A50, H⟩ := H
  replace H : (some (t753, t758, t761)) = some (r1, r2, r3) := H
  have A5 := Aside0.mk A50
  clear A50
  simp only [Option.some.injEq, Prod.mk.injEq] at H
  obtain ⟨rfl, rfl, rfl⟩ := H
  go_enter Tryd.func59, Tryd.ntmps59
  go_wp2_with (first | ((with_reducible refine gate_callee (f := 92) rfl ?_); refine goesL_ (some 9) rfl rfl Tryd.func92 (by kernel_rfl) rfl #[.slice A0 l0.length c0] rfl ma ?_; (with_reducible refine (spec_l1New.calls k _ _ l0 t749 t750 t751 w _ ?side1 ?side2 ?side3 A2.out).mono ?_); (case side1 => repeat (first | (with_reducible first | exact HB.out | apply below_alloc | apply pw_below_drewN | apply below_drew1) | exact HB.out)); (case side2 => exact HR0.out); (case side3 => exact HC0.out); rintro e w6 ⟨g752, rfl, hi, hb, hb2⟩; refine ⟨_, rfl, ?_⟩; replace HB := Aside0.mk (hb); have HI752 := Aside0.mk (hi); (try clear hb); (try clear hb2); (try clear hk); (try clear hi)) | ((with_reducible refine gate_callee (f := 111) rfl ?_); refine goesL_ (some 11) rfl rfl Tryd.func111 (by kernel_rfl) rfl #[.pointer (some ⟨g752, 0, none⟩)] rfl ma ?_; (with_reducible refine (spec_l2Draw.calls k g752 t749 t750 t751 t753 t756 t757 w _ ?side1 ?side2 A3.out).mono ?_); (case side1 => repeat (first | (with_reducible first | exact HI752.out | apply IsS132.alloc | apply IsS132.drewN | apply IsS132.drew | apply IsS132.set_1 | apply IsS132.set_2) | exact HI752.out)); (case side2 => repeat (first | (with_reducible first | exact HB.out | apply below_alloc | apply pw_below_drewN | apply below_drew1 | refine below_set ?_ (IsS132.ge HI752.out)) | exact HB.out)); rintro e w7 ⟨v754, rfl, ho0, hi, hb, hk⟩; refine ⟨_, rfl, ?_⟩; have HO755 := Aside0.mk (Kd.R_lower ho0 (below_size (by repeat (first | (with_reducible first | exact HB.out | apply below_alloc | apply pw_below_drewN | apply below_drew1 | refine below_set ?_ (IsS132.ge HI752.out)) | exact HB.out)))); replace HB := Aside0.mk (hb); replace HI752 := Aside0.mk (hi); (try clear hb); (try clear hb2); (try clear hk); (try clear hi); (try clear ho0)) | ((with_reducible refine gate_callee (f := 112) rfl ?_); refine goesL_ (some 13) rfl rfl Tryd.func112 (by kernel_rfl) rfl #[.pointer (some ⟨g752, 0, none⟩)] rfl ma ?_; (with_reducible refine (spec_l2DrawName.calls g752 t749 t756 t757 t758 t759 t760 w _ ?side1 ?side2 A4.out).mono ?_); (case side1 => repeat (first | (with_reducible first | exact HI752.out | apply IsS132.alloc | apply IsS132.drewN | apply IsS132.drew | apply IsS132.set_1 | apply IsS132.set_2) | exact HI752.out)); (case side2 => repeat (first | (with_reducible first | exact HB.out | apply below_alloc | apply pw_below_drewN | apply below_drew1 | refine below_set ?_ (IsS132.ge HI752.out)) | exact HB.out)); rintro e w8 ⟨rfl, hi, hb, hk⟩; refine ⟨_, rfl, ?_⟩; replace HO755 := Aside0.mk (Kd.R_mono (Kd.R_keep (IsS132.apart (show IsS132 w _ g752 t749 t756 t757 from by repeat (first | (with_reducible first | exact HI752.out | apply IsS132.alloc | apply IsS132.drewN | apply IsS132.drew | apply IsS132.set_1 | apply IsS132.set_2) | exact HI752.out)) (ro HO755) (by decide)) hk (fun _ h => h.2)) (fun _ h => h.1)); replace HB := Aside0.mk (hb); replace HI752 := Aside0.mk (hi); (try clear hb); (try clear hb2); (try clear hk); (try clear hi)) | ((with_reducible refine gate_callee (f := 91) rfl ?_); refine goesL_ (some 17) rfl rfl Tryd.func91 (by kernel_rfl) rfl #[.pointer (some ⟨g752, 0, none⟩)] rfl ma ?_; (with_reducible refine (spec_l1DrawText.calls k g752 t749 t759 t760 t761 t762 t763 w _ ?side1 ?side2 A5.out).mono ?_); (case side1 => repeat (first | (with_reducible first | exact HI752.out | apply IsS132.alloc | apply IsS132.drewN | apply IsS132.drew | apply IsS132.set_1 | apply IsS132.set_2) | exact HI752.out)); (case side2 => repeat (first | (with_reducible first | exact HB.out | apply below_alloc | apply pw_below_drewN | apply below_drew1 | refine below_set ?_ (IsS132.ge HI752.out)) | exact HB.out)); rintro e w9 ⟨rfl, hi, hb, hk⟩; refine ⟨_, rfl, ?_⟩; replace HO755 := Aside0.mk (Kd.R_mono (Kd.R_keep (IsS132.apart (show IsS132 w _ g752 t749 t759 t760 from by repeat (first | (with_reducible first | exact HI752.out | apply IsS132.alloc | apply IsS132.drewN | apply IsS132.drew | apply IsS132.set_1 | apply IsS132.set_2) | exact HI752.out)) (ro HO755) (by decide)) hk (fun _ h => h.2)) (fun _ h => h.1)); replace HB := Aside0.mk (hb); replace HI752 := Aside0.mk (hi); (try clear hb); (try clear hb2); (try clear hk); (try clear hi)))
  go_ret3
  exact ⟨_, rf, by (with_reducible repeat (first | apply Kd.R_alloc | apply Kd.R_drewN | apply Kd.R_drew)); exact HO755.out, by repeat (first | (with_reducible first | exact HB.out | apply below_alloc | apply pw_below_drewN | apply below_drew1 | refine below_set ?_ (IsS132.ge HI752.out)) | exact HB.out)⟩

/-! ### laws_sameFields: function 61 -/
attribute [local go_sem high] eqA78
def laws_sameFields.l0 : Nat → List (S78) → List (S78) → Int → Option (Bool)
  | 0, _, _, _ => none
  | k + 1, x0, x1, x5 => if x5 < (x0.length : Int) then (if 0 ≤ x5 then (if x5 < (x1.length : Int) then (if (!((((rd_T78 x0 x5).f0).toList) == (((rd_T78 x1 x5).f0).toList)) || (!((((rd_T78 x0 x5).f1).toList) == (((rd_T78 x1 x5).f1).toList)))) = true then (some false) else (laws_sameFields.l0 k x0 x1 (wrap64 (x5 + 1)))) else (none)) else (none)) else (some true)
def laws_sameFields.f (k : Nat) (l0 : List (S78)) (l1 : List (S78)) : Option (Bool) := if (l0.length : Int) = (l1.length : Int) then (laws_sameFields.l0 k l0 l1 0) else (some false)
theorem laws_sameFields.mono_l : ∀ k, (∀ y0 y1 y2, LeO (laws_sameFields.l0 k y0 y1 y2) (laws_sameFields.l0 (k + 1) y0 y1 y2))
  | 0 => fun _ _ _ r h => by simp [laws_sameFields.l0] at h
  | k + 1 => by
    have ih0 := laws_sameFields.mono_l k
    · intro y0 y1 y2
      unfold laws_sameFields.l0
      repeat' first
      | (with_reducible exact ih0 _ _ _)
      | (with_reducible exact LeO.refl _)
      | (with_reducible exact LeO.none _)
      | (with_reducible refine LeO.ite ?_ ?_)
      | (with_reducible refine LeO.bind ?_ (fun _ => ?_))
      | exact ih0 _ _ _
      | exact LeO.none _
      | refine LeO.ite ?_ ?_
      | refine LeO.bind ?_ (fun _ => ?_)
theorem laws_sameFields.mono : ∀ a0 a1 k, LeO (laws_sameFields.f k a0 a1) (laws_sameFields.f (k + 1) a0 a1) := by
  intro a0 a1 k
  have ih0 := laws_sameFields.mono_l k
  unfold laws_sameFields.f
  repeat' first
      | (with_reducible exact ih0 _ _ _)
      | (with_reducible exact LeO.refl _)
      | (with_reducible exact LeO.none _)
      | (with_reducible refine LeO.ite ?_ ?_)
      | (with_reducible refine LeO.bind ?_ (fun _ => ?_))
      | exact ih0 _ _ _
      | exact LeO.none _
      | refine LeO.ite ?_ ?_
      | refine LeO.bind ?_ (fun _ => ?_)
set_option maxHeartbeats 8000000 in
set_option maxRecDepth 100000 in
theorem laws_sameFields.calls (k : Nat) (A0 : Option Addr) (c0 : Nat) (l0 : List (S78)) (A1 : Option Addr) (c1 : Nat) (l1 : List (S78)) (r : Bool) (w : World) (hr0 : Kd.C k78 w A0 l0.length l0) (hc0 : l0.length ≤ c0) (hr1 : Kd.C k78 w A1 l1.length l1) (hc1 : l1.length ≤ c1) (h : laws_sameFields.f k l0 l1 = some r) :
    Calls Tryd.prog 61 #[.slice A0 l0.length c0, .slice A1 l1.length c1] w fun e w' => e = .returned (.bool r) ∧ Drawn0 w w' := by
  have hu78 := Tryd.underlying78
  have HR0 := Aside0.mk hr0
  have HC0 := Aside0.mk hc0
  clear hr0 hc0
  have HR1 := Aside0.mk hr1
  have HC1 := Aside0.mk hc1
  clear hr1 hc1
  have H : (if (l0.length : Int) = (l1.length : Int) then (laws_sameFields.l0 k l0 l1 0) else (some false)) = some r := h
  clear h
  by_cases c3 : (l0.length : Int) = (l1.length : Int)
  · rw [if_pos c3] at H
    have c3b0 : ((l0.length : Int) == (l1.length : Int)) = true := beq_iff_eq.mpr c3
    have c3b1 : ((l0.length : Int) != (l1.length : Int)) = false := bne_eq_false_iff_eq.mpr c3
    have c3b2 : (l0.length == l1.length) = true := by first | simpa using c3 | (simp at c3 ⊢; omega)
    clear c3
    have H' := Aside0.mk H
    clear H
    go_enter Tryd.func61, Tryd.ntmps61
    go_wp2
    repeat (go_quiet (fail); try go_wp2)
    (try simp only [Act.put, List.setIfInBounds_toArray, List.set_cons_zero, List.set_cons_succ])
    go_loopg [5] k (fun kq v5 w' => ∃ (x5_1 : Int), v5 = .int .i64 x5_1 ∧ Aside0 (laws_sameFields.l0 kq l0 l1 x5_1 = some r) ∧ Aside0 (kq ≤ k) ∧ Drawn0 w w')
    case atStart => exact ⟨(0), (by first | rfl | (simp; done) | (simp [*]; done)), H', ⟨Nat.le_refl _⟩, by repeat (first | exact Drawn0.refl _ | apply Drawn0.step)⟩
    case round =>
      clear H'
      try clear c1
      try clear p2
      try clear c3
      try clear c3b0
      try clear c3b1
      try clear c3b2
      obtain ⟨x5_1, rfl, HA, HK1, ⟨m1, rfl⟩⟩ := hrel
      cases gk with
      | zero => exact absurd HA.out (by simp [laws_sameFields.l0])
      | succ k1 =>
        have H := HA.out
        clear HA
        simp only [laws_sameFields.l0] at H
        by_cases c4 : x5_1 < (l0.length : Int)
        · rw [if_pos c4] at H
          have c4b0 : decide (x5_1 < (l0.length : Int)) = true := decide_eq_true c4
          clear c4
          by_cases c5 : 0 ≤ x5_1
          · rw [if_pos c5] at H
            have c5b0 : decide (0 ≤ x5_1) = true := decide_eq_true c5
            clear c5
            by_cases c6 : x5_1 < (l1.length : Int)
            · rw [if_pos c6] at H
              have c6b0 : decide (x5_1 < (l1.length : Int)) = true := decide_eq_true c6
              clear c6
              by_cases c7 : (!((((rd_T78 l0 x5_1).f0).toList) == (((rd_T78 l1 x5_1).f0).toList)) || (!((((rd_T78 l0 x5_1).f1).toList) == (((rd_T78 l1 x5_1).f1).toList)))) = true
              · rw [if_pos c7] at H
                have c7b0 : (!((((rd_T78 l0 x5_1).f0).toList) == (((rd_T78 l1 x5_1).f0).toList)) || (!((((rd_T78 l0 x5_1).f1).toList) == (((rd_T78 l1 x5_1).f1).toList)))) = true := c7
                clear c7
                obtain rfl := Option.some.inj H
                have p764 : 0 ≤ (x5_1 : Int) := of_decide_eq_true (by first | (with_reducible assumption) | assumption)
                have q764 : x5_1 < (l0.length : Int) := of_decide_eq_true (by first | (with_reducible assumption) | assumption)
                obtain ⟨ad764, e764, hx764_0, hx764_1⟩ := at_T78 HR0.out x5_1 p764 q764
                cases e764
                replace p764 := eq_true p764
                replace q764 := eq_true q764
                have p765 : 0 ≤ (x5_1 : Int) := of_decide_eq_true (by first | (with_reducible assumption) | assumption)
                have q765 : x5_1 < (l1.length : Int) := of_decide_eq_true (by first | (with_reducible assumption) | assumption)
                obtain ⟨ad765, e765, hx765_0, hx765_1⟩ := at_T78 HR1.out x5_1 p765 q765
                cases e765
                replace p765 := eq_true p765
                replace q765 := eq_true q765
                go_wp2
                repeat (go_quiet (fail); try go_wp2)
                go_ret
                exact ⟨by first | rfl | (simp; done) | (simp [*]; done), by repeat (first | exact Drawn0.refl _ | apply Drawn0.step)⟩
              · rw [if_neg c7] at H
                have c7b0 : (!((((rd_T78 l0 x5_1).f0).toList) == (((rd_T78 l1 x5_1).f0).toList)) || (!((((rd_T78 l0 x5_1).f1).toList) == (((rd_T78 l1 x5_1).f1).toList)))) = false := by simpa using c7
                clear c7
                have H' := Aside0.mk H
                clear H
                have p764 : 0 ≤ (x5_1 : Int) := of_decide_eq_true (by first | (with_reducible assumption) | assumption)
                have q764 : x5_1 < (l0.length : Int) := of_decide_eq_true (by first | (with_reducible assumption) | assumption)
                obtain ⟨ad764, e764, hx764_0, hx764_1⟩ := at_T78 HR0.out x5_1 p764 q764
                cases e764
                replace p764 := eq_true p764
                replace q764 := eq_true q764
                have p765 : 0 ≤ (x5_1 : Int) := of_decide_eq_true (by first | (with_reducible assumption) | assumption)
                have q765 : x5_1 < (l1.length : Int) := of_decide_eq_true (by first | (with_reducible assumption) | assumption)
                obtain ⟨ad765, e765, hx765_0, hx765_1⟩ := at_T78 HR1.out x5_1 p765 q765
                cases e765
                replace p765 := eq_true p765
                replace q765 := eq_true q765
                go_wp2
                repeat (go_quiet (fail); try go_wp2)
                go_roundg k1
                case measure => have := HK1.out; omega
                case rel => exact ⟨(wrap64 (x5_1 + 1)), (by first | rfl | (simp; done) | (simp [*]; done)), H', ⟨by have := HK1.out; omega⟩, by repeat (first | exact Drawn0.refl _ | apply Drawn0.step)⟩
            · rw [if_neg c6] at H
              exact absurd H (by simp)
          · rw [if_neg c5] at H
            exact absurd H (by simp)
        · rw [if_neg c4] at H
          have c4b0 : decide (x5_1 < (l0.length : Int)) = false := decide_eq_false c4
          clear c4
          obtain rfl := Option.some.inj H
          go_wp2
          repeat (go_quiet (fail); try go_wp2)
          go_ret
          exact ⟨by first | rfl | (simp; done) | (simp [*]; done), by repeat (first | exact Drawn0.refl _ | apply Drawn0.step)⟩
  · rw [if_neg c3] at H
    have c3b0 : ((l0.length : Int) == (l1.length : Int)) = false := beq_eq_false_iff_ne.mpr c3
    have c3b1 : ((l0.length : Int) != (l1.length : Int)) = true := bne_iff_ne.mpr c3
    have c3b2 : (l0.length == l1.length) = false := by first | simpa using c3 | (simp at c3 ⊢; omega)
    obtain rfl := Option.some.inj H
    go_enter Tryd.func61, Tryd.ntmps61
    go_wp2
    repeat (go_quiet (fail); try go_wp2)
    go_ret
    exact ⟨by first | rfl | (simp; done) | (simp [*]; done), by repeat (first | exact Drawn0.refl _ | apply Drawn0.step)⟩

end Go.Proofs.YtogdmlgbdbgpkaaDoor.All
