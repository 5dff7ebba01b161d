-- Written by a program of this session (wip/tools/hprint.py) out of the translation. Lean checks it.
import Derived.Test.YtiinmfjbildclaaDoorAllx0
import Derived.Test.YtiinmfjbildclaaDoorAllx12
import Derived.Test.YtiinmfjbildclaaDoorAllx13
import Derived.Test.YtiinmfjbildclaaDoorAllx16
import Derived.Test.YtiinmfjbildclaaDoorAllx20
namespace Go.Proofs.YtiinmfjbildclaaDoor.All
open Go.RowKit Go.Proofs.YtiinmfjbildclaaDoorW.PrintWords Go.Proofs.YtiinmfjbildclaaDoorW.PrintLast Go.Proofs.YtiinmfjbildclaaDoorW.PrintMore
attribute [local go_sem] max2_int min2_int max_two min_two max_three min_three max_four min_four   -- for this text's walks alone
set_option linter.unusedVariables false
set_option linter.unusedSimpArgs false

/-! ### spec_DrawNumText: function 77 -/
def spec_DrawNumText.f (k : Nat) (l0 : List Int) : Option (Int) := (spec_l1New.f k l0).bind fun bt1511 => ((spec_l1PickInt.f bt1511.1 bt1511.2.1 bt1511.2.2 (([0, 1, 9, 10, 777, 1000000, 1000001, (-1), (-9223372036854775808)] : List Int))).bind fun bt1518 => (some bt1518.1))
theorem spec_DrawNumText.mono : ∀ a0 k, LeO (spec_DrawNumText.f k a0) (spec_DrawNumText.f (k + 1) a0) := by
 intro a0 k
 unfold spec_DrawNumText.f
 repeat' first
   | (with_reducible exact spec_l1New.mono _ _)
   | (with_reducible exact LeO.refl _)
   | (with_reducible exact LeO.none _)
   | (with_reducible refine LeO.ite ?_ ?_)
   | (with_reducible refine LeO.bind ?_ (fun _ => ?_))
   | exact spec_l1New.mono _ _
   | exact LeO.none _
   | refine LeO.ite ?_ ?_
   | refine LeO.bind ?_ (fun _ => ?_)
set_option maxHeartbeats 8000000 in
set_option maxRecDepth 100000 in
theorem spec_DrawNumText.calls (k : Nat) (A0 : Option Addr) (c0 : Nat) (l0 : List Int) (r : Int) (w : World) (hr0 : Kd.C (Kd.int .u8) w A0 l0.length l0) (hc0 : l0.length ≤ c0) (h : spec_DrawNumText.f k l0 = some r) :
  Calls Tryd.prog 77 #[.slice A0 l0.length c0] w fun e w' => e = .returned (.int .i64 r) ∧ Below w.heap.size w w' := by
 have HR0 := am hr0
 have HC0 := am hc0
 clear hr0 hc0
 have HB := am (Below.refl w.heap.size w)
 have H : ((spec_l1New.f k l0).bind fun bt1511 => ((spec_l1PickInt.f bt1511.1 bt1511.2.1 bt1511.2.2 (([0, 1, 9, 10, 777, 1000000, 1000001, (-1), (-9223372036854775808)] : List Int))).bind fun bt1518 => (some bt1518.1))) = some r := h
 clear h
 replace H := ob H
 obtain ⟨⟨t1511, t1512, t1513⟩, A20, H⟩ := H
 replace H : ((spec_l1PickInt.f t1511 t1512 t1513 (([0, 1, 9, 10, 777, 1000000, 1000001, (-1), (-9223372036854775808)] : List Int))).bind fun bt1518 => (some bt1518.1)) = some r := H
 have A2 := am A20
 clear A20
 obtain ⟨y1515, hy1515⟩ : ∃ y_ : List Int, y_ = (([0, 1, 9, 10, 777, 1000000, 1000001, (-1), (-9223372036854775808)] : List Int)) := ⟨_, rfl⟩
 replace H : ((spec_l1PickInt.f t1511 t1512 t1513 y1515).bind fun bt1518 => (some bt1518.1)) = some r := by first | (rw [hy1515]; with_reducible exact H) | (have H2_ := (Option.bind_some _ _).symm.trans H; rw [hy1515]; with_reducible exact H2_) | (have H2_ := (Option.bind_some _ _).symm.trans H; with_reducible exact H2_) | with_reducible exact H | (rw [hy1515]; exact H) | exact H
 have Ny1515 := am hy1515
 clear hy1515
 replace H := ob H
 obtain ⟨⟨t1518, t1519, t1520⟩, A30, H⟩ := H
 replace H : (some t1518) = some r := H
 have A3 := am A30
 clear A30
 obtain rfl := Option.some.inj H
 go_enter Tryd.func77, Tryd.ntmps77
 go_wp2_with (first | ((with_reducible refine gate_callee (f := 108) rfl ?_); refine goesL_ (some 4) rfl rfl Tryd.func108 (by kernel_rfl) rfl #[.slice A0 l0.length c0] rfl ma ?_; (with_reducible refine (spec_l1New.calls k _ _ l0 t1511 t1512 t1513 w _ ?side1 ?side2 ?side3 A2.out).mono ?_); (case side1 => repeat (first | (with_reducible first | exact HB.out | apply below_alloc | apply pw_below_drewN | apply below_drew1) | exact HB.out)); (case side2 => exact HR0.out); (case side3 => exact HC0.out); rintro e w4 ⟨g1514, rfl, hi, hb, hb2⟩; refine ⟨_, rfl, ?_⟩; replace HB := am (hb); have HI1514 := am (hi); (try clear hb); (try clear hb2); (try clear hk); (try clear hi)) | ((with_reducible refine gate_dst (N := 5) rfl ?_); refine Kd.R_lit (Kd.int .i64) _ 3 ?hg (N := 5) ?hd (xs := ([0, 1, 9, 10, 777, 1000000, 1000001, (-1), (-9223372036854775808)] : List Int)) (inner := [.int .i64 0, .int .i64 1, .int .i64 9, .int .i64 10, .int .i64 777, .int .i64 1000000, .int .i64 1000001, .int .i64 (-1), .int .i64 (-9223372036854775808)]) (ok := fun _ => True) (okp := fun _ => True) ?hr ?hp (fun _ hk => hk) trivial (Below.refl _ _) (Nat.le_refl _) (by simp) ?_; (case hd => rfl); (case hg => rfl); (case hr => first | (go_simp; done) | (go_simp; rfl)); (case hp => exact (Reps.one (show Kd.M (Kd.int .i64) _ _ _ 0 [.int .i64 0] from rfl) (Reps.one (show Kd.M (Kd.int .i64) _ _ _ 1 [.int .i64 1] from rfl) (Reps.one (show Kd.M (Kd.int .i64) _ _ _ 9 [.int .i64 9] from rfl) (Reps.one (show Kd.M (Kd.int .i64) _ _ _ 10 [.int .i64 10] from rfl) (Reps.one (show Kd.M (Kd.int .i64) _ _ _ 777 [.int .i64 777] from rfl) (Reps.one (show Kd.M (Kd.int .i64) _ _ _ 1000000 [.int .i64 1000000] from rfl) (Reps.one (show Kd.M (Kd.int .i64) _ _ _ 1000001 [.int .i64 1000001] from rfl) (Reps.one (show Kd.M (Kd.int .i64) _ _ _ (-1) [.int .i64 (-1)] from rfl) (Reps.one (show Kd.M (Kd.int .i64) _ _ _ (-9223372036854775808) [.int .i64 (-9223372036854775808)] from rfl) (Reps.none _ _))))))))))); intro v1516 w5 ho6 hb hg_ hnew_; clear hg_ hnew_; (first | rw [← Ny1515.out] at ho6 | (simp only [Int.reduceToNat] at ho6; rw [← Ny1515.out] at ho6)); have HO1517 := am (Kd.R_lower ho6 (below_size (by repeat (first | (with_reducible first | exact HB.out | apply below_alloc | apply pw_below_drewN | apply below_drew1 | refine below_set ?_ (IsS161.ge HI1514.out)) | exact HB.out)))); replace HB := am (below_step (by repeat (first | (with_reducible first | exact HB.out | apply below_alloc | apply pw_below_drewN | apply below_drew1 | refine below_set ?_ (IsS161.ge HI1514.out)) | exact HB.out)) hb); replace HI1514 := am (IsS161.below (by repeat (first | (with_reducible first | exact HI1514.out | apply IsS161.alloc | apply IsS161.drewN | apply IsS161.drew | apply IsS161.set_1 | apply IsS161.set_2) | exact HI1514.out)) hb); clear hb ho6; obtain ⟨Ao7, co7, eo7⟩ := Kd.R_slice HO1517.out; subst eo7) | ((with_reducible refine gate_callee (f := 155) rfl ?_); refine goesL_ (some 6) rfl rfl Tryd.func155 (by kernel_rfl) rfl #[.pointer (some ⟨g1514, 0, none⟩), .slice Ao7 y1515.length co7] rfl ma ?_; (with_reducible refine (spec_l1PickInt.calls g1514 t1511 t1512 t1513 _ _ y1515 t1518 t1519 t1520 w _ ?side1 ?side2 ?side3 ?side4 ?side5 A3.out).mono ?_); (case side1 => repeat (first | (with_reducible first | exact HI1514.out | apply IsS161.alloc | apply IsS161.drewN | apply IsS161.drew | apply IsS161.set_1 | apply IsS161.set_2) | exact HI1514.out)); (case side2 => repeat (first | (with_reducible first | exact HB.out | apply below_alloc | apply pw_below_drewN | apply below_drew1 | refine below_set ?_ (IsS161.ge HI1514.out)) | exact HB.out)); (case side3 => exact rc HO1517); (case side4 => exact (Kd.R_reads' HO1517.out).2.1); (case side5 => exact far_slice (IsS161.own_ne HI1514.out HO1517.out (by decide))); rintro e w8 ⟨rfl, hi, hb, hk⟩; refine ⟨_, rfl, ?_⟩; replace HO1517 := am (Kd.R_mono (Kd.R_keep (IsS161.apart (show IsS161 w _ g1514 t1511 t1512 t1513 from by repeat (first | (with_reducible first | exact HI1514.out | apply IsS161.alloc | apply IsS161.drewN | apply IsS161.drew | apply IsS161.set_1 | apply IsS161.set_2) | exact HI1514.out)) (ro HO1517) (by decide)) hk (fun _ h => h.2)) (fun _ h => h.1)); replace HB := am (hb); replace HI1514 := am (hi); (try clear hb); (try clear hb2); (try clear hk); (try clear hi)))
 go_ret
 exact ⟨rf, by repeat (first | (with_reducible first | exact HB.out | apply below_alloc | apply pw_below_drewN | apply below_drew1 | refine below_set ?_ (IsS161.ge HI1514.out)) | exact HB.out)⟩

/-! ### impl_NumText: function 78 -/
def impl_NumText.f (a0 : Int) : Option (ByteArray) := (impl_inRange.f a0 0 1000000).bind fun t1521 => (if t1521 = true then ((strconv_Itoa.f a0).bind fun t1522 => (some t1522)) else (some (⟨#[]⟩ : ByteArray)))
set_option maxHeartbeats 8000000 in
set_option maxRecDepth 100000 in
theorem impl_NumText.calls (a0 : Int) (r : ByteArray) (w : World) (hGT : GLOBT w) (h : impl_NumText.f a0 = some r) :
  Calls Tryd.prog 78 #[.int .i64 a0] w fun e w' => e = .returned (.string r) ∧ Below w.heap.size w w' := by
 have HGT := am hGT
 clear hGT
 have HB := am (Below.refl w.heap.size w)
 have H : ((impl_inRange.f a0 0 1000000).bind fun t1521 => (if t1521 = true then ((strconv_Itoa.f a0).bind fun t1522 => (some t1522)) else (some (⟨#[]⟩ : ByteArray)))) = some r := h
 clear h
 replace H := ob H
 obtain ⟨t1521, A20, H⟩ := H
 replace H : (if t1521 = true then ((strconv_Itoa.f a0).bind fun t1522 => (some t1522)) else (some (⟨#[]⟩ : ByteArray))) = some r := H
 have A2 := am A20
 clear A20
 by_cases c3 : t1521 = true
 ·subst c3
  have H1 : ((strconv_Itoa.f a0).bind fun t1522 => (some t1522)) = some r := by rw [if_pos rfl] at H; exact H
  clear H
  have H := H1
  clear H1
  replace H := ob H
  obtain ⟨t1522, A40, H⟩ := H
  replace H : (some t1522) = some r := H
  have A4 := am A40
  clear A40
  obtain rfl := Option.some.inj H
  go_enter Tryd.func78, Tryd.ntmps78
  go_wp2_with (first | ((with_reducible refine gate_callee (f := 118) rfl ?_); refine goesL_ (some 4) rfl rfl Tryd.func118 (by kernel_rfl) rfl #[.int .i64 a0, .int .i64 0, .int .i64 1000000] rfl ma ?_; (with_reducible refine (impl_inRange.calls a0 0 1000000 true _ A2.out).mono ?_); rintro e w' ⟨rfl, ⟨nd, rfl⟩⟩; refine ⟨_, rfl, ?_⟩) | ((with_reducible refine gate_callee (f := 124) rfl ?_); refine goesL_ (some 7) rfl rfl Tryd.func124 (by kernel_rfl) rfl #[.int .i64 a0] rfl ma ?_; (with_reducible refine (strconv_Itoa.calls a0 t1522 _ ?side1 A4.out).mono ?_); (case side1 => exact GLOBT.below HGT.out bl); rintro e w5 ⟨rfl, hb⟩; refine ⟨_, rfl, ?_⟩; replace HB := am (below_step bl hb); (try clear hb); (try clear hb2); (try clear hk); (try clear hi)))
  go_ret
  exact ⟨rf, bl⟩
 ·replace c3 := Bool.eq_false_iff.mpr c3
  subst c3
  have H1 : (some (⟨#[]⟩ : ByteArray)) = some r := by rw [if_neg (show ¬ (false = true) by decide)] at H; exact H
  clear H
  have H := H1
  clear H1
  obtain rfl := Option.some.inj H
  go_enter Tryd.func78, Tryd.ntmps78
  go_wp2_with (first | ((with_reducible refine gate_callee (f := 118) rfl ?_); refine goesL_ (some 4) rfl rfl Tryd.func118 (by kernel_rfl) rfl #[.int .i64 a0, .int .i64 0, .int .i64 1000000] rfl ma ?_; (with_reducible refine (impl_inRange.calls a0 0 1000000 false _ A2.out).mono ?_); rintro e w' ⟨rfl, ⟨nd, rfl⟩⟩; refine ⟨_, rfl, ?_⟩))
  go_ret
  exact ⟨rf, bl⟩

/-! ### spec_DrawNumRead: function 81 -/
def spec_DrawNumRead.f (k : Nat) (l0 : List Int) : Option (ByteArray) := (spec_l1New.f k l0).bind fun bt1523 => ((spec_l1Pick.f bt1523.1 bt1523.2.1 bt1523.2.2 (([(⟨#[]⟩ : ByteArray), (⟨#[48]⟩ : ByteArray), (⟨#[55]⟩ : ByteArray), (⟨#[48, 55]⟩ : ByteArray), (⟨#[49, 50, 48]⟩ : ByteArray), (⟨#[49, 48, 48, 48, 48, 48, 48]⟩ : ByteArray), (⟨#[49, 48, 48, 48, 48, 48, 49]⟩ : ByteArray), (⟨#[45, 49]⟩ : ByteArray), (⟨#[49, 120]⟩ : ByteArray), (⟨#[57, 57, 57, 57, 57, 57, 57, 57]⟩ : ByteArray)] : List ByteArray))).bind fun bt1530 => (some bt1530.1))
theorem spec_DrawNumRead.mono : ∀ a0 k, LeO (spec_DrawNumRead.f k a0) (spec_DrawNumRead.f (k + 1) a0) := by
 intro a0 k
 unfold spec_DrawNumRead.f
 repeat' first
   | (with_reducible exact spec_l1New.mono _ _)
   | (with_reducible exact LeO.refl _)
   | (with_reducible exact LeO.none _)
   | (with_reducible refine LeO.ite ?_ ?_)
   | (with_reducible refine LeO.bind ?_ (fun _ => ?_))
   | exact spec_l1New.mono _ _
   | exact LeO.none _
   | refine LeO.ite ?_ ?_
   | refine LeO.bind ?_ (fun _ => ?_)
set_option maxHeartbeats 8000000 in
set_option maxRecDepth 100000 in
theorem spec_DrawNumRead.calls (k : Nat) (A0 : Option Addr) (c0 : Nat) (l0 : List Int) (r : ByteArray) (w : World) (hr0 : Kd.C (Kd.int .u8) w A0 l0.length l0) (hc0 : l0.length ≤ c0) (h : spec_DrawNumRead.f k l0 = some r) :
  Calls Tryd.prog 81 #[.slice A0 l0.length c0] w fun e w' => e = .returned (.string r) ∧ Below w.heap.size w w' := by
 have HR0 := am hr0
 have HC0 := am hc0
 clear hr0 hc0
 have HB := am (Below.refl w.heap.size w)
 have H : ((spec_l1New.f k l0).bind fun bt1523 => ((spec_l1Pick.f bt1523.1 bt1523.2.1 bt1523.2.2 (([(⟨#[]⟩ : ByteArray), (⟨#[48]⟩ : ByteArray), (⟨#[55]⟩ : ByteArray), (⟨#[48, 55]⟩ : ByteArray), (⟨#[49, 50, 48]⟩ : ByteArray), (⟨#[49, 48, 48, 48, 48, 48, 48]⟩ : ByteArray), (⟨#[49, 48, 48, 48, 48, 48, 49]⟩ : ByteArray), (⟨#[45, 49]⟩ : ByteArray), (⟨#[49, 120]⟩ : ByteArray), (⟨#[57, 57, 57, 57, 57, 57, 57, 57]⟩ : ByteArray)] : List ByteArray))).bind fun bt1530 => (some bt1530.1))) = some r := h
 clear h
 replace H := ob H
 obtain ⟨⟨t1523, t1524, t1525⟩, A20, H⟩ := H
 replace H : ((spec_l1Pick.f t1523 t1524 t1525 (([(⟨#[]⟩ : ByteArray), (⟨#[48]⟩ : ByteArray), (⟨#[55]⟩ : ByteArray), (⟨#[48, 55]⟩ : ByteArray), (⟨#[49, 50, 48]⟩ : ByteArray), (⟨#[49, 48, 48, 48, 48, 48, 48]⟩ : ByteArray), (⟨#[49, 48, 48, 48, 48, 48, 49]⟩ : ByteArray), (⟨#[45, 49]⟩ : ByteArray), (⟨#[49, 120]⟩ : ByteArray), (⟨#[57, 57, 57, 57, 57, 57, 57, 57]⟩ : ByteArray)] : List ByteArray))).bind fun bt1530 => (some bt1530.1)) = some r := H
 have A2 := am A20
 clear A20
 obtain ⟨y1527, hy1527⟩ : ∃ y_ : List ByteArray, y_ = (([(⟨#[]⟩ : ByteArray), (⟨#[48]⟩ : ByteArray), (⟨#[55]⟩ : ByteArray), (⟨#[48, 55]⟩ : ByteArray), (⟨#[49, 50, 48]⟩ : ByteArray), (⟨#[49, 48, 48, 48, 48, 48, 48]⟩ : ByteArray), (⟨#[49, 48, 48, 48, 48, 48, 49]⟩ : ByteArray), (⟨#[45, 49]⟩ : ByteArray), (⟨#[49, 120]⟩ : ByteArray), (⟨#[57, 57, 57, 57, 57, 57, 57, 57]⟩ : ByteArray)] : List ByteArray)) := ⟨_, rfl⟩
 replace H : ((spec_l1Pick.f t1523 t1524 t1525 y1527).bind fun bt1530 => (some bt1530.1)) = some r := by first | (rw [hy1527]; with_reducible exact H) | (have H2_ := (Option.bind_some _ _).symm.trans H; rw [hy1527]; with_reducible exact H2_) | (have H2_ := (Option.bind_some _ _).symm.trans H; with_reducible exact H2_) | with_reducible exact H | (rw [hy1527]; exact H) | exact H
 have Ny1527 := am hy1527
 clear hy1527
 replace H := ob H
 obtain ⟨⟨t1530, t1531, t1532⟩, A30, H⟩ := H
 replace H : (some t1530) = some r := H
 have A3 := am A30
 clear A30
 obtain rfl := Option.some.inj H
 go_enter Tryd.func81, Tryd.ntmps81
 go_wp2_with (first | ((with_reducible refine gate_callee (f := 108) rfl ?_); refine goesL_ (some 4) rfl rfl Tryd.func108 (by kernel_rfl) rfl #[.slice A0 l0.length c0] rfl ma ?_; (with_reducible refine (spec_l1New.calls k _ _ l0 t1523 t1524 t1525 w _ ?side1 ?side2 ?side3 A2.out).mono ?_); (case side1 => repeat (first | (with_reducible first | exact HB.out | apply below_alloc | apply pw_below_drewN | apply below_drew1) | exact HB.out)); (case side2 => exact HR0.out); (case side3 => exact HC0.out); rintro e w4 ⟨g1526, rfl, hi, hb, hb2⟩; refine ⟨_, rfl, ?_⟩; replace HB := am (hb); have HI1526 := am (hi); (try clear hb); (try clear hb2); (try clear hk); (try clear hi)) | ((with_reducible refine gate_dst (N := 5) rfl ?_); refine Kd.R_lit Kd.string _ 9 ?hg (N := 5) ?hd (xs := ([(⟨#[]⟩ : ByteArray), (⟨#[48]⟩ : ByteArray), (⟨#[55]⟩ : ByteArray), (⟨#[48, 55]⟩ : ByteArray), (⟨#[49, 50, 48]⟩ : ByteArray), (⟨#[49, 48, 48, 48, 48, 48, 48]⟩ : ByteArray), (⟨#[49, 48, 48, 48, 48, 48, 49]⟩ : ByteArray), (⟨#[45, 49]⟩ : ByteArray), (⟨#[49, 120]⟩ : ByteArray), (⟨#[57, 57, 57, 57, 57, 57, 57, 57]⟩ : ByteArray)] : List ByteArray)) (inner := [.string (⟨#[]⟩ : ByteArray), .string (⟨#[48]⟩ : ByteArray), .string (⟨#[55]⟩ : ByteArray), .string (⟨#[48, 55]⟩ : ByteArray), .string (⟨#[49, 50, 48]⟩ : ByteArray), .string (⟨#[49, 48, 48, 48, 48, 48, 48]⟩ : ByteArray), .string (⟨#[49, 48, 48, 48, 48, 48, 49]⟩ : ByteArray), .string (⟨#[45, 49]⟩ : ByteArray), .string (⟨#[49, 120]⟩ : ByteArray), .string (⟨#[57, 57, 57, 57, 57, 57, 57, 57]⟩ : ByteArray)]) (ok := fun _ => True) (okp := fun _ => True) ?hr ?hp (fun _ hk => hk) trivial (Below.refl _ _) (Nat.le_refl _) (by simp) ?_; (case hd => rfl); (case hg => rfl); (case hr => first | (go_simp; done) | (go_simp; rfl)); (case hp => exact (Reps.one (show Kd.M Kd.string _ _ _ (⟨#[]⟩ : ByteArray) [.string (⟨#[]⟩ : ByteArray)] from rfl) (Reps.one (show Kd.M Kd.string _ _ _ (⟨#[48]⟩ : ByteArray) [.string (⟨#[48]⟩ : ByteArray)] from rfl) (Reps.one (show Kd.M Kd.string _ _ _ (⟨#[55]⟩ : ByteArray) [.string (⟨#[55]⟩ : ByteArray)] from rfl) (Reps.one (show Kd.M Kd.string _ _ _ (⟨#[48, 55]⟩ : ByteArray) [.string (⟨#[48, 55]⟩ : ByteArray)] from rfl) (Reps.one (show Kd.M Kd.string _ _ _ (⟨#[49, 50, 48]⟩ : ByteArray) [.string (⟨#[49, 50, 48]⟩ : ByteArray)] from rfl) (Reps.one (show Kd.M Kd.string _ _ _ (⟨#[49, 48, 48, 48, 48, 48, 48]⟩ : ByteArray) [.string (⟨#[49, 48, 48, 48, 48, 48, 48]⟩ : ByteArray)] from rfl) (Reps.one (show Kd.M Kd.string _ _ _ (⟨#[49, 48, 48, 48, 48, 48, 49]⟩ : ByteArray) [.string (⟨#[49, 48, 48, 48, 48, 48, 49]⟩ : ByteArray)] from rfl) (Reps.one (show Kd.M Kd.string _ _ _ (⟨#[45, 49]⟩ : ByteArray) [.string (⟨#[45, 49]⟩ : ByteArray)] from rfl) (Reps.one (show Kd.M Kd.string _ _ _ (⟨#[49, 120]⟩ : ByteArray) [.string (⟨#[49, 120]⟩ : ByteArray)] from rfl) (Reps.one (show Kd.M Kd.string _ _ _ (⟨#[57, 57, 57, 57, 57, 57, 57, 57]⟩ : ByteArray) [.string (⟨#[57, 57, 57, 57, 57, 57, 57, 57]⟩ : ByteArray)] from rfl) (Reps.none _ _)))))))))))); intro v1528 w5 ho6 hb hg_ hnew_; clear hg_ hnew_; (first | rw [← Ny1527.out] at ho6 | (simp only [Int.reduceToNat] at ho6; rw [← Ny1527.out] at ho6)); have HO1529 := am (Kd.R_lower ho6 (below_size (by repeat (first | (with_reducible first | exact HB.out | apply below_alloc | apply pw_below_drewN | apply below_drew1 | refine below_set ?_ (IsS161.ge HI1526.out)) | exact HB.out)))); replace HB := am (below_step (by repeat (first | (with_reducible first | exact HB.out | apply below_alloc | apply pw_below_drewN | apply below_drew1 | refine below_set ?_ (IsS161.ge HI1526.out)) | exact HB.out)) hb); replace HI1526 := am (IsS161.below (by repeat (first | (with_reducible first | exact HI1526.out | apply IsS161.alloc | apply IsS161.drewN | apply IsS161.drew | apply IsS161.set_1 | apply IsS161.set_2) | exact HI1526.out)) hb); clear hb ho6; obtain ⟨Ao7, co7, eo7⟩ := Kd.R_slice HO1529.out; subst eo7) | ((with_reducible refine gate_callee (f := 129) rfl ?_); refine goesL_ (some 6) rfl rfl Tryd.func129 (by kernel_rfl) rfl #[.pointer (some ⟨g1526, 0, none⟩), .slice Ao7 y1527.length co7] rfl ma ?_; (with_reducible refine (spec_l1Pick.calls g1526 t1523 t1524 t1525 _ _ y1527 t1530 t1531 t1532 w _ ?side1 ?side2 ?side3 ?side4 ?side5 A3.out).mono ?_); (case side1 => repeat (first | (with_reducible first | exact HI1526.out | apply IsS161.alloc | apply IsS161.drewN | apply IsS161.drew | apply IsS161.set_1 | apply IsS161.set_2) | exact HI1526.out)); (case side2 => repeat (first | (with_reducible first | exact HB.out | apply below_alloc | apply pw_below_drewN | apply below_drew1 | refine below_set ?_ (IsS161.ge HI1526.out)) | exact HB.out)); (case side3 => exact rc HO1529); (case side4 => exact (Kd.R_reads' HO1529.out).2.1); (case side5 => exact far_slice (IsS161.own_ne HI1526.out HO1529.out (by decide))); rintro e w8 ⟨rfl, hi, hb, hk⟩; refine ⟨_, rfl, ?_⟩; replace HO1529 := am (Kd.R_mono (Kd.R_keep (IsS161.apart (show IsS161 w _ g1526 t1523 t1524 t1525 from by repeat (first | (with_reducible first | exact HI1526.out | apply IsS161.alloc | apply IsS161.drewN | apply IsS161.drew | apply IsS161.set_1 | apply IsS161.set_2) | exact HI1526.out)) (ro HO1529) (by decide)) hk (fun _ h => h.2)) (fun _ h => h.1)); replace HB := am (hb); replace HI1526 := am (hi); (try clear hb); (try clear hb2); (try clear hk); (try clear hi)))
 go_ret
 exact ⟨rf, by repeat (first | (with_reducible first | exact HB.out | apply below_alloc | apply pw_below_drewN | apply below_drew1 | refine below_set ?_ (IsS161.ge HI1526.out)) | exact HB.out)⟩

/-! ### spec_DrawTrim: function 83 -/
def spec_DrawTrim.f (k : Nat) (l0 : List Int) : Option (ByteArray) := (spec_l1New.f k l0).bind fun bt1533 => ((spec_l1Pick.f bt1533.1 bt1533.2.1 bt1533.2.2 (([(⟨#[]⟩ : ByteArray), (⟨#[32]⟩ : ByteArray), (⟨#[32, 32]⟩ : ByteArray)] : List ByteArray))).bind fun bt1540 => ((spec_l1DrawText.f k bt1533.1 bt1540.2.1 bt1540.2.2).bind fun bt1543 => (if bt1540.1.size + bt1543.1.size ≤ 9223372036854775807 then ((spec_l1Pick.f bt1533.1 bt1543.2.1 bt1543.2.2 (([(⟨#[]⟩ : ByteArray), (⟨#[32]⟩ : ByteArray), (⟨#[32, 32, 32]⟩ : ByteArray)] : List ByteArray))).bind fun bt1549 => (if (bt1540.1 ++ bt1543.1).size + bt1549.1.size ≤ 9223372036854775807 then (some ((bt1540.1 ++ bt1543.1) ++ bt1549.1)) else (none))) else (none))))
theorem spec_DrawTrim.mono : ∀ a0 k, LeO (spec_DrawTrim.f k a0) (spec_DrawTrim.f (k + 1) a0) := by
 intro a0 k
 unfold spec_DrawTrim.f
 repeat' first
   | (with_reducible exact spec_l1DrawText.mono _ _ _ _)
   | (with_reducible exact spec_l1New.mono _ _)
   | (with_reducible exact LeO.refl _)
   | (with_reducible exact LeO.none _)
   | (with_reducible refine LeO.ite ?_ ?_)
   | (with_reducible refine LeO.bind ?_ (fun _ => ?_))
   | exact spec_l1DrawText.mono _ _ _ _
   | exact spec_l1New.mono _ _
   | exact LeO.none _
   | refine LeO.ite ?_ ?_
   | refine LeO.bind ?_ (fun _ => ?_)
set_option maxHeartbeats 8000000 in
set_option maxRecDepth 100000 in
theorem spec_DrawTrim.calls (k : Nat) (A0 : Option Addr) (c0 : Nat) (l0 : List Int) (r : ByteArray) (w : World) (hr0 : Kd.C (Kd.int .u8) w A0 l0.length l0) (hc0 : l0.length ≤ c0) (h : spec_DrawTrim.f k l0 = some r) :
  Calls Tryd.prog 83 #[.slice A0 l0.length c0] w fun e w' => e = .returned (.string r) ∧ Below w.heap.size w w' := by
 have HR0 := am hr0
 have HC0 := am hc0
 clear hr0 hc0
 have HB := am (Below.refl w.heap.size w)
 have H : ((spec_l1New.f k l0).bind fun bt1533 => ((spec_l1Pick.f bt1533.1 bt1533.2.1 bt1533.2.2 (([(⟨#[]⟩ : ByteArray), (⟨#[32]⟩ : ByteArray), (⟨#[32, 32]⟩ : ByteArray)] : List ByteArray))).bind fun bt1540 => ((spec_l1DrawText.f k bt1533.1 bt1540.2.1 bt1540.2.2).bind fun bt1543 => (if bt1540.1.size + bt1543.1.size ≤ 9223372036854775807 then ((spec_l1Pick.f bt1533.1 bt1543.2.1 bt1543.2.2 (([(⟨#[]⟩ : ByteArray), (⟨#[32]⟩ : ByteArray), (⟨#[32, 32, 32]⟩ : ByteArray)] : List ByteArray))).bind fun bt1549 => (if (bt1540.1 ++ bt1543.1).size + bt1549.1.size ≤ 9223372036854775807 then (some ((bt1540.1 ++ bt1543.1) ++ bt1549.1)) else (none))) else (none))))) = some r := h
 clear h
 replace H := ob H
 obtain ⟨⟨t1533, t1534, t1535⟩, A20, H⟩ := H
 replace H : ((spec_l1Pick.f t1533 t1534 t1535 (([(⟨#[]⟩ : ByteArray), (⟨#[32]⟩ : ByteArray), (⟨#[32, 32]⟩ : ByteArray)] : List ByteArray))).bind fun bt1540 => ((spec_l1DrawText.f k t1533 bt1540.2.1 bt1540.2.2).bind fun bt1543 => (if bt1540.1.size + bt1543.1.size ≤ 9223372036854775807 then ((spec_l1Pick.f t1533 bt1543.2.1 bt1543.2.2 (([(⟨#[]⟩ : ByteArray), (⟨#[32]⟩ : ByteArray), (⟨#[32, 32, 32]⟩ : ByteArray)] : List ByteArray))).bind fun bt1549 => (if (bt1540.1 ++ bt1543.1).size + bt1549.1.size ≤ 9223372036854775807 then (some ((bt1540.1 ++ bt1543.1) ++ bt1549.1)) else (none))) else (none)))) = some r := H
 have A2 := am A20
 clear A20
 obtain ⟨y1537, hy1537⟩ : ∃ y_ : List ByteArray, y_ = (([(⟨#[]⟩ : ByteArray), (⟨#[32]⟩ : ByteArray), (⟨#[32, 32]⟩ : ByteArray)] : List ByteArray)) := ⟨_, rfl⟩
 replace H : ((spec_l1Pick.f t1533 t1534 t1535 y1537).bind fun bt1540 => ((spec_l1DrawText.f k t1533 bt1540.2.1 bt1540.2.2).bind fun bt1543 => (if bt1540.1.size + bt1543.1.size ≤ 9223372036854775807 then ((spec_l1Pick.f t1533 bt1543.2.1 bt1543.2.2 (([(⟨#[]⟩ : ByteArray), (⟨#[32]⟩ : ByteArray), (⟨#[32, 32, 32]⟩ : ByteArray)] : List ByteArray))).bind fun bt1549 => (if (bt1540.1 ++ bt1543.1).size + bt1549.1.size ≤ 9223372036854775807 then (some ((bt1540.1 ++ bt1543.1) ++ bt1549.1)) else (none))) else (none)))) = some r := by first | (rw [hy1537]; with_reducible exact H) | (have H2_ := (Option.bind_some _ _).symm.trans H; rw [hy1537]; with_reducible exact H2_) | (have H2_ := (Option.bind_some _ _).symm.trans H; with_reducible exact H2_) | with_reducible exact H | (rw [hy1537]; exact H) | exact H
 have Ny1537 := am hy1537
 clear hy1537
 replace H := ob H
 obtain ⟨⟨t1540, t1541, t1542⟩, A30, H⟩ := H
 replace H : ((spec_l1DrawText.f k t1533 t1541 t1542).bind fun bt1543 => (if t1540.size + bt1543.1.size ≤ 9223372036854775807 then ((spec_l1Pick.f t1533 bt1543.2.1 bt1543.2.2 (([(⟨#[]⟩ : ByteArray), (⟨#[32]⟩ : ByteArray), (⟨#[32, 32, 32]⟩ : ByteArray)] : List ByteArray))).bind fun bt1549 => (if (t1540 ++ bt1543.1).size + bt1549.1.size ≤ 9223372036854775807 then (some ((t1540 ++ bt1543.1) ++ bt1549.1)) else (none))) else (none))) = some r := H
 have A3 := am A30
 clear A30
 replace H := ob H
 obtain ⟨⟨t1543, t1544, t1545⟩, A40, H⟩ := H
 replace H : (if t1540.size + t1543.size ≤ 9223372036854775807 then ((spec_l1Pick.f t1533 t1544 t1545 (([(⟨#[]⟩ : ByteArray), (⟨#[32]⟩ : ByteArray), (⟨#[32, 32, 32]⟩ : ByteArray)] : List ByteArray))).bind fun bt1549 => (if (t1540 ++ t1543).size + bt1549.1.size ≤ 9223372036854775807 then (some ((t1540 ++ t1543) ++ bt1549.1)) else (none))) else (none)) = some r := H
 have A4 := am A40
 clear A40
 by_cases c5 : t1540.size + t1543.size ≤ 9223372036854775807
 ·rw [if_pos c5] at H
  have c5b0 := eq_true c5
  have c5b1 : decide (t1540.size + t1543.size ≤ 9223372036854775807) = true := decide_eq_true c5
  try have c5b2 : (9223372036854775807 < t1540.size + t1543.size) = False := eq_false (Nat.not_lt.2 c5)
  obtain ⟨y1546, hy1546⟩ : ∃ y_ : List ByteArray, y_ = (([(⟨#[]⟩ : ByteArray), (⟨#[32]⟩ : ByteArray), (⟨#[32, 32, 32]⟩ : ByteArray)] : List ByteArray)) := ⟨_, rfl⟩
  replace H : ((spec_l1Pick.f t1533 t1544 t1545 y1546).bind fun bt1549 => (if (t1540 ++ t1543).size + bt1549.1.size ≤ 9223372036854775807 then (some ((t1540 ++ t1543) ++ bt1549.1)) else (none))) = some r := by first | (rw [hy1546]; with_reducible exact H) | (have H2_ := (Option.bind_some _ _).symm.trans H; rw [hy1546]; with_reducible exact H2_) | (have H2_ := (Option.bind_some _ _).symm.trans H; with_reducible exact H2_) | with_reducible exact H | (rw [hy1546]; exact H) | exact H
  have Ny1546 := am hy1546
  clear hy1546
  replace H := ob H
  obtain ⟨⟨t1549, t1550, t1551⟩, A60, H⟩ := H
  replace H : (if (t1540 ++ t1543).size + t1549.size ≤ 9223372036854775807 then (some ((t1540 ++ t1543) ++ t1549)) else (none)) = some r := H
  have A6 := am A60
  clear A60
  by_cases c7 : (t1540 ++ t1543).size + t1549.size ≤ 9223372036854775807
  ·rw [if_pos c7] at H
   have c7b0 := eq_true c7
   have c7b1 : decide ((t1540 ++ t1543).size + t1549.size ≤ 9223372036854775807) = true := decide_eq_true c7
   try have c7b2 : (9223372036854775807 < (t1540 ++ t1543).size + t1549.size) = False := eq_false (Nat.not_lt.2 c7)
   have c7b3 : (9223372036854775807 < (t1540).size + (t1543).size + (t1549).size) = False := eq_false (Nat.not_lt.2 (by have h_ := c7; simp only [ByteArray.size_append] at h_; first | exact h_ | (simp only [ByteArray.size_extract] at h_; rw [Nat.min_eq_left (by omega)] at h_; exact h_)))
   obtain rfl := Option.some.inj H
   go_enter Tryd.func83, Tryd.ntmps83
   go_wp2_with (first | ((with_reducible refine gate_callee (f := 108) rfl ?_); refine goesL_ (some 5) rfl rfl Tryd.func108 (by kernel_rfl) rfl #[.slice A0 l0.length c0] rfl ma ?_; (with_reducible refine (spec_l1New.calls k _ _ l0 t1533 t1534 t1535 w _ ?side1 ?side2 ?side3 A2.out).mono ?_); (case side1 => repeat (first | (with_reducible first | exact HB.out | apply below_alloc | apply pw_below_drewN | apply below_drew1) | exact HB.out)); (case side2 => exact HR0.out); (case side3 => exact HC0.out); rintro e w8 ⟨g1536, rfl, hi, hb, hb2⟩; refine ⟨_, rfl, ?_⟩; replace HB := am (hb); have HI1536 := am (hi); (try clear hb); (try clear hb2); (try clear hk); (try clear hi)) | ((with_reducible refine gate_dst (N := 7) rfl ?_); refine Kd.R_lit Kd.string _ 9 ?hg (N := 7) ?hd (xs := ([(⟨#[]⟩ : ByteArray), (⟨#[32]⟩ : ByteArray), (⟨#[32, 32]⟩ : ByteArray)] : List ByteArray)) (inner := [.string (⟨#[]⟩ : ByteArray), .string (⟨#[32]⟩ : ByteArray), .string (⟨#[32, 32]⟩ : ByteArray)]) (ok := fun _ => True) (okp := fun _ => True) ?hr ?hp (fun _ hk => hk) trivial (Below.refl _ _) (Nat.le_refl _) (by simp) ?_; (case hd => rfl); (case hg => rfl); (case hr => first | (go_simp; done) | (go_simp; rfl)); (case hp => exact (Reps.one (show Kd.M Kd.string _ _ _ (⟨#[]⟩ : ByteArray) [.string (⟨#[]⟩ : ByteArray)] from rfl) (Reps.one (show Kd.M Kd.string _ _ _ (⟨#[32]⟩ : ByteArray) [.string (⟨#[32]⟩ : ByteArray)] from rfl) (Reps.one (show Kd.M Kd.string _ _ _ (⟨#[32, 32]⟩ : ByteArray) [.string (⟨#[32, 32]⟩ : ByteArray)] from rfl) (Reps.none _ _))))); intro v1538 w9 ho10 hb hg_ hnew_; clear hg_ hnew_; (first | rw [← Ny1537.out] at ho10 | (simp only [Int.reduceToNat] at ho10; rw [← Ny1537.out] at ho10)); have HO1539 := am (Kd.R_lower ho10 (below_size (by repeat (first | (with_reducible first | exact HB.out | apply below_alloc | apply pw_below_drewN | apply below_drew1 | refine below_set ?_ (IsS161.ge HI1536.out)) | exact HB.out)))); replace HB := am (below_step (by repeat (first | (with_reducible first | exact HB.out | apply below_alloc | apply pw_below_drewN | apply below_drew1 | refine below_set ?_ (IsS161.ge HI1536.out)) | exact HB.out)) hb); replace HI1536 := am (IsS161.below (by repeat (first | (with_reducible first | exact HI1536.out | apply IsS161.alloc | apply IsS161.drewN | apply IsS161.drew | apply IsS161.set_1 | apply IsS161.set_2) | exact HI1536.out)) hb); clear hb ho10; obtain ⟨Ao11, co11, eo11⟩ := Kd.R_slice HO1539.out; subst eo11) | ((with_reducible refine gate_callee (f := 129) rfl ?_); refine goesL_ (some 8) rfl rfl Tryd.func129 (by kernel_rfl) rfl #[.pointer (some ⟨g1536, 0, none⟩), .slice Ao11 y1537.length co11] rfl ma ?_; (with_reducible refine (spec_l1Pick.calls g1536 t1533 t1534 t1535 _ _ y1537 t1540 t1541 t1542 w _ ?side1 ?side2 ?side3 ?side4 ?side5 A3.out).mono ?_); (case side1 => repeat (first | (with_reducible first | exact HI1536.out | apply IsS161.alloc | apply IsS161.drewN | apply IsS161.drew | apply IsS161.set_1 | apply IsS161.set_2) | exact HI1536.out)); (case side2 => repeat (first | (with_reducible first | exact HB.out | apply below_alloc | apply pw_below_drewN | apply below_drew1 | refine below_set ?_ (IsS161.ge HI1536.out)) | exact HB.out)); (case side3 => exact rc HO1539); (case side4 => exact (Kd.R_reads' HO1539.out).2.1); (case side5 => exact far_slice (IsS161.own_ne HI1536.out HO1539.out (by decide))); rintro e w12 ⟨rfl, hi, hb, hk⟩; refine ⟨_, rfl, ?_⟩; replace HO1539 := am (Kd.R_mono (Kd.R_keep (IsS161.apart (show IsS161 w _ g1536 t1533 t1534 t1535 from by repeat (first | (with_reducible first | exact HI1536.out | apply IsS161.alloc | apply IsS161.drewN | apply IsS161.drew | apply IsS161.set_1 | apply IsS161.set_2) | exact HI1536.out)) (ro HO1539) (by decide)) hk (fun _ h => h.2)) (fun _ h => h.1)); replace HB := am (hb); replace HI1536 := am (hi); (try clear hb); (try clear hb2); (try clear hk); (try clear hi)) | ((with_reducible refine gate_callee (f := 157) rfl ?_); refine goesL_ (some 10) rfl rfl Tryd.func157 (by kernel_rfl) rfl #[.pointer (some ⟨g1536, 0, none⟩)] rfl ma ?_; (with_reducible refine (spec_l1DrawText.calls k g1536 t1533 t1541 t1542 t1543 t1544 t1545 w _ ?side1 ?side2 A4.out).mono ?_); (case side1 => repeat (first | (with_reducible first | exact HI1536.out | apply IsS161.alloc | apply IsS161.drewN | apply IsS161.drew | apply IsS161.set_1 | apply IsS161.set_2) | exact HI1536.out)); (case side2 => repeat (first | (with_reducible first | exact HB.out | apply below_alloc | apply pw_below_drewN | apply below_drew1 | refine below_set ?_ (IsS161.ge HI1536.out)) | exact HB.out)); rintro e w13 ⟨rfl, hi, hb, hk⟩; refine ⟨_, rfl, ?_⟩; replace HO1539 := am (Kd.R_mono (Kd.R_keep (IsS161.apart (show IsS161 w _ g1536 t1533 t1541 t1542 from by repeat (first | (with_reducible first | exact HI1536.out | apply IsS161.alloc | apply IsS161.drewN | apply IsS161.drew | apply IsS161.set_1 | apply IsS161.set_2) | exact HI1536.out)) (ro HO1539) (by decide)) hk (fun _ h => h.2)) (fun _ h => h.1)); replace HB := am (hb); replace HI1536 := am (hi); (try clear hb); (try clear hb2); (try clear hk); (try clear hi)) | ((with_reducible refine gate_dst (N := 13) rfl ?_); refine Kd.R_lit Kd.string _ 9 ?hg (N := 13) ?hd (xs := ([(⟨#[]⟩ : ByteArray), (⟨#[32]⟩ : ByteArray), (⟨#[32, 32, 32]⟩ : ByteArray)] : List ByteArray)) (inner := [.string (⟨#[]⟩ : ByteArray), .string (⟨#[32]⟩ : ByteArray), .string (⟨#[32, 32, 32]⟩ : ByteArray)]) (ok := fun _ => True) (okp := fun _ => True) ?hr ?hp (fun _ hk => hk) trivial (Below.refl _ _) (Nat.le_refl _) (by simp) ?_; (case hd => rfl); (case hg => rfl); (case hr => first | (go_simp; done) | (go_simp; rfl)); (case hp => exact (Reps.one (show Kd.M Kd.string _ _ _ (⟨#[]⟩ : ByteArray) [.string (⟨#[]⟩ : ByteArray)] from rfl) (Reps.one (show Kd.M Kd.string _ _ _ (⟨#[32]⟩ : ByteArray) [.string (⟨#[32]⟩ : ByteArray)] from rfl) (Reps.one (show Kd.M Kd.string _ _ _ (⟨#[32, 32, 32]⟩ : ByteArray) [.string (⟨#[32, 32, 32]⟩ : ByteArray)] from rfl) (Reps.none _ _))))); intro v1547 w14 ho15 hb hg_ hnew_; clear hg_ hnew_; (first | rw [← Ny1546.out] at ho15 | (simp only [Int.reduceToNat] at ho15; rw [← Ny1546.out] at ho15)); have HO1548 := am (Kd.R_lower (Kd.R_new' ho15 (Kd.R_lt (ro HO1539))) (below_size (by repeat (first | (with_reducible first | exact HB.out | apply below_alloc | apply pw_below_drewN | apply below_drew1 | refine below_set ?_ (IsS161.ge HI1536.out)) | exact HB.out)))); replace HO1539 := am (Kd.R_elder' (ro HO1539) (Kd.R_base ho15) hb); replace HB := am (below_step (by repeat (first | (with_reducible first | exact HB.out | apply below_alloc | apply pw_below_drewN | apply below_drew1 | refine below_set ?_ (IsS161.ge HI1536.out)) | exact HB.out)) hb); replace HI1536 := am (IsS161.below (by repeat (first | (with_reducible first | exact HI1536.out | apply IsS161.alloc | apply IsS161.drewN | apply IsS161.drew | apply IsS161.set_1 | apply IsS161.set_2) | exact HI1536.out)) hb); clear hb ho15; obtain ⟨Ao16, co16, eo16⟩ := Kd.R_slice HO1548.out; subst eo16) | ((with_reducible refine gate_callee (f := 129) rfl ?_); refine goesL_ (some 14) rfl rfl Tryd.func129 (by kernel_rfl) rfl #[.pointer (some ⟨g1536, 0, none⟩), .slice Ao16 y1546.length co16] rfl ma ?_; (with_reducible refine (spec_l1Pick.calls g1536 t1533 t1544 t1545 _ _ y1546 t1549 t1550 t1551 w _ ?side1 ?side2 ?side3 ?side4 ?side5 A6.out).mono ?_); (case side1 => repeat (first | (with_reducible first | exact HI1536.out | apply IsS161.alloc | apply IsS161.drewN | apply IsS161.drew | apply IsS161.set_1 | apply IsS161.set_2) | exact HI1536.out)); (case side2 => repeat (first | (with_reducible first | exact HB.out | apply below_alloc | apply pw_below_drewN | apply below_drew1 | refine below_set ?_ (IsS161.ge HI1536.out)) | exact HB.out)); (case side3 => exact rc HO1548); (case side4 => exact (Kd.R_reads' HO1548.out).2.1); (case side5 => exact far_slice (IsS161.own_ne HI1536.out HO1548.out (by decide))); rintro e w17 ⟨rfl, hi, hb, hk⟩; refine ⟨_, rfl, ?_⟩; replace HO1539 := am (Kd.R_mono (Kd.R_keep (IsS161.apart (show IsS161 w _ g1536 t1533 t1544 t1545 from by repeat (first | (with_reducible first | exact HI1536.out | apply IsS161.alloc | apply IsS161.drewN | apply IsS161.drew | apply IsS161.set_1 | apply IsS161.set_2) | exact HI1536.out)) (ro HO1539) (by decide)) hk (fun _ h => h.2)) (fun _ h => h.1)); replace HO1548 := am (Kd.R_mono (Kd.R_keep (IsS161.apart (show IsS161 w _ g1536 t1533 t1544 t1545 from by repeat (first | (with_reducible first | exact HI1536.out | apply IsS161.alloc | apply IsS161.drewN | apply IsS161.drew | apply IsS161.set_1 | apply IsS161.set_2) | exact HI1536.out)) (ro HO1548) (by decide)) hk (fun _ h => h.2)) (fun _ h => h.1)); replace HB := am (hb); replace HI1536 := am (hi); (try clear hb); (try clear hb2); (try clear hk); (try clear hi)))
   go_ret
   exact ⟨rf, by repeat (first | (with_reducible first | exact HB.out | apply below_alloc | apply pw_below_drewN | apply below_drew1 | refine below_set ?_ (IsS161.ge HI1536.out)) | exact HB.out)⟩
  ·rw [if_neg c7] at H
   exact absurd H (by simp)
 ·rw [if_neg c5] at H
  exact absurd H (by simp)

/-! ### spec_DrawSplit: function 86 -/
def spec_DrawSplit.f (k : Nat) (l0 : List Int) : Option (ByteArray) := (spec_l1New.f k l0).bind fun bt1552 => ((spec_l1DrawText.f k bt1552.1 bt1552.2.1 bt1552.2.2).bind fun bt1556 => (some bt1556.1))
theorem spec_DrawSplit.mono : ∀ a0 k, LeO (spec_DrawSplit.f k a0) (spec_DrawSplit.f (k + 1) a0) := by
 intro a0 k
 unfold spec_DrawSplit.f
 repeat' first
   | (with_reducible exact spec_l1DrawText.mono _ _ _ _)
   | (with_reducible exact spec_l1New.mono _ _)
   | (with_reducible exact LeO.refl _)
   | (with_reducible exact LeO.none _)
   | (with_reducible refine LeO.ite ?_ ?_)
   | (with_reducible refine LeO.bind ?_ (fun _ => ?_))
   | exact spec_l1DrawText.mono _ _ _ _
   | exact spec_l1New.mono _ _
   | exact LeO.none _
   | refine LeO.ite ?_ ?_
   | refine LeO.bind ?_ (fun _ => ?_)
set_option maxHeartbeats 8000000 in
set_option maxRecDepth 100000 in
theorem spec_DrawSplit.calls (k : Nat) (A0 : Option Addr) (c0 : Nat) (l0 : List Int) (r : ByteArray) (w : World) (hr0 : Kd.C (Kd.int .u8) w A0 l0.length l0) (hc0 : l0.length ≤ c0) (h : spec_DrawSplit.f k l0 = some r) :
  Calls Tryd.prog 86 #[.slice A0 l0.length c0] w fun e w' => e = .returned (.string r) ∧ Below w.heap.size w w' := by
 have HR0 := am hr0
 have HC0 := am hc0
 clear hr0 hc0
 have HB := am (Below.refl w.heap.size w)
 have H : ((spec_l1New.f k l0).bind fun bt1552 => ((spec_l1DrawText.f k bt1552.1 bt1552.2.1 bt1552.2.2).bind fun bt1556 => (some bt1556.1))) = some r := h
 clear h
 replace H := ob H
 obtain ⟨⟨t1552, t1553, t1554⟩, A20, H⟩ := H
 replace H : ((spec_l1DrawText.f k t1552 t1553 t1554).bind fun bt1556 => (some bt1556.1)) = some r := H
 have A2 := am A20
 clear A20
 replace H := ob H
 obtain ⟨⟨t1556, t1557, t1558⟩, A30, H⟩ := H
 replace H : (some t1556) = some r := H
 have A3 := am A30
 clear A30
 obtain rfl := Option.some.inj H
 go_enter Tryd.func86, Tryd.ntmps86
 go_wp2_with (first | ((with_reducible refine gate_callee (f := 108) rfl ?_); refine goesL_ (some 4) rfl rfl Tryd.func108 (by kernel_rfl) rfl #[.slice A0 l0.length c0] rfl ma ?_; (with_reducible refine (spec_l1New.calls k _ _ l0 t1552 t1553 t1554 w _ ?side1 ?side2 ?side3 A2.out).mono ?_); (case side1 => repeat (first | (with_reducible first | exact HB.out | apply below_alloc | apply pw_below_drewN | apply below_drew1) | exact HB.out)); (case side2 => exact HR0.out); (case side3 => exact HC0.out); rintro e w4 ⟨g1555, rfl, hi, hb, hb2⟩; refine ⟨_, rfl, ?_⟩; replace HB := am (hb); have HI1555 := am (hi); (try clear hb); (try clear hb2); (try clear hk); (try clear hi)) | ((with_reducible refine gate_callee (f := 157) rfl ?_); refine goesL_ (some 5) rfl rfl Tryd.func157 (by kernel_rfl) rfl #[.pointer (some ⟨g1555, 0, none⟩)] rfl ma ?_; (with_reducible refine (spec_l1DrawText.calls k g1555 t1552 t1553 t1554 t1556 t1557 t1558 w _ ?side1 ?side2 A3.out).mono ?_); (case side1 => repeat (first | (with_reducible first | exact HI1555.out | apply IsS161.alloc | apply IsS161.drewN | apply IsS161.drew | apply IsS161.set_1 | apply IsS161.set_2) | exact HI1555.out)); (case side2 => repeat (first | (with_reducible first | exact HB.out | apply below_alloc | apply pw_below_drewN | apply below_drew1 | refine below_set ?_ (IsS161.ge HI1555.out)) | exact HB.out)); rintro e w5 ⟨rfl, hi, hb, hk⟩; refine ⟨_, rfl, ?_⟩; replace HB := am (hb); replace HI1555 := am (hi); (try clear hb); (try clear hb2); (try clear hk); (try clear hi)))
 go_ret
 exact ⟨rf, by repeat (first | (with_reducible first | exact HB.out | apply below_alloc | apply pw_below_drewN | apply below_drew1 | refine below_set ?_ (IsS161.ge HI1555.out)) | exact HB.out)⟩

end Go.Proofs.YtiinmfjbildclaaDoor.All
