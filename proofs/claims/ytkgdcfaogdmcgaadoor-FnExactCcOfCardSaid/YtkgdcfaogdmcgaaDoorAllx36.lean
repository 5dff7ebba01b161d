-- Written by a program of this session (wip/tools/hprint.py) out of the translation. Lean checks it.
import Derived.Test.YtkgdcfaogdmcgaaDoorAllx0
import Derived.Test.YtkgdcfaogdmcgaaDoorAllx3
import Derived.Test.YtkgdcfaogdmcgaaDoorAllx20
import Derived.Test.YtkgdcfaogdmcgaaDoorAllx21
import Derived.Test.YtkgdcfaogdmcgaaDoorAllx28
import Derived.Test.YtkgdcfaogdmcgaaDoorAllx35
namespace Go.Proofs.YtkgdcfaogdmcgaaDoor.All
open Go.RowKit Go.Proofs.YtkgdcfaogdmcgaaDoorW.PrintWords Go.Proofs.YtkgdcfaogdmcgaaDoorW.PrintLast Go.Proofs.YtkgdcfaogdmcgaaDoorW.PrintMore
attribute [local go_sem] max2_int min2_int max_two min_two max_three min_three max_four min_four   -- for this text's walks alone
set_option linter.unusedVariables false
set_option linter.unusedSimpArgs false

/-! ### impl_Cc_word: function 135 -/
def impl_Cc_word.j0 : Nat → ByteArray → Bool → Bool → Bool → Bool → Bool → Int → Option (Bool × Bool × Bool × Bool × Bool × Int)
 | 0, _, _, _, _, _, _, _ => none
 | k + 1, x1, x1000, x1001, x1002, x1003, x1004, x1005 => (strings_CutPrefix.f x1 (⟨#[109, 97, 120, 45, 97, 103, 101, 61]⟩ : ByteArray)).bind fun bt1209 => (if bt1209.2 = true then ((impl_NumRead.f bt1209.1).bind fun bt1211 => (if x1004 = true then (some (x1000, x1001, x1002, x1003, true, mn bt1211.1 x1005)) else (some (x1000, x1001, x1002, x1003, true, bt1211.1)))) else (some (x1000, x1001, x1002, x1003, x1004, x1005)))
def impl_Cc_word.f (k : Nat) (s0_0 : Bool) (s0_1 : Bool) (s0_2 : Bool) (s0_3 : Bool) (s0_4 : Bool) (s0_5 : Int) (a1 : ByteArray) : Option (Bool × Bool × Bool × Bool × Bool × Int) := if a1.toList = ([110, 111, 45, 115, 116, 111, 114, 101] : List UInt8) then (impl_Cc_word.j0 k a1 true s0_1 s0_2 s0_3 s0_4 s0_5) else (if a1.toList = ([110, 111, 45, 99, 97, 99, 104, 101] : List UInt8) then (impl_Cc_word.j0 k a1 s0_0 true s0_2 s0_3 s0_4 s0_5) else (if a1.toList = ([112, 114, 105, 118, 97, 116, 101] : List UInt8) then (impl_Cc_word.j0 k a1 s0_0 s0_1 true s0_3 s0_4 s0_5) else (if a1.toList = ([109, 117, 115, 116, 45, 114, 101, 118, 97, 108, 105, 100, 97, 116, 101] : List UInt8) then (impl_Cc_word.j0 k a1 s0_0 s0_1 s0_2 true s0_4 s0_5) else (impl_Cc_word.j0 k a1 s0_0 s0_1 s0_2 s0_3 s0_4 s0_5))))
theorem impl_Cc_word.mono_l : ∀ k, (∀ y0 y1 y2 y3 y4 y5 y6, LeO (impl_Cc_word.j0 k y0 y1 y2 y3 y4 y5 y6) (impl_Cc_word.j0 (k + 1) y0 y1 y2 y3 y4 y5 y6))
 | 0 => fun _ _ _ _ _ _ _ r h => by simp [impl_Cc_word.j0] at h
 | k + 1 => by
  have ih0 := impl_Cc_word.mono_l k
  ·intro y0 y1 y2 y3 y4 y5 y6
   unfold impl_Cc_word.j0
   exact mo
theorem impl_Cc_word.mono : ∀ a0 a1 a2 a3 a4 a5 a6 k, LeO (impl_Cc_word.f k a0 a1 a2 a3 a4 a5 a6) (impl_Cc_word.f (k + 1) a0 a1 a2 a3 a4 a5 a6) := by
 intro a0 a1 a2 a3 a4 a5 a6 k
 have ih0 := impl_Cc_word.mono_l k
 unfold impl_Cc_word.f
 exact mo
set_option maxHeartbeats 8000000 in
set_option maxRecDepth 100000 in
theorem impl_Cc_word.calls (k : Nat) (g : Nat) (s0_0 : Bool) (s0_1 : Bool) (s0_2 : Bool) (s0_3 : Bool) (s0_4 : Bool) (s0_5 : Int) (a1 : ByteArray) (r1 : Bool) (r2 : Bool) (r3 : Bool) (r4 : Bool) (r5 : Bool) (r6 : Int) (w0 w : World) (hGE : GLOBE w0) (hGT : GLOBT w0) (hI : IsS72 w0 w g s0_0 s0_1 s0_2 s0_3 s0_4 s0_5) (hB : Below w0.heap.size w0 w) (h : impl_Cc_word.f k s0_0 s0_1 s0_2 s0_3 s0_4 s0_5 a1 = some (r1, r2, r3, r4, r5, r6)) :
  Calls Tryd.prog 135 #[.pointer (some ⟨g, 0, none⟩), .string a1] w fun e w' => e = .returned (.tuple #[]) ∧ IsS72 w0 w' g r1 r2 r3 r4 r5 r6 ∧ Below w0.heap.size w0 w' ∧ KeepBut w w' g none := by
 have HGE := am hGE
 clear hGE
 have HGT := am hGT
 clear hGT
 have HI0 := am hI
 have HK := am (KeepBut.refl w g none)
 have HL := am hB.size
 clear hI
 have HW0 := am hB.size
 have HB := am hB
 clear hB
 unfold impl_Cc_word.f at h
 have H := h
 clear h
 have HC3 := am H
 clear H
 go_enter Tryd.func135, Tryd.ntmps135
 go_upto_block 0 with (fail)
 go_cut [] (fun wc => ∃ (kq : Nat) (x1000_2 : Bool) (x1001_2 : Bool) (x1002_2 : Bool) (x1003_2 : Bool), Aside0 (impl_Cc_word.j0 kq a1 x1000_2 x1001_2 x1002_2 x1003_2 s0_4 s0_5 = some (r1, r2, r3, r4, r5, r6)) ∧ Aside0 (kq ≤ k) ∧ Aside0 (IsS72 w0 wc g x1000_2 x1001_2 x1002_2 x1003_2 s0_4 s0_5) ∧ Aside0 (KeepBut w wc g none) ∧ Aside0 (Below w0.heap.size w0 wc))
 case first =>
  have H := HC3.out
  clear HC3
  by_cases c4 : a1.toList = ([110, 111, 45, 115, 116, 111, 114, 101] : List UInt8)
  ·rw [if_pos c4] at H
   have c4b0 : (a1.toList == ([110, 111, 45, 115, 116, 111, 114, 101] : List UInt8)) = true := beq_iff_eq.mpr c4
   have c4b1 : (a1.toList != ([110, 111, 45, 115, 116, 111, 114, 101] : List UInt8)) = false := bne_eq_false_iff_eq.mpr c4
   clear c4
   (first | rw [c4b0] | (simp only [i64_w, i32_w]; rw [c4b0]) | skip)
   have H' := am H
   clear H
   obtain ⟨HGz5, hgz5⟩ := HI0.out
   have z5_0 := cellS72_0 HGz5
   have z5_1 := cellS72_1 HGz5
   have z5_2 := cellS72_2 HGz5
   have z5_3 := cellS72_3 HGz5
   have z5_4 := cellS72_4 HGz5
   have z5_5 := cellS72_5 HGz5
   have y5_0 := blk_frozen HGz5 0
   have y5_1 := blk_frozen HGz5 1
   have y5_2 := blk_frozen HGz5 2
   have y5_3 := blk_frozen HGz5 3
   have y5_4 := blk_frozen HGz5 4
   have y5_5 := blk_frozen HGz5 5
   clear HGz5 hgz5
   go_wp2
   go_meet
   case rel => exact ⟨_, (true), (s0_1), (s0_2), (s0_3), H', ⟨by first | omega | exact Nat.le_refl _⟩, ⟨by repeat (first | (with_reducible first | exact HI0.out | apply IsS72.alloc | apply IsS72.drewN | apply IsS72.drew | apply IsS72.set_0 | apply IsS72.set_1 | apply IsS72.set_2 | apply IsS72.set_3 | apply IsS72.set_4 | apply IsS72.set_5) | exact HI0.out)⟩, ⟨by repeat (first | (with_reducible first | exact HK.out | apply KeepBut.set_ | apply keep_drewN | apply keep_drew | apply keep_alloc) | exact HK.out)⟩, ⟨by repeat (first | (with_reducible first | exact HB.out | apply below_alloc | apply pw_below_drewN | apply below_drew1 | refine below_set ?_ (IsS72.ge HI0.out)) | exact HB.out)⟩⟩
  rw [if_neg c4] at H
  have c4b0 : (a1.toList == ([110, 111, 45, 115, 116, 111, 114, 101] : List UInt8)) = false := beq_eq_false_iff_ne.mpr c4
  have c4b1 : (a1.toList != ([110, 111, 45, 115, 116, 111, 114, 101] : List UInt8)) = true := bne_iff_ne.mpr c4
  (first | rw [c4b0] | (simp only [i64_w, i32_w]; rw [c4b0]) | skip)
  by_cases c6 : a1.toList = ([110, 111, 45, 99, 97, 99, 104, 101] : List UInt8)
  ·rw [if_pos c6] at H
   have c6b0 : (a1.toList == ([110, 111, 45, 99, 97, 99, 104, 101] : List UInt8)) = true := beq_iff_eq.mpr c6
   have c6b1 : (a1.toList != ([110, 111, 45, 99, 97, 99, 104, 101] : List UInt8)) = false := bne_eq_false_iff_eq.mpr c6
   clear c6
   have H' := am H
   clear H
   obtain ⟨HGz7, hgz7⟩ := HI0.out
   have z7_0 := cellS72_0 HGz7
   have z7_1 := cellS72_1 HGz7
   have z7_2 := cellS72_2 HGz7
   have z7_3 := cellS72_3 HGz7
   have z7_4 := cellS72_4 HGz7
   have z7_5 := cellS72_5 HGz7
   have y7_0 := blk_frozen HGz7 0
   have y7_1 := blk_frozen HGz7 1
   have y7_2 := blk_frozen HGz7 2
   have y7_3 := blk_frozen HGz7 3
   have y7_4 := blk_frozen HGz7 4
   have y7_5 := blk_frozen HGz7 5
   clear HGz7 hgz7
   go_wp2
   go_meet
   case rel => exact ⟨_, (s0_0), (true), (s0_2), (s0_3), H', ⟨by first | omega | exact Nat.le_refl _⟩, ⟨by repeat (first | (with_reducible first | exact HI0.out | apply IsS72.alloc | apply IsS72.drewN | apply IsS72.drew | apply IsS72.set_0 | apply IsS72.set_1 | apply IsS72.set_2 | apply IsS72.set_3 | apply IsS72.set_4 | apply IsS72.set_5) | exact HI0.out)⟩, ⟨by repeat (first | (with_reducible first | exact HK.out | apply KeepBut.set_ | apply keep_drewN | apply keep_drew | apply keep_alloc) | exact HK.out)⟩, ⟨by repeat (first | (with_reducible first | exact HB.out | apply below_alloc | apply pw_below_drewN | apply below_drew1 | refine below_set ?_ (IsS72.ge HI0.out)) | exact HB.out)⟩⟩
  rw [if_neg c6] at H
  have c6b0 : (a1.toList == ([110, 111, 45, 99, 97, 99, 104, 101] : List UInt8)) = false := beq_eq_false_iff_ne.mpr c6
  have c6b1 : (a1.toList != ([110, 111, 45, 99, 97, 99, 104, 101] : List UInt8)) = true := bne_iff_ne.mpr c6
  by_cases c8 : a1.toList = ([112, 114, 105, 118, 97, 116, 101] : List UInt8)
  ·rw [if_pos c8] at H
   have c8b0 : (a1.toList == ([112, 114, 105, 118, 97, 116, 101] : List UInt8)) = true := beq_iff_eq.mpr c8
   have c8b1 : (a1.toList != ([112, 114, 105, 118, 97, 116, 101] : List UInt8)) = false := bne_eq_false_iff_eq.mpr c8
   clear c8
   have H' := am H
   clear H
   obtain ⟨HGz9, hgz9⟩ := HI0.out
   have z9_0 := cellS72_0 HGz9
   have z9_1 := cellS72_1 HGz9
   have z9_2 := cellS72_2 HGz9
   have z9_3 := cellS72_3 HGz9
   have z9_4 := cellS72_4 HGz9
   have z9_5 := cellS72_5 HGz9
   have y9_0 := blk_frozen HGz9 0
   have y9_1 := blk_frozen HGz9 1
   have y9_2 := blk_frozen HGz9 2
   have y9_3 := blk_frozen HGz9 3
   have y9_4 := blk_frozen HGz9 4
   have y9_5 := blk_frozen HGz9 5
   clear HGz9 hgz9
   go_wp2
   go_meet
   case rel => exact ⟨_, (s0_0), (s0_1), (true), (s0_3), H', ⟨by first | omega | exact Nat.le_refl _⟩, ⟨by repeat (first | (with_reducible first | exact HI0.out | apply IsS72.alloc | apply IsS72.drewN | apply IsS72.drew | apply IsS72.set_0 | apply IsS72.set_1 | apply IsS72.set_2 | apply IsS72.set_3 | apply IsS72.set_4 | apply IsS72.set_5) | exact HI0.out)⟩, ⟨by repeat (first | (with_reducible first | exact HK.out | apply KeepBut.set_ | apply keep_drewN | apply keep_drew | apply keep_alloc) | exact HK.out)⟩, ⟨by repeat (first | (with_reducible first | exact HB.out | apply below_alloc | apply pw_below_drewN | apply below_drew1 | refine below_set ?_ (IsS72.ge HI0.out)) | exact HB.out)⟩⟩
  rw [if_neg c8] at H
  have c8b0 : (a1.toList == ([112, 114, 105, 118, 97, 116, 101] : List UInt8)) = false := beq_eq_false_iff_ne.mpr c8
  have c8b1 : (a1.toList != ([112, 114, 105, 118, 97, 116, 101] : List UInt8)) = true := bne_iff_ne.mpr c8
  by_cases c10 : a1.toList = ([109, 117, 115, 116, 45, 114, 101, 118, 97, 108, 105, 100, 97, 116, 101] : List UInt8)
  rotate_left
  ·rw [if_neg c10] at H
   have c10b0 : (a1.toList == ([109, 117, 115, 116, 45, 114, 101, 118, 97, 108, 105, 100, 97, 116, 101] : List UInt8)) = false := beq_eq_false_iff_ne.mpr c10
   have c10b1 : (a1.toList != ([109, 117, 115, 116, 45, 114, 101, 118, 97, 108, 105, 100, 97, 116, 101] : List UInt8)) = true := bne_iff_ne.mpr c10
   have H' := am H
   clear H
   go_wp2
   go_meet
   case rel => exact ⟨_, (s0_0), (s0_1), (s0_2), (s0_3), H', ⟨by first | omega | exact Nat.le_refl _⟩, ⟨by repeat (first | (with_reducible first | exact HI0.out | apply IsS72.alloc | apply IsS72.drewN | apply IsS72.drew | apply IsS72.set_0 | apply IsS72.set_1 | apply IsS72.set_2 | apply IsS72.set_3 | apply IsS72.set_4 | apply IsS72.set_5) | exact HI0.out)⟩, ⟨by repeat (first | (with_reducible first | exact HK.out | apply KeepBut.set_ | apply keep_drewN | apply keep_drew | apply keep_alloc) | exact HK.out)⟩, ⟨by repeat (first | (with_reducible first | exact HB.out | apply below_alloc | apply pw_below_drewN | apply below_drew1 | refine below_set ?_ (IsS72.ge HI0.out)) | exact HB.out)⟩⟩
  rw [if_pos c10] at H
  have c10b0 : (a1.toList == ([109, 117, 115, 116, 45, 114, 101, 118, 97, 108, 105, 100, 97, 116, 101] : List UInt8)) = true := beq_iff_eq.mpr c10
  have c10b1 : (a1.toList != ([109, 117, 115, 116, 45, 114, 101, 118, 97, 108, 105, 100, 97, 116, 101] : List UInt8)) = false := bne_eq_false_iff_eq.mpr c10
  clear c10
  have H' := am H
  clear H
  obtain ⟨HGz11, hgz11⟩ := HI0.out
  have z11_0 := cellS72_0 HGz11
  have z11_1 := cellS72_1 HGz11
  have z11_2 := cellS72_2 HGz11
  have z11_3 := cellS72_3 HGz11
  have z11_4 := cellS72_4 HGz11
  have z11_5 := cellS72_5 HGz11
  have y11_0 := blk_frozen HGz11 0
  have y11_1 := blk_frozen HGz11 1
  have y11_2 := blk_frozen HGz11 2
  have y11_3 := blk_frozen HGz11 3
  have y11_4 := blk_frozen HGz11 4
  have y11_5 := blk_frozen HGz11 5
  clear HGz11 hgz11
  go_wp2
  go_meet
  case rel => exact ⟨_, (s0_0), (s0_1), (s0_2), (true), H', ⟨by first | omega | exact Nat.le_refl _⟩, ⟨by repeat (first | (with_reducible first | exact HI0.out | apply IsS72.alloc | apply IsS72.drewN | apply IsS72.drew | apply IsS72.set_0 | apply IsS72.set_1 | apply IsS72.set_2 | apply IsS72.set_3 | apply IsS72.set_4 | apply IsS72.set_5) | exact HI0.out)⟩, ⟨by repeat (first | (with_reducible first | exact HK.out | apply KeepBut.set_ | apply keep_drewN | apply keep_drew | apply keep_alloc) | exact HK.out)⟩, ⟨by repeat (first | (with_reducible first | exact HB.out | apply below_alloc | apply pw_below_drewN | apply below_drew1 | refine below_set ?_ (IsS72.ge HI0.out)) | exact HB.out)⟩⟩
 case rest =>
  clear HC3
  try clear c1
  try clear p2
  try clear c4
  try clear c4b0
  try clear c4b1
  try clear c6
  try clear c6b0
  try clear c6b1
  try clear c8
  try clear c8b0
  try clear c8b1
  try clear c10
  try clear c10b0
  try clear c10b1
  try clear z11_0
  try clear z11_1
  try clear z11_2
  try clear z11_3
  try clear z11_4
  try clear z11_5
  try clear z5_0
  try clear z5_1
  try clear z5_2
  try clear z5_3
  try clear z5_4
  try clear z5_5
  try clear z7_0
  try clear z7_1
  try clear z7_2
  try clear z7_3
  try clear z7_4
  try clear z7_5
  try clear z9_0
  try clear z9_1
  try clear z9_2
  try clear z9_3
  try clear z9_4
  try clear z9_5
  try clear y11_0
  try clear y11_1
  try clear y11_2
  try clear y11_3
  try clear y11_4
  try clear y11_5
  try clear y5_0
  try clear y5_1
  try clear y5_2
  try clear y5_3
  try clear y5_4
  try clear y5_5
  try clear y7_0
  try clear y7_1
  try clear y7_2
  try clear y7_3
  try clear y7_4
  try clear y7_5
  try clear y9_0
  try clear y9_1
  try clear y9_2
  try clear y9_3
  try clear y9_4
  try clear y9_5
  obtain ⟨kq, x1000_2, x1001_2, x1002_2, x1003_2, HA, HJ2, HI0, HK, HB⟩ := hcut
  cases kq with
  | zero => exact absurd HA.out (by simp [impl_Cc_word.j0])
  | succ kj2 =>
   have H := HA.out
   clear HA
   simp only [impl_Cc_word.j0] at H
   revert H
   refine ok2 fun t1209 t1210 A12 H => ?_
   (try dsimp only at H)
   by_cases c13 : t1210 = true
   rotate_left
   ·replace c13 := Bool.eq_false_iff.mpr c13
    subst c13
    rw [if_neg (show ¬ (false = true) by decide)] at H
    simp only [Option.some.injEq, Prod.mk.injEq] at H
    obtain ⟨rfl, rfl, rfl, rfl, rfl, rfl⟩ := H
    go_wp2_with (first | (refine gl 31 Tryd.func151 #[.string a1, .string (⟨#[109, 97, 120, 45, 97, 103, 101, 61]⟩ : ByteArray)] ?_; (with_reducible refine (strings_CutPrefix.calls a1 (⟨#[109, 97, 120, 45, 97, 103, 101, 61]⟩ : ByteArray) t1209 false _ A12.out).mono ?_); rintro e w' ⟨rfl, ⟨nd, rfl⟩⟩; refine ⟨_, rfl, ?_⟩))
    first | go_end0 | ((try simp only [Exit.inBlock, Exit.then]); refine bodyPost_ret (results_none rfl _ _ _) rfl ?_)
    exact ⟨rf, by repeat (first | (with_reducible first | exact HI0.out | apply IsS72.alloc | apply IsS72.drewN | apply IsS72.drew | apply IsS72.set_0 | apply IsS72.set_1 | apply IsS72.set_2 | apply IsS72.set_3 | apply IsS72.set_4 | apply IsS72.set_5) | exact HI0.out), by repeat (first | (with_reducible first | exact HB.out | apply below_alloc | apply pw_below_drewN | apply below_drew1 | refine below_set ?_ (IsS72.ge HI0.out)) | exact HB.out), by repeat (first | (with_reducible first | exact HK.out | apply KeepBut.set_ | apply keep_drewN | apply keep_drew | apply keep_alloc) | exact HK.out)⟩
   subst c13
   rw [if_pos rfl] at H
   revert H
   refine ok2 fun t1211 t1212 A14 H => ?_
   (try dsimp only at H)
   by_cases c15 : s0_4 = true
   rotate_left
   ·replace c15 := Bool.eq_false_iff.mpr c15
    subst c15
    rw [if_neg (show ¬ (false = true) by decide)] at H
    simp only [Option.some.injEq, Prod.mk.injEq] at H
    obtain ⟨rfl, rfl, rfl, rfl, rfl, rfl⟩ := H
    go_wp2_with (first | (refine gl 31 Tryd.func151 #[.string a1, .string (⟨#[109, 97, 120, 45, 97, 103, 101, 61]⟩ : ByteArray)] ?_; (with_reducible refine (strings_CutPrefix.calls a1 (⟨#[109, 97, 120, 45, 97, 103, 101, 61]⟩ : ByteArray) t1209 true _ A12.out).mono ?_); rintro e w' ⟨rfl, ⟨nd, rfl⟩⟩; refine ⟨_, rfl, ?_⟩; (try (rw [drewN_self wc]; generalize hq_ : World.drewN wc _ = wc; have n0_ : Aside0 (IsS72 w0 wc g x1000_2 x1001_2 x1002_2 x1003_2 false s0_5) := ⟨by rw [← hq_]; exact (by repeat (first | (with_reducible first | exact HI0.out | apply IsS72.alloc | apply IsS72.drewN | apply IsS72.drew | apply IsS72.set_0 | apply IsS72.set_1 | apply IsS72.set_2 | apply IsS72.set_3 | apply IsS72.set_4 | apply IsS72.set_5) | exact HI0.out))⟩; have n1_ : Aside0 (KeepBut w wc g none) := ⟨by rw [← hq_]; exact (by repeat (first | (with_reducible first | exact HK.out | apply KeepBut.set_ | apply keep_drewN | apply keep_drew | apply keep_alloc) | exact HK.out))⟩; have n2_ : Aside0 (Below w0.heap.size w0 wc) := ⟨by rw [← hq_]; exact (by repeat (first | (with_reducible first | exact HB.out | apply below_alloc | apply pw_below_drewN | apply below_drew1 | refine below_set ?_ (IsS72.ge HI0.out)) | exact HB.out))⟩; clear HI0 HK HB hq_; have HI0 := n0_; have HK := n1_; have HB := n2_; clear n0_ n1_ n2_))) | (refine gl 38 Tryd.func152 #[.string t1209] ?_; (with_reducible refine (impl_NumRead.calls t1209 t1211 t1212 _ ?side1 ?side2 A14.out).mono ?_); (case side1 => exact GLOBE.below HGE.out (by repeat (first | (with_reducible first | exact HB.out | apply below_alloc | apply pw_below_drewN | apply below_drew1 | refine below_set ?_ (IsS72.ge HI0.out)) | exact HB.out))); (case side2 => exact GLOBT.below HGT.out (by repeat (first | (with_reducible first | exact HB.out | apply below_alloc | apply pw_below_drewN | apply below_drew1 | refine below_set ?_ (IsS72.ge HI0.out)) | exact HB.out))); rintro e w19 ⟨rfl, hb⟩; refine ⟨_, rfl, ?_⟩; replace HK := am (KeepBut.trans (by repeat (first | (with_reducible first | exact HK.out | apply KeepBut.set_ | apply keep_drewN | apply keep_drew | apply keep_alloc) | exact HK.out)) (KeepBut.of_below hb g none) (.inl rfl)); replace HB := am (below_step (by repeat (first | (with_reducible first | exact HB.out | apply below_alloc | apply pw_below_drewN | apply below_drew1 | refine below_set ?_ (IsS72.ge HI0.out)) | exact HB.out)) hb); replace HI0 := am (IsS72.below (by repeat (first | (with_reducible first | exact HI0.out | apply IsS72.alloc | apply IsS72.drewN | apply IsS72.drew | apply IsS72.set_0 | apply IsS72.set_1 | apply IsS72.set_2 | apply IsS72.set_3 | apply IsS72.set_4 | apply IsS72.set_5) | exact HI0.out)) hb); clear hb; obtain ⟨HGz20, hgz20⟩ := HI0.out; have z20_0 := cellS72_0 HGz20; have z20_1 := cellS72_1 HGz20; have z20_2 := cellS72_2 HGz20; have z20_3 := cellS72_3 HGz20; have z20_4 := cellS72_4 HGz20; have z20_5 := cellS72_5 HGz20; have y20_0 := blk_frozen HGz20 0; have y20_1 := blk_frozen HGz20 1; have y20_2 := blk_frozen HGz20 2; have y20_3 := blk_frozen HGz20 3; have y20_4 := blk_frozen HGz20 4; have y20_5 := blk_frozen HGz20 5; clear HGz20 hgz20))
    first | go_end0 | ((try simp only [Exit.inBlock, Exit.then]); refine bodyPost_ret (results_none rfl _ _ _) rfl ?_)
    exact ⟨rf, by repeat (first | (with_reducible first | exact HI0.out | apply IsS72.alloc | apply IsS72.drewN | apply IsS72.drew | apply IsS72.set_0 | apply IsS72.set_1 | apply IsS72.set_2 | apply IsS72.set_3 | apply IsS72.set_4 | apply IsS72.set_5) | exact HI0.out), by repeat (first | (with_reducible first | exact HB.out | apply below_alloc | apply pw_below_drewN | apply below_drew1 | refine below_set ?_ (IsS72.ge HI0.out)) | exact HB.out), by repeat (first | (with_reducible first | exact HK.out | apply KeepBut.set_ | apply keep_drewN | apply keep_drew | apply keep_alloc) | exact HK.out)⟩
   subst c15
   rw [if_pos rfl] at H
   obtain ⟨ji16, hji16⟩ : ∃ j_ : Int, (mn t1211 s0_5) = j_ := ⟨_, rfl⟩
   replace H : (some (x1000_2, x1001_2, x1002_2, x1003_2, true, ji16)) = some (r1, r2, r3, r4, r5, r6) := by first | (rw [hji16] at H; exact H) | (simp only [hji16] at H ⊢; exact H)
   (try rw [hji16] at A12)
   (try rw [hji16] at A14)
   have hji16_ : (if s0_5 < t1211 then s0_5 else t1211) = ji16 := hji16
   simp only [Option.some.injEq, Prod.mk.injEq] at H
   obtain ⟨rfl, rfl, rfl, rfl, rfl, rfl⟩ := H
   go_wp2_with (first | (refine gl 31 Tryd.func151 #[.string a1, .string (⟨#[109, 97, 120, 45, 97, 103, 101, 61]⟩ : ByteArray)] ?_; (with_reducible refine (strings_CutPrefix.calls a1 (⟨#[109, 97, 120, 45, 97, 103, 101, 61]⟩ : ByteArray) t1209 true _ A12.out).mono ?_); rintro e w' ⟨rfl, ⟨nd, rfl⟩⟩; refine ⟨_, rfl, ?_⟩; (try (rw [drewN_self wc]; generalize hq_ : World.drewN wc _ = wc; have n0_ : Aside0 (IsS72 w0 wc g x1000_2 x1001_2 x1002_2 x1003_2 true s0_5) := ⟨by rw [← hq_]; exact (by repeat (first | (with_reducible first | exact HI0.out | apply IsS72.alloc | apply IsS72.drewN | apply IsS72.drew | apply IsS72.set_0 | apply IsS72.set_1 | apply IsS72.set_2 | apply IsS72.set_3 | apply IsS72.set_4 | apply IsS72.set_5) | exact HI0.out))⟩; have n1_ : Aside0 (KeepBut w wc g none) := ⟨by rw [← hq_]; exact (by repeat (first | (with_reducible first | exact HK.out | apply KeepBut.set_ | apply keep_drewN | apply keep_drew | apply keep_alloc) | exact HK.out))⟩; have n2_ : Aside0 (Below w0.heap.size w0 wc) := ⟨by rw [← hq_]; exact (by repeat (first | (with_reducible first | exact HB.out | apply below_alloc | apply pw_below_drewN | apply below_drew1 | refine below_set ?_ (IsS72.ge HI0.out)) | exact HB.out))⟩; clear HI0 HK HB hq_; have HI0 := n0_; have HK := n1_; have HB := n2_; clear n0_ n1_ n2_))) | (refine gl 38 Tryd.func152 #[.string t1209] ?_; (with_reducible refine (impl_NumRead.calls t1209 t1211 t1212 _ ?side1 ?side2 A14.out).mono ?_); (case side1 => exact GLOBE.below HGE.out (by repeat (first | (with_reducible first | exact HB.out | apply below_alloc | apply pw_below_drewN | apply below_drew1 | refine below_set ?_ (IsS72.ge HI0.out)) | exact HB.out))); (case side2 => exact GLOBT.below HGT.out (by repeat (first | (with_reducible first | exact HB.out | apply below_alloc | apply pw_below_drewN | apply below_drew1 | refine below_set ?_ (IsS72.ge HI0.out)) | exact HB.out))); rintro e w17 ⟨rfl, hb⟩; refine ⟨_, rfl, ?_⟩; replace HK := am (KeepBut.trans (by repeat (first | (with_reducible first | exact HK.out | apply KeepBut.set_ | apply keep_drewN | apply keep_drew | apply keep_alloc) | exact HK.out)) (KeepBut.of_below hb g none) (.inl rfl)); replace HB := am (below_step (by repeat (first | (with_reducible first | exact HB.out | apply below_alloc | apply pw_below_drewN | apply below_drew1 | refine below_set ?_ (IsS72.ge HI0.out)) | exact HB.out)) hb); replace HI0 := am (IsS72.below (by repeat (first | (with_reducible first | exact HI0.out | apply IsS72.alloc | apply IsS72.drewN | apply IsS72.drew | apply IsS72.set_0 | apply IsS72.set_1 | apply IsS72.set_2 | apply IsS72.set_3 | apply IsS72.set_4 | apply IsS72.set_5) | exact HI0.out)) hb); clear hb; obtain ⟨HGz18, hgz18⟩ := HI0.out; have z18_0 := cellS72_0 HGz18; have z18_1 := cellS72_1 HGz18; have z18_2 := cellS72_2 HGz18; have z18_3 := cellS72_3 HGz18; have z18_4 := cellS72_4 HGz18; have z18_5 := cellS72_5 HGz18; have y18_0 := blk_frozen HGz18 0; have y18_1 := blk_frozen HGz18 1; have y18_2 := blk_frozen HGz18 2; have y18_3 := blk_frozen HGz18 3; have y18_4 := blk_frozen HGz18 4; have y18_5 := blk_frozen HGz18 5; clear HGz18 hgz18))
   first | go_end0 | ((try simp only [Exit.inBlock, Exit.then]); refine bodyPost_ret (results_none rfl _ _ _) rfl ?_)
   exact ⟨by first | rfl | (simp [errW_none, errW_some] <;> rfl) | (simp only [← hji16]; first | rfl | (simp [errW_none, errW_some] <;> rfl)) | (simp [*, errW_none, errW_some] <;> rfl), by repeat (first | (with_reducible first | exact HI0.out | apply IsS72.alloc | apply IsS72.drewN | apply IsS72.drew | apply IsS72.set_0 | apply IsS72.set_1 | apply IsS72.set_2 | apply IsS72.set_3 | apply IsS72.set_4 | apply IsS72.set_5) | exact HI0.out), by repeat (first | (with_reducible first | exact HB.out | apply below_alloc | apply pw_below_drewN | apply below_drew1 | refine below_set ?_ (IsS72.ge HI0.out)) | exact HB.out), by repeat (first | (with_reducible first | exact HK.out | apply KeepBut.set_ | apply keep_drewN | apply keep_drew | apply keep_alloc) | exact HK.out)⟩

/-! ### impl.CcRead: word behind word -/
def ccFold (k : Nat) : List ByteArray → Bool → Bool → Bool → Bool → Bool → Int → Option (Bool × Bool × Bool × Bool × Bool × Int)
 | [], f0, f1, f2, f3, f4, f5 => some (f0, f1, f2, f3, f4, f5)
 | x :: r, f0, f1, f2, f3, f4, f5 => (impl_Lower.f x).bind fun t => (impl_Cc_word.f k f0 f1 f2 f3 f4 f5 t).bind fun s => ccFold k r s.1 s.2.1 s.2.2.1 s.2.2.2.1 s.2.2.2.2.1 s.2.2.2.2.2
theorem ccFold.mono : ∀ xs f0 f1 f2 f3 f4 f5 k, LeO (ccFold k xs f0 f1 f2 f3 f4 f5) (ccFold (k + 1) xs f0 f1 f2 f3 f4 f5)
 | [], _, _, _, _, _, _, _ => LeO.refl _
 | x :: r, f0, f1, f2, f3, f4, f5, k => by
  rw [ccFold, ccFold]
  exact LeO.bind (LeO.refl _) (fun _ => LeO.bind (impl_Cc_word.mono _ _ _ _ _ _ _ _) (fun _ => ccFold.mono _ _ _ _ _ _ _ _))
def impl_CcRead.f (k : Nat) (a0 : ByteArray) : Option (Bool × Bool × Bool × Bool × Bool × Int) := (impl_Split.f k a0).bind fun xs => if xs.length ≤ 4294967296 then ccFold k xs false false false false false 0 else none
theorem impl_CcRead.mono : ∀ a0 k, LeO (impl_CcRead.f k a0) (impl_CcRead.f (k + 1) a0) := fun a0 k => by
 unfold impl_CcRead.f
 exact LeO.bind (impl_Split.mono _ _) (fun _ => LeO.ite (ccFold.mono _ _ _ _ _ _ _ _) (LeO.none _))
set_option maxHeartbeats 8000000 in
set_option maxRecDepth 100000 in
theorem impl_CcRead.calls (k : Nat) (a0 : ByteArray) (r1 : Bool) (r2 : Bool) (r3 : Bool) (r4 : Bool) (r5 : Bool) (r6 : Int) (w : World) (hGE : GLOBE w) (hGM : GLOBM w) (hGT : GLOBT w) (h : impl_CcRead.f k a0 = some (r1, r2, r3, r4, r5, r6)) :
  Calls Tryd.prog 102 #[.string a0] w fun e w' => e = .returned (.agg #[.bool r1, .bool r2, .bool r3, .bool r4, .bool r5, .int .i64 r6]) ∧ Below w.heap.size w w' := by
 unfold impl_CcRead.f at h
 obtain ⟨xs, hxs, h⟩ := Option.bind_eq_some_iff.mp h
 split at h
 case isFalse => cases h
 rename_i hlen
 have HXS := am hxs
 have HLEN := am hlen
 have HH := am h
 have HGE := am hGE
 have HGM := am hGM
 have HGT := am hGT
 clear hxs hlen h hGE hGM hGT
 have HB := am (Below.refl w.heap.size w)
 go_enter Tryd.func102, Tryd.ntmps102
 go_wp2_with (first | (refine bx 2 #[.bool false, .bool false, .bool false, .bool false, .bool false, .int .i64 0] 72 ?_; intro gr hgr w2 hbr hb; have HBR := am hbr; have GR := am ((by rw [hgr]; exact (below_size bl) : w.heap.size ≤ gr)); replace HB := am (below_step bl hb); clear hbr hb hgr) | (refine bx 3 #[.bool false, .bool false, .bool false, .bool false, .bool false, .int .i64 0] 72 ?_; intro gc hgc w3 hbc hb; have NE := am ((by rw [hgc]; exact Nat.ne_of_lt (blk_lt (bk HBR)) : gr ≠ gc)); have GC := am ((by rw [hgc]; exact (below_size bl) : w.heap.size ≤ gc)); have HI := am (show IsS72 w w3 gc false false false false false 0 from ⟨hbc, GC.out⟩); replace HBR := kb HBR hb; replace HB := am (below_step bl hb); clear hbc hb hgc) | (go_at_call 125; refine (impl_Split.calls k a0 xs _ (GLOBM.below HGM.out bl) HXS.out).mono ?_; rintro e w4 ⟨v7, rfl, ho, hb⟩; have HO := am (show Kd.R Kd.string 9 w4 w.heap.size (fun q_ => q_ ≠ gc) v7 xs from Kd.R_lower (Kd.R_mono (Kd.R_bound ho) (fun q_ hq => fun e_ => by have h1 := IsS72.lt HI.out; have h2 : w3.heap.size ≤ q_ := hq.2.1; omega)) (below_size bl)); replace HI := am (IsS72.below HI.out hb); replace HBR := kb HBR hb; replace HB := am (below_step bl hb); clear ho hb; obtain ⟨A7, c7, e7⟩ := Kd.R_slice HO.out; subst e7))
 have HL := am (show (xs.length : Int) ≤ 4294967296 by have := HLEN.out; omega)
 go_loopw [9] (fun v9 wr => ∃ (n : Nat) (f0 f1 f2 f3 f4 : Bool) (f5 : Int), n ≤ xs.length ∧ v9 = .int .i64 n ∧ Aside0 (ccFold k (xs.drop n) f0 f1 f2 f3 f4 f5 = some (r1, r2, r3, r4, r5, r6)) ∧ Aside0 (Kd.R Kd.string 9 wr w.heap.size (fun q_ => q_ ≠ gc) (.slice A7 xs.length c7) xs) ∧ Aside0 (wr.heap[gr]? = some (.cells #[.bool false, .bool false, .bool false, .bool false, .bool false, .int .i64 0] 72 (0, 0))) ∧ Aside0 (IsS72 w wr gc f0 f1 f2 f3 f4 f5) ∧ Aside0 (Below w.heap.size w wr)) (fun v9 _ => xs.length - (intOf v9).toNat)
 case atStart => exact ⟨0, false, false, false, false, false, 0, Nat.zero_le _, rfl, ⟨by rw [List.drop_zero]; exact HH.out⟩, HO, HBR, HI, HB⟩
 case round =>
  clear HO HBR HI HB
  obtain ⟨n, f0, f1, f2, f3, f4, f5, hn, rfl, HF, HO, HBR, HI, HB⟩ := hrel
  have hn2 : (n : Int) ≤ 4294967296 := by have := HL.out; omega
  by_cases hlt : n < xs.length
  ·obtain ⟨ad, e1, hx0⟩ := Kd.at_string (Kd.R_reads' HO.out).2.2 (n : Int) (by omega) (by omega)
   cases e1
   have hrd : rdOf ByteArray.empty xs (n : Int) = xs[n] := by simp [rdOf, List.getD, hlt]
   rw [hrd, Int.toNat_natCast] at hx0
   have hF := HF.out
   rw [List.drop_eq_getElem_cons hlt, ccFold] at hF
   obtain ⟨x, hx⟩ : ∃ x, x = xs[n] := ⟨_, rfl⟩
   rw [← hx] at hx0 hF
   obtain ⟨t, ht, hF⟩ := Option.bind_eq_some_iff.mp hF
   obtain ⟨⟨g0, g1, g2, g3, g4, g5⟩, hw, hF⟩ := Option.bind_eq_some_iff.mp hF
   have HT := am ht
   have HW := am hw
   have HF2 := am hF
   clear hrd hx ht hw hF HF hn
   go_wp2_with (first | (go_at_call 126; refine (impl_Lower.calls x t _ HT.out).mono ?_; rintro e w5 ⟨rfl, hb⟩; replace HO := kr HO hb; replace HBR := kb HBR hb; replace HI := am (IsS72.below (by repeat (first | (with_reducible first | exact HI.out | apply IsS72.alloc | apply IsS72.drewN | apply IsS72.drew) | exact HI.out)) hb); replace HB := am (below_step bl hb); clear hb) | (go_at_call 135; refine (impl_Cc_word.calls k gc f0 f1 f2 f3 f4 f5 t g0 g1 g2 g3 g4 g5 w _ HGE.out HGT.out (by repeat (first | (with_reducible first | exact HI.out | apply IsS72.alloc | apply IsS72.drewN | apply IsS72.drew) | exact HI.out)) bl HW.out).mono ?_; rintro e w6 ⟨rfl, hi, hb, hk⟩; replace HO := am (Kd.R_keep (ro HO) hk (fun _ hq => hq)); replace HBR := am (KeepBut.blk hk (bk HBR) NE.out (by simp)); replace HI := am hi; replace HB := am hb; clear hi hb hk))
   go_roundw
   case rel => exact ⟨n + 1, g0, g1, g2, g3, g4, g5, by omega, by go_num, HF2, ⟨ro HO⟩, ⟨bk HBR⟩, ⟨by repeat (first | (with_reducible first | exact HI.out | apply IsS72.alloc | apply IsS72.drewN | apply IsS72.drew) | exact HI.out)⟩, ⟨bl⟩⟩
   case measure => simp [intOf]; omega
  ·have hnn : n = xs.length := by omega
   have hF := HF.out
   rw [hnn, List.drop_length, ccFold] at hF
   simp only [Option.some.injEq, Prod.mk.injEq] at hF
   obtain ⟨rfl, rfl, rfl, rfl, rfl, rfl⟩ := hF
   have hi := HI.out.1
   have c0 := (blk_cell hi 0).trans (show _ = some (.bool f0) from rfl)
   have c1 := (blk_cell hi 1).trans (show _ = some (.bool f1) from rfl)
   have c2 := (blk_cell hi 2).trans (show _ = some (.bool f2) from rfl)
   have c3 := (blk_cell hi 3).trans (show _ = some (.bool f3) from rfl)
   have c4 := (blk_cell hi 4).trans (show _ = some (.bool f4) from rfl)
   have c5 := (blk_cell hi 5).trans (show _ = some (.int .i64 f5) from rfl)
   have d0 := (blk_cell HBR.out 0).trans (show _ = some (.bool false) from rfl)
   have d1 := (blk_cell HBR.out 1).trans (show _ = some (.bool false) from rfl)
   have d2 := (blk_cell HBR.out 2).trans (show _ = some (.bool false) from rfl)
   have d3 := (blk_cell HBR.out 3).trans (show _ = some (.bool false) from rfl)
   have d4 := (blk_cell HBR.out 4).trans (show _ = some (.bool false) from rfl)
   have d5 := (blk_cell HBR.out 5).trans (show _ = some (.int .i64 0) from rfl)
   have z0 := blk_frozen HBR.out 0
   have z1 := blk_frozen HBR.out 1
   have z2 := blk_frozen HBR.out 2
   have z3 := blk_frozen HBR.out 3
   have z4 := blk_frozen HBR.out 4
   have z5 := blk_frozen HBR.out 5
   have ne1 := NE.out
   have ne2 := Ne.symm NE.out
   clear hi HF hn hnn
   go_wp2
   refine bodyPost_ret (results_cell_row rfl _ _ gr 72 #[.bool f0, .bool f1, .bool f2, .bool f3, .bool f4, .int .i64 f5] (0, 0) _ rfl (by (with_reducible repeat (first | refine blk_drewN ?_ _ | refine blk_drew ?_ | refine blk_alloc ?_ _)); refine blk_put (cs := #[.bool f0, .bool f1, .bool f2, .bool f3, .bool f4, .int .i64 0]) ?_ 5 _ rfl; refine blk_put (cs := #[.bool f0, .bool f1, .bool f2, .bool f3, .bool false, .int .i64 0]) ?_ 4 _ rfl; refine blk_put (cs := #[.bool f0, .bool f1, .bool f2, .bool false, .bool false, .int .i64 0]) ?_ 3 _ rfl; refine blk_put (cs := #[.bool f0, .bool f1, .bool false, .bool false, .bool false, .int .i64 0]) ?_ 2 _ rfl; refine blk_put (cs := #[.bool f0, .bool false, .bool false, .bool false, .bool false, .int .i64 0]) ?_ 1 _ rfl; refine blk_put (cs := #[.bool false, .bool false, .bool false, .bool false, .bool false, .int .i64 0]) ?_ 0 _ rfl; exact bk HBR) Tryd.underlying72 rfl (by kernel_rfl)) rfl ?_
   exact ⟨rf, by repeat (first | (with_reducible first | exact HB.out | apply below_alloc | apply pw_below_drewN | apply below_drew1 | refine below_set ?_ GR.out) | exact HB.out)⟩

/-! ### impl_CcOf: function 44 -/
def impl_CcOf.f (k : Nat) (l0 : List (S84)) : Option (Bool × Bool × Bool × Bool × Bool × Int) := (impl_Get.f l0 (⟨#[99, 97, 99, 104, 101, 45, 99, 111, 110, 116, 114, 111, 108]⟩ : ByteArray)).bind fun bt1214 => ((impl_CcRead.f k bt1214.1).bind fun bt1216 => (some (bt1216.1, bt1216.2.1, bt1216.2.2.1, bt1216.2.2.2.1, bt1216.2.2.2.2.1, bt1216.2.2.2.2.2)))
theorem impl_CcOf.mono : ∀ a0 k, LeO (impl_CcOf.f k a0) (impl_CcOf.f (k + 1) a0) := by
 intro a0 k
 unfold impl_CcOf.f
 have m0 := @impl_CcRead.mono
 exact mo
set_option maxHeartbeats 8000000 in
set_option maxRecDepth 100000 in
theorem impl_CcOf.calls (k : Nat) (A0 : Option Addr) (c0 : Nat) (l0 : List (S84)) (r1 : Bool) (r2 : Bool) (r3 : Bool) (r4 : Bool) (r5 : Bool) (r6 : Int) (w : World) (hGE : GLOBE w) (hGM : GLOBM w) (hGT : GLOBT w) (hr0 : Kd.C k84 w A0 l0.length l0) (hc0 : l0.length ≤ c0) (h : impl_CcOf.f k l0 = some (r1, r2, r3, r4, r5, r6)) :
  Calls Tryd.prog 44 #[.slice A0 l0.length c0] w fun e w' => e = .returned (.agg #[.bool r1, .bool r2, .bool r3, .bool r4, .bool r5, .int .i64 r6]) ∧ Below w.heap.size w w' := by
 have hu72 := Tryd.underlying72
 have HR0 := am hr0
 have HC0 := am hc0
 clear hr0 hc0
 have HGE := am hGE
 clear hGE
 have HGM := am hGM
 clear hGM
 have HGT := am hGT
 clear hGT
 have HB := am (Below.refl w.heap.size w)
 unfold impl_CcOf.f at h
 have H := h
 clear h
 revert H
 refine ok2 fun t1214 t1215 A2 H => ?_
 (try dsimp only at H)
 revert H
 refine ok6 fun t1216 t1217 t1218 t1219 t1220 t1221 A3 H => ?_
 (try dsimp only at H)
 simp only [Option.some.injEq, Prod.mk.injEq] at H
 obtain ⟨rfl, rfl, rfl, rfl, rfl, rfl⟩ := H
 go_enter Tryd.func44, Tryd.ntmps44
 go_wp2_with (first | (refine bx 2 #[.bool false, .bool false, .bool false, .bool false, .bool false, .int .i64 0] 72 ?_; intro gb1213 hg w4 hbox hb; have BK1213 := am (hbox); have GW1213 := am (sz hg : w.heap.size ≤ gb1213); have GE1213 := am (sz hg : w.heap.size ≤ gb1213); replace HB := am (below_step bl hb); clear hb hbox hg) | (refine gl 7 Tryd.func20 #[.slice A0 l0.length c0, .string (⟨#[99, 97, 99, 104, 101, 45, 99, 111, 110, 116, 114, 111, 108]⟩ : ByteArray)] ?_; (with_reducible refine (impl_Get.calls _ _ l0 (⟨#[99, 97, 99, 104, 101, 45, 99, 111, 110, 116, 114, 111, 108]⟩ : ByteArray) t1214 t1215 _ ?side1 ?side2 A2.out).mono ?_); (case side1 => exact cb HR0); (case side2 => exact HC0.out); rintro e w5 ⟨rfl, hb⟩; refine ⟨_, rfl, ?_⟩; replace BK1213 := kb BK1213 hb; replace HB := am (below_step bl hb); clear hb) | (refine gl 11 Tryd.func102 #[.string t1214] ?_; (with_reducible refine (impl_CcRead.calls k t1214 t1216 t1217 t1218 t1219 t1220 t1221 _ ?side1 ?side2 ?side3 A3.out).mono ?_); (case side1 => exact GLOBE.below HGE.out bl); (case side2 => exact GLOBM.below HGM.out bl); (case side3 => exact GLOBT.below HGT.out bl); rintro e w6 ⟨rfl, hb⟩; refine ⟨_, rfl, ?_⟩; replace BK1213 := kb BK1213 hb; replace HB := am (below_step bl hb); clear hb; obtain ⟨z7_0, y7_0, z7_1, y7_1, z7_2, y7_2, z7_3, y7_3, z7_4, y7_4, z7_5, y7_5⟩ := cl6 BK1213))
 refine bodyPost_ret (results_cell_row rfl _ _ gb1213 72 #[.bool t1216, .bool t1217, .bool t1218, .bool t1219, .bool t1220, .int .i64 t1221] (0, 0) _ rfl (by (with_reducible repeat (first | refine blk_drewN ?_ _ | refine blk_drew ?_ | refine blk_alloc ?_ _)); refine blk_put (cs := #[.bool t1216, .bool t1217, .bool t1218, .bool t1219, .bool t1220, .int .i64 0]) ?_ 5 _ rfl; (with_reducible repeat (first | refine blk_drewN ?_ _ | refine blk_drew ?_ | refine blk_alloc ?_ _)); refine blk_put (cs := #[.bool t1216, .bool t1217, .bool t1218, .bool t1219, .bool false, .int .i64 0]) ?_ 4 _ rfl; (with_reducible repeat (first | refine blk_drewN ?_ _ | refine blk_drew ?_ | refine blk_alloc ?_ _)); refine blk_put (cs := #[.bool t1216, .bool t1217, .bool t1218, .bool false, .bool false, .int .i64 0]) ?_ 3 _ rfl; (with_reducible repeat (first | refine blk_drewN ?_ _ | refine blk_drew ?_ | refine blk_alloc ?_ _)); refine blk_put (cs := #[.bool t1216, .bool t1217, .bool false, .bool false, .bool false, .int .i64 0]) ?_ 2 _ rfl; (with_reducible repeat (first | refine blk_drewN ?_ _ | refine blk_drew ?_ | refine blk_alloc ?_ _)); refine blk_put (cs := #[.bool t1216, .bool false, .bool false, .bool false, .bool false, .int .i64 0]) ?_ 1 _ rfl; (with_reducible repeat (first | refine blk_drewN ?_ _ | refine blk_drew ?_ | refine blk_alloc ?_ _)); refine blk_put (cs := #[.bool false, .bool false, .bool false, .bool false, .bool false, .int .i64 0]) ?_ 0 _ rfl; (with_reducible repeat (first | refine blk_drewN ?_ _ | refine blk_drew ?_ | refine blk_alloc ?_ _)); exact BK1213.out) Tryd.underlying72 rfl (by kernel_rfl)) rfl ?_
 exact ⟨rf, bl⟩

/-! ### laws_eqCc: function 45 -/
def laws_eqCc.f (a0_0 : Bool) (a0_1 : Bool) (a0_2 : Bool) (a0_3 : Bool) (a0_4 : Bool) (a0_5 : Int) (a1_0 : Bool) (a1_1 : Bool) (a1_2 : Bool) (a1_3 : Bool) (a1_4 : Bool) (a1_5 : Int) : Option (Bool) := if (a0_0 != a1_0) = true then (some false) else (if (a0_1 != a1_1) = true then (some false) else (if (a0_2 != a1_2) = true then (some false) else (if (a0_3 != a1_3) = true then (some false) else (if (a0_4 != a1_4) = true then (some false) else (if a0_5 = a1_5 then (some true) else (some false))))))
set_option maxHeartbeats 8000000 in
set_option maxRecDepth 100000 in
theorem laws_eqCc.calls (a0_0 : Bool) (a0_1 : Bool) (a0_2 : Bool) (a0_3 : Bool) (a0_4 : Bool) (a0_5 : Int) (a1_0 : Bool) (a1_1 : Bool) (a1_2 : Bool) (a1_3 : Bool) (a1_4 : Bool) (a1_5 : Int) (r : Bool) (w : World) (h : laws_eqCc.f a0_0 a0_1 a0_2 a0_3 a0_4 a0_5 a1_0 a1_1 a1_2 a1_3 a1_4 a1_5 = some r) :
  Calls Tryd.prog 45 #[.agg #[.bool a0_0, .bool a0_1, .bool a0_2, .bool a0_3, .bool a0_4, .int .i64 a0_5], .agg #[.bool a1_0, .bool a1_1, .bool a1_2, .bool a1_3, .bool a1_4, .int .i64 a1_5]] w fun e w' => e = .returned (.bool r) ∧ Below w.heap.size w w' := by
 have hu72 := Tryd.underlying72
 have HB := am (Below.refl w.heap.size w)
 unfold laws_eqCc.f at h
 have H := h
 clear h
 by_cases c3 : (a0_0 != a1_0) = true
 ·rw [if_pos c3] at H
  have c3b0 : (a0_0 != a1_0) = true := c3
  (try (have c3b1 : decide (a0_0 = a1_0) = false := by simpa using c3))
  (try (have c3b2 : (a0_0 == a1_0) = false := by simpa using c3))
  (try (have c3b3 : ¬ (a0_0 = a1_0) := by simpa using c3))
  clear c3
  obtain rfl := Option.some.inj H
  go_enter Tryd.func45, Tryd.ntmps45
  go_wp2_with (first | (refine bx 2 #[.bool a0_0, .bool a0_1, .bool a0_2, .bool a0_3, .bool a0_4, .int .i64 a0_5] 72 ?_; intro gb1222 hg w4 hbox hb; have BK1222 := am (hbox); have GW1222 := am (sz hg : w.heap.size ≤ gb1222); have GE1222 := am (sz hg : w.heap.size ≤ gb1222); replace HB := am (below_step bl hb); clear hb hbox hg) | (refine bx 3 #[.bool a1_0, .bool a1_1, .bool a1_2, .bool a1_3, .bool a1_4, .int .i64 a1_5] 72 ?_; intro gb1223 hg w5 hbox hb; have BK1223 := am (hbox); have GW1223 := am (sz hg : w.heap.size ≤ gb1223); have GE1223 := am (sz hg : w.heap.size ≤ gb1223); replace HB := am (below_step bl hb); have NB1222_1223 := am (nl hg BK1222 : gb1222 ≠ gb1223); have NB1223_1222 := am (ng hg BK1222 : gb1223 ≠ gb1222); replace BK1222 := kb BK1222 hb; clear hb hbox hg; have hnb6 := NB1222_1223.out; have hnc6 := NB1223_1222.out; obtain ⟨z7_0, y7_0, z7_1, y7_1, z7_2, y7_2, z7_3, y7_3, z7_4, y7_4, z7_5, y7_5⟩ := cl6 BK1222; obtain ⟨z8_0, y8_0, z8_1, y8_1, z8_2, y8_2, z8_3, y8_3, z8_4, y8_4, z8_5, y8_5⟩ := cl6 BK1223))
  go_ret
  exact ⟨rf, bl⟩
 rw [if_neg c3] at H
 have c3b0 : (a0_0 != a1_0) = false := by simpa using c3
 (try (have c3b1 : decide (a0_0 = a1_0) = true := by simpa using c3))
 (try (have c3b2 : (a0_0 == a1_0) = true := by simpa using c3))
 clear c3
 by_cases c9 : (a0_1 != a1_1) = true
 ·rw [if_pos c9] at H
  have c9b0 : (a0_1 != a1_1) = true := c9
  (try (have c9b1 : decide (a0_1 = a1_1) = false := by simpa using c9))
  (try (have c9b2 : (a0_1 == a1_1) = false := by simpa using c9))
  (try (have c9b3 : ¬ (a0_1 = a1_1) := by simpa using c9))
  clear c9
  obtain rfl := Option.some.inj H
  go_enter Tryd.func45, Tryd.ntmps45
  go_wp2_with (first | (refine bx 2 #[.bool a0_0, .bool a0_1, .bool a0_2, .bool a0_3, .bool a0_4, .int .i64 a0_5] 72 ?_; intro gb1222 hg w10 hbox hb; have BK1222 := am (hbox); have GW1222 := am (sz hg : w.heap.size ≤ gb1222); have GE1222 := am (sz hg : w.heap.size ≤ gb1222); replace HB := am (below_step bl hb); clear hb hbox hg) | (refine bx 3 #[.bool a1_0, .bool a1_1, .bool a1_2, .bool a1_3, .bool a1_4, .int .i64 a1_5] 72 ?_; intro gb1223 hg w11 hbox hb; have BK1223 := am (hbox); have GW1223 := am (sz hg : w.heap.size ≤ gb1223); have GE1223 := am (sz hg : w.heap.size ≤ gb1223); replace HB := am (below_step bl hb); have NB1222_1223 := am (nl hg BK1222 : gb1222 ≠ gb1223); have NB1223_1222 := am (ng hg BK1222 : gb1223 ≠ gb1222); replace BK1222 := kb BK1222 hb; clear hb hbox hg; have hnb12 := NB1222_1223.out; have hnc12 := NB1223_1222.out; obtain ⟨z13_0, y13_0, z13_1, y13_1, z13_2, y13_2, z13_3, y13_3, z13_4, y13_4, z13_5, y13_5⟩ := cl6 BK1222; obtain ⟨z14_0, y14_0, z14_1, y14_1, z14_2, y14_2, z14_3, y14_3, z14_4, y14_4, z14_5, y14_5⟩ := cl6 BK1223))
  go_ret
  exact ⟨rf, bl⟩
 rw [if_neg c9] at H
 have c9b0 : (a0_1 != a1_1) = false := by simpa using c9
 (try (have c9b1 : decide (a0_1 = a1_1) = true := by simpa using c9))
 (try (have c9b2 : (a0_1 == a1_1) = true := by simpa using c9))
 clear c9
 by_cases c15 : (a0_2 != a1_2) = true
 ·rw [if_pos c15] at H
  have c15b0 : (a0_2 != a1_2) = true := c15
  (try (have c15b1 : decide (a0_2 = a1_2) = false := by simpa using c15))
  (try (have c15b2 : (a0_2 == a1_2) = false := by simpa using c15))
  (try (have c15b3 : ¬ (a0_2 = a1_2) := by simpa using c15))
  clear c15
  obtain rfl := Option.some.inj H
  go_enter Tryd.func45, Tryd.ntmps45
  go_wp2_with (first | (refine bx 2 #[.bool a0_0, .bool a0_1, .bool a0_2, .bool a0_3, .bool a0_4, .int .i64 a0_5] 72 ?_; intro gb1222 hg w16 hbox hb; have BK1222 := am (hbox); have GW1222 := am (sz hg : w.heap.size ≤ gb1222); have GE1222 := am (sz hg : w.heap.size ≤ gb1222); replace HB := am (below_step bl hb); clear hb hbox hg) | (refine bx 3 #[.bool a1_0, .bool a1_1, .bool a1_2, .bool a1_3, .bool a1_4, .int .i64 a1_5] 72 ?_; intro gb1223 hg w17 hbox hb; have BK1223 := am (hbox); have GW1223 := am (sz hg : w.heap.size ≤ gb1223); have GE1223 := am (sz hg : w.heap.size ≤ gb1223); replace HB := am (below_step bl hb); have NB1222_1223 := am (nl hg BK1222 : gb1222 ≠ gb1223); have NB1223_1222 := am (ng hg BK1222 : gb1223 ≠ gb1222); replace BK1222 := kb BK1222 hb; clear hb hbox hg; have hnb18 := NB1222_1223.out; have hnc18 := NB1223_1222.out; obtain ⟨z19_0, y19_0, z19_1, y19_1, z19_2, y19_2, z19_3, y19_3, z19_4, y19_4, z19_5, y19_5⟩ := cl6 BK1222; obtain ⟨z20_0, y20_0, z20_1, y20_1, z20_2, y20_2, z20_3, y20_3, z20_4, y20_4, z20_5, y20_5⟩ := cl6 BK1223))
  go_ret
  exact ⟨rf, bl⟩
 rw [if_neg c15] at H
 have c15b0 : (a0_2 != a1_2) = false := by simpa using c15
 (try (have c15b1 : decide (a0_2 = a1_2) = true := by simpa using c15))
 (try (have c15b2 : (a0_2 == a1_2) = true := by simpa using c15))
 clear c15
 by_cases c21 : (a0_3 != a1_3) = true
 ·rw [if_pos c21] at H
  have c21b0 : (a0_3 != a1_3) = true := c21
  (try (have c21b1 : decide (a0_3 = a1_3) = false := by simpa using c21))
  (try (have c21b2 : (a0_3 == a1_3) = false := by simpa using c21))
  (try (have c21b3 : ¬ (a0_3 = a1_3) := by simpa using c21))
  clear c21
  obtain rfl := Option.some.inj H
  go_enter Tryd.func45, Tryd.ntmps45
  go_wp2_with (first | (refine bx 2 #[.bool a0_0, .bool a0_1, .bool a0_2, .bool a0_3, .bool a0_4, .int .i64 a0_5] 72 ?_; intro gb1222 hg w22 hbox hb; have BK1222 := am (hbox); have GW1222 := am (sz hg : w.heap.size ≤ gb1222); have GE1222 := am (sz hg : w.heap.size ≤ gb1222); replace HB := am (below_step bl hb); clear hb hbox hg) | (refine bx 3 #[.bool a1_0, .bool a1_1, .bool a1_2, .bool a1_3, .bool a1_4, .int .i64 a1_5] 72 ?_; intro gb1223 hg w23 hbox hb; have BK1223 := am (hbox); have GW1223 := am (sz hg : w.heap.size ≤ gb1223); have GE1223 := am (sz hg : w.heap.size ≤ gb1223); replace HB := am (below_step bl hb); have NB1222_1223 := am (nl hg BK1222 : gb1222 ≠ gb1223); have NB1223_1222 := am (ng hg BK1222 : gb1223 ≠ gb1222); replace BK1222 := kb BK1222 hb; clear hb hbox hg; have hnb24 := NB1222_1223.out; have hnc24 := NB1223_1222.out; obtain ⟨z25_0, y25_0, z25_1, y25_1, z25_2, y25_2, z25_3, y25_3, z25_4, y25_4, z25_5, y25_5⟩ := cl6 BK1222; obtain ⟨z26_0, y26_0, z26_1, y26_1, z26_2, y26_2, z26_3, y26_3, z26_4, y26_4, z26_5, y26_5⟩ := cl6 BK1223))
  go_ret
  exact ⟨rf, bl⟩
 rw [if_neg c21] at H
 have c21b0 : (a0_3 != a1_3) = false := by simpa using c21
 (try (have c21b1 : decide (a0_3 = a1_3) = true := by simpa using c21))
 (try (have c21b2 : (a0_3 == a1_3) = true := by simpa using c21))
 clear c21
 by_cases c27 : (a0_4 != a1_4) = true
 ·rw [if_pos c27] at H
  have c27b0 : (a0_4 != a1_4) = true := c27
  (try (have c27b1 : decide (a0_4 = a1_4) = false := by simpa using c27))
  (try (have c27b2 : (a0_4 == a1_4) = false := by simpa using c27))
  (try (have c27b3 : ¬ (a0_4 = a1_4) := by simpa using c27))
  clear c27
  obtain rfl := Option.some.inj H
  go_enter Tryd.func45, Tryd.ntmps45
  go_wp2_with (first | (refine bx 2 #[.bool a0_0, .bool a0_1, .bool a0_2, .bool a0_3, .bool a0_4, .int .i64 a0_5] 72 ?_; intro gb1222 hg w28 hbox hb; have BK1222 := am (hbox); have GW1222 := am (sz hg : w.heap.size ≤ gb1222); have GE1222 := am (sz hg : w.heap.size ≤ gb1222); replace HB := am (below_step bl hb); clear hb hbox hg) | (refine bx 3 #[.bool a1_0, .bool a1_1, .bool a1_2, .bool a1_3, .bool a1_4, .int .i64 a1_5] 72 ?_; intro gb1223 hg w29 hbox hb; have BK1223 := am (hbox); have GW1223 := am (sz hg : w.heap.size ≤ gb1223); have GE1223 := am (sz hg : w.heap.size ≤ gb1223); replace HB := am (below_step bl hb); have NB1222_1223 := am (nl hg BK1222 : gb1222 ≠ gb1223); have NB1223_1222 := am (ng hg BK1222 : gb1223 ≠ gb1222); replace BK1222 := kb BK1222 hb; clear hb hbox hg; have hnb30 := NB1222_1223.out; have hnc30 := NB1223_1222.out; obtain ⟨z31_0, y31_0, z31_1, y31_1, z31_2, y31_2, z31_3, y31_3, z31_4, y31_4, z31_5, y31_5⟩ := cl6 BK1222; obtain ⟨z32_0, y32_0, z32_1, y32_1, z32_2, y32_2, z32_3, y32_3, z32_4, y32_4, z32_5, y32_5⟩ := cl6 BK1223))
  go_ret
  exact ⟨rf, bl⟩
 rw [if_neg c27] at H
 have c27b0 : (a0_4 != a1_4) = false := by simpa using c27
 (try (have c27b1 : decide (a0_4 = a1_4) = true := by simpa using c27))
 (try (have c27b2 : (a0_4 == a1_4) = true := by simpa using c27))
 clear c27
 by_cases c33 : a0_5 = a1_5
 rotate_left
 ·rw [if_neg c33] at H
  have c33b0 : (a0_5 == a1_5) = false := beq_eq_false_iff_ne.mpr c33
  have c33b1 : (a0_5 != a1_5) = true := bne_iff_ne.mpr c33
  obtain rfl := Option.some.inj H
  go_enter Tryd.func45, Tryd.ntmps45
  go_wp2_with (first | (refine bx 2 #[.bool a0_0, .bool a0_1, .bool a0_2, .bool a0_3, .bool a0_4, .int .i64 a0_5] 72 ?_; intro gb1222 hg w39 hbox hb; have BK1222 := am (hbox); have GW1222 := am (sz hg : w.heap.size ≤ gb1222); have GE1222 := am (sz hg : w.heap.size ≤ gb1222); replace HB := am (below_step bl hb); clear hb hbox hg) | (refine bx 3 #[.bool a1_0, .bool a1_1, .bool a1_2, .bool a1_3, .bool a1_4, .int .i64 a1_5] 72 ?_; intro gb1223 hg w40 hbox hb; have BK1223 := am (hbox); have GW1223 := am (sz hg : w.heap.size ≤ gb1223); have GE1223 := am (sz hg : w.heap.size ≤ gb1223); replace HB := am (below_step bl hb); have NB1222_1223 := am (nl hg BK1222 : gb1222 ≠ gb1223); have NB1223_1222 := am (ng hg BK1222 : gb1223 ≠ gb1222); replace BK1222 := kb BK1222 hb; clear hb hbox hg; have hnb41 := NB1222_1223.out; have hnc41 := NB1223_1222.out; obtain ⟨z42_0, y42_0, z42_1, y42_1, z42_2, y42_2, z42_3, y42_3, z42_4, y42_4, z42_5, y42_5⟩ := cl6 BK1222; obtain ⟨z43_0, y43_0, z43_1, y43_1, z43_2, y43_2, z43_3, y43_3, z43_4, y43_4, z43_5, y43_5⟩ := cl6 BK1223))
  go_ret
  exact ⟨rf, bl⟩
 rw [if_pos c33] at H
 have c33b0 : (a0_5 == a1_5) = true := beq_iff_eq.mpr c33
 have c33b1 : (a0_5 != a1_5) = false := bne_eq_false_iff_eq.mpr c33
 clear c33
 obtain rfl := Option.some.inj H
 go_enter Tryd.func45, Tryd.ntmps45
 go_wp2_with (first | (refine bx 2 #[.bool a0_0, .bool a0_1, .bool a0_2, .bool a0_3, .bool a0_4, .int .i64 a0_5] 72 ?_; intro gb1222 hg w34 hbox hb; have BK1222 := am (hbox); have GW1222 := am (sz hg : w.heap.size ≤ gb1222); have GE1222 := am (sz hg : w.heap.size ≤ gb1222); replace HB := am (below_step bl hb); clear hb hbox hg) | (refine bx 3 #[.bool a1_0, .bool a1_1, .bool a1_2, .bool a1_3, .bool a1_4, .int .i64 a1_5] 72 ?_; intro gb1223 hg w35 hbox hb; have BK1223 := am (hbox); have GW1223 := am (sz hg : w.heap.size ≤ gb1223); have GE1223 := am (sz hg : w.heap.size ≤ gb1223); replace HB := am (below_step bl hb); have NB1222_1223 := am (nl hg BK1222 : gb1222 ≠ gb1223); have NB1223_1222 := am (ng hg BK1222 : gb1223 ≠ gb1222); replace BK1222 := kb BK1222 hb; clear hb hbox hg; have hnb36 := NB1222_1223.out; have hnc36 := NB1223_1222.out; obtain ⟨z37_0, y37_0, z37_1, y37_1, z37_2, y37_2, z37_3, y37_3, z37_4, y37_4, z37_5, y37_5⟩ := cl6 BK1222; obtain ⟨z38_0, y38_0, z38_1, y38_1, z38_2, y38_2, z38_3, y38_3, z38_4, y38_4, z38_5, y38_5⟩ := cl6 BK1223))
 go_ret
 exact ⟨rf, bl⟩

/-! ### laws_FnExactCcOf: function 8 -/
def laws_FnExactCcOf.f (k : Nat) (l0 : List (S121)) : Option (Bool) := (laws_szFieldS.f k l0 1048576).bind fun t1224 => (if t1224 < 0 then (some true) else ((laws_toFieldS.f k l0).bind fun t1225 => ((spec_CcOf.f k t1225).bind fun bt1228 => ((laws_toFieldS.f k l0).bind fun t1235 => ((impl_CcOf.f k t1235).bind fun bt1238 => ((laws_eqCc.f bt1238.1 bt1238.2.1 bt1238.2.2.1 bt1238.2.2.2.1 bt1238.2.2.2.2.1 bt1238.2.2.2.2.2 bt1228.1 bt1228.2.1 bt1228.2.2.1 bt1228.2.2.2.1 bt1228.2.2.2.2.1 bt1228.2.2.2.2.2).bind fun t1245 => (if t1245 = true then ((laws_toFieldS.f k l0).bind fun t1246 => ((laws_eqFieldS.f k t1235 t1246).bind fun t1249 => (if t1249 = true then (some true) else (some false)))) else (some false))))))))
theorem laws_FnExactCcOf.mono : ∀ a0 k, LeO (laws_FnExactCcOf.f k a0) (laws_FnExactCcOf.f (k + 1) a0) := by
 intro a0 k
 unfold laws_FnExactCcOf.f
 have m0 := @impl_CcOf.mono
 have m1 := @laws_eqFieldS.mono
 have m2 := @laws_szFieldS.mono
 have m3 := @laws_toFieldS.mono
 have m4 := @spec_CcOf.mono
 exact mo
set_option maxHeartbeats 8000000 in
set_option maxRecDepth 100000 in
theorem laws_FnExactCcOf.calls (k : Nat) (A0 : Option Addr) (c0 : Nat) (l0 : List (S121)) (r : Bool) (w : World) (hGE : GLOBE w) (hGM : GLOBM w) (hGT : GLOBT w) (hr0 : Kd.C k121 w A0 l0.length l0) (hc0 : l0.length ≤ c0) (ht_ : r = true) (h : laws_FnExactCcOf.f k l0 = some r) :
  Calls Tryd.prog 8 #[.slice A0 l0.length c0] w fun e w' => e = .returned (.bool r) ∧ Below w.heap.size w w' := by
 have hu72 := Tryd.underlying72
 have HR0 := am hr0
 have HC0 := am hc0
 clear hr0 hc0
 have HGE := am hGE
 clear hGE
 have HGM := am hGM
 clear hGM
 have HGT := am hGT
 clear hGT
 have HB := am (Below.refl w.heap.size w)
 unfold laws_FnExactCcOf.f at h
 have H := h
 clear h
 revert H
 refine ok1 fun t1224 A2 H => ?_
 by_cases c3 : t1224 < 0
 ·rw [if_pos c3] at H
  have c3b0 := decide_eq_true c3
  clear c3
  obtain rfl := Option.some.inj H
  go_enter Tryd.func8, Tryd.ntmps8
  go_wp2_with (first | (refine gl 9 Tryd.func41 #[.slice A0 l0.length c0, .int .i64 1048576] ?_; (with_reducible refine (laws_szFieldS.calls k _ _ l0 1048576 t1224 _ ?side1 ?side2 A2.out).mono ?_); (case side1 => exact cc HR0); (case side2 => exact HC0.out); rintro e w4 ⟨rfl, hb⟩; refine ⟨_, rfl, ?_⟩; replace HB := am (below_step bl hb); clear hb))
  go_ret
  exact ⟨rf, bl⟩
 rw [if_neg c3] at H
 have c3b0 := decide_eq_false c3
 clear c3
 revert H
 refine ok1 fun t1225 A5 H => ?_
 revert H
 refine ok6 fun t1228 t1229 t1230 t1231 t1232 t1233 A6 H => ?_
 (try dsimp only at H)
 revert H
 refine ok1 fun t1235 A7 H => ?_
 revert H
 refine ok6 fun t1238 t1239 t1240 t1241 t1242 t1243 A8 H => ?_
 (try dsimp only at H)
 revert H
 refine ok1 fun t1245 A9 H => ?_
 by_cases c10 : t1245 = true
 rotate_left
 ·replace c10 := Bool.eq_false_iff.mpr c10
  subst c10
  rw [if_neg (show ¬ (false = true) by decide)] at H
  exact absurd (Option.some.inj H) (by rw [ht_]; decide)
 subst c10
 rw [if_pos rfl] at H
 revert H
 refine ok1 fun t1246 A11 H => ?_
 revert H
 refine ok1 fun t1249 A12 H => ?_
 by_cases c13 : t1249 = true
 rotate_left
 ·replace c13 := Bool.eq_false_iff.mpr c13
  subst c13
  rw [if_neg (show ¬ (false = true) by decide)] at H
  exact absurd (Option.some.inj H) (by rw [ht_]; decide)
 subst c13
 rw [if_pos rfl] at H
 obtain rfl := Option.some.inj H
 go_enter Tryd.func8, Tryd.ntmps8
 go_wp2_with (first | (refine gl 9 Tryd.func41 #[.slice A0 l0.length c0, .int .i64 1048576] ?_; (with_reducible refine (laws_szFieldS.calls k _ _ l0 1048576 t1224 _ ?side1 ?side2 A2.out).mono ?_); (case side1 => exact cc HR0); (case side2 => exact HC0.out); rintro e w14 ⟨rfl, hb⟩; refine ⟨_, rfl, ?_⟩; replace HB := am (below_step bl hb); clear hb) | (refine gl 13 Tryd.func43 #[.slice A0 l0.length c0] ?_; (with_reducible refine (laws_toFieldS.calls k _ _ l0 t1225 _ ?side1 ?side2 A5.out).mono ?_); (case side1 => exact cb HR0); (case side2 => exact HC0.out); rintro e w15 ⟨v1226, rfl, ho0, hb⟩; refine ⟨_, rfl, ?_⟩; have HO1227 := am (Kd.R_lower ho0 (below_size bl)); replace HB := am (below_step bl hb); clear hb ho0; obtain ⟨Ao16, co16, eo16⟩ := Kd.R_slice HO1227.out; subst eo16) | (refine gl 14 Tryd.func42 #[.slice Ao16 t1225.length co16] ?_; (with_reducible refine (spec_CcOf.calls k _ _ t1225 t1228 t1229 t1230 t1231 t1232 t1233 _ ?side1 ?side2 A6.out).mono ?_); (case side1 => exact rc HO1227); (case side2 => exact (Kd.R_reads' HO1227.out).2.1); rintro e w17 ⟨rfl, hb⟩; refine ⟨_, rfl, ?_⟩; replace HO1227 := kr HO1227 hb; replace HB := am (below_step bl hb); clear hb) | (refine bx 4 #[.bool false, .bool false, .bool false, .bool false, .bool false, .int .i64 0] 72 ?_; intro gb1234 hg w18 hbox hb; replace HO1227 := am (Kd.R_below (ro HO1227) hb); have BK1234 := am (hbox); have GW1234 := am (sz hg : w.heap.size ≤ gb1234); have GE1234 := am (sz hg : w.heap.size ≤ gb1234); replace HB := am (below_step bl hb); clear hb hbox hg; obtain ⟨z19_0, y19_0, z19_1, y19_1, z19_2, y19_2, z19_3, y19_3, z19_4, y19_4, z19_5, y19_5⟩ := cl6 BK1234) | (refine gl 16 Tryd.func43 #[.slice A0 l0.length c0] ?_; (with_reducible refine (laws_toFieldS.calls k _ _ l0 t1235 _ ?side1 ?side2 A7.out).mono ?_); (case side1 => exact Kd.C_below HR0.out bl); (case side2 => exact HC0.out); rintro e w20 ⟨v1236, rfl, ho0, hb⟩; refine ⟨_, rfl, ?_⟩; have n0_ := am (Kd.R_elder' (by (with_reducible repeat (first | apply Kd.R_alloc | apply Kd.R_drewN | apply Kd.R_drew)); exact (Kd.R_mono (Kd.R_far (p := ⟨gb1234, 5, none⟩) (Kd.R_far (p := ⟨gb1234, 4, none⟩) (Kd.R_far (p := ⟨gb1234, 3, none⟩) (Kd.R_far (p := ⟨gb1234, 2, none⟩) (Kd.R_far (p := ⟨gb1234, 1, none⟩) (Kd.R_far (p := ⟨gb1234, 0, none⟩) (Kd.R_types HO1227.out BK1234.out (by decide)) (fun _ hk => hk.2) (.bool t1228)) (fun _ hk => hk.2) (.bool t1229)) (fun _ hk => hk.2) (.bool t1230)) (fun _ hk => hk.2) (.bool t1231)) (fun _ hk => hk.2) (.bool t1232)) (fun _ hk => hk.2) (.int .i64 t1233)) (fun _ h_ => h_.1))) (Kd.R_base ho0) hb); have n1_ := am (Kd.R_lower (Kd.R_new' ho0 (Kd.R_lt (by (with_reducible repeat (first | apply Kd.R_alloc | apply Kd.R_drewN | apply Kd.R_drew)); exact (Kd.R_mono (Kd.R_far (p := ⟨gb1234, 5, none⟩) (Kd.R_far (p := ⟨gb1234, 4, none⟩) (Kd.R_far (p := ⟨gb1234, 3, none⟩) (Kd.R_far (p := ⟨gb1234, 2, none⟩) (Kd.R_far (p := ⟨gb1234, 1, none⟩) (Kd.R_far (p := ⟨gb1234, 0, none⟩) (Kd.R_types HO1227.out BK1234.out (by decide)) (fun _ hk => hk.2) (.bool t1228)) (fun _ hk => hk.2) (.bool t1229)) (fun _ hk => hk.2) (.bool t1230)) (fun _ hk => hk.2) (.bool t1231)) (fun _ hk => hk.2) (.bool t1232)) (fun _ hk => hk.2) (.int .i64 t1233)) (fun _ h_ => h_.1))))) (below_size bl)); have n2_ := am (blk_below (g := gb1234) (o := .cells #[.bool t1228, .bool t1229, .bool t1230, .bool t1231, .bool t1232, .int .i64 t1233] 72 (0, 0)) (by (with_reducible repeat (first | refine blk_drewN ?_ _ | refine blk_drew ?_ | refine blk_alloc ?_ _)); refine blk_put (cs := #[.bool t1228, .bool t1229, .bool t1230, .bool t1231, .bool t1232, .int .i64 0]) ?_ 5 _ rfl; (with_reducible repeat (first | refine blk_drewN ?_ _ | refine blk_drew ?_ | refine blk_alloc ?_ _)); refine blk_put (cs := #[.bool t1228, .bool t1229, .bool t1230, .bool t1231, .bool false, .int .i64 0]) ?_ 4 _ rfl; (with_reducible repeat (first | refine blk_drewN ?_ _ | refine blk_drew ?_ | refine blk_alloc ?_ _)); refine blk_put (cs := #[.bool t1228, .bool t1229, .bool t1230, .bool false, .bool false, .int .i64 0]) ?_ 3 _ rfl; (with_reducible repeat (first | refine blk_drewN ?_ _ | refine blk_drew ?_ | refine blk_alloc ?_ _)); refine blk_put (cs := #[.bool t1228, .bool t1229, .bool false, .bool false, .bool false, .int .i64 0]) ?_ 2 _ rfl; (with_reducible repeat (first | refine blk_drewN ?_ _ | refine blk_drew ?_ | refine blk_alloc ?_ _)); refine blk_put (cs := #[.bool t1228, .bool false, .bool false, .bool false, .bool false, .int .i64 0]) ?_ 1 _ rfl; (with_reducible repeat (first | refine blk_drewN ?_ _ | refine blk_drew ?_ | refine blk_alloc ?_ _)); refine blk_put (cs := #[.bool false, .bool false, .bool false, .bool false, .bool false, .int .i64 0]) ?_ 0 _ rfl; (with_reducible repeat (first | refine blk_drewN ?_ _ | refine blk_drew ?_ | refine blk_alloc ?_ _)); exact BK1234.out) hb); have n3_ := am (below_step bl hb); clear HO1227; clear BK1234; clear HB; have HO1227 := n0_; have HO1237 := n1_; have BK1234 := n2_; have HB := n3_; clear n0_ n1_ n2_ n3_; clear hb ho0; obtain ⟨Ao21, co21, eo21⟩ := Kd.R_slice HO1237.out; subst eo21) | (refine gl 18 Tryd.func44 #[.slice Ao21 t1235.length co21] ?_; (with_reducible refine (impl_CcOf.calls k _ _ t1235 t1238 t1239 t1240 t1241 t1242 t1243 _ ?side1 ?side2 ?side3 ?side4 ?side5 A8.out).mono ?_); (case side1 => exact GLOBE.below HGE.out bl); (case side2 => exact GLOBM.below HGM.out bl); (case side3 => exact GLOBT.below HGT.out bl); (case side4 => exact rc HO1237); (case side5 => exact (Kd.R_reads' HO1237.out).2.1); rintro e w22 ⟨rfl, hb⟩; refine ⟨_, rfl, ?_⟩; replace HO1227 := kr HO1227 hb; replace HO1237 := kr HO1237 hb; replace BK1234 := kb BK1234 hb; replace HB := am (below_step bl hb); clear hb) | (refine bx 6 #[.bool false, .bool false, .bool false, .bool false, .bool false, .int .i64 0] 72 ?_; intro gb1244 hg w23 hbox hb; replace HO1227 := am (Kd.R_below (ro HO1227) hb); replace HO1237 := am (Kd.R_below (ro HO1237) hb); have BK1244 := am (hbox); have GW1244 := am (sz hg : w.heap.size ≤ gb1244); have GE1244 := am (sz hg : w.heap.size ≤ gb1244); replace HB := am (below_step bl hb); have NB1234_1244 := am (nl hg BK1234 : gb1234 ≠ gb1244); have NB1244_1234 := am (ng hg BK1234 : gb1244 ≠ gb1234); replace BK1234 := kb BK1234 hb; clear hb hbox hg; have hnb24 := NB1244_1234.out; have hnc24 := NB1234_1244.out; obtain ⟨z25_0, y25_0, z25_1, y25_1, z25_2, y25_2, z25_3, y25_3, z25_4, y25_4, z25_5, y25_5⟩ := cl6 BK1244; obtain ⟨z26_0, y26_0, z26_1, y26_1, z26_2, y26_2, z26_3, y26_3, z26_4, y26_4, z26_5, y26_5⟩ := cl6 BK1234) | (refine gl 21 Tryd.func45 #[.agg #[.bool t1238, .bool t1239, .bool t1240, .bool t1241, .bool t1242, .int .i64 t1243], .agg #[.bool t1228, .bool t1229, .bool t1230, .bool t1231, .bool t1232, .int .i64 t1233]] ?_; (with_reducible refine (laws_eqCc.calls t1238 t1239 t1240 t1241 t1242 t1243 t1228 t1229 t1230 t1231 t1232 t1233 true _ A9.out).mono ?_); rintro e w27 ⟨rfl, hb⟩; refine ⟨_, rfl, ?_⟩; have n0_ := am (Kd.R_below (by (with_reducible repeat (first | apply Kd.R_alloc | apply Kd.R_drewN | apply Kd.R_drew)); exact (Kd.R_mono (Kd.R_far (p := ⟨gb1244, 5, none⟩) (Kd.R_far (p := ⟨gb1244, 4, none⟩) (Kd.R_far (p := ⟨gb1244, 3, none⟩) (Kd.R_far (p := ⟨gb1244, 2, none⟩) (Kd.R_far (p := ⟨gb1244, 1, none⟩) (Kd.R_far (p := ⟨gb1244, 0, none⟩) (Kd.R_types HO1227.out BK1244.out (by decide)) (fun _ hk => hk.2) (.bool t1238)) (fun _ hk => hk.2) (.bool t1239)) (fun _ hk => hk.2) (.bool t1240)) (fun _ hk => hk.2) (.bool t1241)) (fun _ hk => hk.2) (.bool t1242)) (fun _ hk => hk.2) (.int .i64 t1243)) (fun _ h_ => h_.1))) hb); have n1_ := am (Kd.R_below (by (with_reducible repeat (first | apply Kd.R_alloc | apply Kd.R_drewN | apply Kd.R_drew)); exact (Kd.R_mono (Kd.R_far (p := ⟨gb1244, 5, none⟩) (Kd.R_far (p := ⟨gb1244, 4, none⟩) (Kd.R_far (p := ⟨gb1244, 3, none⟩) (Kd.R_far (p := ⟨gb1244, 2, none⟩) (Kd.R_far (p := ⟨gb1244, 1, none⟩) (Kd.R_far (p := ⟨gb1244, 0, none⟩) (Kd.R_types HO1237.out BK1244.out (by decide)) (fun _ hk => hk.2) (.bool t1238)) (fun _ hk => hk.2) (.bool t1239)) (fun _ hk => hk.2) (.bool t1240)) (fun _ hk => hk.2) (.bool t1241)) (fun _ hk => hk.2) (.bool t1242)) (fun _ hk => hk.2) (.int .i64 t1243)) (fun _ h_ => h_.1))) hb); have n2_ := kg1 BK1234 NB1234_1244 hb; have n3_ := am (blk_below (g := gb1244) (o := .cells #[.bool t1238, .bool t1239, .bool t1240, .bool t1241, .bool t1242, .int .i64 t1243] 72 (0, 0)) (by (with_reducible repeat (first | refine blk_drewN ?_ _ | refine blk_drew ?_ | refine blk_alloc ?_ _)); refine blk_put (cs := #[.bool t1238, .bool t1239, .bool t1240, .bool t1241, .bool t1242, .int .i64 0]) ?_ 5 _ rfl; (with_reducible repeat (first | refine blk_drewN ?_ _ | refine blk_drew ?_ | refine blk_alloc ?_ _)); refine blk_put (cs := #[.bool t1238, .bool t1239, .bool t1240, .bool t1241, .bool false, .int .i64 0]) ?_ 4 _ rfl; (with_reducible repeat (first | refine blk_drewN ?_ _ | refine blk_drew ?_ | refine blk_alloc ?_ _)); refine blk_put (cs := #[.bool t1238, .bool t1239, .bool t1240, .bool false, .bool false, .int .i64 0]) ?_ 3 _ rfl; (with_reducible repeat (first | refine blk_drewN ?_ _ | refine blk_drew ?_ | refine blk_alloc ?_ _)); refine blk_put (cs := #[.bool t1238, .bool t1239, .bool false, .bool false, .bool false, .int .i64 0]) ?_ 2 _ rfl; (with_reducible repeat (first | refine blk_drewN ?_ _ | refine blk_drew ?_ | refine blk_alloc ?_ _)); refine blk_put (cs := #[.bool t1238, .bool false, .bool false, .bool false, .bool false, .int .i64 0]) ?_ 1 _ rfl; (with_reducible repeat (first | refine blk_drewN ?_ _ | refine blk_drew ?_ | refine blk_alloc ?_ _)); refine blk_put (cs := #[.bool false, .bool false, .bool false, .bool false, .bool false, .int .i64 0]) ?_ 0 _ rfl; (with_reducible repeat (first | refine blk_drewN ?_ _ | refine blk_drew ?_ | refine blk_alloc ?_ _)); exact BK1244.out) hb); have n4_ := am (below_step bl hb); clear HO1227; clear HO1237; clear BK1234; clear BK1244; clear HB; have HO1227 := n0_; have HO1237 := n1_; have BK1234 := n2_; have BK1244 := n3_; have HB := n4_; clear n0_ n1_ n2_ n3_ n4_; clear hb) | (refine gl 25 Tryd.func43 #[.slice A0 l0.length c0] ?_; (with_reducible refine (laws_toFieldS.calls k _ _ l0 t1246 _ ?side1 ?side2 A11.out).mono ?_); (case side1 => exact cb HR0); (case side2 => exact HC0.out); rintro e w28 ⟨v1247, rfl, ho0, hb⟩; refine ⟨_, rfl, ?_⟩; have HO1248 := am (Kd.R_lower (Kd.R_new' (Kd.R_new' ho0 (Kd.R_lt (ro HO1227))) (Kd.R_lt (ro HO1237))) (below_size bl)); replace HO1227 := am (Kd.R_elder' (ro HO1227) (Kd.R_base ho0) hb); replace HO1237 := am (Kd.R_elder' (ro HO1237) (Kd.R_base ho0) hb); replace BK1234 := kb BK1234 hb; replace BK1244 := kb BK1244 hb; replace HB := am (below_step bl hb); clear hb ho0; obtain ⟨Ao29, co29, eo29⟩ := Kd.R_slice HO1248.out; subst eo29) | (refine gl 26 Tryd.func46 #[.slice Ao21 t1235.length co21, .slice Ao29 t1246.length co29] ?_; (with_reducible refine (laws_eqFieldS.calls k _ _ t1235 _ _ t1246 true _ ?side1 ?side2 ?side3 ?side4 A12.out).mono ?_); (case side1 => exact rc HO1237); (case side2 => exact (Kd.R_reads' HO1237.out).2.1); (case side3 => exact rc HO1248); (case side4 => exact (Kd.R_reads' HO1248.out).2.1); rintro e w30 ⟨rfl, hb⟩; refine ⟨_, rfl, ?_⟩; replace HO1227 := kr HO1227 hb; replace HO1237 := kr HO1237 hb; replace HO1248 := kr HO1248 hb; replace BK1234 := kb BK1234 hb; replace BK1244 := kb BK1244 hb; replace HB := am (below_step bl hb); clear hb))
 go_ret
 exact ⟨rf, bl⟩

end Go.Proofs.YtkgdcfaogdmcgaaDoor.All
