-- Written by a program of this session (wip/tools/hprint.py) out of the translation. Lean checks it.
import Derived.Test.YtiinmfjbildclaaDoorAllx0
import Derived.Test.YtiinmfjbildclaaDoorAllx3
import Derived.Test.YtiinmfjbildclaaDoorAllx6
import Derived.Test.YtiinmfjbildclaaDoorAllx14
import Derived.Test.YtiinmfjbildclaaDoorAllx66
namespace Go.Proofs.YtiinmfjbildclaaDoor.All
open Go.RowKit Go.Proofs.YtiinmfjbildclaaDoorW.PrintWords Go.Proofs.YtiinmfjbildclaaDoorW.PrintLast Go.Proofs.YtiinmfjbildclaaDoorW.PrintMore
attribute [local go_sem] max2_int min2_int max_two min_two max_three min_three max_four min_four   -- for this text's walks alone
set_option linter.unusedVariables false
set_option linter.unusedSimpArgs false

/-! ### impl_Cc_word: function 161 -/
def impl_Cc_word.j0 : Nat → ByteArray → Bool → Bool → Bool → Bool → Bool → Int → Option (Bool × Bool × Bool × Bool × Bool × Int)
 | 0, _, _, _, _, _, _, _ => none
 | k + 1, x1, x1000, x1001, x1002, x1003, x1004, x1005 => (strings_CutPrefix.f x1 (⟨#[109, 97, 120, 45, 97, 103, 101, 61]⟩ : ByteArray)).bind fun bt1608 => (if bt1608.2 = true then ((impl_NumRead.f bt1608.1).bind fun bt1610 => (if x1004 = true then (some (x1000, x1001, x1002, x1003, true, mn bt1610.1 x1005)) else (some (x1000, x1001, x1002, x1003, true, bt1610.1)))) else (some (x1000, x1001, x1002, x1003, x1004, x1005)))
def impl_Cc_word.f (k : Nat) (s0_0 : Bool) (s0_1 : Bool) (s0_2 : Bool) (s0_3 : Bool) (s0_4 : Bool) (s0_5 : Int) (a1 : ByteArray) : Option (Bool × Bool × Bool × Bool × Bool × Int) := if a1.toList = ([110, 111, 45, 115, 116, 111, 114, 101] : List UInt8) then (impl_Cc_word.j0 k a1 true s0_1 s0_2 s0_3 s0_4 s0_5) else (if a1.toList = ([110, 111, 45, 99, 97, 99, 104, 101] : List UInt8) then (impl_Cc_word.j0 k a1 s0_0 true s0_2 s0_3 s0_4 s0_5) else (if a1.toList = ([112, 114, 105, 118, 97, 116, 101] : List UInt8) then (impl_Cc_word.j0 k a1 s0_0 s0_1 true s0_3 s0_4 s0_5) else (if a1.toList = ([109, 117, 115, 116, 45, 114, 101, 118, 97, 108, 105, 100, 97, 116, 101] : List UInt8) then (impl_Cc_word.j0 k a1 s0_0 s0_1 s0_2 true s0_4 s0_5) else (impl_Cc_word.j0 k a1 s0_0 s0_1 s0_2 s0_3 s0_4 s0_5))))
theorem impl_Cc_word.mono_l : ∀ k, (∀ y0 y1 y2 y3 y4 y5 y6, LeO (impl_Cc_word.j0 k y0 y1 y2 y3 y4 y5 y6) (impl_Cc_word.j0 (k + 1) y0 y1 y2 y3 y4 y5 y6))
 | 0 => fun _ _ _ _ _ _ _ r h => by simp [impl_Cc_word.j0] at h
 | k + 1 => by
  have ih0 := impl_Cc_word.mono_l k
  ·intro y0 y1 y2 y3 y4 y5 y6
   unfold impl_Cc_word.j0
   repeat' first
   | (with_reducible exact ih0 _ _ _ _ _ _ _)
   | (with_reducible exact LeO.refl _)
   | (with_reducible exact LeO.none _)
   | (with_reducible refine LeO.ite ?_ ?_)
   | (with_reducible refine LeO.bind ?_ (fun _ => ?_))
   | exact ih0 _ _ _ _ _ _ _
   | exact LeO.none _
   | refine LeO.ite ?_ ?_
   | refine LeO.bind ?_ (fun _ => ?_)
theorem impl_Cc_word.mono : ∀ a0 a1 a2 a3 a4 a5 a6 k, LeO (impl_Cc_word.f k a0 a1 a2 a3 a4 a5 a6) (impl_Cc_word.f (k + 1) a0 a1 a2 a3 a4 a5 a6) := by
 intro a0 a1 a2 a3 a4 a5 a6 k
 have ih0 := impl_Cc_word.mono_l k
 unfold impl_Cc_word.f
 repeat' first
   | (with_reducible exact ih0 _ _ _ _ _ _ _)
   | (with_reducible exact LeO.refl _)
   | (with_reducible exact LeO.none _)
   | (with_reducible refine LeO.ite ?_ ?_)
   | (with_reducible refine LeO.bind ?_ (fun _ => ?_))
   | exact ih0 _ _ _ _ _ _ _
   | exact LeO.none _
   | refine LeO.ite ?_ ?_
   | refine LeO.bind ?_ (fun _ => ?_)
set_option maxHeartbeats 8000000 in
set_option maxRecDepth 100000 in
theorem impl_Cc_word.calls (k : Nat) (g : Nat) (s0_0 : Bool) (s0_1 : Bool) (s0_2 : Bool) (s0_3 : Bool) (s0_4 : Bool) (s0_5 : Int) (a1 : ByteArray) (r1 : Bool) (r2 : Bool) (r3 : Bool) (r4 : Bool) (r5 : Bool) (r6 : Int) (w0 w : World) (hGE : GLOBE w0) (hGT : GLOBT w0) (hI : IsS106 w0 w g s0_0 s0_1 s0_2 s0_3 s0_4 s0_5) (hB : Below w0.heap.size w0 w) (h : impl_Cc_word.f k s0_0 s0_1 s0_2 s0_3 s0_4 s0_5 a1 = some (r1, r2, r3, r4, r5, r6)) :
  Calls Tryd.prog 161 #[.pointer (some ⟨g, 0, none⟩), .string a1] w fun e w' => e = .returned (.tuple #[]) ∧ IsS106 w0 w' g r1 r2 r3 r4 r5 r6 ∧ Below w0.heap.size w0 w' ∧ KeepBut w w' g none := by
 have HGE := am hGE
 clear hGE
 have HGT := am hGT
 clear hGT
 have HI0 := am hI
 have HK := am (KeepBut.refl w g none)
 have HL := am hB.size
 clear hI
 have HW0 := am hB.size
 have HB := am hB
 clear hB
 have H : (if a1.toList = ([110, 111, 45, 115, 116, 111, 114, 101] : List UInt8) then (impl_Cc_word.j0 k a1 true s0_1 s0_2 s0_3 s0_4 s0_5) else (if a1.toList = ([110, 111, 45, 99, 97, 99, 104, 101] : List UInt8) then (impl_Cc_word.j0 k a1 s0_0 true s0_2 s0_3 s0_4 s0_5) else (if a1.toList = ([112, 114, 105, 118, 97, 116, 101] : List UInt8) then (impl_Cc_word.j0 k a1 s0_0 s0_1 true s0_3 s0_4 s0_5) else (if a1.toList = ([109, 117, 115, 116, 45, 114, 101, 118, 97, 108, 105, 100, 97, 116, 101] : List UInt8) then (impl_Cc_word.j0 k a1 s0_0 s0_1 s0_2 true s0_4 s0_5) else (impl_Cc_word.j0 k a1 s0_0 s0_1 s0_2 s0_3 s0_4 s0_5))))) = some (r1, r2, r3, r4, r5, r6) := h
 clear h
 have HC3 := am H
 clear H
 go_enter Tryd.func161, Tryd.ntmps161
 go_upto_block 0 with (fail)
 go_cut [] (fun wc => ∃ (kq : Nat) (x1000_2 : Bool) (x1001_2 : Bool) (x1002_2 : Bool) (x1003_2 : Bool), Aside0 (impl_Cc_word.j0 kq a1 x1000_2 x1001_2 x1002_2 x1003_2 s0_4 s0_5 = some (r1, r2, r3, r4, r5, r6)) ∧ Aside0 (kq ≤ k) ∧ Aside0 (IsS106 w0 wc g x1000_2 x1001_2 x1002_2 x1003_2 s0_4 s0_5) ∧ Aside0 (KeepBut w wc g none) ∧ Aside0 (Below w0.heap.size w0 wc))
 case first =>
  have H := HC3.out
  clear HC3
  by_cases c4 : a1.toList = ([110, 111, 45, 115, 116, 111, 114, 101] : List UInt8)
  ·rw [if_pos c4] at H
   have c4b0 : (a1.toList == ([110, 111, 45, 115, 116, 111, 114, 101] : List UInt8)) = true := beq_iff_eq.mpr c4
   have c4b1 : (a1.toList != ([110, 111, 45, 115, 116, 111, 114, 101] : List UInt8)) = false := bne_eq_false_iff_eq.mpr c4
   clear c4
   (first | rw [c4b0] | (simp only [i64_w, i32_w]; rw [c4b0]) | skip)
   have H' := am H
   clear H
   obtain ⟨HGz5, hgz5⟩ := HI0.out
   have hcz5_0 := cellS106_0 HGz5
   have hcz5_1 := cellS106_1 HGz5
   have hcz5_2 := cellS106_2 HGz5
   have hcz5_3 := cellS106_3 HGz5
   have hcz5_4 := cellS106_4 HGz5
   have hcz5_5 := cellS106_5 HGz5
   have hfz5_0 := blk_frozen HGz5 0
   have hfz5_1 := blk_frozen HGz5 1
   have hfz5_2 := blk_frozen HGz5 2
   have hfz5_3 := blk_frozen HGz5 3
   have hfz5_4 := blk_frozen HGz5 4
   have hfz5_5 := blk_frozen HGz5 5
   clear HGz5 hgz5
   go_wp2
   go_meet
   case rel => exact ⟨_, (true), (s0_1), (s0_2), (s0_3), H', ⟨by first | omega | exact Nat.le_refl _⟩, ⟨by repeat (first | (with_reducible first | exact HI0.out | apply IsS106.alloc | apply IsS106.drewN | apply IsS106.drew | apply IsS106.set_0 | apply IsS106.set_1 | apply IsS106.set_2 | apply IsS106.set_3 | apply IsS106.set_4 | apply IsS106.set_5) | exact HI0.out)⟩, ⟨by repeat (first | (with_reducible first | exact HK.out | apply KeepBut.set_ | apply keep_drewN | apply keep_drew | apply keep_alloc) | exact HK.out)⟩, ⟨by repeat (first | (with_reducible first | exact HB.out | apply below_alloc | apply pw_below_drewN | apply below_drew1 | refine below_set ?_ (IsS106.ge HI0.out)) | exact HB.out)⟩⟩
  ·rw [if_neg c4] at H
   have c4b0 : (a1.toList == ([110, 111, 45, 115, 116, 111, 114, 101] : List UInt8)) = false := beq_eq_false_iff_ne.mpr c4
   have c4b1 : (a1.toList != ([110, 111, 45, 115, 116, 111, 114, 101] : List UInt8)) = true := bne_iff_ne.mpr c4
   (first | rw [c4b0] | (simp only [i64_w, i32_w]; rw [c4b0]) | skip)
   by_cases c6 : a1.toList = ([110, 111, 45, 99, 97, 99, 104, 101] : List UInt8)
   ·rw [if_pos c6] at H
    have c6b0 : (a1.toList == ([110, 111, 45, 99, 97, 99, 104, 101] : List UInt8)) = true := beq_iff_eq.mpr c6
    have c6b1 : (a1.toList != ([110, 111, 45, 99, 97, 99, 104, 101] : List UInt8)) = false := bne_eq_false_iff_eq.mpr c6
    clear c6
    have H' := am H
    clear H
    obtain ⟨HGz7, hgz7⟩ := HI0.out
    have hcz7_0 := cellS106_0 HGz7
    have hcz7_1 := cellS106_1 HGz7
    have hcz7_2 := cellS106_2 HGz7
    have hcz7_3 := cellS106_3 HGz7
    have hcz7_4 := cellS106_4 HGz7
    have hcz7_5 := cellS106_5 HGz7
    have hfz7_0 := blk_frozen HGz7 0
    have hfz7_1 := blk_frozen HGz7 1
    have hfz7_2 := blk_frozen HGz7 2
    have hfz7_3 := blk_frozen HGz7 3
    have hfz7_4 := blk_frozen HGz7 4
    have hfz7_5 := blk_frozen HGz7 5
    clear HGz7 hgz7
    go_wp2
    go_meet
    case rel => exact ⟨_, (s0_0), (true), (s0_2), (s0_3), H', ⟨by first | omega | exact Nat.le_refl _⟩, ⟨by repeat (first | (with_reducible first | exact HI0.out | apply IsS106.alloc | apply IsS106.drewN | apply IsS106.drew | apply IsS106.set_0 | apply IsS106.set_1 | apply IsS106.set_2 | apply IsS106.set_3 | apply IsS106.set_4 | apply IsS106.set_5) | exact HI0.out)⟩, ⟨by repeat (first | (with_reducible first | exact HK.out | apply KeepBut.set_ | apply keep_drewN | apply keep_drew | apply keep_alloc) | exact HK.out)⟩, ⟨by repeat (first | (with_reducible first | exact HB.out | apply below_alloc | apply pw_below_drewN | apply below_drew1 | refine below_set ?_ (IsS106.ge HI0.out)) | exact HB.out)⟩⟩
   ·rw [if_neg c6] at H
    have c6b0 : (a1.toList == ([110, 111, 45, 99, 97, 99, 104, 101] : List UInt8)) = false := beq_eq_false_iff_ne.mpr c6
    have c6b1 : (a1.toList != ([110, 111, 45, 99, 97, 99, 104, 101] : List UInt8)) = true := bne_iff_ne.mpr c6
    by_cases c8 : a1.toList = ([112, 114, 105, 118, 97, 116, 101] : List UInt8)
    ·rw [if_pos c8] at H
     have c8b0 : (a1.toList == ([112, 114, 105, 118, 97, 116, 101] : List UInt8)) = true := beq_iff_eq.mpr c8
     have c8b1 : (a1.toList != ([112, 114, 105, 118, 97, 116, 101] : List UInt8)) = false := bne_eq_false_iff_eq.mpr c8
     clear c8
     have H' := am H
     clear H
     obtain ⟨HGz9, hgz9⟩ := HI0.out
     have hcz9_0 := cellS106_0 HGz9
     have hcz9_1 := cellS106_1 HGz9
     have hcz9_2 := cellS106_2 HGz9
     have hcz9_3 := cellS106_3 HGz9
     have hcz9_4 := cellS106_4 HGz9
     have hcz9_5 := cellS106_5 HGz9
     have hfz9_0 := blk_frozen HGz9 0
     have hfz9_1 := blk_frozen HGz9 1
     have hfz9_2 := blk_frozen HGz9 2
     have hfz9_3 := blk_frozen HGz9 3
     have hfz9_4 := blk_frozen HGz9 4
     have hfz9_5 := blk_frozen HGz9 5
     clear HGz9 hgz9
     go_wp2
     go_meet
     case rel => exact ⟨_, (s0_0), (s0_1), (true), (s0_3), H', ⟨by first | omega | exact Nat.le_refl _⟩, ⟨by repeat (first | (with_reducible first | exact HI0.out | apply IsS106.alloc | apply IsS106.drewN | apply IsS106.drew | apply IsS106.set_0 | apply IsS106.set_1 | apply IsS106.set_2 | apply IsS106.set_3 | apply IsS106.set_4 | apply IsS106.set_5) | exact HI0.out)⟩, ⟨by repeat (first | (with_reducible first | exact HK.out | apply KeepBut.set_ | apply keep_drewN | apply keep_drew | apply keep_alloc) | exact HK.out)⟩, ⟨by repeat (first | (with_reducible first | exact HB.out | apply below_alloc | apply pw_below_drewN | apply below_drew1 | refine below_set ?_ (IsS106.ge HI0.out)) | exact HB.out)⟩⟩
    ·rw [if_neg c8] at H
     have c8b0 : (a1.toList == ([112, 114, 105, 118, 97, 116, 101] : List UInt8)) = false := beq_eq_false_iff_ne.mpr c8
     have c8b1 : (a1.toList != ([112, 114, 105, 118, 97, 116, 101] : List UInt8)) = true := bne_iff_ne.mpr c8
     by_cases c10 : a1.toList = ([109, 117, 115, 116, 45, 114, 101, 118, 97, 108, 105, 100, 97, 116, 101] : List UInt8)
     ·rw [if_pos c10] at H
      have c10b0 : (a1.toList == ([109, 117, 115, 116, 45, 114, 101, 118, 97, 108, 105, 100, 97, 116, 101] : List UInt8)) = true := beq_iff_eq.mpr c10
      have c10b1 : (a1.toList != ([109, 117, 115, 116, 45, 114, 101, 118, 97, 108, 105, 100, 97, 116, 101] : List UInt8)) = false := bne_eq_false_iff_eq.mpr c10
      clear c10
      have H' := am H
      clear H
      obtain ⟨HGz11, hgz11⟩ := HI0.out
      have hcz11_0 := cellS106_0 HGz11
      have hcz11_1 := cellS106_1 HGz11
      have hcz11_2 := cellS106_2 HGz11
      have hcz11_3 := cellS106_3 HGz11
      have hcz11_4 := cellS106_4 HGz11
      have hcz11_5 := cellS106_5 HGz11
      have hfz11_0 := blk_frozen HGz11 0
      have hfz11_1 := blk_frozen HGz11 1
      have hfz11_2 := blk_frozen HGz11 2
      have hfz11_3 := blk_frozen HGz11 3
      have hfz11_4 := blk_frozen HGz11 4
      have hfz11_5 := blk_frozen HGz11 5
      clear HGz11 hgz11
      go_wp2
      go_meet
      case rel => exact ⟨_, (s0_0), (s0_1), (s0_2), (true), H', ⟨by first | omega | exact Nat.le_refl _⟩, ⟨by repeat (first | (with_reducible first | exact HI0.out | apply IsS106.alloc | apply IsS106.drewN | apply IsS106.drew | apply IsS106.set_0 | apply IsS106.set_1 | apply IsS106.set_2 | apply IsS106.set_3 | apply IsS106.set_4 | apply IsS106.set_5) | exact HI0.out)⟩, ⟨by repeat (first | (with_reducible first | exact HK.out | apply KeepBut.set_ | apply keep_drewN | apply keep_drew | apply keep_alloc) | exact HK.out)⟩, ⟨by repeat (first | (with_reducible first | exact HB.out | apply below_alloc | apply pw_below_drewN | apply below_drew1 | refine below_set ?_ (IsS106.ge HI0.out)) | exact HB.out)⟩⟩
     ·rw [if_neg c10] at H
      have c10b0 : (a1.toList == ([109, 117, 115, 116, 45, 114, 101, 118, 97, 108, 105, 100, 97, 116, 101] : List UInt8)) = false := beq_eq_false_iff_ne.mpr c10
      have c10b1 : (a1.toList != ([109, 117, 115, 116, 45, 114, 101, 118, 97, 108, 105, 100, 97, 116, 101] : List UInt8)) = true := bne_iff_ne.mpr c10
      have H' := am H
      clear H
      go_wp2
      go_meet
      case rel => exact ⟨_, (s0_0), (s0_1), (s0_2), (s0_3), H', ⟨by first | omega | exact Nat.le_refl _⟩, ⟨by repeat (first | (with_reducible first | exact HI0.out | apply IsS106.alloc | apply IsS106.drewN | apply IsS106.drew | apply IsS106.set_0 | apply IsS106.set_1 | apply IsS106.set_2 | apply IsS106.set_3 | apply IsS106.set_4 | apply IsS106.set_5) | exact HI0.out)⟩, ⟨by repeat (first | (with_reducible first | exact HK.out | apply KeepBut.set_ | apply keep_drewN | apply keep_drew | apply keep_alloc) | exact HK.out)⟩, ⟨by repeat (first | (with_reducible first | exact HB.out | apply below_alloc | apply pw_below_drewN | apply below_drew1 | refine below_set ?_ (IsS106.ge HI0.out)) | exact HB.out)⟩⟩
 case rest =>
  clear HC3
  try clear c1
  try clear p2
  try clear c4
  try clear c4b0
  try clear c4b1
  try clear c6
  try clear c6b0
  try clear c6b1
  try clear c8
  try clear c8b0
  try clear c8b1
  try clear c10
  try clear c10b0
  try clear c10b1
  try clear hcz11_0
  try clear hcz11_1
  try clear hcz11_2
  try clear hcz11_3
  try clear hcz11_4
  try clear hcz11_5
  try clear hcz5_0
  try clear hcz5_1
  try clear hcz5_2
  try clear hcz5_3
  try clear hcz5_4
  try clear hcz5_5
  try clear hcz7_0
  try clear hcz7_1
  try clear hcz7_2
  try clear hcz7_3
  try clear hcz7_4
  try clear hcz7_5
  try clear hcz9_0
  try clear hcz9_1
  try clear hcz9_2
  try clear hcz9_3
  try clear hcz9_4
  try clear hcz9_5
  try clear hfz11_0
  try clear hfz11_1
  try clear hfz11_2
  try clear hfz11_3
  try clear hfz11_4
  try clear hfz11_5
  try clear hfz5_0
  try clear hfz5_1
  try clear hfz5_2
  try clear hfz5_3
  try clear hfz5_4
  try clear hfz5_5
  try clear hfz7_0
  try clear hfz7_1
  try clear hfz7_2
  try clear hfz7_3
  try clear hfz7_4
  try clear hfz7_5
  try clear hfz9_0
  try clear hfz9_1
  try clear hfz9_2
  try clear hfz9_3
  try clear hfz9_4
  try clear hfz9_5
  obtain ⟨kq, x1000_2, x1001_2, x1002_2, x1003_2, HA, HJ2, HI0, HK, HB⟩ := hcut
  cases kq with
  | zero => exact absurd HA.out (by simp [impl_Cc_word.j0])
  | succ kj2 =>
   have H := HA.out
   clear HA
   simp only [impl_Cc_word.j0] at H
   replace H := ob H
   obtain ⟨⟨t1608, t1609⟩, A120, H⟩ := H
   replace H : (if t1609 = true then ((impl_NumRead.f t1608).bind fun bt1610 => (if s0_4 = true then (some (x1000_2, x1001_2, x1002_2, x1003_2, true, mn bt1610.1 s0_5)) else (some (x1000_2, x1001_2, x1002_2, x1003_2, true, bt1610.1)))) else (some (x1000_2, x1001_2, x1002_2, x1003_2, s0_4, s0_5))) = some (r1, r2, r3, r4, r5, r6) := H
   have A12 := am A120
   clear A120
   by_cases c13 : t1609 = true
   ·subst c13
    have H1 : ((impl_NumRead.f t1608).bind fun bt1610 => (if s0_4 = true then (some (x1000_2, x1001_2, x1002_2, x1003_2, true, mn bt1610.1 s0_5)) else (some (x1000_2, x1001_2, x1002_2, x1003_2, true, bt1610.1)))) = some (r1, r2, r3, r4, r5, r6) := by rw [if_pos rfl] at H; exact H
    clear H
    have H := H1
    clear H1
    replace H := ob H
    obtain ⟨⟨t1610, t1611⟩, A140, H⟩ := H
    replace H : (if s0_4 = true then (some (x1000_2, x1001_2, x1002_2, x1003_2, true, mn t1610 s0_5)) else (some (x1000_2, x1001_2, x1002_2, x1003_2, true, t1610))) = some (r1, r2, r3, r4, r5, r6) := H
    have A14 := am A140
    clear A140
    by_cases c15 : s0_4 = true
    ·subst c15
     have H1 : (some (x1000_2, x1001_2, x1002_2, x1003_2, true, mn t1610 s0_5)) = some (r1, r2, r3, r4, r5, r6) := by rw [if_pos rfl] at H; exact H
     clear H
     have H := H1
     clear H1
     obtain ⟨ji16, hji16⟩ : ∃ j_ : Int, (mn t1610 s0_5) = j_ := ⟨_, rfl⟩
     replace H : (some (x1000_2, x1001_2, x1002_2, x1003_2, true, ji16)) = some (r1, r2, r3, r4, r5, r6) := by first | (rw [hji16] at H; exact H) | (simp only [hji16] at H ⊢; exact H)
     (try rw [hji16] at A12)
     (try rw [hji16] at A14)
     have hji16_ : (if s0_5 < t1610 then s0_5 else t1610) = ji16 := hji16
     simp only [Option.some.injEq, Prod.mk.injEq] at H
     obtain ⟨rfl, rfl, rfl, rfl, rfl, rfl⟩ := H
     go_wp2_with (first | ((with_reducible refine gate_callee (f := 194) rfl ?_); refine goesL_ (some 31) rfl rfl Tryd.func194 (by kernel_rfl) rfl #[.string a1, .string (⟨#[109, 97, 120, 45, 97, 103, 101, 61]⟩ : ByteArray)] rfl ma ?_; (with_reducible refine (strings_CutPrefix.calls a1 (⟨#[109, 97, 120, 45, 97, 103, 101, 61]⟩ : ByteArray) t1608 true _ A12.out).mono ?_); rintro e w' ⟨rfl, ⟨nd, rfl⟩⟩; refine ⟨_, rfl, ?_⟩; (try (rw [drewN_self wc]; generalize hq_ : World.drewN wc _ = wc; have n0_ : Aside0 (IsS106 w0 wc g x1000_2 x1001_2 x1002_2 x1003_2 true s0_5) := ⟨by rw [← hq_]; exact (by repeat (first | (with_reducible first | exact HI0.out | apply IsS106.alloc | apply IsS106.drewN | apply IsS106.drew | apply IsS106.set_0 | apply IsS106.set_1 | apply IsS106.set_2 | apply IsS106.set_3 | apply IsS106.set_4 | apply IsS106.set_5) | exact HI0.out))⟩; have n1_ : Aside0 (KeepBut w wc g none) := ⟨by rw [← hq_]; exact (by repeat (first | (with_reducible first | exact HK.out | apply KeepBut.set_ | apply keep_drewN | apply keep_drew | apply keep_alloc) | exact HK.out))⟩; have n2_ : Aside0 (Below w0.heap.size w0 wc) := ⟨by rw [← hq_]; exact (by repeat (first | (with_reducible first | exact HB.out | apply below_alloc | apply pw_below_drewN | apply below_drew1 | refine below_set ?_ (IsS106.ge HI0.out)) | exact HB.out))⟩; clear HI0 HK HB hq_; have HI0 := n0_; have HK := n1_; have HB := n2_; clear n0_ n1_ n2_))) | ((with_reducible refine gate_callee (f := 80) rfl ?_); refine goesL_ (some 38) rfl rfl Tryd.func80 (by kernel_rfl) rfl #[.string t1608] rfl ma ?_; (with_reducible refine (impl_NumRead.calls t1608 t1610 t1611 _ ?side1 ?side2 A14.out).mono ?_); (case side1 => exact GLOBE.below HGE.out (by repeat (first | (with_reducible first | exact HB.out | apply below_alloc | apply pw_below_drewN | apply below_drew1 | refine below_set ?_ (IsS106.ge HI0.out)) | exact HB.out))); (case side2 => exact GLOBT.below HGT.out (by repeat (first | (with_reducible first | exact HB.out | apply below_alloc | apply pw_below_drewN | apply below_drew1 | refine below_set ?_ (IsS106.ge HI0.out)) | exact HB.out))); rintro e w17 ⟨rfl, hb⟩; refine ⟨_, rfl, ?_⟩; replace HK := am (KeepBut.trans (by repeat (first | (with_reducible first | exact HK.out | apply KeepBut.set_ | apply keep_drewN | apply keep_drew | apply keep_alloc) | exact HK.out)) (KeepBut.of_below hb g none) (.inl rfl)); replace HB := am (below_step (by repeat (first | (with_reducible first | exact HB.out | apply below_alloc | apply pw_below_drewN | apply below_drew1 | refine below_set ?_ (IsS106.ge HI0.out)) | exact HB.out)) hb); replace HI0 := am (IsS106.below (by repeat (first | (with_reducible first | exact HI0.out | apply IsS106.alloc | apply IsS106.drewN | apply IsS106.drew | apply IsS106.set_0 | apply IsS106.set_1 | apply IsS106.set_2 | apply IsS106.set_3 | apply IsS106.set_4 | apply IsS106.set_5) | exact HI0.out)) hb); (try clear hb); (try clear hb2); (try clear hk); (try clear hi); obtain ⟨HGz18, hgz18⟩ := HI0.out; have hcz18_0 := cellS106_0 HGz18; have hcz18_1 := cellS106_1 HGz18; have hcz18_2 := cellS106_2 HGz18; have hcz18_3 := cellS106_3 HGz18; have hcz18_4 := cellS106_4 HGz18; have hcz18_5 := cellS106_5 HGz18; have hfz18_0 := blk_frozen HGz18 0; have hfz18_1 := blk_frozen HGz18 1; have hfz18_2 := blk_frozen HGz18 2; have hfz18_3 := blk_frozen HGz18 3; have hfz18_4 := blk_frozen HGz18 4; have hfz18_5 := blk_frozen HGz18 5; clear HGz18 hgz18))
     first | go_end0 | ((try simp only [Exit.inBlock, Exit.then]); refine bodyPost_ret (results_none rfl _ _ _) rfl ?_)
     exact ⟨by first | rfl | (simp [errW_none, errW_some] <;> rfl) | (simp only [← hji16]; first | rfl | (simp [errW_none, errW_some] <;> rfl)) | (simp [*, errW_none, errW_some] <;> rfl), by repeat (first | (with_reducible first | exact HI0.out | apply IsS106.alloc | apply IsS106.drewN | apply IsS106.drew | apply IsS106.set_0 | apply IsS106.set_1 | apply IsS106.set_2 | apply IsS106.set_3 | apply IsS106.set_4 | apply IsS106.set_5) | exact HI0.out), by repeat (first | (with_reducible first | exact HB.out | apply below_alloc | apply pw_below_drewN | apply below_drew1 | refine below_set ?_ (IsS106.ge HI0.out)) | exact HB.out), by repeat (first | (with_reducible first | exact HK.out | apply KeepBut.set_ | apply keep_drewN | apply keep_drew | apply keep_alloc) | exact HK.out)⟩
    ·replace c15 := Bool.eq_false_iff.mpr c15
     subst c15
     have H1 : (some (x1000_2, x1001_2, x1002_2, x1003_2, true, t1610)) = some (r1, r2, r3, r4, r5, r6) := by rw [if_neg (show ¬ (false = true) by decide)] at H; exact H
     clear H
     have H := H1
     clear H1
     simp only [Option.some.injEq, Prod.mk.injEq] at H
     obtain ⟨rfl, rfl, rfl, rfl, rfl, rfl⟩ := H
     go_wp2_with (first | ((with_reducible refine gate_callee (f := 194) rfl ?_); refine goesL_ (some 31) rfl rfl Tryd.func194 (by kernel_rfl) rfl #[.string a1, .string (⟨#[109, 97, 120, 45, 97, 103, 101, 61]⟩ : ByteArray)] rfl ma ?_; (with_reducible refine (strings_CutPrefix.calls a1 (⟨#[109, 97, 120, 45, 97, 103, 101, 61]⟩ : ByteArray) t1608 true _ A12.out).mono ?_); rintro e w' ⟨rfl, ⟨nd, rfl⟩⟩; refine ⟨_, rfl, ?_⟩; (try (rw [drewN_self wc]; generalize hq_ : World.drewN wc _ = wc; have n0_ : Aside0 (IsS106 w0 wc g x1000_2 x1001_2 x1002_2 x1003_2 false s0_5) := ⟨by rw [← hq_]; exact (by repeat (first | (with_reducible first | exact HI0.out | apply IsS106.alloc | apply IsS106.drewN | apply IsS106.drew | apply IsS106.set_0 | apply IsS106.set_1 | apply IsS106.set_2 | apply IsS106.set_3 | apply IsS106.set_4 | apply IsS106.set_5) | exact HI0.out))⟩; have n1_ : Aside0 (KeepBut w wc g none) := ⟨by rw [← hq_]; exact (by repeat (first | (with_reducible first | exact HK.out | apply KeepBut.set_ | apply keep_drewN | apply keep_drew | apply keep_alloc) | exact HK.out))⟩; have n2_ : Aside0 (Below w0.heap.size w0 wc) := ⟨by rw [← hq_]; exact (by repeat (first | (with_reducible first | exact HB.out | apply below_alloc | apply pw_below_drewN | apply below_drew1 | refine below_set ?_ (IsS106.ge HI0.out)) | exact HB.out))⟩; clear HI0 HK HB hq_; have HI0 := n0_; have HK := n1_; have HB := n2_; clear n0_ n1_ n2_))) | ((with_reducible refine gate_callee (f := 80) rfl ?_); refine goesL_ (some 38) rfl rfl Tryd.func80 (by kernel_rfl) rfl #[.string t1608] rfl ma ?_; (with_reducible refine (impl_NumRead.calls t1608 t1610 t1611 _ ?side1 ?side2 A14.out).mono ?_); (case side1 => exact GLOBE.below HGE.out (by repeat (first | (with_reducible first | exact HB.out | apply below_alloc | apply pw_below_drewN | apply below_drew1 | refine below_set ?_ (IsS106.ge HI0.out)) | exact HB.out))); (case side2 => exact GLOBT.below HGT.out (by repeat (first | (with_reducible first | exact HB.out | apply below_alloc | apply pw_below_drewN | apply below_drew1 | refine below_set ?_ (IsS106.ge HI0.out)) | exact HB.out))); rintro e w19 ⟨rfl, hb⟩; refine ⟨_, rfl, ?_⟩; replace HK := am (KeepBut.trans (by repeat (first | (with_reducible first | exact HK.out | apply KeepBut.set_ | apply keep_drewN | apply keep_drew | apply keep_alloc) | exact HK.out)) (KeepBut.of_below hb g none) (.inl rfl)); replace HB := am (below_step (by repeat (first | (with_reducible first | exact HB.out | apply below_alloc | apply pw_below_drewN | apply below_drew1 | refine below_set ?_ (IsS106.ge HI0.out)) | exact HB.out)) hb); replace HI0 := am (IsS106.below (by repeat (first | (with_reducible first | exact HI0.out | apply IsS106.alloc | apply IsS106.drewN | apply IsS106.drew | apply IsS106.set_0 | apply IsS106.set_1 | apply IsS106.set_2 | apply IsS106.set_3 | apply IsS106.set_4 | apply IsS106.set_5) | exact HI0.out)) hb); (try clear hb); (try clear hb2); (try clear hk); (try clear hi); obtain ⟨HGz20, hgz20⟩ := HI0.out; have hcz20_0 := cellS106_0 HGz20; have hcz20_1 := cellS106_1 HGz20; have hcz20_2 := cellS106_2 HGz20; have hcz20_3 := cellS106_3 HGz20; have hcz20_4 := cellS106_4 HGz20; have hcz20_5 := cellS106_5 HGz20; have hfz20_0 := blk_frozen HGz20 0; have hfz20_1 := blk_frozen HGz20 1; have hfz20_2 := blk_frozen HGz20 2; have hfz20_3 := blk_frozen HGz20 3; have hfz20_4 := blk_frozen HGz20 4; have hfz20_5 := blk_frozen HGz20 5; clear HGz20 hgz20))
     first | go_end0 | ((try simp only [Exit.inBlock, Exit.then]); refine bodyPost_ret (results_none rfl _ _ _) rfl ?_)
     exact ⟨rf, by repeat (first | (with_reducible first | exact HI0.out | apply IsS106.alloc | apply IsS106.drewN | apply IsS106.drew | apply IsS106.set_0 | apply IsS106.set_1 | apply IsS106.set_2 | apply IsS106.set_3 | apply IsS106.set_4 | apply IsS106.set_5) | exact HI0.out), by repeat (first | (with_reducible first | exact HB.out | apply below_alloc | apply pw_below_drewN | apply below_drew1 | refine below_set ?_ (IsS106.ge HI0.out)) | exact HB.out), by repeat (first | (with_reducible first | exact HK.out | apply KeepBut.set_ | apply keep_drewN | apply keep_drew | apply keep_alloc) | exact HK.out)⟩
   ·replace c13 := Bool.eq_false_iff.mpr c13
    subst c13
    have H1 : (some (x1000_2, x1001_2, x1002_2, x1003_2, s0_4, s0_5)) = some (r1, r2, r3, r4, r5, r6) := by rw [if_neg (show ¬ (false = true) by decide)] at H; exact H
    clear H
    have H := H1
    clear H1
    simp only [Option.some.injEq, Prod.mk.injEq] at H
    obtain ⟨rfl, rfl, rfl, rfl, rfl, rfl⟩ := H
    go_wp2_with (first | ((with_reducible refine gate_callee (f := 194) rfl ?_); refine goesL_ (some 31) rfl rfl Tryd.func194 (by kernel_rfl) rfl #[.string a1, .string (⟨#[109, 97, 120, 45, 97, 103, 101, 61]⟩ : ByteArray)] rfl ma ?_; (with_reducible refine (strings_CutPrefix.calls a1 (⟨#[109, 97, 120, 45, 97, 103, 101, 61]⟩ : ByteArray) t1608 false _ A12.out).mono ?_); rintro e w' ⟨rfl, ⟨nd, rfl⟩⟩; refine ⟨_, rfl, ?_⟩))
    first | go_end0 | ((try simp only [Exit.inBlock, Exit.then]); refine bodyPost_ret (results_none rfl _ _ _) rfl ?_)
    exact ⟨rf, by repeat (first | (with_reducible first | exact HI0.out | apply IsS106.alloc | apply IsS106.drewN | apply IsS106.drew | apply IsS106.set_0 | apply IsS106.set_1 | apply IsS106.set_2 | apply IsS106.set_3 | apply IsS106.set_4 | apply IsS106.set_5) | exact HI0.out), by repeat (first | (with_reducible first | exact HB.out | apply below_alloc | apply pw_below_drewN | apply below_drew1 | refine below_set ?_ (IsS106.ge HI0.out)) | exact HB.out), by repeat (first | (with_reducible first | exact HK.out | apply KeepBut.set_ | apply keep_drewN | apply keep_drew | apply keep_alloc) | exact HK.out)⟩

/-! ### impl.CcRead: word behind word -/
def ccFold (k : Nat) : List ByteArray → Bool → Bool → Bool → Bool → Bool → Int → Option (Bool × Bool × Bool × Bool × Bool × Int)
 | [], f0, f1, f2, f3, f4, f5 => some (f0, f1, f2, f3, f4, f5)
 | x :: r, f0, f1, f2, f3, f4, f5 => (impl_Lower.f x).bind fun t => (impl_Cc_word.f k f0 f1 f2 f3 f4 f5 t).bind fun s => ccFold k r s.1 s.2.1 s.2.2.1 s.2.2.2.1 s.2.2.2.2.1 s.2.2.2.2.2
theorem ccFold.mono : ∀ xs f0 f1 f2 f3 f4 f5 k, LeO (ccFold k xs f0 f1 f2 f3 f4 f5) (ccFold (k + 1) xs f0 f1 f2 f3 f4 f5)
 | [], _, _, _, _, _, _, _ => LeO.refl _
 | x :: r, f0, f1, f2, f3, f4, f5, k => by
  rw [ccFold, ccFold]
  exact LeO.bind (LeO.refl _) (fun _ => LeO.bind (impl_Cc_word.mono _ _ _ _ _ _ _ _) (fun _ => ccFold.mono _ _ _ _ _ _ _ _))
def impl_CcRead.f (k : Nat) (a0 : ByteArray) : Option (Bool × Bool × Bool × Bool × Bool × Int) := (impl_Split.f k a0).bind fun xs => if xs.length ≤ 4294967296 then ccFold k xs false false false false false 0 else none
theorem impl_CcRead.mono : ∀ a0 k, LeO (impl_CcRead.f k a0) (impl_CcRead.f (k + 1) a0) := fun a0 k => by
 unfold impl_CcRead.f
 exact LeO.bind (impl_Split.mono _ _) (fun _ => LeO.ite (ccFold.mono _ _ _ _ _ _ _ _) (LeO.none _))
set_option maxHeartbeats 8000000 in
set_option maxRecDepth 100000 in
theorem impl_CcRead.calls (k : Nat) (a0 : ByteArray) (r1 : Bool) (r2 : Bool) (r3 : Bool) (r4 : Bool) (r5 : Bool) (r6 : Int) (w : World) (hGE : GLOBE w) (hGM : GLOBM w) (hGT : GLOBT w) (h : impl_CcRead.f k a0 = some (r1, r2, r3, r4, r5, r6)) :
  Calls Tryd.prog 90 #[.string a0] w fun e w' => e = .returned (.agg #[.bool r1, .bool r2, .bool r3, .bool r4, .bool r5, .int .i64 r6]) ∧ Below w.heap.size w w' := by
 unfold impl_CcRead.f at h
 obtain ⟨xs, hxs, h⟩ := Option.bind_eq_some_iff.mp h
 split at h
 case isFalse => cases h
 rename_i hlen
 have HXS := am hxs
 have HLEN := am hlen
 have HH := am h
 have HGE := am hGE
 have HGM := am hGM
 have HGT := am hGT
 clear hxs hlen h hGE hGM hGT
 have HB := am (Below.refl w.heap.size w)
 go_enter Tryd.func90, Tryd.ntmps90
 go_wp2_with (first | ((with_reducible refine gate_dst (N := 2) rfl ?_); refine box_event ?hg (N := 2) ?hd (cs := #[.bool false, .bool false, .bool false, .bool false, .bool false, .int .i64 0]) (t := 106) ?hr ?_; (case hd => rfl); (case hg => rfl); (case hr => first | (go_simp; done) | (go_simp; rfl)); intro gr hgr w2 hbr hb; have HBR := am hbr; have GR := am ((by rw [hgr]; exact (below_size bl) : w.heap.size ≤ gr)); replace HB := am (below_step bl hb); clear hbr hb hgr) | ((with_reducible refine gate_dst (N := 3) rfl ?_); refine box_event ?hg (N := 3) ?hd (cs := #[.bool false, .bool false, .bool false, .bool false, .bool false, .int .i64 0]) (t := 106) ?hr ?_; (case hd => rfl); (case hg => rfl); (case hr => first | (go_simp; done) | (go_simp; rfl)); intro gc hgc w3 hbc hb; have NE := am ((by rw [hgc]; exact Nat.ne_of_lt (blk_lt (bk HBR)) : gr ≠ gc)); have GC := am ((by rw [hgc]; exact (below_size bl) : w.heap.size ≤ gc)); have HI := am (show IsS106 w w3 gc false false false false false 0 from ⟨hbc, GC.out⟩); replace HBR := kb HBR hb; replace HB := am (below_step bl hb); clear hbc hb hgc) | (go_at_call 87; refine (impl_Split.calls k a0 xs _ (GLOBM.below HGM.out bl) HXS.out).mono ?_; rintro e w4 ⟨v7, rfl, ho, hb⟩; have HO := am (show Kd.R Kd.string 9 w4 w.heap.size (fun q_ => q_ ≠ gc) v7 xs from Kd.R_lower (Kd.R_mono (Kd.R_bound ho) (fun q_ hq => fun e_ => by have h1 := IsS106.lt HI.out; have h2 : w3.heap.size ≤ q_ := hq.2.1; omega)) (below_size bl)); replace HI := am (IsS106.below HI.out hb); replace HBR := kb HBR hb; replace HB := am (below_step bl hb); clear ho hb; obtain ⟨A7, c7, e7⟩ := Kd.R_slice HO.out; subst e7))
 have HL := am (show (xs.length : Int) ≤ 4294967296 by have := HLEN.out; omega)
 go_loopw [9] (fun v9 wr => ∃ (n : Nat) (f0 f1 f2 f3 f4 : Bool) (f5 : Int), n ≤ xs.length ∧ v9 = .int .i64 n ∧ Aside0 (ccFold k (xs.drop n) f0 f1 f2 f3 f4 f5 = some (r1, r2, r3, r4, r5, r6)) ∧ Aside0 (Kd.R Kd.string 9 wr w.heap.size (fun q_ => q_ ≠ gc) (.slice A7 xs.length c7) xs) ∧ Aside0 (wr.heap[gr]? = some (.cells #[.bool false, .bool false, .bool false, .bool false, .bool false, .int .i64 0] 106 (0, 0))) ∧ Aside0 (IsS106 w wr gc f0 f1 f2 f3 f4 f5) ∧ Aside0 (Below w.heap.size w wr)) (fun v9 _ => xs.length - (intOf v9).toNat)
 case atStart => exact ⟨0, false, false, false, false, false, 0, Nat.zero_le _, rfl, ⟨by rw [List.drop_zero]; exact HH.out⟩, HO, HBR, HI, HB⟩
 case round =>
  clear HO HBR HI HB
  obtain ⟨n, f0, f1, f2, f3, f4, f5, hn, rfl, HF, HO, HBR, HI, HB⟩ := hrel
  have hn2 : (n : Int) ≤ 4294967296 := by have := HL.out; omega
  by_cases hlt : n < xs.length
  ·obtain ⟨ad, e1, hx0⟩ := Kd.at_string (Kd.R_reads' HO.out).2.2 (n : Int) (by omega) (by omega)
   cases e1
   have hrd : rdOf ByteArray.empty xs (n : Int) = xs[n] := by simp [rdOf, List.getD, hlt]
   rw [hrd, Int.toNat_natCast] at hx0
   have hF := HF.out
   rw [List.drop_eq_getElem_cons hlt, ccFold] at hF
   obtain ⟨x, hx⟩ : ∃ x, x = xs[n] := ⟨_, rfl⟩
   rw [← hx] at hx0 hF
   obtain ⟨t, ht, hF⟩ := Option.bind_eq_some_iff.mp hF
   obtain ⟨⟨g0, g1, g2, g3, g4, g5⟩, hw, hF⟩ := Option.bind_eq_some_iff.mp hF
   have HT := am ht
   have HW := am hw
   have HF2 := am hF
   clear hrd hx ht hw hF HF hn
   go_wp2_with (first | (go_at_call 100; refine (impl_Lower.calls x t _ HT.out).mono ?_; rintro e w5 ⟨rfl, hb⟩; replace HO := kr HO hb; replace HBR := kb HBR hb; replace HI := am (IsS106.below (by repeat (first | (with_reducible first | exact HI.out | apply IsS106.alloc | apply IsS106.drewN | apply IsS106.drew) | exact HI.out)) hb); replace HB := am (below_step bl hb); clear hb) | (go_at_call 161; refine (impl_Cc_word.calls k gc f0 f1 f2 f3 f4 f5 t g0 g1 g2 g3 g4 g5 w _ HGE.out HGT.out (by repeat (first | (with_reducible first | exact HI.out | apply IsS106.alloc | apply IsS106.drewN | apply IsS106.drew) | exact HI.out)) bl HW.out).mono ?_; rintro e w6 ⟨rfl, hi, hb, hk⟩; replace HO := am (Kd.R_keep (ro HO) hk (fun _ hq => hq)); replace HBR := am (KeepBut.blk hk (bk HBR) NE.out (by simp)); replace HI := am hi; replace HB := am hb; clear hi hb hk))
   go_roundw
   case rel => exact ⟨n + 1, g0, g1, g2, g3, g4, g5, by omega, by go_num, HF2, ⟨ro HO⟩, ⟨bk HBR⟩, ⟨by repeat (first | (with_reducible first | exact HI.out | apply IsS106.alloc | apply IsS106.drewN | apply IsS106.drew) | exact HI.out)⟩, ⟨bl⟩⟩
   case measure => simp [intOf]; omega
  ·have hnn : n = xs.length := by omega
   have hF := HF.out
   rw [hnn, List.drop_length, ccFold] at hF
   simp only [Option.some.injEq, Prod.mk.injEq] at hF
   obtain ⟨rfl, rfl, rfl, rfl, rfl, rfl⟩ := hF
   have hi := HI.out.1
   have c0 := (blk_cell hi 0).trans (show _ = some (.bool f0) from rfl)
   have c1 := (blk_cell hi 1).trans (show _ = some (.bool f1) from rfl)
   have c2 := (blk_cell hi 2).trans (show _ = some (.bool f2) from rfl)
   have c3 := (blk_cell hi 3).trans (show _ = some (.bool f3) from rfl)
   have c4 := (blk_cell hi 4).trans (show _ = some (.bool f4) from rfl)
   have c5 := (blk_cell hi 5).trans (show _ = some (.int .i64 f5) from rfl)
   have d0 := (blk_cell HBR.out 0).trans (show _ = some (.bool false) from rfl)
   have d1 := (blk_cell HBR.out 1).trans (show _ = some (.bool false) from rfl)
   have d2 := (blk_cell HBR.out 2).trans (show _ = some (.bool false) from rfl)
   have d3 := (blk_cell HBR.out 3).trans (show _ = some (.bool false) from rfl)
   have d4 := (blk_cell HBR.out 4).trans (show _ = some (.bool false) from rfl)
   have d5 := (blk_cell HBR.out 5).trans (show _ = some (.int .i64 0) from rfl)
   have z0 := blk_frozen HBR.out 0
   have z1 := blk_frozen HBR.out 1
   have z2 := blk_frozen HBR.out 2
   have z3 := blk_frozen HBR.out 3
   have z4 := blk_frozen HBR.out 4
   have z5 := blk_frozen HBR.out 5
   have ne1 := NE.out
   have ne2 := Ne.symm NE.out
   clear hi HF hn hnn
   go_wp2
   refine bodyPost_ret (results_cell_row rfl _ _ gr 106 #[.bool f0, .bool f1, .bool f2, .bool f3, .bool f4, .int .i64 f5] (0, 0) _ rfl (by (with_reducible repeat (first | refine blk_drewN ?_ _ | refine blk_drew ?_ | refine blk_alloc ?_ _)); refine blk_put (cs := #[.bool f0, .bool f1, .bool f2, .bool f3, .bool f4, .int .i64 0]) ?_ 5 _ rfl; refine blk_put (cs := #[.bool f0, .bool f1, .bool f2, .bool f3, .bool false, .int .i64 0]) ?_ 4 _ rfl; refine blk_put (cs := #[.bool f0, .bool f1, .bool f2, .bool false, .bool false, .int .i64 0]) ?_ 3 _ rfl; refine blk_put (cs := #[.bool f0, .bool f1, .bool false, .bool false, .bool false, .int .i64 0]) ?_ 2 _ rfl; refine blk_put (cs := #[.bool f0, .bool false, .bool false, .bool false, .bool false, .int .i64 0]) ?_ 1 _ rfl; refine blk_put (cs := #[.bool false, .bool false, .bool false, .bool false, .bool false, .int .i64 0]) ?_ 0 _ rfl; exact bk HBR) Tryd.underlying106 rfl (by kernel_rfl)) rfl ?_
   exact ⟨rf, by repeat (first | (with_reducible first | exact HB.out | apply below_alloc | apply pw_below_drewN | apply below_drew1 | refine below_set ?_ GR.out) | exact HB.out)⟩

end Go.Proofs.YtiinmfjbildclaaDoor.All
