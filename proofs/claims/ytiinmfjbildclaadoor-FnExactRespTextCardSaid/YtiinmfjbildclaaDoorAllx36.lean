-- Written by a program of this session (wip/tools/hprint.py) out of the translation. Lean checks it.
import Derived.Test.YtiinmfjbildclaaDoorAllx0
import Derived.Test.YtiinmfjbildclaaDoorAllx12
import Derived.Test.YtiinmfjbildclaaDoorAllx34
import Derived.Test.YtiinmfjbildclaaDoorAllx35
namespace Go.Proofs.YtiinmfjbildclaaDoor.All
open Go.RowKit Go.Proofs.YtiinmfjbildclaaDoorW.PrintWords Go.Proofs.YtiinmfjbildclaaDoorW.PrintLast Go.Proofs.YtiinmfjbildclaaDoorW.PrintMore
attribute [local go_sem] max2_int min2_int max_two min_two max_three min_three max_four min_four   -- for this text's walks alone
set_option linter.unusedVariables false
set_option linter.unusedSimpArgs false

/-! ### spec_RespText: function 42 -/
def spec_RespText.f (k : Nat) (a0_0 : Int) (l0_1 : List (S114)) (a0_2 : ByteArray) : Option (ByteArray) := (spec_RespOk.f k a0_0 l0_1 a0_2).bind fun t869 => (if t869 = true then ((spec_NumText.f k a0_0).bind fun t870 => (if 9 + t870.size ≤ 9223372036854775807 then (if ((⟨#[72, 84, 84, 80, 47, 49, 46, 49, 32]⟩ : ByteArray) ++ t870).size + 4 ≤ 9223372036854775807 then ((spec_FieldsText.f k l0_1).bind fun t871 => (if (((⟨#[72, 84, 84, 80, 47, 49, 46, 49, 32]⟩ : ByteArray) ++ t870) ++ (⟨#[32, 46, 13, 10]⟩ : ByteArray)).size + t871.size ≤ 9223372036854775807 then (if ((((⟨#[72, 84, 84, 80, 47, 49, 46, 49, 32]⟩ : ByteArray) ++ t870) ++ (⟨#[32, 46, 13, 10]⟩ : ByteArray)) ++ t871).size + 16 ≤ 9223372036854775807 then ((spec_NumText.f k (a0_2.size : Int)).bind fun t872 => (if (((((⟨#[72, 84, 84, 80, 47, 49, 46, 49, 32]⟩ : ByteArray) ++ t870) ++ (⟨#[32, 46, 13, 10]⟩ : ByteArray)) ++ t871) ++ (⟨#[99, 111, 110, 116, 101, 110, 116, 45, 108, 101, 110, 103, 116, 104, 58, 32]⟩ : ByteArray)).size + t872.size ≤ 9223372036854775807 then (if ((((((⟨#[72, 84, 84, 80, 47, 49, 46, 49, 32]⟩ : ByteArray) ++ t870) ++ (⟨#[32, 46, 13, 10]⟩ : ByteArray)) ++ t871) ++ (⟨#[99, 111, 110, 116, 101, 110, 116, 45, 108, 101, 110, 103, 116, 104, 58, 32]⟩ : ByteArray)) ++ t872).size + 4 ≤ 9223372036854775807 then (if (((((((⟨#[72, 84, 84, 80, 47, 49, 46, 49, 32]⟩ : ByteArray) ++ t870) ++ (⟨#[32, 46, 13, 10]⟩ : ByteArray)) ++ t871) ++ (⟨#[99, 111, 110, 116, 101, 110, 116, 45, 108, 101, 110, 103, 116, 104, 58, 32]⟩ : ByteArray)) ++ t872) ++ (⟨#[13, 10, 13, 10]⟩ : ByteArray)).size + a0_2.size ≤ 9223372036854775807 then (some ((((((((⟨#[72, 84, 84, 80, 47, 49, 46, 49, 32]⟩ : ByteArray) ++ t870) ++ (⟨#[32, 46, 13, 10]⟩ : ByteArray)) ++ t871) ++ (⟨#[99, 111, 110, 116, 101, 110, 116, 45, 108, 101, 110, 103, 116, 104, 58, 32]⟩ : ByteArray)) ++ t872) ++ (⟨#[13, 10, 13, 10]⟩ : ByteArray)) ++ a0_2)) else (none)) else (none)) else (none))) else (none)) else (none))) else (none)) else (none))) else (some (⟨#[]⟩ : ByteArray)))
theorem spec_RespText.mono : ∀ a0 a1 a2 k, LeO (spec_RespText.f k a0 a1 a2) (spec_RespText.f (k + 1) a0 a1 a2) := by
 intro a0 a1 a2 k
 unfold spec_RespText.f
 repeat' first
   | (with_reducible exact spec_FieldsText.mono _ _)
   | (with_reducible exact spec_NumText.mono _ _)
   | (with_reducible exact spec_RespOk.mono _ _ _ _)
   | (with_reducible exact LeO.refl _)
   | (with_reducible exact LeO.none _)
   | (with_reducible refine LeO.ite ?_ ?_)
   | (with_reducible refine LeO.bind ?_ (fun _ => ?_))
   | exact spec_FieldsText.mono _ _
   | exact spec_NumText.mono _ _
   | exact spec_RespOk.mono _ _ _ _
   | exact LeO.none _
   | refine LeO.ite ?_ ?_
   | refine LeO.bind ?_ (fun _ => ?_)
def spec_RespText.T3 : Bool × List (List Nat × List Nat) := (true, [([], []), ([0], [0]), ([1], [1]), ([2], [2]), ([3], [3]), ([], []), ([5], [5]), ([6, 2], [6]), ([4, 7], [4, 7]), ([8], [8]), ([], []), ([10], [10]), ([11], [11]), ([12, 7], [12]), ([9, 13], [9, 13]), ([14], [14]), ([], []), ([16], [16]), ([15, 17], [15, 17]), ([18, 13, 0, 1, 2, 3, 4, 5, 6, 7, 8, 9, 10, 11, 12, 13, 14, 15, 16, 17, 18], [18])])
def spec_RespText.B3 : List Nat := [0, 1, 3, 7, 15, 0, 32, 103, 255, 511, 0, 1024, 3072, 7399, 16383, 32767, 0, 65536, 262143, 524287]
theorem spec_RespText.tab3 : rtab .any (opsOf Tryd.f42 3) = spec_RespText.T3 := by kernel_rfl
theorem spec_RespText.bits3 : waitsOk spec_RespText.T3.2 spec_RespText.B3 = true := by kernel_rfl
set_option maxHeartbeats 8000000 in
set_option maxRecDepth 100000 in
theorem spec_RespText.calls (k : Nat) (a0_0 : Int) (A0_1 : Option Addr) (c0_1 : Nat) (l0_1 : List (S114)) (a0_2 : ByteArray) (r : ByteArray) (w : World) (hr0_1 : Kd.C k114 w A0_1 l0_1.length l0_1) (hc0_1 : l0_1.length ≤ c0_1) (h : spec_RespText.f k a0_0 l0_1 a0_2 = some r) :
  Calls Tryd.prog 42 #[.agg #[.int .i64 a0_0, .slice A0_1 l0_1.length c0_1, .string a0_2]] w fun e w' => e = .returned (.string r) ∧ Below w.heap.size w w' := by
 have hu43 := Tryd.underlying43
 have HR0_1 := am hr0_1
 have HC0_1 := am hc0_1
 clear hr0_1 hc0_1
 have HB := am (Below.refl w.heap.size w)
 have H : ((spec_RespOk.f k a0_0 l0_1 a0_2).bind fun t869 => (if t869 = true then ((spec_NumText.f k a0_0).bind fun t870 => (if 9 + t870.size ≤ 9223372036854775807 then (if ((⟨#[72, 84, 84, 80, 47, 49, 46, 49, 32]⟩ : ByteArray) ++ t870).size + 4 ≤ 9223372036854775807 then ((spec_FieldsText.f k l0_1).bind fun t871 => (if (((⟨#[72, 84, 84, 80, 47, 49, 46, 49, 32]⟩ : ByteArray) ++ t870) ++ (⟨#[32, 46, 13, 10]⟩ : ByteArray)).size + t871.size ≤ 9223372036854775807 then (if ((((⟨#[72, 84, 84, 80, 47, 49, 46, 49, 32]⟩ : ByteArray) ++ t870) ++ (⟨#[32, 46, 13, 10]⟩ : ByteArray)) ++ t871).size + 16 ≤ 9223372036854775807 then ((spec_NumText.f k (a0_2.size : Int)).bind fun t872 => (if (((((⟨#[72, 84, 84, 80, 47, 49, 46, 49, 32]⟩ : ByteArray) ++ t870) ++ (⟨#[32, 46, 13, 10]⟩ : ByteArray)) ++ t871) ++ (⟨#[99, 111, 110, 116, 101, 110, 116, 45, 108, 101, 110, 103, 116, 104, 58, 32]⟩ : ByteArray)).size + t872.size ≤ 9223372036854775807 then (if ((((((⟨#[72, 84, 84, 80, 47, 49, 46, 49, 32]⟩ : ByteArray) ++ t870) ++ (⟨#[32, 46, 13, 10]⟩ : ByteArray)) ++ t871) ++ (⟨#[99, 111, 110, 116, 101, 110, 116, 45, 108, 101, 110, 103, 116, 104, 58, 32]⟩ : ByteArray)) ++ t872).size + 4 ≤ 9223372036854775807 then (if (((((((⟨#[72, 84, 84, 80, 47, 49, 46, 49, 32]⟩ : ByteArray) ++ t870) ++ (⟨#[32, 46, 13, 10]⟩ : ByteArray)) ++ t871) ++ (⟨#[99, 111, 110, 116, 101, 110, 116, 45, 108, 101, 110, 103, 116, 104, 58, 32]⟩ : ByteArray)) ++ t872) ++ (⟨#[13, 10, 13, 10]⟩ : ByteArray)).size + a0_2.size ≤ 9223372036854775807 then (some ((((((((⟨#[72, 84, 84, 80, 47, 49, 46, 49, 32]⟩ : ByteArray) ++ t870) ++ (⟨#[32, 46, 13, 10]⟩ : ByteArray)) ++ t871) ++ (⟨#[99, 111, 110, 116, 101, 110, 116, 45, 108, 101, 110, 103, 116, 104, 58, 32]⟩ : ByteArray)) ++ t872) ++ (⟨#[13, 10, 13, 10]⟩ : ByteArray)) ++ a0_2)) else (none)) else (none)) else (none))) else (none)) else (none))) else (none)) else (none))) else (some (⟨#[]⟩ : ByteArray)))) = some r := h
 clear h
 replace H := ob H
 obtain ⟨t869, A20, H⟩ := H
 replace H : (if t869 = true then ((spec_NumText.f k a0_0).bind fun t870 => (if 9 + t870.size ≤ 9223372036854775807 then (if ((⟨#[72, 84, 84, 80, 47, 49, 46, 49, 32]⟩ : ByteArray) ++ t870).size + 4 ≤ 9223372036854775807 then ((spec_FieldsText.f k l0_1).bind fun t871 => (if (((⟨#[72, 84, 84, 80, 47, 49, 46, 49, 32]⟩ : ByteArray) ++ t870) ++ (⟨#[32, 46, 13, 10]⟩ : ByteArray)).size + t871.size ≤ 9223372036854775807 then (if ((((⟨#[72, 84, 84, 80, 47, 49, 46, 49, 32]⟩ : ByteArray) ++ t870) ++ (⟨#[32, 46, 13, 10]⟩ : ByteArray)) ++ t871).size + 16 ≤ 9223372036854775807 then ((spec_NumText.f k (a0_2.size : Int)).bind fun t872 => (if (((((⟨#[72, 84, 84, 80, 47, 49, 46, 49, 32]⟩ : ByteArray) ++ t870) ++ (⟨#[32, 46, 13, 10]⟩ : ByteArray)) ++ t871) ++ (⟨#[99, 111, 110, 116, 101, 110, 116, 45, 108, 101, 110, 103, 116, 104, 58, 32]⟩ : ByteArray)).size + t872.size ≤ 9223372036854775807 then (if ((((((⟨#[72, 84, 84, 80, 47, 49, 46, 49, 32]⟩ : ByteArray) ++ t870) ++ (⟨#[32, 46, 13, 10]⟩ : ByteArray)) ++ t871) ++ (⟨#[99, 111, 110, 116, 101, 110, 116, 45, 108, 101, 110, 103, 116, 104, 58, 32]⟩ : ByteArray)) ++ t872).size + 4 ≤ 9223372036854775807 then (if (((((((⟨#[72, 84, 84, 80, 47, 49, 46, 49, 32]⟩ : ByteArray) ++ t870) ++ (⟨#[32, 46, 13, 10]⟩ : ByteArray)) ++ t871) ++ (⟨#[99, 111, 110, 116, 101, 110, 116, 45, 108, 101, 110, 103, 116, 104, 58, 32]⟩ : ByteArray)) ++ t872) ++ (⟨#[13, 10, 13, 10]⟩ : ByteArray)).size + a0_2.size ≤ 9223372036854775807 then (some ((((((((⟨#[72, 84, 84, 80, 47, 49, 46, 49, 32]⟩ : ByteArray) ++ t870) ++ (⟨#[32, 46, 13, 10]⟩ : ByteArray)) ++ t871) ++ (⟨#[99, 111, 110, 116, 101, 110, 116, 45, 108, 101, 110, 103, 116, 104, 58, 32]⟩ : ByteArray)) ++ t872) ++ (⟨#[13, 10, 13, 10]⟩ : ByteArray)) ++ a0_2)) else (none)) else (none)) else (none))) else (none)) else (none))) else (none)) else (none))) else (some (⟨#[]⟩ : ByteArray))) = some r := H
 have A2 := am A20
 clear A20
 by_cases c3 : t869 = true
 ·subst c3
  have H1 : ((spec_NumText.f k a0_0).bind fun t870 => (if 9 + t870.size ≤ 9223372036854775807 then (if ((⟨#[72, 84, 84, 80, 47, 49, 46, 49, 32]⟩ : ByteArray) ++ t870).size + 4 ≤ 9223372036854775807 then ((spec_FieldsText.f k l0_1).bind fun t871 => (if (((⟨#[72, 84, 84, 80, 47, 49, 46, 49, 32]⟩ : ByteArray) ++ t870) ++ (⟨#[32, 46, 13, 10]⟩ : ByteArray)).size + t871.size ≤ 9223372036854775807 then (if ((((⟨#[72, 84, 84, 80, 47, 49, 46, 49, 32]⟩ : ByteArray) ++ t870) ++ (⟨#[32, 46, 13, 10]⟩ : ByteArray)) ++ t871).size + 16 ≤ 9223372036854775807 then ((spec_NumText.f k (a0_2.size : Int)).bind fun t872 => (if (((((⟨#[72, 84, 84, 80, 47, 49, 46, 49, 32]⟩ : ByteArray) ++ t870) ++ (⟨#[32, 46, 13, 10]⟩ : ByteArray)) ++ t871) ++ (⟨#[99, 111, 110, 116, 101, 110, 116, 45, 108, 101, 110, 103, 116, 104, 58, 32]⟩ : ByteArray)).size + t872.size ≤ 9223372036854775807 then (if ((((((⟨#[72, 84, 84, 80, 47, 49, 46, 49, 32]⟩ : ByteArray) ++ t870) ++ (⟨#[32, 46, 13, 10]⟩ : ByteArray)) ++ t871) ++ (⟨#[99, 111, 110, 116, 101, 110, 116, 45, 108, 101, 110, 103, 116, 104, 58, 32]⟩ : ByteArray)) ++ t872).size + 4 ≤ 9223372036854775807 then (if (((((((⟨#[72, 84, 84, 80, 47, 49, 46, 49, 32]⟩ : ByteArray) ++ t870) ++ (⟨#[32, 46, 13, 10]⟩ : ByteArray)) ++ t871) ++ (⟨#[99, 111, 110, 116, 101, 110, 116, 45, 108, 101, 110, 103, 116, 104, 58, 32]⟩ : ByteArray)) ++ t872) ++ (⟨#[13, 10, 13, 10]⟩ : ByteArray)).size + a0_2.size ≤ 9223372036854775807 then (some ((((((((⟨#[72, 84, 84, 80, 47, 49, 46, 49, 32]⟩ : ByteArray) ++ t870) ++ (⟨#[32, 46, 13, 10]⟩ : ByteArray)) ++ t871) ++ (⟨#[99, 111, 110, 116, 101, 110, 116, 45, 108, 101, 110, 103, 116, 104, 58, 32]⟩ : ByteArray)) ++ t872) ++ (⟨#[13, 10, 13, 10]⟩ : ByteArray)) ++ a0_2)) else (none)) else (none)) else (none))) else (none)) else (none))) else (none)) else (none))) = some r := by rw [if_pos rfl] at H; exact H
  clear H
  have H := H1
  clear H1
  replace H := ob H
  obtain ⟨t870, A40, H⟩ := H
  replace H : (if 9 + t870.size ≤ 9223372036854775807 then (if ((⟨#[72, 84, 84, 80, 47, 49, 46, 49, 32]⟩ : ByteArray) ++ t870).size + 4 ≤ 9223372036854775807 then ((spec_FieldsText.f k l0_1).bind fun t871 => (if (((⟨#[72, 84, 84, 80, 47, 49, 46, 49, 32]⟩ : ByteArray) ++ t870) ++ (⟨#[32, 46, 13, 10]⟩ : ByteArray)).size + t871.size ≤ 9223372036854775807 then (if ((((⟨#[72, 84, 84, 80, 47, 49, 46, 49, 32]⟩ : ByteArray) ++ t870) ++ (⟨#[32, 46, 13, 10]⟩ : ByteArray)) ++ t871).size + 16 ≤ 9223372036854775807 then ((spec_NumText.f k (a0_2.size : Int)).bind fun t872 => (if (((((⟨#[72, 84, 84, 80, 47, 49, 46, 49, 32]⟩ : ByteArray) ++ t870) ++ (⟨#[32, 46, 13, 10]⟩ : ByteArray)) ++ t871) ++ (⟨#[99, 111, 110, 116, 101, 110, 116, 45, 108, 101, 110, 103, 116, 104, 58, 32]⟩ : ByteArray)).size + t872.size ≤ 9223372036854775807 then (if ((((((⟨#[72, 84, 84, 80, 47, 49, 46, 49, 32]⟩ : ByteArray) ++ t870) ++ (⟨#[32, 46, 13, 10]⟩ : ByteArray)) ++ t871) ++ (⟨#[99, 111, 110, 116, 101, 110, 116, 45, 108, 101, 110, 103, 116, 104, 58, 32]⟩ : ByteArray)) ++ t872).size + 4 ≤ 9223372036854775807 then (if (((((((⟨#[72, 84, 84, 80, 47, 49, 46, 49, 32]⟩ : ByteArray) ++ t870) ++ (⟨#[32, 46, 13, 10]⟩ : ByteArray)) ++ t871) ++ (⟨#[99, 111, 110, 116, 101, 110, 116, 45, 108, 101, 110, 103, 116, 104, 58, 32]⟩ : ByteArray)) ++ t872) ++ (⟨#[13, 10, 13, 10]⟩ : ByteArray)).size + a0_2.size ≤ 9223372036854775807 then (some ((((((((⟨#[72, 84, 84, 80, 47, 49, 46, 49, 32]⟩ : ByteArray) ++ t870) ++ (⟨#[32, 46, 13, 10]⟩ : ByteArray)) ++ t871) ++ (⟨#[99, 111, 110, 116, 101, 110, 116, 45, 108, 101, 110, 103, 116, 104, 58, 32]⟩ : ByteArray)) ++ t872) ++ (⟨#[13, 10, 13, 10]⟩ : ByteArray)) ++ a0_2)) else (none)) else (none)) else (none))) else (none)) else (none))) else (none)) else (none)) = some r := H
  have A4 := am A40
  clear A40
  by_cases c5 : 9 + t870.size ≤ 9223372036854775807
  ·rw [if_pos c5] at H
   have c5b0 := eq_true c5
   have c5b1 : decide (9 + t870.size ≤ 9223372036854775807) = true := decide_eq_true c5
   try have c5b2 : (9223372036854775807 < 9 + t870.size) = False := eq_false (Nat.not_lt.2 c5)
   by_cases c6 : ((⟨#[72, 84, 84, 80, 47, 49, 46, 49, 32]⟩ : ByteArray) ++ t870).size + 4 ≤ 9223372036854775807
   ·rw [if_pos c6] at H
    have c6b0 := eq_true c6
    have c6b1 : decide (((⟨#[72, 84, 84, 80, 47, 49, 46, 49, 32]⟩ : ByteArray) ++ t870).size + 4 ≤ 9223372036854775807) = true := decide_eq_true c6
    try have c6b2 : (9223372036854775807 < ((⟨#[72, 84, 84, 80, 47, 49, 46, 49, 32]⟩ : ByteArray) ++ t870).size + 4) = False := eq_false (Nat.not_lt.2 c6)
    have c6b3 : (9223372036854775807 < 9 + (t870).size + 4) = False := eq_false (Nat.not_lt.2 (by have h_ := c6; simp only [ByteArray.size_append] at h_; first | exact h_ | (simp only [ByteArray.size_extract] at h_; rw [Nat.min_eq_left (by omega)] at h_; exact h_)))
    replace H := ob H
    obtain ⟨t871, A70, H⟩ := H
    replace H : (if (((⟨#[72, 84, 84, 80, 47, 49, 46, 49, 32]⟩ : ByteArray) ++ t870) ++ (⟨#[32, 46, 13, 10]⟩ : ByteArray)).size + t871.size ≤ 9223372036854775807 then (if ((((⟨#[72, 84, 84, 80, 47, 49, 46, 49, 32]⟩ : ByteArray) ++ t870) ++ (⟨#[32, 46, 13, 10]⟩ : ByteArray)) ++ t871).size + 16 ≤ 9223372036854775807 then ((spec_NumText.f k (a0_2.size : Int)).bind fun t872 => (if (((((⟨#[72, 84, 84, 80, 47, 49, 46, 49, 32]⟩ : ByteArray) ++ t870) ++ (⟨#[32, 46, 13, 10]⟩ : ByteArray)) ++ t871) ++ (⟨#[99, 111, 110, 116, 101, 110, 116, 45, 108, 101, 110, 103, 116, 104, 58, 32]⟩ : ByteArray)).size + t872.size ≤ 9223372036854775807 then (if ((((((⟨#[72, 84, 84, 80, 47, 49, 46, 49, 32]⟩ : ByteArray) ++ t870) ++ (⟨#[32, 46, 13, 10]⟩ : ByteArray)) ++ t871) ++ (⟨#[99, 111, 110, 116, 101, 110, 116, 45, 108, 101, 110, 103, 116, 104, 58, 32]⟩ : ByteArray)) ++ t872).size + 4 ≤ 9223372036854775807 then (if (((((((⟨#[72, 84, 84, 80, 47, 49, 46, 49, 32]⟩ : ByteArray) ++ t870) ++ (⟨#[32, 46, 13, 10]⟩ : ByteArray)) ++ t871) ++ (⟨#[99, 111, 110, 116, 101, 110, 116, 45, 108, 101, 110, 103, 116, 104, 58, 32]⟩ : ByteArray)) ++ t872) ++ (⟨#[13, 10, 13, 10]⟩ : ByteArray)).size + a0_2.size ≤ 9223372036854775807 then (some ((((((((⟨#[72, 84, 84, 80, 47, 49, 46, 49, 32]⟩ : ByteArray) ++ t870) ++ (⟨#[32, 46, 13, 10]⟩ : ByteArray)) ++ t871) ++ (⟨#[99, 111, 110, 116, 101, 110, 116, 45, 108, 101, 110, 103, 116, 104, 58, 32]⟩ : ByteArray)) ++ t872) ++ (⟨#[13, 10, 13, 10]⟩ : ByteArray)) ++ a0_2)) else (none)) else (none)) else (none))) else (none)) else (none)) = some r := H
    have A7 := am A70
    clear A70
    by_cases c8 : (((⟨#[72, 84, 84, 80, 47, 49, 46, 49, 32]⟩ : ByteArray) ++ t870) ++ (⟨#[32, 46, 13, 10]⟩ : ByteArray)).size + t871.size ≤ 9223372036854775807
    ·rw [if_pos c8] at H
     have c8b0 := eq_true c8
     have c8b1 : decide ((((⟨#[72, 84, 84, 80, 47, 49, 46, 49, 32]⟩ : ByteArray) ++ t870) ++ (⟨#[32, 46, 13, 10]⟩ : ByteArray)).size + t871.size ≤ 9223372036854775807) = true := decide_eq_true c8
     try have c8b2 : (9223372036854775807 < (((⟨#[72, 84, 84, 80, 47, 49, 46, 49, 32]⟩ : ByteArray) ++ t870) ++ (⟨#[32, 46, 13, 10]⟩ : ByteArray)).size + t871.size) = False := eq_false (Nat.not_lt.2 c8)
     have c8b3 : (9223372036854775807 < 9 + (t870).size + 4 + (t871).size) = False := eq_false (Nat.not_lt.2 (by have h_ := c8; simp only [ByteArray.size_append] at h_; first | exact h_ | (simp only [ByteArray.size_extract] at h_; rw [Nat.min_eq_left (by omega)] at h_; exact h_)))
     by_cases c9 : ((((⟨#[72, 84, 84, 80, 47, 49, 46, 49, 32]⟩ : ByteArray) ++ t870) ++ (⟨#[32, 46, 13, 10]⟩ : ByteArray)) ++ t871).size + 16 ≤ 9223372036854775807
     ·rw [if_pos c9] at H
      have c9b0 := eq_true c9
      have c9b1 : decide (((((⟨#[72, 84, 84, 80, 47, 49, 46, 49, 32]⟩ : ByteArray) ++ t870) ++ (⟨#[32, 46, 13, 10]⟩ : ByteArray)) ++ t871).size + 16 ≤ 9223372036854775807) = true := decide_eq_true c9
      try have c9b2 : (9223372036854775807 < ((((⟨#[72, 84, 84, 80, 47, 49, 46, 49, 32]⟩ : ByteArray) ++ t870) ++ (⟨#[32, 46, 13, 10]⟩ : ByteArray)) ++ t871).size + 16) = False := eq_false (Nat.not_lt.2 c9)
      have c9b3 : (9223372036854775807 < 9 + (t870).size + 4 + (t871).size + 16) = False := eq_false (Nat.not_lt.2 (by have h_ := c9; simp only [ByteArray.size_append] at h_; first | exact h_ | (simp only [ByteArray.size_extract] at h_; rw [Nat.min_eq_left (by omega)] at h_; exact h_)))
      replace H := ob H
      obtain ⟨t872, A100, H⟩ := H
      replace H : (if (((((⟨#[72, 84, 84, 80, 47, 49, 46, 49, 32]⟩ : ByteArray) ++ t870) ++ (⟨#[32, 46, 13, 10]⟩ : ByteArray)) ++ t871) ++ (⟨#[99, 111, 110, 116, 101, 110, 116, 45, 108, 101, 110, 103, 116, 104, 58, 32]⟩ : ByteArray)).size + t872.size ≤ 9223372036854775807 then (if ((((((⟨#[72, 84, 84, 80, 47, 49, 46, 49, 32]⟩ : ByteArray) ++ t870) ++ (⟨#[32, 46, 13, 10]⟩ : ByteArray)) ++ t871) ++ (⟨#[99, 111, 110, 116, 101, 110, 116, 45, 108, 101, 110, 103, 116, 104, 58, 32]⟩ : ByteArray)) ++ t872).size + 4 ≤ 9223372036854775807 then (if (((((((⟨#[72, 84, 84, 80, 47, 49, 46, 49, 32]⟩ : ByteArray) ++ t870) ++ (⟨#[32, 46, 13, 10]⟩ : ByteArray)) ++ t871) ++ (⟨#[99, 111, 110, 116, 101, 110, 116, 45, 108, 101, 110, 103, 116, 104, 58, 32]⟩ : ByteArray)) ++ t872) ++ (⟨#[13, 10, 13, 10]⟩ : ByteArray)).size + a0_2.size ≤ 9223372036854775807 then (some ((((((((⟨#[72, 84, 84, 80, 47, 49, 46, 49, 32]⟩ : ByteArray) ++ t870) ++ (⟨#[32, 46, 13, 10]⟩ : ByteArray)) ++ t871) ++ (⟨#[99, 111, 110, 116, 101, 110, 116, 45, 108, 101, 110, 103, 116, 104, 58, 32]⟩ : ByteArray)) ++ t872) ++ (⟨#[13, 10, 13, 10]⟩ : ByteArray)) ++ a0_2)) else (none)) else (none)) else (none)) = some r := H
      have A10 := am A100
      clear A100
      by_cases c11 : (((((⟨#[72, 84, 84, 80, 47, 49, 46, 49, 32]⟩ : ByteArray) ++ t870) ++ (⟨#[32, 46, 13, 10]⟩ : ByteArray)) ++ t871) ++ (⟨#[99, 111, 110, 116, 101, 110, 116, 45, 108, 101, 110, 103, 116, 104, 58, 32]⟩ : ByteArray)).size + t872.size ≤ 9223372036854775807
      ·rw [if_pos c11] at H
       have c11b0 := eq_true c11
       have c11b1 : decide ((((((⟨#[72, 84, 84, 80, 47, 49, 46, 49, 32]⟩ : ByteArray) ++ t870) ++ (⟨#[32, 46, 13, 10]⟩ : ByteArray)) ++ t871) ++ (⟨#[99, 111, 110, 116, 101, 110, 116, 45, 108, 101, 110, 103, 116, 104, 58, 32]⟩ : ByteArray)).size + t872.size ≤ 9223372036854775807) = true := decide_eq_true c11
       try have c11b2 : (9223372036854775807 < (((((⟨#[72, 84, 84, 80, 47, 49, 46, 49, 32]⟩ : ByteArray) ++ t870) ++ (⟨#[32, 46, 13, 10]⟩ : ByteArray)) ++ t871) ++ (⟨#[99, 111, 110, 116, 101, 110, 116, 45, 108, 101, 110, 103, 116, 104, 58, 32]⟩ : ByteArray)).size + t872.size) = False := eq_false (Nat.not_lt.2 c11)
       have c11b3 : (9223372036854775807 < 9 + (t870).size + 4 + (t871).size + 16 + (t872).size) = False := eq_false (Nat.not_lt.2 (by have h_ := c11; simp only [ByteArray.size_append] at h_; first | exact h_ | (simp only [ByteArray.size_extract] at h_; rw [Nat.min_eq_left (by omega)] at h_; exact h_)))
       by_cases c12 : ((((((⟨#[72, 84, 84, 80, 47, 49, 46, 49, 32]⟩ : ByteArray) ++ t870) ++ (⟨#[32, 46, 13, 10]⟩ : ByteArray)) ++ t871) ++ (⟨#[99, 111, 110, 116, 101, 110, 116, 45, 108, 101, 110, 103, 116, 104, 58, 32]⟩ : ByteArray)) ++ t872).size + 4 ≤ 9223372036854775807
       ·rw [if_pos c12] at H
        have c12b0 := eq_true c12
        have c12b1 : decide (((((((⟨#[72, 84, 84, 80, 47, 49, 46, 49, 32]⟩ : ByteArray) ++ t870) ++ (⟨#[32, 46, 13, 10]⟩ : ByteArray)) ++ t871) ++ (⟨#[99, 111, 110, 116, 101, 110, 116, 45, 108, 101, 110, 103, 116, 104, 58, 32]⟩ : ByteArray)) ++ t872).size + 4 ≤ 9223372036854775807) = true := decide_eq_true c12
        try have c12b2 : (9223372036854775807 < ((((((⟨#[72, 84, 84, 80, 47, 49, 46, 49, 32]⟩ : ByteArray) ++ t870) ++ (⟨#[32, 46, 13, 10]⟩ : ByteArray)) ++ t871) ++ (⟨#[99, 111, 110, 116, 101, 110, 116, 45, 108, 101, 110, 103, 116, 104, 58, 32]⟩ : ByteArray)) ++ t872).size + 4) = False := eq_false (Nat.not_lt.2 c12)
        have c12b3 : (9223372036854775807 < 9 + (t870).size + 4 + (t871).size + 16 + (t872).size + 4) = False := eq_false (Nat.not_lt.2 (by have h_ := c12; simp only [ByteArray.size_append] at h_; first | exact h_ | (simp only [ByteArray.size_extract] at h_; rw [Nat.min_eq_left (by omega)] at h_; exact h_)))
        by_cases c13 : (((((((⟨#[72, 84, 84, 80, 47, 49, 46, 49, 32]⟩ : ByteArray) ++ t870) ++ (⟨#[32, 46, 13, 10]⟩ : ByteArray)) ++ t871) ++ (⟨#[99, 111, 110, 116, 101, 110, 116, 45, 108, 101, 110, 103, 116, 104, 58, 32]⟩ : ByteArray)) ++ t872) ++ (⟨#[13, 10, 13, 10]⟩ : ByteArray)).size + a0_2.size ≤ 9223372036854775807
        ·rw [if_pos c13] at H
         have c13b0 := eq_true c13
         have c13b1 : decide ((((((((⟨#[72, 84, 84, 80, 47, 49, 46, 49, 32]⟩ : ByteArray) ++ t870) ++ (⟨#[32, 46, 13, 10]⟩ : ByteArray)) ++ t871) ++ (⟨#[99, 111, 110, 116, 101, 110, 116, 45, 108, 101, 110, 103, 116, 104, 58, 32]⟩ : ByteArray)) ++ t872) ++ (⟨#[13, 10, 13, 10]⟩ : ByteArray)).size + a0_2.size ≤ 9223372036854775807) = true := decide_eq_true c13
         try have c13b2 : (9223372036854775807 < (((((((⟨#[72, 84, 84, 80, 47, 49, 46, 49, 32]⟩ : ByteArray) ++ t870) ++ (⟨#[32, 46, 13, 10]⟩ : ByteArray)) ++ t871) ++ (⟨#[99, 111, 110, 116, 101, 110, 116, 45, 108, 101, 110, 103, 116, 104, 58, 32]⟩ : ByteArray)) ++ t872) ++ (⟨#[13, 10, 13, 10]⟩ : ByteArray)).size + a0_2.size) = False := eq_false (Nat.not_lt.2 c13)
         have c13b3 : (9223372036854775807 < 9 + (t870).size + 4 + (t871).size + 16 + (t872).size + 4 + (a0_2).size) = False := eq_false (Nat.not_lt.2 (by have h_ := c13; simp only [ByteArray.size_append] at h_; first | exact h_ | (simp only [ByteArray.size_extract] at h_; rw [Nat.min_eq_left (by omega)] at h_; exact h_)))
         obtain rfl := Option.some.inj H
         go_enter Tryd.func42, Tryd.ntmps42
         try go_wp2_with (first | ((with_reducible refine gate_dst (N := 1) rfl ?_); refine box_event ?hg (N := 1) ?hd (cs := #[.int .i64 a0_0, .slice A0_1 l0_1.length c0_1, .string a0_2]) (t := 43) ?hr ?_; (case hd => rfl); (case hg => rfl); (case hr => first | (go_simp; done) | (go_simp; rfl)); intro gb868 hg w14 hbox hb; have n0_ := am (below_step bl hb); have n1_ := am (hbox); have n2_ := am (sz hg : w.heap.size ≤ gb868); have n3_ := am (sz hg : w.heap.size ≤ gb868); clear HB; have HB := n0_; have BK868 := n1_; have GW868 := n2_; have GE868 := n3_; clear n0_ n1_ n2_ n3_; clear hb hbox hg; have hcz15_0 : w14.cell? ⟨gb868, 0, none⟩ = some (.int .i64 a0_0) := bc BK868; have hcz15_1 : w14.cell? ⟨gb868, 1, none⟩ = some (.slice A0_1 l0_1.length c0_1) := bc BK868; have hcz15_2 : w14.cell? ⟨gb868, 2, none⟩ = some (.string a0_2) := bc BK868; have hfz15_0 := blk_frozen BK868.out 0; have hfz15_1 := blk_frozen BK868.out 1; have hfz15_2 := blk_frozen BK868.out 2) | ((with_reducible refine gate_callee (f := 121) rfl ?_); refine goesL_ (some 4) rfl rfl Tryd.func121 (by kernel_rfl) rfl #[.agg #[.int .i64 a0_0, .slice A0_1 l0_1.length c0_1, .string a0_2]] rfl ma ?_; (with_reducible refine (spec_RespOk.calls k a0_0 _ _ l0_1 a0_2 true _ ?side1 ?side2 A2.out).mono ?_); (case side1 => exact cb HR0_1); (case side2 => exact HC0_1.out); rintro e w16 ⟨rfl, hb⟩; refine ⟨_, rfl, ?_⟩; replace BK868 := kb BK868 hb; replace HB := am (below_step bl hb); (try clear hb); (try clear hb2); (try clear hk); (try clear hi)))
         replace BK868 := am (blk_drew BK868.out)
         replace HB := am (below_drew1 HB.out)
         refine start_ (n := 20) (S := fun w' => w'.cell? ⟨gb868, 0, none⟩ = some (.int .i64 a0_0) ∧ w'.cell? ⟨gb868, 1, none⟩ = some (.slice A0_1 l0_1.length c0_1) ∧ w'.cell? ⟨gb868, 2, none⟩ = some (.string a0_2)) (ds := []) #[false, false, false, false, false, false, false, false, false, false, false, false, false, false, false, false, false, false, false, false] (by kernel_rfl) rfl rfl ⟨bc BK868, bc BK868, bc BK868⟩ (fun hHeld => ?_); refine with_tabW spec_RespText.tab3 spec_RespText.bits3 (fun HT_ HW_ => ?_)
         generalize w16.drew = w17 at BK868 HB hHeld ⊢
         refine pure_ (i := 0) (N := some 6) (v := ?_) (a' := ?_) #[true, false, false, false, false, false, false, false, false, false, false, false, false, false, false, false, false, false, false, false] rfl rfl (any_of HT_.out (by kernel_rfl)) (fun _ _ _ h => h) (Or.inl ⟨by rfl, ?_⟩) ?_ ?_
         rotate_left
         ·intro w'
          go_simp
          with_reducible rfl
         rotate_left
         ·simp only [Act.put, List.setIfInBounds_toArray, List.set_cons_zero, List.set_cons_succ, i64_w, i32_w]
          rfl
         refine pure_ (i := 5) (N := some 11) (v := ?_) (a' := ?_) #[true, false, false, false, false, true, false, false, false, false, false, false, false, false, false, false, false, false, false, false] rfl rfl (any_of HT_.out (by kernel_rfl)) (fun _ _ _ h => h) (Or.inl ⟨by rfl, ?_⟩) ?_ ?_
         rotate_left
         ·intro w'
          go_simp
          with_reducible rfl
         rotate_left
         ·simp only [Act.put, List.setIfInBounds_toArray, List.set_cons_zero, List.set_cons_succ, i64_w, i32_w]
          rfl
         refine pure_ (i := 10) (N := some 16) (v := ?_) (a' := ?_) #[true, false, false, false, false, true, false, false, false, false, true, false, false, false, false, false, false, false, false, false] rfl rfl (any_of HT_.out (by kernel_rfl)) (fun _ _ _ h => h) (Or.inl ⟨by rfl, ?_⟩) ?_ ?_
         rotate_left
         ·intro w'
          go_simp
          with_reducible rfl
         rotate_left
         ·simp only [Act.put, List.setIfInBounds_toArray, List.set_cons_zero, List.set_cons_succ, i64_w, i32_w]
          rfl
         refine pure_ (i := 16) (N := some 22) (v := ?_) (a' := ?_) #[true, false, false, false, false, true, false, false, false, false, true, false, false, false, false, false, true, false, false, false] rfl rfl (any_of HT_.out (by kernel_rfl)) (fun _ _ _ h => h) (Or.inl ⟨by rfl, ?_⟩) ?_ ?_
         rotate_left
         ·intro w'
          go_simp
          with_reducible rfl
         rotate_left
         ·simp only [Act.put, List.setIfInBounds_toArray, List.set_cons_zero, List.set_cons_succ, i64_w, i32_w]
          rfl
         refine take_ (i := 1) (N := some 7) (v := ?_) (a' := ?_) #[true, true, false, false, false, true, false, false, false, false, true, false, false, false, false, false, true, false, false, false] rfl rfl (take_ofW HT_.out HW_.out (by kernel_rfl)) (fun _ _ _ h => h) (Or.inl ⟨by rfl, ?_⟩) hHeld ?_ ?_
         rotate_left
         ·rintro w' ⟨s0, s1, s2⟩
          go_simp
          with_reducible rfl
         rotate_left
         ·simp only [Act.put, List.setIfInBounds_toArray, List.set_cons_zero, List.set_cons_succ, i64_w, i32_w]
          rfl
         refine take_ (i := 6) (N := some 12) (v := ?_) (a' := ?_) #[true, true, false, false, false, true, true, false, false, false, true, false, false, false, false, false, true, false, false, false] rfl rfl (take_ofW HT_.out HW_.out (by kernel_rfl)) (fun _ _ _ h => h) (Or.inl ⟨by rfl, ?_⟩) hHeld ?_ ?_
         rotate_left
         ·rintro w' ⟨s0, s1, s2⟩
          go_simp
          with_reducible rfl
         rotate_left
         ·simp only [Act.put, List.setIfInBounds_toArray, List.set_cons_zero, List.set_cons_succ, i64_w, i32_w]
          rfl
         refine take_ (i := 11) (N := some 17) (v := ?_) (a' := ?_) #[true, true, false, false, false, true, true, false, false, false, true, true, false, false, false, false, true, false, false, false] rfl rfl (take_ofW HT_.out HW_.out (by kernel_rfl)) (fun _ _ _ h => h) (Or.inl ⟨by rfl, ?_⟩) hHeld ?_ ?_
         rotate_left
         ·rintro w' ⟨s0, s1, s2⟩
          go_simp
          with_reducible rfl
         rotate_left
         ·simp only [Act.put, List.setIfInBounds_toArray, List.set_cons_zero, List.set_cons_succ, i64_w, i32_w]
          rfl
         refine pure_ (i := 12) (N := some 18) (v := ?_) (a' := ?_) #[true, true, false, false, false, true, true, false, false, false, true, true, true, false, false, false, true, false, false, false] rfl rfl (any_of HT_.out (by kernel_rfl)) (fun _ _ _ h => h) (Or.inl ⟨by rfl, ?_⟩) ?_ ?_
         rotate_left
         ·intro w'
          go_simp
          with_reducible rfl
         rotate_left
         ·simp only [Act.put, List.setIfInBounds_toArray, List.set_cons_zero, List.set_cons_succ, i64_w, i32_w]
          rfl
         refine take_ (i := 17) (N := some 23) (v := ?_) (a' := ?_) #[true, true, false, false, false, true, true, false, false, false, true, true, true, false, false, false, true, true, false, false] rfl rfl (take_ofW HT_.out HW_.out (by kernel_rfl)) (fun _ _ _ h => h) (Or.inl ⟨by rfl, ?_⟩) hHeld ?_ ?_
         rotate_left
         ·rintro w' ⟨s0, s1, s2⟩
          go_simp
          with_reducible rfl
         rotate_left
         ·simp only [Act.put, List.setIfInBounds_toArray, List.set_cons_zero, List.set_cons_succ, i64_w, i32_w]
          rfl
         refine one_ (i := 2) (N := some 8) #[true, true, true, false, false, true, true, false, false, false, true, true, true, false, false, false, true, true, false, false] rfl rfl (one_of HT_.out (by kernel_rfl)) (by decide) (fun K hK => ?_)
         refine goes_ Tryd.func79 (by kernel_rfl) rfl #[.int .i64 a0_0] (by rfl) rfl rfl ma ?_
         with_reducible refine (spec_NumText.calls k a0_0 t870 _ A4.out).mono ?_
         rintro e w18 ⟨rfl, hb⟩
         refine ⟨_, rfl, ?_⟩
         replace BK868 := kb BK868 hb
         replace HB := am (below_step bl hb)
         (try clear hb)
         (try clear hb2)
         (try clear hk)
         (try clear hi)
         refine hK.out _ _ ⟨bc BK868, bc BK868, bc BK868⟩ (fun hHeld => ?_)
         clear hK K
         refine norm_ (a' := ?_) ?_ ?_
         rotate_left
         ·show Act.put _ (some 8) _ = _
          simp only [Act.put, List.setIfInBounds_toArray, List.set_cons_zero, List.set_cons_succ, i64_w, i32_w]
          rfl
         refine pure_ (i := 3) (N := some 9) (v := ?_) (a' := ?_) #[true, true, true, true, false, true, true, false, false, false, true, true, true, false, false, false, true, true, false, false] rfl rfl (any_of HT_.out (by kernel_rfl)) (fun _ _ _ h => h) (Or.inl ⟨by rfl, ?_⟩) ?_ ?_
         rotate_left
         ·intro w'
          go_simp
          with_reducible rfl
         rotate_left
         ·simp only [Act.put, List.setIfInBounds_toArray, List.set_cons_zero, List.set_cons_succ, i64_w, i32_w]
          rfl
         refine pure_ (i := 4) (N := some 10) (v := ?_) (a' := ?_) #[true, true, true, true, true, true, true, false, false, false, true, true, true, false, false, false, true, true, false, false] rfl rfl (any_of HT_.out (by kernel_rfl)) (fun _ _ _ h => h) (Or.inl ⟨by rfl, ?_⟩) ?_ ?_
         rotate_left
         ·intro w'
          go_simp
          with_reducible rfl
         rotate_left
         ·simp only [Act.put, List.setIfInBounds_toArray, List.set_cons_zero, List.set_cons_succ, i64_w, i32_w]
          rfl
         refine one_ (i := 7) (N := some 13) #[true, true, true, true, true, true, true, true, false, false, true, true, true, false, false, false, true, true, false, false] rfl rfl (one_of HT_.out (by kernel_rfl)) (by decide) (fun K hK => ?_)
         refine goes_ Tryd.func122 (by kernel_rfl) rfl #[.slice A0_1 l0_1.length c0_1] (by rfl) rfl rfl ma ?_
         with_reducible refine (spec_FieldsText.calls k _ _ l0_1 t871 _ ?side1 ?side2 A7.out).mono ?_
         (case side1 => exact cb HR0_1)
         (case side2 => exact HC0_1.out)
         rintro e w' ⟨rfl, ⟨nd, rfl⟩⟩
         refine ⟨_, rfl, ?_⟩
         refine hK.out _ _ ⟨bc BK868, bc BK868, bc BK868⟩ (fun hHeld => ?_)
         clear hK K
         refine norm_ (a' := ?_) ?_ ?_
         rotate_left
         ·show Act.put _ (some 13) _ = _
          simp only [Act.put, List.setIfInBounds_toArray, List.set_cons_zero, List.set_cons_succ, i64_w, i32_w]
          rfl
         refine pure_ (i := 8) (N := some 14) (v := ?_) (a' := ?_) #[true, true, true, true, true, true, true, true, true, false, true, true, true, false, false, false, true, true, false, false] rfl rfl (any_of HT_.out (by kernel_rfl)) (fun _ _ _ h => h) (Or.inl ⟨by rfl, ?_⟩) ?_ ?_
         rotate_left
         ·intro w'
          go_simp
          with_reducible rfl
         rotate_left
         ·simp only [Act.put, List.setIfInBounds_toArray, List.set_cons_zero, List.set_cons_succ, i64_w, i32_w]
          rfl
         refine pure_ (i := 9) (N := some 15) (v := ?_) (a' := ?_) #[true, true, true, true, true, true, true, true, true, true, true, true, true, false, false, false, true, true, false, false] rfl rfl (any_of HT_.out (by kernel_rfl)) (fun _ _ _ h => h) (Or.inl ⟨by rfl, ?_⟩) ?_ ?_
         rotate_left
         ·intro w'
          go_simp
          with_reducible rfl
         rotate_left
         ·simp only [Act.put, List.setIfInBounds_toArray, List.set_cons_zero, List.set_cons_succ, i64_w, i32_w]
          rfl
         refine one_ (i := 13) (N := some 19) #[true, true, true, true, true, true, true, true, true, true, true, true, true, true, false, false, true, true, false, false] rfl rfl (one_of HT_.out (by kernel_rfl)) (by decide) (fun K hK => ?_)
         refine goes_ Tryd.func79 (by kernel_rfl) rfl #[.int .i64 (a0_2.size : Int)] (by rfl) rfl rfl ma ?_
         with_reducible refine (spec_NumText.calls k (a0_2.size : Int) t872 _ A10.out).mono ?_
         rintro e w19 ⟨rfl, hb⟩
         refine ⟨_, rfl, ?_⟩
         replace BK868 := kb BK868 hb
         replace HB := am (below_step bl hb)
         (try clear hb)
         (try clear hb2)
         (try clear hk)
         (try clear hi)
         refine hK.out _ _ ⟨bc BK868, bc BK868, bc BK868⟩ (fun hHeld => ?_)
         clear hK K
         refine norm_ (a' := ?_) ?_ ?_
         rotate_left
         ·show Act.put _ (some 19) _ = _
          simp only [Act.put, List.setIfInBounds_toArray, List.set_cons_zero, List.set_cons_succ, i64_w, i32_w]
          rfl
         refine pure_ (i := 14) (N := some 20) (v := ?_) (a' := ?_) #[true, true, true, true, true, true, true, true, true, true, true, true, true, true, true, false, true, true, false, false] rfl rfl (any_of HT_.out (by kernel_rfl)) (fun _ _ _ h => h) (Or.inl ⟨by rfl, ?_⟩) ?_ ?_
         rotate_left
         ·intro w'
          go_simp
          with_reducible rfl
         rotate_left
         ·simp only [Act.put, List.setIfInBounds_toArray, List.set_cons_zero, List.set_cons_succ, i64_w, i32_w]
          rfl
         refine pure_ (i := 15) (N := some 21) (v := ?_) (a' := ?_) #[true, true, true, true, true, true, true, true, true, true, true, true, true, true, true, true, true, true, false, false] rfl rfl (any_of HT_.out (by kernel_rfl)) (fun _ _ _ h => h) (Or.inl ⟨by rfl, ?_⟩) ?_ ?_
         rotate_left
         ·intro w'
          go_simp
          with_reducible rfl
         rotate_left
         ·simp only [Act.put, List.setIfInBounds_toArray, List.set_cons_zero, List.set_cons_succ, i64_w, i32_w]
          rfl
         refine pure_ (i := 18) (N := some 24) (v := ?_) (a' := ?_) #[true, true, true, true, true, true, true, true, true, true, true, true, true, true, true, true, true, true, true, false] rfl rfl (any_of HT_.out (by kernel_rfl)) (fun _ _ _ h => h) (Or.inl ⟨by rfl, ?_⟩) ?_ ?_
         rotate_left
         ·intro w'
          go_simp
          with_reducible rfl
         rotate_left
         ·simp only [Act.put, List.setIfInBounds_toArray, List.set_cons_zero, List.set_cons_succ, i64_w, i32_w]
          rfl
         refine pure_ (i := 19) (N := some 2) (v := ?_) (a' := ?_) #[true, true, true, true, true, true, true, true, true, true, true, true, true, true, true, true, true, true, true, true] rfl rfl (any_of HT_.out (by kernel_rfl)) (fun _ _ _ h => h) (Or.inl ⟨by rfl, ?_⟩) ?_ ?_
         rotate_left
         ·intro w'
          go_simp
          with_reducible rfl
         rotate_left
         ·simp only [Act.put, List.setIfInBounds_toArray, List.set_cons_zero, List.set_cons_succ, i64_w, i32_w]
          rfl
         refine done_ (done_of HT_.out (by kernel_rfl)) ?_
         try go_wp2
         go_ret
         exact ⟨rf, bl⟩
        ·rw [if_neg c13] at H
         exact absurd H (by simp)
       ·rw [if_neg c12] at H
        exact absurd H (by simp)
      ·rw [if_neg c11] at H
       exact absurd H (by simp)
     ·rw [if_neg c9] at H
      exact absurd H (by simp)
    ·rw [if_neg c8] at H
     exact absurd H (by simp)
   ·rw [if_neg c6] at H
    exact absurd H (by simp)
  ·rw [if_neg c5] at H
   exact absurd H (by simp)
 ·replace c3 := Bool.eq_false_iff.mpr c3
  subst c3
  have H1 : (some (⟨#[]⟩ : ByteArray)) = some r := by rw [if_neg (show ¬ (false = true) by decide)] at H; exact H
  clear H
  have H := H1
  clear H1
  obtain rfl := Option.some.inj H
  go_enter Tryd.func42, Tryd.ntmps42
  go_wp2_with (first | ((with_reducible refine gate_dst (N := 1) rfl ?_); refine box_event ?hg (N := 1) ?hd (cs := #[.int .i64 a0_0, .slice A0_1 l0_1.length c0_1, .string a0_2]) (t := 43) ?hr ?_; (case hd => rfl); (case hg => rfl); (case hr => first | (go_simp; done) | (go_simp; rfl)); intro gb868 hg w20 hbox hb; have n0_ := am (below_step bl hb); have n1_ := am (hbox); have n2_ := am (sz hg : w.heap.size ≤ gb868); have n3_ := am (sz hg : w.heap.size ≤ gb868); clear HB; have HB := n0_; have BK868 := n1_; have GW868 := n2_; have GE868 := n3_; clear n0_ n1_ n2_ n3_; clear hb hbox hg; have hcz21_0 : w20.cell? ⟨gb868, 0, none⟩ = some (.int .i64 a0_0) := bc BK868; have hcz21_1 : w20.cell? ⟨gb868, 1, none⟩ = some (.slice A0_1 l0_1.length c0_1) := bc BK868; have hcz21_2 : w20.cell? ⟨gb868, 2, none⟩ = some (.string a0_2) := bc BK868; have hfz21_0 := blk_frozen BK868.out 0; have hfz21_1 := blk_frozen BK868.out 1; have hfz21_2 := blk_frozen BK868.out 2) | ((with_reducible refine gate_callee (f := 121) rfl ?_); refine goesL_ (some 4) rfl rfl Tryd.func121 (by kernel_rfl) rfl #[.agg #[.int .i64 a0_0, .slice A0_1 l0_1.length c0_1, .string a0_2]] rfl ma ?_; (with_reducible refine (spec_RespOk.calls k a0_0 _ _ l0_1 a0_2 false _ ?side1 ?side2 A2.out).mono ?_); (case side1 => exact cb HR0_1); (case side2 => exact HC0_1.out); rintro e w22 ⟨rfl, hb⟩; refine ⟨_, rfl, ?_⟩; replace BK868 := kb BK868 hb; replace HB := am (below_step bl hb); (try clear hb); (try clear hb2); (try clear hk); (try clear hi)))
  go_ret
  exact ⟨rf, bl⟩

/-! ### impl_RespText: function 44 -/
def impl_RespText.f (k : Nat) (a0_0 : Int) (l0_1 : List (S114)) (a0_2 : ByteArray) : Option (ByteArray) := (impl_RespOk.f k a0_0 l0_1 a0_2).bind fun t884 => (if t884 = true then ((strconv_Itoa.f a0_0).bind fun t885 => (if 9 + t885.size ≤ 9223372036854775807 then (if ((⟨#[72, 84, 84, 80, 47, 49, 46, 49, 32]⟩ : ByteArray) ++ t885).size + 2 ≤ 9223372036854775807 then (if (((⟨#[72, 84, 84, 80, 47, 49, 46, 49, 32]⟩ : ByteArray) ++ t885) ++ (⟨#[32, 46]⟩ : ByteArray)).size + 2 ≤ 9223372036854775807 then ((impl_FieldsText.f l0_1).bind fun t886 => (if ((((⟨#[72, 84, 84, 80, 47, 49, 46, 49, 32]⟩ : ByteArray) ++ t885) ++ (⟨#[32, 46]⟩ : ByteArray)) ++ (⟨#[13, 10]⟩ : ByteArray)).size + t886.size ≤ 9223372036854775807 then ((impl_lengthLine.f a0_2).bind fun t887 => (if (((((⟨#[72, 84, 84, 80, 47, 49, 46, 49, 32]⟩ : ByteArray) ++ t885) ++ (⟨#[32, 46]⟩ : ByteArray)) ++ (⟨#[13, 10]⟩ : ByteArray)) ++ t886).size + t887.size ≤ 9223372036854775807 then (if ((((((⟨#[72, 84, 84, 80, 47, 49, 46, 49, 32]⟩ : ByteArray) ++ t885) ++ (⟨#[32, 46]⟩ : ByteArray)) ++ (⟨#[13, 10]⟩ : ByteArray)) ++ t886) ++ t887).size + 2 ≤ 9223372036854775807 then (if (((((((⟨#[72, 84, 84, 80, 47, 49, 46, 49, 32]⟩ : ByteArray) ++ t885) ++ (⟨#[32, 46]⟩ : ByteArray)) ++ (⟨#[13, 10]⟩ : ByteArray)) ++ t886) ++ t887) ++ (⟨#[13, 10]⟩ : ByteArray)).size + a0_2.size ≤ 9223372036854775807 then (some ((((((((⟨#[72, 84, 84, 80, 47, 49, 46, 49, 32]⟩ : ByteArray) ++ t885) ++ (⟨#[32, 46]⟩ : ByteArray)) ++ (⟨#[13, 10]⟩ : ByteArray)) ++ t886) ++ t887) ++ (⟨#[13, 10]⟩ : ByteArray)) ++ a0_2)) else (none)) else (none)) else (none))) else (none))) else (none)) else (none)) else (none))) else (some (⟨#[]⟩ : ByteArray)))
theorem impl_RespText.mono : ∀ a0 a1 a2 k, LeO (impl_RespText.f k a0 a1 a2) (impl_RespText.f (k + 1) a0 a1 a2) := by
 intro a0 a1 a2 k
 unfold impl_RespText.f
 repeat' first
   | (with_reducible exact impl_RespOk.mono _ _ _ _)
   | (with_reducible exact LeO.refl _)
   | (with_reducible exact LeO.none _)
   | (with_reducible refine LeO.ite ?_ ?_)
   | (with_reducible refine LeO.bind ?_ (fun _ => ?_))
   | exact impl_RespOk.mono _ _ _ _
   | exact LeO.none _
   | refine LeO.ite ?_ ?_
   | refine LeO.bind ?_ (fun _ => ?_)
def impl_RespText.T3 : Bool × List (List Nat × List Nat) := (true, [([], []), ([0], [0]), ([1], [1]), ([2], [2]), ([3], [3]), ([4], [4]), ([], []), ([6], [6]), ([7, 2], [7]), ([5, 8], [5, 8]), ([], []), ([10], [10]), ([11, 8], [11]), ([9, 12], [9, 12]), ([13], [13]), ([], []), ([15], [15]), ([14, 16], [14, 16]), ([17, 12, 0, 1, 2, 3, 4, 5, 6, 7, 8, 9, 10, 11, 12, 13, 14, 15, 16, 17], [17])])
def impl_RespText.B3 : List Nat := [0, 1, 3, 7, 15, 31, 0, 64, 199, 511, 0, 1024, 3527, 8191, 16383, 0, 32768, 131071, 262143]
theorem impl_RespText.tab3 : rtab .any (opsOf Tryd.f44 3) = impl_RespText.T3 := by kernel_rfl
theorem impl_RespText.bits3 : waitsOk impl_RespText.T3.2 impl_RespText.B3 = true := by kernel_rfl
set_option maxHeartbeats 8000000 in
set_option maxRecDepth 100000 in
theorem impl_RespText.calls (k : Nat) (a0_0 : Int) (A0_1 : Option Addr) (c0_1 : Nat) (l0_1 : List (S114)) (a0_2 : ByteArray) (r : ByteArray) (w : World) (hGT : GLOBT w) (hr0_1 : Kd.C k114 w A0_1 l0_1.length l0_1) (hc0_1 : l0_1.length ≤ c0_1) (h : impl_RespText.f k a0_0 l0_1 a0_2 = some r) :
  Calls Tryd.prog 44 #[.agg #[.int .i64 a0_0, .slice A0_1 l0_1.length c0_1, .string a0_2]] w fun e w' => e = .returned (.string r) ∧ Below w.heap.size w w' := by
 have hu43 := Tryd.underlying43
 have HR0_1 := am hr0_1
 have HC0_1 := am hc0_1
 clear hr0_1 hc0_1
 have HGT := am hGT
 clear hGT
 have HB := am (Below.refl w.heap.size w)
 have H : ((impl_RespOk.f k a0_0 l0_1 a0_2).bind fun t884 => (if t884 = true then ((strconv_Itoa.f a0_0).bind fun t885 => (if 9 + t885.size ≤ 9223372036854775807 then (if ((⟨#[72, 84, 84, 80, 47, 49, 46, 49, 32]⟩ : ByteArray) ++ t885).size + 2 ≤ 9223372036854775807 then (if (((⟨#[72, 84, 84, 80, 47, 49, 46, 49, 32]⟩ : ByteArray) ++ t885) ++ (⟨#[32, 46]⟩ : ByteArray)).size + 2 ≤ 9223372036854775807 then ((impl_FieldsText.f l0_1).bind fun t886 => (if ((((⟨#[72, 84, 84, 80, 47, 49, 46, 49, 32]⟩ : ByteArray) ++ t885) ++ (⟨#[32, 46]⟩ : ByteArray)) ++ (⟨#[13, 10]⟩ : ByteArray)).size + t886.size ≤ 9223372036854775807 then ((impl_lengthLine.f a0_2).bind fun t887 => (if (((((⟨#[72, 84, 84, 80, 47, 49, 46, 49, 32]⟩ : ByteArray) ++ t885) ++ (⟨#[32, 46]⟩ : ByteArray)) ++ (⟨#[13, 10]⟩ : ByteArray)) ++ t886).size + t887.size ≤ 9223372036854775807 then (if ((((((⟨#[72, 84, 84, 80, 47, 49, 46, 49, 32]⟩ : ByteArray) ++ t885) ++ (⟨#[32, 46]⟩ : ByteArray)) ++ (⟨#[13, 10]⟩ : ByteArray)) ++ t886) ++ t887).size + 2 ≤ 9223372036854775807 then (if (((((((⟨#[72, 84, 84, 80, 47, 49, 46, 49, 32]⟩ : ByteArray) ++ t885) ++ (⟨#[32, 46]⟩ : ByteArray)) ++ (⟨#[13, 10]⟩ : ByteArray)) ++ t886) ++ t887) ++ (⟨#[13, 10]⟩ : ByteArray)).size + a0_2.size ≤ 9223372036854775807 then (some ((((((((⟨#[72, 84, 84, 80, 47, 49, 46, 49, 32]⟩ : ByteArray) ++ t885) ++ (⟨#[32, 46]⟩ : ByteArray)) ++ (⟨#[13, 10]⟩ : ByteArray)) ++ t886) ++ t887) ++ (⟨#[13, 10]⟩ : ByteArray)) ++ a0_2)) else (none)) else (none)) else (none))) else (none))) else (none)) else (none)) else (none))) else (some (⟨#[]⟩ : ByteArray)))) = some r := h
 clear h
 replace H := ob H
 obtain ⟨t884, A20, H⟩ := H
 replace H : (if t884 = true then ((strconv_Itoa.f a0_0).bind fun t885 => (if 9 + t885.size ≤ 9223372036854775807 then (if ((⟨#[72, 84, 84, 80, 47, 49, 46, 49, 32]⟩ : ByteArray) ++ t885).size + 2 ≤ 9223372036854775807 then (if (((⟨#[72, 84, 84, 80, 47, 49, 46, 49, 32]⟩ : ByteArray) ++ t885) ++ (⟨#[32, 46]⟩ : ByteArray)).size + 2 ≤ 9223372036854775807 then ((impl_FieldsText.f l0_1).bind fun t886 => (if ((((⟨#[72, 84, 84, 80, 47, 49, 46, 49, 32]⟩ : ByteArray) ++ t885) ++ (⟨#[32, 46]⟩ : ByteArray)) ++ (⟨#[13, 10]⟩ : ByteArray)).size + t886.size ≤ 9223372036854775807 then ((impl_lengthLine.f a0_2).bind fun t887 => (if (((((⟨#[72, 84, 84, 80, 47, 49, 46, 49, 32]⟩ : ByteArray) ++ t885) ++ (⟨#[32, 46]⟩ : ByteArray)) ++ (⟨#[13, 10]⟩ : ByteArray)) ++ t886).size + t887.size ≤ 9223372036854775807 then (if ((((((⟨#[72, 84, 84, 80, 47, 49, 46, 49, 32]⟩ : ByteArray) ++ t885) ++ (⟨#[32, 46]⟩ : ByteArray)) ++ (⟨#[13, 10]⟩ : ByteArray)) ++ t886) ++ t887).size + 2 ≤ 9223372036854775807 then (if (((((((⟨#[72, 84, 84, 80, 47, 49, 46, 49, 32]⟩ : ByteArray) ++ t885) ++ (⟨#[32, 46]⟩ : ByteArray)) ++ (⟨#[13, 10]⟩ : ByteArray)) ++ t886) ++ t887) ++ (⟨#[13, 10]⟩ : ByteArray)).size + a0_2.size ≤ 9223372036854775807 then (some ((((((((⟨#[72, 84, 84, 80, 47, 49, 46, 49, 32]⟩ : ByteArray) ++ t885) ++ (⟨#[32, 46]⟩ : ByteArray)) ++ (⟨#[13, 10]⟩ : ByteArray)) ++ t886) ++ t887) ++ (⟨#[13, 10]⟩ : ByteArray)) ++ a0_2)) else (none)) else (none)) else (none))) else (none))) else (none)) else (none)) else (none))) else (some (⟨#[]⟩ : ByteArray))) = some r := H
 have A2 := am A20
 clear A20
 by_cases c3 : t884 = true
 ·subst c3
  have H1 : ((strconv_Itoa.f a0_0).bind fun t885 => (if 9 + t885.size ≤ 9223372036854775807 then (if ((⟨#[72, 84, 84, 80, 47, 49, 46, 49, 32]⟩ : ByteArray) ++ t885).size + 2 ≤ 9223372036854775807 then (if (((⟨#[72, 84, 84, 80, 47, 49, 46, 49, 32]⟩ : ByteArray) ++ t885) ++ (⟨#[32, 46]⟩ : ByteArray)).size + 2 ≤ 9223372036854775807 then ((impl_FieldsText.f l0_1).bind fun t886 => (if ((((⟨#[72, 84, 84, 80, 47, 49, 46, 49, 32]⟩ : ByteArray) ++ t885) ++ (⟨#[32, 46]⟩ : ByteArray)) ++ (⟨#[13, 10]⟩ : ByteArray)).size + t886.size ≤ 9223372036854775807 then ((impl_lengthLine.f a0_2).bind fun t887 => (if (((((⟨#[72, 84, 84, 80, 47, 49, 46, 49, 32]⟩ : ByteArray) ++ t885) ++ (⟨#[32, 46]⟩ : ByteArray)) ++ (⟨#[13, 10]⟩ : ByteArray)) ++ t886).size + t887.size ≤ 9223372036854775807 then (if ((((((⟨#[72, 84, 84, 80, 47, 49, 46, 49, 32]⟩ : ByteArray) ++ t885) ++ (⟨#[32, 46]⟩ : ByteArray)) ++ (⟨#[13, 10]⟩ : ByteArray)) ++ t886) ++ t887).size + 2 ≤ 9223372036854775807 then (if (((((((⟨#[72, 84, 84, 80, 47, 49, 46, 49, 32]⟩ : ByteArray) ++ t885) ++ (⟨#[32, 46]⟩ : ByteArray)) ++ (⟨#[13, 10]⟩ : ByteArray)) ++ t886) ++ t887) ++ (⟨#[13, 10]⟩ : ByteArray)).size + a0_2.size ≤ 9223372036854775807 then (some ((((((((⟨#[72, 84, 84, 80, 47, 49, 46, 49, 32]⟩ : ByteArray) ++ t885) ++ (⟨#[32, 46]⟩ : ByteArray)) ++ (⟨#[13, 10]⟩ : ByteArray)) ++ t886) ++ t887) ++ (⟨#[13, 10]⟩ : ByteArray)) ++ a0_2)) else (none)) else (none)) else (none))) else (none))) else (none)) else (none)) else (none))) = some r := by rw [if_pos rfl] at H; exact H
  clear H
  have H := H1
  clear H1
  replace H := ob H
  obtain ⟨t885, A40, H⟩ := H
  replace H : (if 9 + t885.size ≤ 9223372036854775807 then (if ((⟨#[72, 84, 84, 80, 47, 49, 46, 49, 32]⟩ : ByteArray) ++ t885).size + 2 ≤ 9223372036854775807 then (if (((⟨#[72, 84, 84, 80, 47, 49, 46, 49, 32]⟩ : ByteArray) ++ t885) ++ (⟨#[32, 46]⟩ : ByteArray)).size + 2 ≤ 9223372036854775807 then ((impl_FieldsText.f l0_1).bind fun t886 => (if ((((⟨#[72, 84, 84, 80, 47, 49, 46, 49, 32]⟩ : ByteArray) ++ t885) ++ (⟨#[32, 46]⟩ : ByteArray)) ++ (⟨#[13, 10]⟩ : ByteArray)).size + t886.size ≤ 9223372036854775807 then ((impl_lengthLine.f a0_2).bind fun t887 => (if (((((⟨#[72, 84, 84, 80, 47, 49, 46, 49, 32]⟩ : ByteArray) ++ t885) ++ (⟨#[32, 46]⟩ : ByteArray)) ++ (⟨#[13, 10]⟩ : ByteArray)) ++ t886).size + t887.size ≤ 9223372036854775807 then (if ((((((⟨#[72, 84, 84, 80, 47, 49, 46, 49, 32]⟩ : ByteArray) ++ t885) ++ (⟨#[32, 46]⟩ : ByteArray)) ++ (⟨#[13, 10]⟩ : ByteArray)) ++ t886) ++ t887).size + 2 ≤ 9223372036854775807 then (if (((((((⟨#[72, 84, 84, 80, 47, 49, 46, 49, 32]⟩ : ByteArray) ++ t885) ++ (⟨#[32, 46]⟩ : ByteArray)) ++ (⟨#[13, 10]⟩ : ByteArray)) ++ t886) ++ t887) ++ (⟨#[13, 10]⟩ : ByteArray)).size + a0_2.size ≤ 9223372036854775807 then (some ((((((((⟨#[72, 84, 84, 80, 47, 49, 46, 49, 32]⟩ : ByteArray) ++ t885) ++ (⟨#[32, 46]⟩ : ByteArray)) ++ (⟨#[13, 10]⟩ : ByteArray)) ++ t886) ++ t887) ++ (⟨#[13, 10]⟩ : ByteArray)) ++ a0_2)) else (none)) else (none)) else (none))) else (none))) else (none)) else (none)) else (none)) = some r := H
  have A4 := am A40
  clear A40
  by_cases c5 : 9 + t885.size ≤ 9223372036854775807
  ·rw [if_pos c5] at H
   have c5b0 := eq_true c5
   have c5b1 : decide (9 + t885.size ≤ 9223372036854775807) = true := decide_eq_true c5
   try have c5b2 : (9223372036854775807 < 9 + t885.size) = False := eq_false (Nat.not_lt.2 c5)
   by_cases c6 : ((⟨#[72, 84, 84, 80, 47, 49, 46, 49, 32]⟩ : ByteArray) ++ t885).size + 2 ≤ 9223372036854775807
   ·rw [if_pos c6] at H
    have c6b0 := eq_true c6
    have c6b1 : decide (((⟨#[72, 84, 84, 80, 47, 49, 46, 49, 32]⟩ : ByteArray) ++ t885).size + 2 ≤ 9223372036854775807) = true := decide_eq_true c6
    try have c6b2 : (9223372036854775807 < ((⟨#[72, 84, 84, 80, 47, 49, 46, 49, 32]⟩ : ByteArray) ++ t885).size + 2) = False := eq_false (Nat.not_lt.2 c6)
    have c6b3 : (9223372036854775807 < 9 + (t885).size + 2) = False := eq_false (Nat.not_lt.2 (by have h_ := c6; simp only [ByteArray.size_append] at h_; first | exact h_ | (simp only [ByteArray.size_extract] at h_; rw [Nat.min_eq_left (by omega)] at h_; exact h_)))
    by_cases c7 : (((⟨#[72, 84, 84, 80, 47, 49, 46, 49, 32]⟩ : ByteArray) ++ t885) ++ (⟨#[32, 46]⟩ : ByteArray)).size + 2 ≤ 9223372036854775807
    ·rw [if_pos c7] at H
     have c7b0 := eq_true c7
     have c7b1 : decide ((((⟨#[72, 84, 84, 80, 47, 49, 46, 49, 32]⟩ : ByteArray) ++ t885) ++ (⟨#[32, 46]⟩ : ByteArray)).size + 2 ≤ 9223372036854775807) = true := decide_eq_true c7
     try have c7b2 : (9223372036854775807 < (((⟨#[72, 84, 84, 80, 47, 49, 46, 49, 32]⟩ : ByteArray) ++ t885) ++ (⟨#[32, 46]⟩ : ByteArray)).size + 2) = False := eq_false (Nat.not_lt.2 c7)
     have c7b3 : (9223372036854775807 < 9 + (t885).size + 2 + 2) = False := eq_false (Nat.not_lt.2 (by have h_ := c7; simp only [ByteArray.size_append] at h_; first | exact h_ | (simp only [ByteArray.size_extract] at h_; rw [Nat.min_eq_left (by omega)] at h_; exact h_)))
     replace H := ob H
     obtain ⟨t886, A80, H⟩ := H
     replace H : (if ((((⟨#[72, 84, 84, 80, 47, 49, 46, 49, 32]⟩ : ByteArray) ++ t885) ++ (⟨#[32, 46]⟩ : ByteArray)) ++ (⟨#[13, 10]⟩ : ByteArray)).size + t886.size ≤ 9223372036854775807 then ((impl_lengthLine.f a0_2).bind fun t887 => (if (((((⟨#[72, 84, 84, 80, 47, 49, 46, 49, 32]⟩ : ByteArray) ++ t885) ++ (⟨#[32, 46]⟩ : ByteArray)) ++ (⟨#[13, 10]⟩ : ByteArray)) ++ t886).size + t887.size ≤ 9223372036854775807 then (if ((((((⟨#[72, 84, 84, 80, 47, 49, 46, 49, 32]⟩ : ByteArray) ++ t885) ++ (⟨#[32, 46]⟩ : ByteArray)) ++ (⟨#[13, 10]⟩ : ByteArray)) ++ t886) ++ t887).size + 2 ≤ 9223372036854775807 then (if (((((((⟨#[72, 84, 84, 80, 47, 49, 46, 49, 32]⟩ : ByteArray) ++ t885) ++ (⟨#[32, 46]⟩ : ByteArray)) ++ (⟨#[13, 10]⟩ : ByteArray)) ++ t886) ++ t887) ++ (⟨#[13, 10]⟩ : ByteArray)).size + a0_2.size ≤ 9223372036854775807 then (some ((((((((⟨#[72, 84, 84, 80, 47, 49, 46, 49, 32]⟩ : ByteArray) ++ t885) ++ (⟨#[32, 46]⟩ : ByteArray)) ++ (⟨#[13, 10]⟩ : ByteArray)) ++ t886) ++ t887) ++ (⟨#[13, 10]⟩ : ByteArray)) ++ a0_2)) else (none)) else (none)) else (none))) else (none)) = some r := H
     have A8 := am A80
     clear A80
     by_cases c9 : ((((⟨#[72, 84, 84, 80, 47, 49, 46, 49, 32]⟩ : ByteArray) ++ t885) ++ (⟨#[32, 46]⟩ : ByteArray)) ++ (⟨#[13, 10]⟩ : ByteArray)).size + t886.size ≤ 9223372036854775807
     ·rw [if_pos c9] at H
      have c9b0 := eq_true c9
      have c9b1 : decide (((((⟨#[72, 84, 84, 80, 47, 49, 46, 49, 32]⟩ : ByteArray) ++ t885) ++ (⟨#[32, 46]⟩ : ByteArray)) ++ (⟨#[13, 10]⟩ : ByteArray)).size + t886.size ≤ 9223372036854775807) = true := decide_eq_true c9
      try have c9b2 : (9223372036854775807 < ((((⟨#[72, 84, 84, 80, 47, 49, 46, 49, 32]⟩ : ByteArray) ++ t885) ++ (⟨#[32, 46]⟩ : ByteArray)) ++ (⟨#[13, 10]⟩ : ByteArray)).size + t886.size) = False := eq_false (Nat.not_lt.2 c9)
      have c9b3 : (9223372036854775807 < 9 + (t885).size + 2 + 2 + (t886).size) = False := eq_false (Nat.not_lt.2 (by have h_ := c9; simp only [ByteArray.size_append] at h_; first | exact h_ | (simp only [ByteArray.size_extract] at h_; rw [Nat.min_eq_left (by omega)] at h_; exact h_)))
      replace H := ob H
      obtain ⟨t887, A100, H⟩ := H
      replace H : (if (((((⟨#[72, 84, 84, 80, 47, 49, 46, 49, 32]⟩ : ByteArray) ++ t885) ++ (⟨#[32, 46]⟩ : ByteArray)) ++ (⟨#[13, 10]⟩ : ByteArray)) ++ t886).size + t887.size ≤ 9223372036854775807 then (if ((((((⟨#[72, 84, 84, 80, 47, 49, 46, 49, 32]⟩ : ByteArray) ++ t885) ++ (⟨#[32, 46]⟩ : ByteArray)) ++ (⟨#[13, 10]⟩ : ByteArray)) ++ t886) ++ t887).size + 2 ≤ 9223372036854775807 then (if (((((((⟨#[72, 84, 84, 80, 47, 49, 46, 49, 32]⟩ : ByteArray) ++ t885) ++ (⟨#[32, 46]⟩ : ByteArray)) ++ (⟨#[13, 10]⟩ : ByteArray)) ++ t886) ++ t887) ++ (⟨#[13, 10]⟩ : ByteArray)).size + a0_2.size ≤ 9223372036854775807 then (some ((((((((⟨#[72, 84, 84, 80, 47, 49, 46, 49, 32]⟩ : ByteArray) ++ t885) ++ (⟨#[32, 46]⟩ : ByteArray)) ++ (⟨#[13, 10]⟩ : ByteArray)) ++ t886) ++ t887) ++ (⟨#[13, 10]⟩ : ByteArray)) ++ a0_2)) else (none)) else (none)) else (none)) = some r := H
      have A10 := am A100
      clear A100
      by_cases c11 : (((((⟨#[72, 84, 84, 80, 47, 49, 46, 49, 32]⟩ : ByteArray) ++ t885) ++ (⟨#[32, 46]⟩ : ByteArray)) ++ (⟨#[13, 10]⟩ : ByteArray)) ++ t886).size + t887.size ≤ 9223372036854775807
      ·rw [if_pos c11] at H
       have c11b0 := eq_true c11
       have c11b1 : decide ((((((⟨#[72, 84, 84, 80, 47, 49, 46, 49, 32]⟩ : ByteArray) ++ t885) ++ (⟨#[32, 46]⟩ : ByteArray)) ++ (⟨#[13, 10]⟩ : ByteArray)) ++ t886).size + t887.size ≤ 9223372036854775807) = true := decide_eq_true c11
       try have c11b2 : (9223372036854775807 < (((((⟨#[72, 84, 84, 80, 47, 49, 46, 49, 32]⟩ : ByteArray) ++ t885) ++ (⟨#[32, 46]⟩ : ByteArray)) ++ (⟨#[13, 10]⟩ : ByteArray)) ++ t886).size + t887.size) = False := eq_false (Nat.not_lt.2 c11)
       have c11b3 : (9223372036854775807 < 9 + (t885).size + 2 + 2 + (t886).size + (t887).size) = False := eq_false (Nat.not_lt.2 (by have h_ := c11; simp only [ByteArray.size_append] at h_; first | exact h_ | (simp only [ByteArray.size_extract] at h_; rw [Nat.min_eq_left (by omega)] at h_; exact h_)))
       by_cases c12 : ((((((⟨#[72, 84, 84, 80, 47, 49, 46, 49, 32]⟩ : ByteArray) ++ t885) ++ (⟨#[32, 46]⟩ : ByteArray)) ++ (⟨#[13, 10]⟩ : ByteArray)) ++ t886) ++ t887).size + 2 ≤ 9223372036854775807
       ·rw [if_pos c12] at H
        have c12b0 := eq_true c12
        have c12b1 : decide (((((((⟨#[72, 84, 84, 80, 47, 49, 46, 49, 32]⟩ : ByteArray) ++ t885) ++ (⟨#[32, 46]⟩ : ByteArray)) ++ (⟨#[13, 10]⟩ : ByteArray)) ++ t886) ++ t887).size + 2 ≤ 9223372036854775807) = true := decide_eq_true c12
        try have c12b2 : (9223372036854775807 < ((((((⟨#[72, 84, 84, 80, 47, 49, 46, 49, 32]⟩ : ByteArray) ++ t885) ++ (⟨#[32, 46]⟩ : ByteArray)) ++ (⟨#[13, 10]⟩ : ByteArray)) ++ t886) ++ t887).size + 2) = False := eq_false (Nat.not_lt.2 c12)
        have c12b3 : (9223372036854775807 < 9 + (t885).size + 2 + 2 + (t886).size + (t887).size + 2) = False := eq_false (Nat.not_lt.2 (by have h_ := c12; simp only [ByteArray.size_append] at h_; first | exact h_ | (simp only [ByteArray.size_extract] at h_; rw [Nat.min_eq_left (by omega)] at h_; exact h_)))
        by_cases c13 : (((((((⟨#[72, 84, 84, 80, 47, 49, 46, 49, 32]⟩ : ByteArray) ++ t885) ++ (⟨#[32, 46]⟩ : ByteArray)) ++ (⟨#[13, 10]⟩ : ByteArray)) ++ t886) ++ t887) ++ (⟨#[13, 10]⟩ : ByteArray)).size + a0_2.size ≤ 9223372036854775807
        ·rw [if_pos c13] at H
         have c13b0 := eq_true c13
         have c13b1 : decide ((((((((⟨#[72, 84, 84, 80, 47, 49, 46, 49, 32]⟩ : ByteArray) ++ t885) ++ (⟨#[32, 46]⟩ : ByteArray)) ++ (⟨#[13, 10]⟩ : ByteArray)) ++ t886) ++ t887) ++ (⟨#[13, 10]⟩ : ByteArray)).size + a0_2.size ≤ 9223372036854775807) = true := decide_eq_true c13
         try have c13b2 : (9223372036854775807 < (((((((⟨#[72, 84, 84, 80, 47, 49, 46, 49, 32]⟩ : ByteArray) ++ t885) ++ (⟨#[32, 46]⟩ : ByteArray)) ++ (⟨#[13, 10]⟩ : ByteArray)) ++ t886) ++ t887) ++ (⟨#[13, 10]⟩ : ByteArray)).size + a0_2.size) = False := eq_false (Nat.not_lt.2 c13)
         have c13b3 : (9223372036854775807 < 9 + (t885).size + 2 + 2 + (t886).size + (t887).size + 2 + (a0_2).size) = False := eq_false (Nat.not_lt.2 (by have h_ := c13; simp only [ByteArray.size_append] at h_; first | exact h_ | (simp only [ByteArray.size_extract] at h_; rw [Nat.min_eq_left (by omega)] at h_; exact h_)))
         obtain rfl := Option.some.inj H
         go_enter Tryd.func44, Tryd.ntmps44
         try go_wp2_with (first | ((with_reducible refine gate_dst (N := 1) rfl ?_); refine box_event ?hg (N := 1) ?hd (cs := #[.int .i64 a0_0, .slice A0_1 l0_1.length c0_1, .string a0_2]) (t := 43) ?hr ?_; (case hd => rfl); (case hg => rfl); (case hr => first | (go_simp; done) | (go_simp; rfl)); intro gb883 hg w14 hbox hb; have n0_ := am (below_step bl hb); have n1_ := am (hbox); have n2_ := am (sz hg : w.heap.size ≤ gb883); have n3_ := am (sz hg : w.heap.size ≤ gb883); clear HB; have HB := n0_; have BK883 := n1_; have GW883 := n2_; have GE883 := n3_; clear n0_ n1_ n2_ n3_; clear hb hbox hg; have hcz15_0 : w14.cell? ⟨gb883, 0, none⟩ = some (.int .i64 a0_0) := bc BK883; have hcz15_1 : w14.cell? ⟨gb883, 1, none⟩ = some (.slice A0_1 l0_1.length c0_1) := bc BK883; have hcz15_2 : w14.cell? ⟨gb883, 2, none⟩ = some (.string a0_2) := bc BK883; have hfz15_0 := blk_frozen BK883.out 0; have hfz15_1 := blk_frozen BK883.out 1; have hfz15_2 := blk_frozen BK883.out 2) | ((with_reducible refine gate_callee (f := 123) rfl ?_); refine goesL_ (some 4) rfl rfl Tryd.func123 (by kernel_rfl) rfl #[.agg #[.int .i64 a0_0, .slice A0_1 l0_1.length c0_1, .string a0_2]] rfl ma ?_; (with_reducible refine (impl_RespOk.calls k a0_0 _ _ l0_1 a0_2 true _ ?side1 ?side2 A2.out).mono ?_); (case side1 => exact cb HR0_1); (case side2 => exact HC0_1.out); rintro e w16 ⟨rfl, hb⟩; refine ⟨_, rfl, ?_⟩; replace BK883 := kb BK883 hb; replace HB := am (below_step bl hb); (try clear hb); (try clear hb2); (try clear hk); (try clear hi)))
         replace BK883 := am (blk_drew BK883.out)
         replace HB := am (below_drew1 HB.out)
         refine start_ (n := 19) (S := fun w' => w'.cell? ⟨gb883, 0, none⟩ = some (.int .i64 a0_0) ∧ w'.cell? ⟨gb883, 1, none⟩ = some (.slice A0_1 l0_1.length c0_1) ∧ w'.cell? ⟨gb883, 2, none⟩ = some (.string a0_2)) (ds := []) #[false, false, false, false, false, false, false, false, false, false, false, false, false, false, false, false, false, false, false] (by kernel_rfl) rfl rfl ⟨bc BK883, bc BK883, bc BK883⟩ (fun hHeld => ?_); refine with_tabW impl_RespText.tab3 impl_RespText.bits3 (fun HT_ HW_ => ?_)
         generalize w16.drew = w17 at BK883 HB hHeld ⊢
         refine pure_ (i := 0) (N := some 6) (v := ?_) (a' := ?_) #[true, false, false, false, false, false, false, false, false, false, false, false, false, false, false, false, false, false, false] rfl rfl (any_of HT_.out (by kernel_rfl)) (fun _ _ _ h => h) (Or.inl ⟨by rfl, ?_⟩) ?_ ?_
         rotate_left
         ·intro w'
          go_simp
          with_reducible rfl
         rotate_left
         ·simp only [Act.put, List.setIfInBounds_toArray, List.set_cons_zero, List.set_cons_succ, i64_w, i32_w]
          rfl
         refine pure_ (i := 6) (N := some 12) (v := ?_) (a' := ?_) #[true, false, false, false, false, false, true, false, false, false, false, false, false, false, false, false, false, false, false] rfl rfl (any_of HT_.out (by kernel_rfl)) (fun _ _ _ h => h) (Or.inl ⟨by rfl, ?_⟩) ?_ ?_
         rotate_left
         ·intro w'
          go_simp
          with_reducible rfl
         rotate_left
         ·simp only [Act.put, List.setIfInBounds_toArray, List.set_cons_zero, List.set_cons_succ, i64_w, i32_w]
          rfl
         refine pure_ (i := 10) (N := some 16) (v := ?_) (a' := ?_) #[true, false, false, false, false, false, true, false, false, false, true, false, false, false, false, false, false, false, false] rfl rfl (any_of HT_.out (by kernel_rfl)) (fun _ _ _ h => h) (Or.inl ⟨by rfl, ?_⟩) ?_ ?_
         rotate_left
         ·intro w'
          go_simp
          with_reducible rfl
         rotate_left
         ·simp only [Act.put, List.setIfInBounds_toArray, List.set_cons_zero, List.set_cons_succ, i64_w, i32_w]
          rfl
         refine pure_ (i := 15) (N := some 21) (v := ?_) (a' := ?_) #[true, false, false, false, false, false, true, false, false, false, true, false, false, false, false, true, false, false, false] rfl rfl (any_of HT_.out (by kernel_rfl)) (fun _ _ _ h => h) (Or.inl ⟨by rfl, ?_⟩) ?_ ?_
         rotate_left
         ·intro w'
          go_simp
          with_reducible rfl
         rotate_left
         ·simp only [Act.put, List.setIfInBounds_toArray, List.set_cons_zero, List.set_cons_succ, i64_w, i32_w]
          rfl
         refine take_ (i := 1) (N := some 7) (v := ?_) (a' := ?_) #[true, true, false, false, false, false, true, false, false, false, true, false, false, false, false, true, false, false, false] rfl rfl (take_ofW HT_.out HW_.out (by kernel_rfl)) (fun _ _ _ h => h) (Or.inl ⟨by rfl, ?_⟩) hHeld ?_ ?_
         rotate_left
         ·rintro w' ⟨s0, s1, s2⟩
          go_simp
          with_reducible rfl
         rotate_left
         ·simp only [Act.put, List.setIfInBounds_toArray, List.set_cons_zero, List.set_cons_succ, i64_w, i32_w]
          rfl
         refine take_ (i := 7) (N := some 13) (v := ?_) (a' := ?_) #[true, true, false, false, false, false, true, true, false, false, true, false, false, false, false, true, false, false, false] rfl rfl (take_ofW HT_.out HW_.out (by kernel_rfl)) (fun _ _ _ h => h) (Or.inl ⟨by rfl, ?_⟩) hHeld ?_ ?_
         rotate_left
         ·rintro w' ⟨s0, s1, s2⟩
          go_simp
          with_reducible rfl
         rotate_left
         ·simp only [Act.put, List.setIfInBounds_toArray, List.set_cons_zero, List.set_cons_succ, i64_w, i32_w]
          rfl
         refine take_ (i := 11) (N := some 17) (v := ?_) (a' := ?_) #[true, true, false, false, false, false, true, true, false, false, true, true, false, false, false, true, false, false, false] rfl rfl (take_ofW HT_.out HW_.out (by kernel_rfl)) (fun _ _ _ h => h) (Or.inl ⟨by rfl, ?_⟩) hHeld ?_ ?_
         rotate_left
         ·rintro w' ⟨s0, s1, s2⟩
          go_simp
          with_reducible rfl
         rotate_left
         ·simp only [Act.put, List.setIfInBounds_toArray, List.set_cons_zero, List.set_cons_succ, i64_w, i32_w]
          rfl
         refine take_ (i := 16) (N := some 22) (v := ?_) (a' := ?_) #[true, true, false, false, false, false, true, true, false, false, true, true, false, false, false, true, true, false, false] rfl rfl (take_ofW HT_.out HW_.out (by kernel_rfl)) (fun _ _ _ h => h) (Or.inl ⟨by rfl, ?_⟩) hHeld ?_ ?_
         rotate_left
         ·rintro w' ⟨s0, s1, s2⟩
          go_simp
          with_reducible rfl
         rotate_left
         ·simp only [Act.put, List.setIfInBounds_toArray, List.set_cons_zero, List.set_cons_succ, i64_w, i32_w]
          rfl
         refine one_ (i := 2) (N := some 8) #[true, true, true, false, false, false, true, true, false, false, true, true, false, false, false, true, true, false, false] rfl rfl (one_of HT_.out (by kernel_rfl)) (by decide) (fun K hK => ?_)
         refine goes_ Tryd.func124 (by kernel_rfl) rfl #[.int .i64 a0_0] (by rfl) rfl rfl ma ?_
         with_reducible refine (strconv_Itoa.calls a0_0 t885 _ ?side1 A4.out).mono ?_
         (case side1 => exact GLOBT.below HGT.out bl)
         rintro e w18 ⟨rfl, hb⟩
         refine ⟨_, rfl, ?_⟩
         replace BK883 := kb BK883 hb
         replace HB := am (below_step bl hb)
         (try clear hb)
         (try clear hb2)
         (try clear hk)
         (try clear hi)
         refine hK.out _ _ ⟨bc BK883, bc BK883, bc BK883⟩ (fun hHeld => ?_)
         clear hK K
         refine norm_ (a' := ?_) ?_ ?_
         rotate_left
         ·show Act.put _ (some 8) _ = _
          simp only [Act.put, List.setIfInBounds_toArray, List.set_cons_zero, List.set_cons_succ, i64_w, i32_w]
          rfl
         refine pure_ (i := 3) (N := some 9) (v := ?_) (a' := ?_) #[true, true, true, true, false, false, true, true, false, false, true, true, false, false, false, true, true, false, false] rfl rfl (any_of HT_.out (by kernel_rfl)) (fun _ _ _ h => h) (Or.inl ⟨by rfl, ?_⟩) ?_ ?_
         rotate_left
         ·intro w'
          go_simp
          with_reducible rfl
         rotate_left
         ·simp only [Act.put, List.setIfInBounds_toArray, List.set_cons_zero, List.set_cons_succ, i64_w, i32_w]
          rfl
         refine pure_ (i := 4) (N := some 10) (v := ?_) (a' := ?_) #[true, true, true, true, true, false, true, true, false, false, true, true, false, false, false, true, true, false, false] rfl rfl (any_of HT_.out (by kernel_rfl)) (fun _ _ _ h => h) (Or.inl ⟨by rfl, ?_⟩) ?_ ?_
         rotate_left
         ·intro w'
          go_simp
          with_reducible rfl
         rotate_left
         ·simp only [Act.put, List.setIfInBounds_toArray, List.set_cons_zero, List.set_cons_succ, i64_w, i32_w]
          rfl
         refine pure_ (i := 5) (N := some 11) (v := ?_) (a' := ?_) #[true, true, true, true, true, true, true, true, false, false, true, true, false, false, false, true, true, false, false] rfl rfl (any_of HT_.out (by kernel_rfl)) (fun _ _ _ h => h) (Or.inl ⟨by rfl, ?_⟩) ?_ ?_
         rotate_left
         ·intro w'
          go_simp
          with_reducible rfl
         rotate_left
         ·simp only [Act.put, List.setIfInBounds_toArray, List.set_cons_zero, List.set_cons_succ, i64_w, i32_w]
          rfl
         refine one_ (i := 8) (N := some 14) #[true, true, true, true, true, true, true, true, true, false, true, true, false, false, false, true, true, false, false] rfl rfl (one_of HT_.out (by kernel_rfl)) (by decide) (fun K hK => ?_)
         refine goes_ Tryd.func125 (by kernel_rfl) rfl #[.slice A0_1 l0_1.length c0_1] (by rfl) rfl rfl ma ?_
         with_reducible refine (impl_FieldsText.calls _ _ l0_1 t886 _ ?side1 ?side2 A8.out).mono ?_
         (case side1 => exact cb HR0_1)
         (case side2 => exact HC0_1.out)
         rintro e w19 ⟨rfl, hb⟩
         refine ⟨_, rfl, ?_⟩
         replace BK883 := kb BK883 hb
         replace HB := am (below_step bl hb)
         (try clear hb)
         (try clear hb2)
         (try clear hk)
         (try clear hi)
         refine hK.out _ _ ⟨bc BK883, bc BK883, bc BK883⟩ (fun hHeld => ?_)
         clear hK K
         refine norm_ (a' := ?_) ?_ ?_
         rotate_left
         ·show Act.put _ (some 14) _ = _
          simp only [Act.put, List.setIfInBounds_toArray, List.set_cons_zero, List.set_cons_succ, i64_w, i32_w]
          rfl
         refine pure_ (i := 9) (N := some 15) (v := ?_) (a' := ?_) #[true, true, true, true, true, true, true, true, true, true, true, true, false, false, false, true, true, false, false] rfl rfl (any_of HT_.out (by kernel_rfl)) (fun _ _ _ h => h) (Or.inl ⟨by rfl, ?_⟩) ?_ ?_
         rotate_left
         ·intro w'
          go_simp
          with_reducible rfl
         rotate_left
         ·simp only [Act.put, List.setIfInBounds_toArray, List.set_cons_zero, List.set_cons_succ, i64_w, i32_w]
          rfl
         refine one_ (i := 12) (N := some 18) #[true, true, true, true, true, true, true, true, true, true, true, true, true, false, false, true, true, false, false] rfl rfl (one_of HT_.out (by kernel_rfl)) (by decide) (fun K hK => ?_)
         refine goes_ Tryd.func126 (by kernel_rfl) rfl #[.string a0_2] (by rfl) rfl rfl ma ?_
         with_reducible refine (impl_lengthLine.calls a0_2 t887 _ ?side1 A10.out).mono ?_
         (case side1 => exact GLOBT.below HGT.out bl)
         rintro e w20 ⟨rfl, hb⟩
         refine ⟨_, rfl, ?_⟩
         replace BK883 := kb BK883 hb
         replace HB := am (below_step bl hb)
         (try clear hb)
         (try clear hb2)
         (try clear hk)
         (try clear hi)
         refine hK.out _ _ ⟨bc BK883, bc BK883, bc BK883⟩ (fun hHeld => ?_)
         clear hK K
         refine norm_ (a' := ?_) ?_ ?_
         rotate_left
         ·show Act.put _ (some 18) _ = _
          simp only [Act.put, List.setIfInBounds_toArray, List.set_cons_zero, List.set_cons_succ, i64_w, i32_w]
          rfl
         refine pure_ (i := 13) (N := some 19) (v := ?_) (a' := ?_) #[true, true, true, true, true, true, true, true, true, true, true, true, true, true, false, true, true, false, false] rfl rfl (any_of HT_.out (by kernel_rfl)) (fun _ _ _ h => h) (Or.inl ⟨by rfl, ?_⟩) ?_ ?_
         rotate_left
         ·intro w'
          go_simp
          with_reducible rfl
         rotate_left
         ·simp only [Act.put, List.setIfInBounds_toArray, List.set_cons_zero, List.set_cons_succ, i64_w, i32_w]
          rfl
         refine pure_ (i := 14) (N := some 20) (v := ?_) (a' := ?_) #[true, true, true, true, true, true, true, true, true, true, true, true, true, true, true, true, true, false, false] rfl rfl (any_of HT_.out (by kernel_rfl)) (fun _ _ _ h => h) (Or.inl ⟨by rfl, ?_⟩) ?_ ?_
         rotate_left
         ·intro w'
          go_simp
          with_reducible rfl
         rotate_left
         ·simp only [Act.put, List.setIfInBounds_toArray, List.set_cons_zero, List.set_cons_succ, i64_w, i32_w]
          rfl
         refine pure_ (i := 17) (N := some 23) (v := ?_) (a' := ?_) #[true, true, true, true, true, true, true, true, true, true, true, true, true, true, true, true, true, true, false] rfl rfl (any_of HT_.out (by kernel_rfl)) (fun _ _ _ h => h) (Or.inl ⟨by rfl, ?_⟩) ?_ ?_
         rotate_left
         ·intro w'
          go_simp
          with_reducible rfl
         rotate_left
         ·simp only [Act.put, List.setIfInBounds_toArray, List.set_cons_zero, List.set_cons_succ, i64_w, i32_w]
          rfl
         refine pure_ (i := 18) (N := some 2) (v := ?_) (a' := ?_) #[true, true, true, true, true, true, true, true, true, true, true, true, true, true, true, true, true, true, true] rfl rfl (any_of HT_.out (by kernel_rfl)) (fun _ _ _ h => h) (Or.inl ⟨by rfl, ?_⟩) ?_ ?_
         rotate_left
         ·intro w'
          go_simp
          with_reducible rfl
         rotate_left
         ·simp only [Act.put, List.setIfInBounds_toArray, List.set_cons_zero, List.set_cons_succ, i64_w, i32_w]
          rfl
         refine done_ (done_of HT_.out (by kernel_rfl)) ?_
         try go_wp2
         go_ret
         exact ⟨rf, bl⟩
        ·rw [if_neg c13] at H
         exact absurd H (by simp)
       ·rw [if_neg c12] at H
        exact absurd H (by simp)
      ·rw [if_neg c11] at H
       exact absurd H (by simp)
     ·rw [if_neg c9] at H
      exact absurd H (by simp)
    ·rw [if_neg c7] at H
     exact absurd H (by simp)
   ·rw [if_neg c6] at H
    exact absurd H (by simp)
  ·rw [if_neg c5] at H
   exact absurd H (by simp)
 ·replace c3 := Bool.eq_false_iff.mpr c3
  subst c3
  have H1 : (some (⟨#[]⟩ : ByteArray)) = some r := by rw [if_neg (show ¬ (false = true) by decide)] at H; exact H
  clear H
  have H := H1
  clear H1
  obtain rfl := Option.some.inj H
  go_enter Tryd.func44, Tryd.ntmps44
  go_wp2_with (first | ((with_reducible refine gate_dst (N := 1) rfl ?_); refine box_event ?hg (N := 1) ?hd (cs := #[.int .i64 a0_0, .slice A0_1 l0_1.length c0_1, .string a0_2]) (t := 43) ?hr ?_; (case hd => rfl); (case hg => rfl); (case hr => first | (go_simp; done) | (go_simp; rfl)); intro gb883 hg w21 hbox hb; have n0_ := am (below_step bl hb); have n1_ := am (hbox); have n2_ := am (sz hg : w.heap.size ≤ gb883); have n3_ := am (sz hg : w.heap.size ≤ gb883); clear HB; have HB := n0_; have BK883 := n1_; have GW883 := n2_; have GE883 := n3_; clear n0_ n1_ n2_ n3_; clear hb hbox hg; have hcz22_0 : w21.cell? ⟨gb883, 0, none⟩ = some (.int .i64 a0_0) := bc BK883; have hcz22_1 : w21.cell? ⟨gb883, 1, none⟩ = some (.slice A0_1 l0_1.length c0_1) := bc BK883; have hcz22_2 : w21.cell? ⟨gb883, 2, none⟩ = some (.string a0_2) := bc BK883; have hfz22_0 := blk_frozen BK883.out 0; have hfz22_1 := blk_frozen BK883.out 1; have hfz22_2 := blk_frozen BK883.out 2) | ((with_reducible refine gate_callee (f := 123) rfl ?_); refine goesL_ (some 4) rfl rfl Tryd.func123 (by kernel_rfl) rfl #[.agg #[.int .i64 a0_0, .slice A0_1 l0_1.length c0_1, .string a0_2]] rfl ma ?_; (with_reducible refine (impl_RespOk.calls k a0_0 _ _ l0_1 a0_2 false _ ?side1 ?side2 A2.out).mono ?_); (case side1 => exact cb HR0_1); (case side2 => exact HC0_1.out); rintro e w23 ⟨rfl, hb⟩; refine ⟨_, rfl, ?_⟩; replace BK883 := kb BK883 hb; replace HB := am (below_step bl hb); (try clear hb); (try clear hb2); (try clear hk); (try clear hi)))
  go_ret
  exact ⟨rf, bl⟩

end Go.Proofs.YtiinmfjbildclaaDoor.All
