-- Written by a program of this session (wip/tools/hprint.py) out of the translation. Lean checks it.
import Derived.Test.YtogdmlgbdbgpkaaDoorAllx0
import Derived.Test.YtogdmlgbdbgpkaaDoorAllx6
import Derived.Test.YtogdmlgbdbgpkaaDoorAllx38
namespace Go.Proofs.YtogdmlgbdbgpkaaDoor.All
open Go.RowKit Go.Proofs.YtogdmlgbdbgpkaaDoorW.PrintWords Go.Proofs.YtogdmlgbdbgpkaaDoorW.PrintLast Go.Proofs.YtogdmlgbdbgpkaaDoorW.PrintMore
attribute [local go_sem] max2_int min2_int max_two min_two max_three min_three max_four min_four   -- for this text's walks alone
set_option linter.unusedVariables false
set_option linter.unusedSimpArgs false

/-! ### spec_BanText: function 76 -/
def spec_BanText.f (k : Nat) (a0_0 : Int) (a0_1 : ByteArray) (a0_2 : ByteArray) (a0_3 : Int) : Option (ByteArray) := (spec_BanOk.f k a0_0 a0_1 a0_2 a0_3).bind fun t965 => (if t965 = true then ((some (([(⟨#[]⟩ : ByteArray), (⟨#[112, 97, 116, 104]⟩ : ByteArray), (⟨#[98, 101, 108, 111, 119]⟩ : ByteArray), (⟨#[102, 105, 101, 108, 100]⟩ : ByteArray)] : List ByteArray) : List ByteArray)).bind fun y966 => (if 0 ≤ a0_0 then (if a0_0 < (y966.length : Int) then (if 4 + (rdOf ByteArray.empty y966 a0_0).size ≤ 9223372036854775807 then (if ((⟨#[98, 97, 110, 32]⟩ : ByteArray) ++ (rdOf ByteArray.empty y966 a0_0)).size + 1 ≤ 9223372036854775807 then ((spec_NumText.f k a0_3).bind fun t970 => (if (((⟨#[98, 97, 110, 32]⟩ : ByteArray) ++ (rdOf ByteArray.empty y966 a0_0)) ++ (⟨#[32]⟩ : ByteArray)).size + t970.size ≤ 9223372036854775807 then (if ((((⟨#[98, 97, 110, 32]⟩ : ByteArray) ++ (rdOf ByteArray.empty y966 a0_0)) ++ (⟨#[32]⟩ : ByteArray)) ++ t970).size + 1 ≤ 9223372036854775807 then (if (((((⟨#[98, 97, 110, 32]⟩ : ByteArray) ++ (rdOf ByteArray.empty y966 a0_0)) ++ (⟨#[32]⟩ : ByteArray)) ++ t970) ++ (⟨#[32]⟩ : ByteArray)).size + a0_1.size ≤ 9223372036854775807 then (if a0_0 = 3 then (if ((((((⟨#[98, 97, 110, 32]⟩ : ByteArray) ++ (rdOf ByteArray.empty y966 a0_0)) ++ (⟨#[32]⟩ : ByteArray)) ++ t970) ++ (⟨#[32]⟩ : ByteArray)) ++ a0_1).size + 1 ≤ 9223372036854775807 then (if (((((((⟨#[98, 97, 110, 32]⟩ : ByteArray) ++ (rdOf ByteArray.empty y966 a0_0)) ++ (⟨#[32]⟩ : ByteArray)) ++ t970) ++ (⟨#[32]⟩ : ByteArray)) ++ a0_1) ++ (⟨#[10]⟩ : ByteArray)).size + a0_2.size ≤ 9223372036854775807 then (some ((((((((⟨#[98, 97, 110, 32]⟩ : ByteArray) ++ (rdOf ByteArray.empty y966 a0_0)) ++ (⟨#[32]⟩ : ByteArray)) ++ t970) ++ (⟨#[32]⟩ : ByteArray)) ++ a0_1) ++ (⟨#[10]⟩ : ByteArray)) ++ a0_2)) else (none)) else (none)) else (some ((((((⟨#[98, 97, 110, 32]⟩ : ByteArray) ++ (rdOf ByteArray.empty y966 a0_0)) ++ (⟨#[32]⟩ : ByteArray)) ++ t970) ++ (⟨#[32]⟩ : ByteArray)) ++ a0_1))) else (none)) else (none)) else (none))) else (none)) else (none)) else (none)) else (none))) else (some (⟨#[]⟩ : ByteArray)))
theorem spec_BanText.mono : ∀ a0 a1 a2 a3 k, LeO (spec_BanText.f k a0 a1 a2 a3) (spec_BanText.f (k + 1) a0 a1 a2 a3) := by
  intro a0 a1 a2 a3 k
  unfold spec_BanText.f
  repeat' first
      | (with_reducible exact spec_BanOk.mono _ _ _ _ _)
      | (with_reducible exact spec_NumText.mono _ _)
      | (with_reducible exact LeO.refl _)
      | (with_reducible exact LeO.none _)
      | (with_reducible refine LeO.ite ?_ ?_)
      | (with_reducible refine LeO.bind ?_ (fun _ => ?_))
      | exact spec_BanOk.mono _ _ _ _ _
      | exact spec_NumText.mono _ _
      | exact LeO.none _
      | refine LeO.ite ?_ ?_
      | refine LeO.bind ?_ (fun _ => ?_)
def spec_BanText.T3 : Bool × List (List Nat × List Nat) := (true, [([], []), ([], []), ([1], [1]), ([0, 2], [0, 2]), ([3], [3]), ([4], [4]), ([5], [5]), ([], []), ([7], [7]), ([8], [8]), ([6, 9], [6, 9]), ([10], [10]), ([], []), ([12], [12]), ([11, 13], [11, 13]), ([14, 9, 0, 1, 2, 3, 4, 5, 6, 7, 8, 9, 10, 11, 12, 13, 14], [14])])
def spec_BanText.B3 : List Nat := [0, 0, 2, 7, 15, 31, 63, 0, 128, 384, 1023, 2047, 0, 4096, 16383, 32767]
theorem spec_BanText.tab3 : rtab .any (opsOf Tryd.f76 3) = spec_BanText.T3 := by kernel_rfl
theorem spec_BanText.bits3 : waitsOk spec_BanText.T3.2 spec_BanText.B3 = true := by kernel_rfl
set_option maxHeartbeats 8000000 in
set_option maxRecDepth 100000 in
theorem spec_BanText.calls (k : Nat) (a0_0 : Int) (a0_1 : ByteArray) (a0_2 : ByteArray) (a0_3 : Int) (r : ByteArray) (w : World) (h : spec_BanText.f k a0_0 a0_1 a0_2 a0_3 = some r) :
    Calls Tryd.prog 76 #[.agg #[.int .i64 a0_0, .string a0_1, .string a0_2, .int .i64 a0_3]] w fun e w' => e = .returned (.string r) ∧ Below w.heap.size w w' := by
  have hu91 := Tryd.underlying91
  have HB := Aside0.mk (Below.refl w.heap.size w)
  have H : ((spec_BanOk.f k a0_0 a0_1 a0_2 a0_3).bind fun t965 => (if t965 = true then ((some (([(⟨#[]⟩ : ByteArray), (⟨#[112, 97, 116, 104]⟩ : ByteArray), (⟨#[98, 101, 108, 111, 119]⟩ : ByteArray), (⟨#[102, 105, 101, 108, 100]⟩ : ByteArray)] : List ByteArray) : List ByteArray)).bind fun y966 => (if 0 ≤ a0_0 then (if a0_0 < (y966.length : Int) then (if 4 + (rdOf ByteArray.empty y966 a0_0).size ≤ 9223372036854775807 then (if ((⟨#[98, 97, 110, 32]⟩ : ByteArray) ++ (rdOf ByteArray.empty y966 a0_0)).size + 1 ≤ 9223372036854775807 then ((spec_NumText.f k a0_3).bind fun t970 => (if (((⟨#[98, 97, 110, 32]⟩ : ByteArray) ++ (rdOf ByteArray.empty y966 a0_0)) ++ (⟨#[32]⟩ : ByteArray)).size + t970.size ≤ 9223372036854775807 then (if ((((⟨#[98, 97, 110, 32]⟩ : ByteArray) ++ (rdOf ByteArray.empty y966 a0_0)) ++ (⟨#[32]⟩ : ByteArray)) ++ t970).size + 1 ≤ 9223372036854775807 then (if (((((⟨#[98, 97, 110, 32]⟩ : ByteArray) ++ (rdOf ByteArray.empty y966 a0_0)) ++ (⟨#[32]⟩ : ByteArray)) ++ t970) ++ (⟨#[32]⟩ : ByteArray)).size + a0_1.size ≤ 9223372036854775807 then (if a0_0 = 3 then (if ((((((⟨#[98, 97, 110, 32]⟩ : ByteArray) ++ (rdOf ByteArray.empty y966 a0_0)) ++ (⟨#[32]⟩ : ByteArray)) ++ t970) ++ (⟨#[32]⟩ : ByteArray)) ++ a0_1).size + 1 ≤ 9223372036854775807 then (if (((((((⟨#[98, 97, 110, 32]⟩ : ByteArray) ++ (rdOf ByteArray.empty y966 a0_0)) ++ (⟨#[32]⟩ : ByteArray)) ++ t970) ++ (⟨#[32]⟩ : ByteArray)) ++ a0_1) ++ (⟨#[10]⟩ : ByteArray)).size + a0_2.size ≤ 9223372036854775807 then (some ((((((((⟨#[98, 97, 110, 32]⟩ : ByteArray) ++ (rdOf ByteArray.empty y966 a0_0)) ++ (⟨#[32]⟩ : ByteArray)) ++ t970) ++ (⟨#[32]⟩ : ByteArray)) ++ a0_1) ++ (⟨#[10]⟩ : ByteArray)) ++ a0_2)) else (none)) else (none)) else (some ((((((⟨#[98, 97, 110, 32]⟩ : ByteArray) ++ (rdOf ByteArray.empty y966 a0_0)) ++ (⟨#[32]⟩ : ByteArray)) ++ t970) ++ (⟨#[32]⟩ : ByteArray)) ++ a0_1))) else (none)) else (none)) else (none))) else (none)) else (none)) else (none)) else (none))) else (some (⟨#[]⟩ : ByteArray)))) = some r := h
  clear h
  replace H := Option.bind_eq_some_iff.mp H
  obtain ⟨t965, A20, H⟩ := H
  replace H : (if t965 = true then ((some (([(⟨#[]⟩ : ByteArray), (⟨#[112, 97, 116, 104]⟩ : ByteArray), (⟨#[98, 101, 108, 111, 119]⟩ : ByteArray), (⟨#[102, 105, 101, 108, 100]⟩ : ByteArray)] : List ByteArray) : List ByteArray)).bind fun y966 => (if 0 ≤ a0_0 then (if a0_0 < (y966.length : Int) then (if 4 + (rdOf ByteArray.empty y966 a0_0).size ≤ 9223372036854775807 then (if ((⟨#[98, 97, 110, 32]⟩ : ByteArray) ++ (rdOf ByteArray.empty y966 a0_0)).size + 1 ≤ 9223372036854775807 then ((spec_NumText.f k a0_3).bind fun t970 => (if (((⟨#[98, 97, 110, 32]⟩ : ByteArray) ++ (rdOf ByteArray.empty y966 a0_0)) ++ (⟨#[32]⟩ : ByteArray)).size + t970.size ≤ 9223372036854775807 then (if ((((⟨#[98, 97, 110, 32]⟩ : ByteArray) ++ (rdOf ByteArray.empty y966 a0_0)) ++ (⟨#[32]⟩ : ByteArray)) ++ t970).size + 1 ≤ 9223372036854775807 then (if (((((⟨#[98, 97, 110, 32]⟩ : ByteArray) ++ (rdOf ByteArray.empty y966 a0_0)) ++ (⟨#[32]⟩ : ByteArray)) ++ t970) ++ (⟨#[32]⟩ : ByteArray)).size + a0_1.size ≤ 9223372036854775807 then (if a0_0 = 3 then (if ((((((⟨#[98, 97, 110, 32]⟩ : ByteArray) ++ (rdOf ByteArray.empty y966 a0_0)) ++ (⟨#[32]⟩ : ByteArray)) ++ t970) ++ (⟨#[32]⟩ : ByteArray)) ++ a0_1).size + 1 ≤ 9223372036854775807 then (if (((((((⟨#[98, 97, 110, 32]⟩ : ByteArray) ++ (rdOf ByteArray.empty y966 a0_0)) ++ (⟨#[32]⟩ : ByteArray)) ++ t970) ++ (⟨#[32]⟩ : ByteArray)) ++ a0_1) ++ (⟨#[10]⟩ : ByteArray)).size + a0_2.size ≤ 9223372036854775807 then (some ((((((((⟨#[98, 97, 110, 32]⟩ : ByteArray) ++ (rdOf ByteArray.empty y966 a0_0)) ++ (⟨#[32]⟩ : ByteArray)) ++ t970) ++ (⟨#[32]⟩ : ByteArray)) ++ a0_1) ++ (⟨#[10]⟩ : ByteArray)) ++ a0_2)) else (none)) else (none)) else (some ((((((⟨#[98, 97, 110, 32]⟩ : ByteArray) ++ (rdOf ByteArray.empty y966 a0_0)) ++ (⟨#[32]⟩ : ByteArray)) ++ t970) ++ (⟨#[32]⟩ : ByteArray)) ++ a0_1))) else (none)) else (none)) else (none))) else (none)) else (none)) else (none)) else (none))) else (some (⟨#[]⟩ : ByteArray))) = some r := H
  have A2 := Aside0.mk A20
  clear A20
  by_cases c3 : t965 = true
  · subst c3
    have H1 : ((some (([(⟨#[]⟩ : ByteArray), (⟨#[112, 97, 116, 104]⟩ : ByteArray), (⟨#[98, 101, 108, 111, 119]⟩ : ByteArray), (⟨#[102, 105, 101, 108, 100]⟩ : ByteArray)] : List ByteArray) : List ByteArray)).bind fun y966 => (if 0 ≤ a0_0 then (if a0_0 < (y966.length : Int) then (if 4 + (rdOf ByteArray.empty y966 a0_0).size ≤ 9223372036854775807 then (if ((⟨#[98, 97, 110, 32]⟩ : ByteArray) ++ (rdOf ByteArray.empty y966 a0_0)).size + 1 ≤ 9223372036854775807 then ((spec_NumText.f k a0_3).bind fun t970 => (if (((⟨#[98, 97, 110, 32]⟩ : ByteArray) ++ (rdOf ByteArray.empty y966 a0_0)) ++ (⟨#[32]⟩ : ByteArray)).size + t970.size ≤ 9223372036854775807 then (if ((((⟨#[98, 97, 110, 32]⟩ : ByteArray) ++ (rdOf ByteArray.empty y966 a0_0)) ++ (⟨#[32]⟩ : ByteArray)) ++ t970).size + 1 ≤ 9223372036854775807 then (if (((((⟨#[98, 97, 110, 32]⟩ : ByteArray) ++ (rdOf ByteArray.empty y966 a0_0)) ++ (⟨#[32]⟩ : ByteArray)) ++ t970) ++ (⟨#[32]⟩ : ByteArray)).size + a0_1.size ≤ 9223372036854775807 then (if a0_0 = 3 then (if ((((((⟨#[98, 97, 110, 32]⟩ : ByteArray) ++ (rdOf ByteArray.empty y966 a0_0)) ++ (⟨#[32]⟩ : ByteArray)) ++ t970) ++ (⟨#[32]⟩ : ByteArray)) ++ a0_1).size + 1 ≤ 9223372036854775807 then (if (((((((⟨#[98, 97, 110, 32]⟩ : ByteArray) ++ (rdOf ByteArray.empty y966 a0_0)) ++ (⟨#[32]⟩ : ByteArray)) ++ t970) ++ (⟨#[32]⟩ : ByteArray)) ++ a0_1) ++ (⟨#[10]⟩ : ByteArray)).size + a0_2.size ≤ 9223372036854775807 then (some ((((((((⟨#[98, 97, 110, 32]⟩ : ByteArray) ++ (rdOf ByteArray.empty y966 a0_0)) ++ (⟨#[32]⟩ : ByteArray)) ++ t970) ++ (⟨#[32]⟩ : ByteArray)) ++ a0_1) ++ (⟨#[10]⟩ : ByteArray)) ++ a0_2)) else (none)) else (none)) else (some ((((((⟨#[98, 97, 110, 32]⟩ : ByteArray) ++ (rdOf ByteArray.empty y966 a0_0)) ++ (⟨#[32]⟩ : ByteArray)) ++ t970) ++ (⟨#[32]⟩ : ByteArray)) ++ a0_1))) else (none)) else (none)) else (none))) else (none)) else (none)) else (none)) else (none))) = some r := by rw [if_pos rfl] at H; exact H
    clear H
    have H := H1
    clear H1
    obtain ⟨y966, hy966⟩ : ∃ y_ : List ByteArray, y_ = (([(⟨#[]⟩ : ByteArray), (⟨#[112, 97, 116, 104]⟩ : ByteArray), (⟨#[98, 101, 108, 111, 119]⟩ : ByteArray), (⟨#[102, 105, 101, 108, 100]⟩ : ByteArray)] : List ByteArray)) := ⟨_, rfl⟩
    replace H : (if 0 ≤ a0_0 then (if a0_0 < (y966.length : Int) then (if 4 + (rdOf ByteArray.empty y966 a0_0).size ≤ 9223372036854775807 then (if ((⟨#[98, 97, 110, 32]⟩ : ByteArray) ++ (rdOf ByteArray.empty y966 a0_0)).size + 1 ≤ 9223372036854775807 then ((spec_NumText.f k a0_3).bind fun t970 => (if (((⟨#[98, 97, 110, 32]⟩ : ByteArray) ++ (rdOf ByteArray.empty y966 a0_0)) ++ (⟨#[32]⟩ : ByteArray)).size + t970.size ≤ 9223372036854775807 then (if ((((⟨#[98, 97, 110, 32]⟩ : ByteArray) ++ (rdOf ByteArray.empty y966 a0_0)) ++ (⟨#[32]⟩ : ByteArray)) ++ t970).size + 1 ≤ 9223372036854775807 then (if (((((⟨#[98, 97, 110, 32]⟩ : ByteArray) ++ (rdOf ByteArray.empty y966 a0_0)) ++ (⟨#[32]⟩ : ByteArray)) ++ t970) ++ (⟨#[32]⟩ : ByteArray)).size + a0_1.size ≤ 9223372036854775807 then (if a0_0 = 3 then (if ((((((⟨#[98, 97, 110, 32]⟩ : ByteArray) ++ (rdOf ByteArray.empty y966 a0_0)) ++ (⟨#[32]⟩ : ByteArray)) ++ t970) ++ (⟨#[32]⟩ : ByteArray)) ++ a0_1).size + 1 ≤ 9223372036854775807 then (if (((((((⟨#[98, 97, 110, 32]⟩ : ByteArray) ++ (rdOf ByteArray.empty y966 a0_0)) ++ (⟨#[32]⟩ : ByteArray)) ++ t970) ++ (⟨#[32]⟩ : ByteArray)) ++ a0_1) ++ (⟨#[10]⟩ : ByteArray)).size + a0_2.size ≤ 9223372036854775807 then (some ((((((((⟨#[98, 97, 110, 32]⟩ : ByteArray) ++ (rdOf ByteArray.empty y966 a0_0)) ++ (⟨#[32]⟩ : ByteArray)) ++ t970) ++ (⟨#[32]⟩ : ByteArray)) ++ a0_1) ++ (⟨#[10]⟩ : ByteArray)) ++ a0_2)) else (none)) else (none)) else (some ((((((⟨#[98, 97, 110, 32]⟩ : ByteArray) ++ (rdOf ByteArray.empty y966 a0_0)) ++ (⟨#[32]⟩ : ByteArray)) ++ t970) ++ (⟨#[32]⟩ : ByteArray)) ++ a0_1))) else (none)) else (none)) else (none))) else (none)) else (none)) else (none)) else (none)) = some r := by first | (rw [hy966]; with_reducible exact H) | (have H2_ := (Option.bind_some _ _).symm.trans H; rw [hy966]; with_reducible exact H2_) | (have H2_ := (Option.bind_some _ _).symm.trans H; with_reducible exact H2_) | with_reducible exact H | (rw [hy966]; exact H) | exact H
    have Ny966 := Aside0.mk hy966
    clear hy966
    by_cases c4 : 0 ≤ a0_0
    · rw [if_pos c4] at H
      have c4b0 : decide (0 ≤ a0_0) = true := decide_eq_true c4
      clear c4
      by_cases c5 : a0_0 < (y966.length : Int)
      · rw [if_pos c5] at H
        have c5b0 : decide (a0_0 < (y966.length : Int)) = true := decide_eq_true c5
        clear c5
        by_cases c6 : 4 + (rdOf ByteArray.empty y966 a0_0).size ≤ 9223372036854775807
        · rw [if_pos c6] at H
          have c6b0 := eq_true c6
          have c6b1 : decide (4 + (rdOf ByteArray.empty y966 a0_0).size ≤ 9223372036854775807) = true := decide_eq_true c6
          try have c6b2 : (9223372036854775807 < 4 + (rdOf ByteArray.empty y966 a0_0).size) = False := eq_false (Nat.not_lt.2 c6)
          by_cases c7 : ((⟨#[98, 97, 110, 32]⟩ : ByteArray) ++ (rdOf ByteArray.empty y966 a0_0)).size + 1 ≤ 9223372036854775807
          · rw [if_pos c7] at H
            have c7b0 := eq_true c7
            have c7b1 : decide (((⟨#[98, 97, 110, 32]⟩ : ByteArray) ++ (rdOf ByteArray.empty y966 a0_0)).size + 1 ≤ 9223372036854775807) = true := decide_eq_true c7
            try have c7b2 : (9223372036854775807 < ((⟨#[98, 97, 110, 32]⟩ : ByteArray) ++ (rdOf ByteArray.empty y966 a0_0)).size + 1) = False := eq_false (Nat.not_lt.2 c7)
            have c7b3 : (9223372036854775807 < 4 + (rdOf ByteArray.empty y966 a0_0).size + 1) = False := eq_false (Nat.not_lt.2 (by have h_ := c7; simp only [ByteArray.size_append] at h_; first | exact h_ | (simp only [ByteArray.size_extract] at h_; rw [Nat.min_eq_left (by omega)] at h_; exact h_)))
            replace H := Option.bind_eq_some_iff.mp H
            obtain ⟨t970, A80, H⟩ := H
            replace H : (if (((⟨#[98, 97, 110, 32]⟩ : ByteArray) ++ (rdOf ByteArray.empty y966 a0_0)) ++ (⟨#[32]⟩ : ByteArray)).size + t970.size ≤ 9223372036854775807 then (if ((((⟨#[98, 97, 110, 32]⟩ : ByteArray) ++ (rdOf ByteArray.empty y966 a0_0)) ++ (⟨#[32]⟩ : ByteArray)) ++ t970).size + 1 ≤ 9223372036854775807 then (if (((((⟨#[98, 97, 110, 32]⟩ : ByteArray) ++ (rdOf ByteArray.empty y966 a0_0)) ++ (⟨#[32]⟩ : ByteArray)) ++ t970) ++ (⟨#[32]⟩ : ByteArray)).size + a0_1.size ≤ 9223372036854775807 then (if a0_0 = 3 then (if ((((((⟨#[98, 97, 110, 32]⟩ : ByteArray) ++ (rdOf ByteArray.empty y966 a0_0)) ++ (⟨#[32]⟩ : ByteArray)) ++ t970) ++ (⟨#[32]⟩ : ByteArray)) ++ a0_1).size + 1 ≤ 9223372036854775807 then (if (((((((⟨#[98, 97, 110, 32]⟩ : ByteArray) ++ (rdOf ByteArray.empty y966 a0_0)) ++ (⟨#[32]⟩ : ByteArray)) ++ t970) ++ (⟨#[32]⟩ : ByteArray)) ++ a0_1) ++ (⟨#[10]⟩ : ByteArray)).size + a0_2.size ≤ 9223372036854775807 then (some ((((((((⟨#[98, 97, 110, 32]⟩ : ByteArray) ++ (rdOf ByteArray.empty y966 a0_0)) ++ (⟨#[32]⟩ : ByteArray)) ++ t970) ++ (⟨#[32]⟩ : ByteArray)) ++ a0_1) ++ (⟨#[10]⟩ : ByteArray)) ++ a0_2)) else (none)) else (none)) else (some ((((((⟨#[98, 97, 110, 32]⟩ : ByteArray) ++ (rdOf ByteArray.empty y966 a0_0)) ++ (⟨#[32]⟩ : ByteArray)) ++ t970) ++ (⟨#[32]⟩ : ByteArray)) ++ a0_1))) else (none)) else (none)) else (none)) = some r := H
            have A8 := Aside0.mk A80
            clear A80
            by_cases c9 : (((⟨#[98, 97, 110, 32]⟩ : ByteArray) ++ (rdOf ByteArray.empty y966 a0_0)) ++ (⟨#[32]⟩ : ByteArray)).size + t970.size ≤ 9223372036854775807
            · rw [if_pos c9] at H
              have c9b0 := eq_true c9
              have c9b1 : decide ((((⟨#[98, 97, 110, 32]⟩ : ByteArray) ++ (rdOf ByteArray.empty y966 a0_0)) ++ (⟨#[32]⟩ : ByteArray)).size + t970.size ≤ 9223372036854775807) = true := decide_eq_true c9
              try have c9b2 : (9223372036854775807 < (((⟨#[98, 97, 110, 32]⟩ : ByteArray) ++ (rdOf ByteArray.empty y966 a0_0)) ++ (⟨#[32]⟩ : ByteArray)).size + t970.size) = False := eq_false (Nat.not_lt.2 c9)
              have c9b3 : (9223372036854775807 < 4 + (rdOf ByteArray.empty y966 a0_0).size + 1 + (t970).size) = False := eq_false (Nat.not_lt.2 (by have h_ := c9; simp only [ByteArray.size_append] at h_; first | exact h_ | (simp only [ByteArray.size_extract] at h_; rw [Nat.min_eq_left (by omega)] at h_; exact h_)))
              by_cases c10 : ((((⟨#[98, 97, 110, 32]⟩ : ByteArray) ++ (rdOf ByteArray.empty y966 a0_0)) ++ (⟨#[32]⟩ : ByteArray)) ++ t970).size + 1 ≤ 9223372036854775807
              · rw [if_pos c10] at H
                have c10b0 := eq_true c10
                have c10b1 : decide (((((⟨#[98, 97, 110, 32]⟩ : ByteArray) ++ (rdOf ByteArray.empty y966 a0_0)) ++ (⟨#[32]⟩ : ByteArray)) ++ t970).size + 1 ≤ 9223372036854775807) = true := decide_eq_true c10
                try have c10b2 : (9223372036854775807 < ((((⟨#[98, 97, 110, 32]⟩ : ByteArray) ++ (rdOf ByteArray.empty y966 a0_0)) ++ (⟨#[32]⟩ : ByteArray)) ++ t970).size + 1) = False := eq_false (Nat.not_lt.2 c10)
                have c10b3 : (9223372036854775807 < 4 + (rdOf ByteArray.empty y966 a0_0).size + 1 + (t970).size + 1) = False := eq_false (Nat.not_lt.2 (by have h_ := c10; simp only [ByteArray.size_append] at h_; first | exact h_ | (simp only [ByteArray.size_extract] at h_; rw [Nat.min_eq_left (by omega)] at h_; exact h_)))
                by_cases c11 : (((((⟨#[98, 97, 110, 32]⟩ : ByteArray) ++ (rdOf ByteArray.empty y966 a0_0)) ++ (⟨#[32]⟩ : ByteArray)) ++ t970) ++ (⟨#[32]⟩ : ByteArray)).size + a0_1.size ≤ 9223372036854775807
                · rw [if_pos c11] at H
                  have c11b0 := eq_true c11
                  have c11b1 : decide ((((((⟨#[98, 97, 110, 32]⟩ : ByteArray) ++ (rdOf ByteArray.empty y966 a0_0)) ++ (⟨#[32]⟩ : ByteArray)) ++ t970) ++ (⟨#[32]⟩ : ByteArray)).size + a0_1.size ≤ 9223372036854775807) = true := decide_eq_true c11
                  try have c11b2 : (9223372036854775807 < (((((⟨#[98, 97, 110, 32]⟩ : ByteArray) ++ (rdOf ByteArray.empty y966 a0_0)) ++ (⟨#[32]⟩ : ByteArray)) ++ t970) ++ (⟨#[32]⟩ : ByteArray)).size + a0_1.size) = False := eq_false (Nat.not_lt.2 c11)
                  have c11b3 : (9223372036854775807 < 4 + (rdOf ByteArray.empty y966 a0_0).size + 1 + (t970).size + 1 + (a0_1).size) = False := eq_false (Nat.not_lt.2 (by have h_ := c11; simp only [ByteArray.size_append] at h_; first | exact h_ | (simp only [ByteArray.size_extract] at h_; rw [Nat.min_eq_left (by omega)] at h_; exact h_)))
                  by_cases c12 : a0_0 = 3
                  · rw [if_pos c12] at H
                    have c12b0 : (a0_0 == 3) = true := beq_iff_eq.mpr c12
                    have c12b1 : (a0_0 != 3) = false := bne_eq_false_iff_eq.mpr c12
                    clear c12
                    by_cases c13 : ((((((⟨#[98, 97, 110, 32]⟩ : ByteArray) ++ (rdOf ByteArray.empty y966 a0_0)) ++ (⟨#[32]⟩ : ByteArray)) ++ t970) ++ (⟨#[32]⟩ : ByteArray)) ++ a0_1).size + 1 ≤ 9223372036854775807
                    · rw [if_pos c13] at H
                      have c13b0 := eq_true c13
                      have c13b1 : decide (((((((⟨#[98, 97, 110, 32]⟩ : ByteArray) ++ (rdOf ByteArray.empty y966 a0_0)) ++ (⟨#[32]⟩ : ByteArray)) ++ t970) ++ (⟨#[32]⟩ : ByteArray)) ++ a0_1).size + 1 ≤ 9223372036854775807) = true := decide_eq_true c13
                      try have c13b2 : (9223372036854775807 < ((((((⟨#[98, 97, 110, 32]⟩ : ByteArray) ++ (rdOf ByteArray.empty y966 a0_0)) ++ (⟨#[32]⟩ : ByteArray)) ++ t970) ++ (⟨#[32]⟩ : ByteArray)) ++ a0_1).size + 1) = False := eq_false (Nat.not_lt.2 c13)
                      have c13b3 : (9223372036854775807 < 4 + (rdOf ByteArray.empty y966 a0_0).size + 1 + (t970).size + 1 + (a0_1).size + 1) = False := eq_false (Nat.not_lt.2 (by have h_ := c13; simp only [ByteArray.size_append] at h_; first | exact h_ | (simp only [ByteArray.size_extract] at h_; rw [Nat.min_eq_left (by omega)] at h_; exact h_)))
                      by_cases c14 : (((((((⟨#[98, 97, 110, 32]⟩ : ByteArray) ++ (rdOf ByteArray.empty y966 a0_0)) ++ (⟨#[32]⟩ : ByteArray)) ++ t970) ++ (⟨#[32]⟩ : ByteArray)) ++ a0_1) ++ (⟨#[10]⟩ : ByteArray)).size + a0_2.size ≤ 9223372036854775807
                      · rw [if_pos c14] at H
                        have c14b0 := eq_true c14
                        have c14b1 : decide ((((((((⟨#[98, 97, 110, 32]⟩ : ByteArray) ++ (rdOf ByteArray.empty y966 a0_0)) ++ (⟨#[32]⟩ : ByteArray)) ++ t970) ++ (⟨#[32]⟩ : ByteArray)) ++ a0_1) ++ (⟨#[10]⟩ : ByteArray)).size + a0_2.size ≤ 9223372036854775807) = true := decide_eq_true c14
                        try have c14b2 : (9223372036854775807 < (((((((⟨#[98, 97, 110, 32]⟩ : ByteArray) ++ (rdOf ByteArray.empty y966 a0_0)) ++ (⟨#[32]⟩ : ByteArray)) ++ t970) ++ (⟨#[32]⟩ : ByteArray)) ++ a0_1) ++ (⟨#[10]⟩ : ByteArray)).size + a0_2.size) = False := eq_false (Nat.not_lt.2 c14)
                        have c14b3 : (9223372036854775807 < 4 + (rdOf ByteArray.empty y966 a0_0).size + 1 + (t970).size + 1 + (a0_1).size + 1 + (a0_2).size) = False := eq_false (Nat.not_lt.2 (by have h_ := c14; simp only [ByteArray.size_append] at h_; first | exact h_ | (simp only [ByteArray.size_extract] at h_; rw [Nat.min_eq_left (by omega)] at h_; exact h_)))
                        obtain rfl := Option.some.inj H
                        go_enter Tryd.func76, Tryd.ntmps76
                        try go_wp2_with (first | ((with_reducible refine gate_dst (N := 1) rfl ?_); refine box_event ?hg (N := 1) ?hd (cs := #[.int .i64 a0_0, .string a0_1, .string a0_2, .int .i64 a0_3]) (t := 91) ?hr ?_; (case hd => rfl); (case hg => rfl); (case hr => first | (go_simp; done) | (go_simp; rfl)); intro gb964 hg w15 hbox hb; have n0_ := Aside0.mk (below_step bl hb); have n1_ := Aside0.mk (hbox); have n2_ := Aside0.mk ((by rw [hg]; exact (below_size bl) : w.heap.size ≤ gb964)); have n3_ := Aside0.mk ((by rw [hg]; exact (below_size bl) : w.heap.size ≤ gb964)); clear HB; have HB := n0_; have BK964 := n1_; have GW964 := n2_; have GE964 := n3_; clear n0_ n1_ n2_ n3_; clear hb hbox hg; have hcz16_0 : w15.cell? ⟨gb964, 0, none⟩ = some (.int .i64 a0_0) := (blk_cell BK964.out 0).trans rfl; have hcz16_1 : w15.cell? ⟨gb964, 1, none⟩ = some (.string a0_1) := (blk_cell BK964.out 1).trans rfl; have hcz16_2 : w15.cell? ⟨gb964, 2, none⟩ = some (.string a0_2) := (blk_cell BK964.out 2).trans rfl; have hcz16_3 : w15.cell? ⟨gb964, 3, none⟩ = some (.int .i64 a0_3) := (blk_cell BK964.out 3).trans rfl; have hfz16_0 := blk_frozen BK964.out 0; have hfz16_1 := blk_frozen BK964.out 1; have hfz16_2 := blk_frozen BK964.out 2; have hfz16_3 := blk_frozen BK964.out 3) | ((with_reducible refine gate_callee (f := 116) rfl ?_); refine goesL_ (some 5) rfl rfl Tryd.func116 (by kernel_rfl) rfl #[.agg #[.int .i64 a0_0, .string a0_1, .string a0_2, .int .i64 a0_3]] rfl ma ?_; (with_reducible refine (spec_BanOk.calls k a0_0 a0_1 a0_2 a0_3 true _ A2.out).mono ?_); rintro e w17 ⟨rfl, hb⟩; refine ⟨_, rfl, ?_⟩; replace BK964 := kb BK964 hb; replace HB := Aside0.mk (below_step bl hb); (try clear hb); (try clear hb2); (try clear hk); (try clear hi)))
                        have pi969 : (0 ≤ (a0_0 : Int)) = True := eq_true (of_decide_eq_true (by first | (with_reducible assumption) | assumption))
                        have qi969 : (a0_0 < (y966.length : Int)) = True := eq_true (of_decide_eq_true (by first | (with_reducible assumption) | assumption))
                        replace BK964 := Aside0.mk (blk_drew BK964.out)
                        replace HB := Aside0.mk (below_drew1 HB.out)
                        refine start_ (n := 16) (S := fun w' => True) (ds := []) #[false, false, false, false, false, false, false, false, false, false, false, false, false, false, false, false] (by kernel_rfl) rfl rfl trivial (fun hHeld => ?_); refine with_tabW spec_BanText.tab3 spec_BanText.bits3 (fun HT_ HW_ => ?_)
                        generalize w17.drew = w18 at BK964 HB hHeld ⊢
                        refine pure_ (i := 1) (N := some 8) (v := ?_) (a' := ?_) #[false, true, false, false, false, false, false, false, false, false, false, false, false, false, false, false] rfl rfl (any_of HT_.out (by kernel_rfl)) (fun _ _ _ h => h) (Or.inl ⟨by rfl, ?_⟩) ?_ ?_
                        rotate_left
                        · intro w'
                          go_simp
                          with_reducible rfl
                        rotate_left
                        · simp only [Act.put, List.setIfInBounds_toArray, List.set_cons_zero, List.set_cons_succ, i64_w, i32_w]
                          rfl
                        refine pure_ (i := 7) (N := some 14) (v := ?_) (a' := ?_) #[false, true, false, false, false, false, false, true, false, false, false, false, false, false, false, false] rfl rfl (any_of HT_.out (by kernel_rfl)) (fun _ _ _ h => h) (Or.inl ⟨by rfl, ?_⟩) ?_ ?_
                        rotate_left
                        · intro w'
                          go_simp
                          with_reducible rfl
                        rotate_left
                        · simp only [Act.put, List.setIfInBounds_toArray, List.set_cons_zero, List.set_cons_succ, i64_w, i32_w]
                          rfl
                        refine pure_ (i := 12) (N := some 19) (v := ?_) (a' := ?_) #[false, true, false, false, false, false, false, true, false, false, false, false, true, false, false, false] rfl rfl (any_of HT_.out (by kernel_rfl)) (fun _ _ _ h => h) (Or.inl ⟨by rfl, ?_⟩) ?_ ?_
                        rotate_left
                        · intro w'
                          go_simp
                          with_reducible rfl
                        rotate_left
                        · simp only [Act.put, List.setIfInBounds_toArray, List.set_cons_zero, List.set_cons_succ, i64_w, i32_w]
                          rfl
                        refine inv_at [0, 2, 3, 4, 5, 6, 8, 9, 10, 11, 13, 14, 15] (fun a0_ b a w' => ∃ (v967 : Value) (adz_v967 : Addr) (m3_ : Value), a = putSel a0_ b [(0, 7, v967), (2, 9, .int .i64 a0_0), (3, 10, m3_), (4, 11, .string (rdOf ByteArray.empty y966 a0_0)), (5, 12, .string ((⟨#[98, 97, 110, 32]⟩ : ByteArray) ++ (rdOf ByteArray.empty y966 a0_0))), (6, 13, .string (((⟨#[98, 97, 110, 32]⟩ : ByteArray) ++ (rdOf ByteArray.empty y966 a0_0)) ++ (⟨#[32]⟩ : ByteArray))), (8, 15, .int .i64 a0_3), (9, 16, .string t970), (10, 17, .string ((((⟨#[98, 97, 110, 32]⟩ : ByteArray) ++ (rdOf ByteArray.empty y966 a0_0)) ++ (⟨#[32]⟩ : ByteArray)) ++ t970)), (11, 18, .string (((((⟨#[98, 97, 110, 32]⟩ : ByteArray) ++ (rdOf ByteArray.empty y966 a0_0)) ++ (⟨#[32]⟩ : ByteArray)) ++ t970) ++ (⟨#[32]⟩ : ByteArray))), (13, 20, .string a0_1), (14, 21, .string ((((((⟨#[98, 97, 110, 32]⟩ : ByteArray) ++ (rdOf ByteArray.empty y966 a0_0)) ++ (⟨#[32]⟩ : ByteArray)) ++ t970) ++ (⟨#[32]⟩ : ByteArray)) ++ a0_1)), (15, 3, .string ((((((⟨#[98, 97, 110, 32]⟩ : ByteArray) ++ (rdOf ByteArray.empty y966 a0_0)) ++ (⟨#[32]⟩ : ByteArray)) ++ t970) ++ (⟨#[32]⟩ : ByteArray)) ++ a0_1))] ∧ (w'.heap[gb964]? = some (.cells #[.int .i64 a0_0, .string a0_1, .string a0_2, .int .i64 a0_3] 91 (0, 0))) ∧ (Below w.heap.size w w') ∧ (b 0 = true → Kd.R Kd.string 9 w' w.heap.size (fun _ => True) v967 y966) ∧ (b 0 = true → ∃ c_, (v967 : Value) = .slice (some adz_v967) y966.length c_) ∧ (b 3 = true → (m3_ : Value) = .pointer (some (adz_v967.add (a0_0).toNat)))) HT_.out HW_.out (by kernel_rfl) (by kernel_rfl) ?_ ?_ ?_
                        · exact ⟨.bool false, ⟨0, 0, none⟩, .bool false, by simp only [putSel, Bool.false_eq_true, if_false], BK964.out, HB.out, fun h_ => absurd h_ (by decide), fun h_ => absurd h_ (by decide), fun h_ => absurd h_ (by decide)⟩
                        · skip
                          clear BK964 HB
                          refine steps_cons ?_ ?_
                          · rintro b a w' ⟨v967, adz_v967, m3_, ha, Q_BK964, Q_HB, Q_HO968, Q_HA_HO968, Q_X3_⟩ hb_ hon hoff
                            refine ⟨_, rfl, fun K hK => ?_⟩
                            replace ha := Aside0.mk ha
                            have BK964 := Aside0.mk Q_BK964
                            have HB := Aside0.mk Q_HB
                            refine Kd.R_lit_step Kd.string _ 9 ?hg (N := 7) ?hd (xs := ([(⟨#[]⟩ : ByteArray), (⟨#[112, 97, 116, 104]⟩ : ByteArray), (⟨#[98, 101, 108, 111, 119]⟩ : ByteArray), (⟨#[102, 105, 101, 108, 100]⟩ : ByteArray)] : List ByteArray)) (inner := [.string (⟨#[]⟩ : ByteArray), .string (⟨#[112, 97, 116, 104]⟩ : ByteArray), .string (⟨#[98, 101, 108, 111, 119]⟩ : ByteArray), .string (⟨#[102, 105, 101, 108, 100]⟩ : ByteArray)]) (ok := fun _ => True) (okp := fun _ => True) ?hr ?hp (fun _ hk => hk) trivial (Below.refl _ _) (Nat.le_refl _) (by simp) ?_; (case hd => rfl); (case hg => rfl); (case hr => first | (go_simp; done) | (go_simp; rfl)); (case hp => exact (Reps.one (show Kd.M Kd.string _ _ _ (⟨#[]⟩ : ByteArray) [.string (⟨#[]⟩ : ByteArray)] from rfl) (Reps.one (show Kd.M Kd.string _ _ _ (⟨#[112, 97, 116, 104]⟩ : ByteArray) [.string (⟨#[112, 97, 116, 104]⟩ : ByteArray)] from rfl) (Reps.one (show Kd.M Kd.string _ _ _ (⟨#[98, 101, 108, 111, 119]⟩ : ByteArray) [.string (⟨#[98, 101, 108, 111, 119]⟩ : ByteArray)] from rfl) (Reps.one (show Kd.M Kd.string _ _ _ (⟨#[102, 105, 101, 108, 100]⟩ : ByteArray) [.string (⟨#[102, 105, 101, 108, 100]⟩ : ByteArray)] from rfl) (Reps.none _ _))))))
                            intro v967 w19 ho20 hb hg_ hnew_
                            clear hg_ hnew_
                            (first | rw [← Ny966.out] at ho20 | (simp only [Int.reduceToNat] at ho20; rw [← Ny966.out] at ho20))
                            have HO968 := Aside0.mk (Kd.R_lower ho20 (below_size bl))
                            replace BK964 := kb BK964 hb
                            replace HB := Aside0.mk (below_step bl hb)
                            clear hb ho20
                            obtain ⟨Ao21, co21, eo21⟩ := Kd.R_slice HO968.out
                            subst eo21
                            obtain ⟨ado21, fo21, _⟩ := Kd.at_string (Kd.R_reads' HO968.out).2.2 0 (by decide) (by rw [Ny966.out]; simp)
                            cases fo21
                            refine hK.out _ _ ⟨.slice (some ado21) y966.length co21, ado21, m3_, (by rw [ha.out]; exact putSel_upk 0 hb_ rfl rfl rfl), (bk BK964), bl, fun _ => (ro HO968), fun _ => ⟨_, rfl⟩, fun h0_ => absurd ((hoff 3 (by kernel_rfl)).symm.trans h0_) (by decide)⟩
                          refine steps_cons ?_ ?_
                          · rintro b a w' ⟨v967, adz_v967, m3_, ha, Q_BK964, Q_HB, Q_HO968, Q_HA_HO968, Q_X3_⟩ hb_ hon hoff
                            refine ⟨_, rfl, fun K hK => ?_⟩
                            have e8 : a.tmps[8]? = some (.pointer (some ⟨gb964, 0, none⟩)) := by rw [ha]; exact (putSel_off rfl).trans rfl
                            replace ha := Aside0.mk ha
                            have BK964 := Aside0.mk Q_BK964
                            have HB := Aside0.mk Q_HB
                            have hc0_ : w'.cell? ⟨gb964, 0, none⟩ = some (.int .i64 a0_0) := (blk_cell BK964.out 0).trans rfl
                            have hc1_ : w'.cell? ⟨gb964, 1, none⟩ = some (.string a0_1) := (blk_cell BK964.out 1).trans rfl
                            have hc2_ : w'.cell? ⟨gb964, 2, none⟩ = some (.string a0_2) := (blk_cell BK964.out 2).trans rfl
                            have hc3_ : w'.cell? ⟨gb964, 3, none⟩ = some (.int .i64 a0_3) := (blk_cell BK964.out 3).trans rfl
                            refine value_ (w1 := w') (v := .int .i64 a0_0) (by rfl) rfl ?_ ?_
                            · go_simp
                              (try simp only [i64_w])
                              try rfl
                            refine hK.out _ _ ⟨v967, adz_v967, m3_, (by rw [ha.out]; exact putSel_upk 1 hb_ rfl rfl rfl), Q_BK964, Q_HB, Q_HO968, Q_HA_HO968, fun h0_ => absurd ((hoff 3 (by kernel_rfl)).symm.trans h0_) (by decide)⟩
                          refine steps_cons ?_ ?_
                          · rintro b a w' ⟨v967, adz_v967, m3_, ha, Q_BK964, Q_HB, Q_HO968, Q_HA_HO968, Q_X3_⟩ hb_ hon hoff
                            refine ⟨_, rfl, fun K hK => ?_⟩
                            have e7 : a.tmps[7]? = some (v967) := by rw [ha]; exact putSel_on (e := (0, 7, v967)) 0 rfl rfl (hon 0 (by kernel_rfl)) rfl
                            have e9 : a.tmps[9]? = some (.int .i64 a0_0) := by rw [ha]; exact putSel_on (e := (2, 9, .int .i64 a0_0)) 1 rfl rfl (hon 2 (by kernel_rfl)) rfl
                            replace ha := Aside0.mk ha
                            have BK964 := Aside0.mk Q_BK964
                            have HB := Aside0.mk Q_HB
                            have HO968 := Aside0.mk (Q_HO968 (hon 0 (by kernel_rfl)))
                            have HA_HO968 := Aside0.mk (Q_HA_HO968 (hon 0 (by kernel_rfl)))
                            obtain ⟨c_, hv_⟩ := HA_HO968.out
                            rw [hv_] at e7
                            refine value_ (w1 := w') (v := .pointer (some (adz_v967.add (a0_0).toNat))) (by rfl) rfl ?_ ?_
                            · go_simp
                              (try simp only [i64_w])
                              try rfl
                            refine hK.out _ _ ⟨v967, adz_v967, (.pointer (some (adz_v967.add (a0_0).toNat))), (by rw [ha.out]; exact putSel_upk 2 hb_ rfl rfl rfl), Q_BK964, Q_HB, Q_HO968, Q_HA_HO968, fun _ => rfl⟩
                          refine steps_cons ?_ ?_
                          · rintro b a w' ⟨v967, adz_v967, m3_, ha, Q_BK964, Q_HB, Q_HO968, Q_HA_HO968, Q_X3_⟩ hb_ hon hoff
                            refine ⟨_, rfl, fun K hK => ?_⟩
                            have e10 : a.tmps[10]? = some (m3_) := by rw [ha]; exact putSel_on (e := (3, 10, m3_)) 2 rfl rfl (hon 3 (by kernel_rfl)) rfl
                            rw [Q_X3_ (hon 3 (by kernel_rfl))] at e10
                            replace ha := Aside0.mk ha
                            have BK964 := Aside0.mk Q_BK964
                            have HB := Aside0.mk Q_HB
                            have HO968 := Aside0.mk (Q_HO968 (hon 0 (by kernel_rfl)))
                            have HA_HO968 := Aside0.mk (Q_HA_HO968 (hon 0 (by kernel_rfl)))
                            obtain ⟨c_, hv_⟩ := HA_HO968.out
                            have hF_ := HO968.out
                            rw [hv_] at hF_
                            obtain ⟨ad_, ea_, hx_⟩ := Kd.at_string (Kd.R_reads' hF_).2.2 a0_0 (of_eq_true pi969) (of_eq_true qi969)
                            cases ea_
                            refine value_ (w1 := w') (v := .string (rdOf ByteArray.empty y966 a0_0)) (by rfl) rfl ?_ ?_
                            · go_simp
                              (try simp only [i64_w])
                              try rfl
                            refine hK.out _ _ ⟨v967, adz_v967, m3_, (by rw [ha.out]; exact putSel_upk 3 hb_ rfl rfl rfl), Q_BK964, Q_HB, Q_HO968, Q_HA_HO968, Q_X3_⟩
                          refine steps_cons ?_ ?_
                          · rintro b a w' ⟨v967, adz_v967, m3_, ha, Q_BK964, Q_HB, Q_HO968, Q_HA_HO968, Q_X3_⟩ hb_ hon hoff
                            refine ⟨_, rfl, fun K hK => ?_⟩
                            have e11 : a.tmps[11]? = some (.string (rdOf ByteArray.empty y966 a0_0)) := by rw [ha]; exact putSel_on (e := (4, 11, .string (rdOf ByteArray.empty y966 a0_0))) 3 rfl rfl (hon 4 (by kernel_rfl)) rfl
                            replace ha := Aside0.mk ha
                            have BK964 := Aside0.mk Q_BK964
                            have HB := Aside0.mk Q_HB
                            have HO968 := Aside0.mk (Q_HO968 (hon 0 (by kernel_rfl)))
                            have HA_HO968 := Aside0.mk (Q_HA_HO968 (hon 0 (by kernel_rfl)))
                            refine value_ (w1 := w') (v := .string ((⟨#[98, 97, 110, 32]⟩ : ByteArray) ++ (rdOf ByteArray.empty y966 a0_0))) (by rfl) rfl ?_ ?_
                            · go_simp
                              (try simp only [i64_w])
                              try rfl
                            refine hK.out _ _ ⟨v967, adz_v967, m3_, (by rw [ha.out]; exact putSel_upk 4 hb_ rfl rfl rfl), Q_BK964, Q_HB, Q_HO968, Q_HA_HO968, Q_X3_⟩
                          refine steps_cons ?_ ?_
                          · rintro b a w' ⟨v967, adz_v967, m3_, ha, Q_BK964, Q_HB, Q_HO968, Q_HA_HO968, Q_X3_⟩ hb_ hon hoff
                            refine ⟨_, rfl, fun K hK => ?_⟩
                            have e12 : a.tmps[12]? = some (.string ((⟨#[98, 97, 110, 32]⟩ : ByteArray) ++ (rdOf ByteArray.empty y966 a0_0))) := by rw [ha]; exact putSel_on (e := (5, 12, .string ((⟨#[98, 97, 110, 32]⟩ : ByteArray) ++ (rdOf ByteArray.empty y966 a0_0)))) 4 rfl rfl (hon 5 (by kernel_rfl)) rfl
                            replace ha := Aside0.mk ha
                            have BK964 := Aside0.mk Q_BK964
                            have HB := Aside0.mk Q_HB
                            have HO968 := Aside0.mk (Q_HO968 (hon 0 (by kernel_rfl)))
                            have HA_HO968 := Aside0.mk (Q_HA_HO968 (hon 0 (by kernel_rfl)))
                            refine value_ (w1 := w') (v := .string (((⟨#[98, 97, 110, 32]⟩ : ByteArray) ++ (rdOf ByteArray.empty y966 a0_0)) ++ (⟨#[32]⟩ : ByteArray))) (by rfl) rfl ?_ ?_
                            · go_simp
                              (try simp only [i64_w])
                              try rfl
                            refine hK.out _ _ ⟨v967, adz_v967, m3_, (by rw [ha.out]; exact putSel_upk 5 hb_ rfl rfl rfl), Q_BK964, Q_HB, Q_HO968, Q_HA_HO968, Q_X3_⟩
                          refine steps_cons ?_ ?_
                          · rintro b a w' ⟨v967, adz_v967, m3_, ha, Q_BK964, Q_HB, Q_HO968, Q_HA_HO968, Q_X3_⟩ hb_ hon hoff
                            refine ⟨_, rfl, fun K hK => ?_⟩
                            have e14 : a.tmps[14]? = some (.pointer (some ⟨gb964, 3, none⟩)) := by rw [ha]; exact (putSel_off rfl).trans rfl
                            replace ha := Aside0.mk ha
                            have BK964 := Aside0.mk Q_BK964
                            have HB := Aside0.mk Q_HB
                            have hc0_ : w'.cell? ⟨gb964, 0, none⟩ = some (.int .i64 a0_0) := (blk_cell BK964.out 0).trans rfl
                            have hc1_ : w'.cell? ⟨gb964, 1, none⟩ = some (.string a0_1) := (blk_cell BK964.out 1).trans rfl
                            have hc2_ : w'.cell? ⟨gb964, 2, none⟩ = some (.string a0_2) := (blk_cell BK964.out 2).trans rfl
                            have hc3_ : w'.cell? ⟨gb964, 3, none⟩ = some (.int .i64 a0_3) := (blk_cell BK964.out 3).trans rfl
                            refine value_ (w1 := w') (v := .int .i64 a0_3) (by rfl) rfl ?_ ?_
                            · go_simp
                              (try simp only [i64_w])
                              try rfl
                            refine hK.out _ _ ⟨v967, adz_v967, m3_, (by rw [ha.out]; exact putSel_upk 6 hb_ rfl rfl rfl), Q_BK964, Q_HB, Q_HO968, Q_HA_HO968, Q_X3_⟩
                          refine steps_cons ?_ ?_
                          · rintro b a w' ⟨v967, adz_v967, m3_, ha, Q_BK964, Q_HB, Q_HO968, Q_HA_HO968, Q_X3_⟩ hb_ hon hoff
                            refine ⟨_, rfl, fun K hK => ?_⟩
                            have e15 : a.tmps[15]? = some (.int .i64 a0_3) := by rw [ha]; exact putSel_on (e := (8, 15, .int .i64 a0_3)) 6 rfl rfl (hon 8 (by kernel_rfl)) rfl
                            replace ha := Aside0.mk ha
                            have BK964 := Aside0.mk Q_BK964
                            have HB := Aside0.mk Q_HB
                            refine goes_ Tryd.func88 (by kernel_rfl) rfl #[.int .i64 a0_3] (by rfl) rfl rfl (by first | (simp only [List.map_toArray, List.map_cons, List.map_nil, Act.eval, Array.getD_eq_getD_getElem?, Option.getD_some, e15]; done) | (simp only [List.map_toArray, List.map_cons, List.map_nil, Act.eval, Array.getD_eq_getD_getElem?, Option.getD_some, e15]; rfl)) ?_
                            with_reducible refine (spec_NumText.calls k a0_3 t970 _ A8.out).mono ?_
                            rintro e w19 ⟨rfl, hb⟩
                            refine ⟨_, rfl, ?_⟩
                            have n0_ := Aside0.mk (blk_below (g := gb964) (o := .cells #[.int .i64 a0_0, .string a0_1, .string a0_2, .int .i64 a0_3] 91 (0, 0)) (bk BK964) hb)
                            have n1_ := Aside0.mk (below_step bl hb)
                            have z_HO968 := fun (h0_ : b 0 = true) => (show Kd.R Kd.string 9 w19 w.heap.size (fun _ => True) v967 y966 from by first | exact (Kd.R_below (by (with_reducible repeat (first | apply Kd.R_alloc | apply Kd.R_drewN | apply Kd.R_drew)); exact (Q_HO968 h0_)) hb) | exact Kd.R_mono (Kd.R_below (by (with_reducible repeat (first | apply Kd.R_alloc | apply Kd.R_drewN | apply Kd.R_drew)); exact (Q_HO968 h0_)) hb) (fun _ h_ => by first | trivial | exact h_ | exact h_.1))
                            clear BK964
                            clear HB
                            have BK964 := n0_
                            have HB := n1_
                            clear n0_ n1_
                            (try clear hb)
                            (try clear hb2)
                            (try clear hk)
                            (try clear hi)
                            refine hK.out _ _ ⟨v967, adz_v967, m3_, (by rw [ha.out]; exact putSel_upk 7 hb_ rfl rfl rfl), (bk BK964), bl, z_HO968, Q_HA_HO968, Q_X3_⟩
                          refine steps_cons ?_ ?_
                          · rintro b a w' ⟨v967, adz_v967, m3_, ha, Q_BK964, Q_HB, Q_HO968, Q_HA_HO968, Q_X3_⟩ hb_ hon hoff
                            refine ⟨_, rfl, fun K hK => ?_⟩
                            have e13 : a.tmps[13]? = some (.string (((⟨#[98, 97, 110, 32]⟩ : ByteArray) ++ (rdOf ByteArray.empty y966 a0_0)) ++ (⟨#[32]⟩ : ByteArray))) := by rw [ha]; exact putSel_on (e := (6, 13, .string (((⟨#[98, 97, 110, 32]⟩ : ByteArray) ++ (rdOf ByteArray.empty y966 a0_0)) ++ (⟨#[32]⟩ : ByteArray)))) 5 rfl rfl (hon 6 (by kernel_rfl)) rfl
                            have e16 : a.tmps[16]? = some (.string t970) := by rw [ha]; exact putSel_on (e := (9, 16, .string t970)) 7 rfl rfl (hon 9 (by kernel_rfl)) rfl
                            replace ha := Aside0.mk ha
                            have BK964 := Aside0.mk Q_BK964
                            have HB := Aside0.mk Q_HB
                            have HO968 := Aside0.mk (Q_HO968 (hon 0 (by kernel_rfl)))
                            have HA_HO968 := Aside0.mk (Q_HA_HO968 (hon 0 (by kernel_rfl)))
                            refine value_ (w1 := w') (v := .string ((((⟨#[98, 97, 110, 32]⟩ : ByteArray) ++ (rdOf ByteArray.empty y966 a0_0)) ++ (⟨#[32]⟩ : ByteArray)) ++ t970)) (by rfl) rfl ?_ ?_
                            · go_simp
                              (try simp only [i64_w])
                              try rfl
                            refine hK.out _ _ ⟨v967, adz_v967, m3_, (by rw [ha.out]; exact putSel_upk 8 hb_ rfl rfl rfl), Q_BK964, Q_HB, Q_HO968, Q_HA_HO968, Q_X3_⟩
                          refine steps_cons ?_ ?_
                          · rintro b a w' ⟨v967, adz_v967, m3_, ha, Q_BK964, Q_HB, Q_HO968, Q_HA_HO968, Q_X3_⟩ hb_ hon hoff
                            refine ⟨_, rfl, fun K hK => ?_⟩
                            have e17 : a.tmps[17]? = some (.string ((((⟨#[98, 97, 110, 32]⟩ : ByteArray) ++ (rdOf ByteArray.empty y966 a0_0)) ++ (⟨#[32]⟩ : ByteArray)) ++ t970)) := by rw [ha]; exact putSel_on (e := (10, 17, .string ((((⟨#[98, 97, 110, 32]⟩ : ByteArray) ++ (rdOf ByteArray.empty y966 a0_0)) ++ (⟨#[32]⟩ : ByteArray)) ++ t970))) 8 rfl rfl (hon 10 (by kernel_rfl)) rfl
                            replace ha := Aside0.mk ha
                            have BK964 := Aside0.mk Q_BK964
                            have HB := Aside0.mk Q_HB
                            have HO968 := Aside0.mk (Q_HO968 (hon 0 (by kernel_rfl)))
                            have HA_HO968 := Aside0.mk (Q_HA_HO968 (hon 0 (by kernel_rfl)))
                            refine value_ (w1 := w') (v := .string (((((⟨#[98, 97, 110, 32]⟩ : ByteArray) ++ (rdOf ByteArray.empty y966 a0_0)) ++ (⟨#[32]⟩ : ByteArray)) ++ t970) ++ (⟨#[32]⟩ : ByteArray))) (by rfl) rfl ?_ ?_
                            · go_simp
                              (try simp only [i64_w])
                              try rfl
                            refine hK.out _ _ ⟨v967, adz_v967, m3_, (by rw [ha.out]; exact putSel_upk 9 hb_ rfl rfl rfl), Q_BK964, Q_HB, Q_HO968, Q_HA_HO968, Q_X3_⟩
                          refine steps_cons ?_ ?_
                          · rintro b a w' ⟨v967, adz_v967, m3_, ha, Q_BK964, Q_HB, Q_HO968, Q_HA_HO968, Q_X3_⟩ hb_ hon hoff
                            refine ⟨_, rfl, fun K hK => ?_⟩
                            have e19 : a.tmps[19]? = some (.pointer (some ⟨gb964, 1, none⟩)) := by rw [ha]; exact (putSel_off rfl).trans rfl
                            replace ha := Aside0.mk ha
                            have BK964 := Aside0.mk Q_BK964
                            have HB := Aside0.mk Q_HB
                            have hc0_ : w'.cell? ⟨gb964, 0, none⟩ = some (.int .i64 a0_0) := (blk_cell BK964.out 0).trans rfl
                            have hc1_ : w'.cell? ⟨gb964, 1, none⟩ = some (.string a0_1) := (blk_cell BK964.out 1).trans rfl
                            have hc2_ : w'.cell? ⟨gb964, 2, none⟩ = some (.string a0_2) := (blk_cell BK964.out 2).trans rfl
                            have hc3_ : w'.cell? ⟨gb964, 3, none⟩ = some (.int .i64 a0_3) := (blk_cell BK964.out 3).trans rfl
                            refine value_ (w1 := w') (v := .string a0_1) (by rfl) rfl ?_ ?_
                            · go_simp
                              (try simp only [i64_w])
                              try rfl
                            refine hK.out _ _ ⟨v967, adz_v967, m3_, (by rw [ha.out]; exact putSel_upk 10 hb_ rfl rfl rfl), Q_BK964, Q_HB, Q_HO968, Q_HA_HO968, Q_X3_⟩
                          refine steps_cons ?_ ?_
                          · rintro b a w' ⟨v967, adz_v967, m3_, ha, Q_BK964, Q_HB, Q_HO968, Q_HA_HO968, Q_X3_⟩ hb_ hon hoff
                            refine ⟨_, rfl, fun K hK => ?_⟩
                            have e18 : a.tmps[18]? = some (.string (((((⟨#[98, 97, 110, 32]⟩ : ByteArray) ++ (rdOf ByteArray.empty y966 a0_0)) ++ (⟨#[32]⟩ : ByteArray)) ++ t970) ++ (⟨#[32]⟩ : ByteArray))) := by rw [ha]; exact putSel_on (e := (11, 18, .string (((((⟨#[98, 97, 110, 32]⟩ : ByteArray) ++ (rdOf ByteArray.empty y966 a0_0)) ++ (⟨#[32]⟩ : ByteArray)) ++ t970) ++ (⟨#[32]⟩ : ByteArray)))) 9 rfl rfl (hon 11 (by kernel_rfl)) rfl
                            have e20 : a.tmps[20]? = some (.string a0_1) := by rw [ha]; exact putSel_on (e := (13, 20, .string a0_1)) 10 rfl rfl (hon 13 (by kernel_rfl)) rfl
                            replace ha := Aside0.mk ha
                            have BK964 := Aside0.mk Q_BK964
                            have HB := Aside0.mk Q_HB
                            have HO968 := Aside0.mk (Q_HO968 (hon 0 (by kernel_rfl)))
                            have HA_HO968 := Aside0.mk (Q_HA_HO968 (hon 0 (by kernel_rfl)))
                            refine value_ (w1 := w') (v := .string ((((((⟨#[98, 97, 110, 32]⟩ : ByteArray) ++ (rdOf ByteArray.empty y966 a0_0)) ++ (⟨#[32]⟩ : ByteArray)) ++ t970) ++ (⟨#[32]⟩ : ByteArray)) ++ a0_1)) (by rfl) rfl ?_ ?_
                            · go_simp
                              (try simp only [i64_w])
                              try rfl
                            refine hK.out _ _ ⟨v967, adz_v967, m3_, (by rw [ha.out]; exact putSel_upk 11 hb_ rfl rfl rfl), Q_BK964, Q_HB, Q_HO968, Q_HA_HO968, Q_X3_⟩
                          refine steps_cons ?_ ?_
                          · rintro b a w' ⟨v967, adz_v967, m3_, ha, Q_BK964, Q_HB, Q_HO968, Q_HA_HO968, Q_X3_⟩ hb_ hon hoff
                            refine ⟨_, rfl, fun K hK => ?_⟩
                            have e21 : a.tmps[21]? = some (.string ((((((⟨#[98, 97, 110, 32]⟩ : ByteArray) ++ (rdOf ByteArray.empty y966 a0_0)) ++ (⟨#[32]⟩ : ByteArray)) ++ t970) ++ (⟨#[32]⟩ : ByteArray)) ++ a0_1)) := by rw [ha]; exact putSel_on (e := (14, 21, .string ((((((⟨#[98, 97, 110, 32]⟩ : ByteArray) ++ (rdOf ByteArray.empty y966 a0_0)) ++ (⟨#[32]⟩ : ByteArray)) ++ t970) ++ (⟨#[32]⟩ : ByteArray)) ++ a0_1))) 11 rfl rfl (hon 14 (by kernel_rfl)) rfl
                            replace ha := Aside0.mk ha
                            have BK964 := Aside0.mk Q_BK964
                            have HB := Aside0.mk Q_HB
                            have HO968 := Aside0.mk (Q_HO968 (hon 0 (by kernel_rfl)))
                            have HA_HO968 := Aside0.mk (Q_HA_HO968 (hon 0 (by kernel_rfl)))
                            refine value_ (w1 := w') (v := .string ((((((⟨#[98, 97, 110, 32]⟩ : ByteArray) ++ (rdOf ByteArray.empty y966 a0_0)) ++ (⟨#[32]⟩ : ByteArray)) ++ t970) ++ (⟨#[32]⟩ : ByteArray)) ++ a0_1)) (by rfl) rfl ?_ ?_
                            · go_simp
                              (try simp only [i64_w])
                              try rfl
                            refine hK.out _ _ ⟨v967, adz_v967, m3_, (by rw [ha.out]; exact putSel_upk 12 hb_ rfl rfl rfl), Q_BK964, Q_HB, Q_HO968, Q_HA_HO968, Q_X3_⟩
                          exact steps_nil
                        rintro b a w23 hall ⟨v967, adz_v967, m3_, ha, Q_BK964, Q_HB, Q_HO968, Q_HA_HO968, Q_X3_⟩
                        clear BK964 HB
                        have hb0_ := hall 0 (by kernel_rfl)
                        have hb2_ := hall 2 (by kernel_rfl)
                        have hb3_ := hall 3 (by kernel_rfl)
                        have hb4_ := hall 4 (by kernel_rfl)
                        have hb5_ := hall 5 (by kernel_rfl)
                        have hb6_ := hall 6 (by kernel_rfl)
                        have hb8_ := hall 8 (by kernel_rfl)
                        have hb9_ := hall 9 (by kernel_rfl)
                        have hb10_ := hall 10 (by kernel_rfl)
                        have hb11_ := hall 11 (by kernel_rfl)
                        have hb13_ := hall 13 (by kernel_rfl)
                        have hb14_ := hall 14 (by kernel_rfl)
                        have hb15_ := hall 15 (by kernel_rfl)
                        subst ha
                        obtain rfl := Q_X3_ hb3_
                        simp only [putSel, hb0_, hb2_, hb3_, hb4_, hb5_, hb6_, hb8_, hb9_, hb10_, hb11_, hb13_, hb14_, hb15_, if_true, Act.put, List.setIfInBounds_toArray, List.set_cons_zero, List.set_cons_succ]
                        have BK964 := Aside0.mk Q_BK964
                        clear Q_BK964
                        have HB := Aside0.mk Q_HB
                        clear Q_HB
                        have HO968 := Aside0.mk (Q_HO968 hb0_)
                        clear Q_HO968
                        have HA_HO968 := Aside0.mk (Q_HA_HO968 hb0_)
                        clear Q_HA_HO968
                        clear hall hb0_ hb2_ hb3_ hb4_ hb5_ hb6_ hb8_ hb9_ hb10_ hb11_ hb13_ hb14_ hb15_
                        obtain ⟨co24, eo24⟩ := HA_HO968.out
                        clear HA_HO968
                        subst eo24
                        have hcz25_0 : w23.cell? ⟨gb964, 0, none⟩ = some (.int .i64 a0_0) := (blk_cell BK964.out 0).trans rfl
                        have hcz25_1 : w23.cell? ⟨gb964, 1, none⟩ = some (.string a0_1) := (blk_cell BK964.out 1).trans rfl
                        have hcz25_2 : w23.cell? ⟨gb964, 2, none⟩ = some (.string a0_2) := (blk_cell BK964.out 2).trans rfl
                        have hcz25_3 : w23.cell? ⟨gb964, 3, none⟩ = some (.int .i64 a0_3) := (blk_cell BK964.out 3).trans rfl
                        have hfz25_0 := blk_frozen BK964.out 0
                        have hfz25_1 := blk_frozen BK964.out 1
                        have hfz25_2 := blk_frozen BK964.out 2
                        have hfz25_3 := blk_frozen BK964.out 3
                        try go_wp2
                        go_ret
                        exact ⟨rf, bl⟩
                      · rw [if_neg c14] at H
                        exact absurd H (by simp)
                    · rw [if_neg c13] at H
                      exact absurd H (by simp)
                  · rw [if_neg c12] at H
                    have c12b0 : (a0_0 == 3) = false := beq_eq_false_iff_ne.mpr c12
                    have c12b1 : (a0_0 != 3) = true := bne_iff_ne.mpr c12
                    obtain rfl := Option.some.inj H
                    go_enter Tryd.func76, Tryd.ntmps76
                    try go_wp2_with (first | ((with_reducible refine gate_dst (N := 1) rfl ?_); refine box_event ?hg (N := 1) ?hd (cs := #[.int .i64 a0_0, .string a0_1, .string a0_2, .int .i64 a0_3]) (t := 91) ?hr ?_; (case hd => rfl); (case hg => rfl); (case hr => first | (go_simp; done) | (go_simp; rfl)); intro gb964 hg w26 hbox hb; have n0_ := Aside0.mk (below_step bl hb); have n1_ := Aside0.mk (hbox); have n2_ := Aside0.mk ((by rw [hg]; exact (below_size bl) : w.heap.size ≤ gb964)); have n3_ := Aside0.mk ((by rw [hg]; exact (below_size bl) : w.heap.size ≤ gb964)); clear HB; have HB := n0_; have BK964 := n1_; have GW964 := n2_; have GE964 := n3_; clear n0_ n1_ n2_ n3_; clear hb hbox hg; have hcz27_0 : w26.cell? ⟨gb964, 0, none⟩ = some (.int .i64 a0_0) := (blk_cell BK964.out 0).trans rfl; have hcz27_1 : w26.cell? ⟨gb964, 1, none⟩ = some (.string a0_1) := (blk_cell BK964.out 1).trans rfl; have hcz27_2 : w26.cell? ⟨gb964, 2, none⟩ = some (.string a0_2) := (blk_cell BK964.out 2).trans rfl; have hcz27_3 : w26.cell? ⟨gb964, 3, none⟩ = some (.int .i64 a0_3) := (blk_cell BK964.out 3).trans rfl; have hfz27_0 := blk_frozen BK964.out 0; have hfz27_1 := blk_frozen BK964.out 1; have hfz27_2 := blk_frozen BK964.out 2; have hfz27_3 := blk_frozen BK964.out 3) | ((with_reducible refine gate_callee (f := 116) rfl ?_); refine goesL_ (some 5) rfl rfl Tryd.func116 (by kernel_rfl) rfl #[.agg #[.int .i64 a0_0, .string a0_1, .string a0_2, .int .i64 a0_3]] rfl ma ?_; (with_reducible refine (spec_BanOk.calls k a0_0 a0_1 a0_2 a0_3 true _ A2.out).mono ?_); rintro e w28 ⟨rfl, hb⟩; refine ⟨_, rfl, ?_⟩; replace BK964 := kb BK964 hb; replace HB := Aside0.mk (below_step bl hb); (try clear hb); (try clear hb2); (try clear hk); (try clear hi)))
                    have pi969 : (0 ≤ (a0_0 : Int)) = True := eq_true (of_decide_eq_true (by first | (with_reducible assumption) | assumption))
                    have qi969 : (a0_0 < (y966.length : Int)) = True := eq_true (of_decide_eq_true (by first | (with_reducible assumption) | assumption))
                    replace BK964 := Aside0.mk (blk_drew BK964.out)
                    replace HB := Aside0.mk (below_drew1 HB.out)
                    refine start_ (n := 16) (S := fun w' => True) (ds := []) #[false, false, false, false, false, false, false, false, false, false, false, false, false, false, false, false] (by kernel_rfl) rfl rfl trivial (fun hHeld => ?_); refine with_tabW spec_BanText.tab3 spec_BanText.bits3 (fun HT_ HW_ => ?_)
                    generalize w28.drew = w29 at BK964 HB hHeld ⊢
                    refine pure_ (i := 1) (N := some 8) (v := ?_) (a' := ?_) #[false, true, false, false, false, false, false, false, false, false, false, false, false, false, false, false] rfl rfl (any_of HT_.out (by kernel_rfl)) (fun _ _ _ h => h) (Or.inl ⟨by rfl, ?_⟩) ?_ ?_
                    rotate_left
                    · intro w'
                      go_simp
                      with_reducible rfl
                    rotate_left
                    · simp only [Act.put, List.setIfInBounds_toArray, List.set_cons_zero, List.set_cons_succ, i64_w, i32_w]
                      rfl
                    refine pure_ (i := 7) (N := some 14) (v := ?_) (a' := ?_) #[false, true, false, false, false, false, false, true, false, false, false, false, false, false, false, false] rfl rfl (any_of HT_.out (by kernel_rfl)) (fun _ _ _ h => h) (Or.inl ⟨by rfl, ?_⟩) ?_ ?_
                    rotate_left
                    · intro w'
                      go_simp
                      with_reducible rfl
                    rotate_left
                    · simp only [Act.put, List.setIfInBounds_toArray, List.set_cons_zero, List.set_cons_succ, i64_w, i32_w]
                      rfl
                    refine pure_ (i := 12) (N := some 19) (v := ?_) (a' := ?_) #[false, true, false, false, false, false, false, true, false, false, false, false, true, false, false, false] rfl rfl (any_of HT_.out (by kernel_rfl)) (fun _ _ _ h => h) (Or.inl ⟨by rfl, ?_⟩) ?_ ?_
                    rotate_left
                    · intro w'
                      go_simp
                      with_reducible rfl
                    rotate_left
                    · simp only [Act.put, List.setIfInBounds_toArray, List.set_cons_zero, List.set_cons_succ, i64_w, i32_w]
                      rfl
                    refine inv_at [0, 2, 3, 4, 5, 6, 8, 9, 10, 11, 13, 14, 15] (fun a0_ b a w' => ∃ (v967 : Value) (adz_v967 : Addr) (m3_ : Value), a = putSel a0_ b [(0, 7, v967), (2, 9, .int .i64 a0_0), (3, 10, m3_), (4, 11, .string (rdOf ByteArray.empty y966 a0_0)), (5, 12, .string ((⟨#[98, 97, 110, 32]⟩ : ByteArray) ++ (rdOf ByteArray.empty y966 a0_0))), (6, 13, .string (((⟨#[98, 97, 110, 32]⟩ : ByteArray) ++ (rdOf ByteArray.empty y966 a0_0)) ++ (⟨#[32]⟩ : ByteArray))), (8, 15, .int .i64 a0_3), (9, 16, .string t970), (10, 17, .string ((((⟨#[98, 97, 110, 32]⟩ : ByteArray) ++ (rdOf ByteArray.empty y966 a0_0)) ++ (⟨#[32]⟩ : ByteArray)) ++ t970)), (11, 18, .string (((((⟨#[98, 97, 110, 32]⟩ : ByteArray) ++ (rdOf ByteArray.empty y966 a0_0)) ++ (⟨#[32]⟩ : ByteArray)) ++ t970) ++ (⟨#[32]⟩ : ByteArray))), (13, 20, .string a0_1), (14, 21, .string ((((((⟨#[98, 97, 110, 32]⟩ : ByteArray) ++ (rdOf ByteArray.empty y966 a0_0)) ++ (⟨#[32]⟩ : ByteArray)) ++ t970) ++ (⟨#[32]⟩ : ByteArray)) ++ a0_1)), (15, 3, .string ((((((⟨#[98, 97, 110, 32]⟩ : ByteArray) ++ (rdOf ByteArray.empty y966 a0_0)) ++ (⟨#[32]⟩ : ByteArray)) ++ t970) ++ (⟨#[32]⟩ : ByteArray)) ++ a0_1))] ∧ (w'.heap[gb964]? = some (.cells #[.int .i64 a0_0, .string a0_1, .string a0_2, .int .i64 a0_3] 91 (0, 0))) ∧ (Below w.heap.size w w') ∧ (b 0 = true → Kd.R Kd.string 9 w' w.heap.size (fun _ => True) v967 y966) ∧ (b 0 = true → ∃ c_, (v967 : Value) = .slice (some adz_v967) y966.length c_) ∧ (b 3 = true → (m3_ : Value) = .pointer (some (adz_v967.add (a0_0).toNat)))) HT_.out HW_.out (by kernel_rfl) (by kernel_rfl) ?_ ?_ ?_
                    · exact ⟨.bool false, ⟨0, 0, none⟩, .bool false, by simp only [putSel, Bool.false_eq_true, if_false], BK964.out, HB.out, fun h_ => absurd h_ (by decide), fun h_ => absurd h_ (by decide), fun h_ => absurd h_ (by decide)⟩
                    · skip
                      clear BK964 HB
                      refine steps_cons ?_ ?_
                      · rintro b a w' ⟨v967, adz_v967, m3_, ha, Q_BK964, Q_HB, Q_HO968, Q_HA_HO968, Q_X3_⟩ hb_ hon hoff
                        refine ⟨_, rfl, fun K hK => ?_⟩
                        replace ha := Aside0.mk ha
                        have BK964 := Aside0.mk Q_BK964
                        have HB := Aside0.mk Q_HB
                        refine Kd.R_lit_step Kd.string _ 9 ?hg (N := 7) ?hd (xs := ([(⟨#[]⟩ : ByteArray), (⟨#[112, 97, 116, 104]⟩ : ByteArray), (⟨#[98, 101, 108, 111, 119]⟩ : ByteArray), (⟨#[102, 105, 101, 108, 100]⟩ : ByteArray)] : List ByteArray)) (inner := [.string (⟨#[]⟩ : ByteArray), .string (⟨#[112, 97, 116, 104]⟩ : ByteArray), .string (⟨#[98, 101, 108, 111, 119]⟩ : ByteArray), .string (⟨#[102, 105, 101, 108, 100]⟩ : ByteArray)]) (ok := fun _ => True) (okp := fun _ => True) ?hr ?hp (fun _ hk => hk) trivial (Below.refl _ _) (Nat.le_refl _) (by simp) ?_; (case hd => rfl); (case hg => rfl); (case hr => first | (go_simp; done) | (go_simp; rfl)); (case hp => exact (Reps.one (show Kd.M Kd.string _ _ _ (⟨#[]⟩ : ByteArray) [.string (⟨#[]⟩ : ByteArray)] from rfl) (Reps.one (show Kd.M Kd.string _ _ _ (⟨#[112, 97, 116, 104]⟩ : ByteArray) [.string (⟨#[112, 97, 116, 104]⟩ : ByteArray)] from rfl) (Reps.one (show Kd.M Kd.string _ _ _ (⟨#[98, 101, 108, 111, 119]⟩ : ByteArray) [.string (⟨#[98, 101, 108, 111, 119]⟩ : ByteArray)] from rfl) (Reps.one (show Kd.M Kd.string _ _ _ (⟨#[102, 105, 101, 108, 100]⟩ : ByteArray) [.string (⟨#[102, 105, 101, 108, 100]⟩ : ByteArray)] from rfl) (Reps.none _ _))))))
                        intro v967 w30 ho31 hb hg_ hnew_
                        clear hg_ hnew_
                        (first | rw [← Ny966.out] at ho31 | (simp only [Int.reduceToNat] at ho31; rw [← Ny966.out] at ho31))
                        have HO968 := Aside0.mk (Kd.R_lower ho31 (below_size bl))
                        replace BK964 := kb BK964 hb
                        replace HB := Aside0.mk (below_step bl hb)
                        clear hb ho31
                        obtain ⟨Ao32, co32, eo32⟩ := Kd.R_slice HO968.out
                        subst eo32
                        obtain ⟨ado32, fo32, _⟩ := Kd.at_string (Kd.R_reads' HO968.out).2.2 0 (by decide) (by rw [Ny966.out]; simp)
                        cases fo32
                        refine hK.out _ _ ⟨.slice (some ado32) y966.length co32, ado32, m3_, (by rw [ha.out]; exact putSel_upk 0 hb_ rfl rfl rfl), (bk BK964), bl, fun _ => (ro HO968), fun _ => ⟨_, rfl⟩, fun h0_ => absurd ((hoff 3 (by kernel_rfl)).symm.trans h0_) (by decide)⟩
                      refine steps_cons ?_ ?_
                      · rintro b a w' ⟨v967, adz_v967, m3_, ha, Q_BK964, Q_HB, Q_HO968, Q_HA_HO968, Q_X3_⟩ hb_ hon hoff
                        refine ⟨_, rfl, fun K hK => ?_⟩
                        have e8 : a.tmps[8]? = some (.pointer (some ⟨gb964, 0, none⟩)) := by rw [ha]; exact (putSel_off rfl).trans rfl
                        replace ha := Aside0.mk ha
                        have BK964 := Aside0.mk Q_BK964
                        have HB := Aside0.mk Q_HB
                        have hc0_ : w'.cell? ⟨gb964, 0, none⟩ = some (.int .i64 a0_0) := (blk_cell BK964.out 0).trans rfl
                        have hc1_ : w'.cell? ⟨gb964, 1, none⟩ = some (.string a0_1) := (blk_cell BK964.out 1).trans rfl
                        have hc2_ : w'.cell? ⟨gb964, 2, none⟩ = some (.string a0_2) := (blk_cell BK964.out 2).trans rfl
                        have hc3_ : w'.cell? ⟨gb964, 3, none⟩ = some (.int .i64 a0_3) := (blk_cell BK964.out 3).trans rfl
                        refine value_ (w1 := w') (v := .int .i64 a0_0) (by rfl) rfl ?_ ?_
                        · go_simp
                          (try simp only [i64_w])
                          try rfl
                        refine hK.out _ _ ⟨v967, adz_v967, m3_, (by rw [ha.out]; exact putSel_upk 1 hb_ rfl rfl rfl), Q_BK964, Q_HB, Q_HO968, Q_HA_HO968, fun h0_ => absurd ((hoff 3 (by kernel_rfl)).symm.trans h0_) (by decide)⟩
                      refine steps_cons ?_ ?_
                      · rintro b a w' ⟨v967, adz_v967, m3_, ha, Q_BK964, Q_HB, Q_HO968, Q_HA_HO968, Q_X3_⟩ hb_ hon hoff
                        refine ⟨_, rfl, fun K hK => ?_⟩
                        have e7 : a.tmps[7]? = some (v967) := by rw [ha]; exact putSel_on (e := (0, 7, v967)) 0 rfl rfl (hon 0 (by kernel_rfl)) rfl
                        have e9 : a.tmps[9]? = some (.int .i64 a0_0) := by rw [ha]; exact putSel_on (e := (2, 9, .int .i64 a0_0)) 1 rfl rfl (hon 2 (by kernel_rfl)) rfl
                        replace ha := Aside0.mk ha
                        have BK964 := Aside0.mk Q_BK964
                        have HB := Aside0.mk Q_HB
                        have HO968 := Aside0.mk (Q_HO968 (hon 0 (by kernel_rfl)))
                        have HA_HO968 := Aside0.mk (Q_HA_HO968 (hon 0 (by kernel_rfl)))
                        obtain ⟨c_, hv_⟩ := HA_HO968.out
                        rw [hv_] at e7
                        refine value_ (w1 := w') (v := .pointer (some (adz_v967.add (a0_0).toNat))) (by rfl) rfl ?_ ?_
                        · go_simp
                          (try simp only [i64_w])
                          try rfl
                        refine hK.out _ _ ⟨v967, adz_v967, (.pointer (some (adz_v967.add (a0_0).toNat))), (by rw [ha.out]; exact putSel_upk 2 hb_ rfl rfl rfl), Q_BK964, Q_HB, Q_HO968, Q_HA_HO968, fun _ => rfl⟩
                      refine steps_cons ?_ ?_
                      · rintro b a w' ⟨v967, adz_v967, m3_, ha, Q_BK964, Q_HB, Q_HO968, Q_HA_HO968, Q_X3_⟩ hb_ hon hoff
                        refine ⟨_, rfl, fun K hK => ?_⟩
                        have e10 : a.tmps[10]? = some (m3_) := by rw [ha]; exact putSel_on (e := (3, 10, m3_)) 2 rfl rfl (hon 3 (by kernel_rfl)) rfl
                        rw [Q_X3_ (hon 3 (by kernel_rfl))] at e10
                        replace ha := Aside0.mk ha
                        have BK964 := Aside0.mk Q_BK964
                        have HB := Aside0.mk Q_HB
                        have HO968 := Aside0.mk (Q_HO968 (hon 0 (by kernel_rfl)))
                        have HA_HO968 := Aside0.mk (Q_HA_HO968 (hon 0 (by kernel_rfl)))
                        obtain ⟨c_, hv_⟩ := HA_HO968.out
                        have hF_ := HO968.out
                        rw [hv_] at hF_
                        obtain ⟨ad_, ea_, hx_⟩ := Kd.at_string (Kd.R_reads' hF_).2.2 a0_0 (of_eq_true pi969) (of_eq_true qi969)
                        cases ea_
                        refine value_ (w1 := w') (v := .string (rdOf ByteArray.empty y966 a0_0)) (by rfl) rfl ?_ ?_
                        · go_simp
                          (try simp only [i64_w])
                          try rfl
                        refine hK.out _ _ ⟨v967, adz_v967, m3_, (by rw [ha.out]; exact putSel_upk 3 hb_ rfl rfl rfl), Q_BK964, Q_HB, Q_HO968, Q_HA_HO968, Q_X3_⟩
                      refine steps_cons ?_ ?_
                      · rintro b a w' ⟨v967, adz_v967, m3_, ha, Q_BK964, Q_HB, Q_HO968, Q_HA_HO968, Q_X3_⟩ hb_ hon hoff
                        refine ⟨_, rfl, fun K hK => ?_⟩
                        have e11 : a.tmps[11]? = some (.string (rdOf ByteArray.empty y966 a0_0)) := by rw [ha]; exact putSel_on (e := (4, 11, .string (rdOf ByteArray.empty y966 a0_0))) 3 rfl rfl (hon 4 (by kernel_rfl)) rfl
                        replace ha := Aside0.mk ha
                        have BK964 := Aside0.mk Q_BK964
                        have HB := Aside0.mk Q_HB
                        have HO968 := Aside0.mk (Q_HO968 (hon 0 (by kernel_rfl)))
                        have HA_HO968 := Aside0.mk (Q_HA_HO968 (hon 0 (by kernel_rfl)))
                        refine value_ (w1 := w') (v := .string ((⟨#[98, 97, 110, 32]⟩ : ByteArray) ++ (rdOf ByteArray.empty y966 a0_0))) (by rfl) rfl ?_ ?_
                        · go_simp
                          (try simp only [i64_w])
                          try rfl
                        refine hK.out _ _ ⟨v967, adz_v967, m3_, (by rw [ha.out]; exact putSel_upk 4 hb_ rfl rfl rfl), Q_BK964, Q_HB, Q_HO968, Q_HA_HO968, Q_X3_⟩
                      refine steps_cons ?_ ?_
                      · rintro b a w' ⟨v967, adz_v967, m3_, ha, Q_BK964, Q_HB, Q_HO968, Q_HA_HO968, Q_X3_⟩ hb_ hon hoff
                        refine ⟨_, rfl, fun K hK => ?_⟩
                        have e12 : a.tmps[12]? = some (.string ((⟨#[98, 97, 110, 32]⟩ : ByteArray) ++ (rdOf ByteArray.empty y966 a0_0))) := by rw [ha]; exact putSel_on (e := (5, 12, .string ((⟨#[98, 97, 110, 32]⟩ : ByteArray) ++ (rdOf ByteArray.empty y966 a0_0)))) 4 rfl rfl (hon 5 (by kernel_rfl)) rfl
                        replace ha := Aside0.mk ha
                        have BK964 := Aside0.mk Q_BK964
                        have HB := Aside0.mk Q_HB
                        have HO968 := Aside0.mk (Q_HO968 (hon 0 (by kernel_rfl)))
                        have HA_HO968 := Aside0.mk (Q_HA_HO968 (hon 0 (by kernel_rfl)))
                        refine value_ (w1 := w') (v := .string (((⟨#[98, 97, 110, 32]⟩ : ByteArray) ++ (rdOf ByteArray.empty y966 a0_0)) ++ (⟨#[32]⟩ : ByteArray))) (by rfl) rfl ?_ ?_
                        · go_simp
                          (try simp only [i64_w])
                          try rfl
                        refine hK.out _ _ ⟨v967, adz_v967, m3_, (by rw [ha.out]; exact putSel_upk 5 hb_ rfl rfl rfl), Q_BK964, Q_HB, Q_HO968, Q_HA_HO968, Q_X3_⟩
                      refine steps_cons ?_ ?_
                      · rintro b a w' ⟨v967, adz_v967, m3_, ha, Q_BK964, Q_HB, Q_HO968, Q_HA_HO968, Q_X3_⟩ hb_ hon hoff
                        refine ⟨_, rfl, fun K hK => ?_⟩
                        have e14 : a.tmps[14]? = some (.pointer (some ⟨gb964, 3, none⟩)) := by rw [ha]; exact (putSel_off rfl).trans rfl
                        replace ha := Aside0.mk ha
                        have BK964 := Aside0.mk Q_BK964
                        have HB := Aside0.mk Q_HB
                        have hc0_ : w'.cell? ⟨gb964, 0, none⟩ = some (.int .i64 a0_0) := (blk_cell BK964.out 0).trans rfl
                        have hc1_ : w'.cell? ⟨gb964, 1, none⟩ = some (.string a0_1) := (blk_cell BK964.out 1).trans rfl
                        have hc2_ : w'.cell? ⟨gb964, 2, none⟩ = some (.string a0_2) := (blk_cell BK964.out 2).trans rfl
                        have hc3_ : w'.cell? ⟨gb964, 3, none⟩ = some (.int .i64 a0_3) := (blk_cell BK964.out 3).trans rfl
                        refine value_ (w1 := w') (v := .int .i64 a0_3) (by rfl) rfl ?_ ?_
                        · go_simp
                          (try simp only [i64_w])
                          try rfl
                        refine hK.out _ _ ⟨v967, adz_v967, m3_, (by rw [ha.out]; exact putSel_upk 6 hb_ rfl rfl rfl), Q_BK964, Q_HB, Q_HO968, Q_HA_HO968, Q_X3_⟩
                      refine steps_cons ?_ ?_
                      · rintro b a w' ⟨v967, adz_v967, m3_, ha, Q_BK964, Q_HB, Q_HO968, Q_HA_HO968, Q_X3_⟩ hb_ hon hoff
                        refine ⟨_, rfl, fun K hK => ?_⟩
                        have e15 : a.tmps[15]? = some (.int .i64 a0_3) := by rw [ha]; exact putSel_on (e := (8, 15, .int .i64 a0_3)) 6 rfl rfl (hon 8 (by kernel_rfl)) rfl
                        replace ha := Aside0.mk ha
                        have BK964 := Aside0.mk Q_BK964
                        have HB := Aside0.mk Q_HB
                        refine goes_ Tryd.func88 (by kernel_rfl) rfl #[.int .i64 a0_3] (by rfl) rfl rfl (by first | (simp only [List.map_toArray, List.map_cons, List.map_nil, Act.eval, Array.getD_eq_getD_getElem?, Option.getD_some, e15]; done) | (simp only [List.map_toArray, List.map_cons, List.map_nil, Act.eval, Array.getD_eq_getD_getElem?, Option.getD_some, e15]; rfl)) ?_
                        with_reducible refine (spec_NumText.calls k a0_3 t970 _ A8.out).mono ?_
                        rintro e w30 ⟨rfl, hb⟩
                        refine ⟨_, rfl, ?_⟩
                        have n0_ := Aside0.mk (blk_below (g := gb964) (o := .cells #[.int .i64 a0_0, .string a0_1, .string a0_2, .int .i64 a0_3] 91 (0, 0)) (bk BK964) hb)
                        have n1_ := Aside0.mk (below_step bl hb)
                        have z_HO968 := fun (h0_ : b 0 = true) => (show Kd.R Kd.string 9 w30 w.heap.size (fun _ => True) v967 y966 from by first | exact (Kd.R_below (by (with_reducible repeat (first | apply Kd.R_alloc | apply Kd.R_drewN | apply Kd.R_drew)); exact (Q_HO968 h0_)) hb) | exact Kd.R_mono (Kd.R_below (by (with_reducible repeat (first | apply Kd.R_alloc | apply Kd.R_drewN | apply Kd.R_drew)); exact (Q_HO968 h0_)) hb) (fun _ h_ => by first | trivial | exact h_ | exact h_.1))
                        clear BK964
                        clear HB
                        have BK964 := n0_
                        have HB := n1_
                        clear n0_ n1_
                        (try clear hb)
                        (try clear hb2)
                        (try clear hk)
                        (try clear hi)
                        refine hK.out _ _ ⟨v967, adz_v967, m3_, (by rw [ha.out]; exact putSel_upk 7 hb_ rfl rfl rfl), (bk BK964), bl, z_HO968, Q_HA_HO968, Q_X3_⟩
                      refine steps_cons ?_ ?_
                      · rintro b a w' ⟨v967, adz_v967, m3_, ha, Q_BK964, Q_HB, Q_HO968, Q_HA_HO968, Q_X3_⟩ hb_ hon hoff
                        refine ⟨_, rfl, fun K hK => ?_⟩
                        have e13 : a.tmps[13]? = some (.string (((⟨#[98, 97, 110, 32]⟩ : ByteArray) ++ (rdOf ByteArray.empty y966 a0_0)) ++ (⟨#[32]⟩ : ByteArray))) := by rw [ha]; exact putSel_on (e := (6, 13, .string (((⟨#[98, 97, 110, 32]⟩ : ByteArray) ++ (rdOf ByteArray.empty y966 a0_0)) ++ (⟨#[32]⟩ : ByteArray)))) 5 rfl rfl (hon 6 (by kernel_rfl)) rfl
                        have e16 : a.tmps[16]? = some (.string t970) := by rw [ha]; exact putSel_on (e := (9, 16, .string t970)) 7 rfl rfl (hon 9 (by kernel_rfl)) rfl
                        replace ha := Aside0.mk ha
                        have BK964 := Aside0.mk Q_BK964
                        have HB := Aside0.mk Q_HB
                        have HO968 := Aside0.mk (Q_HO968 (hon 0 (by kernel_rfl)))
                        have HA_HO968 := Aside0.mk (Q_HA_HO968 (hon 0 (by kernel_rfl)))
                        refine value_ (w1 := w') (v := .string ((((⟨#[98, 97, 110, 32]⟩ : ByteArray) ++ (rdOf ByteArray.empty y966 a0_0)) ++ (⟨#[32]⟩ : ByteArray)) ++ t970)) (by rfl) rfl ?_ ?_
                        · go_simp
                          (try simp only [i64_w])
                          try rfl
                        refine hK.out _ _ ⟨v967, adz_v967, m3_, (by rw [ha.out]; exact putSel_upk 8 hb_ rfl rfl rfl), Q_BK964, Q_HB, Q_HO968, Q_HA_HO968, Q_X3_⟩
                      refine steps_cons ?_ ?_
                      · rintro b a w' ⟨v967, adz_v967, m3_, ha, Q_BK964, Q_HB, Q_HO968, Q_HA_HO968, Q_X3_⟩ hb_ hon hoff
                        refine ⟨_, rfl, fun K hK => ?_⟩
                        have e17 : a.tmps[17]? = some (.string ((((⟨#[98, 97, 110, 32]⟩ : ByteArray) ++ (rdOf ByteArray.empty y966 a0_0)) ++ (⟨#[32]⟩ : ByteArray)) ++ t970)) := by rw [ha]; exact putSel_on (e := (10, 17, .string ((((⟨#[98, 97, 110, 32]⟩ : ByteArray) ++ (rdOf ByteArray.empty y966 a0_0)) ++ (⟨#[32]⟩ : ByteArray)) ++ t970))) 8 rfl rfl (hon 10 (by kernel_rfl)) rfl
                        replace ha := Aside0.mk ha
                        have BK964 := Aside0.mk Q_BK964
                        have HB := Aside0.mk Q_HB
                        have HO968 := Aside0.mk (Q_HO968 (hon 0 (by kernel_rfl)))
                        have HA_HO968 := Aside0.mk (Q_HA_HO968 (hon 0 (by kernel_rfl)))
                        refine value_ (w1 := w') (v := .string (((((⟨#[98, 97, 110, 32]⟩ : ByteArray) ++ (rdOf ByteArray.empty y966 a0_0)) ++ (⟨#[32]⟩ : ByteArray)) ++ t970) ++ (⟨#[32]⟩ : ByteArray))) (by rfl) rfl ?_ ?_
                        · go_simp
                          (try simp only [i64_w])
                          try rfl
                        refine hK.out _ _ ⟨v967, adz_v967, m3_, (by rw [ha.out]; exact putSel_upk 9 hb_ rfl rfl rfl), Q_BK964, Q_HB, Q_HO968, Q_HA_HO968, Q_X3_⟩
                      refine steps_cons ?_ ?_
                      · rintro b a w' ⟨v967, adz_v967, m3_, ha, Q_BK964, Q_HB, Q_HO968, Q_HA_HO968, Q_X3_⟩ hb_ hon hoff
                        refine ⟨_, rfl, fun K hK => ?_⟩
                        have e19 : a.tmps[19]? = some (.pointer (some ⟨gb964, 1, none⟩)) := by rw [ha]; exact (putSel_off rfl).trans rfl
                        replace ha := Aside0.mk ha
                        have BK964 := Aside0.mk Q_BK964
                        have HB := Aside0.mk Q_HB
                        have hc0_ : w'.cell? ⟨gb964, 0, none⟩ = some (.int .i64 a0_0) := (blk_cell BK964.out 0).trans rfl
                        have hc1_ : w'.cell? ⟨gb964, 1, none⟩ = some (.string a0_1) := (blk_cell BK964.out 1).trans rfl
                        have hc2_ : w'.cell? ⟨gb964, 2, none⟩ = some (.string a0_2) := (blk_cell BK964.out 2).trans rfl
                        have hc3_ : w'.cell? ⟨gb964, 3, none⟩ = some (.int .i64 a0_3) := (blk_cell BK964.out 3).trans rfl
                        refine value_ (w1 := w') (v := .string a0_1) (by rfl) rfl ?_ ?_
                        · go_simp
                          (try simp only [i64_w])
                          try rfl
                        refine hK.out _ _ ⟨v967, adz_v967, m3_, (by rw [ha.out]; exact putSel_upk 10 hb_ rfl rfl rfl), Q_BK964, Q_HB, Q_HO968, Q_HA_HO968, Q_X3_⟩
                      refine steps_cons ?_ ?_
                      · rintro b a w' ⟨v967, adz_v967, m3_, ha, Q_BK964, Q_HB, Q_HO968, Q_HA_HO968, Q_X3_⟩ hb_ hon hoff
                        refine ⟨_, rfl, fun K hK => ?_⟩
                        have e18 : a.tmps[18]? = some (.string (((((⟨#[98, 97, 110, 32]⟩ : ByteArray) ++ (rdOf ByteArray.empty y966 a0_0)) ++ (⟨#[32]⟩ : ByteArray)) ++ t970) ++ (⟨#[32]⟩ : ByteArray))) := by rw [ha]; exact putSel_on (e := (11, 18, .string (((((⟨#[98, 97, 110, 32]⟩ : ByteArray) ++ (rdOf ByteArray.empty y966 a0_0)) ++ (⟨#[32]⟩ : ByteArray)) ++ t970) ++ (⟨#[32]⟩ : ByteArray)))) 9 rfl rfl (hon 11 (by kernel_rfl)) rfl
                        have e20 : a.tmps[20]? = some (.string a0_1) := by rw [ha]; exact putSel_on (e := (13, 20, .string a0_1)) 10 rfl rfl (hon 13 (by kernel_rfl)) rfl
                        replace ha := Aside0.mk ha
                        have BK964 := Aside0.mk Q_BK964
                        have HB := Aside0.mk Q_HB
                        have HO968 := Aside0.mk (Q_HO968 (hon 0 (by kernel_rfl)))
                        have HA_HO968 := Aside0.mk (Q_HA_HO968 (hon 0 (by kernel_rfl)))
                        refine value_ (w1 := w') (v := .string ((((((⟨#[98, 97, 110, 32]⟩ : ByteArray) ++ (rdOf ByteArray.empty y966 a0_0)) ++ (⟨#[32]⟩ : ByteArray)) ++ t970) ++ (⟨#[32]⟩ : ByteArray)) ++ a0_1)) (by rfl) rfl ?_ ?_
                        · go_simp
                          (try simp only [i64_w])
                          try rfl
                        refine hK.out _ _ ⟨v967, adz_v967, m3_, (by rw [ha.out]; exact putSel_upk 11 hb_ rfl rfl rfl), Q_BK964, Q_HB, Q_HO968, Q_HA_HO968, Q_X3_⟩
                      refine steps_cons ?_ ?_
                      · rintro b a w' ⟨v967, adz_v967, m3_, ha, Q_BK964, Q_HB, Q_HO968, Q_HA_HO968, Q_X3_⟩ hb_ hon hoff
                        refine ⟨_, rfl, fun K hK => ?_⟩
                        have e21 : a.tmps[21]? = some (.string ((((((⟨#[98, 97, 110, 32]⟩ : ByteArray) ++ (rdOf ByteArray.empty y966 a0_0)) ++ (⟨#[32]⟩ : ByteArray)) ++ t970) ++ (⟨#[32]⟩ : ByteArray)) ++ a0_1)) := by rw [ha]; exact putSel_on (e := (14, 21, .string ((((((⟨#[98, 97, 110, 32]⟩ : ByteArray) ++ (rdOf ByteArray.empty y966 a0_0)) ++ (⟨#[32]⟩ : ByteArray)) ++ t970) ++ (⟨#[32]⟩ : ByteArray)) ++ a0_1))) 11 rfl rfl (hon 14 (by kernel_rfl)) rfl
                        replace ha := Aside0.mk ha
                        have BK964 := Aside0.mk Q_BK964
                        have HB := Aside0.mk Q_HB
                        have HO968 := Aside0.mk (Q_HO968 (hon 0 (by kernel_rfl)))
                        have HA_HO968 := Aside0.mk (Q_HA_HO968 (hon 0 (by kernel_rfl)))
                        refine value_ (w1 := w') (v := .string ((((((⟨#[98, 97, 110, 32]⟩ : ByteArray) ++ (rdOf ByteArray.empty y966 a0_0)) ++ (⟨#[32]⟩ : ByteArray)) ++ t970) ++ (⟨#[32]⟩ : ByteArray)) ++ a0_1)) (by rfl) rfl ?_ ?_
                        · go_simp
                          (try simp only [i64_w])
                          try rfl
                        refine hK.out _ _ ⟨v967, adz_v967, m3_, (by rw [ha.out]; exact putSel_upk 12 hb_ rfl rfl rfl), Q_BK964, Q_HB, Q_HO968, Q_HA_HO968, Q_X3_⟩
                      exact steps_nil
                    rintro b a w34 hall ⟨v967, adz_v967, m3_, ha, Q_BK964, Q_HB, Q_HO968, Q_HA_HO968, Q_X3_⟩
                    clear BK964 HB
                    have hb0_ := hall 0 (by kernel_rfl)
                    have hb2_ := hall 2 (by kernel_rfl)
                    have hb3_ := hall 3 (by kernel_rfl)
                    have hb4_ := hall 4 (by kernel_rfl)
                    have hb5_ := hall 5 (by kernel_rfl)
                    have hb6_ := hall 6 (by kernel_rfl)
                    have hb8_ := hall 8 (by kernel_rfl)
                    have hb9_ := hall 9 (by kernel_rfl)
                    have hb10_ := hall 10 (by kernel_rfl)
                    have hb11_ := hall 11 (by kernel_rfl)
                    have hb13_ := hall 13 (by kernel_rfl)
                    have hb14_ := hall 14 (by kernel_rfl)
                    have hb15_ := hall 15 (by kernel_rfl)
                    subst ha
                    obtain rfl := Q_X3_ hb3_
                    simp only [putSel, hb0_, hb2_, hb3_, hb4_, hb5_, hb6_, hb8_, hb9_, hb10_, hb11_, hb13_, hb14_, hb15_, if_true, Act.put, List.setIfInBounds_toArray, List.set_cons_zero, List.set_cons_succ]
                    have BK964 := Aside0.mk Q_BK964
                    clear Q_BK964
                    have HB := Aside0.mk Q_HB
                    clear Q_HB
                    have HO968 := Aside0.mk (Q_HO968 hb0_)
                    clear Q_HO968
                    have HA_HO968 := Aside0.mk (Q_HA_HO968 hb0_)
                    clear Q_HA_HO968
                    clear hall hb0_ hb2_ hb3_ hb4_ hb5_ hb6_ hb8_ hb9_ hb10_ hb11_ hb13_ hb14_ hb15_
                    obtain ⟨co35, eo35⟩ := HA_HO968.out
                    clear HA_HO968
                    subst eo35
                    have hcz36_0 : w34.cell? ⟨gb964, 0, none⟩ = some (.int .i64 a0_0) := (blk_cell BK964.out 0).trans rfl
                    have hcz36_1 : w34.cell? ⟨gb964, 1, none⟩ = some (.string a0_1) := (blk_cell BK964.out 1).trans rfl
                    have hcz36_2 : w34.cell? ⟨gb964, 2, none⟩ = some (.string a0_2) := (blk_cell BK964.out 2).trans rfl
                    have hcz36_3 : w34.cell? ⟨gb964, 3, none⟩ = some (.int .i64 a0_3) := (blk_cell BK964.out 3).trans rfl
                    have hfz36_0 := blk_frozen BK964.out 0
                    have hfz36_1 := blk_frozen BK964.out 1
                    have hfz36_2 := blk_frozen BK964.out 2
                    have hfz36_3 := blk_frozen BK964.out 3
                    try go_wp2
                    go_ret
                    exact ⟨rf, bl⟩
                · rw [if_neg c11] at H
                  exact absurd H (by simp)
              · rw [if_neg c10] at H
                exact absurd H (by simp)
            · rw [if_neg c9] at H
              exact absurd H (by simp)
          · rw [if_neg c7] at H
            exact absurd H (by simp)
        · rw [if_neg c6] at H
          exact absurd H (by simp)
      · rw [if_neg c5] at H
        exact absurd H (by simp)
    · rw [if_neg c4] at H
      exact absurd H (by simp)
  · replace c3 := Bool.eq_false_iff.mpr c3
    subst c3
    have H1 : (some (⟨#[]⟩ : ByteArray)) = some r := by rw [if_neg (show ¬ (false = true) by decide)] at H; exact H
    clear H
    have H := H1
    clear H1
    obtain rfl := Option.some.inj H
    go_enter Tryd.func76, Tryd.ntmps76
    go_wp2_with (first | ((with_reducible refine gate_dst (N := 1) rfl ?_); refine box_event ?hg (N := 1) ?hd (cs := #[.int .i64 a0_0, .string a0_1, .string a0_2, .int .i64 a0_3]) (t := 91) ?hr ?_; (case hd => rfl); (case hg => rfl); (case hr => first | (go_simp; done) | (go_simp; rfl)); intro gb964 hg w37 hbox hb; have n0_ := Aside0.mk (below_step bl hb); have n1_ := Aside0.mk (hbox); have n2_ := Aside0.mk ((by rw [hg]; exact (below_size bl) : w.heap.size ≤ gb964)); have n3_ := Aside0.mk ((by rw [hg]; exact (below_size bl) : w.heap.size ≤ gb964)); clear HB; have HB := n0_; have BK964 := n1_; have GW964 := n2_; have GE964 := n3_; clear n0_ n1_ n2_ n3_; clear hb hbox hg; have hcz38_0 : w37.cell? ⟨gb964, 0, none⟩ = some (.int .i64 a0_0) := (blk_cell BK964.out 0).trans rfl; have hcz38_1 : w37.cell? ⟨gb964, 1, none⟩ = some (.string a0_1) := (blk_cell BK964.out 1).trans rfl; have hcz38_2 : w37.cell? ⟨gb964, 2, none⟩ = some (.string a0_2) := (blk_cell BK964.out 2).trans rfl; have hcz38_3 : w37.cell? ⟨gb964, 3, none⟩ = some (.int .i64 a0_3) := (blk_cell BK964.out 3).trans rfl; have hfz38_0 := blk_frozen BK964.out 0; have hfz38_1 := blk_frozen BK964.out 1; have hfz38_2 := blk_frozen BK964.out 2; have hfz38_3 := blk_frozen BK964.out 3) | ((with_reducible refine gate_callee (f := 116) rfl ?_); refine goesL_ (some 5) rfl rfl Tryd.func116 (by kernel_rfl) rfl #[.agg #[.int .i64 a0_0, .string a0_1, .string a0_2, .int .i64 a0_3]] rfl ma ?_; (with_reducible refine (spec_BanOk.calls k a0_0 a0_1 a0_2 a0_3 false _ A2.out).mono ?_); rintro e w39 ⟨rfl, hb⟩; refine ⟨_, rfl, ?_⟩; replace BK964 := kb BK964 hb; replace HB := Aside0.mk (below_step bl hb); (try clear hb); (try clear hb2); (try clear hk); (try clear hi)))
    go_ret
    exact ⟨rf, bl⟩

end Go.Proofs.YtogdmlgbdbgpkaaDoor.All
