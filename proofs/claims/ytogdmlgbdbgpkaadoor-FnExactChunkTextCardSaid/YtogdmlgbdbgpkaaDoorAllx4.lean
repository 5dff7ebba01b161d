-- Written by a program of this session (wip/tools/hprint.py) out of the translation. Lean checks it.
import Derived.Test.YtogdmlgbdbgpkaaDoorAllx0
import Derived.Test.YtogdmlgbdbgpkaaDoorAllx1
import Derived.Test.YtogdmlgbdbgpkaaDoorAllx2
import Derived.Test.YtogdmlgbdbgpkaaDoorAllx3
namespace Go.Proofs.YtogdmlgbdbgpkaaDoor.All
open Go.RowKit Go.Proofs.YtogdmlgbdbgpkaaDoorW.PrintWords Go.Proofs.YtogdmlgbdbgpkaaDoorW.PrintLast Go.Proofs.YtogdmlgbdbgpkaaDoorW.PrintMore
attribute [local go_sem] max2_int min2_int max_two min_two max_three min_three max_four min_four   -- for this text's walks alone
set_option linter.unusedVariables false
set_option linter.unusedSimpArgs false

/-! ### spec_l1Min: function 83 -/
def spec_l1Min.f (a0 : Int) (a1 : Int) : Option (Int) := if a0 < a1 then (some a0) else (some a1)
set_option maxHeartbeats 8000000 in
set_option maxRecDepth 100000 in
theorem spec_l1Min.calls (a0 : Int) (a1 : Int) (r : Int) (w : World) (h : spec_l1Min.f a0 a1 = some r) :
    Calls Tryd.prog 83 #[.int .i64 a0, .int .i64 a1] w fun e w' => e = .returned (.int .i64 r) ∧ Drawn0 w w' := by
  have H : (if a0 < a1 then (some a0) else (some a1)) = some r := h
  clear h
  by_cases c3 : a0 < a1
  · rw [if_pos c3] at H
    have c3b0 : decide (a0 < a1) = true := decide_eq_true c3
    clear c3
    obtain rfl := Option.some.inj H
    go_enter Tryd.func83, Tryd.ntmps83
    go_wp2
    go_ret
    exact ⟨by first | rfl | (simp; done) | (simp [*]; done), by repeat (first | exact Drawn0.refl _ | apply Drawn0.step)⟩
  · rw [if_neg c3] at H
    have c3b0 : decide (a0 < a1) = false := decide_eq_false c3
    clear c3
    obtain rfl := Option.some.inj H
    go_enter Tryd.func83, Tryd.ntmps83
    go_wp2
    go_ret
    exact ⟨by first | rfl | (simp; done) | (simp [*]; done), by repeat (first | exact Drawn0.refl _ | apply Drawn0.step)⟩

/-! ### spec_l1Max: function 84 -/
def spec_l1Max.f (a0 : Int) (a1 : Int) : Option (Int) := if a0 > a1 then (some a0) else (some a1)
set_option maxHeartbeats 8000000 in
set_option maxRecDepth 100000 in
theorem spec_l1Max.calls (a0 : Int) (a1 : Int) (r : Int) (w : World) (h : spec_l1Max.f a0 a1 = some r) :
    Calls Tryd.prog 84 #[.int .i64 a0, .int .i64 a1] w fun e w' => e = .returned (.int .i64 r) ∧ Drawn0 w w' := by
  have H : (if a0 > a1 then (some a0) else (some a1)) = some r := h
  clear h
  by_cases c3 : a0 > a1
  · rw [if_pos c3] at H
    have c3b0 : decide (a1 < a0) = true := decide_eq_true c3
    clear c3
    obtain rfl := Option.some.inj H
    go_enter Tryd.func84, Tryd.ntmps84
    go_wp2
    go_ret
    exact ⟨by first | rfl | (simp; done) | (simp [*]; done), by repeat (first | exact Drawn0.refl _ | apply Drawn0.step)⟩
  · rw [if_neg c3] at H
    have c3b0 : decide (a1 < a0) = false := decide_eq_false c3
    clear c3
    obtain rfl := Option.some.inj H
    go_enter Tryd.func84, Tryd.ntmps84
    go_wp2
    go_ret
    exact ⟨by first | rfl | (simp; done) | (simp [*]; done), by repeat (first | exact Drawn0.refl _ | apply Drawn0.step)⟩

/-! ### spec_ChunkText: function 17 -/
def spec_ChunkText.l0 : Nat → ByteArray → List Int → ByteArray → Int → Int → Option (ByteArray)
  | 0, _, _, _, _, _ => none
  | k + 1, x0, x1, x5, x6, x7 => if x7 ≤ (x1.length : Int) then (if x7 < (x1.length : Int) then (if 0 ≤ x7 then ((spec_l1Max.f (rd x1 x7) 0).bind fun t111 => ((spec_l1Min.f (wrap64 ((x0.size : Int) - x6)) t111).bind fun t112 => (if t112 > 0 then ((spec_Hex.f k t112).bind fun t113 => (if x5.size + t113.size ≤ 9223372036854775807 then (if (x5 ++ t113).size + 2 ≤ 9223372036854775807 then (if 0 ≤ x6 then (if x6 ≤ (wrap64 (x6 + t112)) then (if (wrap64 (x6 + t112)) ≤ (x0.size : Int) then (if ((x5 ++ t113) ++ (⟨#[13, 10]⟩ : ByteArray)).size + (x0.extract (x6 : Int).toNat ((wrap64 (x6 + t112)) : Int).toNat).size ≤ 9223372036854775807 then (if (((x5 ++ t113) ++ (⟨#[13, 10]⟩ : ByteArray)) ++ (x0.extract (x6 : Int).toNat ((wrap64 (x6 + t112)) : Int).toNat)).size + 2 ≤ 9223372036854775807 then (spec_ChunkText.l0 k x0 x1 ((((x5 ++ t113) ++ (⟨#[13, 10]⟩ : ByteArray)) ++ (x0.extract (x6 : Int).toNat ((wrap64 (x6 + t112)) : Int).toNat)) ++ (⟨#[13, 10]⟩ : ByteArray)) (wrap64 (x6 + t112)) (wrap64 (x7 + 1))) else (none)) else (none)) else (none)) else (none)) else (none)) else (none)) else (none))) else (spec_ChunkText.l0 k x0 x1 x5 x6 (wrap64 (x7 + 1)))))) else (none)) else (if (wrap64 ((x0.size : Int) - x6)) > 0 then ((spec_Hex.f k (wrap64 ((x0.size : Int) - x6))).bind fun t114 => (if x5.size + t114.size ≤ 9223372036854775807 then (if (x5 ++ t114).size + 2 ≤ 9223372036854775807 then (if 0 ≤ x6 then (if x6 ≤ (wrap64 (x6 + (wrap64 ((x0.size : Int) - x6)))) then (if (wrap64 (x6 + (wrap64 ((x0.size : Int) - x6)))) ≤ (x0.size : Int) then (if ((x5 ++ t114) ++ (⟨#[13, 10]⟩ : ByteArray)).size + (x0.extract (x6 : Int).toNat ((wrap64 (x6 + (wrap64 ((x0.size : Int) - x6)))) : Int).toNat).size ≤ 9223372036854775807 then (if (((x5 ++ t114) ++ (⟨#[13, 10]⟩ : ByteArray)) ++ (x0.extract (x6 : Int).toNat ((wrap64 (x6 + (wrap64 ((x0.size : Int) - x6)))) : Int).toNat)).size + 2 ≤ 9223372036854775807 then (spec_ChunkText.l0 k x0 x1 ((((x5 ++ t114) ++ (⟨#[13, 10]⟩ : ByteArray)) ++ (x0.extract (x6 : Int).toNat ((wrap64 (x6 + (wrap64 ((x0.size : Int) - x6)))) : Int).toNat)) ++ (⟨#[13, 10]⟩ : ByteArray)) (wrap64 (x6 + (wrap64 ((x0.size : Int) - x6)))) (wrap64 (x7 + 1))) else (none)) else (none)) else (none)) else (none)) else (none)) else (none)) else (none))) else (spec_ChunkText.l0 k x0 x1 x5 x6 (wrap64 (x7 + 1))))) else (if x5.size + 5 ≤ 9223372036854775807 then (some (x5 ++ (⟨#[48, 13, 10, 13, 10]⟩ : ByteArray))) else (none))
def spec_ChunkText.f (k : Nat) (a0 : ByteArray) (l1 : List Int) : Option (ByteArray) := spec_ChunkText.l0 k a0 l1 (⟨#[]⟩ : ByteArray) 0 0
theorem spec_ChunkText.mono_l : ∀ k, (∀ y0 y1 y2 y3 y4, LeO (spec_ChunkText.l0 k y0 y1 y2 y3 y4) (spec_ChunkText.l0 (k + 1) y0 y1 y2 y3 y4))
  | 0 => fun _ _ _ _ _ r h => by simp [spec_ChunkText.l0] at h
  | k + 1 => by
    have ih0 := spec_ChunkText.mono_l k
    · intro y0 y1 y2 y3 y4
      unfold spec_ChunkText.l0
      repeat' first
      | (with_reducible exact ih0 _ _ _ _ _)
      | (with_reducible exact spec_Hex.mono _ _)
      | (with_reducible exact LeO.refl _)
      | (with_reducible exact LeO.none _)
      | (with_reducible refine LeO.ite ?_ ?_)
      | (with_reducible refine LeO.bind ?_ (fun _ => ?_))
      | exact ih0 _ _ _ _ _
      | exact spec_Hex.mono _ _
      | exact LeO.none _
      | refine LeO.ite ?_ ?_
      | refine LeO.bind ?_ (fun _ => ?_)
theorem spec_ChunkText.mono : ∀ a0 a1 k, LeO (spec_ChunkText.f k a0 a1) (spec_ChunkText.f (k + 1) a0 a1) := by
  intro a0 a1 k
  have ih0 := spec_ChunkText.mono_l k
  unfold spec_ChunkText.f
  repeat' first
      | (with_reducible exact ih0 _ _ _ _ _)
      | (with_reducible exact spec_Hex.mono _ _)
      | (with_reducible exact LeO.refl _)
      | (with_reducible exact LeO.none _)
      | (with_reducible refine LeO.ite ?_ ?_)
      | (with_reducible refine LeO.bind ?_ (fun _ => ?_))
      | exact ih0 _ _ _ _ _
      | exact spec_Hex.mono _ _
      | exact LeO.none _
      | refine LeO.ite ?_ ?_
      | refine LeO.bind ?_ (fun _ => ?_)
def spec_ChunkText.T10 : Bool × List (List Nat × List Nat) := (true, [([], []), ([], []), ([1], [1]), ([0, 2], [0, 2]), ([3], [3]), ([], []), ([], []), ([], []), ([], []), ([7, 8], [7, 8]), ([5, 6, 9], [5, 6, 9]), ([4, 10], [4, 10]), ([11], [11]), ([12, 2, 0, 1, 2, 3, 4, 5, 6, 7, 8, 9, 10, 11, 12], [0, 12])])
def spec_ChunkText.B10 : List Nat := [0, 0, 2, 7, 15, 0, 0, 0, 0, 384, 992, 2047, 4095, 8191]
theorem spec_ChunkText.tab10 : rtab .any (opsOf Tryd.f17 10) = spec_ChunkText.T10 := by kernel_rfl
theorem spec_ChunkText.bits10 : waitsOk spec_ChunkText.T10.2 spec_ChunkText.B10 = true := by kernel_rfl
set_option maxHeartbeats 8000000 in
set_option maxRecDepth 100000 in
theorem spec_ChunkText.calls (k : Nat) (a0 : ByteArray) (A1 : Option Addr) (c1 : Nat) (l1 : List Int) (r : ByteArray) (w : World) (hr1 : Kd.C (Kd.int .i64) w A1 l1.length l1) (hc1 : l1.length ≤ c1) (h : spec_ChunkText.f k a0 l1 = some r) :
    Calls Tryd.prog 17 #[.string a0, .slice A1 l1.length c1] w fun e w' => e = .returned (.string r) ∧ Below w.heap.size w w' := by
  have HR1 := Aside0.mk hr1
  have HC1 := Aside0.mk hc1
  clear hr1 hc1
  have HB := Aside0.mk (Below.refl w.heap.size w)
  have H : (spec_ChunkText.l0 k a0 l1 (⟨#[]⟩ : ByteArray) 0 0) = some r := h
  clear h
  have H' := Aside0.mk H
  clear H
  go_enter Tryd.func17, Tryd.ntmps17
  go_wp2
  (try simp only [Act.put, List.setIfInBounds_toArray, List.set_cons_zero, List.set_cons_succ])
  go_loopg [5, 6, 7] k (fun kq v5 v6 v7 w' => ∃ (x5_1 : ByteArray) (x6_1 : Int) (x7_1 : Int), v5 = .string x5_1 ∧ v6 = .int .i64 x6_1 ∧ v7 = .int .i64 x7_1 ∧ Aside0 (spec_ChunkText.l0 kq a0 l1 x5_1 x6_1 x7_1 = some r) ∧ Aside0 (kq ≤ k) ∧ Aside0 (Below w.heap.size w w'))
  case atStart => exact ⟨((⟨#[]⟩ : ByteArray)), (0), (0), (by first | rfl | (simp; done) | (simp [*]; done)), (by first | rfl | (simp; done) | (simp [*]; done)), (by first | rfl | (simp; done) | (simp [*]; done)), H', ⟨Nat.le_refl _⟩, ⟨by repeat (first | (with_reducible first | exact HB.out | apply below_alloc | apply pw_below_drewN | apply below_drew1) | exact HB.out)⟩⟩
  case round =>
    clear H'
    try clear c1
    try clear p2
    obtain ⟨x5_1, x6_1, x7_1, rfl, rfl, rfl, HA, HK1, HB⟩ := hrel
    cases gk with
    | zero => exact absurd HA.out (by simp [spec_ChunkText.l0])
    | succ k1 =>
      have H := HA.out
      clear HA
      simp only [spec_ChunkText.l0] at H
      by_cases c3 : x7_1 ≤ (l1.length : Int)
      · rw [if_pos c3] at H
        have c3b0 : decide (x7_1 ≤ (l1.length : Int)) = true := decide_eq_true c3
        clear c3
        by_cases c4 : x7_1 < (l1.length : Int)
        · rw [if_pos c4] at H
          have c4b0 : decide (x7_1 < (l1.length : Int)) = true := decide_eq_true c4
          clear c4
          by_cases c5 : 0 ≤ x7_1
          · rw [if_pos c5] at H
            have c5b0 : decide (0 ≤ x7_1) = true := decide_eq_true c5
            clear c5
            replace H := Option.bind_eq_some_iff.mp H
            obtain ⟨t111, A60, H⟩ := H
            replace H : ((spec_l1Min.f (wrap64 ((a0.size : Int) - x6_1)) t111).bind fun t112 => (if t112 > 0 then ((spec_Hex.f k1 t112).bind fun t113 => (if x5_1.size + t113.size ≤ 9223372036854775807 then (if (x5_1 ++ t113).size + 2 ≤ 9223372036854775807 then (if 0 ≤ x6_1 then (if x6_1 ≤ (wrap64 (x6_1 + t112)) then (if (wrap64 (x6_1 + t112)) ≤ (a0.size : Int) then (if ((x5_1 ++ t113) ++ (⟨#[13, 10]⟩ : ByteArray)).size + (a0.extract (x6_1 : Int).toNat ((wrap64 (x6_1 + t112)) : Int).toNat).size ≤ 9223372036854775807 then (if (((x5_1 ++ t113) ++ (⟨#[13, 10]⟩ : ByteArray)) ++ (a0.extract (x6_1 : Int).toNat ((wrap64 (x6_1 + t112)) : Int).toNat)).size + 2 ≤ 9223372036854775807 then (spec_ChunkText.l0 k1 a0 l1 ((((x5_1 ++ t113) ++ (⟨#[13, 10]⟩ : ByteArray)) ++ (a0.extract (x6_1 : Int).toNat ((wrap64 (x6_1 + t112)) : Int).toNat)) ++ (⟨#[13, 10]⟩ : ByteArray)) (wrap64 (x6_1 + t112)) (wrap64 (x7_1 + 1))) else (none)) else (none)) else (none)) else (none)) else (none)) else (none)) else (none))) else (spec_ChunkText.l0 k1 a0 l1 x5_1 x6_1 (wrap64 (x7_1 + 1))))) = some r := H
            have A6 := Aside0.mk A60
            clear A60
            replace H := Option.bind_eq_some_iff.mp H
            obtain ⟨t112, A70, H⟩ := H
            replace H : (if t112 > 0 then ((spec_Hex.f k1 t112).bind fun t113 => (if x5_1.size + t113.size ≤ 9223372036854775807 then (if (x5_1 ++ t113).size + 2 ≤ 9223372036854775807 then (if 0 ≤ x6_1 then (if x6_1 ≤ (wrap64 (x6_1 + t112)) then (if (wrap64 (x6_1 + t112)) ≤ (a0.size : Int) then (if ((x5_1 ++ t113) ++ (⟨#[13, 10]⟩ : ByteArray)).size + (a0.extract (x6_1 : Int).toNat ((wrap64 (x6_1 + t112)) : Int).toNat).size ≤ 9223372036854775807 then (if (((x5_1 ++ t113) ++ (⟨#[13, 10]⟩ : ByteArray)) ++ (a0.extract (x6_1 : Int).toNat ((wrap64 (x6_1 + t112)) : Int).toNat)).size + 2 ≤ 9223372036854775807 then (spec_ChunkText.l0 k1 a0 l1 ((((x5_1 ++ t113) ++ (⟨#[13, 10]⟩ : ByteArray)) ++ (a0.extract (x6_1 : Int).toNat ((wrap64 (x6_1 + t112)) : Int).toNat)) ++ (⟨#[13, 10]⟩ : ByteArray)) (wrap64 (x6_1 + t112)) (wrap64 (x7_1 + 1))) else (none)) else (none)) else (none)) else (none)) else (none)) else (none)) else (none))) else (spec_ChunkText.l0 k1 a0 l1 x5_1 x6_1 (wrap64 (x7_1 + 1)))) = some r := H
            have A7 := Aside0.mk A70
            clear A70
            by_cases c8 : t112 > 0
            · rw [if_pos c8] at H
              have c8b0 : decide (0 < t112) = true := decide_eq_true c8
              clear c8
              replace H := Option.bind_eq_some_iff.mp H
              obtain ⟨t113, A90, H⟩ := H
              replace H : (if x5_1.size + t113.size ≤ 9223372036854775807 then (if (x5_1 ++ t113).size + 2 ≤ 9223372036854775807 then (if 0 ≤ x6_1 then (if x6_1 ≤ (wrap64 (x6_1 + t112)) then (if (wrap64 (x6_1 + t112)) ≤ (a0.size : Int) then (if ((x5_1 ++ t113) ++ (⟨#[13, 10]⟩ : ByteArray)).size + (a0.extract (x6_1 : Int).toNat ((wrap64 (x6_1 + t112)) : Int).toNat).size ≤ 9223372036854775807 then (if (((x5_1 ++ t113) ++ (⟨#[13, 10]⟩ : ByteArray)) ++ (a0.extract (x6_1 : Int).toNat ((wrap64 (x6_1 + t112)) : Int).toNat)).size + 2 ≤ 9223372036854775807 then (spec_ChunkText.l0 k1 a0 l1 ((((x5_1 ++ t113) ++ (⟨#[13, 10]⟩ : ByteArray)) ++ (a0.extract (x6_1 : Int).toNat ((wrap64 (x6_1 + t112)) : Int).toNat)) ++ (⟨#[13, 10]⟩ : ByteArray)) (wrap64 (x6_1 + t112)) (wrap64 (x7_1 + 1))) else (none)) else (none)) else (none)) else (none)) else (none)) else (none)) else (none)) = some r := H
              have A9 := Aside0.mk A90
              clear A90
              by_cases c10 : x5_1.size + t113.size ≤ 9223372036854775807
              · rw [if_pos c10] at H
                have c10b0 := eq_true c10
                have c10b1 : decide (x5_1.size + t113.size ≤ 9223372036854775807) = true := decide_eq_true c10
                try have c10b2 : (9223372036854775807 < x5_1.size + t113.size) = False := eq_false (Nat.not_lt.2 c10)
                by_cases c11 : (x5_1 ++ t113).size + 2 ≤ 9223372036854775807
                · rw [if_pos c11] at H
                  have c11b0 := eq_true c11
                  have c11b1 : decide ((x5_1 ++ t113).size + 2 ≤ 9223372036854775807) = true := decide_eq_true c11
                  try have c11b2 : (9223372036854775807 < (x5_1 ++ t113).size + 2) = False := eq_false (Nat.not_lt.2 c11)
                  have c11b3 : (9223372036854775807 < (x5_1).size + (t113).size + 2) = False := eq_false (Nat.not_lt.2 (by have h_ := c11; simp only [ByteArray.size_append] at h_; first | exact h_ | (simp only [ByteArray.size_extract] at h_; rw [Nat.min_eq_left (by omega)] at h_; exact h_)))
                  by_cases c12 : 0 ≤ x6_1
                  · rw [if_pos c12] at H
                    have c12b0 := eq_true c12
                    have c12b1 : decide (0 ≤ x6_1) = true := decide_eq_true c12
                    clear c12
                    by_cases c13 : x6_1 ≤ (wrap64 (x6_1 + t112))
                    · rw [if_pos c13] at H
                      have c13b0 := eq_true c13
                      have c13b1 : decide (x6_1 ≤ (wrap64 (x6_1 + t112))) = true := decide_eq_true c13
                      by_cases c14 : (wrap64 (x6_1 + t112)) ≤ (a0.size : Int)
                      · rw [if_pos c14] at H
                        have c14b0 := eq_true c14
                        have c14b1 : decide ((wrap64 (x6_1 + t112)) ≤ (a0.size : Int)) = true := decide_eq_true c14
                        by_cases c15 : ((x5_1 ++ t113) ++ (⟨#[13, 10]⟩ : ByteArray)).size + (a0.extract (x6_1 : Int).toNat ((wrap64 (x6_1 + t112)) : Int).toNat).size ≤ 9223372036854775807
                        · rw [if_pos c15] at H
                          have c15b0 := eq_true c15
                          have c15b1 : decide (((x5_1 ++ t113) ++ (⟨#[13, 10]⟩ : ByteArray)).size + (a0.extract (x6_1 : Int).toNat ((wrap64 (x6_1 + t112)) : Int).toNat).size ≤ 9223372036854775807) = true := decide_eq_true c15
                          try have c15b2 : (9223372036854775807 < ((x5_1 ++ t113) ++ (⟨#[13, 10]⟩ : ByteArray)).size + (a0.extract (x6_1 : Int).toNat ((wrap64 (x6_1 + t112)) : Int).toNat).size) = False := eq_false (Nat.not_lt.2 c15)
                          have c15b3 : (9223372036854775807 < (x5_1).size + (t113).size + 2 + ((((wrap64 (x6_1 + t112)) : Int).toNat - (x6_1 : Int).toNat))) = False := eq_false (Nat.not_lt.2 (by have h_ := c15; simp only [ByteArray.size_append] at h_; first | exact h_ | (simp only [ByteArray.size_extract] at h_; rw [Nat.min_eq_left (by omega)] at h_; exact h_)))
                          by_cases c16 : (((x5_1 ++ t113) ++ (⟨#[13, 10]⟩ : ByteArray)) ++ (a0.extract (x6_1 : Int).toNat ((wrap64 (x6_1 + t112)) : Int).toNat)).size + 2 ≤ 9223372036854775807
                          · rw [if_pos c16] at H
                            have c16b0 := eq_true c16
                            have c16b1 : decide ((((x5_1 ++ t113) ++ (⟨#[13, 10]⟩ : ByteArray)) ++ (a0.extract (x6_1 : Int).toNat ((wrap64 (x6_1 + t112)) : Int).toNat)).size + 2 ≤ 9223372036854775807) = true := decide_eq_true c16
                            try have c16b2 : (9223372036854775807 < (((x5_1 ++ t113) ++ (⟨#[13, 10]⟩ : ByteArray)) ++ (a0.extract (x6_1 : Int).toNat ((wrap64 (x6_1 + t112)) : Int).toNat)).size + 2) = False := eq_false (Nat.not_lt.2 c16)
                            have c16b3 : (9223372036854775807 < (x5_1).size + (t113).size + 2 + (((wrap64 (x6_1 + t112)) : Int).toNat - (x6_1 : Int).toNat) + 2) = False := eq_false (Nat.not_lt.2 (by have h_ := c16; simp only [ByteArray.size_append] at h_; first | exact h_ | (simp only [ByteArray.size_extract] at h_; rw [Nat.min_eq_left (by omega)] at h_; exact h_)))
                            have H' := Aside0.mk H
                            clear H
                            have p110 : 0 ≤ (x7_1 : Int) := of_decide_eq_true (by first | (with_reducible assumption) | assumption)
                            have q110 : x7_1 < (l1.length : Int) := of_decide_eq_true (by first | (with_reducible assumption) | assumption)
                            obtain ⟨ad110, e110, hx110_0⟩ := Kd.at_int HR1.out x7_1 p110 q110
                            cases e110
                            replace hx110_0 := (HB.out.cell (World.block_lt_of_cell? w _ hx110_0)).trans hx110_0
                            replace p110 := eq_true p110
                            replace q110 := eq_true q110
                            try go_wp2_with (first | ((with_reducible refine gate_callee (f := 84) rfl ?_); refine goesL_ (some 28) rfl rfl Tryd.func84 (by kernel_rfl) rfl #[.int .i64 (rd l1 x7_1), .int .i64 0] rfl ma ?_; (with_reducible refine (spec_l1Max.calls (rd l1 x7_1) 0 t111 _ A6.out).mono ?_); rintro e w' ⟨rfl, ⟨nd, rfl⟩⟩; refine ⟨_, rfl, ?_⟩) | ((with_reducible refine gate_callee (f := 83) rfl ?_); refine goesL_ (some 29) rfl rfl Tryd.func83 (by kernel_rfl) rfl #[.int .i64 (wrap64 ((a0.size : Int) - x6_1)), .int .i64 t111] rfl ma ?_; (with_reducible refine (spec_l1Min.calls (wrap64 ((a0.size : Int) - x6_1)) t111 t112 _ A7.out).mono ?_); rintro e w' ⟨rfl, ⟨nd, rfl⟩⟩; refine ⟨_, rfl, ?_⟩))
                            (try (rw [drewN_self wr]; generalize hq_ : World.drewN wr _ = wr; have n0_ : Aside0 (Below w.heap.size w wr) := ⟨by rw [← hq_]; exact bl⟩; clear HB hq_; have HB := n0_; clear n0_))
                            replace HB := Aside0.mk (below_drew1 HB.out)
                            refine start_ (n := 14) (S := fun w' => True) (ds := []) #[false, false, false, false, false, false, false, false, false, false, false, false, false, false] (by kernel_rfl) rfl rfl trivial (fun hHeld => ?_); refine with_tabW spec_ChunkText.tab10 spec_ChunkText.bits10 (fun HT_ HW_ => ?_)
                            generalize wr.drew = w17 at HB hHeld ⊢
                            refine pure_ (i := 0) (N := some 32) (v := ?_) (a' := ?_) #[true, false, false, false, false, false, false, false, false, false, false, false, false, false] rfl rfl (any_of HT_.out (by kernel_rfl)) (fun _ _ _ h => h) (Or.inl ⟨by rfl, ?_⟩) ?_ ?_
                            rotate_left
                            · intro w'
                              go_simp
                              with_reducible rfl
                            rotate_left
                            · simp only [Act.put, List.setIfInBounds_toArray, List.set_cons_zero, List.set_cons_succ, i64_w, i32_w]
                              rfl
                            refine pure_ (i := 1) (N := some 33) (v := ?_) (a' := ?_) #[true, true, false, false, false, false, false, false, false, false, false, false, false, false] rfl rfl (any_of HT_.out (by kernel_rfl)) (fun _ _ _ h => h) (Or.inl ⟨by rfl, ?_⟩) ?_ ?_
                            rotate_left
                            · intro w'
                              go_simp
                              with_reducible rfl
                            rotate_left
                            · simp only [Act.put, List.setIfInBounds_toArray, List.set_cons_zero, List.set_cons_succ, i64_w, i32_w]
                              rfl
                            refine pure_ (i := 5) (N := some 37) (v := ?_) (a' := ?_) #[true, true, false, false, false, true, false, false, false, false, false, false, false, false] rfl rfl (any_of HT_.out (by kernel_rfl)) (fun _ _ _ h => h) (Or.inl ⟨by rfl, ?_⟩) ?_ ?_
                            rotate_left
                            · intro w'
                              go_simp
                              with_reducible rfl
                            rotate_left
                            · simp only [Act.put, List.setIfInBounds_toArray, List.set_cons_zero, List.set_cons_succ, i64_w, i32_w]
                              rfl
                            refine pure_ (i := 6) (N := some 38) (v := ?_) (a' := ?_) #[true, true, false, false, false, true, true, false, false, false, false, false, false, false] rfl rfl (any_of HT_.out (by kernel_rfl)) (fun _ _ _ h => h) (Or.inl ⟨by rfl, ?_⟩) ?_ ?_
                            rotate_left
                            · intro w'
                              go_simp
                              with_reducible rfl
                            rotate_left
                            · simp only [Act.put, List.setIfInBounds_toArray, List.set_cons_zero, List.set_cons_succ, i64_w, i32_w]
                              rfl
                            refine pure_ (i := 7) (N := some 39) (v := ?_) (a' := ?_) #[true, true, false, false, false, true, true, true, false, false, false, false, false, false] rfl rfl (any_of HT_.out (by kernel_rfl)) (fun _ _ _ h => h) (Or.inl ⟨by rfl, ?_⟩) ?_ ?_
                            rotate_left
                            · intro w'
                              go_simp
                              with_reducible rfl
                            rotate_left
                            · simp only [Act.put, List.setIfInBounds_toArray, List.set_cons_zero, List.set_cons_succ, i64_w, i32_w]
                              rfl
                            refine pure_ (i := 8) (N := some 40) (v := ?_) (a' := ?_) #[true, true, false, false, false, true, true, true, true, false, false, false, false, false] rfl rfl (any_of HT_.out (by kernel_rfl)) (fun _ _ _ h => h) (Or.inl ⟨by rfl, ?_⟩) ?_ ?_
                            rotate_left
                            · intro w'
                              go_simp
                              with_reducible rfl
                            rotate_left
                            · simp only [Act.put, List.setIfInBounds_toArray, List.set_cons_zero, List.set_cons_succ, i64_w, i32_w]
                              rfl
                            refine pure_ (i := 9) (N := some 41) (v := ?_) (a' := ?_) #[true, true, false, false, false, true, true, true, true, true, false, false, false, false] rfl rfl (any_of HT_.out (by kernel_rfl)) (fun _ _ _ h => h) (Or.inl ⟨by rfl, ?_⟩) ?_ ?_
                            rotate_left
                            · intro w'
                              go_simp
                              with_reducible rfl
                            rotate_left
                            · simp only [Act.put, List.setIfInBounds_toArray, List.set_cons_zero, List.set_cons_succ, i64_w, i32_w]
                              rfl
                            refine pure_ (i := 10) (N := some 42) (v := ?_) (a' := ?_) #[true, true, false, false, false, true, true, true, true, true, true, false, false, false] rfl rfl (any_of HT_.out (by kernel_rfl)) (fun _ _ _ h => h) (Or.inl ⟨by rfl, ?_⟩) ?_ ?_
                            rotate_left
                            · intro w'
                              go_simp
                              with_reducible rfl
                            rotate_left
                            · simp only [Act.put, List.setIfInBounds_toArray, List.set_cons_zero, List.set_cons_succ, i64_w, i32_w]
                              rfl
                            refine one_ (i := 2) (N := some 34) #[true, true, true, false, false, true, true, true, true, true, true, false, false, false] rfl rfl (one_of HT_.out (by kernel_rfl)) (by decide) (fun K hK => ?_)
                            refine goes_ Tryd.func15 (by kernel_rfl) rfl #[.int .i64 t112] (by rfl) rfl rfl ma ?_
                            with_reducible refine (spec_Hex.calls k1 t112 t113 _ A9.out).mono ?_
                            rintro e w18 ⟨rfl, hb⟩
                            refine ⟨_, rfl, ?_⟩
                            replace HB := Aside0.mk (below_step bl hb)
                            (try clear hb)
                            (try clear hb2)
                            (try clear hk)
                            (try clear hi)
                            refine hK.out _ _ trivial (fun hHeld => ?_)
                            clear hK K
                            refine norm_ (a' := ?_) ?_ ?_
                            rotate_left
                            · show Act.put _ (some 34) _ = _
                              simp only [Act.put, List.setIfInBounds_toArray, List.set_cons_zero, List.set_cons_succ, i64_w, i32_w]
                              rfl
                            refine pure_ (i := 3) (N := some 35) (v := ?_) (a' := ?_) #[true, true, true, true, false, true, true, true, true, true, true, false, false, false] rfl rfl (any_of HT_.out (by kernel_rfl)) (fun _ _ _ h => h) (Or.inl ⟨by rfl, ?_⟩) ?_ ?_
                            rotate_left
                            · intro w'
                              go_simp
                              with_reducible rfl
                            rotate_left
                            · simp only [Act.put, List.setIfInBounds_toArray, List.set_cons_zero, List.set_cons_succ, i64_w, i32_w]
                              rfl
                            refine pure_ (i := 4) (N := some 36) (v := ?_) (a' := ?_) #[true, true, true, true, true, true, true, true, true, true, true, false, false, false] rfl rfl (any_of HT_.out (by kernel_rfl)) (fun _ _ _ h => h) (Or.inl ⟨by rfl, ?_⟩) ?_ ?_
                            rotate_left
                            · intro w'
                              go_simp
                              with_reducible rfl
                            rotate_left
                            · simp only [Act.put, List.setIfInBounds_toArray, List.set_cons_zero, List.set_cons_succ, i64_w, i32_w]
                              rfl
                            refine pure_ (i := 11) (N := some 43) (v := ?_) (a' := ?_) #[true, true, true, true, true, true, true, true, true, true, true, true, false, false] rfl rfl (any_of HT_.out (by kernel_rfl)) (fun _ _ _ h => h) (Or.inl ⟨by rfl, ?_⟩) ?_ ?_
                            rotate_left
                            · intro w'
                              go_simp
                              with_reducible rfl
                            rotate_left
                            · simp only [Act.put, List.setIfInBounds_toArray, List.set_cons_zero, List.set_cons_succ, i64_w, i32_w]
                              rfl
                            refine pure_ (i := 12) (N := some 44) (v := ?_) (a' := ?_) #[true, true, true, true, true, true, true, true, true, true, true, true, true, false] rfl rfl (any_of HT_.out (by kernel_rfl)) (fun _ _ _ h => h) (Or.inl ⟨by rfl, ?_⟩) ?_ ?_
                            rotate_left
                            · intro w'
                              go_simp
                              with_reducible rfl
                            rotate_left
                            · simp only [Act.put, List.setIfInBounds_toArray, List.set_cons_zero, List.set_cons_succ, i64_w, i32_w]
                              rfl
                            refine pure_ (i := 13) (N := some 5) (v := ?_) (a' := ?_) #[true, true, true, true, true, true, true, true, true, true, true, true, true, true] rfl rfl (any_of HT_.out (by kernel_rfl)) (fun _ _ _ h => h) (Or.inl ⟨by rfl, ?_⟩) ?_ ?_
                            rotate_left
                            · intro w'
                              go_simp
                              with_reducible rfl
                            rotate_left
                            · simp only [Act.put, List.setIfInBounds_toArray, List.set_cons_zero, List.set_cons_succ, i64_w, i32_w]
                              rfl
                            refine done_ (done_of HT_.out (by kernel_rfl)) ?_
                            try go_wp2
                            go_roundg k1
                            case measure => have := HK1.out; omega
                            case rel => exact ⟨((((x5_1 ++ t113) ++ (⟨#[13, 10]⟩ : ByteArray)) ++ (a0.extract (x6_1 : Int).toNat ((wrap64 (x6_1 + t112)) : Int).toNat)) ++ (⟨#[13, 10]⟩ : ByteArray)), (wrap64 (x6_1 + t112)), (wrap64 (x7_1 + 1)), (by first | rfl | (simp; done) | (simp [*]; done)), (by first | rfl | (simp; done) | (simp [*]; done)), (by first | rfl | (simp; done) | (simp [*]; done)), H', ⟨by have := HK1.out; omega⟩, ⟨by repeat (first | (with_reducible first | exact HB.out | apply below_alloc | apply pw_below_drewN | apply below_drew1) | exact HB.out)⟩⟩
                          · rw [if_neg c16] at H
                            exact absurd H (by simp)
                        · rw [if_neg c15] at H
                          exact absurd H (by simp)
                      · rw [if_neg c14] at H
                        exact absurd H (by simp)
                    · rw [if_neg c13] at H
                      exact absurd H (by simp)
                  · rw [if_neg c12] at H
                    exact absurd H (by simp)
                · rw [if_neg c11] at H
                  exact absurd H (by simp)
              · rw [if_neg c10] at H
                exact absurd H (by simp)
            · rw [if_neg c8] at H
              have c8b0 : decide (0 < t112) = false := decide_eq_false c8
              clear c8
              have H' := Aside0.mk H
              clear H
              have p110 : 0 ≤ (x7_1 : Int) := of_decide_eq_true (by first | (with_reducible assumption) | assumption)
              have q110 : x7_1 < (l1.length : Int) := of_decide_eq_true (by first | (with_reducible assumption) | assumption)
              obtain ⟨ad110, e110, hx110_0⟩ := Kd.at_int HR1.out x7_1 p110 q110
              cases e110
              replace hx110_0 := (HB.out.cell (World.block_lt_of_cell? w _ hx110_0)).trans hx110_0
              replace p110 := eq_true p110
              replace q110 := eq_true q110
              go_wp2_with (first | ((with_reducible refine gate_callee (f := 84) rfl ?_); refine goesL_ (some 28) rfl rfl Tryd.func84 (by kernel_rfl) rfl #[.int .i64 (rd l1 x7_1), .int .i64 0] rfl ma ?_; (with_reducible refine (spec_l1Max.calls (rd l1 x7_1) 0 t111 _ A6.out).mono ?_); rintro e w' ⟨rfl, ⟨nd, rfl⟩⟩; refine ⟨_, rfl, ?_⟩) | ((with_reducible refine gate_callee (f := 83) rfl ?_); refine goesL_ (some 29) rfl rfl Tryd.func83 (by kernel_rfl) rfl #[.int .i64 (wrap64 ((a0.size : Int) - x6_1)), .int .i64 t111] rfl ma ?_; (with_reducible refine (spec_l1Min.calls (wrap64 ((a0.size : Int) - x6_1)) t111 t112 _ A7.out).mono ?_); rintro e w' ⟨rfl, ⟨nd, rfl⟩⟩; refine ⟨_, rfl, ?_⟩))
              go_roundg k1
              case measure => have := HK1.out; omega
              case rel => exact ⟨(x5_1), (x6_1), (wrap64 (x7_1 + 1)), (by first | rfl | (simp; done) | (simp [*]; done)), (by first | rfl | (simp; done) | (simp [*]; done)), (by first | rfl | (simp; done) | (simp [*]; done)), H', ⟨by have := HK1.out; omega⟩, ⟨by repeat (first | (with_reducible first | exact HB.out | apply below_alloc | apply pw_below_drewN | apply below_drew1) | exact HB.out)⟩⟩
          · rw [if_neg c5] at H
            exact absurd H (by simp)
        · rw [if_neg c4] at H
          have c4b0 : decide (x7_1 < (l1.length : Int)) = false := decide_eq_false c4
          clear c4
          by_cases c19 : (wrap64 ((a0.size : Int) - x6_1)) > 0
          · rw [if_pos c19] at H
            have c19b0 : decide (0 < (wrap64 ((a0.size : Int) - x6_1))) = true := decide_eq_true c19
            clear c19
            replace H := Option.bind_eq_some_iff.mp H
            obtain ⟨t114, A200, H⟩ := H
            replace H : (if x5_1.size + t114.size ≤ 9223372036854775807 then (if (x5_1 ++ t114).size + 2 ≤ 9223372036854775807 then (if 0 ≤ x6_1 then (if x6_1 ≤ (wrap64 (x6_1 + (wrap64 ((a0.size : Int) - x6_1)))) then (if (wrap64 (x6_1 + (wrap64 ((a0.size : Int) - x6_1)))) ≤ (a0.size : Int) then (if ((x5_1 ++ t114) ++ (⟨#[13, 10]⟩ : ByteArray)).size + (a0.extract (x6_1 : Int).toNat ((wrap64 (x6_1 + (wrap64 ((a0.size : Int) - x6_1)))) : Int).toNat).size ≤ 9223372036854775807 then (if (((x5_1 ++ t114) ++ (⟨#[13, 10]⟩ : ByteArray)) ++ (a0.extract (x6_1 : Int).toNat ((wrap64 (x6_1 + (wrap64 ((a0.size : Int) - x6_1)))) : Int).toNat)).size + 2 ≤ 9223372036854775807 then (spec_ChunkText.l0 k1 a0 l1 ((((x5_1 ++ t114) ++ (⟨#[13, 10]⟩ : ByteArray)) ++ (a0.extract (x6_1 : Int).toNat ((wrap64 (x6_1 + (wrap64 ((a0.size : Int) - x6_1)))) : Int).toNat)) ++ (⟨#[13, 10]⟩ : ByteArray)) (wrap64 (x6_1 + (wrap64 ((a0.size : Int) - x6_1)))) (wrap64 (x7_1 + 1))) else (none)) else (none)) else (none)) else (none)) else (none)) else (none)) else (none)) = some r := H
            have A20 := Aside0.mk A200
            clear A200
            by_cases c21 : x5_1.size + t114.size ≤ 9223372036854775807
            · rw [if_pos c21] at H
              have c21b0 := eq_true c21
              have c21b1 : decide (x5_1.size + t114.size ≤ 9223372036854775807) = true := decide_eq_true c21
              try have c21b2 : (9223372036854775807 < x5_1.size + t114.size) = False := eq_false (Nat.not_lt.2 c21)
              by_cases c22 : (x5_1 ++ t114).size + 2 ≤ 9223372036854775807
              · rw [if_pos c22] at H
                have c22b0 := eq_true c22
                have c22b1 : decide ((x5_1 ++ t114).size + 2 ≤ 9223372036854775807) = true := decide_eq_true c22
                try have c22b2 : (9223372036854775807 < (x5_1 ++ t114).size + 2) = False := eq_false (Nat.not_lt.2 c22)
                have c22b3 : (9223372036854775807 < (x5_1).size + (t114).size + 2) = False := eq_false (Nat.not_lt.2 (by have h_ := c22; simp only [ByteArray.size_append] at h_; first | exact h_ | (simp only [ByteArray.size_extract] at h_; rw [Nat.min_eq_left (by omega)] at h_; exact h_)))
                by_cases c23 : 0 ≤ x6_1
                · rw [if_pos c23] at H
                  have c23b0 := eq_true c23
                  have c23b1 : decide (0 ≤ x6_1) = true := decide_eq_true c23
                  clear c23
                  by_cases c24 : x6_1 ≤ (wrap64 (x6_1 + (wrap64 ((a0.size : Int) - x6_1))))
                  · rw [if_pos c24] at H
                    have c24b0 := eq_true c24
                    have c24b1 : decide (x6_1 ≤ (wrap64 (x6_1 + (wrap64 ((a0.size : Int) - x6_1))))) = true := decide_eq_true c24
                    by_cases c25 : (wrap64 (x6_1 + (wrap64 ((a0.size : Int) - x6_1)))) ≤ (a0.size : Int)
                    · rw [if_pos c25] at H
                      have c25b0 := eq_true c25
                      have c25b1 : decide ((wrap64 (x6_1 + (wrap64 ((a0.size : Int) - x6_1)))) ≤ (a0.size : Int)) = true := decide_eq_true c25
                      by_cases c26 : ((x5_1 ++ t114) ++ (⟨#[13, 10]⟩ : ByteArray)).size + (a0.extract (x6_1 : Int).toNat ((wrap64 (x6_1 + (wrap64 ((a0.size : Int) - x6_1)))) : Int).toNat).size ≤ 9223372036854775807
                      · rw [if_pos c26] at H
                        have c26b0 := eq_true c26
                        have c26b1 : decide (((x5_1 ++ t114) ++ (⟨#[13, 10]⟩ : ByteArray)).size + (a0.extract (x6_1 : Int).toNat ((wrap64 (x6_1 + (wrap64 ((a0.size : Int) - x6_1)))) : Int).toNat).size ≤ 9223372036854775807) = true := decide_eq_true c26
                        try have c26b2 : (9223372036854775807 < ((x5_1 ++ t114) ++ (⟨#[13, 10]⟩ : ByteArray)).size + (a0.extract (x6_1 : Int).toNat ((wrap64 (x6_1 + (wrap64 ((a0.size : Int) - x6_1)))) : Int).toNat).size) = False := eq_false (Nat.not_lt.2 c26)
                        have c26b3 : (9223372036854775807 < (x5_1).size + (t114).size + 2 + ((((wrap64 (x6_1 + (wrap64 ((a0.size : Int) - x6_1)))) : Int).toNat - (x6_1 : Int).toNat))) = False := eq_false (Nat.not_lt.2 (by have h_ := c26; simp only [ByteArray.size_append] at h_; first | exact h_ | (simp only [ByteArray.size_extract] at h_; rw [Nat.min_eq_left (by omega)] at h_; exact h_)))
                        by_cases c27 : (((x5_1 ++ t114) ++ (⟨#[13, 10]⟩ : ByteArray)) ++ (a0.extract (x6_1 : Int).toNat ((wrap64 (x6_1 + (wrap64 ((a0.size : Int) - x6_1)))) : Int).toNat)).size + 2 ≤ 9223372036854775807
                        · rw [if_pos c27] at H
                          have c27b0 := eq_true c27
                          have c27b1 : decide ((((x5_1 ++ t114) ++ (⟨#[13, 10]⟩ : ByteArray)) ++ (a0.extract (x6_1 : Int).toNat ((wrap64 (x6_1 + (wrap64 ((a0.size : Int) - x6_1)))) : Int).toNat)).size + 2 ≤ 9223372036854775807) = true := decide_eq_true c27
                          try have c27b2 : (9223372036854775807 < (((x5_1 ++ t114) ++ (⟨#[13, 10]⟩ : ByteArray)) ++ (a0.extract (x6_1 : Int).toNat ((wrap64 (x6_1 + (wrap64 ((a0.size : Int) - x6_1)))) : Int).toNat)).size + 2) = False := eq_false (Nat.not_lt.2 c27)
                          have c27b3 : (9223372036854775807 < (x5_1).size + (t114).size + 2 + (((wrap64 (x6_1 + (wrap64 ((a0.size : Int) - x6_1)))) : Int).toNat - (x6_1 : Int).toNat) + 2) = False := eq_false (Nat.not_lt.2 (by have h_ := c27; simp only [ByteArray.size_append] at h_; first | exact h_ | (simp only [ByteArray.size_extract] at h_; rw [Nat.min_eq_left (by omega)] at h_; exact h_)))
                          have H' := Aside0.mk H
                          clear H
                          try go_wp2
                          replace HB := Aside0.mk (below_drew1 HB.out)
                          refine start_ (n := 14) (S := fun w' => True) (ds := []) #[false, false, false, false, false, false, false, false, false, false, false, false, false, false] (by kernel_rfl) rfl rfl trivial (fun hHeld => ?_); refine with_tabW spec_ChunkText.tab10 spec_ChunkText.bits10 (fun HT_ HW_ => ?_)
                          generalize wr.drew = w28 at HB hHeld ⊢
                          refine pure_ (i := 0) (N := some 32) (v := ?_) (a' := ?_) #[true, false, false, false, false, false, false, false, false, false, false, false, false, false] rfl rfl (any_of HT_.out (by kernel_rfl)) (fun _ _ _ h => h) (Or.inl ⟨by rfl, ?_⟩) ?_ ?_
                          rotate_left
                          · intro w'
                            go_simp
                            with_reducible rfl
                          rotate_left
                          · simp only [Act.put, List.setIfInBounds_toArray, List.set_cons_zero, List.set_cons_succ, i64_w, i32_w]
                            rfl
                          refine pure_ (i := 1) (N := some 33) (v := ?_) (a' := ?_) #[true, true, false, false, false, false, false, false, false, false, false, false, false, false] rfl rfl (any_of HT_.out (by kernel_rfl)) (fun _ _ _ h => h) (Or.inl ⟨by rfl, ?_⟩) ?_ ?_
                          rotate_left
                          · intro w'
                            go_simp
                            with_reducible rfl
                          rotate_left
                          · simp only [Act.put, List.setIfInBounds_toArray, List.set_cons_zero, List.set_cons_succ, i64_w, i32_w]
                            rfl
                          refine pure_ (i := 5) (N := some 37) (v := ?_) (a' := ?_) #[true, true, false, false, false, true, false, false, false, false, false, false, false, false] rfl rfl (any_of HT_.out (by kernel_rfl)) (fun _ _ _ h => h) (Or.inl ⟨by rfl, ?_⟩) ?_ ?_
                          rotate_left
                          · intro w'
                            go_simp
                            with_reducible rfl
                          rotate_left
                          · simp only [Act.put, List.setIfInBounds_toArray, List.set_cons_zero, List.set_cons_succ, i64_w, i32_w]
                            rfl
                          refine pure_ (i := 6) (N := some 38) (v := ?_) (a' := ?_) #[true, true, false, false, false, true, true, false, false, false, false, false, false, false] rfl rfl (any_of HT_.out (by kernel_rfl)) (fun _ _ _ h => h) (Or.inl ⟨by rfl, ?_⟩) ?_ ?_
                          rotate_left
                          · intro w'
                            go_simp
                            with_reducible rfl
                          rotate_left
                          · simp only [Act.put, List.setIfInBounds_toArray, List.set_cons_zero, List.set_cons_succ, i64_w, i32_w]
                            rfl
                          refine pure_ (i := 7) (N := some 39) (v := ?_) (a' := ?_) #[true, true, false, false, false, true, true, true, false, false, false, false, false, false] rfl rfl (any_of HT_.out (by kernel_rfl)) (fun _ _ _ h => h) (Or.inl ⟨by rfl, ?_⟩) ?_ ?_
                          rotate_left
                          · intro w'
                            go_simp
                            with_reducible rfl
                          rotate_left
                          · simp only [Act.put, List.setIfInBounds_toArray, List.set_cons_zero, List.set_cons_succ, i64_w, i32_w]
                            rfl
                          refine pure_ (i := 8) (N := some 40) (v := ?_) (a' := ?_) #[true, true, false, false, false, true, true, true, true, false, false, false, false, false] rfl rfl (any_of HT_.out (by kernel_rfl)) (fun _ _ _ h => h) (Or.inl ⟨by rfl, ?_⟩) ?_ ?_
                          rotate_left
                          · intro w'
                            go_simp
                            with_reducible rfl
                          rotate_left
                          · simp only [Act.put, List.setIfInBounds_toArray, List.set_cons_zero, List.set_cons_succ, i64_w, i32_w]
                            rfl
                          refine pure_ (i := 9) (N := some 41) (v := ?_) (a' := ?_) #[true, true, false, false, false, true, true, true, true, true, false, false, false, false] rfl rfl (any_of HT_.out (by kernel_rfl)) (fun _ _ _ h => h) (Or.inl ⟨by rfl, ?_⟩) ?_ ?_
                          rotate_left
                          · intro w'
                            go_simp
                            with_reducible rfl
                          rotate_left
                          · simp only [Act.put, List.setIfInBounds_toArray, List.set_cons_zero, List.set_cons_succ, i64_w, i32_w]
                            rfl
                          refine pure_ (i := 10) (N := some 42) (v := ?_) (a' := ?_) #[true, true, false, false, false, true, true, true, true, true, true, false, false, false] rfl rfl (any_of HT_.out (by kernel_rfl)) (fun _ _ _ h => h) (Or.inl ⟨by rfl, ?_⟩) ?_ ?_
                          rotate_left
                          · intro w'
                            go_simp
                            with_reducible rfl
                          rotate_left
                          · simp only [Act.put, List.setIfInBounds_toArray, List.set_cons_zero, List.set_cons_succ, i64_w, i32_w]
                            rfl
                          refine one_ (i := 2) (N := some 34) #[true, true, true, false, false, true, true, true, true, true, true, false, false, false] rfl rfl (one_of HT_.out (by kernel_rfl)) (by decide) (fun K hK => ?_)
                          refine goes_ Tryd.func15 (by kernel_rfl) rfl #[.int .i64 (wrap64 ((a0.size : Int) - x6_1))] (by rfl) rfl rfl ma ?_
                          with_reducible refine (spec_Hex.calls k1 (wrap64 ((a0.size : Int) - x6_1)) t114 _ A20.out).mono ?_
                          rintro e w29 ⟨rfl, hb⟩
                          refine ⟨_, rfl, ?_⟩
                          replace HB := Aside0.mk (below_step bl hb)
                          (try clear hb)
                          (try clear hb2)
                          (try clear hk)
                          (try clear hi)
                          refine hK.out _ _ trivial (fun hHeld => ?_)
                          clear hK K
                          refine norm_ (a' := ?_) ?_ ?_
                          rotate_left
                          · show Act.put _ (some 34) _ = _
                            simp only [Act.put, List.setIfInBounds_toArray, List.set_cons_zero, List.set_cons_succ, i64_w, i32_w]
                            rfl
                          refine pure_ (i := 3) (N := some 35) (v := ?_) (a' := ?_) #[true, true, true, true, false, true, true, true, true, true, true, false, false, false] rfl rfl (any_of HT_.out (by kernel_rfl)) (fun _ _ _ h => h) (Or.inl ⟨by rfl, ?_⟩) ?_ ?_
                          rotate_left
                          · intro w'
                            go_simp
                            with_reducible rfl
                          rotate_left
                          · simp only [Act.put, List.setIfInBounds_toArray, List.set_cons_zero, List.set_cons_succ, i64_w, i32_w]
                            rfl
                          refine pure_ (i := 4) (N := some 36) (v := ?_) (a' := ?_) #[true, true, true, true, true, true, true, true, true, true, true, false, false, false] rfl rfl (any_of HT_.out (by kernel_rfl)) (fun _ _ _ h => h) (Or.inl ⟨by rfl, ?_⟩) ?_ ?_
                          rotate_left
                          · intro w'
                            go_simp
                            with_reducible rfl
                          rotate_left
                          · simp only [Act.put, List.setIfInBounds_toArray, List.set_cons_zero, List.set_cons_succ, i64_w, i32_w]
                            rfl
                          refine pure_ (i := 11) (N := some 43) (v := ?_) (a' := ?_) #[true, true, true, true, true, true, true, true, true, true, true, true, false, false] rfl rfl (any_of HT_.out (by kernel_rfl)) (fun _ _ _ h => h) (Or.inl ⟨by rfl, ?_⟩) ?_ ?_
                          rotate_left
                          · intro w'
                            go_simp
                            with_reducible rfl
                          rotate_left
                          · simp only [Act.put, List.setIfInBounds_toArray, List.set_cons_zero, List.set_cons_succ, i64_w, i32_w]
                            rfl
                          refine pure_ (i := 12) (N := some 44) (v := ?_) (a' := ?_) #[true, true, true, true, true, true, true, true, true, true, true, true, true, false] rfl rfl (any_of HT_.out (by kernel_rfl)) (fun _ _ _ h => h) (Or.inl ⟨by rfl, ?_⟩) ?_ ?_
                          rotate_left
                          · intro w'
                            go_simp
                            with_reducible rfl
                          rotate_left
                          · simp only [Act.put, List.setIfInBounds_toArray, List.set_cons_zero, List.set_cons_succ, i64_w, i32_w]
                            rfl
                          refine pure_ (i := 13) (N := some 5) (v := ?_) (a' := ?_) #[true, true, true, true, true, true, true, true, true, true, true, true, true, true] rfl rfl (any_of HT_.out (by kernel_rfl)) (fun _ _ _ h => h) (Or.inl ⟨by rfl, ?_⟩) ?_ ?_
                          rotate_left
                          · intro w'
                            go_simp
                            with_reducible rfl
                          rotate_left
                          · simp only [Act.put, List.setIfInBounds_toArray, List.set_cons_zero, List.set_cons_succ, i64_w, i32_w]
                            rfl
                          refine done_ (done_of HT_.out (by kernel_rfl)) ?_
                          try go_wp2
                          go_roundg k1
                          case measure => have := HK1.out; omega
                          case rel => exact ⟨((((x5_1 ++ t114) ++ (⟨#[13, 10]⟩ : ByteArray)) ++ (a0.extract (x6_1 : Int).toNat ((wrap64 (x6_1 + (wrap64 ((a0.size : Int) - x6_1)))) : Int).toNat)) ++ (⟨#[13, 10]⟩ : ByteArray)), (wrap64 (x6_1 + (wrap64 ((a0.size : Int) - x6_1)))), (wrap64 (x7_1 + 1)), (by first | rfl | (simp; done) | (simp [*]; done)), (by first | rfl | (simp; done) | (simp [*]; done)), (by first | rfl | (simp; done) | (simp [*]; done)), H', ⟨by have := HK1.out; omega⟩, ⟨by repeat (first | (with_reducible first | exact HB.out | apply below_alloc | apply pw_below_drewN | apply below_drew1) | exact HB.out)⟩⟩
                        · rw [if_neg c27] at H
                          exact absurd H (by simp)
                      · rw [if_neg c26] at H
                        exact absurd H (by simp)
                    · rw [if_neg c25] at H
                      exact absurd H (by simp)
                  · rw [if_neg c24] at H
                    exact absurd H (by simp)
                · rw [if_neg c23] at H
                  exact absurd H (by simp)
              · rw [if_neg c22] at H
                exact absurd H (by simp)
            · rw [if_neg c21] at H
              exact absurd H (by simp)
          · rw [if_neg c19] at H
            have c19b0 : decide (0 < (wrap64 ((a0.size : Int) - x6_1))) = false := decide_eq_false c19
            clear c19
            have H' := Aside0.mk H
            clear H
            go_wp2
            go_roundg k1
            case measure => have := HK1.out; omega
            case rel => exact ⟨(x5_1), (x6_1), (wrap64 (x7_1 + 1)), (by first | rfl | (simp; done) | (simp [*]; done)), (by first | rfl | (simp; done) | (simp [*]; done)), (by first | rfl | (simp; done) | (simp [*]; done)), H', ⟨by have := HK1.out; omega⟩, ⟨by repeat (first | (with_reducible first | exact HB.out | apply below_alloc | apply pw_below_drewN | apply below_drew1) | exact HB.out)⟩⟩
      · rw [if_neg c3] at H
        have c3b0 : decide (x7_1 ≤ (l1.length : Int)) = false := decide_eq_false c3
        clear c3
        by_cases c30 : x5_1.size + 5 ≤ 9223372036854775807
        · rw [if_pos c30] at H
          have c30b0 := eq_true c30
          have c30b1 : decide (x5_1.size + 5 ≤ 9223372036854775807) = true := decide_eq_true c30
          try have c30b2 : (9223372036854775807 < x5_1.size + 5) = False := eq_false (Nat.not_lt.2 c30)
          obtain rfl := Option.some.inj H
          go_wp2
          go_ret
          exact ⟨rf, bl⟩
        · rw [if_neg c30] at H
          exact absurd H (by simp)

/-! ### laws_toIntS: function 18 -/
def laws_toIntS.l0 : Nat → List Int → List Int → Int → Option (List Int)
  | 0, _, _, _ => none
  | k + 1, x0, x3, x4 => if x4 < (x0.length : Int) then (if 0 ≤ x4 then (if x4 < (x3.length : Int) then (laws_toIntS.l0 k x0 (x3.set (x4 : Int).toNat (rd x0 x4)) (wrap64 (x4 + 1))) else (none)) else (none)) else (some x3)
def laws_toIntS.f (k : Nat) (l0 : List Int) : Option (List Int) := if 0 ≤ (l0.length : Int) then (if ((l0.length : Int) : Int).toNat ≤ 35184372088832 then (laws_toIntS.l0 k l0 (List.replicate ((l0.length : Int) : Int).toNat 0) 0) else (none)) else (none)
theorem laws_toIntS.mono_l : ∀ k, (∀ y0 y1 y2, LeO (laws_toIntS.l0 k y0 y1 y2) (laws_toIntS.l0 (k + 1) y0 y1 y2))
  | 0 => fun _ _ _ r h => by simp [laws_toIntS.l0] at h
  | k + 1 => by
    have ih0 := laws_toIntS.mono_l k
    · intro y0 y1 y2
      unfold laws_toIntS.l0
      repeat' first
      | (with_reducible exact ih0 _ _ _)
      | (with_reducible exact LeO.refl _)
      | (with_reducible exact LeO.none _)
      | (with_reducible refine LeO.ite ?_ ?_)
      | (with_reducible refine LeO.bind ?_ (fun _ => ?_))
      | exact ih0 _ _ _
      | exact LeO.none _
      | refine LeO.ite ?_ ?_
      | refine LeO.bind ?_ (fun _ => ?_)
theorem laws_toIntS.mono : ∀ a0 k, LeO (laws_toIntS.f k a0) (laws_toIntS.f (k + 1) a0) := by
  intro a0 k
  have ih0 := laws_toIntS.mono_l k
  unfold laws_toIntS.f
  repeat' first
      | (with_reducible exact ih0 _ _ _)
      | (with_reducible exact LeO.refl _)
      | (with_reducible exact LeO.none _)
      | (with_reducible refine LeO.ite ?_ ?_)
      | (with_reducible refine LeO.bind ?_ (fun _ => ?_))
      | exact ih0 _ _ _
      | exact LeO.none _
      | refine LeO.ite ?_ ?_
      | refine LeO.bind ?_ (fun _ => ?_)
set_option maxHeartbeats 8000000 in
set_option maxRecDepth 100000 in
theorem laws_toIntS.calls (k : Nat) (A0 : Option Addr) (c0 : Nat) (l0 : List Int) (r : List Int) (w : World) (hr0 : Kd.C (Kd.int .i64) w A0 l0.length l0) (hc0 : l0.length ≤ c0) (h : laws_toIntS.f k l0 = some r) :
    Calls Tryd.prog 18 #[.slice A0 l0.length c0] w fun e w' => ∃ v0_ : Value, e = .returned (v0_) ∧ Kd.R (Kd.int .i64) 3 w' w.heap.size (fun _ => True) v0_ r ∧ Below w.heap.size w w' := by
  have HR0 := Aside0.mk hr0
  have HC0 := Aside0.mk hc0
  clear hr0 hc0
  have HB := Aside0.mk (Below.refl w.heap.size w)
  have H : (if 0 ≤ (l0.length : Int) then (if ((l0.length : Int) : Int).toNat ≤ 35184372088832 then (laws_toIntS.l0 k l0 (List.replicate ((l0.length : Int) : Int).toNat 0) 0) else (none)) else (none)) = some r := h
  clear h
  by_cases c2 : 0 ≤ (l0.length : Int)
  · rw [if_pos c2] at H
    have c2b0 := eq_true c2
    have c2b1 : decide (0 ≤ (l0.length : Int)) = true := decide_eq_true c2
    clear c2
    by_cases c3 : ((l0.length : Int) : Int).toNat ≤ 35184372088832
    · rw [if_pos c3] at H
      have c3b0 := eq_true c3
      have c3b1 : decide (((l0.length : Int) : Int).toNat ≤ 35184372088832) = true := decide_eq_true c3
      clear c3
      obtain ⟨y115, hy115⟩ : ∃ y_ : List Int, y_ = (List.replicate ((l0.length : Int) : Int).toNat 0) := ⟨_, rfl⟩
      replace H : (laws_toIntS.l0 k l0 y115 0) = some r := by first | (rw [hy115]; with_reducible exact H) | (have H2_ := (Option.bind_some _ _).symm.trans H; rw [hy115]; with_reducible exact H2_) | (have H2_ := (Option.bind_some _ _).symm.trans H; with_reducible exact H2_) | with_reducible exact H | (rw [hy115]; exact H) | exact H
      have Ny115 := Aside0.mk hy115
      clear hy115
      have H' := Aside0.mk H
      clear H
      go_enter Tryd.func18, Tryd.ntmps18
      go_wp2_with (first | ((with_reducible refine gate_dst (N := 7) rfl ?_); refine Kd.R_make (Kd.int .i64) _ 3 rfl (N := 7) rfl 24 _ _ rfl (l0.length : Int) rfl rfl Tryd.underlying24 (.int .i64 0) 8 info3 rfl (by decide) (by omega) 0 (ok := fun _ => True) (okp := fun _ => True) rfl (fun _ hk => hk) trivial (of_decide_eq_true (by first | (with_reducible assumption) | assumption)) (Nat.le_trans (Nat.mul_le_mul_right _ (of_decide_eq_true (by first | (with_reducible assumption) | assumption) : (l0.length : Int).toNat ≤ 35184372088832)) (by omega)) (Below.refl _ _) (Nat.le_refl _) ?_; intro v116 w4 ho5 hb hg_ hnew_; clear hg_ hnew_; (first | rw [← Ny115.out] at ho5 | (simp only [Int.reduceToNat] at ho5; rw [← Ny115.out] at ho5)); have HO117 := Aside0.mk (Kd.R_lower ho5 (below_size bl)); replace HB := Aside0.mk (below_step bl hb); clear hb ho5))
      (try simp only [Act.put, List.setIfInBounds_toArray, List.set_cons_zero, List.set_cons_succ])
      go_loopg [4] k (fun kq v4 w' => ∃ (x3_1 : List Int) (x4_1 : Int), v4 = .int .i64 x4_1 ∧ Aside0 (laws_toIntS.l0 kq l0 x3_1 x4_1 = some r) ∧ Aside0 (kq ≤ k) ∧ Aside0 (Kd.R (Kd.int .i64) 3 w' w.heap.size (fun _ => True) v116 x3_1) ∧ Aside0 (Below w.heap.size w w'))
      case atStart => exact ⟨(y115), (0), (by first | rfl | (simp; done) | (simp [*]; done)), H', ⟨Nat.le_refl _⟩, ⟨by (with_reducible repeat (first | apply Kd.R_alloc | apply Kd.R_drewN | apply Kd.R_drew)); exact HO117.out⟩, ⟨by repeat (first | (with_reducible first | exact HB.out | apply below_alloc | apply pw_below_drewN | apply below_drew1) | exact HB.out)⟩⟩
      case round =>
        clear H'
        try clear c1
        try clear c2
        try clear c2b0
        try clear c2b1
        try clear p2
        try clear c3
        try clear c3b0
        try clear c3b1
        obtain ⟨x3_1, x4_1, rfl, HA, HK1, HO_3, HB⟩ := hrel
        cases gk with
        | zero => exact absurd HA.out (by simp [laws_toIntS.l0])
        | succ k1 =>
          have H := HA.out
          clear HA
          simp only [laws_toIntS.l0] at H
          by_cases c6 : x4_1 < (l0.length : Int)
          · rw [if_pos c6] at H
            have c6b0 : decide (x4_1 < (l0.length : Int)) = true := decide_eq_true c6
            clear c6
            by_cases c7 : 0 ≤ x4_1
            · rw [if_pos c7] at H
              have c7b0 : decide (0 ≤ x4_1) = true := decide_eq_true c7
              clear c7
              by_cases c8 : x4_1 < (x3_1.length : Int)
              · rw [if_pos c8] at H
                have c8b0 : decide (x4_1 < (x3_1.length : Int)) = true := decide_eq_true c8
                clear c8
                obtain ⟨y119, hy119⟩ : ∃ y_ : List Int, y_ = (x3_1.set (x4_1 : Int).toNat (rd l0 x4_1)) := ⟨_, rfl⟩
                replace H : (laws_toIntS.l0 k1 l0 y119 (wrap64 (x4_1 + 1))) = some r := by first | (rw [hy119]; with_reducible exact H) | (have H2_ := (Option.bind_some _ _).symm.trans H; rw [hy119]; with_reducible exact H2_) | (have H2_ := (Option.bind_some _ _).symm.trans H; with_reducible exact H2_) | with_reducible exact H | (rw [hy119]; exact H) | exact H
                have Ny119 := Aside0.mk hy119
                clear hy119
                have H' := Aside0.mk H
                clear H
                have p118 : 0 ≤ (x4_1 : Int) := of_decide_eq_true (by first | (with_reducible assumption) | assumption)
                have q118 : x4_1 < (l0.length : Int) := of_decide_eq_true (by first | (with_reducible assumption) | assumption)
                obtain ⟨ad118, e118, hx118_0⟩ := Kd.at_int HR0.out x4_1 p118 q118
                cases e118
                replace hx118_0 := (HB.out.cell (World.block_lt_of_cell? w _ hx118_0)).trans hx118_0
                replace p118 := eq_true p118
                replace q118 := eq_true q118
                have p9 : 0 ≤ (x4_1 : Int) := of_decide_eq_true (by first | (with_reducible assumption) | assumption)
                have q9 : (x4_1 : Int) < ((x3_1.length : Int) : Int) := of_decide_eq_true (by first | (with_reducible assumption) | assumption)
                obtain ⟨go9, co9, eo9, gb9, gl9, cl9, HG9⟩ := Kd.R_form HO_3.out (by omega)
                (first | cases eo9 | (injection eo9 with ea_ en_ ec_; (first | subst ea_ | (injection ea_ with ea_; subst ea_)); subst ec_; clear en_))
                have GB9 := Aside0.mk gb9
                have GG9 := Aside0.mk HG9
                clear gb9 gl9 HG9
                obtain ⟨hx9_0, hf9_0⟩ := Kd.R_celln 0 HO_3.out (x4_1 : Int) p9 q9
                replace p9 := eq_true p9
                replace q9 := eq_true q9
                have HP10 := Kd.R_putg HO_3.out (x4_1 : Int) (rd l0 x4_1)
                go_wp2_with (first | ((with_reducible refine gate_store (t := 3) (p := 20) rfl ?_); refine store_event (t := 3) (p := 20) (v := ?vo_w11) (w1 := (wr.setCell ⟨go9, (x4_1 : Int).toNat, none⟩ (.int .i64 (rd l0 x4_1)))) ?hg ?ho ?hn ?hr ?_; (case ho => rfl); (case hg => rfl); (case hn => rfl); (case hr => first | (go_simp; done) | (go_simp; rfl)); intro w11 hw; have hg : wr.grownBy w11 (some go9) := (by rw [hw]; exact HP10.2); have hp_ : Kd.R (Kd.int .i64) 3 w11 w.heap.size (fun _ => True) (.slice (some ⟨go9, 0, none⟩) x3_1.length co9) y119 := (by rw [hw, Ny119.out]; exact HP10.1); clear HP10; have n0_ := Aside0.mk (hp_); have n1_ := Aside0.mk ((by rw [hw]; exact below_set (HB.out) GB9.out : Below w.heap.size w w11)); clear HO_3; clear HB; have HO_3 := n0_; have HB := n1_; clear n0_ n1_; clear hg hw hp_))
                go_roundg k1
                case measure => have := HK1.out; omega
                case rel => exact ⟨(y119), (wrap64 (x4_1 + 1)), (by first | rfl | (simp; done) | (simp [*]; done)), H', ⟨by have := HK1.out; omega⟩, ⟨by (with_reducible repeat (first | apply Kd.R_alloc | apply Kd.R_drewN | apply Kd.R_drew)); exact HO_3.out⟩, ⟨by repeat (first | (with_reducible first | exact HB.out | apply below_alloc | apply pw_below_drewN | apply below_drew1) | exact HB.out)⟩⟩
              · rw [if_neg c8] at H
                exact absurd H (by simp)
            · rw [if_neg c7] at H
              exact absurd H (by simp)
          · rw [if_neg c6] at H
            have c6b0 : decide (x4_1 < (l0.length : Int)) = false := decide_eq_false c6
            clear c6
            obtain rfl := Option.some.inj H
            go_wp2
            go_ret
            exact ⟨_, rf, by (with_reducible repeat (first | apply Kd.R_alloc | apply Kd.R_drewN | apply Kd.R_drew)); exact HO_3.out, bl⟩
    · rw [if_neg c3] at H
      exact absurd H (by simp)
  · rw [if_neg c2] at H
    exact absurd H (by simp)

/-! ### impl_partText: function 86 -/
def impl_partText.f (a0 : ByteArray) : Option (ByteArray) := (impl_Hex.f (a0.size : Int)).bind fun t120 => (if t120.size + 2 ≤ 9223372036854775807 then (if (t120 ++ (⟨#[13, 10]⟩ : ByteArray)).size + a0.size ≤ 9223372036854775807 then (if ((t120 ++ (⟨#[13, 10]⟩ : ByteArray)) ++ a0).size + 2 ≤ 9223372036854775807 then (some (((t120 ++ (⟨#[13, 10]⟩ : ByteArray)) ++ a0) ++ (⟨#[13, 10]⟩ : ByteArray))) else (none)) else (none)) else (none))
set_option maxHeartbeats 8000000 in
set_option maxRecDepth 100000 in
theorem impl_partText.calls (a0 : ByteArray) (r : ByteArray) (w : World) (hGD : GLOBD w) (h : impl_partText.f a0 = some r) :
    Calls Tryd.prog 86 #[.string a0] w fun e w' => e = .returned (.string r) ∧ Below w.heap.size w w' := by
  have HGD := Aside0.mk hGD
  clear hGD
  have HB := Aside0.mk (Below.refl w.heap.size w)
  have H : ((impl_Hex.f (a0.size : Int)).bind fun t120 => (if t120.size + 2 ≤ 9223372036854775807 then (if (t120 ++ (⟨#[13, 10]⟩ : ByteArray)).size + a0.size ≤ 9223372036854775807 then (if ((t120 ++ (⟨#[13, 10]⟩ : ByteArray)) ++ a0).size + 2 ≤ 9223372036854775807 then (some (((t120 ++ (⟨#[13, 10]⟩ : ByteArray)) ++ a0) ++ (⟨#[13, 10]⟩ : ByteArray))) else (none)) else (none)) else (none))) = some r := h
  clear h
  replace H := Option.bind_eq_some_iff.mp H
  obtain ⟨t120, A20, H⟩ := H
  replace H : (if t120.size + 2 ≤ 9223372036854775807 then (if (t120 ++ (⟨#[13, 10]⟩ : ByteArray)).size + a0.size ≤ 9223372036854775807 then (if ((t120 ++ (⟨#[13, 10]⟩ : ByteArray)) ++ a0).size + 2 ≤ 9223372036854775807 then (some (((t120 ++ (⟨#[13, 10]⟩ : ByteArray)) ++ a0) ++ (⟨#[13, 10]⟩ : ByteArray))) else (none)) else (none)) else (none)) = some r := H
  have A2 := Aside0.mk A20
  clear A20
  by_cases c3 : t120.size + 2 ≤ 9223372036854775807
  · rw [if_pos c3] at H
    have c3b0 := eq_true c3
    have c3b1 : decide (t120.size + 2 ≤ 9223372036854775807) = true := decide_eq_true c3
    try have c3b2 : (9223372036854775807 < t120.size + 2) = False := eq_false (Nat.not_lt.2 c3)
    by_cases c4 : (t120 ++ (⟨#[13, 10]⟩ : ByteArray)).size + a0.size ≤ 9223372036854775807
    · rw [if_pos c4] at H
      have c4b0 := eq_true c4
      have c4b1 : decide ((t120 ++ (⟨#[13, 10]⟩ : ByteArray)).size + a0.size ≤ 9223372036854775807) = true := decide_eq_true c4
      try have c4b2 : (9223372036854775807 < (t120 ++ (⟨#[13, 10]⟩ : ByteArray)).size + a0.size) = False := eq_false (Nat.not_lt.2 c4)
      have c4b3 : (9223372036854775807 < (t120).size + 2 + (a0).size) = False := eq_false (Nat.not_lt.2 (by have h_ := c4; simp only [ByteArray.size_append] at h_; first | exact h_ | (simp only [ByteArray.size_extract] at h_; rw [Nat.min_eq_left (by omega)] at h_; exact h_)))
      by_cases c5 : ((t120 ++ (⟨#[13, 10]⟩ : ByteArray)) ++ a0).size + 2 ≤ 9223372036854775807
      · rw [if_pos c5] at H
        have c5b0 := eq_true c5
        have c5b1 : decide (((t120 ++ (⟨#[13, 10]⟩ : ByteArray)) ++ a0).size + 2 ≤ 9223372036854775807) = true := decide_eq_true c5
        try have c5b2 : (9223372036854775807 < ((t120 ++ (⟨#[13, 10]⟩ : ByteArray)) ++ a0).size + 2) = False := eq_false (Nat.not_lt.2 c5)
        have c5b3 : (9223372036854775807 < (t120).size + 2 + (a0).size + 2) = False := eq_false (Nat.not_lt.2 (by have h_ := c5; simp only [ByteArray.size_append] at h_; first | exact h_ | (simp only [ByteArray.size_extract] at h_; rw [Nat.min_eq_left (by omega)] at h_; exact h_)))
        obtain rfl := Option.some.inj H
        go_enter Tryd.func86, Tryd.ntmps86
        go_wp2_with (first | ((with_reducible refine gate_callee (f := 16) rfl ?_); refine goesL_ (some 5) rfl rfl Tryd.func16 (by kernel_rfl) rfl #[.int .i64 (a0.size : Int)] rfl ma ?_; (with_reducible refine (impl_Hex.calls (a0.size : Int) t120 _ ?side1 A2.out).mono ?_); (case side1 => exact GLOBD.below HGD.out bl); rintro e w6 ⟨rfl, hb⟩; refine ⟨_, rfl, ?_⟩; replace HB := Aside0.mk (below_step bl hb); (try clear hb); (try clear hb2); (try clear hk); (try clear hi)))
        go_ret
        exact ⟨rf, bl⟩
      · rw [if_neg c5] at H
        exact absurd H (by simp)
    · rw [if_neg c4] at H
      exact absurd H (by simp)
  · rw [if_neg c3] at H
    exact absurd H (by simp)

/-! ### impl.ChunkText: through a strings.Builder -/
def partBytes (p : ByteArray) : List UInt8 := (if p.size ≤ 1000000 then hexDs p.size else []) ++ ([13, 10] ++ (p.data.toList ++ [13, 10]))
def ckBytes : List Int → ByteArray → List UInt8
  | [], b => if b.toList = [] then [] else partBytes b
  | s :: r, b => if s < 1 then ckBytes r b else if b.toList = [] then ckBytes r b else partBytes (b.extract 0 (min s b.size).toNat) ++ ckBytes r (b.extract (min s b.size).toNat b.size)
theorem ckBytes_nil (b : ByteArray) : ckBytes [] b = if b.toList = [] then [] else partBytes b := by rw [ckBytes]
theorem ckBytes_cons (s : Int) (r : List Int) (b : ByteArray) : ckBytes (s :: r) b = if s < 1 then ckBytes r b else if b.toList = [] then ckBytes r b else partBytes (b.extract 0 (min s b.size).toNat) ++ ckBytes r (b.extract (min s b.size).toNat b.size) := by rw [ckBytes]
theorem hexDs_len (u : Nat) : ∀ d, u < 16 ^ (d + 1) → (hexDs u).length ≤ d + 1 := by
  intro d
  induction d generalizing u with
  | zero => intro h; rw [hexDs, dif_pos (by omega)]; simp
  | succ d ih =>
    intro h
    rw [hexDs]
    split
    · simp
    · have h16 : (16 : Nat) ^ (d + 1 + 1) = 16 ^ (d + 1) * 16 := rfl
      have := ih (u / 16) (by omega)
      simp only [List.length_append, List.length_cons, List.length_nil]; omega
theorem partBytes_len (p : ByteArray) : (partBytes p).length ≤ p.size + 9 := by
  unfold partBytes
  simp only [List.length_append, List.length_cons, List.length_nil, data_length]
  split
  · have := hexDs_len p.size 4 (by omega); omega
  · simp; omega
theorem partText_is (p : ByteArray) (hp : p.size ≤ 4294967296) : impl_partText.f p = some ⟨(partBytes p).toArray⟩ := by
  have e : ∀ x : ByteArray, (x = ⟨#[]⟩ ∧ ¬ p.size ≤ 1000000 ∨ x = ⟨(hexDs p.size).toArray⟩ ∧ p.size ≤ 1000000) → impl_Hex.f (p.size : Int) = some x → impl_partText.f p = some ⟨(partBytes p).toArray⟩ := by
    intro x hx hh
    have hxs : x.size ≤ 5 := by
      rcases hx with ⟨rfl, _⟩ | ⟨rfl, h⟩
      · exact Nat.zero_le _
      · have := hexDs_len p.size 4 (by omega)
        rw [← data_length]; simpa using this
    have s2 : (⟨#[13, 10]⟩ : ByteArray).size = 2 := rfl
    unfold impl_partText.f
    rw [hh, Option.bind_some, if_pos (by omega), if_pos (by simp only [ByteArray.size_append, s2]; omega), if_pos (by simp only [ByteArray.size_append, s2]; omega)]
    refine congrArg some ?_
    have ext : ∀ a b : ByteArray, a.data.toList = b.data.toList → a = b := fun a b h => by cases a with | mk a => cases b with | mk b => simp at h; rw [h]
    apply ext
    unfold partBytes
    simp only [ByteArray.data_append, Array.toList_append, List.append_assoc]
    rcases hx with ⟨rfl, h⟩ | ⟨rfl, h⟩
    · rw [if_neg h]
    · rw [if_pos h]
  by_cases h : p.size ≤ 1000000
  · refine e _ (.inr ⟨rfl, h⟩) ?_
    unfold impl_Hex.f impl_inRange.f strconv_FormatInt.f
    rw [if_pos (by omega), Option.bind_some, if_pos (decide_eq_true (by omega)), if_pos ⟨by omega, by omega, rfl⟩, Option.bind_some, Int.toNat_natCast]
  · refine e _ (.inl ⟨rfl, h⟩) ?_
    unfold impl_Hex.f impl_inRange.f
    rw [if_pos (by omega), Option.bind_some, if_neg (by simp; omega)]
def impl_ChunkText.f (a0 : ByteArray) (l1 : List Int) : Option ByteArray := if l1.length < 8796093022208 ∧ a0.size ≤ 4294967296 ∧ (ckBytes l1 a0).length ≤ 1099511627776 then some ⟨(ckBytes l1 a0 ++ [48, 13, 10, 13, 10]).toArray⟩ else none
set_option maxHeartbeats 8000000 in
set_option maxRecDepth 100000 in
theorem impl_ChunkText.calls (a0 : ByteArray) (A1 : Option Addr) (c1 : Nat) (l1 : List Int) (r : ByteArray) (w : World) (hGD : GLOBD w) (hr1 : Kd.C (Kd.int .i64) w A1 l1.length l1) (hc1 : l1.length ≤ c1) (h : impl_ChunkText.f a0 l1 = some r) :
    Calls Tryd.prog 19 #[.string a0, .slice A1 l1.length c1] w fun e w' => e = .returned (.string r) ∧ Below w.heap.size w w' := by
  unfold impl_ChunkText.f at h
  split at h
  case isFalse => cases h
  rename_i hl
  obtain rfl := Option.some.inj h
  have HN := Aside0.mk hl
  have HR := Aside0.mk hr1
  have HGD := Aside0.mk hGD
  clear h hl hr1 hc1 hGD
  have HF := Aside0.mk (Lib.fresh_isBuilder 100 5 w)
  go_enter Tryd.func19, Tryd.ntmps19
  go_wp2
  go_loopw [0, 11] (fun vb i wr => ∃ (k : Nat) (b : ByteArray) (D : List UInt8), k ≤ l1.length ∧ i = .int .i64 k ∧ vb = .string b ∧ b.size ≤ a0.size ∧ Aside0 (D ++ ckBytes (l1.drop k) b = ckBytes l1 a0) ∧ Aside0 (Lib.IsBuilder 100 5 w.heap.size w.heap.size (Lib.byteCells D) wr) ∧ Aside0 (Below w.heap.size w wr)) (fun _ i _ => l1.length - (intOf i).toNat)
  case atStart => exact ⟨0, a0, [], Nat.zero_le _, rfl, rfl, Nat.le_refl _, ⟨rfl⟩, HF, ⟨(Below.refl _ _).alloc (Nat.le_refl _) _⟩⟩
  case round =>
    obtain ⟨k, b, D, hk, rfl, rfl, hb0, HE, hr, HB⟩ := hrel
    have hk2 : ((k : Nat) : Int) ≤ 4611686018427387904 := by have := HN.out.1; omega
    have hbs : (b.size : Int) ≤ 4294967296 := by have := HN.out.2.1; omega
    have HBS := Aside0.mk hb0
    clear hb0
    by_cases hlt : k < l1.length
    · obtain ⟨ad, e1, hx0⟩ := Kd.at_int HR.out (k : Int) (by omega) (by omega)
      cases e1
      have hrd : rd l1 (k : Int) = l1[k] := by simp [rd, List.getD, hlt]
      rw [hrd, Int.toNat_natCast] at hx0
      replace hx0 := pw_cell_below HB.out hx0
      have hdr : l1.drop k = l1[k] :: l1.drop (k + 1) := List.drop_eq_getElem_cons hlt
      obtain ⟨s, hs⟩ : ∃ s, s = l1[k] := ⟨_, rfl⟩
      rw [← hs] at hx0 hdr
      have HDR := Aside0.mk hdr
      have HEE := HE.out
      rw [hdr] at HEE
      clear hs hdr hrd HE
      by_cases c1 : s < 1
      · have HE2 := Aside0.mk (show D ++ ckBytes (l1.drop (k + 1)) b = ckBytes l1 a0 by rw [ckBytes_cons, if_pos c1] at HEE; exact HEE)
        have c1b : decide (s < 1) = true := decide_eq_true c1
        clear HEE c1
        go_wp2
        go_roundw
        case rel => exact ⟨k + 1, b, D, by omega, by go_num, rfl, HBS.out, HE2, hr, HB⟩
        case measure => simp [intOf]; omega
      · have c1b : decide (s < 1) = false := decide_eq_false c1
        by_cases c2 : b.toList = []
        · have HE2 := Aside0.mk (show D ++ ckBytes (l1.drop (k + 1)) b = ckBytes l1 a0 by rw [ckBytes_cons, if_neg c1, if_pos c2] at HEE; exact HEE)
          have c2b : (b.toList == ([] : List UInt8)) = true := beq_iff_eq.mpr c2
          clear HEE c1 c2
          go_wp2
          go_roundw
          case rel => exact ⟨k + 1, b, D, by omega, by go_num, rfl, HBS.out, HE2, hr, HB⟩
          case measure => simp [intOf]; omega
        · have c2b : (b.toList == ([] : List UInt8)) = false := beq_eq_false_iff_ne.mpr c2
          rw [ckBytes_cons, if_neg c1, if_neg c2] at HEE
          by_cases c3 : s ≤ (b.size : Int)
          · obtain ⟨m, rfl⟩ : ∃ m : Nat, s = (m : Int) := ⟨s.toNat, by omega⟩
            have hm : (min (m : Int) (b.size : Int)).toNat = m := by omega
            rw [hm] at HEE
            have hm3 : (m : Int) ≤ (b.size : Int) := c3
            have HEE2 := Aside0.mk HEE
            clear HEE c1 c2 hm c3
            have hpt := Aside0.mk (partText_is (b.extract 0 m) (by rw [ByteArray.size_extract]; have := HBS.out; have := HN.out.2.1; omega))
            have hlen : D.length + (partBytes (b.extract 0 m)).length ≤ 1099511627776 := by
              have h1 := congrArg List.length HEE2.out
              simp only [List.length_append] at h1
              have := HN.out.2.2
              omega
            have HLEN := Aside0.mk hlen
            clear hlen
            go_wp2_with (first | (go_at_call 86; refine (impl_partText.calls _ _ _ (GLOBD.below HGD.out HB.out) hpt.out).mono ?_; rintro e w2 ⟨rfl, hb2⟩; have HR2 := Aside0.mk (bld_below hr.out hb2); have HB2 := Aside0.mk (below_step HB.out hb2); clear hb2) | (go_at_call 85; refine (bldWrite w.heap.size w.heap.size _ _ _ HR2.out (by rw [Lib.byteCells_length, ← data_length, List.toList_toArray]; have := HLEN.out; omega) HB2.out.size).mono ?_; rintro e w3 ⟨rfl, h3, hb3⟩; rw [Lib.strCells_eq, ← Lib.byteCells_append, List.toList_toArray] at h3; have H3 := Aside0.mk h3; have HB3 := Aside0.mk (HB2.out.trans hb3); clear h3 hb3))
            go_roundw
            case rel => exact ⟨k + 1, b.extract m b.size, D ++ partBytes (b.extract 0 m), by omega, by go_num, rfl, by have := HBS.out; rw [ByteArray.size_extract]; omega, ⟨by rw [List.append_assoc]; exact HEE2.out⟩, ⟨.inr H3.out⟩, HB3⟩
            case measure => simp [intOf]; omega
          · have hm : (min s (b.size : Int)).toNat = b.size := by omega
            have hz : b.extract b.size b.size = ByteArray.empty := ByteArray.size_eq_zero_iff.1 (by rw [ByteArray.size_extract]; omega)
            rw [hm, ByteArray.extract_zero_size, hz] at HEE
            have hm3 : (b.size : Int) < s := by omega
            have HEE2 := Aside0.mk HEE
            clear HEE c1 c2 hm c3 hz
            have hpt := Aside0.mk (partText_is b (by have := HBS.out; have := HN.out.2.1; omega))
            have hlen : D.length + (partBytes b).length ≤ 1099511627776 := by
              have h1 := congrArg List.length HEE2.out
              simp only [List.length_append] at h1
              have := HN.out.2.2
              omega
            have HLEN := Aside0.mk hlen
            clear hlen
            go_wp2_with (first | (go_at_call 86; refine (impl_partText.calls _ _ _ (GLOBD.below HGD.out HB.out) hpt.out).mono ?_; rintro e w2 ⟨rfl, hb2⟩; have HR2 := Aside0.mk (bld_below hr.out hb2); have HB2 := Aside0.mk (below_step HB.out hb2); clear hb2) | (go_at_call 85; refine (bldWrite w.heap.size w.heap.size _ _ _ HR2.out (by rw [Lib.byteCells_length, ← data_length, List.toList_toArray]; have := HLEN.out; omega) HB2.out.size).mono ?_; rintro e w3 ⟨rfl, h3, hb3⟩; rw [Lib.strCells_eq, ← Lib.byteCells_append, List.toList_toArray] at h3; have H3 := Aside0.mk h3; have HB3 := Aside0.mk (HB2.out.trans hb3); clear h3 hb3))
            go_roundw
            case rel => exact ⟨k + 1, ByteArray.empty, D ++ partBytes b, by omega, by go_num, rfl, Nat.zero_le _, ⟨by rw [List.append_assoc]; exact HEE2.out⟩, ⟨.inr H3.out⟩, HB3⟩
            case measure => simp [intOf]; omega
    · have hkk : k = l1.length := by omega
      have HEE := HE.out
      rw [hkk, List.drop_length, ckBytes_nil] at HEE
      clear hkk HE
      have fin : ∀ X : List UInt8, X.length ≤ 1099511627776 → (⟨X.toArray⟩ : ByteArray) ++ (⟨#[48]⟩ : ByteArray) ++ (⟨#[13, 10, 13, 10]⟩ : ByteArray) = ⟨(X ++ [48, 13, 10, 13, 10]).toArray⟩ := fun X _ => by
        have ext : ∀ a b : ByteArray, a.data.toList = b.data.toList → a = b := fun a b h => by cases a with | mk a => cases b with | mk b => simp at h; rw [h]
        apply ext
        simp only [ByteArray.data_append, Array.toList_append, List.append_assoc]
        rfl
      have FIN := Aside0.mk fin
      clear fin
      have sz : ∀ X : List UInt8, (⟨X.toArray⟩ : ByteArray).size = X.length := fun X => by rw [← data_length]
      have SZ := Aside0.mk sz
      clear sz
      by_cases c2 : b.toList = []
      · rw [if_pos c2, List.append_nil] at HEE
        have HEE2 := Aside0.mk HEE
        have c2b : (b.toList == ([] : List UInt8)) = true := beq_iff_eq.mpr c2
        have hd0 : D.length ≤ 1099511627776 := by rw [HEE]; exact HN.out.2.2
        have hd1 : D.length + 1 ≤ 9223372036854775807 := by omega
        have hd2 : D.length + 1 + 4 ≤ 9223372036854775807 := by omega
        clear HEE c2 hd0
        go_wp2_with (first | (go_at_call 87; refine (Tryd.Builder_String_any w.heap.size w.heap.size _ _ hr.out HB.out.size).mono ?_; rintro e w2 ⟨rfl, hb2⟩; have HB2 := Aside0.mk (HB.out.trans hb2); clear hb2))
        go_ret
        exact ⟨by rw [FIN.out D (by rw [HEE2.out]; exact HN.out.2.2), HEE2.out]; rfl, HB2.out⟩
      · rw [if_neg c2] at HEE
        have HEE2 := Aside0.mk HEE
        have c2b : (b.toList == ([] : List UInt8)) = false := beq_eq_false_iff_ne.mpr c2
        have hpt := Aside0.mk (partText_is b (by have := HBS.out; have := HN.out.2.1; omega))
        have hlen : D.length + (partBytes b).length ≤ 1099511627776 := by
          have h1 := congrArg List.length HEE2.out
          simp only [List.length_append] at h1
          have := HN.out.2.2
          omega
        have hd1 : D.length + (partBytes b).length + 1 ≤ 9223372036854775807 := by omega
        have hd2 : D.length + (partBytes b).length + 1 + 4 ≤ 9223372036854775807 := by omega
        have HLEN := Aside0.mk hlen
        clear HEE c2 hlen
        go_wp2_with (first | (go_at_call 86; refine (impl_partText.calls _ _ _ (GLOBD.below HGD.out HB.out) hpt.out).mono ?_; rintro e w2 ⟨rfl, hb2⟩; have HR2 := Aside0.mk (bld_below hr.out hb2); have HB2 := Aside0.mk (below_step HB.out hb2); clear hb2) | (go_at_call 85; refine (bldWrite w.heap.size w.heap.size _ _ _ HR2.out (by rw [Lib.byteCells_length, ← data_length, List.toList_toArray]; have := HLEN.out; omega) HB2.out.size).mono ?_; rintro e w3 ⟨rfl, h3, hb3⟩; rw [Lib.strCells_eq, ← Lib.byteCells_append, List.toList_toArray] at h3; have H3 := Aside0.mk h3; have HB3 := Aside0.mk (HB2.out.trans hb3); clear h3 hb3) | (go_at_call 87; refine (Tryd.Builder_String_any w.heap.size w.heap.size _ _ (.inr H3.out) HB3.out.size).mono ?_; rintro e w4 ⟨rfl, hb4⟩; have HB4 := Aside0.mk (HB3.out.trans hb4); clear hb4))
        go_ret
        exact ⟨by rw [FIN.out (D ++ partBytes b) (by rw [HEE2.out]; exact HN.out.2.2), HEE2.out]; rfl, HB4.out⟩

/-! ### laws_eqIntS: function 20 -/
def laws_eqIntS.l0 : Nat → List Int → List Int → Int → Option (Bool)
  | 0, _, _, _ => none
  | k + 1, x0, x1, x5 => if x5 < (x0.length : Int) then (if 0 ≤ x5 then (if x5 < (x1.length : Int) then (if (rd x0 x5) = (rd x1 x5) then (laws_eqIntS.l0 k x0 x1 (wrap64 (x5 + 1))) else (some false)) else (none)) else (none)) else (some true)
def laws_eqIntS.f (k : Nat) (l0 : List Int) (l1 : List Int) : Option (Bool) := if (l0.length : Int) = (l1.length : Int) then (laws_eqIntS.l0 k l0 l1 0) else (some false)
theorem laws_eqIntS.mono_l : ∀ k, (∀ y0 y1 y2, LeO (laws_eqIntS.l0 k y0 y1 y2) (laws_eqIntS.l0 (k + 1) y0 y1 y2))
  | 0 => fun _ _ _ r h => by simp [laws_eqIntS.l0] at h
  | k + 1 => by
    have ih0 := laws_eqIntS.mono_l k
    · intro y0 y1 y2
      unfold laws_eqIntS.l0
      repeat' first
      | (with_reducible exact ih0 _ _ _)
      | (with_reducible exact LeO.refl _)
      | (with_reducible exact LeO.none _)
      | (with_reducible refine LeO.ite ?_ ?_)
      | (with_reducible refine LeO.bind ?_ (fun _ => ?_))
      | exact ih0 _ _ _
      | exact LeO.none _
      | refine LeO.ite ?_ ?_
      | refine LeO.bind ?_ (fun _ => ?_)
theorem laws_eqIntS.mono : ∀ a0 a1 k, LeO (laws_eqIntS.f k a0 a1) (laws_eqIntS.f (k + 1) a0 a1) := by
  intro a0 a1 k
  have ih0 := laws_eqIntS.mono_l k
  unfold laws_eqIntS.f
  repeat' first
      | (with_reducible exact ih0 _ _ _)
      | (with_reducible exact LeO.refl _)
      | (with_reducible exact LeO.none _)
      | (with_reducible refine LeO.ite ?_ ?_)
      | (with_reducible refine LeO.bind ?_ (fun _ => ?_))
      | exact ih0 _ _ _
      | exact LeO.none _
      | refine LeO.ite ?_ ?_
      | refine LeO.bind ?_ (fun _ => ?_)
set_option maxHeartbeats 8000000 in
set_option maxRecDepth 100000 in
theorem laws_eqIntS.calls (k : Nat) (A0 : Option Addr) (c0 : Nat) (l0 : List Int) (A1 : Option Addr) (c1 : Nat) (l1 : List Int) (r : Bool) (w : World) (hr0 : Kd.C (Kd.int .i64) w A0 l0.length l0) (hc0 : l0.length ≤ c0) (hr1 : Kd.C (Kd.int .i64) w A1 l1.length l1) (hc1 : l1.length ≤ c1) (h : laws_eqIntS.f k l0 l1 = some r) :
    Calls Tryd.prog 20 #[.slice A0 l0.length c0, .slice A1 l1.length c1] w fun e w' => e = .returned (.bool r) ∧ Drawn0 w w' := by
  have HR0 := Aside0.mk hr0
  have HC0 := Aside0.mk hc0
  clear hr0 hc0
  have HR1 := Aside0.mk hr1
  have HC1 := Aside0.mk hc1
  clear hr1 hc1
  have H : (if (l0.length : Int) = (l1.length : Int) then (laws_eqIntS.l0 k l0 l1 0) else (some false)) = some r := h
  clear h
  by_cases c3 : (l0.length : Int) = (l1.length : Int)
  · rw [if_pos c3] at H
    have c3b0 : ((l0.length : Int) == (l1.length : Int)) = true := beq_iff_eq.mpr c3
    have c3b1 : ((l0.length : Int) != (l1.length : Int)) = false := bne_eq_false_iff_eq.mpr c3
    have c3b2 : (l0.length == l1.length) = true := by first | simpa using c3 | (simp at c3 ⊢; omega)
    clear c3
    have H' := Aside0.mk H
    clear H
    go_enter Tryd.func20, Tryd.ntmps20
    go_wp2
    repeat (go_quiet (fail); try go_wp2)
    (try simp only [Act.put, List.setIfInBounds_toArray, List.set_cons_zero, List.set_cons_succ])
    go_loopg [5] k (fun kq v5 w' => ∃ (x5_1 : Int), v5 = .int .i64 x5_1 ∧ Aside0 (laws_eqIntS.l0 kq l0 l1 x5_1 = some r) ∧ Aside0 (kq ≤ k) ∧ Drawn0 w w')
    case atStart => exact ⟨(0), (by first | rfl | (simp; done) | (simp [*]; done)), H', ⟨Nat.le_refl _⟩, by repeat (first | exact Drawn0.refl _ | apply Drawn0.step)⟩
    case round =>
      clear H'
      try clear c1
      try clear c2
      try clear p2
      try clear c3
      try clear c3b0
      try clear c3b1
      try clear c3b2
      obtain ⟨x5_1, rfl, HA, HK1, ⟨m1, rfl⟩⟩ := hrel
      cases gk with
      | zero => exact absurd HA.out (by simp [laws_eqIntS.l0])
      | succ k1 =>
        have H := HA.out
        clear HA
        simp only [laws_eqIntS.l0] at H
        by_cases c4 : x5_1 < (l0.length : Int)
        · rw [if_pos c4] at H
          have c4b0 : decide (x5_1 < (l0.length : Int)) = true := decide_eq_true c4
          clear c4
          by_cases c5 : 0 ≤ x5_1
          · rw [if_pos c5] at H
            have c5b0 : decide (0 ≤ x5_1) = true := decide_eq_true c5
            clear c5
            by_cases c6 : x5_1 < (l1.length : Int)
            · rw [if_pos c6] at H
              have c6b0 : decide (x5_1 < (l1.length : Int)) = true := decide_eq_true c6
              clear c6
              by_cases c7 : (rd l0 x5_1) = (rd l1 x5_1)
              · rw [if_pos c7] at H
                have c7b0 : ((rd l0 x5_1) == (rd l1 x5_1)) = true := beq_iff_eq.mpr c7
                have c7b1 : ((rd l0 x5_1) != (rd l1 x5_1)) = false := bne_eq_false_iff_eq.mpr c7
                clear c7
                have H' := Aside0.mk H
                clear H
                have p121 : 0 ≤ (x5_1 : Int) := of_decide_eq_true (by first | (with_reducible assumption) | assumption)
                have q121 : x5_1 < (l0.length : Int) := of_decide_eq_true (by first | (with_reducible assumption) | assumption)
                obtain ⟨ad121, e121, hx121_0⟩ := Kd.at_int HR0.out x5_1 p121 q121
                cases e121
                replace p121 := eq_true p121
                replace q121 := eq_true q121
                have p122 : 0 ≤ (x5_1 : Int) := of_decide_eq_true (by first | (with_reducible assumption) | assumption)
                have q122 : x5_1 < (l1.length : Int) := of_decide_eq_true (by first | (with_reducible assumption) | assumption)
                obtain ⟨ad122, e122, hx122_0⟩ := Kd.at_int HR1.out x5_1 p122 q122
                cases e122
                replace p122 := eq_true p122
                replace q122 := eq_true q122
                go_wp2
                repeat (go_quiet (fail); try go_wp2)
                go_roundg k1
                case measure => have := HK1.out; omega
                case rel => exact ⟨(wrap64 (x5_1 + 1)), (by first | rfl | (simp; done) | (simp [*]; done)), H', ⟨by have := HK1.out; omega⟩, by repeat (first | exact Drawn0.refl _ | apply Drawn0.step)⟩
              · rw [if_neg c7] at H
                have c7b0 : ((rd l0 x5_1) == (rd l1 x5_1)) = false := beq_eq_false_iff_ne.mpr c7
                have c7b1 : ((rd l0 x5_1) != (rd l1 x5_1)) = true := bne_iff_ne.mpr c7
                obtain rfl := Option.some.inj H
                have p121 : 0 ≤ (x5_1 : Int) := of_decide_eq_true (by first | (with_reducible assumption) | assumption)
                have q121 : x5_1 < (l0.length : Int) := of_decide_eq_true (by first | (with_reducible assumption) | assumption)
                obtain ⟨ad121, e121, hx121_0⟩ := Kd.at_int HR0.out x5_1 p121 q121
                cases e121
                replace p121 := eq_true p121
                replace q121 := eq_true q121
                have p122 : 0 ≤ (x5_1 : Int) := of_decide_eq_true (by first | (with_reducible assumption) | assumption)
                have q122 : x5_1 < (l1.length : Int) := of_decide_eq_true (by first | (with_reducible assumption) | assumption)
                obtain ⟨ad122, e122, hx122_0⟩ := Kd.at_int HR1.out x5_1 p122 q122
                cases e122
                replace p122 := eq_true p122
                replace q122 := eq_true q122
                go_wp2
                repeat (go_quiet (fail); try go_wp2)
                go_ret
                exact ⟨by first | rfl | (simp; done) | (simp [*]; done), by repeat (first | exact Drawn0.refl _ | apply Drawn0.step)⟩
            · rw [if_neg c6] at H
              exact absurd H (by simp)
          · rw [if_neg c5] at H
            exact absurd H (by simp)
        · rw [if_neg c4] at H
          have c4b0 : decide (x5_1 < (l0.length : Int)) = false := decide_eq_false c4
          clear c4
          obtain rfl := Option.some.inj H
          go_wp2
          repeat (go_quiet (fail); try go_wp2)
          go_ret
          exact ⟨by first | rfl | (simp; done) | (simp [*]; done), by repeat (first | exact Drawn0.refl _ | apply Drawn0.step)⟩
  · rw [if_neg c3] at H
    have c3b0 : ((l0.length : Int) == (l1.length : Int)) = false := beq_eq_false_iff_ne.mpr c3
    have c3b1 : ((l0.length : Int) != (l1.length : Int)) = true := bne_iff_ne.mpr c3
    have c3b2 : (l0.length == l1.length) = false := by first | simpa using c3 | (simp at c3 ⊢; omega)
    obtain rfl := Option.some.inj H
    go_enter Tryd.func20, Tryd.ntmps20
    go_wp2
    repeat (go_quiet (fail); try go_wp2)
    go_ret
    exact ⟨by first | rfl | (simp; done) | (simp [*]; done), by repeat (first | exact Drawn0.refl _ | apply Drawn0.step)⟩

end Go.Proofs.YtogdmlgbdbgpkaaDoor.All
