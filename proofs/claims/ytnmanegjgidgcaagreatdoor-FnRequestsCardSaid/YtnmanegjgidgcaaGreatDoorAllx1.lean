-- Written by a program of this session (wip/tools/hprint.py) out of the translation. Lean checks it.
import Derived.Test.YtnmanegjgidgcaaGreatDoorAllx0
namespace Go.Proofs.YtnmanegjgidgcaaGreatDoor.All
open Go.RowKit Go.Proofs.YtnmanegjgidgcaaGreatDoorW.PrintWords Go.Proofs.YtnmanegjgidgcaaGreatDoorW.PrintLast Go.Proofs.YtnmanegjgidgcaaGreatDoorW.PrintMore
attribute [local go_sem] max2_int min2_int max_two min_two max_three min_three max_four min_four   -- for this text's walks alone
set_option linter.unusedVariables false
set_option linter.unusedSimpArgs false

/-! #### words -/
theorem eqA100 (d : Nat) (w : World) (x0 y0 : ByteArray) (x1 y1 : ByteArray) :
  (Op.equalIn (d + 2) 100 (.agg #[.string x0, .string x1]) (.agg #[.string y0, .string y1])).run Tryz.prog w = .ok (x0.toList == y0.toList && (x1.toList == y1.toList)) w := by
 refine eqA_of Tryz.underlying100 (by kernel_rfl) ?_
 refine eqf_cons (by rfl) (by go_simp; rfl) (by go_simp; rfl) (by go_simp) ?_
 exact eqf_last (by rfl) (by go_simp; rfl) (by go_simp; rfl) (by go_simp)

/-! ### laws_sameFields: function 24 -/
attribute [local go_sem high] eqA100
def laws_sameFields.l0 : Nat → List (S100) → List (S100) → Int → Option (Bool)
 | 0, _, _, _ => none
 | k + 1, x0, x1, x5 => if x5 < (x0.length : Int) then (if 0 ≤ x5 then (if x5 < (x1.length : Int) then (if (!((((rd_T100 x0 x5).f0).toList) == (((rd_T100 x1 x5).f0).toList)) || (!((((rd_T100 x0 x5).f1).toList) == (((rd_T100 x1 x5).f1).toList)))) = true then (some false) else (laws_sameFields.l0 k x0 x1 (wrap64 (x5 + 1)))) else (none)) else (none)) else (some true)
def laws_sameFields.f (k : Nat) (l0 : List (S100)) (l1 : List (S100)) : Option (Bool) := if (l0.length : Int) = (l1.length : Int) then (laws_sameFields.l0 k l0 l1 0) else (some false)
theorem laws_sameFields.mono_l : ∀ k, (∀ y0 y1 y2, LeO (laws_sameFields.l0 k y0 y1 y2) (laws_sameFields.l0 (k + 1) y0 y1 y2))
 | 0 => fun _ _ _ r h => by simp [laws_sameFields.l0] at h
 | k + 1 => by
  have ih0 := laws_sameFields.mono_l k
  ·intro y0 y1 y2
   unfold laws_sameFields.l0
   exact mo
theorem laws_sameFields.mono : ∀ a0 a1 k, LeO (laws_sameFields.f k a0 a1) (laws_sameFields.f (k + 1) a0 a1) := by
 intro a0 a1 k
 have ih0 := laws_sameFields.mono_l k
 unfold laws_sameFields.f
 exact mo
set_option maxHeartbeats 8000000 in
set_option maxRecDepth 100000 in
theorem laws_sameFields.calls (k : Nat) (A0 : Option Addr) (c0 : Nat) (l0 : List (S100)) (A1 : Option Addr) (c1 : Nat) (l1 : List (S100)) (r : Bool) (w : World) (hr0 : Kd.C k100 w A0 l0.length l0) (hc0 : l0.length ≤ c0) (hr1 : Kd.C k100 w A1 l1.length l1) (hc1 : l1.length ≤ c1) (h : laws_sameFields.f k l0 l1 = some r) :
  Calls Tryz.prog 24 #[.slice A0 l0.length c0, .slice A1 l1.length c1] w fun e w' => e = .returned (.bool r) ∧ Drawn0 w w' := by
 have hu100 := Tryz.underlying100
 have HR0 := am hr0
 have HC0 := am hc0
 clear hr0 hc0
 have HR1 := am hr1
 have HC1 := am hc1
 clear hr1 hc1
 unfold laws_sameFields.f at h
 have H := h
 clear h
 by_cases c3 : (l0.length : Int) = (l1.length : Int)
 rotate_left
 ·rw [if_neg c3] at H
  have c3b0 : ((l0.length : Int) == (l1.length : Int)) = false := beq_eq_false_iff_ne.mpr c3
  have c3b1 : ((l0.length : Int) != (l1.length : Int)) = true := bne_iff_ne.mpr c3
  have c3b2 : (l0.length == l1.length) = false := by first | simpa using c3 | (simp at c3 ⊢; omega)
  obtain rfl := Option.some.inj H
  go_enter Tryz.func24, Tryz.ntmps24
  go_wp2
  repeat (go_quiet (fail); try go_wp2)
  go_ret
  exact ⟨rs, dr⟩
 rw [if_pos c3] at H
 have c3b0 : ((l0.length : Int) == (l1.length : Int)) = true := beq_iff_eq.mpr c3
 have c3b1 : ((l0.length : Int) != (l1.length : Int)) = false := bne_eq_false_iff_eq.mpr c3
 have c3b2 : (l0.length == l1.length) = true := by first | simpa using c3 | (simp at c3 ⊢; omega)
 clear c3
 have H' := am H
 clear H
 go_enter Tryz.func24, Tryz.ntmps24
 go_wp2
 repeat (go_quiet (fail); try go_wp2)
 (try simp only [Act.put, List.setIfInBounds_toArray, List.set_cons_zero, List.set_cons_succ])
 go_loopg [5] k (fun kq v5 w' => ∃ (x5_1 : Int), v5 = .int .i64 x5_1 ∧ Aside0 (laws_sameFields.l0 kq l0 l1 x5_1 = some r) ∧ Aside0 (kq ≤ k) ∧ Drawn0 w w')
 case atStart => exact ⟨(0), rs, H', ⟨Nat.le_refl _⟩, dr⟩
 case round =>
  clear H'
  try clear c1
  try clear c2
  try clear p2
  try clear c3
  try clear c3b0
  try clear c3b1
  try clear c3b2
  obtain ⟨x5_1, rfl, HA, HK1, ⟨m1, rfl⟩⟩ := hrel
  cases gk with
  | zero => exact absurd HA.out (by simp [laws_sameFields.l0])
  | succ k1 =>
   have H := HA.out
   clear HA
   simp only [laws_sameFields.l0] at H
   by_cases c4 : x5_1 < (l0.length : Int)
   rotate_left
   ·rw [if_neg c4] at H
    have c4b0 := decide_eq_false c4
    clear c4
    obtain rfl := Option.some.inj H
    go_wp2
    repeat (go_quiet (fail); try go_wp2)
    go_ret
    exact ⟨rs, dr⟩
   rw [if_pos c4] at H
   have c4b0 := decide_eq_true c4
   clear c4
   revert H
   refine ifn fun c5 H => ?_
   have c5b0 := decide_eq_true c5
   clear c5
   revert H
   refine ifn fun c6 H => ?_
   have c6b0 := decide_eq_true c6
   clear c6
   by_cases c7 : (!((((rd_T100 l0 x5_1).f0).toList) == (((rd_T100 l1 x5_1).f0).toList)) || (!((((rd_T100 l0 x5_1).f1).toList) == (((rd_T100 l1 x5_1).f1).toList)))) = true
   ·rw [if_pos c7] at H
    have c7b0 : (!((((rd_T100 l0 x5_1).f0).toList) == (((rd_T100 l1 x5_1).f0).toList)) || (!((((rd_T100 l0 x5_1).f1).toList) == (((rd_T100 l1 x5_1).f1).toList)))) = true := c7
    clear c7
    obtain rfl := Option.some.inj H
    have p632 : 0 ≤ (x5_1 : Int) := od
    have q632 : x5_1 < (l0.length : Int) := od
    obtain ⟨ad632, e632, hx632_0, hx632_1⟩ := at_T100 HR0.out x5_1 p632 q632
    cases e632
    replace p632 := eq_true p632
    replace q632 := eq_true q632
    have p633 : 0 ≤ (x5_1 : Int) := od
    have q633 : x5_1 < (l1.length : Int) := od
    obtain ⟨ad633, e633, hx633_0, hx633_1⟩ := at_T100 HR1.out x5_1 p633 q633
    cases e633
    replace p633 := eq_true p633
    replace q633 := eq_true q633
    go_wp2
    repeat (go_quiet (fail); try go_wp2)
    go_ret
    exact ⟨rs, dr⟩
   rw [if_neg c7] at H
   have c7b0 : (!((((rd_T100 l0 x5_1).f0).toList) == (((rd_T100 l1 x5_1).f0).toList)) || (!((((rd_T100 l0 x5_1).f1).toList) == (((rd_T100 l1 x5_1).f1).toList)))) = false := Bool.eq_false_iff.mpr c7
   clear c7
   have H' := am H
   clear H
   have p632 : 0 ≤ (x5_1 : Int) := od
   have q632 : x5_1 < (l0.length : Int) := od
   obtain ⟨ad632, e632, hx632_0, hx632_1⟩ := at_T100 HR0.out x5_1 p632 q632
   cases e632
   replace p632 := eq_true p632
   replace q632 := eq_true q632
   have p633 : 0 ≤ (x5_1 : Int) := od
   have q633 : x5_1 < (l1.length : Int) := od
   obtain ⟨ad633, e633, hx633_0, hx633_1⟩ := at_T100 HR1.out x5_1 p633 q633
   cases e633
   replace p633 := eq_true p633
   replace q633 := eq_true q633
   go_wp2
   repeat (go_quiet (fail); try go_wp2)
   go_roundg k1
   case measure => have := HK1.out; omega
   case rel => exact ⟨(wrap64 (x5_1 + 1)), rs, H', ⟨by have := HK1.out; omega⟩, dr⟩

end Go.Proofs.YtnmanegjgidgcaaGreatDoor.All
