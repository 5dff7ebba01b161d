-- Written by a program of this session (wip/tools/hprint.py) out of the translation. Lean checks it.
import Derived.Test.YtnmanegjgidgcaaGreatDoorAllx0
import Derived.Test.YtnmanegjgidgcaaGreatDoorAllx2
namespace Go.Proofs.YtnmanegjgidgcaaGreatDoor.All
open Go.RowKit Go.Proofs.YtnmanegjgidgcaaGreatDoorW.PrintWords Go.Proofs.YtnmanegjgidgcaaGreatDoorW.PrintLast Go.Proofs.YtnmanegjgidgcaaGreatDoorW.PrintMore
attribute [local go_sem] max2_int min2_int max_two min_two max_three min_three max_four min_four   -- for this text's walks alone
set_option linter.unusedVariables false
set_option linter.unusedSimpArgs false

/-! ### spec_l3Path: function 126 -/
def spec_l3Path.l0 : Nat → ByteArray → Int → Option (Bool)
 | 0, _, _ => none
 | k + 1, x0, x3 => if x3 < (x0.size : Int) then (if 0 ≤ x3 then (if (bt x0 x3) < 33 then (some false) else (if (bt x0 x3) > 126 then (some false) else (spec_l3Path.l0 k x0 (wrap64 (x3 + 1))))) else (none)) else ((spec_l1In.f (x0.size : Int) 1 60).bind fun t101 => (if t101 = true then (if 0 < (x0.size : Int) then (some ((bt x0 0) == 47)) else (none)) else (some false)))
def spec_l3Path.f (k : Nat) (a0 : ByteArray) : Option (Bool) := spec_l3Path.l0 k a0 0
theorem spec_l3Path.mono_l : ∀ k, (∀ y0 y1, LeO (spec_l3Path.l0 k y0 y1) (spec_l3Path.l0 (k + 1) y0 y1))
 | 0 => fun _ _ r h => by simp [spec_l3Path.l0] at h
 | k + 1 => by
  have ih0 := spec_l3Path.mono_l k
  ·intro y0 y1
   unfold spec_l3Path.l0
   exact mo
theorem spec_l3Path.mono : ∀ a0 k, LeO (spec_l3Path.f k a0) (spec_l3Path.f (k + 1) a0) := by
 intro a0 k
 have ih0 := spec_l3Path.mono_l k
 unfold spec_l3Path.f
 exact mo
set_option maxHeartbeats 8000000 in
set_option maxRecDepth 100000 in
theorem spec_l3Path.calls (k : Nat) (a0 : ByteArray) (r : Bool) (w : World) (h : spec_l3Path.f k a0 = some r) :
  Calls Tryz.prog 126 #[.string a0] w fun e w' => e = .returned (.bool r) ∧ Drawn0 w w' := by
 unfold spec_l3Path.f at h
 have H := h
 clear h
 have H' := am H
 clear H
 go_enter Tryz.func126, Tryz.ntmps126
 go_wp2
 (try simp only [Act.put, List.setIfInBounds_toArray, List.set_cons_zero, List.set_cons_succ])
 go_loopg [3] k (fun kq v3 w' => ∃ (x3_1 : Int), v3 = .int .i64 x3_1 ∧ Aside0 (spec_l3Path.l0 kq a0 x3_1 = some r) ∧ Aside0 (kq ≤ k) ∧ Drawn0 w w')
 case atStart => exact ⟨(0), rs, H', ⟨Nat.le_refl _⟩, dr⟩
 case round =>
  clear H'
  try clear c1
  obtain ⟨x3_1, rfl, HA, HK1, ⟨m1, rfl⟩⟩ := hrel
  cases gk with
  | zero => exact absurd HA.out (by simp [spec_l3Path.l0])
  | succ k1 =>
   have H := HA.out
   clear HA
   simp only [spec_l3Path.l0] at H
   by_cases c2 : x3_1 < (a0.size : Int)
   rotate_left
   ·rw [if_neg c2] at H
    have c2b0 := decide_eq_false c2
    clear c2
    revert H
    refine ok1 fun t101 A8 H => ?_
    by_cases c9 : t101 = true
    rotate_left
    ·replace c9 := Bool.eq_false_iff.mpr c9
     subst c9
     rw [if_neg (show ¬ (false = true) by decide)] at H
     obtain rfl := Option.some.inj H
     go_wp2_with (first | (refine gl 22 Tryz.func125 #[.int .i64 (a0.size : Int), .int .i64 1, .int .i64 60] ?_; (with_reducible refine (spec_l1In.calls (a0.size : Int) 1 60 false _ A8.out).mono ?_); rintro e w' ⟨rfl, ⟨nd, rfl⟩⟩; refine ⟨_, rfl, ?_⟩))
     go_ret
     exact ⟨rs, dr⟩
    subst c9
    rw [if_pos rfl] at H
    revert H
    refine ifn fun c10 H => ?_
    have c10b0 := decide_eq_true c10
    have c10b1 : decide (0 < a0.size) = true := decide_eq_true (by omega)
    clear c10
    obtain rfl := Option.some.inj H
    go_wp2_with (first | (refine gl 22 Tryz.func125 #[.int .i64 (a0.size : Int), .int .i64 1, .int .i64 60] ?_; (with_reducible refine (spec_l1In.calls (a0.size : Int) 1 60 true _ A8.out).mono ?_); rintro e w' ⟨rfl, ⟨nd, rfl⟩⟩; refine ⟨_, rfl, ?_⟩; have p11 : 0 ≤ (0 : Int) := (by omega); have q11 : 0 < a0.size := (by have : (0 : Int) < (a0.size : Int) := od; omega); have hx11 : ∀ h : 0 < a0.size, ((a0[0]'h).toNat : Int) = bt a0 0 := bt_at a0 0; clear p11; have qi11 : (0 < (a0.size : Int)) = True := eq_true (od); replace q11 := eq_true q11))
    go_ret
    exact ⟨rs, dr⟩
   rw [if_pos c2] at H
   have c2b0 := decide_eq_true c2
   clear c2
   revert H
   refine ifn fun c3 H => ?_
   have c3b0 := decide_eq_true c3
   clear c3
   by_cases c5 : (bt a0 x3_1) < 33
   ·rw [if_pos c5] at H
    have c5b0 := decide_eq_true c5
    clear c5
    obtain rfl := Option.some.inj H
    have p4 : 0 ≤ (x3_1 : Int) := od
    have q4 : x3_1 < (a0.size : Int) := od
    have hx4 := bt_at a0 x3_1
    replace p4 := eq_true p4
    replace q4 := eq_true q4
    go_wp2
    go_ret
    exact ⟨rs, dr⟩
   rw [if_neg c5] at H
   have c5b0 := decide_eq_false c5
   clear c5
   by_cases c7 : (bt a0 x3_1) > 126
   ·rw [if_pos c7] at H
    have c7b0 := decide_eq_true c7
    clear c7
    obtain rfl := Option.some.inj H
    have p4 : 0 ≤ (x3_1 : Int) := od
    have q4 : x3_1 < (a0.size : Int) := od
    have hx4 := bt_at a0 x3_1
    replace p4 := eq_true p4
    replace q4 := eq_true q4
    have p6 : 0 ≤ (x3_1 : Int) := od
    have q6 : x3_1 < (a0.size : Int) := od
    have hx6 := bt_at a0 x3_1
    replace p6 := eq_true p6
    replace q6 := eq_true q6
    go_wp2
    go_ret
    exact ⟨rs, dr⟩
   rw [if_neg c7] at H
   have c7b0 := decide_eq_false c7
   clear c7
   have H' := am H
   clear H
   have p4 : 0 ≤ (x3_1 : Int) := od
   have q4 : x3_1 < (a0.size : Int) := od
   have hx4 := bt_at a0 x3_1
   replace p4 := eq_true p4
   replace q4 := eq_true q4
   have p6 : 0 ≤ (x3_1 : Int) := od
   have q6 : x3_1 < (a0.size : Int) := od
   have hx6 := bt_at a0 x3_1
   replace p6 := eq_true p6
   replace q6 := eq_true q6
   go_wp2
   go_roundg k1
   case measure => have := HK1.out; omega
   case rel => exact ⟨(wrap64 (x3_1 + 1)), rs, H', ⟨by have := HK1.out; omega⟩, dr⟩

/-! ### impl_pathOk: function 81 -/
def impl_pathOk.f (k : Nat) (a0 : ByteArray) : Option (Bool) := (impl_inRange.f (a0.size : Int) 1 60).bind fun t279 => (if t279 = true then (if 0 < (a0.size : Int) then (if (bt a0 0) = 47 then ((impl_areFrom.f k a0 33).bind fun t280 => (some t280)) else (some false)) else (none)) else (some false))
theorem impl_pathOk.mono : ∀ a0 k, LeO (impl_pathOk.f k a0) (impl_pathOk.f (k + 1) a0) := by
 intro a0 k
 unfold impl_pathOk.f
 have m0 := @impl_areFrom.mono
 exact mo
set_option maxHeartbeats 8000000 in
set_option maxRecDepth 100000 in
theorem impl_pathOk.calls (k : Nat) (a0 : ByteArray) (r : Bool) (w : World) (h : impl_pathOk.f k a0 = some r) :
  Calls Tryz.prog 81 #[.string a0] w fun e w' => e = .returned (.bool r) ∧ Drawn0 w w' := by
 unfold impl_pathOk.f at h
 have H := h
 clear h
 revert H
 refine ok1 fun t279 A2 H => ?_
 by_cases c3 : t279 = true
 rotate_left
 ·replace c3 := Bool.eq_false_iff.mpr c3
  subst c3
  rw [if_neg (show ¬ (false = true) by decide)] at H
  obtain rfl := Option.some.inj H
  go_enter Tryz.func81, Tryz.ntmps81
  go_wp2_with (first | (refine gl 5 Tryz.func80 #[.int .i64 (a0.size : Int), .int .i64 1, .int .i64 60] ?_; (with_reducible refine (impl_inRange.calls (a0.size : Int) 1 60 false _ A2.out).mono ?_); rintro e w' ⟨rfl, ⟨nd, rfl⟩⟩; refine ⟨_, rfl, ?_⟩))
  go_ret
  exact ⟨rs, dr⟩
 subst c3
 rw [if_pos rfl] at H
 revert H
 refine ifn fun c4 H => ?_
 have c4b0 := decide_eq_true c4
 have c4b1 : decide (0 < a0.size) = true := decide_eq_true (by omega)
 clear c4
 by_cases c6 : (bt a0 0) = 47
 rotate_left
 ·rw [if_neg c6] at H
  have c6b0 : ((bt a0 0) == 47) = false := beq_eq_false_iff_ne.mpr c6
  have c6b1 : ((bt a0 0) != 47) = true := bne_iff_ne.mpr c6
  obtain rfl := Option.some.inj H
  go_enter Tryz.func81, Tryz.ntmps81
  go_wp2_with (first | (refine gl 5 Tryz.func80 #[.int .i64 (a0.size : Int), .int .i64 1, .int .i64 60] ?_; (with_reducible refine (impl_inRange.calls (a0.size : Int) 1 60 true _ A2.out).mono ?_); rintro e w' ⟨rfl, ⟨nd, rfl⟩⟩; refine ⟨_, rfl, ?_⟩; have p5 : 0 ≤ (0 : Int) := (by omega); have q5 : 0 < a0.size := (by have : (0 : Int) < (a0.size : Int) := od; omega); have hx5 : ∀ h : 0 < a0.size, ((a0[0]'h).toNat : Int) = bt a0 0 := bt_at a0 0; clear p5; have qi5 : (0 < (a0.size : Int)) = True := eq_true (od); replace q5 := eq_true q5))
  go_ret
  exact ⟨rs, dr⟩
 rw [if_pos c6] at H
 have c6b0 : ((bt a0 0) == 47) = true := beq_iff_eq.mpr c6
 have c6b1 : ((bt a0 0) != 47) = false := bne_eq_false_iff_eq.mpr c6
 clear c6
 revert H
 refine ok1 fun t280 A7 H => ?_
 obtain rfl := Option.some.inj H
 go_enter Tryz.func81, Tryz.ntmps81
 go_wp2_with (first | (refine gl 5 Tryz.func80 #[.int .i64 (a0.size : Int), .int .i64 1, .int .i64 60] ?_; (with_reducible refine (impl_inRange.calls (a0.size : Int) 1 60 true _ A2.out).mono ?_); rintro e w' ⟨rfl, ⟨nd, rfl⟩⟩; refine ⟨_, rfl, ?_⟩; have p5 : 0 ≤ (0 : Int) := (by omega); have q5 : 0 < a0.size := (by have : (0 : Int) < (a0.size : Int) := od; omega); have hx5 : ∀ h : 0 < a0.size, ((a0[0]'h).toNat : Int) = bt a0 0 := bt_at a0 0; clear p5; have qi5 : (0 < (a0.size : Int)) = True := eq_true (od); replace q5 := eq_true q5) | (go_at_call 128; (with_reducible refine (impl_areFrom.calls k a0 33 t280 _ A7.out).mono ?_); rintro e w' ⟨rfl, ⟨nd, rfl⟩⟩))
 go_ret
 exact ⟨rs, dr⟩

end Go.Proofs.YtnmanegjgidgcaaGreatDoor.All
