-- Written by a program of this session (wip/tools/hprint.py) out of the translation. Lean checks it.
import Derived.Test.YtkgdcfaogdmcgaaDoorAllx0
import Derived.Test.YtkgdcfaogdmcgaaDoorAllx1
namespace Go.Proofs.YtkgdcfaogdmcgaaDoor.All
open Go.RowKit Go.Proofs.YtkgdcfaogdmcgaaDoorW.PrintWords Go.Proofs.YtkgdcfaogdmcgaaDoorW.PrintLast Go.Proofs.YtkgdcfaogdmcgaaDoorW.PrintMore
attribute [local go_sem] max2_int min2_int max_two min_two max_three min_three max_four min_four   -- for this text's walks alone
set_option linter.unusedVariables false
set_option linter.unusedSimpArgs false

/-! ### impl_areFrom: function 115 -/
def impl_areFrom.l0 : Nat → ByteArray → Int → Int → Option (Bool)
 | 0, _, _, _ => none
 | k + 1, x0, x1, x5 => if x5 < (x0.size : Int) then (if 0 ≤ x5 then (if (bt x0 x5) < x1 then (some false) else (if (bt x0 x5) > 126 then (some false) else (impl_areFrom.l0 k x0 x1 (wrap64 (x5 + 1))))) else (none)) else (some true)
def impl_areFrom.f (k : Nat) (a0 : ByteArray) (a1 : Int) : Option (Bool) := impl_areFrom.l0 k a0 a1 0
theorem impl_areFrom.mono_l : ∀ k, (∀ y0 y1 y2, LeO (impl_areFrom.l0 k y0 y1 y2) (impl_areFrom.l0 (k + 1) y0 y1 y2))
 | 0 => fun _ _ _ r h => by simp [impl_areFrom.l0] at h
 | k + 1 => by
  have ih0 := impl_areFrom.mono_l k
  ·intro y0 y1 y2
   unfold impl_areFrom.l0
   exact mo
theorem impl_areFrom.mono : ∀ a0 a1 k, LeO (impl_areFrom.f k a0 a1) (impl_areFrom.f (k + 1) a0 a1) := by
 intro a0 a1 k
 have ih0 := impl_areFrom.mono_l k
 unfold impl_areFrom.f
 exact mo
set_option maxHeartbeats 8000000 in
set_option maxRecDepth 100000 in
theorem impl_areFrom.calls (k : Nat) (a0 : ByteArray) (a1 : Int) (r : Bool) (w : World) (h : impl_areFrom.f k a0 a1 = some r) :
  Calls Tryd.prog 115 #[.string a0, .int .u8 a1] w fun e w' => e = .returned (.bool r) ∧ Drawn0 w w' := by
 unfold impl_areFrom.f at h
 have H := h
 clear h
 have H' := am H
 clear H
 go_enter Tryd.func115, Tryd.ntmps115
 go_wp2
 (try simp only [Act.put, List.setIfInBounds_toArray, List.set_cons_zero, List.set_cons_succ])
 go_loopg [5] k (fun kq v5 w' => ∃ (x5_1 : Int), v5 = .int .i64 x5_1 ∧ Aside0 (impl_areFrom.l0 kq a0 a1 x5_1 = some r) ∧ Aside0 (kq ≤ k) ∧ Drawn0 w w')
 case atStart => exact ⟨(0), rs, H', ⟨Nat.le_refl _⟩, dr⟩
 case round =>
  clear H'
  try clear c1
  try clear p2
  obtain ⟨x5_1, rfl, HA, HK1, ⟨m1, rfl⟩⟩ := hrel
  cases gk with
  | zero => exact absurd HA.out (by simp [impl_areFrom.l0])
  | succ k1 =>
   have H := HA.out
   clear HA
   simp only [impl_areFrom.l0] at H
   by_cases c3 : x5_1 < (a0.size : Int)
   rotate_left
   ·rw [if_neg c3] at H
    have c3b0 := decide_eq_false c3
    clear c3
    obtain rfl := Option.some.inj H
    go_wp2
    go_ret
    exact ⟨rs, dr⟩
   rw [if_pos c3] at H
   have c3b0 := decide_eq_true c3
   clear c3
   revert H
   refine ifn fun c4 H => ?_
   have c4b0 := decide_eq_true c4
   clear c4
   by_cases c6 : (bt a0 x5_1) < a1
   ·rw [if_pos c6] at H
    have c6b0 := decide_eq_true c6
    clear c6
    obtain rfl := Option.some.inj H
    have p5 : 0 ≤ (x5_1 : Int) := od
    have q5 : x5_1 < (a0.size : Int) := od
    have hx5 := bt_at a0 x5_1
    replace p5 := eq_true p5
    replace q5 := eq_true q5
    go_wp2
    go_ret
    exact ⟨rs, dr⟩
   rw [if_neg c6] at H
   have c6b0 := decide_eq_false c6
   clear c6
   by_cases c8 : (bt a0 x5_1) > 126
   ·rw [if_pos c8] at H
    have c8b0 := decide_eq_true c8
    clear c8
    obtain rfl := Option.some.inj H
    have p5 : 0 ≤ (x5_1 : Int) := od
    have q5 : x5_1 < (a0.size : Int) := od
    have hx5 := bt_at a0 x5_1
    replace p5 := eq_true p5
    replace q5 := eq_true q5
    have p7 : 0 ≤ (x5_1 : Int) := od
    have q7 : x5_1 < (a0.size : Int) := od
    have hx7 := bt_at a0 x5_1
    replace p7 := eq_true p7
    replace q7 := eq_true q7
    go_wp2
    go_ret
    exact ⟨rs, dr⟩
   rw [if_neg c8] at H
   have c8b0 := decide_eq_false c8
   clear c8
   have H' := am H
   clear H
   have p5 : 0 ≤ (x5_1 : Int) := od
   have q5 : x5_1 < (a0.size : Int) := od
   have hx5 := bt_at a0 x5_1
   replace p5 := eq_true p5
   replace q5 := eq_true q5
   have p7 : 0 ≤ (x5_1 : Int) := od
   have q7 : x5_1 < (a0.size : Int) := od
   have hx7 := bt_at a0 x5_1
   replace p7 := eq_true p7
   replace q7 := eq_true q7
   go_wp2
   go_roundg k1
   case measure => have := HK1.out; omega
   case rel => exact ⟨(wrap64 (x5_1 + 1)), rs, H', ⟨by have := HK1.out; omega⟩, dr⟩

/-! ### impl_pathOk: function 61 -/
def impl_pathOk.f (k : Nat) (a0 : ByteArray) : Option (Bool) := (impl_inRange.f (a0.size : Int) 1 60).bind fun t498 => (if t498 = true then (if 0 < (a0.size : Int) then (if (bt a0 0) = 47 then ((impl_areFrom.f k a0 33).bind fun t499 => (some t499)) else (some false)) else (none)) else (some false))
theorem impl_pathOk.mono : ∀ a0 k, LeO (impl_pathOk.f k a0) (impl_pathOk.f (k + 1) a0) := by
 intro a0 k
 unfold impl_pathOk.f
 have m0 := @impl_areFrom.mono
 exact mo
set_option maxHeartbeats 8000000 in
set_option maxRecDepth 100000 in
theorem impl_pathOk.calls (k : Nat) (a0 : ByteArray) (r : Bool) (w : World) (h : impl_pathOk.f k a0 = some r) :
  Calls Tryd.prog 61 #[.string a0] w fun e w' => e = .returned (.bool r) ∧ Drawn0 w w' := by
 unfold impl_pathOk.f at h
 have H := h
 clear h
 revert H
 refine ok1 fun t498 A2 H => ?_
 by_cases c3 : t498 = true
 rotate_left
 ·replace c3 := Bool.eq_false_iff.mpr c3
  subst c3
  rw [if_neg (show ¬ (false = true) by decide)] at H
  obtain rfl := Option.some.inj H
  go_enter Tryd.func61, Tryd.ntmps61
  go_wp2_with (first | (refine gl 5 Tryd.func60 #[.int .i64 (a0.size : Int), .int .i64 1, .int .i64 60] ?_; (with_reducible refine (impl_inRange.calls (a0.size : Int) 1 60 false _ A2.out).mono ?_); rintro e w' ⟨rfl, ⟨nd, rfl⟩⟩; refine ⟨_, rfl, ?_⟩))
  go_ret
  exact ⟨rs, dr⟩
 subst c3
 rw [if_pos rfl] at H
 revert H
 refine ifn fun c4 H => ?_
 have c4b0 := decide_eq_true c4
 have c4b1 : decide (0 < a0.size) = true := decide_eq_true (by omega)
 clear c4
 by_cases c6 : (bt a0 0) = 47
 rotate_left
 ·rw [if_neg c6] at H
  have c6b0 : ((bt a0 0) == 47) = false := beq_eq_false_iff_ne.mpr c6
  have c6b1 : ((bt a0 0) != 47) = true := bne_iff_ne.mpr c6
  obtain rfl := Option.some.inj H
  go_enter Tryd.func61, Tryd.ntmps61
  go_wp2_with (first | (refine gl 5 Tryd.func60 #[.int .i64 (a0.size : Int), .int .i64 1, .int .i64 60] ?_; (with_reducible refine (impl_inRange.calls (a0.size : Int) 1 60 true _ A2.out).mono ?_); rintro e w' ⟨rfl, ⟨nd, rfl⟩⟩; refine ⟨_, rfl, ?_⟩; have p5 : 0 ≤ (0 : Int) := (by omega); have q5 : 0 < a0.size := (by have : (0 : Int) < (a0.size : Int) := od; omega); have hx5 : ∀ h : 0 < a0.size, ((a0[0]'h).toNat : Int) = bt a0 0 := bt_at a0 0; clear p5; have qi5 : (0 < (a0.size : Int)) = True := eq_true (od); replace q5 := eq_true q5))
  go_ret
  exact ⟨rs, dr⟩
 rw [if_pos c6] at H
 have c6b0 : ((bt a0 0) == 47) = true := beq_iff_eq.mpr c6
 have c6b1 : ((bt a0 0) != 47) = false := bne_eq_false_iff_eq.mpr c6
 clear c6
 revert H
 refine ok1 fun t499 A7 H => ?_
 obtain rfl := Option.some.inj H
 go_enter Tryd.func61, Tryd.ntmps61
 go_wp2_with (first | (refine gl 5 Tryd.func60 #[.int .i64 (a0.size : Int), .int .i64 1, .int .i64 60] ?_; (with_reducible refine (impl_inRange.calls (a0.size : Int) 1 60 true _ A2.out).mono ?_); rintro e w' ⟨rfl, ⟨nd, rfl⟩⟩; refine ⟨_, rfl, ?_⟩; have p5 : 0 ≤ (0 : Int) := (by omega); have q5 : 0 < a0.size := (by have : (0 : Int) < (a0.size : Int) := od; omega); have hx5 : ∀ h : 0 < a0.size, ((a0[0]'h).toNat : Int) = bt a0 0 := bt_at a0 0; clear p5; have qi5 : (0 < (a0.size : Int)) = True := eq_true (od); replace q5 := eq_true q5) | (go_at_call 115; (with_reducible refine (impl_areFrom.calls k a0 33 t499 _ A7.out).mono ?_); rintro e w' ⟨rfl, ⟨nd, rfl⟩⟩))
 go_ret
 exact ⟨rs, dr⟩

/-! ### impl_ValueOk: function 79 -/
def impl_ValueOk.f (k : Nat) (a0 : ByteArray) : Option (Bool) := (impl_inRange.f (a0.size : Int) 1 60).bind fun t501 => (if t501 = true then ((impl_areFrom.f k a0 32).bind fun t502 => (if t502 = true then ((impl_Trim.f a0).bind fun t503 => (some (t503.toList == a0.toList))) else (some false))) else (some false))
theorem impl_ValueOk.mono : ∀ a0 k, LeO (impl_ValueOk.f k a0) (impl_ValueOk.f (k + 1) a0) := by
 intro a0 k
 unfold impl_ValueOk.f
 have m0 := @impl_areFrom.mono
 exact mo
set_option maxHeartbeats 8000000 in
set_option maxRecDepth 100000 in
theorem impl_ValueOk.calls (k : Nat) (a0 : ByteArray) (r : Bool) (w : World) (h : impl_ValueOk.f k a0 = some r) :
  Calls Tryd.prog 79 #[.string a0] w fun e w' => e = .returned (.bool r) ∧ Below w.heap.size w w' := by
 have HB := am (Below.refl w.heap.size w)
 unfold impl_ValueOk.f at h
 have H := h
 clear h
 revert H
 refine ok1 fun t501 A2 H => ?_
 by_cases c3 : t501 = true
 rotate_left
 ·replace c3 := Bool.eq_false_iff.mpr c3
  subst c3
  rw [if_neg (show ¬ (false = true) by decide)] at H
  obtain rfl := Option.some.inj H
  go_enter Tryd.func79, Tryd.ntmps79
  go_wp2_with (first | (refine gl 5 Tryd.func60 #[.int .i64 (a0.size : Int), .int .i64 1, .int .i64 60] ?_; (with_reducible refine (impl_inRange.calls (a0.size : Int) 1 60 false _ A2.out).mono ?_); rintro e w' ⟨rfl, ⟨nd, rfl⟩⟩; refine ⟨_, rfl, ?_⟩))
  go_ret
  exact ⟨rf, bl⟩
 subst c3
 rw [if_pos rfl] at H
 revert H
 refine ok1 fun t502 A4 H => ?_
 by_cases c5 : t502 = true
 rotate_left
 ·replace c5 := Bool.eq_false_iff.mpr c5
  subst c5
  rw [if_neg (show ¬ (false = true) by decide)] at H
  obtain rfl := Option.some.inj H
  go_enter Tryd.func79, Tryd.ntmps79
  go_wp2_with (first | (refine gl 5 Tryd.func60 #[.int .i64 (a0.size : Int), .int .i64 1, .int .i64 60] ?_; (with_reducible refine (impl_inRange.calls (a0.size : Int) 1 60 true _ A2.out).mono ?_); rintro e w' ⟨rfl, ⟨nd, rfl⟩⟩; refine ⟨_, rfl, ?_⟩) | (go_at_call 115; (with_reducible refine (impl_areFrom.calls k a0 32 false _ A4.out).mono ?_); rintro e w' ⟨rfl, ⟨nd, rfl⟩⟩))
  go_ret
  exact ⟨rf, bl⟩
 subst c5
 rw [if_pos rfl] at H
 revert H
 refine ok1 fun t503 A6 H => ?_
 obtain rfl := Option.some.inj H
 go_enter Tryd.func79, Tryd.ntmps79
 go_wp2_with (first | (refine gl 5 Tryd.func60 #[.int .i64 (a0.size : Int), .int .i64 1, .int .i64 60] ?_; (with_reducible refine (impl_inRange.calls (a0.size : Int) 1 60 true _ A2.out).mono ?_); rintro e w' ⟨rfl, ⟨nd, rfl⟩⟩; refine ⟨_, rfl, ?_⟩) | (go_at_call 115; (with_reducible refine (impl_areFrom.calls k a0 32 true _ A4.out).mono ?_); rintro e w' ⟨rfl, ⟨nd, rfl⟩⟩) | (go_at_call 124; (with_reducible refine (impl_Trim.calls a0 t503 _ A6.out).mono ?_); rintro e w7 ⟨rfl, hb⟩; replace HB := am (below_step bl hb); clear hb))
 go_ret
 exact ⟨rf, bl⟩

/-! ### impl_TokenOk: function 116 -/
def impl_TokenOk.l0 : Nat → ByteArray → Int → Option (Bool)
 | 0, _, _ => none
 | k + 1, x0, x3 => if x3 < (x0.size : Int) then (if 0 ≤ x3 then (if (bt x0 x3) ≥ 97 then (if (bt x0 x3) ≤ 122 then (impl_TokenOk.l0 k x0 (wrap64 (x3 + 1))) else (if (bt x0 x3) ≥ 48 then (if (bt x0 x3) ≤ 57 then (impl_TokenOk.l0 k x0 (wrap64 (x3 + 1))) else (if ((bt x0 x3) = 45) then (impl_TokenOk.l0 k x0 (wrap64 (x3 + 1))) else (some false))) else (if ((bt x0 x3) = 45) then (impl_TokenOk.l0 k x0 (wrap64 (x3 + 1))) else (some false)))) else (if (bt x0 x3) ≥ 48 then (if (bt x0 x3) ≤ 57 then (impl_TokenOk.l0 k x0 (wrap64 (x3 + 1))) else (if ((bt x0 x3) = 45) then (impl_TokenOk.l0 k x0 (wrap64 (x3 + 1))) else (some false))) else (if ((bt x0 x3) = 45) then (impl_TokenOk.l0 k x0 (wrap64 (x3 + 1))) else (some false)))) else (none)) else ((impl_inRange.f (x0.size : Int) 1 20).bind fun t504 => (some t504))
def impl_TokenOk.f (k : Nat) (a0 : ByteArray) : Option (Bool) := impl_TokenOk.l0 k a0 0
theorem impl_TokenOk.mono_l : ∀ k, (∀ y0 y1, LeO (impl_TokenOk.l0 k y0 y1) (impl_TokenOk.l0 (k + 1) y0 y1))
 | 0 => fun _ _ r h => by simp [impl_TokenOk.l0] at h
 | k + 1 => by
  have ih0 := impl_TokenOk.mono_l k
  ·intro y0 y1
   unfold impl_TokenOk.l0
   exact mo
theorem impl_TokenOk.mono : ∀ a0 k, LeO (impl_TokenOk.f k a0) (impl_TokenOk.f (k + 1) a0) := by
 intro a0 k
 have ih0 := impl_TokenOk.mono_l k
 unfold impl_TokenOk.f
 exact mo
set_option maxHeartbeats 8000000 in
set_option maxRecDepth 100000 in
theorem impl_TokenOk.calls (k : Nat) (a0 : ByteArray) (r : Bool) (w : World) (h : impl_TokenOk.f k a0 = some r) :
  Calls Tryd.prog 116 #[.string a0] w fun e w' => e = .returned (.bool r) ∧ Drawn0 w w' := by
 unfold impl_TokenOk.f at h
 have H := h
 clear h
 have H' := am H
 clear H
 go_enter Tryd.func116, Tryd.ntmps116
 go_wp2
 (try simp only [Act.put, List.setIfInBounds_toArray, List.set_cons_zero, List.set_cons_succ])
 go_loopg [3] k (fun kq v3 w' => ∃ (x3_1 : Int), v3 = .int .i64 x3_1 ∧ Aside0 (impl_TokenOk.l0 kq a0 x3_1 = some r) ∧ Aside0 (kq ≤ k) ∧ Drawn0 w w')
 case atStart => exact ⟨(0), rs, H', ⟨Nat.le_refl _⟩, dr⟩
 case round =>
  clear H'
  try clear c1
  obtain ⟨x3_1, rfl, HA, HK1, ⟨m1, rfl⟩⟩ := hrel
  cases gk with
  | zero => exact absurd HA.out (by simp [impl_TokenOk.l0])
  | succ k1 =>
   have H := HA.out
   clear HA
   simp only [impl_TokenOk.l0] at H
   by_cases c2 : x3_1 < (a0.size : Int)
   rotate_left
   ·rw [if_neg c2] at H
    have c2b0 := decide_eq_false c2
    clear c2
    revert H
    refine ok1 fun t504 A24 H => ?_
    obtain rfl := Option.some.inj H
    go_wp2_with (first | (refine gl 41 Tryd.func60 #[.int .i64 (a0.size : Int), .int .i64 1, .int .i64 20] ?_; (with_reducible refine (impl_inRange.calls (a0.size : Int) 1 20 t504 _ A24.out).mono ?_); rintro e w' ⟨rfl, ⟨nd, rfl⟩⟩; refine ⟨_, rfl, ?_⟩))
    go_ret
    exact ⟨rs, dr⟩
   rw [if_pos c2] at H
   have c2b0 := decide_eq_true c2
   clear c2
   revert H
   refine ifn fun c3 H => ?_
   have c3b0 := decide_eq_true c3
   clear c3
   by_cases c5 : (bt a0 x3_1) ≥ 97
   rotate_left
   ·rw [if_neg c5] at H
    have c5b0 := decide_eq_false c5
    clear c5
    by_cases c17 : (bt a0 x3_1) ≥ 48
    rotate_left
    ·rw [if_neg c17] at H
     have c17b0 := decide_eq_false c17
     clear c17
     by_cases c23 : ((bt a0 x3_1) = 45)
     rotate_left
     ·rw [if_neg c23] at H
      have c23b0 : ((bt a0 x3_1) == 45) = false := beq_eq_false_iff_ne.mpr c23
      have c23b1 : ((bt a0 x3_1) != 45) = true := bne_iff_ne.mpr c23
      obtain rfl := Option.some.inj H
      have p4 : 0 ≤ (x3_1 : Int) := od
      have q4 : x3_1 < (a0.size : Int) := od
      have hx4 := bt_at a0 x3_1
      replace p4 := eq_true p4
      replace q4 := eq_true q4
      have p16 : 0 ≤ (x3_1 : Int) := od
      have q16 : x3_1 < (a0.size : Int) := od
      have hx16 := bt_at a0 x3_1
      replace p16 := eq_true p16
      replace q16 := eq_true q16
      have p22 : 0 ≤ (x3_1 : Int) := od
      have q22 : x3_1 < (a0.size : Int) := od
      have hx22 := bt_at a0 x3_1
      replace p22 := eq_true p22
      replace q22 := eq_true q22
      go_wp2
      go_ret
      exact ⟨rs, dr⟩
     rw [if_pos c23] at H
     have c23b0 : ((bt a0 x3_1) == 45) = true := beq_iff_eq.mpr c23
     have c23b1 : ((bt a0 x3_1) != 45) = false := bne_eq_false_iff_eq.mpr c23
     clear c23
     have H' := am H
     clear H
     have p4 : 0 ≤ (x3_1 : Int) := od
     have q4 : x3_1 < (a0.size : Int) := od
     have hx4 := bt_at a0 x3_1
     replace p4 := eq_true p4
     replace q4 := eq_true q4
     have p16 : 0 ≤ (x3_1 : Int) := od
     have q16 : x3_1 < (a0.size : Int) := od
     have hx16 := bt_at a0 x3_1
     replace p16 := eq_true p16
     replace q16 := eq_true q16
     have p22 : 0 ≤ (x3_1 : Int) := od
     have q22 : x3_1 < (a0.size : Int) := od
     have hx22 := bt_at a0 x3_1
     replace p22 := eq_true p22
     replace q22 := eq_true q22
     go_wp2
     go_roundg k1
     case measure => have := HK1.out; omega
     case rel => exact ⟨(wrap64 (x3_1 + 1)), rs, H', ⟨by have := HK1.out; omega⟩, dr⟩
    rw [if_pos c17] at H
    have c17b0 := decide_eq_true c17
    clear c17
    by_cases c19 : (bt a0 x3_1) ≤ 57
    ·rw [if_pos c19] at H
     have c19b0 := decide_eq_true c19
     clear c19
     have H' := am H
     clear H
     have p4 : 0 ≤ (x3_1 : Int) := od
     have q4 : x3_1 < (a0.size : Int) := od
     have hx4 := bt_at a0 x3_1
     replace p4 := eq_true p4
     replace q4 := eq_true q4
     have p16 : 0 ≤ (x3_1 : Int) := od
     have q16 : x3_1 < (a0.size : Int) := od
     have hx16 := bt_at a0 x3_1
     replace p16 := eq_true p16
     replace q16 := eq_true q16
     have p18 : 0 ≤ (x3_1 : Int) := od
     have q18 : x3_1 < (a0.size : Int) := od
     have hx18 := bt_at a0 x3_1
     replace p18 := eq_true p18
     replace q18 := eq_true q18
     go_wp2
     go_roundg k1
     case measure => have := HK1.out; omega
     case rel => exact ⟨(wrap64 (x3_1 + 1)), rs, H', ⟨by have := HK1.out; omega⟩, dr⟩
    rw [if_neg c19] at H
    have c19b0 := decide_eq_false c19
    clear c19
    by_cases c21 : ((bt a0 x3_1) = 45)
    rotate_left
    ·rw [if_neg c21] at H
     have c21b0 : ((bt a0 x3_1) == 45) = false := beq_eq_false_iff_ne.mpr c21
     have c21b1 : ((bt a0 x3_1) != 45) = true := bne_iff_ne.mpr c21
     obtain rfl := Option.some.inj H
     have p4 : 0 ≤ (x3_1 : Int) := od
     have q4 : x3_1 < (a0.size : Int) := od
     have hx4 := bt_at a0 x3_1
     replace p4 := eq_true p4
     replace q4 := eq_true q4
     have p16 : 0 ≤ (x3_1 : Int) := od
     have q16 : x3_1 < (a0.size : Int) := od
     have hx16 := bt_at a0 x3_1
     replace p16 := eq_true p16
     replace q16 := eq_true q16
     have p18 : 0 ≤ (x3_1 : Int) := od
     have q18 : x3_1 < (a0.size : Int) := od
     have hx18 := bt_at a0 x3_1
     replace p18 := eq_true p18
     replace q18 := eq_true q18
     have p20 : 0 ≤ (x3_1 : Int) := od
     have q20 : x3_1 < (a0.size : Int) := od
     have hx20 := bt_at a0 x3_1
     replace p20 := eq_true p20
     replace q20 := eq_true q20
     go_wp2
     go_ret
     exact ⟨rs, dr⟩
    rw [if_pos c21] at H
    have c21b0 : ((bt a0 x3_1) == 45) = true := beq_iff_eq.mpr c21
    have c21b1 : ((bt a0 x3_1) != 45) = false := bne_eq_false_iff_eq.mpr c21
    clear c21
    have H' := am H
    clear H
    have p4 : 0 ≤ (x3_1 : Int) := od
    have q4 : x3_1 < (a0.size : Int) := od
    have hx4 := bt_at a0 x3_1
    replace p4 := eq_true p4
    replace q4 := eq_true q4
    have p16 : 0 ≤ (x3_1 : Int) := od
    have q16 : x3_1 < (a0.size : Int) := od
    have hx16 := bt_at a0 x3_1
    replace p16 := eq_true p16
    replace q16 := eq_true q16
    have p18 : 0 ≤ (x3_1 : Int) := od
    have q18 : x3_1 < (a0.size : Int) := od
    have hx18 := bt_at a0 x3_1
    replace p18 := eq_true p18
    replace q18 := eq_true q18
    have p20 : 0 ≤ (x3_1 : Int) := od
    have q20 : x3_1 < (a0.size : Int) := od
    have hx20 := bt_at a0 x3_1
    replace p20 := eq_true p20
    replace q20 := eq_true q20
    go_wp2
    go_roundg k1
    case measure => have := HK1.out; omega
    case rel => exact ⟨(wrap64 (x3_1 + 1)), rs, H', ⟨by have := HK1.out; omega⟩, dr⟩
   rw [if_pos c5] at H
   have c5b0 := decide_eq_true c5
   clear c5
   by_cases c7 : (bt a0 x3_1) ≤ 122
   ·rw [if_pos c7] at H
    have c7b0 := decide_eq_true c7
    clear c7
    have H' := am H
    clear H
    have p4 : 0 ≤ (x3_1 : Int) := od
    have q4 : x3_1 < (a0.size : Int) := od
    have hx4 := bt_at a0 x3_1
    replace p4 := eq_true p4
    replace q4 := eq_true q4
    have p6 : 0 ≤ (x3_1 : Int) := od
    have q6 : x3_1 < (a0.size : Int) := od
    have hx6 := bt_at a0 x3_1
    replace p6 := eq_true p6
    replace q6 := eq_true q6
    go_wp2
    go_roundg k1
    case measure => have := HK1.out; omega
    case rel => exact ⟨(wrap64 (x3_1 + 1)), rs, H', ⟨by have := HK1.out; omega⟩, dr⟩
   rw [if_neg c7] at H
   have c7b0 := decide_eq_false c7
   clear c7
   by_cases c9 : (bt a0 x3_1) ≥ 48
   rotate_left
   ·rw [if_neg c9] at H
    have c9b0 := decide_eq_false c9
    clear c9
    by_cases c15 : ((bt a0 x3_1) = 45)
    rotate_left
    ·rw [if_neg c15] at H
     have c15b0 : ((bt a0 x3_1) == 45) = false := beq_eq_false_iff_ne.mpr c15
     have c15b1 : ((bt a0 x3_1) != 45) = true := bne_iff_ne.mpr c15
     obtain rfl := Option.some.inj H
     have p4 : 0 ≤ (x3_1 : Int) := od
     have q4 : x3_1 < (a0.size : Int) := od
     have hx4 := bt_at a0 x3_1
     replace p4 := eq_true p4
     replace q4 := eq_true q4
     have p6 : 0 ≤ (x3_1 : Int) := od
     have q6 : x3_1 < (a0.size : Int) := od
     have hx6 := bt_at a0 x3_1
     replace p6 := eq_true p6
     replace q6 := eq_true q6
     have p8 : 0 ≤ (x3_1 : Int) := od
     have q8 : x3_1 < (a0.size : Int) := od
     have hx8 := bt_at a0 x3_1
     replace p8 := eq_true p8
     replace q8 := eq_true q8
     have p14 : 0 ≤ (x3_1 : Int) := od
     have q14 : x3_1 < (a0.size : Int) := od
     have hx14 := bt_at a0 x3_1
     replace p14 := eq_true p14
     replace q14 := eq_true q14
     go_wp2
     go_ret
     exact ⟨rs, dr⟩
    rw [if_pos c15] at H
    have c15b0 : ((bt a0 x3_1) == 45) = true := beq_iff_eq.mpr c15
    have c15b1 : ((bt a0 x3_1) != 45) = false := bne_eq_false_iff_eq.mpr c15
    clear c15
    have H' := am H
    clear H
    have p4 : 0 ≤ (x3_1 : Int) := od
    have q4 : x3_1 < (a0.size : Int) := od
    have hx4 := bt_at a0 x3_1
    replace p4 := eq_true p4
    replace q4 := eq_true q4
    have p6 : 0 ≤ (x3_1 : Int) := od
    have q6 : x3_1 < (a0.size : Int) := od
    have hx6 := bt_at a0 x3_1
    replace p6 := eq_true p6
    replace q6 := eq_true q6
    have p8 : 0 ≤ (x3_1 : Int) := od
    have q8 : x3_1 < (a0.size : Int) := od
    have hx8 := bt_at a0 x3_1
    replace p8 := eq_true p8
    replace q8 := eq_true q8
    have p14 : 0 ≤ (x3_1 : Int) := od
    have q14 : x3_1 < (a0.size : Int) := od
    have hx14 := bt_at a0 x3_1
    replace p14 := eq_true p14
    replace q14 := eq_true q14
    go_wp2
    go_roundg k1
    case measure => have := HK1.out; omega
    case rel => exact ⟨(wrap64 (x3_1 + 1)), rs, H', ⟨by have := HK1.out; omega⟩, dr⟩
   rw [if_pos c9] at H
   have c9b0 := decide_eq_true c9
   clear c9
   by_cases c11 : (bt a0 x3_1) ≤ 57
   ·rw [if_pos c11] at H
    have c11b0 := decide_eq_true c11
    clear c11
    have H' := am H
    clear H
    have p4 : 0 ≤ (x3_1 : Int) := od
    have q4 : x3_1 < (a0.size : Int) := od
    have hx4 := bt_at a0 x3_1
    replace p4 := eq_true p4
    replace q4 := eq_true q4
    have p6 : 0 ≤ (x3_1 : Int) := od
    have q6 : x3_1 < (a0.size : Int) := od
    have hx6 := bt_at a0 x3_1
    replace p6 := eq_true p6
    replace q6 := eq_true q6
    have p8 : 0 ≤ (x3_1 : Int) := od
    have q8 : x3_1 < (a0.size : Int) := od
    have hx8 := bt_at a0 x3_1
    replace p8 := eq_true p8
    replace q8 := eq_true q8
    have p10 : 0 ≤ (x3_1 : Int) := od
    have q10 : x3_1 < (a0.size : Int) := od
    have hx10 := bt_at a0 x3_1
    replace p10 := eq_true p10
    replace q10 := eq_true q10
    go_wp2
    go_roundg k1
    case measure => have := HK1.out; omega
    case rel => exact ⟨(wrap64 (x3_1 + 1)), rs, H', ⟨by have := HK1.out; omega⟩, dr⟩
   rw [if_neg c11] at H
   have c11b0 := decide_eq_false c11
   clear c11
   by_cases c13 : ((bt a0 x3_1) = 45)
   rotate_left
   ·rw [if_neg c13] at H
    have c13b0 : ((bt a0 x3_1) == 45) = false := beq_eq_false_iff_ne.mpr c13
    have c13b1 : ((bt a0 x3_1) != 45) = true := bne_iff_ne.mpr c13
    obtain rfl := Option.some.inj H
    have p4 : 0 ≤ (x3_1 : Int) := od
    have q4 : x3_1 < (a0.size : Int) := od
    have hx4 := bt_at a0 x3_1
    replace p4 := eq_true p4
    replace q4 := eq_true q4
    have p6 : 0 ≤ (x3_1 : Int) := od
    have q6 : x3_1 < (a0.size : Int) := od
    have hx6 := bt_at a0 x3_1
    replace p6 := eq_true p6
    replace q6 := eq_true q6
    have p8 : 0 ≤ (x3_1 : Int) := od
    have q8 : x3_1 < (a0.size : Int) := od
    have hx8 := bt_at a0 x3_1
    replace p8 := eq_true p8
    replace q8 := eq_true q8
    have p10 : 0 ≤ (x3_1 : Int) := od
    have q10 : x3_1 < (a0.size : Int) := od
    have hx10 := bt_at a0 x3_1
    replace p10 := eq_true p10
    replace q10 := eq_true q10
    have p12 : 0 ≤ (x3_1 : Int) := od
    have q12 : x3_1 < (a0.size : Int) := od
    have hx12 := bt_at a0 x3_1
    replace p12 := eq_true p12
    replace q12 := eq_true q12
    go_wp2
    go_ret
    exact ⟨rs, dr⟩
   rw [if_pos c13] at H
   have c13b0 : ((bt a0 x3_1) == 45) = true := beq_iff_eq.mpr c13
   have c13b1 : ((bt a0 x3_1) != 45) = false := bne_eq_false_iff_eq.mpr c13
   clear c13
   have H' := am H
   clear H
   have p4 : 0 ≤ (x3_1 : Int) := od
   have q4 : x3_1 < (a0.size : Int) := od
   have hx4 := bt_at a0 x3_1
   replace p4 := eq_true p4
   replace q4 := eq_true q4
   have p6 : 0 ≤ (x3_1 : Int) := od
   have q6 : x3_1 < (a0.size : Int) := od
   have hx6 := bt_at a0 x3_1
   replace p6 := eq_true p6
   replace q6 := eq_true q6
   have p8 : 0 ≤ (x3_1 : Int) := od
   have q8 : x3_1 < (a0.size : Int) := od
   have hx8 := bt_at a0 x3_1
   replace p8 := eq_true p8
   replace q8 := eq_true q8
   have p10 : 0 ≤ (x3_1 : Int) := od
   have q10 : x3_1 < (a0.size : Int) := od
   have hx10 := bt_at a0 x3_1
   replace p10 := eq_true p10
   replace q10 := eq_true q10
   have p12 : 0 ≤ (x3_1 : Int) := od
   have q12 : x3_1 < (a0.size : Int) := od
   have hx12 := bt_at a0 x3_1
   replace p12 := eq_true p12
   replace q12 := eq_true q12
   go_wp2
   go_roundg k1
   case measure => have := HK1.out; omega
   case rel => exact ⟨(wrap64 (x3_1 + 1)), rs, H', ⟨by have := HK1.out; omega⟩, dr⟩

/-! ### impl_FieldsOk: function 62 -/
theorem u62HB {p : Prop} (h : p := by repeat (first | (with_reducible first | exact HB.out | apply below_alloc | apply pw_below_drewN | apply below_drew1 | refine below_set ?_ GE506.out) | exact HB.out)) : p := h
def impl_FieldsOk.l0 : Nat → List (S84) → List (S84) → Int → Int → Option (Bool)
 | 0, _, _, _, _ => none
 | k + 1, x0, x5, x6, x7 => if x7 < x6 then (if 0 ≤ x7 then (if x7 < (x5.length : Int) then ((impl_TokenOk.f k ((rd_T84 x5 x7).f0)).bind fun t507 => (if t507 = true then ((impl_ValueOk.f k ((rd_T84 x5 x7).f1)).bind fun t508 => (if t508 = true then (if ((rd_T84 x5 x7).f0).toList = ([99, 111, 110, 116, 101, 110, 116, 45, 108, 101, 110, 103, 116, 104] : List UInt8) then (some false) else ((impl_fieldAt.f x0 ((rd_T84 x5 x7).f0)).bind fun t509 => (if t509 = x7 then (impl_FieldsOk.l0 k x0 x5 x6 (wrap64 (x7 + 1))) else (some false)))) else (some false))) else (some false))) else (none)) else (none)) else (some (decide ((x0.length : Int) ≤ 8)))
def impl_FieldsOk.f (k : Nat) (l0 : List (S84)) : Option (Bool) := impl_FieldsOk.l0 k l0 l0 (l0.length : Int) 0
theorem impl_FieldsOk.mono_l : ∀ k, (∀ y0 y1 y2 y3, LeO (impl_FieldsOk.l0 k y0 y1 y2 y3) (impl_FieldsOk.l0 (k + 1) y0 y1 y2 y3))
 | 0 => fun _ _ _ _ r h => by simp [impl_FieldsOk.l0] at h
 | k + 1 => by
  have ih0 := impl_FieldsOk.mono_l k
  ·intro y0 y1 y2 y3
   unfold impl_FieldsOk.l0
   have m0 := @impl_TokenOk.mono
   have m1 := @impl_ValueOk.mono
   exact mo
theorem impl_FieldsOk.mono : ∀ a0 k, LeO (impl_FieldsOk.f k a0) (impl_FieldsOk.f (k + 1) a0) := by
 intro a0 k
 have ih0 := impl_FieldsOk.mono_l k
 unfold impl_FieldsOk.f
 have m0 := @impl_TokenOk.mono
 have m1 := @impl_ValueOk.mono
 exact mo
set_option maxHeartbeats 8000000 in
set_option maxRecDepth 100000 in
theorem impl_FieldsOk.calls (k : Nat) (A0 : Option Addr) (c0 : Nat) (l0 : List (S84)) (r : Bool) (w : World) (hr0 : Kd.C k84 w A0 l0.length l0) (hc0 : l0.length ≤ c0) (h : impl_FieldsOk.f k l0 = some r) :
  Calls Tryd.prog 62 #[.slice A0 l0.length c0] w fun e w' => e = .returned (.bool r) ∧ Below w.heap.size w w' := by
 have hu84 := Tryd.underlying84
 have HR0 := am hr0
 have HC0 := am hc0
 clear hr0 hc0
 have HB := am (Below.refl w.heap.size w)
 unfold impl_FieldsOk.f at h
 have H := h
 clear h
 have H' := am H
 clear H
 go_enter Tryd.func62, Tryd.ntmps62
 go_wp2
 (try simp only [Act.put, List.setIfInBounds_toArray, List.set_cons_zero, List.set_cons_succ])
 go_loopg [7] k (fun kq v7 w' => ∃ (x7_1 : Int), v7 = .int .i64 x7_1 ∧ Aside0 (impl_FieldsOk.l0 kq l0 l0 (l0.length : Int) x7_1 = some r) ∧ Aside0 (kq ≤ k) ∧ Aside0 (Below w.heap.size w w'))
 case atStart => exact ⟨(0), rs, H', ⟨Nat.le_refl _⟩, ⟨u62HB⟩⟩
 case round =>
  clear H'
  obtain ⟨x7_1, rfl, HA, HK1, HB⟩ := hrel
  cases gk with
  | zero => exact absurd HA.out (by simp [impl_FieldsOk.l0])
  | succ k1 =>
   have H := HA.out
   clear HA
   simp only [impl_FieldsOk.l0] at H
   by_cases c2 : x7_1 < (l0.length : Int)
   rotate_left
   ·rw [if_neg c2] at H
    have c2b0 := decide_eq_false c2
    clear c2
    obtain rfl := Option.some.inj H
    go_wp2
    go_ret
    exact ⟨rf, bl⟩
   rw [if_pos c2] at H
   have c2b0 := decide_eq_true c2
   clear c2
   revert H
   refine ifn fun c3 H => ?_
   have c3b0 := decide_eq_true c3
   clear c3
   revert H
   refine ifn fun c4 H => ?_
   have c4b0 := decide_eq_true c4
   clear c4
   revert H
   refine ok1 fun t507 A5 H => ?_
   by_cases c6 : t507 = true
   rotate_left
   ·replace c6 := Bool.eq_false_iff.mpr c6
    subst c6
    rw [if_neg (show ¬ (false = true) by decide)] at H
    obtain rfl := Option.some.inj H
    have p505 : 0 ≤ (x7_1 : Int) := od
    have q505 : x7_1 < (l0.length : Int) := od
    obtain ⟨ad505, e505, hx505_0, hx505_1⟩ := at_T84 HR0.out x7_1 p505 q505
    cases e505
    replace hx505_0 := hcw hx505_0
    replace hx505_1 := hcw hx505_1
    replace p505 := eq_true p505
    replace q505 := eq_true q505
    go_wp2_with (first | (refine bx 4 #[.string (⟨#[]⟩ : ByteArray), .string (⟨#[]⟩ : ByteArray)] 84 ?_; intro gb506 hg w29 hbox hb; have BK506 := am (hbox); have GW506 := am (sz hg : w.heap.size ≤ gb506); have GE506 := am (sz hg : w.heap.size ≤ gb506); replace HB := am (below_step bl hb); clear hb hbox hg; obtain ⟨z30_0, y30_0, z30_1, y30_1⟩ := cl2 BK506) | (refine gl 14 Tryd.func116 #[.string ((rd_T84 l0 x7_1).f0)] ?_; (with_reducible refine (impl_TokenOk.calls k1 ((rd_T84 l0 x7_1).f0) false _ A5.out).mono ?_); rintro e w' ⟨rfl, ⟨nd, rfl⟩⟩; refine ⟨_, rfl, ?_⟩))
    go_ret
    exact ⟨rf, bl⟩
   subst c6
   rw [if_pos rfl] at H
   revert H
   refine ok1 fun t508 A7 H => ?_
   by_cases c8 : t508 = true
   rotate_left
   ·replace c8 := Bool.eq_false_iff.mpr c8
    subst c8
    rw [if_neg (show ¬ (false = true) by decide)] at H
    obtain rfl := Option.some.inj H
    have p505 : 0 ≤ (x7_1 : Int) := od
    have q505 : x7_1 < (l0.length : Int) := od
    obtain ⟨ad505, e505, hx505_0, hx505_1⟩ := at_T84 HR0.out x7_1 p505 q505
    cases e505
    replace hx505_0 := hcw hx505_0
    replace hx505_1 := hcw hx505_1
    replace p505 := eq_true p505
    replace q505 := eq_true q505
    go_wp2_with (first | (refine bx 4 #[.string (⟨#[]⟩ : ByteArray), .string (⟨#[]⟩ : ByteArray)] 84 ?_; intro gb506 hg w26 hbox hb; have BK506 := am (hbox); have GW506 := am (sz hg : w.heap.size ≤ gb506); have GE506 := am (sz hg : w.heap.size ≤ gb506); replace HB := am (below_step bl hb); clear hb hbox hg; obtain ⟨z27_0, y27_0, z27_1, y27_1⟩ := cl2 BK506) | (refine gl 14 Tryd.func116 #[.string ((rd_T84 l0 x7_1).f0)] ?_; (with_reducible refine (impl_TokenOk.calls k1 ((rd_T84 l0 x7_1).f0) true _ A5.out).mono ?_); rintro e w' ⟨rfl, ⟨nd, rfl⟩⟩; refine ⟨_, rfl, ?_⟩) | (go_at_call 79; (with_reducible refine (impl_ValueOk.calls k1 ((rd_T84 l0 x7_1).f1) false _ A7.out).mono ?_); rintro e w28 ⟨rfl, hb⟩; replace BK506 := am (blk_below (g := gb506) (o := .cells #[.string ((rd_T84 l0 x7_1).f0), .string ((rd_T84 l0 x7_1).f1)] 84 (0, 0)) (pt0 BK506) hb); replace HB := am (below_step bl hb); clear hb))
    go_ret
    exact ⟨rf, bl⟩
   subst c8
   rw [if_pos rfl] at H
   by_cases c9 : ((rd_T84 l0 x7_1).f0).toList = ([99, 111, 110, 116, 101, 110, 116, 45, 108, 101, 110, 103, 116, 104] : List UInt8)
   ·rw [if_pos c9] at H
    have c9b0 : (((rd_T84 l0 x7_1).f0).toList == ([99, 111, 110, 116, 101, 110, 116, 45, 108, 101, 110, 103, 116, 104] : List UInt8)) = true := beq_iff_eq.mpr c9
    have c9b1 : (((rd_T84 l0 x7_1).f0).toList != ([99, 111, 110, 116, 101, 110, 116, 45, 108, 101, 110, 103, 116, 104] : List UInt8)) = false := bne_eq_false_iff_eq.mpr c9
    clear c9
    obtain rfl := Option.some.inj H
    have p505 : 0 ≤ (x7_1 : Int) := od
    have q505 : x7_1 < (l0.length : Int) := od
    obtain ⟨ad505, e505, hx505_0, hx505_1⟩ := at_T84 HR0.out x7_1 p505 q505
    cases e505
    replace hx505_0 := hcw hx505_0
    replace hx505_1 := hcw hx505_1
    replace p505 := eq_true p505
    replace q505 := eq_true q505
    go_wp2_with (first | (refine bx 4 #[.string (⟨#[]⟩ : ByteArray), .string (⟨#[]⟩ : ByteArray)] 84 ?_; intro gb506 hg w10 hbox hb; have BK506 := am (hbox); have GW506 := am (sz hg : w.heap.size ≤ gb506); have GE506 := am (sz hg : w.heap.size ≤ gb506); replace HB := am (below_step bl hb); clear hb hbox hg; obtain ⟨z11_0, y11_0, z11_1, y11_1⟩ := cl2 BK506) | (refine gl 14 Tryd.func116 #[.string ((rd_T84 l0 x7_1).f0)] ?_; (with_reducible refine (impl_TokenOk.calls k1 ((rd_T84 l0 x7_1).f0) true _ A5.out).mono ?_); rintro e w' ⟨rfl, ⟨nd, rfl⟩⟩; refine ⟨_, rfl, ?_⟩) | (go_at_call 79; (with_reducible refine (impl_ValueOk.calls k1 ((rd_T84 l0 x7_1).f1) true _ A7.out).mono ?_); rintro e w12 ⟨rfl, hb⟩; replace BK506 := am (blk_below (g := gb506) (o := .cells #[.string ((rd_T84 l0 x7_1).f0), .string ((rd_T84 l0 x7_1).f1)] 84 (0, 0)) (pt0 BK506) hb); replace HB := am (below_step bl hb); clear hb; obtain ⟨z13_0, y13_0, z13_1, y13_1⟩ := cl2 BK506))
    go_ret
    exact ⟨rf, bl⟩
   rw [if_neg c9] at H
   have c9b0 : (((rd_T84 l0 x7_1).f0).toList == ([99, 111, 110, 116, 101, 110, 116, 45, 108, 101, 110, 103, 116, 104] : List UInt8)) = false := beq_eq_false_iff_ne.mpr c9
   have c9b1 : (((rd_T84 l0 x7_1).f0).toList != ([99, 111, 110, 116, 101, 110, 116, 45, 108, 101, 110, 103, 116, 104] : List UInt8)) = true := bne_iff_ne.mpr c9
   revert H
   refine ok1 fun t509 A14 H => ?_
   by_cases c15 : t509 = x7_1
   rotate_left
   ·rw [if_neg c15] at H
    have c15b0 : (t509 == x7_1) = false := beq_eq_false_iff_ne.mpr c15
    have c15b1 : (t509 != x7_1) = true := bne_iff_ne.mpr c15
    obtain rfl := Option.some.inj H
    have p505 : 0 ≤ (x7_1 : Int) := od
    have q505 : x7_1 < (l0.length : Int) := od
    obtain ⟨ad505, e505, hx505_0, hx505_1⟩ := at_T84 HR0.out x7_1 p505 q505
    cases e505
    replace hx505_0 := hcw hx505_0
    replace hx505_1 := hcw hx505_1
    replace p505 := eq_true p505
    replace q505 := eq_true q505
    go_wp2_with (first | (refine bx 4 #[.string (⟨#[]⟩ : ByteArray), .string (⟨#[]⟩ : ByteArray)] 84 ?_; intro gb506 hg w21 hbox hb; have BK506 := am (hbox); have GW506 := am (sz hg : w.heap.size ≤ gb506); have GE506 := am (sz hg : w.heap.size ≤ gb506); replace HB := am (below_step bl hb); clear hb hbox hg; obtain ⟨z22_0, y22_0, z22_1, y22_1⟩ := cl2 BK506) | (refine gl 14 Tryd.func116 #[.string ((rd_T84 l0 x7_1).f0)] ?_; (with_reducible refine (impl_TokenOk.calls k1 ((rd_T84 l0 x7_1).f0) true _ A5.out).mono ?_); rintro e w' ⟨rfl, ⟨nd, rfl⟩⟩; refine ⟨_, rfl, ?_⟩) | (go_at_call 79; (with_reducible refine (impl_ValueOk.calls k1 ((rd_T84 l0 x7_1).f1) true _ A7.out).mono ?_); rintro e w23 ⟨rfl, hb⟩; replace BK506 := am (blk_below (g := gb506) (o := .cells #[.string ((rd_T84 l0 x7_1).f0), .string ((rd_T84 l0 x7_1).f1)] 84 (0, 0)) (pt0 BK506) hb); replace HB := am (below_step bl hb); clear hb; obtain ⟨z24_0, y24_0, z24_1, y24_1⟩ := cl2 BK506) | (go_at_call 59; (with_reducible refine (impl_fieldAt.calls _ _ l0 ((rd_T84 l0 x7_1).f0) t509 _ ?side1 ?side2 A14.out).mono ?_); (case side1 => exact cb HR0); (case side2 => exact HC0.out); rintro e w25 ⟨rfl, hb⟩; replace BK506 := kb BK506 hb; replace HB := am (below_step bl hb); clear hb))
    go_ret
    exact ⟨rf, bl⟩
   rw [if_pos c15] at H
   have c15b0 : (t509 == x7_1) = true := beq_iff_eq.mpr c15
   have c15b1 : (t509 != x7_1) = false := bne_eq_false_iff_eq.mpr c15
   clear c15
   have H' := am H
   clear H
   have p505 : 0 ≤ (x7_1 : Int) := od
   have q505 : x7_1 < (l0.length : Int) := od
   obtain ⟨ad505, e505, hx505_0, hx505_1⟩ := at_T84 HR0.out x7_1 p505 q505
   cases e505
   replace hx505_0 := hcw hx505_0
   replace hx505_1 := hcw hx505_1
   replace p505 := eq_true p505
   replace q505 := eq_true q505
   go_wp2_with (first | (refine bx 4 #[.string (⟨#[]⟩ : ByteArray), .string (⟨#[]⟩ : ByteArray)] 84 ?_; intro gb506 hg w16 hbox hb; have BK506 := am (hbox); have GW506 := am (sz hg : w.heap.size ≤ gb506); have GE506 := am (sz hg : w.heap.size ≤ gb506); replace HB := am (below_step bl hb); clear hb hbox hg; obtain ⟨z17_0, y17_0, z17_1, y17_1⟩ := cl2 BK506) | (refine gl 14 Tryd.func116 #[.string ((rd_T84 l0 x7_1).f0)] ?_; (with_reducible refine (impl_TokenOk.calls k1 ((rd_T84 l0 x7_1).f0) true _ A5.out).mono ?_); rintro e w' ⟨rfl, ⟨nd, rfl⟩⟩; refine ⟨_, rfl, ?_⟩) | (go_at_call 79; (with_reducible refine (impl_ValueOk.calls k1 ((rd_T84 l0 x7_1).f1) true _ A7.out).mono ?_); rintro e w18 ⟨rfl, hb⟩; replace BK506 := am (blk_below (g := gb506) (o := .cells #[.string ((rd_T84 l0 x7_1).f0), .string ((rd_T84 l0 x7_1).f1)] 84 (0, 0)) (pt0 BK506) hb); replace HB := am (below_step bl hb); clear hb; obtain ⟨z19_0, y19_0, z19_1, y19_1⟩ := cl2 BK506) | (go_at_call 59; (with_reducible refine (impl_fieldAt.calls _ _ l0 ((rd_T84 l0 x7_1).f0) t509 _ ?side1 ?side2 A14.out).mono ?_); (case side1 => exact cb HR0); (case side2 => exact HC0.out); rintro e w20 ⟨rfl, hb⟩; replace BK506 := kb BK506 hb; replace HB := am (below_step bl hb); clear hb))
   go_roundg k1
   case measure => have := HK1.out; omega
   case rel => exact ⟨(wrap64 (x7_1 + 1)), rs, H', ⟨by have := HK1.out; omega⟩, ⟨u62HB⟩⟩

/-! ### spec_l3Path: function 71 -/
def spec_l3Path.l0 : Nat → ByteArray → Int → Option (Bool)
 | 0, _, _ => none
 | k + 1, x0, x3 => if x3 < (x0.size : Int) then (if 0 ≤ x3 then (if (bt x0 x3) < 33 then (some false) else (if (bt x0 x3) > 126 then (some false) else (spec_l3Path.l0 k x0 (wrap64 (x3 + 1))))) else (none)) else ((spec_l1In.f (x0.size : Int) 1 60).bind fun t552 => (if t552 = true then (if 0 < (x0.size : Int) then (some ((bt x0 0) == 47)) else (none)) else (some false)))
def spec_l3Path.f (k : Nat) (a0 : ByteArray) : Option (Bool) := spec_l3Path.l0 k a0 0
theorem spec_l3Path.mono_l : ∀ k, (∀ y0 y1, LeO (spec_l3Path.l0 k y0 y1) (spec_l3Path.l0 (k + 1) y0 y1))
 | 0 => fun _ _ r h => by simp [spec_l3Path.l0] at h
 | k + 1 => by
  have ih0 := spec_l3Path.mono_l k
  ·intro y0 y1
   unfold spec_l3Path.l0
   exact mo
theorem spec_l3Path.mono : ∀ a0 k, LeO (spec_l3Path.f k a0) (spec_l3Path.f (k + 1) a0) := by
 intro a0 k
 have ih0 := spec_l3Path.mono_l k
 unfold spec_l3Path.f
 exact mo
set_option maxHeartbeats 8000000 in
set_option maxRecDepth 100000 in
theorem spec_l3Path.calls (k : Nat) (a0 : ByteArray) (r : Bool) (w : World) (h : spec_l3Path.f k a0 = some r) :
  Calls Tryd.prog 71 #[.string a0] w fun e w' => e = .returned (.bool r) ∧ Drawn0 w w' := by
 unfold spec_l3Path.f at h
 have H := h
 clear h
 have H' := am H
 clear H
 go_enter Tryd.func71, Tryd.ntmps71
 go_wp2
 (try simp only [Act.put, List.setIfInBounds_toArray, List.set_cons_zero, List.set_cons_succ])
 go_loopg [3] k (fun kq v3 w' => ∃ (x3_1 : Int), v3 = .int .i64 x3_1 ∧ Aside0 (spec_l3Path.l0 kq a0 x3_1 = some r) ∧ Aside0 (kq ≤ k) ∧ Drawn0 w w')
 case atStart => exact ⟨(0), rs, H', ⟨Nat.le_refl _⟩, dr⟩
 case round =>
  clear H'
  obtain ⟨x3_1, rfl, HA, HK1, ⟨m1, rfl⟩⟩ := hrel
  cases gk with
  | zero => exact absurd HA.out (by simp [spec_l3Path.l0])
  | succ k1 =>
   have H := HA.out
   clear HA
   simp only [spec_l3Path.l0] at H
   by_cases c2 : x3_1 < (a0.size : Int)
   rotate_left
   ·rw [if_neg c2] at H
    have c2b0 := decide_eq_false c2
    clear c2
    revert H
    refine ok1 fun t552 A8 H => ?_
    by_cases c9 : t552 = true
    rotate_left
    ·replace c9 := Bool.eq_false_iff.mpr c9
     subst c9
     rw [if_neg (show ¬ (false = true) by decide)] at H
     obtain rfl := Option.some.inj H
     go_wp2_with (first | (refine gl 22 Tryd.func72 #[.int .i64 (a0.size : Int), .int .i64 1, .int .i64 60] ?_; (with_reducible refine (spec_l1In.calls (a0.size : Int) 1 60 false _ A8.out).mono ?_); rintro e w' ⟨rfl, ⟨nd, rfl⟩⟩; refine ⟨_, rfl, ?_⟩))
     go_ret
     exact ⟨rs, dr⟩
    subst c9
    rw [if_pos rfl] at H
    revert H
    refine ifn fun c10 H => ?_
    have c10b0 := decide_eq_true c10
    have c10b1 : decide (0 < a0.size) = true := decide_eq_true (by omega)
    clear c10
    obtain rfl := Option.some.inj H
    go_wp2_with (first | (refine gl 22 Tryd.func72 #[.int .i64 (a0.size : Int), .int .i64 1, .int .i64 60] ?_; (with_reducible refine (spec_l1In.calls (a0.size : Int) 1 60 true _ A8.out).mono ?_); rintro e w' ⟨rfl, ⟨nd, rfl⟩⟩; refine ⟨_, rfl, ?_⟩; have p11 : 0 ≤ (0 : Int) := (by omega); have q11 : 0 < a0.size := (by have : (0 : Int) < (a0.size : Int) := od; omega); have hx11 : ∀ h : 0 < a0.size, ((a0[0]'h).toNat : Int) = bt a0 0 := bt_at a0 0; clear p11; have qi11 : (0 < (a0.size : Int)) = True := eq_true (od); replace q11 := eq_true q11))
    go_ret
    exact ⟨rs, dr⟩
   rw [if_pos c2] at H
   have c2b0 := decide_eq_true c2
   clear c2
   revert H
   refine ifn fun c3 H => ?_
   have c3b0 := decide_eq_true c3
   clear c3
   by_cases c5 : (bt a0 x3_1) < 33
   ·rw [if_pos c5] at H
    have c5b0 := decide_eq_true c5
    clear c5
    obtain rfl := Option.some.inj H
    have p4 : 0 ≤ (x3_1 : Int) := od
    have q4 : x3_1 < (a0.size : Int) := od
    have hx4 := bt_at a0 x3_1
    replace p4 := eq_true p4
    replace q4 := eq_true q4
    go_wp2
    go_ret
    exact ⟨rs, dr⟩
   rw [if_neg c5] at H
   have c5b0 := decide_eq_false c5
   clear c5
   by_cases c7 : (bt a0 x3_1) > 126
   ·rw [if_pos c7] at H
    have c7b0 := decide_eq_true c7
    clear c7
    obtain rfl := Option.some.inj H
    have p4 : 0 ≤ (x3_1 : Int) := od
    have q4 : x3_1 < (a0.size : Int) := od
    have hx4 := bt_at a0 x3_1
    replace p4 := eq_true p4
    replace q4 := eq_true q4
    have p6 : 0 ≤ (x3_1 : Int) := od
    have q6 : x3_1 < (a0.size : Int) := od
    have hx6 := bt_at a0 x3_1
    replace p6 := eq_true p6
    replace q6 := eq_true q6
    go_wp2
    go_ret
    exact ⟨rs, dr⟩
   rw [if_neg c7] at H
   have c7b0 := decide_eq_false c7
   clear c7
   have H' := am H
   clear H
   have p4 : 0 ≤ (x3_1 : Int) := od
   have q4 : x3_1 < (a0.size : Int) := od
   have hx4 := bt_at a0 x3_1
   replace p4 := eq_true p4
   replace q4 := eq_true q4
   have p6 : 0 ≤ (x3_1 : Int) := od
   have q6 : x3_1 < (a0.size : Int) := od
   have hx6 := bt_at a0 x3_1
   replace p6 := eq_true p6
   replace q6 := eq_true q6
   go_wp2
   go_roundg k1
   case measure => have := HK1.out; omega
   case rel => exact ⟨(wrap64 (x3_1 + 1)), rs, H', ⟨by have := HK1.out; omega⟩, dr⟩

/-! ### spec_ValueOk: function 76 -/
def spec_ValueOk.l0 : Nat → ByteArray → Int → Option (Bool)
 | 0, _, _ => none
 | k + 1, x0, x3 => if x3 < (x0.size : Int) then (if 0 ≤ x3 then (if (bt x0 x3) < 32 then (some false) else (if (bt x0 x3) > 126 then (some false) else (spec_ValueOk.l0 k x0 (wrap64 (x3 + 1))))) else (none)) else ((spec_l1In.f (x0.size : Int) 1 60).bind fun t553 => (if t553 = true then ((spec_Trim.f k x0).bind fun t554 => (some (t554.toList == x0.toList))) else (some false)))
def spec_ValueOk.f (k : Nat) (a0 : ByteArray) : Option (Bool) := spec_ValueOk.l0 k a0 0
theorem spec_ValueOk.mono_l : ∀ k, (∀ y0 y1, LeO (spec_ValueOk.l0 k y0 y1) (spec_ValueOk.l0 (k + 1) y0 y1))
 | 0 => fun _ _ r h => by simp [spec_ValueOk.l0] at h
 | k + 1 => by
  have ih0 := spec_ValueOk.mono_l k
  ·intro y0 y1
   unfold spec_ValueOk.l0
   have m0 := @spec_Trim.mono
   exact mo
theorem spec_ValueOk.mono : ∀ a0 k, LeO (spec_ValueOk.f k a0) (spec_ValueOk.f (k + 1) a0) := by
 intro a0 k
 have ih0 := spec_ValueOk.mono_l k
 unfold spec_ValueOk.f
 have m0 := @spec_Trim.mono
 exact mo
set_option maxHeartbeats 8000000 in
set_option maxRecDepth 100000 in
theorem spec_ValueOk.calls (k : Nat) (a0 : ByteArray) (r : Bool) (w : World) (h : spec_ValueOk.f k a0 = some r) :
  Calls Tryd.prog 76 #[.string a0] w fun e w' => e = .returned (.bool r) ∧ Drawn0 w w' := by
 unfold spec_ValueOk.f at h
 have H := h
 clear h
 have H' := am H
 clear H
 go_enter Tryd.func76, Tryd.ntmps76
 go_wp2
 (try simp only [Act.put, List.setIfInBounds_toArray, List.set_cons_zero, List.set_cons_succ])
 go_loopg [3] k (fun kq v3 w' => ∃ (x3_1 : Int), v3 = .int .i64 x3_1 ∧ Aside0 (spec_ValueOk.l0 kq a0 x3_1 = some r) ∧ Aside0 (kq ≤ k) ∧ Drawn0 w w')
 case atStart => exact ⟨(0), rs, H', ⟨Nat.le_refl _⟩, dr⟩
 case round =>
  clear H'
  obtain ⟨x3_1, rfl, HA, HK1, ⟨m1, rfl⟩⟩ := hrel
  cases gk with
  | zero => exact absurd HA.out (by simp [spec_ValueOk.l0])
  | succ k1 =>
   have H := HA.out
   clear HA
   simp only [spec_ValueOk.l0] at H
   by_cases c2 : x3_1 < (a0.size : Int)
   rotate_left
   ·rw [if_neg c2] at H
    have c2b0 := decide_eq_false c2
    clear c2
    revert H
    refine ok1 fun t553 A8 H => ?_
    by_cases c9 : t553 = true
    rotate_left
    ·replace c9 := Bool.eq_false_iff.mpr c9
     subst c9
     rw [if_neg (show ¬ (false = true) by decide)] at H
     obtain rfl := Option.some.inj H
     go_wp2_with (first | (refine gl 22 Tryd.func72 #[.int .i64 (a0.size : Int), .int .i64 1, .int .i64 60] ?_; (with_reducible refine (spec_l1In.calls (a0.size : Int) 1 60 false _ A8.out).mono ?_); rintro e w' ⟨rfl, ⟨nd, rfl⟩⟩; refine ⟨_, rfl, ?_⟩))
     go_ret
     exact ⟨rs, dr⟩
    subst c9
    rw [if_pos rfl] at H
    revert H
    refine ok1 fun t554 A10 H => ?_
    obtain rfl := Option.some.inj H
    go_wp2_with (first | (refine gl 22 Tryd.func72 #[.int .i64 (a0.size : Int), .int .i64 1, .int .i64 60] ?_; (with_reducible refine (spec_l1In.calls (a0.size : Int) 1 60 true _ A8.out).mono ?_); rintro e w' ⟨rfl, ⟨nd, rfl⟩⟩; refine ⟨_, rfl, ?_⟩) | (go_at_call 123; (with_reducible refine (spec_Trim.calls k1 a0 t554 _ A10.out).mono ?_); rintro e w' ⟨rfl, ⟨nd, rfl⟩⟩))
    go_ret
    exact ⟨rs, dr⟩
   rw [if_pos c2] at H
   have c2b0 := decide_eq_true c2
   clear c2
   revert H
   refine ifn fun c3 H => ?_
   have c3b0 := decide_eq_true c3
   clear c3
   by_cases c5 : (bt a0 x3_1) < 32
   ·rw [if_pos c5] at H
    have c5b0 := decide_eq_true c5
    clear c5
    obtain rfl := Option.some.inj H
    have p4 : 0 ≤ (x3_1 : Int) := od
    have q4 : x3_1 < (a0.size : Int) := od
    have hx4 := bt_at a0 x3_1
    replace p4 := eq_true p4
    replace q4 := eq_true q4
    go_wp2
    go_ret
    exact ⟨rs, dr⟩
   rw [if_neg c5] at H
   have c5b0 := decide_eq_false c5
   clear c5
   by_cases c7 : (bt a0 x3_1) > 126
   ·rw [if_pos c7] at H
    have c7b0 := decide_eq_true c7
    clear c7
    obtain rfl := Option.some.inj H
    have p4 : 0 ≤ (x3_1 : Int) := od
    have q4 : x3_1 < (a0.size : Int) := od
    have hx4 := bt_at a0 x3_1
    replace p4 := eq_true p4
    replace q4 := eq_true q4
    have p6 : 0 ≤ (x3_1 : Int) := od
    have q6 : x3_1 < (a0.size : Int) := od
    have hx6 := bt_at a0 x3_1
    replace p6 := eq_true p6
    replace q6 := eq_true q6
    go_wp2
    go_ret
    exact ⟨rs, dr⟩
   rw [if_neg c7] at H
   have c7b0 := decide_eq_false c7
   clear c7
   have H' := am H
   clear H
   have p4 : 0 ≤ (x3_1 : Int) := od
   have q4 : x3_1 < (a0.size : Int) := od
   have hx4 := bt_at a0 x3_1
   replace p4 := eq_true p4
   replace q4 := eq_true q4
   have p6 : 0 ≤ (x3_1 : Int) := od
   have q6 : x3_1 < (a0.size : Int) := od
   have hx6 := bt_at a0 x3_1
   replace p6 := eq_true p6
   replace q6 := eq_true q6
   go_wp2
   go_roundg k1
   case measure => have := HK1.out; omega
   case rel => exact ⟨(wrap64 (x3_1 + 1)), rs, H', ⟨by have := HK1.out; omega⟩, dr⟩

/-! ### spec_TokenOk: function 120 -/
def spec_TokenOk.l0 : Nat → ByteArray → Int → Option (Bool)
 | 0, _, _ => none
 | k + 1, x0, x3 => if x3 < (x0.size : Int) then (if 0 ≤ x3 then (if (bt x0 x3) < 97 then (if (bt x0 x3) < 48 then (if (bt x0 x3) = 45 then (spec_TokenOk.l0 k x0 (wrap64 (x3 + 1))) else (some false)) else (if (bt x0 x3) > 57 then (if (bt x0 x3) = 45 then (spec_TokenOk.l0 k x0 (wrap64 (x3 + 1))) else (some false)) else (spec_TokenOk.l0 k x0 (wrap64 (x3 + 1))))) else (if (bt x0 x3) > 122 then (if (bt x0 x3) < 48 then (if (bt x0 x3) = 45 then (spec_TokenOk.l0 k x0 (wrap64 (x3 + 1))) else (some false)) else (if (bt x0 x3) > 57 then (if (bt x0 x3) = 45 then (spec_TokenOk.l0 k x0 (wrap64 (x3 + 1))) else (some false)) else (spec_TokenOk.l0 k x0 (wrap64 (x3 + 1))))) else (spec_TokenOk.l0 k x0 (wrap64 (x3 + 1))))) else (none)) else ((spec_l1In.f (x0.size : Int) 1 20).bind fun t555 => (some t555))
def spec_TokenOk.f (k : Nat) (a0 : ByteArray) : Option (Bool) := spec_TokenOk.l0 k a0 0
theorem spec_TokenOk.mono_l : ∀ k, (∀ y0 y1, LeO (spec_TokenOk.l0 k y0 y1) (spec_TokenOk.l0 (k + 1) y0 y1))
 | 0 => fun _ _ r h => by simp [spec_TokenOk.l0] at h
 | k + 1 => by
  have ih0 := spec_TokenOk.mono_l k
  ·intro y0 y1
   unfold spec_TokenOk.l0
   exact mo
theorem spec_TokenOk.mono : ∀ a0 k, LeO (spec_TokenOk.f k a0) (spec_TokenOk.f (k + 1) a0) := by
 intro a0 k
 have ih0 := spec_TokenOk.mono_l k
 unfold spec_TokenOk.f
 exact mo
set_option maxHeartbeats 8000000 in
set_option maxRecDepth 100000 in
theorem spec_TokenOk.calls (k : Nat) (a0 : ByteArray) (r : Bool) (w : World) (h : spec_TokenOk.f k a0 = some r) :
  Calls Tryd.prog 120 #[.string a0] w fun e w' => e = .returned (.bool r) ∧ Drawn0 w w' := by
 unfold spec_TokenOk.f at h
 have H := h
 clear h
 have H' := am H
 clear H
 go_enter Tryd.func120, Tryd.ntmps120
 go_wp2
 (try simp only [Act.put, List.setIfInBounds_toArray, List.set_cons_zero, List.set_cons_succ])
 go_loopg [3] k (fun kq v3 w' => ∃ (x3_1 : Int), v3 = .int .i64 x3_1 ∧ Aside0 (spec_TokenOk.l0 kq a0 x3_1 = some r) ∧ Aside0 (kq ≤ k) ∧ Drawn0 w w')
 case atStart => exact ⟨(0), rs, H', ⟨Nat.le_refl _⟩, dr⟩
 case round =>
  clear H'
  try clear c1
  obtain ⟨x3_1, rfl, HA, HK1, ⟨m1, rfl⟩⟩ := hrel
  cases gk with
  | zero => exact absurd HA.out (by simp [spec_TokenOk.l0])
  | succ k1 =>
   have H := HA.out
   clear HA
   simp only [spec_TokenOk.l0] at H
   by_cases c2 : x3_1 < (a0.size : Int)
   rotate_left
   ·rw [if_neg c2] at H
    have c2b0 := decide_eq_false c2
    clear c2
    revert H
    refine ok1 fun t555 A15 H => ?_
    obtain rfl := Option.some.inj H
    go_wp2_with (first | (refine gl 34 Tryd.func72 #[.int .i64 (a0.size : Int), .int .i64 1, .int .i64 20] ?_; (with_reducible refine (spec_l1In.calls (a0.size : Int) 1 20 t555 _ A15.out).mono ?_); rintro e w' ⟨rfl, ⟨nd, rfl⟩⟩; refine ⟨_, rfl, ?_⟩))
    go_ret
    exact ⟨rs, dr⟩
   rw [if_pos c2] at H
   have c2b0 := decide_eq_true c2
   clear c2
   revert H
   refine ifn fun c3 H => ?_
   have c3b0 := decide_eq_true c3
   clear c3
   by_cases c5 : (bt a0 x3_1) < 97
   ·rw [if_pos c5] at H
    have c5b0 := decide_eq_true c5
    clear c5
    by_cases c6 : (bt a0 x3_1) < 48
    ·rw [if_pos c6] at H
     have c6b0 := decide_eq_true c6
     clear c6
     by_cases c7 : (bt a0 x3_1) = 45
     rotate_left
     ·rw [if_neg c7] at H
      have c7b0 : ((bt a0 x3_1) == 45) = false := beq_eq_false_iff_ne.mpr c7
      have c7b1 : ((bt a0 x3_1) != 45) = true := bne_iff_ne.mpr c7
      obtain rfl := Option.some.inj H
      have p4 : 0 ≤ (x3_1 : Int) := od
      have q4 : x3_1 < (a0.size : Int) := od
      have hx4 := bt_at a0 x3_1
      replace p4 := eq_true p4
      replace q4 := eq_true q4
      go_wp2
      go_ret
      exact ⟨rs, dr⟩
     rw [if_pos c7] at H
     have c7b0 : ((bt a0 x3_1) == 45) = true := beq_iff_eq.mpr c7
     have c7b1 : ((bt a0 x3_1) != 45) = false := bne_eq_false_iff_eq.mpr c7
     clear c7
     have H' := am H
     clear H
     have p4 : 0 ≤ (x3_1 : Int) := od
     have q4 : x3_1 < (a0.size : Int) := od
     have hx4 := bt_at a0 x3_1
     replace p4 := eq_true p4
     replace q4 := eq_true q4
     go_wp2
     go_roundg k1
     case measure => have := HK1.out; omega
     case rel => exact ⟨(wrap64 (x3_1 + 1)), rs, H', ⟨by have := HK1.out; omega⟩, dr⟩
    rw [if_neg c6] at H
    have c6b0 := decide_eq_false c6
    clear c6
    by_cases c8 : (bt a0 x3_1) > 57
    rotate_left
    ·rw [if_neg c8] at H
     have c8b0 := decide_eq_false c8
     clear c8
     have H' := am H
     clear H
     have p4 : 0 ≤ (x3_1 : Int) := od
     have q4 : x3_1 < (a0.size : Int) := od
     have hx4 := bt_at a0 x3_1
     replace p4 := eq_true p4
     replace q4 := eq_true q4
     go_wp2
     go_roundg k1
     case measure => have := HK1.out; omega
     case rel => exact ⟨(wrap64 (x3_1 + 1)), rs, H', ⟨by have := HK1.out; omega⟩, dr⟩
    rw [if_pos c8] at H
    have c8b0 := decide_eq_true c8
    clear c8
    by_cases c9 : (bt a0 x3_1) = 45
    rotate_left
    ·rw [if_neg c9] at H
     have c9b0 : ((bt a0 x3_1) == 45) = false := beq_eq_false_iff_ne.mpr c9
     have c9b1 : ((bt a0 x3_1) != 45) = true := bne_iff_ne.mpr c9
     obtain rfl := Option.some.inj H
     have p4 : 0 ≤ (x3_1 : Int) := od
     have q4 : x3_1 < (a0.size : Int) := od
     have hx4 := bt_at a0 x3_1
     replace p4 := eq_true p4
     replace q4 := eq_true q4
     go_wp2
     go_ret
     exact ⟨rs, dr⟩
    rw [if_pos c9] at H
    have c9b0 : ((bt a0 x3_1) == 45) = true := beq_iff_eq.mpr c9
    have c9b1 : ((bt a0 x3_1) != 45) = false := bne_eq_false_iff_eq.mpr c9
    clear c9
    have H' := am H
    clear H
    have p4 : 0 ≤ (x3_1 : Int) := od
    have q4 : x3_1 < (a0.size : Int) := od
    have hx4 := bt_at a0 x3_1
    replace p4 := eq_true p4
    replace q4 := eq_true q4
    go_wp2
    go_roundg k1
    case measure => have := HK1.out; omega
    case rel => exact ⟨(wrap64 (x3_1 + 1)), rs, H', ⟨by have := HK1.out; omega⟩, dr⟩
   rw [if_neg c5] at H
   have c5b0 := decide_eq_false c5
   clear c5
   by_cases c10 : (bt a0 x3_1) > 122
   rotate_left
   ·rw [if_neg c10] at H
    have c10b0 := decide_eq_false c10
    clear c10
    have H' := am H
    clear H
    have p4 : 0 ≤ (x3_1 : Int) := od
    have q4 : x3_1 < (a0.size : Int) := od
    have hx4 := bt_at a0 x3_1
    replace p4 := eq_true p4
    replace q4 := eq_true q4
    go_wp2
    go_roundg k1
    case measure => have := HK1.out; omega
    case rel => exact ⟨(wrap64 (x3_1 + 1)), rs, H', ⟨by have := HK1.out; omega⟩, dr⟩
   rw [if_pos c10] at H
   have c10b0 := decide_eq_true c10
   clear c10
   by_cases c11 : (bt a0 x3_1) < 48
   ·rw [if_pos c11] at H
    have c11b0 := decide_eq_true c11
    clear c11
    by_cases c12 : (bt a0 x3_1) = 45
    rotate_left
    ·rw [if_neg c12] at H
     have c12b0 : ((bt a0 x3_1) == 45) = false := beq_eq_false_iff_ne.mpr c12
     have c12b1 : ((bt a0 x3_1) != 45) = true := bne_iff_ne.mpr c12
     obtain rfl := Option.some.inj H
     have p4 : 0 ≤ (x3_1 : Int) := od
     have q4 : x3_1 < (a0.size : Int) := od
     have hx4 := bt_at a0 x3_1
     replace p4 := eq_true p4
     replace q4 := eq_true q4
     go_wp2
     go_ret
     exact ⟨rs, dr⟩
    rw [if_pos c12] at H
    have c12b0 : ((bt a0 x3_1) == 45) = true := beq_iff_eq.mpr c12
    have c12b1 : ((bt a0 x3_1) != 45) = false := bne_eq_false_iff_eq.mpr c12
    clear c12
    have H' := am H
    clear H
    have p4 : 0 ≤ (x3_1 : Int) := od
    have q4 : x3_1 < (a0.size : Int) := od
    have hx4 := bt_at a0 x3_1
    replace p4 := eq_true p4
    replace q4 := eq_true q4
    go_wp2
    go_roundg k1
    case measure => have := HK1.out; omega
    case rel => exact ⟨(wrap64 (x3_1 + 1)), rs, H', ⟨by have := HK1.out; omega⟩, dr⟩
   rw [if_neg c11] at H
   have c11b0 := decide_eq_false c11
   clear c11
   by_cases c13 : (bt a0 x3_1) > 57
   rotate_left
   ·rw [if_neg c13] at H
    have c13b0 := decide_eq_false c13
    clear c13
    have H' := am H
    clear H
    have p4 : 0 ≤ (x3_1 : Int) := od
    have q4 : x3_1 < (a0.size : Int) := od
    have hx4 := bt_at a0 x3_1
    replace p4 := eq_true p4
    replace q4 := eq_true q4
    go_wp2
    go_roundg k1
    case measure => have := HK1.out; omega
    case rel => exact ⟨(wrap64 (x3_1 + 1)), rs, H', ⟨by have := HK1.out; omega⟩, dr⟩
   rw [if_pos c13] at H
   have c13b0 := decide_eq_true c13
   clear c13
   by_cases c14 : (bt a0 x3_1) = 45
   rotate_left
   ·rw [if_neg c14] at H
    have c14b0 : ((bt a0 x3_1) == 45) = false := beq_eq_false_iff_ne.mpr c14
    have c14b1 : ((bt a0 x3_1) != 45) = true := bne_iff_ne.mpr c14
    obtain rfl := Option.some.inj H
    have p4 : 0 ≤ (x3_1 : Int) := od
    have q4 : x3_1 < (a0.size : Int) := od
    have hx4 := bt_at a0 x3_1
    replace p4 := eq_true p4
    replace q4 := eq_true q4
    go_wp2
    go_ret
    exact ⟨rs, dr⟩
   rw [if_pos c14] at H
   have c14b0 : ((bt a0 x3_1) == 45) = true := beq_iff_eq.mpr c14
   have c14b1 : ((bt a0 x3_1) != 45) = false := bne_eq_false_iff_eq.mpr c14
   clear c14
   have H' := am H
   clear H
   have p4 : 0 ≤ (x3_1 : Int) := od
   have q4 : x3_1 < (a0.size : Int) := od
   have hx4 := bt_at a0 x3_1
   replace p4 := eq_true p4
   replace q4 := eq_true q4
   go_wp2
   go_roundg k1
   case measure => have := HK1.out; omega
   case rel => exact ⟨(wrap64 (x3_1 + 1)), rs, H', ⟨by have := HK1.out; omega⟩, dr⟩

/-! ### spec_FieldsOk: function 109 -/
def spec_FieldsOk.l0 : Nat → List (S84) → Int → Option (Bool)
 | 0, _, _ => none
 | k + 1, x0, x3 => if x3 < (x0.length : Int) then (if 0 ≤ x3 then ((spec_TokenOk.f k ((rd_T84 x0 x3).f0)).bind fun t557 => (if t557 = true then ((spec_ValueOk.f k ((rd_T84 x0 x3).f1)).bind fun t559 => (if t559 = true then ((spec_l2At.f k x0 ((rd_T84 x0 x3).f0)).bind fun t561 => (if t561 = x3 then (if ((rd_T84 x0 x3).f0).toList = ([99, 111, 110, 116, 101, 110, 116, 45, 108, 101, 110, 103, 116, 104] : List UInt8) then (some false) else (spec_FieldsOk.l0 k x0 (wrap64 (x3 + 1)))) else (some false))) else (some false))) else (some false))) else (none)) else (some (decide ((x0.length : Int) ≤ 8)))
def spec_FieldsOk.f (k : Nat) (l0 : List (S84)) : Option (Bool) := spec_FieldsOk.l0 k l0 0
theorem spec_FieldsOk.mono_l : ∀ k, (∀ y0 y1, LeO (spec_FieldsOk.l0 k y0 y1) (spec_FieldsOk.l0 (k + 1) y0 y1))
 | 0 => fun _ _ r h => by simp [spec_FieldsOk.l0] at h
 | k + 1 => by
  have ih0 := spec_FieldsOk.mono_l k
  ·intro y0 y1
   unfold spec_FieldsOk.l0
   have m0 := @spec_TokenOk.mono
   have m1 := @spec_ValueOk.mono
   have m2 := @spec_l2At.mono
   exact mo
theorem spec_FieldsOk.mono : ∀ a0 k, LeO (spec_FieldsOk.f k a0) (spec_FieldsOk.f (k + 1) a0) := by
 intro a0 k
 have ih0 := spec_FieldsOk.mono_l k
 unfold spec_FieldsOk.f
 have m0 := @spec_TokenOk.mono
 have m1 := @spec_ValueOk.mono
 have m2 := @spec_l2At.mono
 exact mo
set_option maxHeartbeats 8000000 in
set_option maxRecDepth 100000 in
theorem spec_FieldsOk.calls (k : Nat) (A0 : Option Addr) (c0 : Nat) (l0 : List (S84)) (r : Bool) (w : World) (hr0 : Kd.C k84 w A0 l0.length l0) (hc0 : l0.length ≤ c0) (h : spec_FieldsOk.f k l0 = some r) :
  Calls Tryd.prog 109 #[.slice A0 l0.length c0] w fun e w' => e = .returned (.bool r) ∧ Drawn0 w w' := by
 have HR0 := am hr0
 have HC0 := am hc0
 clear hr0 hc0
 unfold spec_FieldsOk.f at h
 have H := h
 clear h
 have H' := am H
 clear H
 go_enter Tryd.func109, Tryd.ntmps109
 go_wp2
 (try simp only [Act.put, List.setIfInBounds_toArray, List.set_cons_zero, List.set_cons_succ])
 go_loopg [3] k (fun kq v3 w' => ∃ (x3_1 : Int), v3 = .int .i64 x3_1 ∧ Aside0 (spec_FieldsOk.l0 kq l0 x3_1 = some r) ∧ Aside0 (kq ≤ k) ∧ Drawn0 w w')
 case atStart => exact ⟨(0), rs, H', ⟨Nat.le_refl _⟩, dr⟩
 case round =>
  clear H'
  try clear c1
  obtain ⟨x3_1, rfl, HA, HK1, ⟨m1, rfl⟩⟩ := hrel
  cases gk with
  | zero => exact absurd HA.out (by simp [spec_FieldsOk.l0])
  | succ k1 =>
   have H := HA.out
   clear HA
   simp only [spec_FieldsOk.l0] at H
   by_cases c2 : x3_1 < (l0.length : Int)
   rotate_left
   ·rw [if_neg c2] at H
    have c2b0 := decide_eq_false c2
    clear c2
    obtain rfl := Option.some.inj H
    go_wp2
    go_ret
    exact ⟨rs, dr⟩
   rw [if_pos c2] at H
   have c2b0 := decide_eq_true c2
   clear c2
   revert H
   refine ifn fun c3 H => ?_
   have c3b0 := decide_eq_true c3
   clear c3
   revert H
   refine ok1 fun t557 A4 H => ?_
   by_cases c5 : t557 = true
   rotate_left
   ·replace c5 := Bool.eq_false_iff.mpr c5
    subst c5
    rw [if_neg (show ¬ (false = true) by decide)] at H
    obtain rfl := Option.some.inj H
    have p556 : 0 ≤ (x3_1 : Int) := od
    have q556 : x3_1 < (l0.length : Int) := od
    obtain ⟨ad556, e556, hx556_0, hx556_1⟩ := at_T84 HR0.out x3_1 p556 q556
    cases e556
    replace p556 := eq_true p556
    replace q556 := eq_true q556
    go_wp2_with (first | (refine gl 15 Tryd.func120 #[.string ((rd_T84 l0 x3_1).f0)] ?_; (with_reducible refine (spec_TokenOk.calls k1 ((rd_T84 l0 x3_1).f0) false _ A4.out).mono ?_); rintro e w' ⟨rfl, ⟨nd, rfl⟩⟩; refine ⟨_, rfl, ?_⟩))
    go_ret
    exact ⟨rs, dr⟩
   subst c5
   rw [if_pos rfl] at H
   revert H
   refine ok1 fun t559 A6 H => ?_
   by_cases c7 : t559 = true
   rotate_left
   ·replace c7 := Bool.eq_false_iff.mpr c7
    subst c7
    rw [if_neg (show ¬ (false = true) by decide)] at H
    obtain rfl := Option.some.inj H
    have p556 : 0 ≤ (x3_1 : Int) := od
    have q556 : x3_1 < (l0.length : Int) := od
    obtain ⟨ad556, e556, hx556_0, hx556_1⟩ := at_T84 HR0.out x3_1 p556 q556
    cases e556
    replace p556 := eq_true p556
    replace q556 := eq_true q556
    go_wp2_with (first | (refine gl 15 Tryd.func120 #[.string ((rd_T84 l0 x3_1).f0)] ?_; (with_reducible refine (spec_TokenOk.calls k1 ((rd_T84 l0 x3_1).f0) true _ A4.out).mono ?_); rintro e w' ⟨rfl, ⟨nd, rfl⟩⟩; refine ⟨_, rfl, ?_⟩; have p558 : 0 ≤ (x3_1 : Int) := od; have q558 : x3_1 < (l0.length : Int) := od; obtain ⟨ad558, e558, hx558_0, hx558_1⟩ := at_T84 HR0.out x3_1 p558 q558; obtain rfl : ad556 = ad558 := (by injection e558); replace p558 := eq_true p558; replace q558 := eq_true q558) | (go_at_call 76; (with_reducible refine (spec_ValueOk.calls k1 ((rd_T84 l0 x3_1).f1) false _ A6.out).mono ?_); rintro e w' ⟨rfl, ⟨nd, rfl⟩⟩))
    go_ret
    exact ⟨rs, dr⟩
   subst c7
   rw [if_pos rfl] at H
   revert H
   refine ok1 fun t561 A8 H => ?_
   by_cases c9 : t561 = x3_1
   rotate_left
   ·rw [if_neg c9] at H
    have c9b0 : (t561 == x3_1) = false := beq_eq_false_iff_ne.mpr c9
    have c9b1 : (t561 != x3_1) = true := bne_iff_ne.mpr c9
    obtain rfl := Option.some.inj H
    have p556 : 0 ≤ (x3_1 : Int) := od
    have q556 : x3_1 < (l0.length : Int) := od
    obtain ⟨ad556, e556, hx556_0, hx556_1⟩ := at_T84 HR0.out x3_1 p556 q556
    cases e556
    replace p556 := eq_true p556
    replace q556 := eq_true q556
    go_wp2_with (first | (refine gl 15 Tryd.func120 #[.string ((rd_T84 l0 x3_1).f0)] ?_; (with_reducible refine (spec_TokenOk.calls k1 ((rd_T84 l0 x3_1).f0) true _ A4.out).mono ?_); rintro e w' ⟨rfl, ⟨nd, rfl⟩⟩; refine ⟨_, rfl, ?_⟩; have p558 : 0 ≤ (x3_1 : Int) := od; have q558 : x3_1 < (l0.length : Int) := od; obtain ⟨ad558, e558, hx558_0, hx558_1⟩ := at_T84 HR0.out x3_1 p558 q558; obtain rfl : ad556 = ad558 := (by injection e558); replace p558 := eq_true p558; replace q558 := eq_true q558) | (go_at_call 76; (with_reducible refine (spec_ValueOk.calls k1 ((rd_T84 l0 x3_1).f1) true _ A6.out).mono ?_); rintro e w' ⟨rfl, ⟨nd, rfl⟩⟩; have p560 : 0 ≤ (x3_1 : Int) := od; have q560 : x3_1 < (l0.length : Int) := od; obtain ⟨ad560, e560, hx560_0, hx560_1⟩ := at_T84 HR0.out x3_1 p560 q560; obtain rfl : ad556 = ad560 := (by injection e560); replace p560 := eq_true p560; replace q560 := eq_true q560) | (go_at_call 106; (with_reducible refine (spec_l2At.calls k1 _ _ l0 ((rd_T84 l0 x3_1).f0) t561 _ ?side1 ?side2 A8.out).mono ?_); (case side1 => exact cc HR0); (case side2 => exact HC0.out); rintro e w' ⟨rfl, ⟨nd, rfl⟩⟩))
    go_ret
    exact ⟨rs, dr⟩
   rw [if_pos c9] at H
   have c9b0 : (t561 == x3_1) = true := beq_iff_eq.mpr c9
   have c9b1 : (t561 != x3_1) = false := bne_eq_false_iff_eq.mpr c9
   clear c9
   by_cases c10 : ((rd_T84 l0 x3_1).f0).toList = ([99, 111, 110, 116, 101, 110, 116, 45, 108, 101, 110, 103, 116, 104] : List UInt8)
   ·rw [if_pos c10] at H
    have c10b0 : (((rd_T84 l0 x3_1).f0).toList == ([99, 111, 110, 116, 101, 110, 116, 45, 108, 101, 110, 103, 116, 104] : List UInt8)) = true := beq_iff_eq.mpr c10
    have c10b1 : (((rd_T84 l0 x3_1).f0).toList != ([99, 111, 110, 116, 101, 110, 116, 45, 108, 101, 110, 103, 116, 104] : List UInt8)) = false := bne_eq_false_iff_eq.mpr c10
    clear c10
    obtain rfl := Option.some.inj H
    have p556 : 0 ≤ (x3_1 : Int) := od
    have q556 : x3_1 < (l0.length : Int) := od
    obtain ⟨ad556, e556, hx556_0, hx556_1⟩ := at_T84 HR0.out x3_1 p556 q556
    cases e556
    replace p556 := eq_true p556
    replace q556 := eq_true q556
    go_wp2_with (first | (refine gl 15 Tryd.func120 #[.string ((rd_T84 l0 x3_1).f0)] ?_; (with_reducible refine (spec_TokenOk.calls k1 ((rd_T84 l0 x3_1).f0) true _ A4.out).mono ?_); rintro e w' ⟨rfl, ⟨nd, rfl⟩⟩; refine ⟨_, rfl, ?_⟩; have p558 : 0 ≤ (x3_1 : Int) := od; have q558 : x3_1 < (l0.length : Int) := od; obtain ⟨ad558, e558, hx558_0, hx558_1⟩ := at_T84 HR0.out x3_1 p558 q558; obtain rfl : ad556 = ad558 := (by injection e558); replace p558 := eq_true p558; replace q558 := eq_true q558) | (go_at_call 76; (with_reducible refine (spec_ValueOk.calls k1 ((rd_T84 l0 x3_1).f1) true _ A6.out).mono ?_); rintro e w' ⟨rfl, ⟨nd, rfl⟩⟩; have p560 : 0 ≤ (x3_1 : Int) := od; have q560 : x3_1 < (l0.length : Int) := od; obtain ⟨ad560, e560, hx560_0, hx560_1⟩ := at_T84 HR0.out x3_1 p560 q560; obtain rfl : ad556 = ad560 := (by injection e560); replace p560 := eq_true p560; replace q560 := eq_true q560) | (go_at_call 106; (with_reducible refine (spec_l2At.calls k1 _ _ l0 ((rd_T84 l0 x3_1).f0) t561 _ ?side1 ?side2 A8.out).mono ?_); (case side1 => exact cc HR0); (case side2 => exact HC0.out); rintro e w' ⟨rfl, ⟨nd, rfl⟩⟩; have p562 : 0 ≤ (x3_1 : Int) := od; have q562 : x3_1 < (l0.length : Int) := od; obtain ⟨ad562, e562, hx562_0, hx562_1⟩ := at_T84 HR0.out x3_1 p562 q562; obtain rfl : ad556 = ad562 := (by injection e562); replace p562 := eq_true p562; replace q562 := eq_true q562))
    go_ret
    exact ⟨rs, dr⟩
   rw [if_neg c10] at H
   have c10b0 : (((rd_T84 l0 x3_1).f0).toList == ([99, 111, 110, 116, 101, 110, 116, 45, 108, 101, 110, 103, 116, 104] : List UInt8)) = false := beq_eq_false_iff_ne.mpr c10
   have c10b1 : (((rd_T84 l0 x3_1).f0).toList != ([99, 111, 110, 116, 101, 110, 116, 45, 108, 101, 110, 103, 116, 104] : List UInt8)) = true := bne_iff_ne.mpr c10
   have H' := am H
   clear H
   have p556 : 0 ≤ (x3_1 : Int) := od
   have q556 : x3_1 < (l0.length : Int) := od
   obtain ⟨ad556, e556, hx556_0, hx556_1⟩ := at_T84 HR0.out x3_1 p556 q556
   cases e556
   replace p556 := eq_true p556
   replace q556 := eq_true q556
   go_wp2_with (first | (refine gl 15 Tryd.func120 #[.string ((rd_T84 l0 x3_1).f0)] ?_; (with_reducible refine (spec_TokenOk.calls k1 ((rd_T84 l0 x3_1).f0) true _ A4.out).mono ?_); rintro e w' ⟨rfl, ⟨nd, rfl⟩⟩; refine ⟨_, rfl, ?_⟩; have p558 : 0 ≤ (x3_1 : Int) := od; have q558 : x3_1 < (l0.length : Int) := od; obtain ⟨ad558, e558, hx558_0, hx558_1⟩ := at_T84 HR0.out x3_1 p558 q558; obtain rfl : ad556 = ad558 := (by injection e558); replace p558 := eq_true p558; replace q558 := eq_true q558) | (go_at_call 76; (with_reducible refine (spec_ValueOk.calls k1 ((rd_T84 l0 x3_1).f1) true _ A6.out).mono ?_); rintro e w' ⟨rfl, ⟨nd, rfl⟩⟩; have p560 : 0 ≤ (x3_1 : Int) := od; have q560 : x3_1 < (l0.length : Int) := od; obtain ⟨ad560, e560, hx560_0, hx560_1⟩ := at_T84 HR0.out x3_1 p560 q560; obtain rfl : ad556 = ad560 := (by injection e560); replace p560 := eq_true p560; replace q560 := eq_true q560) | (go_at_call 106; (with_reducible refine (spec_l2At.calls k1 _ _ l0 ((rd_T84 l0 x3_1).f0) t561 _ ?side1 ?side2 A8.out).mono ?_); (case side1 => exact cc HR0); (case side2 => exact HC0.out); rintro e w' ⟨rfl, ⟨nd, rfl⟩⟩; have p562 : 0 ≤ (x3_1 : Int) := od; have q562 : x3_1 < (l0.length : Int) := od; obtain ⟨ad562, e562, hx562_0, hx562_1⟩ := at_T84 HR0.out x3_1 p562 q562; obtain rfl : ad556 = ad562 := (by injection e562); replace p562 := eq_true p562; replace q562 := eq_true q562))
   go_roundg k1
   case measure => have := HK1.out; omega
   case rel => exact ⟨(wrap64 (x3_1 + 1)), rs, H', ⟨by have := HK1.out; omega⟩, dr⟩

end Go.Proofs.YtkgdcfaogdmcgaaDoor.All
