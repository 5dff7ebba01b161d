import Derived.Test.YtjlpjbkpmmpojaaGreatDoorKO12
namespace Go.Proofs.YtjlpjbkpmmpojaaGreatDoor.All
open Go.RowKit Go.Proofs.YtjlpjbkpmmpojaaGreatDoorW.PrintWords Go.Proofs.YtjlpjbkpmmpojaaGreatDoorW.PrintLast Go.Proofs.YtjlpjbkpmmpojaaGreatDoorW.PrintMore
set_option maxHeartbeats 8000000
set_option maxRecDepth 100000
attribute [local go_sem] min2_int min_two
set_option linter.unusedVariables false
set_option linter.unusedSimpArgs false
def spec_l3Path.l0 : Nat → ByteArray → Int → Option (Bool)
 | 0, _, _ => none
 | k + 1, x0, x3 => if x3 < (x0.size : Int) then (if 0 ≤ x3 then (if (bt x0 x3) < 33 then (some false) else (if (bt x0 x3) > 126 then (some false) else (spec_l3Path.l0 k x0 (wrap64 (x3 + 1))))) else (none)) else ((spec_l1In.f (x0.size : Int) 1 60).bind fun t12 => (if t12 = true then (if 0 < (x0.size : Int) then (some ((bt x0 0) == 47)) else (none)) else (some false)))
def spec_l3Path.f (k : Nat) (a0 : ByteArray) : Option (Bool) := spec_l3Path.l0 k a0 0
theorem spec_l3Path.calls (k : Nat) (a0 : ByteArray) (r : Bool) (w : World) (h : spec_l3Path.f k a0 = some r) :
  Calls Tryz.prog 133 #[.string a0] w fun e w' => e = .returned (.bool r) ∧ Drawn0 w w' := by
 unfold spec_l3Path.f at h
 have H := h
 clear h
 have H' := am H
 clear H
 go_enter Tryz.func133, Tryz.ntmps133
 go_wp2
 (try simp only [Act.put, List.setIfInBounds_toArray, List.set_cons_zero, List.set_cons_succ])
 go_loopg [3] k (fun kq v3 w' => ∃ (x3_1 : Int), v3 = .int .i64 x3_1 ∧ Aside0 (spec_l3Path.l0 kq a0 x3_1 = some r) ∧ Aside0 (kq ≤ k) ∧ Drawn0 w w')
 case atStart => exact ⟨(0), rs, H', ⟨Nat.le_refl _⟩, dr⟩
 case round =>
  clear H'
  obtain ⟨x3_1, rfl, HA, HK1, ⟨m1, rfl⟩⟩ := hrel
  cases gk with
  | zero => exact absurd HA.out (by simp [spec_l3Path.l0])
  | succ k1 =>
   have H := HA.out
   clear HA
   simp only [spec_l3Path.l0] at H
   by_cases c2 : x3_1 < (a0.size : Int)
   rotate_left
   ·rw [if_neg c2] at H
    have c2b0 := decide_eq_false c2
    clear c2
    revert H
    refine ok1 fun t12 A8 H => ?_
    by_cases c9 : t12 = true
    rotate_left
    ·replace c9 := nb_ c9
     subst c9
     rw [if_neg ff_] at H
     obtain rfl := si_ H
     go_wp2_with ((with_reducible refine gw ?_); first | (refine gl 22 Tryz.func79 #[.int .i64 (a0.size : Int), .int .i64 1, .int .i64 60] ?_; (with_reducible refine (spec_l1In.calls (a0.size : Int) 1 60 false _ A8.out).mono ?_); rintro e w' ⟨rfl, ⟨nd, rfl⟩⟩; refine ⟨_, rfl, ?_⟩))
     go_ret
     exact ⟨rs, dr⟩
    subst c9
    rw [if_pos rfl] at H
    revert H
    refine ifn fun c10 H => ?_
    have c10b0 := decide_eq_true c10
    have c10b1 : decide (0 < a0.size) = true := decide_eq_true (by omega)
    clear c10
    obtain rfl := si_ H
    go_wp2_with ((with_reducible refine gw ?_); first | (refine gl 22 Tryz.func79 #[.int .i64 (a0.size : Int), .int .i64 1, .int .i64 60] ?_; (with_reducible refine (spec_l1In.calls (a0.size : Int) 1 60 true _ A8.out).mono ?_); rintro e w' ⟨rfl, ⟨nd, rfl⟩⟩; refine ⟨_, rfl, ?_⟩; have p11 : 0 ≤ (0 : Int) := (by omega); have q11 : 0 < a0.size := (by have : (0 : Int) < (a0.size : Int) := od; omega); have hx11 : ∀ h : 0 < a0.size, ((a0[0]'h).toNat : Int) = bt a0 0 := bt_at a0 0; clear p11; have qi11 : (0 < (a0.size : Int)) = True := eq_true (od); replace q11 := eq_true q11))
    go_ret
    exact ⟨rs, dr⟩
   rw [if_pos c2] at H
   have c2b0 := decide_eq_true c2
   clear c2
   revert H
   refine ifn fun c3 H => ?_
   have c3b0 := decide_eq_true c3
   clear c3
   by_cases c5 : (bt a0 x3_1) < 33
   ·rw [if_pos c5] at H
    have c5b0 := decide_eq_true c5
    clear c5
    obtain rfl := si_ H
    have p4 : 0 ≤ (x3_1 : Int) := od
    have q4 : x3_1 < (a0.size : Int) := od
    have hx4 := bt_at a0 x3_1
    replace p4 := eq_true p4
    replace q4 := eq_true q4
    go_wp2
    go_ret
    exact ⟨rs, dr⟩
   rw [if_neg c5] at H
   have c5b0 := decide_eq_false c5
   clear c5
   by_cases c7 : (bt a0 x3_1) > 126
   ·rw [if_pos c7] at H
    have c7b0 := decide_eq_true c7
    clear c7
    obtain rfl := si_ H
    have p4 : 0 ≤ (x3_1 : Int) := od
    have q4 : x3_1 < (a0.size : Int) := od
    have hx4 := bt_at a0 x3_1
    replace p4 := eq_true p4
    replace q4 := eq_true q4
    have p6 : 0 ≤ (x3_1 : Int) := od
    have q6 : x3_1 < (a0.size : Int) := od
    have hx6 := bt_at a0 x3_1
    replace p6 := eq_true p6
    replace q6 := eq_true q6
    go_wp2
    go_ret
    exact ⟨rs, dr⟩
   rw [if_neg c7] at H
   have c7b0 := decide_eq_false c7
   clear c7
   have H' := am H
   clear H
   have p4 : 0 ≤ (x3_1 : Int) := od
   have q4 : x3_1 < (a0.size : Int) := od
   have hx4 := bt_at a0 x3_1
   replace p4 := eq_true p4
   replace q4 := eq_true q4
   have p6 : 0 ≤ (x3_1 : Int) := od
   have q6 : x3_1 < (a0.size : Int) := od
   have hx6 := bt_at a0 x3_1
   replace p6 := eq_true p6
   replace q6 := eq_true q6
   go_wp2
   go_roundg k1
   case measure => have := HK1.out; omega
   case rel => exact ⟨(wrap64 (x3_1 + 1)), rs, H', ⟨by have := HK1.out; omega⟩, dr⟩
def spec_TokenOk.l0 : Nat → ByteArray → Int → Option (Bool)
 | 0, _, _ => none
 | k + 1, x0, x3 => if x3 < (x0.size : Int) then (if 0 ≤ x3 then (if (bt x0 x3) < 97 then (if (bt x0 x3) < 48 then (if (bt x0 x3) = 45 then (spec_TokenOk.l0 k x0 (wrap64 (x3 + 1))) else (some false)) else (if (bt x0 x3) > 57 then (if (bt x0 x3) = 45 then (spec_TokenOk.l0 k x0 (wrap64 (x3 + 1))) else (some false)) else (spec_TokenOk.l0 k x0 (wrap64 (x3 + 1))))) else (if (bt x0 x3) > 122 then (if (bt x0 x3) < 48 then (if (bt x0 x3) = 45 then (spec_TokenOk.l0 k x0 (wrap64 (x3 + 1))) else (some false)) else (if (bt x0 x3) > 57 then (if (bt x0 x3) = 45 then (spec_TokenOk.l0 k x0 (wrap64 (x3 + 1))) else (some false)) else (spec_TokenOk.l0 k x0 (wrap64 (x3 + 1))))) else (spec_TokenOk.l0 k x0 (wrap64 (x3 + 1))))) else (none)) else ((spec_l1In.f (x0.size : Int) 1 20).bind fun t16 => (some t16))
def spec_TokenOk.f (k : Nat) (a0 : ByteArray) : Option (Bool) := spec_TokenOk.l0 k a0 0
theorem spec_TokenOk.calls (k : Nat) (a0 : ByteArray) (r : Bool) (w : World) (h : spec_TokenOk.f k a0 = some r) :
  Calls Tryz.prog 134 #[.string a0] w fun e w' => e = .returned (.bool r) ∧ Drawn0 w w' := by
 unfold spec_TokenOk.f at h
 have H := h
 clear h
 have H' := am H
 clear H
 go_enter Tryz.func134, Tryz.ntmps134
 go_wp2
 (try simp only [Act.put, List.setIfInBounds_toArray, List.set_cons_zero, List.set_cons_succ])
 go_loopg [3] k (fun kq v3 w' => ∃ (x3_1 : Int), v3 = .int .i64 x3_1 ∧ Aside0 (spec_TokenOk.l0 kq a0 x3_1 = some r) ∧ Aside0 (kq ≤ k) ∧ Drawn0 w w')
 case atStart => exact ⟨(0), rs, H', ⟨Nat.le_refl _⟩, dr⟩
 case round =>
  clear H'
  obtain ⟨x3_1, rfl, HA, HK1, ⟨m1, rfl⟩⟩ := hrel
  cases gk with
  | zero => exact absurd HA.out (by simp [spec_TokenOk.l0])
  | succ k1 =>
   have H := HA.out
   clear HA
   simp only [spec_TokenOk.l0] at H
   by_cases c2 : x3_1 < (a0.size : Int)
   rotate_left
   ·rw [if_neg c2] at H
    have c2b0 := decide_eq_false c2
    clear c2
    revert H
    refine ok1 fun t16 A15 H => ?_
    obtain rfl := si_ H
    go_wp2_with ((with_reducible refine gw ?_); first | (refine gl 34 Tryz.func79 #[.int .i64 (a0.size : Int), .int .i64 1, .int .i64 20] ?_; (with_reducible refine (spec_l1In.calls (a0.size : Int) 1 20 t16 _ A15.out).mono ?_); rintro e w' ⟨rfl, ⟨nd, rfl⟩⟩; refine ⟨_, rfl, ?_⟩))
    go_ret
    exact ⟨rs, dr⟩
   rw [if_pos c2] at H
   have c2b0 := decide_eq_true c2
   clear c2
   revert H
   refine ifn fun c3 H => ?_
   have c3b0 := decide_eq_true c3
   clear c3
   by_cases c5 : (bt a0 x3_1) < 97
   ·rw [if_pos c5] at H
    have c5b0 := decide_eq_true c5
    clear c5
    by_cases c6 : (bt a0 x3_1) < 48
    ·rw [if_pos c6] at H
     have c6b0 := decide_eq_true c6
     clear c6
     by_cases c7 : (bt a0 x3_1) = 45
     rotate_left
     ·rw [if_neg c7] at H
      have c7b0 := eqf c7
      have c7b1 := net c7
      obtain rfl := si_ H
      have p4 : 0 ≤ (x3_1 : Int) := od
      have q4 : x3_1 < (a0.size : Int) := od
      have hx4 := bt_at a0 x3_1
      replace p4 := eq_true p4
      replace q4 := eq_true q4
      go_wp2
      go_ret
      exact ⟨rs, dr⟩
     rw [if_pos c7] at H
     have c7b0 := eqt c7
     have c7b1 := nef c7
     clear c7
     have H' := am H
     clear H
     have p4 : 0 ≤ (x3_1 : Int) := od
     have q4 : x3_1 < (a0.size : Int) := od
     have hx4 := bt_at a0 x3_1
     replace p4 := eq_true p4
     replace q4 := eq_true q4
     go_wp2
     go_roundg k1
     case measure => have := HK1.out; omega
     case rel => exact ⟨(wrap64 (x3_1 + 1)), rs, H', ⟨by have := HK1.out; omega⟩, dr⟩
    rw [if_neg c6] at H
    have c6b0 := decide_eq_false c6
    clear c6
    by_cases c8 : (bt a0 x3_1) > 57
    rotate_left
    ·rw [if_neg c8] at H
     have c8b0 := decide_eq_false c8
     clear c8
     have H' := am H
     clear H
     have p4 : 0 ≤ (x3_1 : Int) := od
     have q4 : x3_1 < (a0.size : Int) := od
     have hx4 := bt_at a0 x3_1
     replace p4 := eq_true p4
     replace q4 := eq_true q4
     go_wp2
     go_roundg k1
     case measure => have := HK1.out; omega
     case rel => exact ⟨(wrap64 (x3_1 + 1)), rs, H', ⟨by have := HK1.out; omega⟩, dr⟩
    rw [if_pos c8] at H
    have c8b0 := decide_eq_true c8
    clear c8
    by_cases c9 : (bt a0 x3_1) = 45
    rotate_left
    ·rw [if_neg c9] at H
     have c9b0 := eqf c9
     have c9b1 := net c9
     obtain rfl := si_ H
     have p4 : 0 ≤ (x3_1 : Int) := od
     have q4 : x3_1 < (a0.size : Int) := od
     have hx4 := bt_at a0 x3_1
     replace p4 := eq_true p4
     replace q4 := eq_true q4
     go_wp2
     go_ret
     exact ⟨rs, dr⟩
    rw [if_pos c9] at H
    have c9b0 := eqt c9
    have c9b1 := nef c9
    clear c9
    have H' := am H
    clear H
    have p4 : 0 ≤ (x3_1 : Int) := od
    have q4 : x3_1 < (a0.size : Int) := od
    have hx4 := bt_at a0 x3_1
    replace p4 := eq_true p4
    replace q4 := eq_true q4
    go_wp2
    go_roundg k1
    case measure => have := HK1.out; omega
    case rel => exact ⟨(wrap64 (x3_1 + 1)), rs, H', ⟨by have := HK1.out; omega⟩, dr⟩
   rw [if_neg c5] at H
   have c5b0 := decide_eq_false c5
   clear c5
   by_cases c10 : (bt a0 x3_1) > 122
   rotate_left
   ·rw [if_neg c10] at H
    have c10b0 := decide_eq_false c10
    clear c10
    have H' := am H
    clear H
    have p4 : 0 ≤ (x3_1 : Int) := od
    have q4 : x3_1 < (a0.size : Int) := od
    have hx4 := bt_at a0 x3_1
    replace p4 := eq_true p4
    replace q4 := eq_true q4
    go_wp2
    go_roundg k1
    case measure => have := HK1.out; omega
    case rel => exact ⟨(wrap64 (x3_1 + 1)), rs, H', ⟨by have := HK1.out; omega⟩, dr⟩
   rw [if_pos c10] at H
   have c10b0 := decide_eq_true c10
   clear c10
   by_cases c11 : (bt a0 x3_1) < 48
   ·rw [if_pos c11] at H
    have c11b0 := decide_eq_true c11
    clear c11
    by_cases c12 : (bt a0 x3_1) = 45
    rotate_left
    ·rw [if_neg c12] at H
     have c12b0 := eqf c12
     have c12b1 := net c12
     obtain rfl := si_ H
     have p4 : 0 ≤ (x3_1 : Int) := od
     have q4 : x3_1 < (a0.size : Int) := od
     have hx4 := bt_at a0 x3_1
     replace p4 := eq_true p4
     replace q4 := eq_true q4
     go_wp2
     go_ret
     exact ⟨rs, dr⟩
    rw [if_pos c12] at H
    have c12b0 := eqt c12
    have c12b1 := nef c12
    clear c12
    have H' := am H
    clear H
    have p4 : 0 ≤ (x3_1 : Int) := od
    have q4 : x3_1 < (a0.size : Int) := od
    have hx4 := bt_at a0 x3_1
    replace p4 := eq_true p4
    replace q4 := eq_true q4
    go_wp2
    go_roundg k1
    case measure => have := HK1.out; omega
    case rel => exact ⟨(wrap64 (x3_1 + 1)), rs, H', ⟨by have := HK1.out; omega⟩, dr⟩
   rw [if_neg c11] at H
   have c11b0 := decide_eq_false c11
   clear c11
   by_cases c13 : (bt a0 x3_1) > 57
   rotate_left
   ·rw [if_neg c13] at H
    have c13b0 := decide_eq_false c13
    clear c13
    have H' := am H
    clear H
    have p4 : 0 ≤ (x3_1 : Int) := od
    have q4 : x3_1 < (a0.size : Int) := od
    have hx4 := bt_at a0 x3_1
    replace p4 := eq_true p4
    replace q4 := eq_true q4
    go_wp2
    go_roundg k1
    case measure => have := HK1.out; omega
    case rel => exact ⟨(wrap64 (x3_1 + 1)), rs, H', ⟨by have := HK1.out; omega⟩, dr⟩
   rw [if_pos c13] at H
   have c13b0 := decide_eq_true c13
   clear c13
   by_cases c14 : (bt a0 x3_1) = 45
   rotate_left
   ·rw [if_neg c14] at H
    have c14b0 := eqf c14
    have c14b1 := net c14
    obtain rfl := si_ H
    have p4 : 0 ≤ (x3_1 : Int) := od
    have q4 : x3_1 < (a0.size : Int) := od
    have hx4 := bt_at a0 x3_1
    replace p4 := eq_true p4
    replace q4 := eq_true q4
    go_wp2
    go_ret
    exact ⟨rs, dr⟩
   rw [if_pos c14] at H
   have c14b0 := eqt c14
   have c14b1 := nef c14
   clear c14
   have H' := am H
   clear H
   have p4 : 0 ≤ (x3_1 : Int) := od
   have q4 : x3_1 < (a0.size : Int) := od
   have hx4 := bt_at a0 x3_1
   replace p4 := eq_true p4
   replace q4 := eq_true q4
   go_wp2
   go_roundg k1
   case measure => have := HK1.out; omega
   case rel => exact ⟨(wrap64 (x3_1 + 1)), rs, H', ⟨by have := HK1.out; omega⟩, dr⟩
def spec_ValueOk.l0 : Nat → ByteArray → Int → Option (Bool)
 | 0, _, _ => none
 | k + 1, x0, x3 => if x3 < (x0.size : Int) then (if 0 ≤ x3 then (if (bt x0 x3) < 32 then (some false) else (if (bt x0 x3) > 126 then (some false) else (spec_ValueOk.l0 k x0 (wrap64 (x3 + 1))))) else (none)) else ((spec_l1In.f (x0.size : Int) 1 60).bind fun t11 => (if t11 = true then ((spec_Trim.f k x0).bind fun t12 => (some (t12.toList == x0.toList))) else (some false)))
def spec_ValueOk.f (k : Nat) (a0 : ByteArray) : Option (Bool) := spec_ValueOk.l0 k a0 0
theorem spec_ValueOk.calls (k : Nat) (a0 : ByteArray) (r : Bool) (w : World) (h : spec_ValueOk.f k a0 = some r) :
  Calls Tryz.prog 135 #[.string a0] w fun e w' => e = .returned (.bool r) ∧ Drawn0 w w' := by
 unfold spec_ValueOk.f at h
 have H := h
 clear h
 have H' := am H
 clear H
 go_enter Tryz.func135, Tryz.ntmps135
 go_wp2
 (try simp only [Act.put, List.setIfInBounds_toArray, List.set_cons_zero, List.set_cons_succ])
 go_loopg [3] k (fun kq v3 w' => ∃ (x3_1 : Int), v3 = .int .i64 x3_1 ∧ Aside0 (spec_ValueOk.l0 kq a0 x3_1 = some r) ∧ Aside0 (kq ≤ k) ∧ Drawn0 w w')
 case atStart => exact ⟨(0), rs, H', ⟨Nat.le_refl _⟩, dr⟩
 case round =>
  clear H'
  obtain ⟨x3_1, rfl, HA, HK1, ⟨m1, rfl⟩⟩ := hrel
  cases gk with
  | zero => exact absurd HA.out (by simp [spec_ValueOk.l0])
  | succ k1 =>
   have H := HA.out
   clear HA
   simp only [spec_ValueOk.l0] at H
   by_cases c2 : x3_1 < (a0.size : Int)
   rotate_left
   ·rw [if_neg c2] at H
    have c2b0 := decide_eq_false c2
    clear c2
    revert H
    refine ok1 fun t11 A8 H => ?_
    by_cases c9 : t11 = true
    rotate_left
    ·replace c9 := nb_ c9
     subst c9
     rw [if_neg ff_] at H
     obtain rfl := si_ H
     go_wp2_with ((with_reducible refine gw ?_); first | (refine gl 22 Tryz.func79 #[.int .i64 (a0.size : Int), .int .i64 1, .int .i64 60] ?_; (with_reducible refine (spec_l1In.calls (a0.size : Int) 1 60 false _ A8.out).mono ?_); rintro e w' ⟨rfl, ⟨nd, rfl⟩⟩; refine ⟨_, rfl, ?_⟩))
     go_ret
     exact ⟨rs, dr⟩
    subst c9
    rw [if_pos rfl] at H
    revert H
    refine ok1 fun t12 A10 H => ?_
    obtain rfl := si_ H
    go_wp2_with (first | ((with_reducible refine gw ?_); first | (refine gl 22 Tryz.func79 #[.int .i64 (a0.size : Int), .int .i64 1, .int .i64 60] ?_; (with_reducible refine (spec_l1In.calls (a0.size : Int) 1 60 true _ A8.out).mono ?_); rintro e w' ⟨rfl, ⟨nd, rfl⟩⟩; refine ⟨_, rfl, ?_⟩)) | (go_at_call 147; (with_reducible refine (spec_Trim.calls k1 a0 t12 _ A10.out).mono ?_); rintro e w' ⟨rfl, ⟨nd, rfl⟩⟩))
    go_ret
    exact ⟨rs, dr⟩
   rw [if_pos c2] at H
   have c2b0 := decide_eq_true c2
   clear c2
   revert H
   refine ifn fun c3 H => ?_
   have c3b0 := decide_eq_true c3
   clear c3
   by_cases c5 : (bt a0 x3_1) < 32
   ·rw [if_pos c5] at H
    have c5b0 := decide_eq_true c5
    clear c5
    obtain rfl := si_ H
    have p4 : 0 ≤ (x3_1 : Int) := od
    have q4 : x3_1 < (a0.size : Int) := od
    have hx4 := bt_at a0 x3_1
    replace p4 := eq_true p4
    replace q4 := eq_true q4
    go_wp2
    go_ret
    exact ⟨rs, dr⟩
   rw [if_neg c5] at H
   have c5b0 := decide_eq_false c5
   clear c5
   by_cases c7 : (bt a0 x3_1) > 126
   ·rw [if_pos c7] at H
    have c7b0 := decide_eq_true c7
    clear c7
    obtain rfl := si_ H
    have p4 : 0 ≤ (x3_1 : Int) := od
    have q4 : x3_1 < (a0.size : Int) := od
    have hx4 := bt_at a0 x3_1
    replace p4 := eq_true p4
    replace q4 := eq_true q4
    have p6 : 0 ≤ (x3_1 : Int) := od
    have q6 : x3_1 < (a0.size : Int) := od
    have hx6 := bt_at a0 x3_1
    replace p6 := eq_true p6
    replace q6 := eq_true q6
    go_wp2
    go_ret
    exact ⟨rs, dr⟩
   rw [if_neg c7] at H
   have c7b0 := decide_eq_false c7
   clear c7
   have H' := am H
   clear H
   have p4 : 0 ≤ (x3_1 : Int) := od
   have q4 : x3_1 < (a0.size : Int) := od
   have hx4 := bt_at a0 x3_1
   replace p4 := eq_true p4
   replace q4 := eq_true q4
   have p6 : 0 ≤ (x3_1 : Int) := od
   have q6 : x3_1 < (a0.size : Int) := od
   have hx6 := bt_at a0 x3_1
   replace p6 := eq_true p6
   replace q6 := eq_true q6
   go_wp2
   go_roundg k1
   case measure => have := HK1.out; omega
   case rel => exact ⟨(wrap64 (x3_1 + 1)), rs, H', ⟨by have := HK1.out; omega⟩, dr⟩
def spec_FieldsOk.l0 : Nat → List (S116) → Int → Option (Bool)
 | 0, _, _ => none
 | k + 1, x0, x3 => if x3 < (x0.length : Int) then (if 0 ≤ x3 then ((spec_TokenOk.f k ((rd_T116 x0 x3).f0)).bind fun t17 => (if t17 = true then ((spec_ValueOk.f k ((rd_T116 x0 x3).f1)).bind fun t18 => (if t18 = true then ((spec_l2At.f k x0 ((rd_T116 x0 x3).f0)).bind fun t16 => (if t16 = x3 then (if ((rd_T116 x0 x3).f0).toList = ([99, 111, 110, 116, 101, 110, 116, 45, 108, 101, 110, 103, 116, 104] : List UInt8) then (some false) else (spec_FieldsOk.l0 k x0 (wrap64 (x3 + 1)))) else (some false))) else (some false))) else (some false))) else (none)) else (some (decide ((x0.length : Int) ≤ 8)))
def spec_FieldsOk.f (k : Nat) (l0 : List (S116)) : Option (Bool) := spec_FieldsOk.l0 k l0 0
theorem spec_FieldsOk.calls (k : Nat) (A0 : Option Addr) (c0 : Nat) (l0 : List (S116)) (r : Bool) (w : World) (hr0 : Kd.C k116 w A0 l0.length l0) (hc0 : l0.length ≤ c0) (h : spec_FieldsOk.f k l0 = some r) :
  Calls Tryz.prog 149 #[.slice A0 l0.length c0] w fun e w' => e = .returned (.bool r) ∧ Drawn0 w w' := by
 have HR0 := am hr0
 have HC0 := am hc0
 clear hr0 hc0
 unfold spec_FieldsOk.f at h
 have H := h
 clear h
 have H' := am H
 clear H
 go_enter Tryz.func149, Tryz.ntmps149
 go_wp2
 (try simp only [Act.put, List.setIfInBounds_toArray, List.set_cons_zero, List.set_cons_succ])
 go_loopg [3] k (fun kq v3 w' => ∃ (x3_1 : Int), v3 = .int .i64 x3_1 ∧ Aside0 (spec_FieldsOk.l0 kq l0 x3_1 = some r) ∧ Aside0 (kq ≤ k) ∧ Drawn0 w w')
 case atStart => exact ⟨(0), rs, H', ⟨Nat.le_refl _⟩, dr⟩
 case round =>
  clear H'
  obtain ⟨x3_1, rfl, HA, HK1, ⟨m1, rfl⟩⟩ := hrel
  cases gk with
  | zero => exact absurd HA.out (by simp [spec_FieldsOk.l0])
  | succ k1 =>
   have H := HA.out
   clear HA
   simp only [spec_FieldsOk.l0] at H
   by_cases c2 : x3_1 < (l0.length : Int)
   rotate_left
   ·rw [if_neg c2] at H
    have c2b0 := decide_eq_false c2
    clear c2
    obtain rfl := si_ H
    go_wp2
    go_ret
    exact ⟨rs, dr⟩
   rw [if_pos c2] at H
   have c2b0 := decide_eq_true c2
   clear c2
   revert H
   refine ifn fun c3 H => ?_
   have c3b0 := decide_eq_true c3
   clear c3
   revert H
   refine ok1 fun t17 A4 H => ?_
   by_cases c5 : t17 = true
   rotate_left
   ·replace c5 := nb_ c5
    subst c5
    rw [if_neg ff_] at H
    obtain rfl := si_ H
    have p12 : 0 ≤ (x3_1 : Int) := od
    have q12 : x3_1 < (l0.length : Int) := od
    obtain ⟨ad12, e12, hx12_0, hx12_1⟩ := at_T116 HR0.out x3_1 p12 q12
    cases e12
    replace p12 := eq_true p12
    replace q12 := eq_true q12
    go_wp2_with ((with_reducible refine gw ?_); first | (refine gl 15 Tryz.func134 #[.string ((rd_T116 l0 x3_1).f0)] ?_; (with_reducible refine (spec_TokenOk.calls k1 ((rd_T116 l0 x3_1).f0) false _ A4.out).mono ?_); rintro e w' ⟨rfl, ⟨nd, rfl⟩⟩; refine ⟨_, rfl, ?_⟩))
    go_ret
    exact ⟨rs, dr⟩
   subst c5
   rw [if_pos rfl] at H
   revert H
   refine ok1 fun t18 A6 H => ?_
   by_cases c7 : t18 = true
   rotate_left
   ·replace c7 := nb_ c7
    subst c7
    rw [if_neg ff_] at H
    obtain rfl := si_ H
    have p12 : 0 ≤ (x3_1 : Int) := od
    have q12 : x3_1 < (l0.length : Int) := od
    obtain ⟨ad12, e12, hx12_0, hx12_1⟩ := at_T116 HR0.out x3_1 p12 q12
    cases e12
    replace p12 := eq_true p12
    replace q12 := eq_true q12
    go_wp2_with (first | ((with_reducible refine gw ?_); first | (refine gl 15 Tryz.func134 #[.string ((rd_T116 l0 x3_1).f0)] ?_; (with_reducible refine (spec_TokenOk.calls k1 ((rd_T116 l0 x3_1).f0) true _ A4.out).mono ?_); rintro e w' ⟨rfl, ⟨nd, rfl⟩⟩; refine ⟨_, rfl, ?_⟩; have p13 : 0 ≤ (x3_1 : Int) := od; have q13 : x3_1 < (l0.length : Int) := od; obtain ⟨ad13, e13, hx13_0, hx13_1⟩ := at_T116 HR0.out x3_1 p13 q13; obtain rfl : ad12 = ad13 := (by injection e13); replace p13 := eq_true p13; replace q13 := eq_true q13)) | (go_at_call 135; (with_reducible refine (spec_ValueOk.calls k1 ((rd_T116 l0 x3_1).f1) false _ A6.out).mono ?_); rintro e w' ⟨rfl, ⟨nd, rfl⟩⟩))
    go_ret
    exact ⟨rs, dr⟩
   subst c7
   rw [if_pos rfl] at H
   revert H
   refine ok1 fun t16 A8 H => ?_
   by_cases c9 : t16 = x3_1
   rotate_left
   ·rw [if_neg c9] at H
    have c9b0 := eqf c9
    have c9b1 := net c9
    obtain rfl := si_ H
    have p12 : 0 ≤ (x3_1 : Int) := od
    have q12 : x3_1 < (l0.length : Int) := od
    obtain ⟨ad12, e12, hx12_0, hx12_1⟩ := at_T116 HR0.out x3_1 p12 q12
    cases e12
    replace p12 := eq_true p12
    replace q12 := eq_true q12
    go_wp2_with (first | ((with_reducible refine gw ?_); first | (refine gl 15 Tryz.func134 #[.string ((rd_T116 l0 x3_1).f0)] ?_; (with_reducible refine (spec_TokenOk.calls k1 ((rd_T116 l0 x3_1).f0) true _ A4.out).mono ?_); rintro e w' ⟨rfl, ⟨nd, rfl⟩⟩; refine ⟨_, rfl, ?_⟩; have p13 : 0 ≤ (x3_1 : Int) := od; have q13 : x3_1 < (l0.length : Int) := od; obtain ⟨ad13, e13, hx13_0, hx13_1⟩ := at_T116 HR0.out x3_1 p13 q13; obtain rfl : ad12 = ad13 := (by injection e13); replace p13 := eq_true p13; replace q13 := eq_true q13)) | (go_at_call 135; (with_reducible refine (spec_ValueOk.calls k1 ((rd_T116 l0 x3_1).f1) true _ A6.out).mono ?_); rintro e w' ⟨rfl, ⟨nd, rfl⟩⟩; have p14 : 0 ≤ (x3_1 : Int) := od; have q14 : x3_1 < (l0.length : Int) := od; obtain ⟨ad14, e14, hx14_0, hx14_1⟩ := at_T116 HR0.out x3_1 p14 q14; obtain rfl : ad12 = ad14 := (by injection e14); replace p14 := eq_true p14; replace q14 := eq_true q14) | (go_at_call 137; refine (spec_l2At.calls k1 _ _ l0 ((rd_T116 l0 x3_1).f0) t16 _ (cc HR0) HC0.out A8.out).mono ?_; rintro e w' ⟨rfl, ⟨nd, rfl⟩⟩))
    go_ret
    exact ⟨rs, dr⟩
   rw [if_pos c9] at H
   have c9b0 := eqt c9
   have c9b1 := nef c9
   clear c9
   have HH10 := am H
   clear H
   have p12 : 0 ≤ (x3_1 : Int) := od
   have q12 : x3_1 < (l0.length : Int) := od
   obtain ⟨ad12, e12, hx12_0, hx12_1⟩ := at_T116 HR0.out x3_1 p12 q12
   cases e12
   replace p12 := eq_true p12
   replace q12 := eq_true q12
   go_upto_if 44 with (first | ((with_reducible refine gw ?_); first | (refine gl 15 Tryz.func134 #[.string ((rd_T116 l0 x3_1).f0)] ?_; (with_reducible refine (spec_TokenOk.calls k1 ((rd_T116 l0 x3_1).f0) true _ A4.out).mono ?_); rintro e w' ⟨rfl, ⟨nd, rfl⟩⟩; refine ⟨_, rfl, ?_⟩; have p13 : 0 ≤ (x3_1 : Int) := od; have q13 : x3_1 < (l0.length : Int) := od; obtain ⟨ad13, e13, hx13_0, hx13_1⟩ := at_T116 HR0.out x3_1 p13 q13; obtain rfl : ad12 = ad13 := (by injection e13); replace p13 := eq_true p13; replace q13 := eq_true q13)) | (go_at_call 135; (with_reducible refine (spec_ValueOk.calls k1 ((rd_T116 l0 x3_1).f1) true _ A6.out).mono ?_); rintro e w' ⟨rfl, ⟨nd, rfl⟩⟩; have p14 : 0 ≤ (x3_1 : Int) := od; have q14 : x3_1 < (l0.length : Int) := od; obtain ⟨ad14, e14, hx14_0, hx14_1⟩ := at_T116 HR0.out x3_1 p14 q14; obtain rfl : ad12 = ad14 := (by injection e14); replace p14 := eq_true p14; replace q14 := eq_true q14) | (go_at_call 137; refine (spec_l2At.calls k1 _ _ l0 ((rd_T116 l0 x3_1).f0) t16 _ (cc HR0) HC0.out A8.out).mono ?_; rintro e w' ⟨rfl, ⟨nd, rfl⟩⟩; have p15 : 0 ≤ (x3_1 : Int) := od; have q15 : x3_1 < (l0.length : Int) := od; obtain ⟨ad15, e15, hx15_0, hx15_1⟩ := at_T116 HR0.out x3_1 p15 q15; obtain rfl : ad12 = ad15 := (by injection e15); replace p15 := eq_true p15; replace q15 := eq_true q15))
   have H := HH10.out
   clear HH10
   by_cases c11 : ((rd_T116 l0 x3_1).f0).toList = ([99, 111, 110, 116, 101, 110, 116, 45, 108, 101, 110, 103, 116, 104] : List UInt8)
   ·rw [if_pos c11] at H
    have c11b0 := eqt c11
    have c11b1 := nef c11
    clear c11
    (first | rw [c11b0] | (simp only [i64_w, i32_w]; rw [c11b0]) | skip)
    obtain rfl := si_ H
    go_wp2
    go_ret
    exact ⟨rs, dr⟩
   rw [if_neg c11] at H
   have c11b0 := eqf c11
   have c11b1 := net c11
   (first | rw [c11b0] | (simp only [i64_w, i32_w]; rw [c11b0]) | skip)
   have H' := am H
   clear H
   go_wp2
   go_roundg k1
   case measure => have := HK1.out; omega
   case rel => exact ⟨(wrap64 (x3_1 + 1)), rs, H', ⟨by have := HK1.out; omega⟩, dr⟩
def spec_RespOk.f (k : Nat) (a0_0 : Int) (l0_1 : List (S116)) (a0_2 : ByteArray) : Option (Bool) := (spec_l1In.f a0_0 100 599).bind fun t9 => (if t9 = true then ((spec_FieldsOk.f k l0_1).bind fun t11 => (if t11 = true then (some (decide ((a0_2.size : Int) ≤ 120))) else (some false))) else (some false))
theorem spec_RespOk.calls (k : Nat) (a0_0 : Int) (A0_1 : Option Addr) (c0_1 : Nat) (l0_1 : List (S116)) (a0_2 : ByteArray) (r : Bool) (w : World) (hr0_1 : Kd.C k116 w A0_1 l0_1.length l0_1) (hc0_1 : l0_1.length ≤ c0_1) (h : spec_RespOk.f k a0_0 l0_1 a0_2 = some r) :
  Calls Tryz.prog 92 #[.agg #[.int .i64 a0_0, .slice A0_1 l0_1.length c0_1, .string a0_2]] w fun e w' => e = .returned (.bool r) ∧ Below w.heap.size w w' := by
 have hu29 := Tryz.underlying29
 have HR0_1 := am hr0_1
 have HC0_1 := am hc0_1
 clear hr0_1 hc0_1
 have HB := am (Below.refl w.heap.size w)
 unfold spec_RespOk.f at h
 have H := h
 clear h
 revert H
 refine ok1 fun t9 A2 H => ?_
 by_cases c3 : t9 = true
 rotate_left
 ·replace c3 := nb_ c3
  subst c3
  rw [if_neg ff_] at H
  obtain rfl := si_ H
  go_enter Tryz.func92, Tryz.ntmps92
  go_wp2_with (first | ((with_reducible refine gate_dst (N := 1) rfl ?_); (try (refine gate_guard (by rfl) ?_; dsimp only)); refine box_event ?hg (N := 1) ?hd (cs := #[.int .i64 a0_0, .slice A0_1 l0_1.length c0_1, .string a0_2]) (t := 29) ?hr ?_; (case hd => rfl); (case hg => rfl); (case hr => first | (go_simp; done) | (go_simp; rfl)); intro gb7 hg w10 hbox hb; have BK7 := am (hbox); have GW7 := am (sz hg : w.heap.size ≤ gb7); have GE7 := am (sz hg : w.heap.size ≤ gb7); replace HB := am (below_step bl hb); clear hb hbox hg; obtain ⟨_, _, _, _, _, _⟩ := cl3 BK7) | ((with_reducible refine gw ?_); first | (refine gl 5 Tryz.func79 #[.int .i64 a0_0, .int .i64 100, .int .i64 599] ?_; (with_reducible refine (spec_l1In.calls a0_0 100 599 false _ A2.out).mono ?_); rintro e w' ⟨rfl, ⟨nd, rfl⟩⟩; refine ⟨_, rfl, ?_⟩)))
  go_ret
  exact ⟨rf, bl⟩
 subst c3
 rw [if_pos rfl] at H
 revert H
 refine ok1 fun t11 A4 H => ?_
 by_cases c5 : t11 = true
 ·subst c5
  rw [if_pos rfl] at H
  obtain rfl := si_ H
  go_enter Tryz.func92, Tryz.ntmps92
  go_wp2_with (first | ((with_reducible refine gate_dst (N := 1) rfl ?_); (try (refine gate_guard (by rfl) ?_; dsimp only)); refine box_event ?hg (N := 1) ?hd (cs := #[.int .i64 a0_0, .slice A0_1 l0_1.length c0_1, .string a0_2]) (t := 29) ?hr ?_; (case hd => rfl); (case hg => rfl); (case hr => first | (go_simp; done) | (go_simp; rfl)); intro gb7 hg w6 hbox hb; have BK7 := am (hbox); have GW7 := am (sz hg : w.heap.size ≤ gb7); have GE7 := am (sz hg : w.heap.size ≤ gb7); replace HB := am (below_step bl hb); clear hb hbox hg; obtain ⟨_, _, _, _, _, _⟩ := cl3 BK7) | ((with_reducible refine gw ?_); first | (refine gl 5 Tryz.func79 #[.int .i64 a0_0, .int .i64 100, .int .i64 599] ?_; (with_reducible refine (spec_l1In.calls a0_0 100 599 true _ A2.out).mono ?_); rintro e w' ⟨rfl, ⟨nd, rfl⟩⟩; refine ⟨_, rfl, ?_⟩)) | (go_at_call 149; (with_reducible refine (spec_FieldsOk.calls k _ _ l0_1 true _ ?side1 ?side2 A4.out).mono ?_); (case side1 => repeat (first | exact (Kd.C_below HR0_1.out bl) | (with_reducible refine Kd.C_alloc ?_ _) | (with_reducible refine Kd.C_drewN ?_ _) | (with_reducible refine Kd.C_drew ?_))); (case side2 => exact HC0_1.out); rintro e w' ⟨rfl, ⟨nd, rfl⟩⟩))
  go_ret
  exact ⟨rf, bl⟩
 replace c5 := nb_ c5
 subst c5
 rw [if_neg ff_] at H
 obtain rfl := si_ H
 go_enter Tryz.func92, Tryz.ntmps92
 go_wp2_with (first | ((with_reducible refine gate_dst (N := 1) rfl ?_); (try (refine gate_guard (by rfl) ?_; dsimp only)); refine box_event ?hg (N := 1) ?hd (cs := #[.int .i64 a0_0, .slice A0_1 l0_1.length c0_1, .string a0_2]) (t := 29) ?hr ?_; (case hd => rfl); (case hg => rfl); (case hr => first | (go_simp; done) | (go_simp; rfl)); intro gb7 hg w8 hbox hb; have BK7 := am (hbox); have GW7 := am (sz hg : w.heap.size ≤ gb7); have GE7 := am (sz hg : w.heap.size ≤ gb7); replace HB := am (below_step bl hb); clear hb hbox hg; obtain ⟨_, _, _, _, _, _⟩ := cl3 BK7) | ((with_reducible refine gw ?_); first | (refine gl 5 Tryz.func79 #[.int .i64 a0_0, .int .i64 100, .int .i64 599] ?_; (with_reducible refine (spec_l1In.calls a0_0 100 599 true _ A2.out).mono ?_); rintro e w' ⟨rfl, ⟨nd, rfl⟩⟩; refine ⟨_, rfl, ?_⟩)) | (go_at_call 149; (with_reducible refine (spec_FieldsOk.calls k _ _ l0_1 false _ ?side1 ?side2 A4.out).mono ?_); (case side1 => repeat (first | exact (Kd.C_below HR0_1.out bl) | (with_reducible refine Kd.C_alloc ?_ _) | (with_reducible refine Kd.C_drewN ?_ _) | (with_reducible refine Kd.C_drew ?_))); (case side2 => exact HC0_1.out); rintro e w' ⟨rfl, ⟨nd, rfl⟩⟩))
 go_ret
 exact ⟨rf, bl⟩
def spec_l9Names.l0 : Nat → List ByteArray → Int → Option (Bool)
 | 0, _, _ => none
 | k + 1, x0, x3 => if x3 < (x0.length : Int) then (if 0 ≤ x3 then ((spec_TokenOk.f k (rdOf ByteArray.empty x0 x3)).bind fun t7 => (if t7 = true then (spec_l9Names.l0 k x0 (wrap64 (x3 + 1))) else (some false))) else (none)) else (some (decide ((x0.length : Int) ≤ 4)))
def spec_l9Names.f (k : Nat) (l0 : List ByteArray) : Option (Bool) := spec_l9Names.l0 k l0 0
theorem spec_l9Names.calls (k : Nat) (A0 : Option Addr) (c0 : Nat) (l0 : List ByteArray) (r : Bool) (w : World) (hr0 : Kd.C Kd.string w A0 l0.length l0) (hc0 : l0.length ≤ c0) (h : spec_l9Names.f k l0 = some r) :
  Calls Tryz.prog 93 #[.slice A0 l0.length c0] w fun e w' => e = .returned (.bool r) ∧ Drawn0 w w' := by
 have HR0 := am hr0
 have HC0 := am hc0
 clear hr0 hc0
 unfold spec_l9Names.f at h
 have H := h
 clear h
 have H' := am H
 clear H
 go_enter Tryz.func93, Tryz.ntmps93
 go_wp2
 (try simp only [Act.put, List.setIfInBounds_toArray, List.set_cons_zero, List.set_cons_succ])
 go_loopg [3] k (fun kq v3 w' => ∃ (x3_1 : Int), v3 = .int .i64 x3_1 ∧ Aside0 (spec_l9Names.l0 kq l0 x3_1 = some r) ∧ Aside0 (kq ≤ k) ∧ Drawn0 w w')
 case atStart => exact ⟨(0), rs, H', ⟨Nat.le_refl _⟩, dr⟩
 case round =>
  clear H'
  obtain ⟨x3_1, rfl, HA, HK1, ⟨m1, rfl⟩⟩ := hrel
  cases gk with
  | zero => exact absurd HA.out (by simp [spec_l9Names.l0])
  | succ k1 =>
   have H := HA.out
   clear HA
   simp only [spec_l9Names.l0] at H
   by_cases c2 : x3_1 < (l0.length : Int)
   rotate_left
   ·rw [if_neg c2] at H
    have c2b0 := decide_eq_false c2
    clear c2
    obtain rfl := si_ H
    go_wp2
    go_ret
    exact ⟨rs, dr⟩
   rw [if_pos c2] at H
   have c2b0 := decide_eq_true c2
   clear c2
   revert H
   refine ifn fun c3 H => ?_
   have c3b0 := decide_eq_true c3
   clear c3
   revert H
   refine ok1 fun t7 A4 H => ?_
   by_cases c5 : t7 = true
   rotate_left
   ·replace c5 := nb_ c5
    subst c5
    rw [if_neg ff_] at H
    obtain rfl := si_ H
    have p6 : 0 ≤ (x3_1 : Int) := od
    have q6 : x3_1 < (l0.length : Int) := od
    obtain ⟨ad6, e6, hx6_0⟩ := Kd.at_string HR0.out x3_1 p6 q6
    cases e6
    replace p6 := eq_true p6
    replace q6 := eq_true q6
    go_wp2_with ((with_reducible refine gw ?_); first | (refine gl 14 Tryz.func134 #[.string (rdOf ByteArray.empty l0 x3_1)] ?_; (with_reducible refine (spec_TokenOk.calls k1 (rdOf ByteArray.empty l0 x3_1) false _ A4.out).mono ?_); rintro e w' ⟨rfl, ⟨nd, rfl⟩⟩; refine ⟨_, rfl, ?_⟩))
    go_ret
    exact ⟨rs, dr⟩
   subst c5
   rw [if_pos rfl] at H
   have H' := am H
   clear H
   have p6 : 0 ≤ (x3_1 : Int) := od
   have q6 : x3_1 < (l0.length : Int) := od
   obtain ⟨ad6, e6, hx6_0⟩ := Kd.at_string HR0.out x3_1 p6 q6
   cases e6
   replace p6 := eq_true p6
   replace q6 := eq_true q6
   go_wp2_with ((with_reducible refine gw ?_); first | (refine gl 14 Tryz.func134 #[.string (rdOf ByteArray.empty l0 x3_1)] ?_; (with_reducible refine (spec_TokenOk.calls k1 (rdOf ByteArray.empty l0 x3_1) true _ A4.out).mono ?_); rintro e w' ⟨rfl, ⟨nd, rfl⟩⟩; refine ⟨_, rfl, ?_⟩))
   go_roundg k1
   case measure => have := HK1.out; omega
   case rel => exact ⟨(wrap64 (x3_1 + 1)), rs, H', ⟨by have := HK1.out; omega⟩, dr⟩
theorem u94HB {p : Prop} (h : p := by repeat (first | (with_reducible first | exact HB.out | apply below_alloc | apply pw_below_drewN | apply below_drew1) | exact HB.out)) : p := h
def spec_VaryOf.l0 : Nat → List ByteArray → Int → Option (List ByteArray)
 | 0, _, _ => none
 | k + 1, x5, x6 => if x6 < (x5.length : Int) then (if 0 ≤ x6 then ((spec_Lower.f k (rdOf ByteArray.empty x5 x6)).bind fun t16 => (spec_VaryOf.l0 k (x5.set (x6 : Int).toNat t16) (wrap64 (x6 + 1)))) else (none)) else (some x5)
def spec_VaryOf.f (k : Nat) (l0 : List (S116)) : Option (List ByteArray) := (spec_Get.f k l0 (⟨#[118, 97, 114, 121]⟩ : ByteArray)).bind fun bt17 => ((spec_Split.f k bt17.1).bind fun t18 => (spec_VaryOf.l0 k t18 0))
theorem spec_VaryOf.calls (k : Nat) (A0 : Option Addr) (c0 : Nat) (l0 : List (S116)) (r : List ByteArray) (w : World) (hr0 : Kd.C k116 w A0 l0.length l0) (hc0 : l0.length ≤ c0) (h : spec_VaryOf.f k l0 = some r) :
  Calls Tryz.prog 94 #[.slice A0 l0.length c0] w fun e w' => ∃ v0_ : Value, e = .returned (v0_) ∧ Kd.R Kd.string 9 w' w.heap.size (fun _ => True) v0_ r ∧ Below w.heap.size w w' := by
 have HR0 := am hr0
 have HC0 := am hc0
 clear hr0 hc0
 have HB := am (Below.refl w.heap.size w)
 unfold spec_VaryOf.f at h
 have H := h
 clear h
 revert H
 refine ok2 fun t17 t19 A2 H => ?_
 (try dsimp only at H)
 revert H
 refine ok1 fun t18 A3 H => ?_
 have H' := am H
 clear H
 go_enter Tryz.func94, Tryz.ntmps94
 go_wp2_with ((with_reducible refine gw ?_); first | (refine gl 9 Tryz.func66 #[.slice A0 l0.length c0, .string (⟨#[118, 97, 114, 121]⟩ : ByteArray)] ?_; refine (spec_Get.calls k _ _ l0 (⟨#[118, 97, 114, 121]⟩ : ByteArray) t17 t19 _ (cc HR0) HC0.out A2.out).mono ?_; rintro e w' ⟨rfl, ⟨nd, rfl⟩⟩; refine ⟨_, rfl, ?_⟩) | (refine gl 13 Tryz.func86 #[.string t17] ?_; (with_reducible refine (spec_Split.calls k t17 t18 _ A3.out).mono ?_); rintro e w4 ⟨v20, rfl, ho0, hb⟩; refine ⟨_, rfl, ?_⟩; have HO21 := am (Kd.R_lower ho0 (below_size bl)); replace HB := am (below_step bl hb); clear hb ho0))
 (try simp only [Act.put, List.setIfInBounds_toArray, List.set_cons_zero, List.set_cons_succ])
 go_loopg [6] k (fun kq v6 w' => ∃ (x5_1 : List ByteArray) (x6_1 : Int), v6 = .int .i64 x6_1 ∧ Aside0 (spec_VaryOf.l0 kq x5_1 x6_1 = some r) ∧ Aside0 (kq ≤ k) ∧ Aside0 (Kd.R Kd.string 9 w' w.heap.size (fun _ => True) v20 x5_1) ∧ Aside0 (Below w.heap.size w w'))
 case atStart => exact ⟨(t18), (0), rs, H', ⟨Nat.le_refl _⟩, ⟨ro HO21⟩, ⟨u94HB⟩⟩
 case round =>
  clear H'
  obtain ⟨x5_1, x6_1, rfl, HA, HK1, HO_5, HB⟩ := hrel
  cases gk with
  | zero => exact absurd HA.out (by simp [spec_VaryOf.l0])
  | succ k1 =>
   have H := HA.out
   clear HA
   simp only [spec_VaryOf.l0] at H
   by_cases c5 : x6_1 < (x5_1.length : Int)
   rotate_left
   ·rw [if_neg c5] at H
    have c5b0 := decide_eq_false c5
    clear c5
    obtain rfl := si_ H
    obtain ⟨Ao13, co13, eo13⟩ := Kd.R_slice HO_5.out
    subst eo13
    go_wp2
    go_ret
    exact ⟨_, rf, by (with_reducible repeat (first | apply Kd.R_alloc | apply Kd.R_drewN | apply Kd.R_drew)); exact HO_5.out, bl⟩
   rw [if_pos c5] at H
   have c5b0 := decide_eq_true c5
   clear c5
   revert H
   refine ifn fun c6 H => ?_
   have c6b0 := decide_eq_true c6
   clear c6
   revert H
   refine ok1 fun t16 A7 H => ?_
   obtain ⟨y15, hy15⟩ : ∃ y_ : List ByteArray, y_ = (x5_1.set (x6_1 : Int).toNat t16) := ⟨_, rfl⟩
   replace H : (spec_VaryOf.l0 k1 y15 (wrap64 (x6_1 + 1))) = some r := by first | (rw [hy15]; with_reducible exact H) | (have H2_ := (Option.bind_some _ _).symm.trans H; rw [hy15]; with_reducible exact H2_) | (have H2_ := (Option.bind_some _ _).symm.trans H; with_reducible exact H2_) | with_reducible exact H | (rw [hy15]; exact H) | exact H
   have Ny15 := am hy15
   clear hy15
   have H' := am H
   clear H
   obtain ⟨Ao9, co9, eo9⟩ := Kd.R_slice HO_5.out
   subst eo9
   have p14 : 0 ≤ (x6_1 : Int) := od
   have q14 : x6_1 < (x5_1.length : Int) := od
   obtain ⟨ad14, e14, hx14_0⟩ := Kd.at_string (Kd.R_reads' HO_5.out).2.2 x6_1 p14 q14
   cases e14
   replace p14 := eq_true p14
   replace q14 := eq_true q14
   go_wp2_with (first | ((with_reducible refine gw ?_); first | (refine gl 26 Tryz.func87 #[.string (rdOf ByteArray.empty x5_1 x6_1)] ?_; (with_reducible refine (spec_Lower.calls k1 (rdOf ByteArray.empty x5_1 x6_1) t16 _ A7.out).mono ?_); rintro e w10 ⟨rfl, hb⟩; refine ⟨_, rfl, ?_⟩; replace HO_5 := kr HO_5 hb; replace HB := am (below_step bl hb); clear hb; have p8 : 0 ≤ (x6_1 : Int) := od; have q8 : (x6_1 : Int) < ((x5_1.length : Int) : Int) := od; obtain ⟨go8, co8, eo8, gb8, gl8, cl8, HG8⟩ := Kd.R_form HO_5.out (by omega); (first | cases eo8 | (injection eo8 with ea_ en_ ec_; (first | subst ea_ | (injection ea_ with ea_; subst ea_)); subst ec_; clear en_)); have GB8 := am gb8; have GG8 := am HG8; clear gb8 gl8 HG8; (first | simp only [add_plain] at hx14_0 | skip); obtain ⟨hx8_0, hf8_0⟩ := Kd.R_celln (⟨#[]⟩ : ByteArray) HO_5.out (x6_1 : Int) p8 q8; replace p8 := eq_true p8; replace q8 := eq_true q8; obtain ⟨hy11_, hz11_⟩ := Kd.R_celln (⟨#[]⟩ : ByteArray) HO_5.out (x6_1 : Int) (od) (od); have HP11 := Kd.R_putg HO_5.out (x6_1 : Int) t16)) | ((with_reducible refine gate_store (t := 9) (p := 27) rfl ?_); refine store_event (t := 9) (p := 27) (v := ?vo_w12) (w1 := (w10.setCell ⟨go8, (x6_1 : Int).toNat, none⟩ (.string t16))) ?hg ?ho ?hn ?hr ?_; (case ho => rfl); (case hg => rfl); (case hn => rfl); (case hr => first | (go_simp; done) | (go_simp; rfl)); intro w12 hw; have hg : w10.grownBy w12 (some go8) := (by rw [hw]; exact HP11.2); have hp_ : Kd.R Kd.string 9 w12 w.heap.size (fun _ => True) (.slice (some ⟨go8, 0, none⟩) x5_1.length co9) y15 := (by rw [hw, Ny15.out]; exact HP11.1); clear HP11; have n0_ := am (hp_); have n1_ := am ((by rw [hw]; exact below_set (HB.out) GB8.out : Below w.heap.size w w12)); clear HO_5; clear HB; have HO_5 := n0_; have HB := n1_; clear n0_ n1_; clear hg hw hp_))
   go_roundg k1
   case measure => have := HK1.out; omega
   case rel => exact ⟨(y15), (wrap64 (x6_1 + 1)), rs, H', ⟨by have := HK1.out; omega⟩, ⟨ro HO_5⟩, ⟨u94HB⟩⟩
def impl_areFrom.l0 : Nat → ByteArray → Int → Int → Option (Bool)
 | 0, _, _, _ => none
 | k + 1, x0, x1, x5 => if x5 < (x0.size : Int) then (if 0 ≤ x5 then (if (bt x0 x5) < x1 then (some false) else (if (bt x0 x5) > 126 then (some false) else (impl_areFrom.l0 k x0 x1 (wrap64 (x5 + 1))))) else (none)) else (some true)
def impl_areFrom.f (k : Nat) (a0 : ByteArray) (a1 : Int) : Option (Bool) := impl_areFrom.l0 k a0 a1 0
theorem impl_areFrom.calls (k : Nat) (a0 : ByteArray) (a1 : Int) (r : Bool) (w : World) (h : impl_areFrom.f k a0 a1 = some r) :
  Calls Tryz.prog 138 #[.string a0, .int .u8 a1] w fun e w' => e = .returned (.bool r) ∧ Drawn0 w w' := by
 unfold impl_areFrom.f at h
 have H := h
 clear h
 have H' := am H
 clear H
 go_enter Tryz.func138, Tryz.ntmps138
 go_wp2
 (try simp only [Act.put, List.setIfInBounds_toArray, List.set_cons_zero, List.set_cons_succ])
 go_loopg [5] k (fun kq v5 w' => ∃ (x5_1 : Int), v5 = .int .i64 x5_1 ∧ Aside0 (impl_areFrom.l0 kq a0 a1 x5_1 = some r) ∧ Aside0 (kq ≤ k) ∧ Drawn0 w w')
 case atStart => exact ⟨(0), rs, H', ⟨Nat.le_refl _⟩, dr⟩
 case round =>
  clear H'
  obtain ⟨x5_1, rfl, HA, HK1, ⟨m1, rfl⟩⟩ := hrel
  cases gk with
  | zero => exact absurd HA.out (by simp [impl_areFrom.l0])
  | succ k1 =>
   have H := HA.out
   clear HA
   simp only [impl_areFrom.l0] at H
   by_cases c3 : x5_1 < (a0.size : Int)
   rotate_left
   ·rw [if_neg c3] at H
    have c3b0 := decide_eq_false c3
    clear c3
    obtain rfl := si_ H
    go_wp2
    go_ret
    exact ⟨rs, dr⟩
   rw [if_pos c3] at H
   have c3b0 := decide_eq_true c3
   clear c3
   revert H
   refine ifn fun c4 H => ?_
   have c4b0 := decide_eq_true c4
   clear c4
   by_cases c6 : (bt a0 x5_1) < a1
   ·rw [if_pos c6] at H
    have c6b0 := decide_eq_true c6
    clear c6
    obtain rfl := si_ H
    have p5 : 0 ≤ (x5_1 : Int) := od
    have q5 : x5_1 < (a0.size : Int) := od
    have hx5 := bt_at a0 x5_1
    replace p5 := eq_true p5
    replace q5 := eq_true q5
    go_wp2
    go_ret
    exact ⟨rs, dr⟩
   rw [if_neg c6] at H
   have c6b0 := decide_eq_false c6
   clear c6
   by_cases c8 : (bt a0 x5_1) > 126
   ·rw [if_pos c8] at H
    have c8b0 := decide_eq_true c8
    clear c8
    obtain rfl := si_ H
    have p5 : 0 ≤ (x5_1 : Int) := od
    have q5 : x5_1 < (a0.size : Int) := od
    have hx5 := bt_at a0 x5_1
    replace p5 := eq_true p5
    replace q5 := eq_true q5
    have p7 : 0 ≤ (x5_1 : Int) := od
    have q7 : x5_1 < (a0.size : Int) := od
    have hx7 := bt_at a0 x5_1
    replace p7 := eq_true p7
    replace q7 := eq_true q7
    go_wp2
    go_ret
    exact ⟨rs, dr⟩
   rw [if_neg c8] at H
   have c8b0 := decide_eq_false c8
   clear c8
   have H' := am H
   clear H
   have p5 : 0 ≤ (x5_1 : Int) := od
   have q5 : x5_1 < (a0.size : Int) := od
   have hx5 := bt_at a0 x5_1
   replace p5 := eq_true p5
   replace q5 := eq_true q5
   have p7 : 0 ≤ (x5_1 : Int) := od
   have q7 : x5_1 < (a0.size : Int) := od
   have hx7 := bt_at a0 x5_1
   replace p7 := eq_true p7
   replace q7 := eq_true q7
   go_wp2
   go_roundg k1
   case measure => have := HK1.out; omega
   case rel => exact ⟨(wrap64 (x5_1 + 1)), rs, H', ⟨by have := HK1.out; omega⟩, dr⟩
def impl_pathOk.f (k : Nat) (a0 : ByteArray) : Option (Bool) := (impl_inRange.f (a0.size : Int) 1 60).bind fun t8 => (if t8 = true then (if 0 < (a0.size : Int) then (if (bt a0 0) = 47 then ((impl_areFrom.f k a0 33).bind fun t9 => (some t9)) else (some false)) else (none)) else (some false))
theorem impl_pathOk.calls (k : Nat) (a0 : ByteArray) (r : Bool) (w : World) (h : impl_pathOk.f k a0 = some r) :
  Calls Tryz.prog 68 #[.string a0] w fun e w' => e = .returned (.bool r) ∧ Drawn0 w w' := by
 unfold impl_pathOk.f at h
 have H := h
 clear h
 revert H
 refine ok1 fun t8 A2 H => ?_
 by_cases c3 : t8 = true
 rotate_left
 ·replace c3 := nb_ c3
  subst c3
  rw [if_neg ff_] at H
  obtain rfl := si_ H
  go_enter Tryz.func68, Tryz.ntmps68
  go_wp2_with ((with_reducible refine gw ?_); first | (refine gl 5 Tryz.func76 #[.int .i64 (a0.size : Int), .int .i64 1, .int .i64 60] ?_; (with_reducible refine (impl_inRange.calls (a0.size : Int) 1 60 false _ A2.out).mono ?_); rintro e w' ⟨rfl, ⟨nd, rfl⟩⟩; refine ⟨_, rfl, ?_⟩))
  go_ret
  exact ⟨rs, dr⟩
 subst c3
 rw [if_pos rfl] at H
 revert H
 refine ifn fun c4 H => ?_
 have c4b0 := decide_eq_true c4
 have c4b1 : decide (0 < a0.size) = true := decide_eq_true (by omega)
 clear c4
 by_cases c6 : (bt a0 0) = 47
 rotate_left
 ·rw [if_neg c6] at H
  have c6b0 := eqf c6
  have c6b1 := net c6
  obtain rfl := si_ H
  go_enter Tryz.func68, Tryz.ntmps68
  go_wp2_with ((with_reducible refine gw ?_); first | (refine gl 5 Tryz.func76 #[.int .i64 (a0.size : Int), .int .i64 1, .int .i64 60] ?_; (with_reducible refine (impl_inRange.calls (a0.size : Int) 1 60 true _ A2.out).mono ?_); rintro e w' ⟨rfl, ⟨nd, rfl⟩⟩; refine ⟨_, rfl, ?_⟩; have p5 : 0 ≤ (0 : Int) := (by omega); have q5 : 0 < a0.size := (by have : (0 : Int) < (a0.size : Int) := od; omega); have hx5 : ∀ h : 0 < a0.size, ((a0[0]'h).toNat : Int) = bt a0 0 := bt_at a0 0; clear p5; have qi5 : (0 < (a0.size : Int)) = True := eq_true (od); replace q5 := eq_true q5))
  go_ret
  exact ⟨rs, dr⟩
 rw [if_pos c6] at H
 have c6b0 := eqt c6
 have c6b1 := nef c6
 clear c6
 revert H
 refine ok1 fun t9 A7 H => ?_
 obtain rfl := si_ H
 go_enter Tryz.func68, Tryz.ntmps68
 go_wp2_with (first | ((with_reducible refine gw ?_); first | (refine gl 5 Tryz.func76 #[.int .i64 (a0.size : Int), .int .i64 1, .int .i64 60] ?_; (with_reducible refine (impl_inRange.calls (a0.size : Int) 1 60 true _ A2.out).mono ?_); rintro e w' ⟨rfl, ⟨nd, rfl⟩⟩; refine ⟨_, rfl, ?_⟩; have p5 : 0 ≤ (0 : Int) := (by omega); have q5 : 0 < a0.size := (by have : (0 : Int) < (a0.size : Int) := od; omega); have hx5 : ∀ h : 0 < a0.size, ((a0[0]'h).toNat : Int) = bt a0 0 := bt_at a0 0; clear p5; have qi5 : (0 < (a0.size : Int)) = True := eq_true (od); replace q5 := eq_true q5)) | (go_at_call 138; (with_reducible refine (impl_areFrom.calls k a0 33 t9 _ A7.out).mono ?_); rintro e w' ⟨rfl, ⟨nd, rfl⟩⟩))
 go_ret
 exact ⟨rs, dr⟩
def impl_TokenOk.l0 : Nat → ByteArray → Int → Option (Bool)
 | 0, _, _ => none
 | k + 1, x0, x3 => if x3 < (x0.size : Int) then (if 0 ≤ x3 then (if (bt x0 x3) ≥ 97 then (if (bt x0 x3) ≤ 122 then (impl_TokenOk.l0 k x0 (wrap64 (x3 + 1))) else (if (bt x0 x3) ≥ 48 then (if (bt x0 x3) ≤ 57 then (impl_TokenOk.l0 k x0 (wrap64 (x3 + 1))) else (if ((bt x0 x3) = 45) then (impl_TokenOk.l0 k x0 (wrap64 (x3 + 1))) else (some false))) else (if ((bt x0 x3) = 45) then (impl_TokenOk.l0 k x0 (wrap64 (x3 + 1))) else (some false)))) else (if (bt x0 x3) ≥ 48 then (if (bt x0 x3) ≤ 57 then (impl_TokenOk.l0 k x0 (wrap64 (x3 + 1))) else (if ((bt x0 x3) = 45) then (impl_TokenOk.l0 k x0 (wrap64 (x3 + 1))) else (some false))) else (if ((bt x0 x3) = 45) then (impl_TokenOk.l0 k x0 (wrap64 (x3 + 1))) else (some false)))) else (none)) else ((impl_inRange.f (x0.size : Int) 1 20).bind fun t25 => (some t25))
def impl_TokenOk.f (k : Nat) (a0 : ByteArray) : Option (Bool) := impl_TokenOk.l0 k a0 0
theorem impl_TokenOk.calls (k : Nat) (a0 : ByteArray) (r : Bool) (w : World) (h : impl_TokenOk.f k a0 = some r) :
  Calls Tryz.prog 69 #[.string a0] w fun e w' => e = .returned (.bool r) ∧ Drawn0 w w' := by
 unfold impl_TokenOk.f at h
 have H := h
 clear h
 have H' := am H
 clear H
 go_enter Tryz.func69, Tryz.ntmps69
 go_wp2
 (try simp only [Act.put, List.setIfInBounds_toArray, List.set_cons_zero, List.set_cons_succ])
 go_loopg [3] k (fun kq v3 w' => ∃ (x3_1 : Int), v3 = .int .i64 x3_1 ∧ Aside0 (impl_TokenOk.l0 kq a0 x3_1 = some r) ∧ Aside0 (kq ≤ k) ∧ Drawn0 w w')
 case atStart => exact ⟨(0), rs, H', ⟨Nat.le_refl _⟩, dr⟩
 case round =>
  clear H'
  obtain ⟨x3_1, rfl, HA, HK1, ⟨m1, rfl⟩⟩ := hrel
  cases gk with
  | zero => exact absurd HA.out (by simp [impl_TokenOk.l0])
  | succ k1 =>
   have H := HA.out
   clear HA
   simp only [impl_TokenOk.l0] at H
   by_cases c2 : x3_1 < (a0.size : Int)
   rotate_left
   ·rw [if_neg c2] at H
    have c2b0 := decide_eq_false c2
    clear c2
    revert H
    refine ok1 fun t25 A24 H => ?_
    obtain rfl := si_ H
    go_wp2_with ((with_reducible refine gw ?_); first | (refine gl 41 Tryz.func76 #[.int .i64 (a0.size : Int), .int .i64 1, .int .i64 20] ?_; (with_reducible refine (impl_inRange.calls (a0.size : Int) 1 20 t25 _ A24.out).mono ?_); rintro e w' ⟨rfl, ⟨nd, rfl⟩⟩; refine ⟨_, rfl, ?_⟩))
    go_ret
    exact ⟨rs, dr⟩
   rw [if_pos c2] at H
   have c2b0 := decide_eq_true c2
   clear c2
   revert H
   refine ifn fun c3 H => ?_
   have c3b0 := decide_eq_true c3
   clear c3
   by_cases c5 : (bt a0 x3_1) ≥ 97
   rotate_left
   ·rw [if_neg c5] at H
    have c5b0 := decide_eq_false c5
    clear c5
    by_cases c17 : (bt a0 x3_1) ≥ 48
    rotate_left
    ·rw [if_neg c17] at H
     have c17b0 := decide_eq_false c17
     clear c17
     by_cases c23 : ((bt a0 x3_1) = 45)
     rotate_left
     ·rw [if_neg c23] at H
      have c23b0 : ((bt a0 x3_1) == 45) = false := beq_eq_false_iff_ne.mpr c23
      have c23b1 : ((bt a0 x3_1) != 45) = true := bne_iff_ne.mpr c23
      obtain rfl := si_ H
      have p4 : 0 ≤ (x3_1 : Int) := od
      have q4 : x3_1 < (a0.size : Int) := od
      have hx4 := bt_at a0 x3_1
      replace p4 := eq_true p4
      replace q4 := eq_true q4
      have p16 : 0 ≤ (x3_1 : Int) := od
      have q16 : x3_1 < (a0.size : Int) := od
      have hx16 := bt_at a0 x3_1
      replace p16 := eq_true p16
      replace q16 := eq_true q16
      have p22 : 0 ≤ (x3_1 : Int) := od
      have q22 : x3_1 < (a0.size : Int) := od
      have hx22 := bt_at a0 x3_1
      replace p22 := eq_true p22
      replace q22 := eq_true q22
      go_wp2
      go_ret
      exact ⟨rs, dr⟩
     rw [if_pos c23] at H
     have c23b0 : ((bt a0 x3_1) == 45) = true := beq_iff_eq.mpr c23
     have c23b1 : ((bt a0 x3_1) != 45) = false := bne_eq_false_iff_eq.mpr c23
     clear c23
     have H' := am H
     clear H
     have p4 : 0 ≤ (x3_1 : Int) := od
     have q4 : x3_1 < (a0.size : Int) := od
     have hx4 := bt_at a0 x3_1
     replace p4 := eq_true p4
     replace q4 := eq_true q4
     have p16 : 0 ≤ (x3_1 : Int) := od
     have q16 : x3_1 < (a0.size : Int) := od
     have hx16 := bt_at a0 x3_1
     replace p16 := eq_true p16
     replace q16 := eq_true q16
     have p22 : 0 ≤ (x3_1 : Int) := od
     have q22 : x3_1 < (a0.size : Int) := od
     have hx22 := bt_at a0 x3_1
     replace p22 := eq_true p22
     replace q22 := eq_true q22
     go_wp2
     go_roundg k1
     case measure => have := HK1.out; omega
     case rel => exact ⟨(wrap64 (x3_1 + 1)), rs, H', ⟨by have := HK1.out; omega⟩, dr⟩
    rw [if_pos c17] at H
    have c17b0 := decide_eq_true c17
    clear c17
    by_cases c19 : (bt a0 x3_1) ≤ 57
    ·rw [if_pos c19] at H
     have c19b0 := decide_eq_true c19
     clear c19
     have H' := am H
     clear H
     have p4 : 0 ≤ (x3_1 : Int) := od
     have q4 : x3_1 < (a0.size : Int) := od
     have hx4 := bt_at a0 x3_1
     replace p4 := eq_true p4
     replace q4 := eq_true q4
     have p16 : 0 ≤ (x3_1 : Int) := od
     have q16 : x3_1 < (a0.size : Int) := od
     have hx16 := bt_at a0 x3_1
     replace p16 := eq_true p16
     replace q16 := eq_true q16
     have p18 : 0 ≤ (x3_1 : Int) := od
     have q18 : x3_1 < (a0.size : Int) := od
     have hx18 := bt_at a0 x3_1
     replace p18 := eq_true p18
     replace q18 := eq_true q18
     go_wp2
     go_roundg k1
     case measure => have := HK1.out; omega
     case rel => exact ⟨(wrap64 (x3_1 + 1)), rs, H', ⟨by have := HK1.out; omega⟩, dr⟩
    rw [if_neg c19] at H
    have c19b0 := decide_eq_false c19
    clear c19
    by_cases c21 : ((bt a0 x3_1) = 45)
    rotate_left
    ·rw [if_neg c21] at H
     have c21b0 : ((bt a0 x3_1) == 45) = false := beq_eq_false_iff_ne.mpr c21
     have c21b1 : ((bt a0 x3_1) != 45) = true := bne_iff_ne.mpr c21
     obtain rfl := si_ H
     have p4 : 0 ≤ (x3_1 : Int) := od
     have q4 : x3_1 < (a0.size : Int) := od
     have hx4 := bt_at a0 x3_1
     replace p4 := eq_true p4
     replace q4 := eq_true q4
     have p16 : 0 ≤ (x3_1 : Int) := od
     have q16 : x3_1 < (a0.size : Int) := od
     have hx16 := bt_at a0 x3_1
     replace p16 := eq_true p16
     replace q16 := eq_true q16
     have p18 : 0 ≤ (x3_1 : Int) := od
     have q18 : x3_1 < (a0.size : Int) := od
     have hx18 := bt_at a0 x3_1
     replace p18 := eq_true p18
     replace q18 := eq_true q18
     have p20 : 0 ≤ (x3_1 : Int) := od
     have q20 : x3_1 < (a0.size : Int) := od
     have hx20 := bt_at a0 x3_1
     replace p20 := eq_true p20
     replace q20 := eq_true q20
     go_wp2
     go_ret
     exact ⟨rs, dr⟩
    rw [if_pos c21] at H
    have c21b0 : ((bt a0 x3_1) == 45) = true := beq_iff_eq.mpr c21
    have c21b1 : ((bt a0 x3_1) != 45) = false := bne_eq_false_iff_eq.mpr c21
    clear c21
    have H' := am H
    clear H
    have p4 : 0 ≤ (x3_1 : Int) := od
    have q4 : x3_1 < (a0.size : Int) := od
    have hx4 := bt_at a0 x3_1
    replace p4 := eq_true p4
    replace q4 := eq_true q4
    have p16 : 0 ≤ (x3_1 : Int) := od
    have q16 : x3_1 < (a0.size : Int) := od
    have hx16 := bt_at a0 x3_1
    replace p16 := eq_true p16
    replace q16 := eq_true q16
    have p18 : 0 ≤ (x3_1 : Int) := od
    have q18 : x3_1 < (a0.size : Int) := od
    have hx18 := bt_at a0 x3_1
    replace p18 := eq_true p18
    replace q18 := eq_true q18
    have p20 : 0 ≤ (x3_1 : Int) := od
    have q20 : x3_1 < (a0.size : Int) := od
    have hx20 := bt_at a0 x3_1
    replace p20 := eq_true p20
    replace q20 := eq_true q20
    go_wp2
    go_roundg k1
    case measure => have := HK1.out; omega
    case rel => exact ⟨(wrap64 (x3_1 + 1)), rs, H', ⟨by have := HK1.out; omega⟩, dr⟩
   rw [if_pos c5] at H
   have c5b0 := decide_eq_true c5
   clear c5
   by_cases c7 : (bt a0 x3_1) ≤ 122
   ·rw [if_pos c7] at H
    have c7b0 := decide_eq_true c7
    clear c7
    have H' := am H
    clear H
    have p4 : 0 ≤ (x3_1 : Int) := od
    have q4 : x3_1 < (a0.size : Int) := od
    have hx4 := bt_at a0 x3_1
    replace p4 := eq_true p4
    replace q4 := eq_true q4
    have p6 : 0 ≤ (x3_1 : Int) := od
    have q6 : x3_1 < (a0.size : Int) := od
    have hx6 := bt_at a0 x3_1
    replace p6 := eq_true p6
    replace q6 := eq_true q6
    go_wp2
    go_roundg k1
    case measure => have := HK1.out; omega
    case rel => exact ⟨(wrap64 (x3_1 + 1)), rs, H', ⟨by have := HK1.out; omega⟩, dr⟩
   rw [if_neg c7] at H
   have c7b0 := decide_eq_false c7
   clear c7
   by_cases c9 : (bt a0 x3_1) ≥ 48
   rotate_left
   ·rw [if_neg c9] at H
    have c9b0 := decide_eq_false c9
    clear c9
    by_cases c15 : ((bt a0 x3_1) = 45)
    rotate_left
    ·rw [if_neg c15] at H
     have c15b0 : ((bt a0 x3_1) == 45) = false := beq_eq_false_iff_ne.mpr c15
     have c15b1 : ((bt a0 x3_1) != 45) = true := bne_iff_ne.mpr c15
     obtain rfl := si_ H
     have p4 : 0 ≤ (x3_1 : Int) := od
     have q4 : x3_1 < (a0.size : Int) := od
     have hx4 := bt_at a0 x3_1
     replace p4 := eq_true p4
     replace q4 := eq_true q4
     have p6 : 0 ≤ (x3_1 : Int) := od
     have q6 : x3_1 < (a0.size : Int) := od
     have hx6 := bt_at a0 x3_1
     replace p6 := eq_true p6
     replace q6 := eq_true q6
     have p8 : 0 ≤ (x3_1 : Int) := od
     have q8 : x3_1 < (a0.size : Int) := od
     have hx8 := bt_at a0 x3_1
     replace p8 := eq_true p8
     replace q8 := eq_true q8
     have p14 : 0 ≤ (x3_1 : Int) := od
     have q14 : x3_1 < (a0.size : Int) := od
     have hx14 := bt_at a0 x3_1
     replace p14 := eq_true p14
     replace q14 := eq_true q14
     go_wp2
     go_ret
     exact ⟨rs, dr⟩
    rw [if_pos c15] at H
    have c15b0 : ((bt a0 x3_1) == 45) = true := beq_iff_eq.mpr c15
    have c15b1 : ((bt a0 x3_1) != 45) = false := bne_eq_false_iff_eq.mpr c15
    clear c15
    have H' := am H
    clear H
    have p4 : 0 ≤ (x3_1 : Int) := od
    have q4 : x3_1 < (a0.size : Int) := od
    have hx4 := bt_at a0 x3_1
    replace p4 := eq_true p4
    replace q4 := eq_true q4
    have p6 : 0 ≤ (x3_1 : Int) := od
    have q6 : x3_1 < (a0.size : Int) := od
    have hx6 := bt_at a0 x3_1
    replace p6 := eq_true p6
    replace q6 := eq_true q6
    have p8 : 0 ≤ (x3_1 : Int) := od
    have q8 : x3_1 < (a0.size : Int) := od
    have hx8 := bt_at a0 x3_1
    replace p8 := eq_true p8
    replace q8 := eq_true q8
    have p14 : 0 ≤ (x3_1 : Int) := od
    have q14 : x3_1 < (a0.size : Int) := od
    have hx14 := bt_at a0 x3_1
    replace p14 := eq_true p14
    replace q14 := eq_true q14
    go_wp2
    go_roundg k1
    case measure => have := HK1.out; omega
    case rel => exact ⟨(wrap64 (x3_1 + 1)), rs, H', ⟨by have := HK1.out; omega⟩, dr⟩
   rw [if_pos c9] at H
   have c9b0 := decide_eq_true c9
   clear c9
   by_cases c11 : (bt a0 x3_1) ≤ 57
   ·rw [if_pos c11] at H
    have c11b0 := decide_eq_true c11
    clear c11
    have H' := am H
    clear H
    have p4 : 0 ≤ (x3_1 : Int) := od
    have q4 : x3_1 < (a0.size : Int) := od
    have hx4 := bt_at a0 x3_1
    replace p4 := eq_true p4
    replace q4 := eq_true q4
    have p6 : 0 ≤ (x3_1 : Int) := od
    have q6 : x3_1 < (a0.size : Int) := od
    have hx6 := bt_at a0 x3_1
    replace p6 := eq_true p6
    replace q6 := eq_true q6
    have p8 : 0 ≤ (x3_1 : Int) := od
    have q8 : x3_1 < (a0.size : Int) := od
    have hx8 := bt_at a0 x3_1
    replace p8 := eq_true p8
    replace q8 := eq_true q8
    have p10 : 0 ≤ (x3_1 : Int) := od
    have q10 : x3_1 < (a0.size : Int) := od
    have hx10 := bt_at a0 x3_1
    replace p10 := eq_true p10
    replace q10 := eq_true q10
    go_wp2
    go_roundg k1
    case measure => have := HK1.out; omega
    case rel => exact ⟨(wrap64 (x3_1 + 1)), rs, H', ⟨by have := HK1.out; omega⟩, dr⟩
   rw [if_neg c11] at H
   have c11b0 := decide_eq_false c11
   clear c11
   by_cases c13 : ((bt a0 x3_1) = 45)
   rotate_left
   ·rw [if_neg c13] at H
    have c13b0 : ((bt a0 x3_1) == 45) = false := beq_eq_false_iff_ne.mpr c13
    have c13b1 : ((bt a0 x3_1) != 45) = true := bne_iff_ne.mpr c13
    obtain rfl := si_ H
    have p4 : 0 ≤ (x3_1 : Int) := od
    have q4 : x3_1 < (a0.size : Int) := od
    have hx4 := bt_at a0 x3_1
    replace p4 := eq_true p4
    replace q4 := eq_true q4
    have p6 : 0 ≤ (x3_1 : Int) := od
    have q6 : x3_1 < (a0.size : Int) := od
    have hx6 := bt_at a0 x3_1
    replace p6 := eq_true p6
    replace q6 := eq_true q6
    have p8 : 0 ≤ (x3_1 : Int) := od
    have q8 : x3_1 < (a0.size : Int) := od
    have hx8 := bt_at a0 x3_1
    replace p8 := eq_true p8
    replace q8 := eq_true q8
    have p10 : 0 ≤ (x3_1 : Int) := od
    have q10 : x3_1 < (a0.size : Int) := od
    have hx10 := bt_at a0 x3_1
    replace p10 := eq_true p10
    replace q10 := eq_true q10
    have p12 : 0 ≤ (x3_1 : Int) := od
    have q12 : x3_1 < (a0.size : Int) := od
    have hx12 := bt_at a0 x3_1
    replace p12 := eq_true p12
    replace q12 := eq_true q12
    go_wp2
    go_ret
    exact ⟨rs, dr⟩
   rw [if_pos c13] at H
   have c13b0 : ((bt a0 x3_1) == 45) = true := beq_iff_eq.mpr c13
   have c13b1 : ((bt a0 x3_1) != 45) = false := bne_eq_false_iff_eq.mpr c13
   clear c13
   have H' := am H
   clear H
   have p4 : 0 ≤ (x3_1 : Int) := od
   have q4 : x3_1 < (a0.size : Int) := od
   have hx4 := bt_at a0 x3_1
   replace p4 := eq_true p4
   replace q4 := eq_true q4
   have p6 : 0 ≤ (x3_1 : Int) := od
   have q6 : x3_1 < (a0.size : Int) := od
   have hx6 := bt_at a0 x3_1
   replace p6 := eq_true p6
   replace q6 := eq_true q6
   have p8 : 0 ≤ (x3_1 : Int) := od
   have q8 : x3_1 < (a0.size : Int) := od
   have hx8 := bt_at a0 x3_1
   replace p8 := eq_true p8
   replace q8 := eq_true q8
   have p10 : 0 ≤ (x3_1 : Int) := od
   have q10 : x3_1 < (a0.size : Int) := od
   have hx10 := bt_at a0 x3_1
   replace p10 := eq_true p10
   replace q10 := eq_true q10
   have p12 : 0 ≤ (x3_1 : Int) := od
   have q12 : x3_1 < (a0.size : Int) := od
   have hx12 := bt_at a0 x3_1
   replace p12 := eq_true p12
   replace q12 := eq_true q12
   go_wp2
   go_roundg k1
   case measure => have := HK1.out; omega
   case rel => exact ⟨(wrap64 (x3_1 + 1)), rs, H', ⟨by have := HK1.out; omega⟩, dr⟩
def impl_ValueOk.f (k : Nat) (a0 : ByteArray) : Option (Bool) := (impl_inRange.f (a0.size : Int) 1 60).bind fun t8 => (if t8 = true then ((impl_areFrom.f k a0 32).bind fun t9 => (if t9 = true then ((impl_Trim.f a0).bind fun t10 => (some (t10.toList == a0.toList))) else (some false))) else (some false))
theorem impl_ValueOk.calls (k : Nat) (a0 : ByteArray) (r : Bool) (w : World) (h : impl_ValueOk.f k a0 = some r) :
  Calls Tryz.prog 70 #[.string a0] w fun e w' => e = .returned (.bool r) ∧ Below w.heap.size w w' := by
 have HB := am (Below.refl w.heap.size w)
 unfold impl_ValueOk.f at h
 have H := h
 clear h
 revert H
 refine ok1 fun t8 A2 H => ?_
 by_cases c3 : t8 = true
 rotate_left
 ·replace c3 := nb_ c3
  subst c3
  rw [if_neg ff_] at H
  obtain rfl := si_ H
  go_enter Tryz.func70, Tryz.ntmps70
  go_wp2_with ((with_reducible refine gw ?_); first | (refine gl 5 Tryz.func76 #[.int .i64 (a0.size : Int), .int .i64 1, .int .i64 60] ?_; (with_reducible refine (impl_inRange.calls (a0.size : Int) 1 60 false _ A2.out).mono ?_); rintro e w' ⟨rfl, ⟨nd, rfl⟩⟩; refine ⟨_, rfl, ?_⟩))
  go_ret
  exact ⟨rf, bl⟩
 subst c3
 rw [if_pos rfl] at H
 revert H
 refine ok1 fun t9 A4 H => ?_
 by_cases c5 : t9 = true
 rotate_left
 ·replace c5 := nb_ c5
  subst c5
  rw [if_neg ff_] at H
  obtain rfl := si_ H
  go_enter Tryz.func70, Tryz.ntmps70
  go_wp2_with (first | ((with_reducible refine gw ?_); first | (refine gl 5 Tryz.func76 #[.int .i64 (a0.size : Int), .int .i64 1, .int .i64 60] ?_; (with_reducible refine (impl_inRange.calls (a0.size : Int) 1 60 true _ A2.out).mono ?_); rintro e w' ⟨rfl, ⟨nd, rfl⟩⟩; refine ⟨_, rfl, ?_⟩)) | (go_at_call 138; (with_reducible refine (impl_areFrom.calls k a0 32 false _ A4.out).mono ?_); rintro e w' ⟨rfl, ⟨nd, rfl⟩⟩))
  go_ret
  exact ⟨rf, bl⟩
 subst c5
 rw [if_pos rfl] at H
 revert H
 refine ok1 fun t10 A6 H => ?_
 obtain rfl := si_ H
 go_enter Tryz.func70, Tryz.ntmps70
 go_wp2_with (first | ((with_reducible refine gw ?_); first | (refine gl 5 Tryz.func76 #[.int .i64 (a0.size : Int), .int .i64 1, .int .i64 60] ?_; (with_reducible refine (impl_inRange.calls (a0.size : Int) 1 60 true _ A2.out).mono ?_); rintro e w' ⟨rfl, ⟨nd, rfl⟩⟩; refine ⟨_, rfl, ?_⟩)) | (go_at_call 138; (with_reducible refine (impl_areFrom.calls k a0 32 true _ A4.out).mono ?_); rintro e w' ⟨rfl, ⟨nd, rfl⟩⟩) | (go_at_call 139; (with_reducible refine (impl_Trim.calls a0 t10 _ A6.out).mono ?_); rintro e w7 ⟨rfl, hb⟩; replace HB := am (below_step bl hb); clear hb))
 go_ret
 exact ⟨rf, bl⟩
theorem u95HB {p : Prop} (h : p := by repeat (first | (with_reducible first | exact HB.out | apply below_alloc | apply pw_below_drewN | apply below_drew1 | refine below_set ?_ GE13.out) | exact HB.out)) : p := h
def impl_FieldsOk.l0 : Nat → List (S116) → List (S116) → Int → Int → Option (Bool)
 | 0, _, _, _, _ => none
 | k + 1, x0, x5, x6, x7 => if x7 < x6 then (if 0 ≤ x7 then (if x7 < (x5.length : Int) then ((impl_TokenOk.f k ((rd_T116 x5 x7).f0)).bind fun t19 => (if t19 = true then ((impl_ValueOk.f k ((rd_T116 x5 x7).f1)).bind fun t23 => (if t23 = true then (if ((rd_T116 x5 x7).f0).toList = ([99, 111, 110, 116, 101, 110, 116, 45, 108, 101, 110, 103, 116, 104] : List UInt8) then (some false) else ((impl_fieldAt.f x0 ((rd_T116 x5 x7).f0)).bind fun t17 => (if t17 = x7 then (impl_FieldsOk.l0 k x0 x5 x6 (wrap64 (x7 + 1))) else (some false)))) else (some false))) else (some false))) else (none)) else (none)) else (some (decide ((x0.length : Int) ≤ 8)))
def impl_FieldsOk.f (k : Nat) (l0 : List (S116)) : Option (Bool) := impl_FieldsOk.l0 k l0 l0 (l0.length : Int) 0
theorem impl_FieldsOk.calls (k : Nat) (A0 : Option Addr) (c0 : Nat) (l0 : List (S116)) (r : Bool) (w : World) (hr0 : Kd.C k116 w A0 l0.length l0) (hc0 : l0.length ≤ c0) (h : impl_FieldsOk.f k l0 = some r) :
  Calls Tryz.prog 95 #[.slice A0 l0.length c0] w fun e w' => e = .returned (.bool r) ∧ Below w.heap.size w w' := by
 have hu116 := Tryz.underlying116
 have HR0 := am hr0
 have HC0 := am hc0
 clear hr0 hc0
 have HB := am (Below.refl w.heap.size w)
 unfold impl_FieldsOk.f at h
 have H := h
 clear h
 have H' := am H
 clear H
 go_enter Tryz.func95, Tryz.ntmps95
 go_wp2
 (try simp only [Act.put, List.setIfInBounds_toArray, List.set_cons_zero, List.set_cons_succ])
 go_loopg [7] k (fun kq v7 w' => ∃ (x7_1 : Int), v7 = .int .i64 x7_1 ∧ Aside0 (impl_FieldsOk.l0 kq l0 l0 (l0.length : Int) x7_1 = some r) ∧ Aside0 (kq ≤ k) ∧ Aside0 (Below w.heap.size w w'))
 case atStart => exact ⟨(0), rs, H', ⟨Nat.le_refl _⟩, ⟨u95HB⟩⟩
 case round =>
  clear H'
  obtain ⟨x7_1, rfl, HA, HK1, HB⟩ := hrel
  cases gk with
  | zero => exact absurd HA.out (by simp [impl_FieldsOk.l0])
  | succ k1 =>
   have H := HA.out
   clear HA
   simp only [impl_FieldsOk.l0] at H
   by_cases c2 : x7_1 < (l0.length : Int)
   rotate_left
   ·rw [if_neg c2] at H
    have c2b0 := decide_eq_false c2
    clear c2
    obtain rfl := si_ H
    go_wp2
    go_ret
    exact ⟨rf, bl⟩
   rw [if_pos c2] at H
   have c2b0 := decide_eq_true c2
   clear c2
   revert H
   refine ifn fun c3 H => ?_
   have c3b0 := decide_eq_true c3
   clear c3
   revert H
   refine ifn fun c4 H => ?_
   have c4b0 := decide_eq_true c4
   clear c4
   revert H
   refine ok1 fun t19 A5 H => ?_
   by_cases c6 : t19 = true
   rotate_left
   ·replace c6 := nb_ c6
    subst c6
    rw [if_neg ff_] at H
    obtain rfl := si_ H
    have p11 : 0 ≤ (x7_1 : Int) := od
    have q11 : x7_1 < (l0.length : Int) := od
    obtain ⟨ad11, e11, hx11_0, hx11_1⟩ := at_T116 HR0.out x7_1 p11 q11
    cases e11
    replace hx11_0 := hcw hx11_0
    replace hx11_1 := hcw hx11_1
    replace p11 := eq_true p11
    replace q11 := eq_true q11
    go_wp2_with ((with_reducible refine gw ?_); first | (refine bx 4 #[.string (⟨#[]⟩ : ByteArray), .string (⟨#[]⟩ : ByteArray)] 116 ?_; intro gb13 hg w25 hbox hb; have BK13 := am (hbox); have GW13 := am (sz hg : w.heap.size ≤ gb13); have GE13 := am (sz hg : w.heap.size ≤ gb13); replace HB := am (below_step bl hb); clear hb hbox hg; obtain ⟨_, _, _, _⟩ := cl2 BK13) | (refine gl 14 Tryz.func69 #[.string ((rd_T116 l0 x7_1).f0)] ?_; (with_reducible refine (impl_TokenOk.calls k1 ((rd_T116 l0 x7_1).f0) false _ A5.out).mono ?_); rintro e w' ⟨rfl, ⟨nd, rfl⟩⟩; refine ⟨_, rfl, ?_⟩))
    go_ret
    exact ⟨rf, bl⟩
   subst c6
   rw [if_pos rfl] at H
   revert H
   refine ok1 fun t23 A7 H => ?_
   by_cases c8 : t23 = true
   rotate_left
   ·replace c8 := nb_ c8
    subst c8
    rw [if_neg ff_] at H
    obtain rfl := si_ H
    have p11 : 0 ≤ (x7_1 : Int) := od
    have q11 : x7_1 < (l0.length : Int) := od
    obtain ⟨ad11, e11, hx11_0, hx11_1⟩ := at_T116 HR0.out x7_1 p11 q11
    cases e11
    replace hx11_0 := hcw hx11_0
    replace hx11_1 := hcw hx11_1
    replace p11 := eq_true p11
    replace q11 := eq_true q11
    go_wp2_with (first | ((with_reducible refine gw ?_); first | (refine bx 4 #[.string (⟨#[]⟩ : ByteArray), .string (⟨#[]⟩ : ByteArray)] 116 ?_; intro gb13 hg w22 hbox hb; have BK13 := am (hbox); have GW13 := am (sz hg : w.heap.size ≤ gb13); have GE13 := am (sz hg : w.heap.size ≤ gb13); replace HB := am (below_step bl hb); clear hb hbox hg; obtain ⟨_, _, _, _⟩ := cl2 BK13) | (refine gl 14 Tryz.func69 #[.string ((rd_T116 l0 x7_1).f0)] ?_; (with_reducible refine (impl_TokenOk.calls k1 ((rd_T116 l0 x7_1).f0) true _ A5.out).mono ?_); rintro e w' ⟨rfl, ⟨nd, rfl⟩⟩; refine ⟨_, rfl, ?_⟩)) | (go_at_call 70; (with_reducible refine (impl_ValueOk.calls k1 ((rd_T116 l0 x7_1).f1) false _ A7.out).mono ?_); rintro e w24 ⟨rfl, hb⟩; replace BK13 := am (blk_below (g := gb13) (o := .cells #[.string ((rd_T116 l0 x7_1).f0), .string ((rd_T116 l0 x7_1).f1)] 116 (0, 0)) (pt0 BK13) hb); replace HB := am (below_step bl hb); clear hb))
    go_ret
    exact ⟨rf, bl⟩
   subst c8
   rw [if_pos rfl] at H
   by_cases c9 : ((rd_T116 l0 x7_1).f0).toList = ([99, 111, 110, 116, 101, 110, 116, 45, 108, 101, 110, 103, 116, 104] : List UInt8)
   ·rw [if_pos c9] at H
    have c9b0 := eqt c9
    have c9b1 := nef c9
    clear c9
    obtain rfl := si_ H
    have p11 : 0 ≤ (x7_1 : Int) := od
    have q11 : x7_1 < (l0.length : Int) := od
    obtain ⟨ad11, e11, hx11_0, hx11_1⟩ := at_T116 HR0.out x7_1 p11 q11
    cases e11
    replace hx11_0 := hcw hx11_0
    replace hx11_1 := hcw hx11_1
    replace p11 := eq_true p11
    replace q11 := eq_true q11
    go_wp2_with (first | ((with_reducible refine gw ?_); first | (refine bx 4 #[.string (⟨#[]⟩ : ByteArray), .string (⟨#[]⟩ : ByteArray)] 116 ?_; intro gb13 hg w10 hbox hb; have BK13 := am (hbox); have GW13 := am (sz hg : w.heap.size ≤ gb13); have GE13 := am (sz hg : w.heap.size ≤ gb13); replace HB := am (below_step bl hb); clear hb hbox hg; obtain ⟨_, _, _, _⟩ := cl2 BK13) | (refine gl 14 Tryz.func69 #[.string ((rd_T116 l0 x7_1).f0)] ?_; (with_reducible refine (impl_TokenOk.calls k1 ((rd_T116 l0 x7_1).f0) true _ A5.out).mono ?_); rintro e w' ⟨rfl, ⟨nd, rfl⟩⟩; refine ⟨_, rfl, ?_⟩)) | (go_at_call 70; (with_reducible refine (impl_ValueOk.calls k1 ((rd_T116 l0 x7_1).f1) true _ A7.out).mono ?_); rintro e w12 ⟨rfl, hb⟩; replace BK13 := am (blk_below (g := gb13) (o := .cells #[.string ((rd_T116 l0 x7_1).f0), .string ((rd_T116 l0 x7_1).f1)] 116 (0, 0)) (pt0 BK13) hb); replace HB := am (below_step bl hb); clear hb; obtain ⟨_, _, _, _⟩ := cl2 BK13))
    go_ret
    exact ⟨rf, bl⟩
   rw [if_neg c9] at H
   have c9b0 := eqf c9
   have c9b1 := net c9
   revert H
   refine ok1 fun t17 A14 H => ?_
   have HH15 := am H
   clear H
   have p11 : 0 ≤ (x7_1 : Int) := od
   have q11 : x7_1 < (l0.length : Int) := od
   obtain ⟨ad11, e11, hx11_0, hx11_1⟩ := at_T116 HR0.out x7_1 p11 q11
   cases e11
   replace hx11_0 := hcw hx11_0
   replace hx11_1 := hcw hx11_1
   replace p11 := eq_true p11
   replace q11 := eq_true q11
   go_upto_if 34 with (first | ((with_reducible refine gw ?_); first | (refine bx 4 #[.string (⟨#[]⟩ : ByteArray), .string (⟨#[]⟩ : ByteArray)] 116 ?_; intro gb13 hg w16 hbox hb; have BK13 := am (hbox); have GW13 := am (sz hg : w.heap.size ≤ gb13); have GE13 := am (sz hg : w.heap.size ≤ gb13); replace HB := am (below_step bl hb); clear hb hbox hg; obtain ⟨_, _, _, _⟩ := cl2 BK13) | (refine gl 14 Tryz.func69 #[.string ((rd_T116 l0 x7_1).f0)] ?_; (with_reducible refine (impl_TokenOk.calls k1 ((rd_T116 l0 x7_1).f0) true _ A5.out).mono ?_); rintro e w' ⟨rfl, ⟨nd, rfl⟩⟩; refine ⟨_, rfl, ?_⟩)) | (go_at_call 70; (with_reducible refine (impl_ValueOk.calls k1 ((rd_T116 l0 x7_1).f1) true _ A7.out).mono ?_); rintro e w18 ⟨rfl, hb⟩; replace BK13 := am (blk_below (g := gb13) (o := .cells #[.string ((rd_T116 l0 x7_1).f0), .string ((rd_T116 l0 x7_1).f1)] 116 (0, 0)) (pt0 BK13) hb); replace HB := am (below_step bl hb); clear hb; obtain ⟨_, _, _, _⟩ := cl2 BK13) | (go_at_call 132; refine (impl_fieldAt.calls _ _ l0 ((rd_T116 l0 x7_1).f0) t17 _ (cb HR0) HC0.out A14.out).mono ?_; rintro e w20 ⟨rfl, hb⟩; replace BK13 := kb BK13 hb; replace HB := am (below_step bl hb); clear hb))
   have H := HH15.out
   clear HH15
   by_cases c21 : t17 = x7_1
   rotate_left
   ·rw [if_neg c21] at H
    have c21b0 := eqf c21
    have c21b1 := net c21
    (first | rw [c21b0] | (simp only [i64_w, i32_w]; rw [c21b0]) | skip)
    obtain rfl := si_ H
    go_wp2
    go_ret
    exact ⟨rf, bl⟩
   rw [if_pos c21] at H
   have c21b0 := eqt c21
   have c21b1 := nef c21
   clear c21
   (first | rw [c21b0] | (simp only [i64_w, i32_w]; rw [c21b0]) | skip)
   have H' := am H
   clear H
   go_wp2
   go_roundg k1
   case measure => have := HK1.out; omega
   case rel => exact ⟨(wrap64 (x7_1 + 1)), rs, H', ⟨by have := HK1.out; omega⟩, ⟨u95HB⟩⟩
def impl_RespOk.f (k : Nat) (a0_0 : Int) (l0_1 : List (S116)) (a0_2 : ByteArray) : Option (Bool) := (impl_inRange.f a0_0 100 599).bind fun t10 => (if t10 = true then (if (a0_2.size : Int) ≤ 120 then ((impl_FieldsOk.f k l0_1).bind fun t12 => (some t12)) else (some false)) else (some false))
theorem impl_RespOk.calls (k : Nat) (a0_0 : Int) (A0_1 : Option Addr) (c0_1 : Nat) (l0_1 : List (S116)) (a0_2 : ByteArray) (r : Bool) (w : World) (hr0_1 : Kd.C k116 w A0_1 l0_1.length l0_1) (hc0_1 : l0_1.length ≤ c0_1) (h : impl_RespOk.f k a0_0 l0_1 a0_2 = some r) :
  Calls Tryz.prog 32 #[.agg #[.int .i64 a0_0, .slice A0_1 l0_1.length c0_1, .string a0_2]] w fun e w' => e = .returned (.bool r) ∧ Below w.heap.size w w' := by
 have hu29 := Tryz.underlying29
 have HR0_1 := am hr0_1
 have HC0_1 := am hc0_1
 clear hr0_1 hc0_1
 have HB := am (Below.refl w.heap.size w)
 unfold impl_RespOk.f at h
 have H := h
 clear h
 revert H
 refine ok1 fun t10 A2 H => ?_
 by_cases c3 : t10 = true
 rotate_left
 ·replace c3 := nb_ c3
  subst c3
  rw [if_neg ff_] at H
  obtain rfl := si_ H
  go_enter Tryz.func32, Tryz.ntmps32
  go_wp2_with (first | ((with_reducible refine gate_dst (N := 1) rfl ?_); (try (refine gate_guard (by rfl) ?_; dsimp only)); refine box_event ?hg (N := 1) ?hd (cs := #[.int .i64 a0_0, .slice A0_1 l0_1.length c0_1, .string a0_2]) (t := 29) ?hr ?_; (case hd => rfl); (case hg => rfl); (case hr => first | (go_simp; done) | (go_simp; rfl)); intro gb7 hg w11 hbox hb; have BK7 := am (hbox); have GW7 := am (sz hg : w.heap.size ≤ gb7); have GE7 := am (sz hg : w.heap.size ≤ gb7); replace HB := am (below_step bl hb); clear hb hbox hg; obtain ⟨_, _, _, _, _, _⟩ := cl3 BK7) | ((with_reducible refine gw ?_); first | (refine gl 5 Tryz.func76 #[.int .i64 a0_0, .int .i64 100, .int .i64 599] ?_; (with_reducible refine (impl_inRange.calls a0_0 100 599 false _ A2.out).mono ?_); rintro e w' ⟨rfl, ⟨nd, rfl⟩⟩; refine ⟨_, rfl, ?_⟩)))
  go_ret
  exact ⟨rf, bl⟩
 subst c3
 rw [if_pos rfl] at H
 by_cases c4 : (a0_2.size : Int) ≤ 120
 rotate_left
 ·rw [if_neg c4] at H
  have c4b0 := decide_eq_false c4
  have c4b1 : decide (a0_2.size ≤ 120) = false := decide_eq_false (by omega)
  clear c4
  obtain rfl := si_ H
  go_enter Tryz.func32, Tryz.ntmps32
  go_wp2_with (first | ((with_reducible refine gate_dst (N := 1) rfl ?_); (try (refine gate_guard (by rfl) ?_; dsimp only)); refine box_event ?hg (N := 1) ?hd (cs := #[.int .i64 a0_0, .slice A0_1 l0_1.length c0_1, .string a0_2]) (t := 29) ?hr ?_; (case hd => rfl); (case hg => rfl); (case hr => first | (go_simp; done) | (go_simp; rfl)); intro gb7 hg w9 hbox hb; have BK7 := am (hbox); have GW7 := am (sz hg : w.heap.size ≤ gb7); have GE7 := am (sz hg : w.heap.size ≤ gb7); replace HB := am (below_step bl hb); clear hb hbox hg; obtain ⟨_, _, _, _, _, _⟩ := cl3 BK7) | ((with_reducible refine gw ?_); first | (refine gl 5 Tryz.func76 #[.int .i64 a0_0, .int .i64 100, .int .i64 599] ?_; (with_reducible refine (impl_inRange.calls a0_0 100 599 true _ A2.out).mono ?_); rintro e w' ⟨rfl, ⟨nd, rfl⟩⟩; refine ⟨_, rfl, ?_⟩)))
  go_ret
  exact ⟨rf, bl⟩
 rw [if_pos c4] at H
 have c4b0 := decide_eq_true c4
 have c4b1 : decide (a0_2.size ≤ 120) = true := decide_eq_true (by omega)
 clear c4
 revert H
 refine ok1 fun t12 A5 H => ?_
 obtain rfl := si_ H
 go_enter Tryz.func32, Tryz.ntmps32
 go_wp2_with (first | ((with_reducible refine gate_dst (N := 1) rfl ?_); (try (refine gate_guard (by rfl) ?_; dsimp only)); refine box_event ?hg (N := 1) ?hd (cs := #[.int .i64 a0_0, .slice A0_1 l0_1.length c0_1, .string a0_2]) (t := 29) ?hr ?_; (case hd => rfl); (case hg => rfl); (case hr => first | (go_simp; done) | (go_simp; rfl)); intro gb7 hg w6 hbox hb; have BK7 := am (hbox); have GW7 := am (sz hg : w.heap.size ≤ gb7); have GE7 := am (sz hg : w.heap.size ≤ gb7); replace HB := am (below_step bl hb); clear hb hbox hg; obtain ⟨_, _, _, _, _, _⟩ := cl3 BK7) | ((with_reducible refine gw ?_); first | (refine gl 5 Tryz.func76 #[.int .i64 a0_0, .int .i64 100, .int .i64 599] ?_; (with_reducible refine (impl_inRange.calls a0_0 100 599 true _ A2.out).mono ?_); rintro e w' ⟨rfl, ⟨nd, rfl⟩⟩; refine ⟨_, rfl, ?_⟩)) | (go_at_call 95; (with_reducible refine (impl_FieldsOk.calls k _ _ l0_1 t12 _ ?side1 ?side2 A5.out).mono ?_); (case side1 => repeat (first | exact (Kd.C_below HR0_1.out bl) | (with_reducible refine Kd.C_alloc ?_ _) | (with_reducible refine Kd.C_drewN ?_ _) | (with_reducible refine Kd.C_drew ?_))); (case side2 => exact HC0_1.out); rintro e w8 ⟨rfl, hb⟩; replace BK7 := kb BK7 hb; replace HB := am (below_step bl hb); clear hb))
 go_ret
 exact ⟨rf, bl⟩
def impl_namesOk.l0 : Nat → List ByteArray → List ByteArray → Int → Int → Option (Bool)
 | 0, _, _, _, _ => none
 | k + 1, x0, x5, x6, x7 => if x7 < x6 then (if 0 ≤ x7 then (if x7 < (x5.length : Int) then ((impl_TokenOk.f k (rdOf ByteArray.empty x5 x7)).bind fun t9 => (if t9 = true then (impl_namesOk.l0 k x0 x5 x6 (wrap64 (x7 + 1))) else (some false))) else (none)) else (none)) else (some (decide ((x0.length : Int) ≤ 4)))
def impl_namesOk.f (k : Nat) (l0 : List ByteArray) : Option (Bool) := impl_namesOk.l0 k l0 l0 (l0.length : Int) 0
theorem impl_namesOk.calls (k : Nat) (A0 : Option Addr) (c0 : Nat) (l0 : List ByteArray) (r : Bool) (w : World) (hr0 : Kd.C Kd.string w A0 l0.length l0) (hc0 : l0.length ≤ c0) (h : impl_namesOk.f k l0 = some r) :
  Calls Tryz.prog 71 #[.slice A0 l0.length c0] w fun e w' => e = .returned (.bool r) ∧ Drawn0 w w' := by
 have HR0 := am hr0
 have HC0 := am hc0
 clear hr0 hc0
 unfold impl_namesOk.f at h
 have H := h
 clear h
 have H' := am H
 clear H
 go_enter Tryz.func71, Tryz.ntmps71
 go_wp2
 (try simp only [Act.put, List.setIfInBounds_toArray, List.set_cons_zero, List.set_cons_succ])
 go_loopg [7] k (fun kq v7 w' => ∃ (x7_1 : Int), v7 = .int .i64 x7_1 ∧ Aside0 (impl_namesOk.l0 kq l0 l0 (l0.length : Int) x7_1 = some r) ∧ Aside0 (kq ≤ k) ∧ Drawn0 w w')
 case atStart => exact ⟨(0), rs, H', ⟨Nat.le_refl _⟩, dr⟩
 case round =>
  clear H'
  obtain ⟨x7_1, rfl, HA, HK1, ⟨m1, rfl⟩⟩ := hrel
  cases gk with
  | zero => exact absurd HA.out (by simp [impl_namesOk.l0])
  | succ k1 =>
   have H := HA.out
   clear HA
   simp only [impl_namesOk.l0] at H
   by_cases c2 : x7_1 < (l0.length : Int)
   rotate_left
   ·rw [if_neg c2] at H
    have c2b0 := decide_eq_false c2
    clear c2
    obtain rfl := si_ H
    go_wp2
    go_ret
    exact ⟨rs, dr⟩
   rw [if_pos c2] at H
   have c2b0 := decide_eq_true c2
   clear c2
   revert H
   refine ifn fun c3 H => ?_
   have c3b0 := decide_eq_true c3
   clear c3
   revert H
   refine ifn fun c4 H => ?_
   have c4b0 := decide_eq_true c4
   clear c4
   revert H
   refine ok1 fun t9 A5 H => ?_
   by_cases c6 : t9 = true
   rotate_left
   ·replace c6 := nb_ c6
    subst c6
    rw [if_neg ff_] at H
    obtain rfl := si_ H
    have p8 : 0 ≤ (x7_1 : Int) := od
    have q8 : x7_1 < (l0.length : Int) := od
    obtain ⟨ad8, e8, hx8_0⟩ := Kd.at_string HR0.out x7_1 p8 q8
    cases e8
    replace p8 := eq_true p8
    replace q8 := eq_true q8
    go_wp2_with ((with_reducible refine gw ?_); first | (refine gl 12 Tryz.func69 #[.string (rdOf ByteArray.empty l0 x7_1)] ?_; (with_reducible refine (impl_TokenOk.calls k1 (rdOf ByteArray.empty l0 x7_1) false _ A5.out).mono ?_); rintro e w' ⟨rfl, ⟨nd, rfl⟩⟩; refine ⟨_, rfl, ?_⟩))
    go_ret
    exact ⟨rs, dr⟩
   subst c6
   rw [if_pos rfl] at H
   have H' := am H
   clear H
   have p8 : 0 ≤ (x7_1 : Int) := od
   have q8 : x7_1 < (l0.length : Int) := od
   obtain ⟨ad8, e8, hx8_0⟩ := Kd.at_string HR0.out x7_1 p8 q8
   cases e8
   replace p8 := eq_true p8
   replace q8 := eq_true q8
   go_wp2_with ((with_reducible refine gw ?_); first | (refine gl 12 Tryz.func69 #[.string (rdOf ByteArray.empty l0 x7_1)] ?_; (with_reducible refine (impl_TokenOk.calls k1 (rdOf ByteArray.empty l0 x7_1) true _ A5.out).mono ?_); rintro e w' ⟨rfl, ⟨nd, rfl⟩⟩; refine ⟨_, rfl, ?_⟩))
   go_roundg k1
   case measure => have := HK1.out; omega
   case rel => exact ⟨(wrap64 (x7_1 + 1)), rs, H', ⟨by have := HK1.out; omega⟩, dr⟩
end Go.Proofs.YtjlpjbkpmmpojaaGreatDoor.All
