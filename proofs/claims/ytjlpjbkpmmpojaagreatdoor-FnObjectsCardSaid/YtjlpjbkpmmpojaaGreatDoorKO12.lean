import Derived.Test.YtjlpjbkpmmpojaaGreatDoorKO11
namespace Go.Proofs.YtjlpjbkpmmpojaaGreatDoor.All
open Go.RowKit Go.Proofs.YtjlpjbkpmmpojaaGreatDoorW.PrintWords Go.Proofs.YtjlpjbkpmmpojaaGreatDoorW.PrintLast Go.Proofs.YtjlpjbkpmmpojaaGreatDoorW.PrintMore
set_option maxHeartbeats 8000000
set_option maxRecDepth 100000
attribute [local go_sem] min2_int min_two
set_option linter.unusedVariables false
set_option linter.unusedSimpArgs false
def spec_l1In.f (a0 : Int) (a1 : Int) (a2 : Int) : Option (Bool) := if a0 ≥ a1 then (some (decide (a0 ≤ a2))) else (some false)
theorem spec_l1In.calls (a0 : Int) (a1 : Int) (a2 : Int) (r : Bool) (w : World) (h : spec_l1In.f a0 a1 a2 = some r) :
  Calls Tryz.prog 79 #[.int .i64 a0, .int .i64 a1, .int .i64 a2] w fun e w' => e = .returned (.bool r) ∧ Drawn0 w w' := by
 unfold spec_l1In.f at h
 have H := h
 clear h
 by_cases c4 : a0 ≥ a1
 ·rw [if_pos c4] at H
  have c4b0 := decide_eq_true c4
  clear c4
  obtain rfl := si_ H
  go_enter Tryz.func79, Tryz.ntmps79
  go_wp2
  go_ret
  exact ⟨rs, dr⟩
 rw [if_neg c4] at H
 have c4b0 := decide_eq_false c4
 clear c4
 obtain rfl := si_ H
 go_enter Tryz.func79, Tryz.ntmps79
 go_wp2
 go_ret
 exact ⟨rs, dr⟩
theorem u80HB {p : Prop} (h : p := by repeat (first | (with_reducible first | exact HB.out | apply below_alloc | apply pw_below_drewN | apply below_drew1) | exact HB.out)) : p := h
def spec_NumText.l0 : Nat → Int → ByteArray → Option (ByteArray)
 | 0, _, _ => none
 | k + 1, x0, x3 => if x0 > 0 then ((some (([(wrap64 (48 + (Int.tmod x0 10))) % 256] : List Int) : List Int)).bind fun y11 => (if (strOfNums y11).size + x3.size ≤ 9223372036854775807 then (spec_NumText.l0 k (wrap64 (Int.tdiv x0 10)) ((strOfNums y11) ++ x3)) else (none))) else (some x3)
def spec_NumText.f (k : Nat) (a0 : Int) : Option (ByteArray) := (spec_l1In.f a0 0 1000000).bind fun t12 => (if t12 = true then (if a0 = 0 then (some (⟨#[48]⟩ : ByteArray)) else (spec_NumText.l0 k a0 (⟨#[]⟩ : ByteArray))) else (some (⟨#[]⟩ : ByteArray)))
theorem spec_NumText.calls (k : Nat) (a0 : Int) (r : ByteArray) (w : World) (h : spec_NumText.f k a0 = some r) :
  Calls Tryz.prog 80 #[.int .i64 a0] w fun e w' => e = .returned (.string r) ∧ Below w.heap.size w w' := by
 have HB := am (Below.refl w.heap.size w)
 unfold spec_NumText.f at h
 have H := h
 clear h
 revert H
 refine ok1 fun t12 A2 H => ?_
 have HH3 := am H
 clear H
 go_enter Tryz.func80, Tryz.ntmps80
 go_upto_if 6 with ((with_reducible refine gw ?_); first | (refine gl 5 Tryz.func79 #[.int .i64 a0, .int .i64 0, .int .i64 1000000] ?_; (with_reducible refine (spec_l1In.calls a0 0 1000000 t12 _ A2.out).mono ?_); rintro e w' ⟨rfl, ⟨nd, rfl⟩⟩; refine ⟨_, rfl, ?_⟩))
 have H := HH3.out
 clear HH3
 by_cases c4 : t12 = true
 rotate_left
 ·replace c4 := nb_ c4
  subst c4
  rw [if_neg ff_] at H
  obtain rfl := si_ H
  go_wp2
  go_ret
  exact ⟨rf, bl⟩
 subst c4
 rw [if_pos rfl] at H
 by_cases c5 : a0 = 0
 ·rw [if_pos c5] at H
  have c5b0 := eqt c5
  have c5b1 := nef c5
  clear c5
  (first | rw [c5b0] | (simp only [i64_w, i32_w]; rw [c5b0]) | skip)
  obtain rfl := si_ H
  go_wp2
  go_ret
  exact ⟨rf, bl⟩
 rw [if_neg c5] at H
 have c5b0 := eqf c5
 have c5b1 := net c5
 (first | rw [c5b0] | (simp only [i64_w, i32_w]; rw [c5b0]) | skip)
 have H' := am H
 clear H
 go_wp2
 (try simp only [Act.put, List.setIfInBounds_toArray, List.set_cons_zero, List.set_cons_succ])
 go_loopg [0, 3] k (fun kq v0 v3 w' => ∃ (x0_1 : Int) (x3_1 : ByteArray), v0 = .int .i64 x0_1 ∧ v3 = .string x3_1 ∧ Aside0 (spec_NumText.l0 kq x0_1 x3_1 = some r) ∧ Aside0 (kq ≤ k) ∧ Aside0 (Below w.heap.size w w'))
 case atStart => exact ⟨(a0), ((⟨#[]⟩ : ByteArray)), rs, rs, H', ⟨Nat.le_refl _⟩, ⟨u80HB⟩⟩
 case round =>
  clear H'
  obtain ⟨x0_1, x3_1, rfl, rfl, HA, HK1, HB⟩ := hrel
  cases gk with
  | zero => exact absurd HA.out (by simp [spec_NumText.l0])
  | succ k1 =>
   have H := HA.out
   clear HA
   simp only [spec_NumText.l0] at H
   by_cases c6 : x0_1 > 0
   rotate_left
   ·rw [if_neg c6] at H
    have c6b0 := decide_eq_false c6
    clear c6
    obtain rfl := si_ H
    go_wp2
    go_ret
    exact ⟨rf, bl⟩
   rw [if_pos c6] at H
   have c6b0 := decide_eq_true c6
   clear c6
   obtain ⟨y11, hy11⟩ : ∃ y_, y_ = (([(wrap64 (48 + (Int.tmod x0_1 10))) % 256] : List Int)) := ⟨_, rfl⟩
   (try with_reducible replace H := bs_ H)
   rw [← hy11] at H
   have Ny11 := am hy11
   clear hy11
   revert H
   refine ifn fun c7 H => ?_
   have c7b0 := eq_true c7
   have c7b1 := decide_eq_true c7
   try have c7b2 := eq_false (Nat.not_lt.2 c7)
   have H' := am H
   clear H
   go_wp2_with (first | ((with_reducible refine gate_dst (N := 15) rfl ?_); refine rl (Kd.int .u8) 5 15 ([(wrap64 (48 + (Int.tmod x0_1 10))) % 256] : List Int) [.int .u8 ((wrap64 (48 + (Int.tmod x0_1 10))) % 256)] ?_; intro v14 w8 ho9 hb; (first | rw [← Ny11.out] at ho9 | (simp only [Int.reduceToNat] at ho9; rw [← Ny11.out] at ho9)); have HO13 := am (Kd.R_lower ho9 (below_size bl)); replace HB := am (below_step bl hb); clear hb ho9; have hcv10 := own_string (P := Tryz.prog) Tryz.underlying22 Tryz.underlying5 Tryz.underlying9 (Kd.own_of_R HO13.out)))
   go_roundg k1
   case measure => have := HK1.out; omega
   case rel => exact ⟨(wrap64 (Int.tdiv x0_1 10)), ((strOfNums y11) ++ x3_1), rs, rs, H', ⟨by have := HK1.out; omega⟩, ⟨u80HB⟩⟩
def spec_l2At.l0 : Nat → List (S116) → ByteArray → Int → Option (Int)
 | 0, _, _, _ => none
 | k + 1, x0, x1, x5 => if x5 < (x0.length : Int) then (if 0 ≤ x5 then (if ((rd_T116 x0 x5).f0).toList = x1.toList then (some x5) else (spec_l2At.l0 k x0 x1 (wrap64 (x5 + 1)))) else (none)) else (some (-1))
def spec_l2At.f (k : Nat) (l0 : List (S116)) (a1 : ByteArray) : Option (Int) := spec_l2At.l0 k l0 a1 0
theorem spec_l2At.calls (k : Nat) (A0 : Option Addr) (c0 : Nat) (l0 : List (S116)) (a1 : ByteArray) (r : Int) (w : World) (hr0 : Kd.C k116 w A0 l0.length l0) (hc0 : l0.length ≤ c0) (h : spec_l2At.f k l0 a1 = some r) :
  Calls Tryz.prog 137 #[.slice A0 l0.length c0, .string a1] w fun e w' => e = .returned (.int .i64 r) ∧ Drawn0 w w' := by
 have HR0 := am hr0
 have HC0 := am hc0
 clear hr0 hc0
 unfold spec_l2At.f at h
 have H := h
 clear h
 have H' := am H
 clear H
 go_enter Tryz.func137, Tryz.ntmps137
 go_wp2
 (try simp only [Act.put, List.setIfInBounds_toArray, List.set_cons_zero, List.set_cons_succ])
 go_loopg [5] k (fun kq v5 w' => ∃ (x5_1 : Int), v5 = .int .i64 x5_1 ∧ Aside0 (spec_l2At.l0 kq l0 a1 x5_1 = some r) ∧ Aside0 (kq ≤ k) ∧ Drawn0 w w')
 case atStart => exact ⟨(0), rs, H', ⟨Nat.le_refl _⟩, dr⟩
 case round =>
  clear H'
  obtain ⟨x5_1, rfl, HA, HK1, ⟨m1, rfl⟩⟩ := hrel
  cases gk with
  | zero => exact absurd HA.out (by simp [spec_l2At.l0])
  | succ k1 =>
   have H := HA.out
   clear HA
   simp only [spec_l2At.l0] at H
   by_cases c3 : x5_1 < (l0.length : Int)
   rotate_left
   ·rw [if_neg c3] at H
    have c3b0 := decide_eq_false c3
    clear c3
    obtain rfl := si_ H
    go_wp2
    go_ret
    exact ⟨rs, dr⟩
   rw [if_pos c3] at H
   have c3b0 := decide_eq_true c3
   clear c3
   revert H
   refine ifn fun c4 H => ?_
   have c4b0 := decide_eq_true c4
   clear c4
   by_cases c5 : ((rd_T116 l0 x5_1).f0).toList = a1.toList
   ·rw [if_pos c5] at H
    have c5b0 := eqt c5
    have c5b1 := nef c5
    clear c5
    obtain rfl := si_ H
    have p6 : 0 ≤ (x5_1 : Int) := od
    have q6 : x5_1 < (l0.length : Int) := od
    obtain ⟨ad6, e6, hx6_0, hx6_1⟩ := at_T116 HR0.out x5_1 p6 q6
    cases e6
    replace p6 := eq_true p6
    replace q6 := eq_true q6
    go_wp2
    go_ret
    exact ⟨rs, dr⟩
   rw [if_neg c5] at H
   have c5b0 := eqf c5
   have c5b1 := net c5
   have H' := am H
   clear H
   have p6 : 0 ≤ (x5_1 : Int) := od
   have q6 : x5_1 < (l0.length : Int) := od
   obtain ⟨ad6, e6, hx6_0, hx6_1⟩ := at_T116 HR0.out x5_1 p6 q6
   cases e6
   replace p6 := eq_true p6
   replace q6 := eq_true q6
   go_wp2
   go_roundg k1
   case measure => have := HK1.out; omega
   case rel => exact ⟨(wrap64 (x5_1 + 1)), rs, H', ⟨by have := HK1.out; omega⟩, dr⟩
mutual
def spec_Trim.j1 : Nat → ByteArray → Int → Int → Option (ByteArray)
 | 0, _, _, _ => none
 | k + 1, x0, x3, x4 => spec_Trim.l1 k x0 x3 x4
def spec_Trim.l1 : Nat → ByteArray → Int → Int → Option (ByteArray)
 | 0, _, _, _ => none
 | k + 1, x0, x3, x4 => if x4 > x3 then (if 0 ≤ (wrap64 (x4 - 1)) then (if (wrap64 (x4 - 1)) < (x0.size : Int) then (if (bt x0 (wrap64 (x4 - 1))) = 32 then (spec_Trim.l1 k x0 x3 (wrap64 (x4 - 1))) else (if 0 ≤ x3 then (if x3 ≤ x4 then (if x4 ≤ (x0.size : Int) then (some (x0.extract (x3 : Int).toNat (x4 : Int).toNat)) else (none)) else (none)) else (none))) else (none)) else (none)) else (if 0 ≤ x3 then (if x3 ≤ x4 then (if x4 ≤ (x0.size : Int) then (some (x0.extract (x3 : Int).toNat (x4 : Int).toNat)) else (none)) else (none)) else (none))
def spec_Trim.l0 : Nat → ByteArray → Int → Int → Option (ByteArray)
 | 0, _, _, _ => none
 | k + 1, x0, x3, x4 => if x3 < x4 then (if 0 ≤ x3 then (if x3 < (x0.size : Int) then (if (bt x0 x3) = 32 then (spec_Trim.l0 k x0 (wrap64 (x3 + 1)) x4) else (spec_Trim.j1 k x0 x3 x4)) else (none)) else (none)) else (spec_Trim.j1 k x0 x3 x4)
end
def spec_Trim.f (k : Nat) (a0 : ByteArray) : Option (ByteArray) := spec_Trim.l0 k a0 0 (a0.size : Int)
theorem spec_Trim.calls (k : Nat) (a0 : ByteArray) (r : ByteArray) (w : World) (h : spec_Trim.f k a0 = some r) :
  Calls Tryz.prog 147 #[.string a0] w fun e w' => e = .returned (.string r) ∧ Drawn0 w w' := by
 unfold spec_Trim.f at h
 have H := h
 clear h
 have HC2 := am H
 clear H
 go_enter Tryz.func147, Tryz.ntmps147
 go_upto_block 0 with (fail)
 go_cut [3] (fun v3 wc => ∃ (kq : Nat) (x3_1 : Int), v3 = .int .i64 x3_1 ∧ Aside0 (spec_Trim.j1 kq a0 x3_1 (a0.size : Int) = some r) ∧ Aside0 (kq ≤ k) ∧ Drawn0 w wc)
 case first =>
  have H := HC2.out
  clear HC2
  have H' := am H
  clear H
  go_wp2
  (try simp only [Act.put, List.setIfInBounds_toArray, List.set_cons_zero, List.set_cons_succ])
  go_loopg [3] k (fun kq v3 w' => ∃ (x3_1 : Int), v3 = .int .i64 x3_1 ∧ Aside0 (spec_Trim.l0 kq a0 x3_1 (a0.size : Int) = some r) ∧ Aside0 (kq ≤ k) ∧ Drawn0 w w')
  case atStart => exact ⟨(0), rs, H', ⟨Nat.le_refl _⟩, dr⟩
  case round =>
   clear H'
   obtain ⟨x3_1, rfl, HA, HK1, ⟨m1, rfl⟩⟩ := hrel
   cases gk with
   | zero => exact absurd HA.out (by simp [spec_Trim.l0])
   | succ k1 =>
    have H := HA.out
    clear HA
    simp only [spec_Trim.l0] at H
    by_cases c3 : x3_1 < (a0.size : Int)
    rotate_left
    ·rw [if_neg c3] at H
     have c3b0 := decide_eq_false c3
     clear c3
     (first | rw [c3b0] | (simp only [i64_w, i32_w]; rw [c3b0]) | skip)
     have H' := am H
     clear H
     go_wp2
     go_meet
     case rel => exact ⟨_, (x3_1), rs, H', ⟨by have := HK1.out; first | omega | exact Nat.le_refl _⟩, dr⟩
    rw [if_pos c3] at H
    have c3b0 := decide_eq_true c3
    clear c3
    (first | rw [c3b0] | (simp only [i64_w, i32_w]; rw [c3b0]) | skip)
    revert H
    refine ifn fun c4 H => ?_
    have c4b0 := decide_eq_true c4
    clear c4
    revert H
    refine ifn fun c5 H => ?_
    have c5b0 := decide_eq_true c5
    clear c5
    by_cases c7 : (bt a0 x3_1) = 32
    rotate_left
    ·rw [if_neg c7] at H
     have c7b0 := eqf c7
     have c7b1 := net c7
     have H' := am H
     clear H
     have p6 : 0 ≤ (x3_1 : Int) := od
     have q6 : x3_1 < (a0.size : Int) := od
     have hx6 := bt_at a0 x3_1
     replace p6 := eq_true p6
     replace q6 := eq_true q6
     go_wp2
     go_meet
     case rel => exact ⟨_, (x3_1), rs, H', ⟨by have := HK1.out; first | omega | exact Nat.le_refl _⟩, dr⟩
    rw [if_pos c7] at H
    have c7b0 := eqt c7
    have c7b1 := nef c7
    clear c7
    have H' := am H
    clear H
    have p6 : 0 ≤ (x3_1 : Int) := od
    have q6 : x3_1 < (a0.size : Int) := od
    have hx6 := bt_at a0 x3_1
    replace p6 := eq_true p6
    replace q6 := eq_true q6
    go_wp2
    go_roundg k1
    case measure => have := HK1.out; omega
    case rel => exact ⟨(wrap64 (x3_1 + 1)), rs, H', ⟨by have := HK1.out; omega⟩, dr⟩
 case rest =>
  clear HC2
  obtain ⟨kq, x3_1, rfl, HA, HJ1, ⟨mc1, rfl⟩⟩ := hcut
  cases kq with
  | zero => exact absurd HA.out (by simp [spec_Trim.j1])
  | succ kj1 =>
   have H := HA.out
   clear HA
   simp only [spec_Trim.j1] at H
   have H' := am H
   clear H
   go_wp2
   (try simp only [Act.put, List.setIfInBounds_toArray, List.set_cons_zero, List.set_cons_succ])
   go_loopg [4] kj1 (fun kq v4 w' => ∃ (x4_2 : Int), v4 = .int .i64 x4_2 ∧ Aside0 (spec_Trim.l1 kq a0 x3_1 x4_2 = some r) ∧ Aside0 (kq ≤ kj1) ∧ Drawn0 w w')
   case atStart => exact ⟨((a0.size : Int)), rs, H', ⟨Nat.le_refl _⟩, dr⟩
   case round =>
    clear H'
    obtain ⟨x4_2, rfl, HA, HK2, ⟨m2, rfl⟩⟩ := hrel
    cases gk with
    | zero => exact absurd HA.out (by simp [spec_Trim.l1])
    | succ k2 =>
     have H := HA.out
     clear HA
     simp only [spec_Trim.l1] at H
     by_cases c8 : x4_2 > x3_1
     rotate_left
     ·rw [if_neg c8] at H
      have c8b0 := decide_eq_false c8
      clear c8
      revert H
      refine ifn fun c17 H => ?_
      have c17b0 := eq_true c17
      have c17b1 := decide_eq_true c17
      clear c17
      revert H
      refine ifn fun c18 H => ?_
      have c18b0 := eq_true c18
      have c18b1 := decide_eq_true c18
      clear c18
      revert H
      refine ifn fun c19 H => ?_
      have c19b0 := eq_true c19
      have c19b1 := decide_eq_true c19
      clear c19
      obtain rfl := si_ H
      go_wp2
      go_ret
      exact ⟨rs, dr⟩
     rw [if_pos c8] at H
     have c8b0 := decide_eq_true c8
     clear c8
     obtain ⟨ji9, hji9⟩ : ∃ j_ : Int, (wrap64 (x4_2 - 1)) = j_ := ⟨_, rfl⟩
     replace H : (if 0 ≤ (ji9) then (if (ji9) < (a0.size : Int) then (if (bt a0 (ji9)) = 32 then (spec_Trim.l1 k2 a0 x3_1 ji9) else (if 0 ≤ x3_1 then (if x3_1 ≤ x4_2 then (if x4_2 ≤ (a0.size : Int) then (some (a0.extract (x3_1 : Int).toNat (x4_2 : Int).toNat)) else (none)) else (none)) else (none))) else (none)) else (none)) = some r := by first | (rw [hji9] at H; exact H) | (simp only [hji9] at H ⊢; exact H)
     have hji9w : (IntKind.i64.wrap (x4_2 - 1)) = ji9 := (i64_w _).trans hji9
     revert H
     refine ifn fun c10 H => ?_
     have c10b0 := decide_eq_true c10
     clear c10
     revert H
     refine ifn fun c11 H => ?_
     have c11b0 := decide_eq_true c11
     clear c11
     by_cases c13 : (bt a0 (ji9)) = 32
     ·rw [if_pos c13] at H
      have c13b0 := eqt c13
      have c13b1 := nef c13
      clear c13
      have H' := am H
      clear H
      have p12 : 0 ≤ ((ji9) : Int) := od
      have q12 : (ji9) < (a0.size : Int) := od
      have hx12 := bt_at a0 (ji9)
      replace p12 := eq_true p12
      replace q12 := eq_true q12
      go_wp2
      go_roundg k2
      case measure => have := HJ1.out; have := HK2.out; omega
      case rel => exact ⟨(ji9), (by first | rfl | (simp; done) | (simp only [← hji9] <;> (first | rfl | simp)) | (simp [*]; done)), H', ⟨by have := HJ1.out; have := HK2.out; omega⟩, dr⟩
     rw [if_neg c13] at H
     have c13b0 := eqf c13
     have c13b1 := net c13
     revert H
     refine ifn fun c14 H => ?_
     have c14b0 := eq_true c14
     have c14b1 := decide_eq_true c14
     clear c14
     revert H
     refine ifn fun c15 H => ?_
     have c15b0 := eq_true c15
     have c15b1 := decide_eq_true c15
     clear c15
     revert H
     refine ifn fun c16 H => ?_
     have c16b0 := eq_true c16
     have c16b1 := decide_eq_true c16
     clear c16
     obtain rfl := si_ H
     have p12 : 0 ≤ ((ji9) : Int) := od
     have q12 : (ji9) < (a0.size : Int) := od
     have hx12 := bt_at a0 (ji9)
     replace p12 := eq_true p12
     replace q12 := eq_true q12
     go_wp2
     go_ret
     exact ⟨by first | rfl | (simp; done) | (simp only [← hji9] <;> (first | rfl | simp)) | (simp [*]; done), dr⟩
theorem u86HB {p : Prop} (h : p := by repeat (first | (with_reducible first | exact HB.out | apply below_alloc | apply pw_below_drewN | apply below_drew1) | exact HB.out)) : p := h
mutual
def spec_Split.l0 : Nat → ByteArray → List ByteArray → Int → Int → Option (List ByteArray)
 | 0, _, _, _, _ => none
 | k + 1, x0, x3, x4, x5 => if x5 ≤ (x0.size : Int) then (if x5 < (x0.size : Int) then (if 0 ≤ x5 then (spec_Split.j1 k x0 x3 x4 x5 ((bt x0 x5) != 44)) else (none)) else (spec_Split.j1 k x0 x3 x4 x5 false)) else (some x3)
def spec_Split.j1 : Nat → ByteArray → List ByteArray → Int → Int → Bool → Option (List ByteArray)
 | 0, _, _, _, _, _ => none
 | k + 1, x0, x3, x4, x5, x23 => if x23 = true then (spec_Split.l0 k x0 x3 x4 (wrap64 (x5 + 1))) else (if 0 ≤ x4 then (if x4 ≤ x5 then (if x5 ≤ (x0.size : Int) then ((spec_Trim.f k (x0.extract (x4 : Int).toNat (x5 : Int).toNat)).bind fun t18 => (if t18.toList = ([] : List UInt8) then (spec_Split.l0 k x0 x3 (wrap64 (x5 + 1)) (wrap64 (x5 + 1))) else (if x3.length < 8796093022208 then (spec_Split.l0 k x0 (x3 ++ [t18]) (wrap64 (x5 + 1)) (wrap64 (x5 + 1))) else (none)))) else (none)) else (none)) else (none))
end
def spec_Split.f (k : Nat) (a0 : ByteArray) : Option (List ByteArray) := spec_Split.l0 k a0 (([] : List ByteArray)) 0 0
theorem spec_Split.calls (k : Nat) (a0 : ByteArray) (r : List ByteArray) (w : World) (h : spec_Split.f k a0 = some r) :
  Calls Tryz.prog 86 #[.string a0] w fun e w' => ∃ v0_ : Value, e = .returned (v0_) ∧ Kd.R Kd.string 9 w' w.heap.size (fun _ => True) v0_ r ∧ Below w.heap.size w w' := by
 have HB := am (Below.refl w.heap.size w)
 unfold spec_Split.f at h
 have H := h
 clear h
 obtain ⟨y19, hy19⟩ : ∃ y_, y_ = (([] : List ByteArray)) := ⟨_, rfl⟩
 (try with_reducible replace H := bs_ H)
 rw [← hy19] at H
 have Ny19 := am hy19
 clear hy19
 have H' := am H
 clear H
 go_enter Tryz.func86, Tryz.ntmps86
 go_wp2_with (first | ((with_reducible refine gate_dst (N := 7) rfl ?_); refine Kd.R_lit Kd.string _ 9 ?hg (N := 7) ?hd (xs := ([] : List ByteArray)) (inner := []) (ok := fun _ => True) (okp := fun _ => True) ?hr ?hp (fun _ hk => hk) trivial (Below.refl _ _) (Nat.le_refl _) (by simp) ?_; (case hd => rfl); (case hg => rfl); (case hr => first | (go_simp; done) | (go_simp; rfl)); (case hp => exact (Reps.none _ _)); intro v22 w2 ho3 hb hg_ hnew_; clear hg_ hnew_; (first | rw [← Ny19.out] at ho3 | (simp only [Int.reduceToNat] at ho3; rw [← Ny19.out] at ho3)); have HO20 := am (Kd.R_lower ho3 (below_size bl)); replace HB := am (below_step bl hb); clear hb ho3))
 (try simp only [Act.put, List.setIfInBounds_toArray, List.set_cons_zero, List.set_cons_succ])
 go_loopg [3, 4, 5] k (fun kq v3 v4 v5 w' => ∃ (x3_1 : List ByteArray) (x4_1 : Int) (x5_1 : Int), v4 = .int .i64 x4_1 ∧ v5 = .int .i64 x5_1 ∧ Aside0 (spec_Split.l0 kq a0 x3_1 x4_1 x5_1 = some r) ∧ Aside0 (kq ≤ k) ∧ Aside0 (Kd.R Kd.string 9 w' w.heap.size (fun _ => True) v3 x3_1) ∧ Aside0 (Below w.heap.size w w'))
 case atStart => exact ⟨(y19), (0), (0), rs, rs, H', ⟨Nat.le_refl _⟩, ⟨ro HO20⟩, ⟨u86HB⟩⟩
 case round =>
  clear H'
  obtain ⟨x3_1, x4_1, x5_1, rfl, rfl, HA, HK1, HO_3, HB⟩ := hrel
  cases gk with
  | zero => exact absurd HA.out (by simp [spec_Split.l0])
  | succ k1 =>
   have H := HA.out
   clear HA
   simp only [spec_Split.l0] at H
   by_cases c4 : x5_1 ≤ (a0.size : Int)
   rotate_left
   ·rw [if_neg c4] at H
    have c4b0 := decide_eq_false c4
    clear c4
    obtain rfl := si_ H
    go_wp2
    go_ret
    exact ⟨_, rf, by (with_reducible repeat (first | apply Kd.R_alloc | apply Kd.R_drewN | apply Kd.R_drew)); exact HO_3.out, bl⟩
   rw [if_pos c4] at H
   have c4b0 := decide_eq_true c4
   clear c4
   have HC5 := am H
   clear H
   go_upto_region 6 with (fail)
   go_cut [23] (fun v23 wc => ∃ (kq : Nat) (x23_4 : Bool), v23 = .bool x23_4 ∧ Aside0 (spec_Split.j1 kq a0 x3_1 x4_1 x5_1 x23_4 = some r) ∧ Aside0 (kq ≤ k1) ∧ Aside0 (Kd.R Kd.string 9 wc w.heap.size (fun _ => True) u3 x3_1) ∧ Aside0 (Below w.heap.size w wc))
   case first =>
    have H := HC5.out
    clear HC5
    by_cases c6 : x5_1 < (a0.size : Int)
    rotate_left
    ·rw [if_neg c6] at H
     have c6b0 := decide_eq_false c6
     clear c6
     (first | rw [c6b0] | (simp only [i64_w, i32_w]; rw [c6b0]) | skip)
     have H' := am H
     clear H
     go_wp2
     go_meet
     case rel => exact ⟨_, (false), rs, H', ⟨by have := HK1.out; first | omega | exact Nat.le_refl _⟩, ⟨ro HO_3⟩, ⟨u86HB⟩⟩
    rw [if_pos c6] at H
    have c6b0 := decide_eq_true c6
    clear c6
    (first | rw [c6b0] | (simp only [i64_w, i32_w]; rw [c6b0]) | skip)
    revert H
    refine ifn fun c7 H => ?_
    have c7b0 := decide_eq_true c7
    clear c7
    have H' := am H
    clear H
    have p8 : 0 ≤ (x5_1 : Int) := od
    have q8 : x5_1 < (a0.size : Int) := od
    have hx8 := bt_at a0 x5_1
    replace p8 := eq_true p8
    replace q8 := eq_true q8
    go_wp2
    go_meet
    case rel => exact ⟨_, (((bt a0 x5_1) != 44)), rs, H', ⟨by have := HK1.out; first | omega | exact Nat.le_refl _⟩, ⟨ro HO_3⟩, ⟨u86HB⟩⟩
   case rest =>
    clear HC5
    obtain ⟨kq, x23_4, rfl, HA, HJ4, HO_3, HB⟩ := hcut
    cases kq with
    | zero => exact absurd HA.out (by simp [spec_Split.j1])
    | succ kj4 =>
     have H := HA.out
     clear HA
     simp only [spec_Split.j1] at H
     by_cases c9 : x23_4 = true
     ·subst c9
      rw [if_pos rfl] at H
      have H' := am H
      clear H
      go_wp2
      go_roundg kj4
      case measure => have := HK1.out; have := HJ4.out; omega
      case rel => exact ⟨(x3_1), (x4_1), (wrap64 (x5_1 + 1)), rs, rs, H', ⟨by have := HK1.out; have := HJ4.out; omega⟩, ⟨ro HO_3⟩, ⟨u86HB⟩⟩
     replace c9 := nb_ c9
     subst c9
     rw [if_neg ff_] at H
     revert H
     refine ifn fun c10 H => ?_
     have c10b0 := eq_true c10
     have c10b1 := decide_eq_true c10
     clear c10
     revert H
     refine ifn fun c11 H => ?_
     have c11b0 := eq_true c11
     have c11b1 := decide_eq_true c11
     clear c11
     revert H
     refine ifn fun c12 H => ?_
     have c12b0 := eq_true c12
     have c12b1 := decide_eq_true c12
     clear c12
     revert H
     refine ok1 fun t18 A13 H => ?_
     by_cases c14 : t18.toList = ([] : List UInt8)
     ·rw [if_pos c14] at H
      have c14b0 := eqt c14
      have c14b1 := nef c14
      clear c14
      have H' := am H
      clear H
      go_wp2_with ((with_reducible refine gw ?_); first | (refine gl 28 Tryz.func147 #[.string (a0.extract (x4_1 : Int).toNat (x5_1 : Int).toNat)] ?_; (with_reducible refine (spec_Trim.calls kj4 (a0.extract (x4_1 : Int).toNat (x5_1 : Int).toNat) t18 _ A13.out).mono ?_); rintro e w' ⟨rfl, ⟨nd, rfl⟩⟩; refine ⟨_, rfl, ?_⟩))
      go_roundg kj4
      case measure => have := HK1.out; have := HJ4.out; omega
      case rel => exact ⟨(x3_1), (wrap64 (x5_1 + 1)), (wrap64 (x5_1 + 1)), rs, rs, H', ⟨by have := HK1.out; have := HJ4.out; omega⟩, ⟨ro HO_3⟩, ⟨u86HB⟩⟩
     rw [if_neg c14] at H
     have c14b0 := eqf c14
     have c14b1 := net c14
     revert H
     refine ifn fun c15 H => ?_
     have LMc15 := am c15
     clear c15
     obtain ⟨y17, hy17⟩ : ∃ y_ : List ByteArray, y_ = (x3_1 ++ [t18]) := ⟨_, rfl⟩
     replace H : (spec_Split.l0 kj4 a0 y17 (wrap64 (x5_1 + 1)) (wrap64 (x5_1 + 1))) = some r := by first | (rw [hy17]; with_reducible exact H) | (have H2_ := (Option.bind_some _ _).symm.trans H; rw [hy17]; with_reducible exact H2_) | (have H2_ := (Option.bind_some _ _).symm.trans H; with_reducible exact H2_) | with_reducible exact H | (rw [hy17]; exact H) | exact H
     have Ny17 := am hy17
     clear hy17
     have H' := am H
     clear H
     go_wp2_with (first | ((with_reducible refine gw ?_); first | (refine gl 28 Tryz.func147 #[.string (a0.extract (x4_1 : Int).toNat (x5_1 : Int).toNat)] ?_; (with_reducible refine (spec_Trim.calls kj4 (a0.extract (x4_1 : Int).toNat (x5_1 : Int).toNat) t18 _ A13.out).mono ?_); rintro e w' ⟨rfl, ⟨nd, rfl⟩⟩; refine ⟨_, rfl, ?_⟩)) | ((with_reducible refine gate_builtin (b := .append) (xs := #[.tmp 31, .tmp 33]) rfl ?_); at_builtin; refine Kd.R_append Kd.string (w0 := w) w.heap.size rfl (.tmp 31) (.tmp 33) 26 9 (.string ⟨#[]⟩) 16 rfl Tryz.underlying26 info9 rfl (by decide) (by omega) u3 x3_1 t18 [.string t18] (fun _ => True) (fun _ => False) rfl rfl ?aP (fun _ hk => hk.elim) ?aF ?aO ?aB ?aS ?aL ?_; (case aP => exact rfl); (case aB => exact bl); (case aF => exact (fun _ _ => trivial)); (case aO => exact (ro HO_3)); (case aS => exact (below_size bl)); (case aL => have := LMc15.out; omega); intro v24 w16 ho hb hg hat; rw [← Ny17.out] at ho; have n0_ := am (hb); have n1_ := am (ho); clear HB; clear HO_3; have HB := n0_; have HO21 := n1_; clear n0_ n1_; clear ho hb hg hat))
     go_roundg kj4
     case measure => have := HK1.out; have := HJ4.out; omega
     case rel => exact ⟨(y17), (wrap64 (x5_1 + 1)), (wrap64 (x5_1 + 1)), rs, rs, H', ⟨by have := HK1.out; have := HJ4.out; omega⟩, ⟨ro HO21⟩, ⟨u86HB⟩⟩
theorem u87HB {p : Prop} (h : p := by repeat (first | (with_reducible first | exact HB.out | apply below_alloc | apply pw_below_drewN | apply below_drew1) | exact HB.out)) : p := h
def spec_Lower.l0 : Nat → ByteArray → List Int → Int → Option (ByteArray)
 | 0, _, _, _ => none
 | k + 1, x0, x3, x4 => if x4 < (x0.size : Int) then (if 0 ≤ x4 then (if (bt x0 x4) ≥ 65 then (if (bt x0 x4) ≤ 90 then (if x3.length < 140737488355328 then (spec_Lower.l0 k x0 (x3 ++ [((bt x0 x4) + 32) % 256]) (wrap64 (x4 + 1))) else (none)) else (if x3.length < 140737488355328 then (spec_Lower.l0 k x0 (x3 ++ [bt x0 x4]) (wrap64 (x4 + 1))) else (none))) else (if x3.length < 140737488355328 then (spec_Lower.l0 k x0 (x3 ++ [bt x0 x4]) (wrap64 (x4 + 1))) else (none))) else (none)) else (some (strOfNums x3))
def spec_Lower.f (k : Nat) (a0 : ByteArray) : Option (ByteArray) := spec_Lower.l0 k a0 (([] : List Int)) 0
theorem spec_Lower.calls (k : Nat) (a0 : ByteArray) (r : ByteArray) (w : World) (h : spec_Lower.f k a0 = some r) :
  Calls Tryz.prog 87 #[.string a0] w fun e w' => e = .returned (.string r) ∧ Below w.heap.size w w' := by
 have HB := am (Below.refl w.heap.size w)
 unfold spec_Lower.f at h
 have H := h
 clear h
 obtain ⟨y19, hy19⟩ : ∃ y_, y_ = (([] : List Int)) := ⟨_, rfl⟩
 (try with_reducible replace H := bs_ H)
 rw [← hy19] at H
 have Ny19 := am hy19
 clear hy19
 have H' := am H
 clear H
 go_enter Tryz.func87, Tryz.ntmps87
 go_wp2_with (first | ((with_reducible refine gate_dst (N := 6) rfl ?_); refine Kd.R_lit (Kd.int .u8) _ 5 ?hg (N := 6) ?hd (xs := ([] : List Int)) (inner := []) (ok := fun _ => True) (okp := fun _ => True) ?hr ?hp (fun _ hk => hk) trivial (Below.refl _ _) (Nat.le_refl _) (by simp) ?_; (case hd => rfl); (case hg => rfl); (case hr => first | (go_simp; done) | (go_simp; rfl)); (case hp => exact (Reps.none _ _)); intro v25 w2 ho3 hb hg_ hnew_; clear hg_ hnew_; (first | rw [← Ny19.out] at ho3 | (simp only [Int.reduceToNat] at ho3; rw [← Ny19.out] at ho3)); have HO20 := am (Kd.R_lower ho3 (below_size bl)); replace HB := am (below_step bl hb); clear hb ho3))
 (try simp only [Act.put, List.setIfInBounds_toArray, List.set_cons_zero, List.set_cons_succ])
 go_loopg [3, 4] k (fun kq v3 v4 w' => ∃ (x3_1 : List Int) (x4_1 : Int), v4 = .int .i64 x4_1 ∧ Aside0 (spec_Lower.l0 kq a0 x3_1 x4_1 = some r) ∧ Aside0 (kq ≤ k) ∧ Aside0 (Kd.R (Kd.int .u8) 5 w' w.heap.size (fun _ => True) v3 x3_1) ∧ Aside0 (Below w.heap.size w w'))
 case atStart => exact ⟨(y19), (0), rs, H', ⟨Nat.le_refl _⟩, ⟨ro HO20⟩, ⟨u87HB⟩⟩
 case round =>
  clear H'
  obtain ⟨x3_1, x4_1, rfl, HA, HK1, HO_3, HB⟩ := hrel
  cases gk with
  | zero => exact absurd HA.out (by simp [spec_Lower.l0])
  | succ k1 =>
   have H := HA.out
   clear HA
   simp only [spec_Lower.l0] at H
   by_cases c4 : x4_1 < (a0.size : Int)
   rotate_left
   ·rw [if_neg c4] at H
    have c4b0 := decide_eq_false c4
    clear c4
    obtain rfl := si_ H
    have hcv15 := own_string (P := Tryz.prog) Tryz.underlying22 Tryz.underlying5 Tryz.underlying9 (Kd.own_of_R HO_3.out)
    go_wp2
    go_ret
    exact ⟨rf, bl⟩
   rw [if_pos c4] at H
   have c4b0 := decide_eq_true c4
   clear c4
   revert H
   refine ifn fun c5 H => ?_
   have c5b0 := decide_eq_true c5
   clear c5
   by_cases c7 : (bt a0 x4_1) ≥ 65
   rotate_left
   ·rw [if_neg c7] at H
    have c7b0 := decide_eq_false c7
    clear c7
    revert H
    refine ifn fun c13 H => ?_
    have LMc13 := am c13
    clear c13
    obtain ⟨y16, hy16⟩ : ∃ y_ : List Int, y_ = (x3_1 ++ [bt a0 x4_1]) := ⟨_, rfl⟩
    replace H : (spec_Lower.l0 k1 a0 y16 (wrap64 (x4_1 + 1))) = some r := by first | (rw [hy16]; with_reducible exact H) | (have H2_ := (Option.bind_some _ _).symm.trans H; rw [hy16]; with_reducible exact H2_) | (have H2_ := (Option.bind_some _ _).symm.trans H; with_reducible exact H2_) | with_reducible exact H | (rw [hy16]; exact H) | exact H
    have Ny16 := am hy16
    clear hy16
    have H' := am H
    clear H
    have p6 : 0 ≤ (x4_1 : Int) := od
    have q6 : x4_1 < (a0.size : Int) := od
    have hx6 := bt_at a0 x4_1
    replace p6 := eq_true p6
    replace q6 := eq_true q6
    go_wp2_with (first | ((with_reducible refine gate_builtin (b := .append) (xs := #[.tmp 24, .tmp 26]) rfl ?_); at_builtin; refine Kd.R_append (Kd.int .u8) (w0 := w) w.heap.size rfl (.tmp 24) (.tmp 26) 22 5 (.int .u8 0) 1 rfl Tryz.underlying22 info5 rfl (by decide) (by omega) u3 x3_1 (bt a0 x4_1) [.int .u8 (bt a0 x4_1)] (fun _ => True) (fun _ => False) rfl rfl ?aP (fun _ hk => hk.elim) ?aF ?aO ?aB ?aS ?aL ?_; (case aP => exact rfl); (case aB => exact bl); (case aF => exact (fun _ _ => trivial)); (case aO => exact (ro HO_3)); (case aS => exact (below_size bl)); (case aL => have := LMc13.out; omega); intro v26 w14 ho hb hg hat; rw [← Ny16.out] at ho; have n0_ := am (hb); have n1_ := am (ho); clear HB; clear HO_3; have HB := n0_; have HO21 := n1_; clear n0_ n1_; clear ho hb hg hat))
    go_roundg k1
    case measure => have := HK1.out; omega
    case rel => exact ⟨(y16), (wrap64 (x4_1 + 1)), rs, H', ⟨by have := HK1.out; omega⟩, ⟨ro HO21⟩, ⟨u87HB⟩⟩
   rw [if_pos c7] at H
   have c7b0 := decide_eq_true c7
   clear c7
   by_cases c8 : (bt a0 x4_1) ≤ 90
   rotate_left
   ·rw [if_neg c8] at H
    have c8b0 := decide_eq_false c8
    clear c8
    revert H
    refine ifn fun c11 H => ?_
    have LMc11 := am c11
    clear c11
    obtain ⟨y17, hy17⟩ : ∃ y_ : List Int, y_ = (x3_1 ++ [bt a0 x4_1]) := ⟨_, rfl⟩
    replace H : (spec_Lower.l0 k1 a0 y17 (wrap64 (x4_1 + 1))) = some r := by first | (rw [hy17]; with_reducible exact H) | (have H2_ := (Option.bind_some _ _).symm.trans H; rw [hy17]; with_reducible exact H2_) | (have H2_ := (Option.bind_some _ _).symm.trans H; with_reducible exact H2_) | with_reducible exact H | (rw [hy17]; exact H) | exact H
    have Ny17 := am hy17
    clear hy17
    have H' := am H
    clear H
    have p6 : 0 ≤ (x4_1 : Int) := od
    have q6 : x4_1 < (a0.size : Int) := od
    have hx6 := bt_at a0 x4_1
    replace p6 := eq_true p6
    replace q6 := eq_true q6
    go_wp2_with (first | ((with_reducible refine gate_builtin (b := .append) (xs := #[.tmp 24, .tmp 26]) rfl ?_); at_builtin; refine Kd.R_append (Kd.int .u8) (w0 := w) w.heap.size rfl (.tmp 24) (.tmp 26) 22 5 (.int .u8 0) 1 rfl Tryz.underlying22 info5 rfl (by decide) (by omega) u3 x3_1 (bt a0 x4_1) [.int .u8 (bt a0 x4_1)] (fun _ => True) (fun _ => False) rfl rfl ?aP (fun _ hk => hk.elim) ?aF ?aO ?aB ?aS ?aL ?_; (case aP => exact rfl); (case aB => exact bl); (case aF => exact (fun _ _ => trivial)); (case aO => exact (ro HO_3)); (case aS => exact (below_size bl)); (case aL => have := LMc11.out; omega); intro v27 w12 ho hb hg hat; rw [← Ny17.out] at ho; have n0_ := am (hb); have n1_ := am (ho); clear HB; clear HO_3; have HB := n0_; have HO23 := n1_; clear n0_ n1_; clear ho hb hg hat))
    go_roundg k1
    case measure => have := HK1.out; omega
    case rel => exact ⟨(y17), (wrap64 (x4_1 + 1)), rs, H', ⟨by have := HK1.out; omega⟩, ⟨ro HO23⟩, ⟨u87HB⟩⟩
   rw [if_pos c8] at H
   have c8b0 := decide_eq_true c8
   clear c8
   revert H
   refine ifn fun c9 H => ?_
   have LMc9 := am c9
   clear c9
   obtain ⟨y18, hy18⟩ : ∃ y_ : List Int, y_ = (x3_1 ++ [((bt a0 x4_1) + 32) % 256]) := ⟨_, rfl⟩
   replace H : (spec_Lower.l0 k1 a0 y18 (wrap64 (x4_1 + 1))) = some r := by first | (rw [hy18]; with_reducible exact H) | (have H2_ := (Option.bind_some _ _).symm.trans H; rw [hy18]; with_reducible exact H2_) | (have H2_ := (Option.bind_some _ _).symm.trans H; with_reducible exact H2_) | with_reducible exact H | (rw [hy18]; exact H) | exact H
   have Ny18 := am hy18
   clear hy18
   have H' := am H
   clear H
   have p6 : 0 ≤ (x4_1 : Int) := od
   have q6 : x4_1 < (a0.size : Int) := od
   have hx6 := bt_at a0 x4_1
   replace p6 := eq_true p6
   replace q6 := eq_true q6
   go_wp2_with (first | ((with_reducible refine gate_builtin (b := .append) (xs := #[.tmp 24, .tmp 26]) rfl ?_); at_builtin; refine Kd.R_append (Kd.int .u8) (w0 := w) w.heap.size rfl (.tmp 24) (.tmp 26) 22 5 (.int .u8 0) 1 rfl Tryz.underlying22 info5 rfl (by decide) (by omega) u3 x3_1 (((bt a0 x4_1) + 32) % 256) [.int .u8 (((bt a0 x4_1) + 32) % 256)] (fun _ => True) (fun _ => False) rfl rfl ?aP (fun _ hk => hk.elim) ?aF ?aO ?aB ?aS ?aL ?_; (case aP => exact rfl); (case aB => exact bl); (case aF => exact (fun _ _ => trivial)); (case aO => exact (ro HO_3)); (case aS => exact (below_size bl)); (case aL => have := LMc9.out; omega); intro v28 w10 ho hb hg hat; rw [← Ny18.out] at ho; have n0_ := am (hb); have n1_ := am (ho); clear HB; clear HO_3; have HB := n0_; have HO24 := n1_; clear n0_ n1_; clear ho hb hg hat))
   go_roundg k1
   case measure => have := HK1.out; omega
   case rel => exact ⟨(y18), (wrap64 (x4_1 + 1)), rs, H', ⟨by have := HK1.out; omega⟩, ⟨ro HO24⟩, ⟨u87HB⟩⟩
theorem u106HB {p : Prop} (h : p := by repeat (first | (with_reducible first | exact HB.out | apply below_alloc | apply pw_below_drewN | apply below_drew1) | exact HB.out)) : p := h
mutual
def spec_NumRead.j0 : Nat → ByteArray → Bool → Option (Int × Bool)
 | 0, _, _ => none
 | k + 1, x0, x12 => if x12 = true then (some (0, false)) else (spec_NumRead.l0 k x0 0 0)
def spec_NumRead.l0 : Nat → ByteArray → Int → Int → Option (Int × Bool)
 | 0, _, _, _ => none
 | k + 1, x0, x4, x5 => if x5 < (x0.size : Int) then (if 0 ≤ x5 then (if (bt x0 x5) < 48 then (some (0, false)) else (if (bt x0 x5) > 57 then (some (0, false)) else (spec_NumRead.l0 k x0 (wrap64 ((wrap64 ((wrap64 (10 * x4)) + (wrap64 (bt x0 x5)))) - 48)) (wrap64 (x5 + 1))))) else (none)) else ((spec_NumText.f k x4).bind fun t16 => (if t16.toList = x0.toList then (some (x4, true)) else (some (0, false))))
end
def spec_NumRead.f (k : Nat) (a0 : ByteArray) : Option (Int × Bool) := if a0.toList = ([] : List UInt8) then (spec_NumRead.j0 k a0 true) else (spec_NumRead.j0 k a0 (decide ((a0.size : Int) > 7)))
theorem spec_NumRead.calls (k : Nat) (a0 : ByteArray) (r1 : Int) (r2 : Bool) (w : World) (h : spec_NumRead.f k a0 = some (r1, r2)) :
  Calls Tryz.prog 106 #[.string a0] w fun e w' => e = .returned (.tuple #[.int .i64 r1, .bool r2]) ∧ Below w.heap.size w w' := by
 have HB := am (Below.refl w.heap.size w)
 unfold spec_NumRead.f at h
 have H := h
 clear h
 have HC2 := am H
 clear H
 go_enter Tryz.func106, Tryz.ntmps106
 go_upto_region 1 with (fail)
 go_cut [12] (fun v12 wc => ∃ (kq : Nat) (x12_1 : Bool), v12 = .bool x12_1 ∧ Aside0 (spec_NumRead.j0 kq a0 x12_1 = some (r1, r2)) ∧ Aside0 (kq ≤ k) ∧ Aside0 (Below w.heap.size w wc))
 case first =>
  have H := HC2.out
  clear HC2
  by_cases c3 : a0.toList = ([] : List UInt8)
  ·rw [if_pos c3] at H
   have c3b0 := eqt c3
   have c3b1 := nef c3
   clear c3
   (first | rw [c3b0] | (simp only [i64_w, i32_w]; rw [c3b0]) | skip)
   have H' := am H
   clear H
   go_wp2
   go_meet
   case rel => exact ⟨_, (true), rs, H', ⟨by first | omega | exact Nat.le_refl _⟩, ⟨u106HB⟩⟩
  rw [if_neg c3] at H
  have c3b0 := eqf c3
  have c3b1 := net c3
  (first | rw [c3b0] | (simp only [i64_w, i32_w]; rw [c3b0]) | skip)
  have H' := am H
  clear H
  go_wp2
  go_meet
  case rel => exact ⟨_, (decide ((a0.size : Int) > 7)), rs, H', ⟨by first | omega | exact Nat.le_refl _⟩, ⟨u106HB⟩⟩
 case rest =>
  clear HC2
  obtain ⟨kq, x12_1, rfl, HA, HJ1, HB⟩ := hcut
  cases kq with
  | zero => exact absurd HA.out (by simp [spec_NumRead.j0])
  | succ kj1 =>
   have H := HA.out
   clear HA
   simp only [spec_NumRead.j0] at H
   by_cases c4 : x12_1 = true
   ·subst c4
    rw [if_pos rfl] at H
    simp only [Option.some.injEq, Prod.mk.injEq] at H
    obtain ⟨rfl, rfl⟩ := H
    go_wp2
    go_ret2
    exact ⟨rf, bl⟩
   replace c4 := nb_ c4
   subst c4
   rw [if_neg ff_] at H
   have H' := am H
   clear H
   go_wp2
   (try simp only [Act.put, List.setIfInBounds_toArray, List.set_cons_zero, List.set_cons_succ])
   go_loopg [4, 5] kj1 (fun kq v4 v5 w' => ∃ (x4_2 : Int) (x5_2 : Int), v4 = .int .i64 x4_2 ∧ v5 = .int .i64 x5_2 ∧ Aside0 (spec_NumRead.l0 kq a0 x4_2 x5_2 = some (r1, r2)) ∧ Aside0 (kq ≤ kj1) ∧ Aside0 (Below w.heap.size w w'))
   case atStart => exact ⟨(0), (0), rs, rs, H', ⟨Nat.le_refl _⟩, ⟨u106HB⟩⟩
   case round =>
    clear H'
    obtain ⟨x4_2, x5_2, rfl, rfl, HA, HK2, HB⟩ := hrel
    cases gk with
    | zero => exact absurd HA.out (by simp [spec_NumRead.l0])
    | succ k2 =>
     have H := HA.out
     clear HA
     simp only [spec_NumRead.l0] at H
     by_cases c5 : x5_2 < (a0.size : Int)
     rotate_left
     ·rw [if_neg c5] at H
      have c5b0 := decide_eq_false c5
      clear c5
      revert H
      refine ok1 fun t16 A12 H => ?_
      by_cases c13 : t16.toList = a0.toList
      rotate_left
      ·rw [if_neg c13] at H
       have c13b0 := eqf c13
       have c13b1 := net c13
       simp only [Option.some.injEq, Prod.mk.injEq] at H
       obtain ⟨rfl, rfl⟩ := H
       go_wp2_with ((with_reducible refine gw ?_); first | (refine gl 38 Tryz.func80 #[.int .i64 x4_2] ?_; (with_reducible refine (spec_NumText.calls k2 x4_2 t16 _ A12.out).mono ?_); rintro e w15 ⟨rfl, hb⟩; refine ⟨_, rfl, ?_⟩; replace HB := am (below_step bl hb); clear hb))
       go_ret2
       exact ⟨rf, bl⟩
      rw [if_pos c13] at H
      have c13b0 := eqt c13
      have c13b1 := nef c13
      clear c13
      simp only [Option.some.injEq, Prod.mk.injEq] at H
      obtain ⟨rfl, rfl⟩ := H
      go_wp2_with ((with_reducible refine gw ?_); first | (refine gl 38 Tryz.func80 #[.int .i64 x4_2] ?_; (with_reducible refine (spec_NumText.calls k2 x4_2 t16 _ A12.out).mono ?_); rintro e w14 ⟨rfl, hb⟩; refine ⟨_, rfl, ?_⟩; replace HB := am (below_step bl hb); clear hb))
      go_ret2
      exact ⟨rf, bl⟩
     rw [if_pos c5] at H
     have c5b0 := decide_eq_true c5
     clear c5
     revert H
     refine ifn fun c6 H => ?_
     have c6b0 := decide_eq_true c6
     clear c6
     by_cases c8 : (bt a0 x5_2) < 48
     ·rw [if_pos c8] at H
      have c8b0 := decide_eq_true c8
      clear c8
      simp only [Option.some.injEq, Prod.mk.injEq] at H
      obtain ⟨rfl, rfl⟩ := H
      have p7 : 0 ≤ (x5_2 : Int) := od
      have q7 : x5_2 < (a0.size : Int) := od
      have hx7 := bt_at a0 x5_2
      replace p7 := eq_true p7
      replace q7 := eq_true q7
      go_wp2
      go_ret2
      exact ⟨rf, bl⟩
     rw [if_neg c8] at H
     have c8b0 := decide_eq_false c8
     clear c8
     by_cases c10 : (bt a0 x5_2) > 57
     ·rw [if_pos c10] at H
      have c10b0 := decide_eq_true c10
      clear c10
      simp only [Option.some.injEq, Prod.mk.injEq] at H
      obtain ⟨rfl, rfl⟩ := H
      have p7 : 0 ≤ (x5_2 : Int) := od
      have q7 : x5_2 < (a0.size : Int) := od
      have hx7 := bt_at a0 x5_2
      replace p7 := eq_true p7
      replace q7 := eq_true q7
      have p9 : 0 ≤ (x5_2 : Int) := od
      have q9 : x5_2 < (a0.size : Int) := od
      have hx9 := bt_at a0 x5_2
      replace p9 := eq_true p9
      replace q9 := eq_true q9
      go_wp2
      go_ret2
      exact ⟨rf, bl⟩
     rw [if_neg c10] at H
     have c10b0 := decide_eq_false c10
     clear c10
     have H' := am H
     clear H
     have p7 : 0 ≤ (x5_2 : Int) := od
     have q7 : x5_2 < (a0.size : Int) := od
     have hx7 := bt_at a0 x5_2
     replace p7 := eq_true p7
     replace q7 := eq_true q7
     have p9 : 0 ≤ (x5_2 : Int) := od
     have q9 : x5_2 < (a0.size : Int) := od
     have hx9 := bt_at a0 x5_2
     replace p9 := eq_true p9
     replace q9 := eq_true q9
     have p11 : 0 ≤ (x5_2 : Int) := od
     have q11 : x5_2 < (a0.size : Int) := od
     have hx11 := bt_at a0 x5_2
     replace p11 := eq_true p11
     replace q11 := eq_true q11
     go_wp2
     go_roundg k2
     case measure => have := HJ1.out; have := HK2.out; omega
     case rel => exact ⟨(wrap64 ((wrap64 ((wrap64 (10 * x4_2)) + (wrap64 (bt a0 x5_2)))) - 48)), (wrap64 (x5_2 + 1)), rs, rs, H', ⟨by have := HJ1.out; have := HK2.out; omega⟩, ⟨u106HB⟩⟩
def spec_Get.f (k : Nat) (l0 : List (S116)) (a1 : ByteArray) : Option (ByteArray × Bool) := (spec_l2At.f k l0 a1).bind fun t8 => (if t8 < 0 then (some ((⟨#[]⟩ : ByteArray), false)) else (if 0 ≤ t8 then (if t8 < (l0.length : Int) then (some ((rd_T116 l0 t8).f1, true)) else (none)) else (none)))
theorem spec_Get.calls (k : Nat) (A0 : Option Addr) (c0 : Nat) (l0 : List (S116)) (a1 : ByteArray) (r1 : ByteArray) (r2 : Bool) (w : World) (hr0 : Kd.C k116 w A0 l0.length l0) (hc0 : l0.length ≤ c0) (h : spec_Get.f k l0 a1 = some (r1, r2)) :
  Calls Tryz.prog 66 #[.slice A0 l0.length c0, .string a1] w fun e w' => e = .returned (.tuple #[.string r1, .bool r2]) ∧ Drawn0 w w' := by
 have HR0 := am hr0
 have HC0 := am hc0
 clear hr0 hc0
 unfold spec_Get.f at h
 have H := h
 clear h
 revert H
 refine ok1 fun t8 A3 H => ?_
 by_cases c4 : t8 < 0
 ·rw [if_pos c4] at H
  have c4b0 := decide_eq_true c4
  clear c4
  simp only [Option.some.injEq, Prod.mk.injEq] at H
  obtain ⟨rfl, rfl⟩ := H
  go_enter Tryz.func66, Tryz.ntmps66
  go_wp2_with ((with_reducible refine gw ?_); first | (refine gl 9 Tryz.func137 #[.slice A0 l0.length c0, .string a1] ?_; refine (spec_l2At.calls k _ _ l0 a1 t8 _ (cc HR0) HC0.out A3.out).mono ?_; rintro e w' ⟨rfl, ⟨nd, rfl⟩⟩; refine ⟨_, rfl, ?_⟩))
  go_ret2
  exact ⟨rs, dr⟩
 rw [if_neg c4] at H
 have c4b0 := decide_eq_false c4
 clear c4
 revert H
 refine ifn fun c5 H => ?_
 have c5b0 := decide_eq_true c5
 clear c5
 revert H
 refine ifn fun c6 H => ?_
 have c6b0 := decide_eq_true c6
 clear c6
 simp only [Option.some.injEq, Prod.mk.injEq] at H
 obtain ⟨rfl, rfl⟩ := H
 go_enter Tryz.func66, Tryz.ntmps66
 go_wp2_with ((with_reducible refine gw ?_); first | (refine gl 9 Tryz.func137 #[.slice A0 l0.length c0, .string a1] ?_; refine (spec_l2At.calls k _ _ l0 a1 t8 _ (cc HR0) HC0.out A3.out).mono ?_; rintro e w' ⟨rfl, ⟨nd, rfl⟩⟩; refine ⟨_, rfl, ?_⟩; have p7 : 0 ≤ (t8 : Int) := od; have q7 : t8 < (l0.length : Int) := od; obtain ⟨ad7, e7, hx7_0, hx7_1⟩ := at_T116 HR0.out t8 p7 q7; cases e7; replace p7 := eq_true p7; replace q7 := eq_true q7))
 go_ret2
 exact ⟨rs, dr⟩
def impl_inRange.f (a0 : Int) (a1 : Int) (a2 : Int) : Option (Bool) := if a0 ≥ a1 then (some (decide (a0 ≤ a2))) else (some false)
theorem impl_inRange.calls (a0 : Int) (a1 : Int) (a2 : Int) (r : Bool) (w : World) (h : impl_inRange.f a0 a1 a2 = some r) :
  Calls Tryz.prog 76 #[.int .i64 a0, .int .i64 a1, .int .i64 a2] w fun e w' => e = .returned (.bool r) ∧ Drawn0 w w' := by
 unfold impl_inRange.f at h
 have H := h
 clear h
 by_cases c4 : a0 ≥ a1
 ·rw [if_pos c4] at H
  have c4b0 := decide_eq_true c4
  clear c4
  obtain rfl := si_ H
  go_enter Tryz.func76, Tryz.ntmps76
  go_wp2
  go_ret
  exact ⟨rs, dr⟩
 rw [if_neg c4] at H
 have c4b0 := decide_eq_false c4
 clear c4
 obtain rfl := si_ H
 go_enter Tryz.func76, Tryz.ntmps76
 go_wp2
 go_ret
 exact ⟨rs, dr⟩
def strings_Trim.f (a0 a1 : ByteArray) : Option ByteArray := if a1 = ⟨#[32]⟩ ∧ a0.size ≤ 9223372036854775807 then some ⟨(Lib.trimB a0.data.toList 32).toArray⟩ else none
theorem strings_Trim.calls (a0 a1 : ByteArray) (r : ByteArray) (w : World) (h : strings_Trim.f a0 a1 = some r) :
  Calls Tryz.prog 170 #[.string a0, .string a1] w fun e w' => e = .returned (.string r) ∧ Below w.heap.size w w' := by
 unfold strings_Trim.f at h
 split at h
 case isFalse => cases h
 rename_i hl
 obtain rfl := Option.some.inj h
 rw [hl.1]
 refine (Tryz.strings_Trim_one a0 32 (by decide) w hl.2).mono ?_
 rintro e w' ⟨rfl, rfl | rfl⟩
 ·exact ⟨rfl, Below.refl _ _⟩
 ·exact ⟨rfl, below_drew1 (Below.refl _ _)⟩
def impl_Trim.f (a0 : ByteArray) : Option (ByteArray) := (strings_Trim.f a0 (⟨#[32]⟩ : ByteArray)).bind fun t4 => (some t4)
theorem impl_Trim.calls (a0 : ByteArray) (r : ByteArray) (w : World) (h : impl_Trim.f a0 = some r) :
  Calls Tryz.prog 139 #[.string a0] w fun e w' => e = .returned (.string r) ∧ Below w.heap.size w w' := by
 have HB := am (Below.refl w.heap.size w)
 unfold impl_Trim.f at h
 have H := h
 clear h
 revert H
 refine ok1 fun t4 A2 H => ?_
 obtain rfl := si_ H
 go_enter Tryz.func139, Tryz.ntmps139
 go_wp2_with ((with_reducible refine gw ?_); first | (refine gl 4 Tryz.func170 #[.string a0, .string (⟨#[32]⟩ : ByteArray)] ?_; (with_reducible refine (strings_Trim.calls a0 (⟨#[32]⟩ : ByteArray) t4 _ A2.out).mono ?_); rintro e w3 ⟨rfl, hb⟩; refine ⟨_, rfl, ?_⟩; replace HB := am (below_step bl hb); clear hb))
 go_ret
 exact ⟨rf, bl⟩
theorem clos37 (x : S116) (name : ByteArray) (B : Nat) (w : World) (hcell : w.cell? ⟨B, 0, none⟩ = some (.string name)) :
  Calls Tryz.prog 169 #[.agg #[.string x.f0, .string x.f1], .pointer (some ⟨B, 0, none⟩)] w fun e w' => e = .returned (.bool (x.f0.toList == name.toList)) ∧ Below w.heap.size w w' := by
 have hl := World.block_lt_of_cell? w _ hcell
 go_enter Tryz.func169, Tryz.ntmps169
 go_wp2
 go_ret
 exact ⟨rfl, (Below.refl _ _).alloc (Nat.le_refl _) _⟩
def at_ (name : ByteArray) : List S116 → Nat → Int
 | [], _ => -1
 | x :: r, i => if x.f0.toList == name.toList then i else at_ name r (i + 1)
set_option maxHeartbeats 4000000 in
theorem index36 (A0 : Option Addr) (c0 : Nat) (l0 : List S116) (name : ByteArray) (B : Nat) (w : World) (hn : l0.length ≤ 9223372036854775807) (hr0 : Kd.C k116 w A0 l0.length l0) (hcell : w.cell? ⟨B, 0, none⟩ = some (.string name)) :
  Calls Tryz.prog 168 #[.slice A0 l0.length c0, .func (.func 169) #[] #[.pointer (some ⟨B, 0, none⟩)]] w fun e w' => e = .returned (.int .i64 (at_ name l0 0)) ∧ Below w.heap.size w w' := by
 go_enter Tryz.func168, Tryz.ntmps168
 go_wp2
 go_loopw [8] (fun i wr => ∃ k : Nat, k ≤ l0.length ∧ i = .int .i64 k ∧ Aside0 (at_ name l0 0 = at_ name (l0.drop k) k) ∧ Below w.heap.size w wr) (fun i _ => l0.length - (intOf i).toNat)
 case atStart => exact ⟨0, Nat.zero_le _, rfl, ⟨rfl⟩, Below.refl _ _⟩
 case round =>
  obtain ⟨k, hk, rfl, ha, hb⟩ := hrel
  have hk2 : ((k : Nat) : Int) ≤ 9223372036854775807 := by omega
  by_cases hlt : k < l0.length
  ·obtain ⟨ad, e1, hx0, hx1⟩ := at_T116 hr0 k (by omega) (by omega)
   have hx : rd_T116 l0 k = l0[k] := by simp [rd_T116, List.getD, hlt]
   rw [hx, Int.toNat_natCast] at hx0 hx1
   have hd : at_ name (l0.drop k) k = if (l0[k].f0.toList == name.toList) = true then (k : Int) else at_ name (l0.drop (k + 1)) (k + 1) := by
    rw [List.drop_eq_getElem_cons hlt]; rfl
   cases e1
   replace hx0 := pw_cell_below hb hx0
   replace hx1 := pw_cell_below hb hx1
   have hc := pw_cell_below hb hcell
   have H := am hd
   have HX := am hx
   clear hd hx hcell hr0
   have h0 : (0 : Int) ≤ (k : Int) := by omega
   have h1 : (k : Int) < (l0.length : Int) := by omega
   go_wp2_with (first | (go_at_call 169; refine (clos37 l0[k] name B _ hc).mono ?_; rintro e w2 ⟨rfl, hb2⟩))
   ·have ht : (l0[k].f0.toList == name.toList) = true := by assumption
    go_ret
    exact ⟨ret_int (show (k : Int) = at_ name l0 0 by rw [ha.out, H.out, if_pos ht]), below_then hb hb.size hb2⟩
   ·have ht : (l0[k].f0.toList == name.toList) = false := by assumption
    go_roundw
    case rel => exact ⟨k + 1, by omega, by go_num, ⟨by rw [ha.out, H.out, ht]; rfl⟩, below_then hb hb.size hb2⟩
    case measure => simp [intOf]; omega
  ·go_wp2
   go_ret
   exact ⟨ret_int (show (-1 : Int) = at_ name l0 0 by rw [ha.out, List.drop_eq_nil_of_le (by omega)]; rfl), hb⟩
def impl_fieldAt.f (l0 : List S116) (a1 : ByteArray) : Option Int := if l0.length < 4398046511104 then some (at_ a1 l0 0) else none
theorem impl_fieldAt.calls (A0 : Option Addr) (c0 : Nat) (l0 : List (S116)) (a1 : ByteArray) (r : Int) (w : World) (hr0 : Kd.C k116 w A0 l0.length l0) (hc0 : l0.length ≤ c0) (h : impl_fieldAt.f l0 a1 = some r) :
  Calls Tryz.prog 132 #[.slice A0 l0.length c0, .string a1] w fun e w' => e = .returned (.int .i64 r) ∧ Below w.heap.size w w' := by
 unfold impl_fieldAt.f at h
 split at h
 case isFalse => cases h
 rename_i hl
 obtain rfl := Option.some.inj h
 have HN := am hl
 have HR := am hr0
 clear h hl hr0 hc0
 go_enter Tryz.func132, Tryz.ntmps132
 go_wp2_with (first | (go_at_call 168; refine (index36 A0 c0 l0 a1 w.heap.size _ (by have := HN.out; omega) (Kd.C_below HR.out ((Below.refl _ _).alloc (Nat.le_refl _) _)) (by simp)).mono ?_; rintro e w2 ⟨rfl, hb2⟩))
 go_ret
 exact ⟨rfl, below_then ((Below.refl _ _).alloc (Nat.le_refl _) _) (by simp) hb2⟩
def impl_Get.f (l0 : List (S116)) (a1 : ByteArray) : Option (ByteArray × Bool) := (impl_fieldAt.f l0 a1).bind fun t10 => (if t10 < 0 then (some ((⟨#[]⟩ : ByteArray), false)) else (if 0 ≤ t10 then (if t10 < (l0.length : Int) then (some ((rd_T116 l0 t10).f1, true)) else (none)) else (none)))
theorem impl_Get.calls (A0 : Option Addr) (c0 : Nat) (l0 : List (S116)) (a1 : ByteArray) (r1 : ByteArray) (r2 : Bool) (w : World) (hr0 : Kd.C k116 w A0 l0.length l0) (hc0 : l0.length ≤ c0) (h : impl_Get.f l0 a1 = some (r1, r2)) :
  Calls Tryz.prog 63 #[.slice A0 l0.length c0, .string a1] w fun e w' => e = .returned (.tuple #[.string r1, .bool r2]) ∧ Below w.heap.size w w' := by
 have HR0 := am hr0
 have HC0 := am hc0
 clear hr0 hc0
 have HB := am (Below.refl w.heap.size w)
 unfold impl_Get.f at h
 have H := h
 clear h
 revert H
 refine ok1 fun t10 A3 H => ?_
 by_cases c4 : t10 < 0
 ·rw [if_pos c4] at H
  have c4b0 := decide_eq_true c4
  clear c4
  simp only [Option.some.injEq, Prod.mk.injEq] at H
  obtain ⟨rfl, rfl⟩ := H
  go_enter Tryz.func63, Tryz.ntmps63
  go_wp2_with ((with_reducible refine gw ?_); first | (refine gl 9 Tryz.func132 #[.slice A0 l0.length c0, .string a1] ?_; refine (impl_fieldAt.calls _ _ l0 a1 t10 _ (cc HR0) HC0.out A3.out).mono ?_; rintro e w5 ⟨rfl, hb⟩; refine ⟨_, rfl, ?_⟩; replace HB := am (below_step bl hb); clear hb))
  go_ret2
  exact ⟨rf, bl⟩
 rw [if_neg c4] at H
 have c4b0 := decide_eq_false c4
 clear c4
 revert H
 refine ifn fun c6 H => ?_
 have c6b0 := decide_eq_true c6
 clear c6
 revert H
 refine ifn fun c7 H => ?_
 have c7b0 := decide_eq_true c7
 clear c7
 simp only [Option.some.injEq, Prod.mk.injEq] at H
 obtain ⟨rfl, rfl⟩ := H
 go_enter Tryz.func63, Tryz.ntmps63
 go_wp2_with ((with_reducible refine gw ?_); first | (refine gl 9 Tryz.func132 #[.slice A0 l0.length c0, .string a1] ?_; refine (impl_fieldAt.calls _ _ l0 a1 t10 _ (cc HR0) HC0.out A3.out).mono ?_; rintro e w8 ⟨rfl, hb⟩; refine ⟨_, rfl, ?_⟩; replace HB := am (below_step bl hb); clear hb; have p9 : 0 ≤ (t10 : Int) := od; have q9 : t10 < (l0.length : Int) := od; obtain ⟨ad9, e9, hx9_0, hx9_1⟩ := at_T116 HR0.out t10 p9 q9; cases e9; replace hx9_0 := hcw hx9_0; replace hx9_1 := hcw hx9_1; replace p9 := eq_true p9; replace q9 := eq_true q9))
 go_ret2
 exact ⟨rf, bl⟩
def splitBs (a0 a1 : ByteArray) : List ByteArray := Lib.splitB a1 0 (Lib.countB a0 a1) a0
def strings_Split.f (a0 a1 : ByteArray) : Option (List ByteArray) := if a0.size < 4294967281 ∧ 1 ≤ a1.size then some (splitBs a0 a1) else none
theorem strings_Split.calls (a0 a1 : ByteArray) (r : List ByteArray) (w : World) (hGM : GLOBM w) (h : strings_Split.f a0 a1 = some r) :
  Calls Tryz.prog 109 #[.string a0, .string a1] w fun e w' => ∃ v0_ : Value, e = .returned v0_ ∧ Kd.R Kd.string 9 w' w.heap.size (fun _ => True) v0_ r ∧ Below w.heap.size w w' := by
 unfold strings_Split.f at h
 split at h
 case isFalse => cases h
 rename_i hl
 obtain rfl := Option.some.inj h
 obtain ⟨m, hm⟩ := hGM
 refine (Tryz.strings_Split a0 a1 m w hl.1 hm hl.2).mono ?_
 rintro e w' ⟨rfl, rfl⟩
 have hlen : (splitBs a0 a1).length = Lib.countB a0 a1 + 1 := Lib.splitB_all a1 hl.2 0 _ a0 rfl
 have hcnt : Lib.countB a0 a1 ≤ a0.size := Lib.countB_le a1 hl.2 _ a0 (Nat.le_refl _)
 refine ⟨_, rfl, ?_, below_alloc (Below.refl _ _) _⟩
 refine Kd.R_of_own (enc := Value.string) (h1 := fun _ => rfl) ⟨by simp [encs], .inr ⟨w.heap.size, Lib.countB a0 a1 + 1, ((splitBs a0 a1).map Value.string).toArray, by rw [hlen], Nat.le_refl _, ?_, by omega, by unfold maxLen; omega, ?_, ?_⟩⟩ (fun _ _ => trivial)
 ·exact Array.getElem?_push_size ..
 ·simp [← hlen, splitBs]
 ·rw [Nat.mul_one]; unfold encs; exact List.take_of_length_le (by simp)
theorem u81HB {p : Prop} (h : p := by repeat (first | (with_reducible first | exact HB.out | apply below_alloc | apply pw_below_drewN | apply below_drew1) | exact HB.out)) : p := h
def impl_Split.l0 : Nat → List ByteArray → List ByteArray → Int → Int → Option (List ByteArray)
 | 0, _, _, _, _ => none
 | k + 1, x3, x8, x9, x10 => if x10 < x9 then (if 0 ≤ x10 then (if x10 < (x8.length : Int) then ((impl_Trim.f (rdOf ByteArray.empty x8 x10)).bind fun t17 => (if t17.toList = ([] : List UInt8) then (impl_Split.l0 k x3 x8 x9 (wrap64 (x10 + 1))) else (if x3.length < 8796093022208 then (impl_Split.l0 k (x3 ++ [t17]) x8 x9 (wrap64 (x10 + 1))) else (none)))) else (none)) else (none)) else (some x3)
def impl_Split.f (k : Nat) (a0 : ByteArray) : Option (List ByteArray) := (strings_Split.f a0 (⟨#[44]⟩ : ByteArray)).bind fun t15 => (impl_Split.l0 k ([] : List ByteArray) t15 (t15.length : Int) 0)
theorem impl_Split.calls (k : Nat) (a0 : ByteArray) (r : List ByteArray) (w : World) (hGM : GLOBM w) (h : impl_Split.f k a0 = some r) :
  Calls Tryz.prog 81 #[.string a0] w fun e w' => ∃ v0_ : Value, e = .returned (v0_) ∧ Kd.R Kd.string 9 w' w.heap.size (fun _ => True) v0_ r ∧ Below w.heap.size w w' := by
 have HGM := am hGM
 clear hGM
 have HB := am (Below.refl w.heap.size w)
 unfold impl_Split.f at h
 have H := h
 clear h
 revert H
 refine ok1 fun t15 A2 H => ?_
 have H' := am H
 clear H
 go_enter Tryz.func81, Tryz.ntmps81
 go_wp2_with ((with_reducible refine gw ?_); first | (refine gl 8 Tryz.func109 #[.string a0, .string (⟨#[44]⟩ : ByteArray)] ?_; refine (strings_Split.calls a0 (⟨#[44]⟩ : ByteArray) t15 _ (GLOBM.below HGM.out bl) A2.out).mono ?_; rintro e w3 ⟨v20, rfl, ho0, hb⟩; refine ⟨_, rfl, ?_⟩; have HO18 := am (Kd.R_lower ho0 (below_size bl)); replace HB := am (below_step bl hb); clear hb ho0; obtain ⟨Ao4, co4, eo4⟩ := Kd.R_slice HO18.out; subst eo4))
 (try simp only [Act.put, List.setIfInBounds_toArray, List.set_cons_zero, List.set_cons_succ])
 go_loopg [3, 10] k (fun kq v3 v10 w' => ∃ (x3_1 : List ByteArray) (x10_1 : Int), v10 = .int .i64 x10_1 ∧ Aside0 (impl_Split.l0 kq x3_1 t15 (t15.length : Int) x10_1 = some r) ∧ Aside0 (kq ≤ k) ∧ Aside0 (Kd.R Kd.string 9 w' w.heap.size (fun k_ => some k_ ≠ ((.slice Ao4 t15.length co4) : Value).ownBlock) v3 x3_1) ∧ Aside0 (Kd.R Kd.string 9 w' w.heap.size (fun k_ => some k_ ≠ (v3 : Value).ownBlock) (.slice Ao4 t15.length co4) t15) ∧ Aside0 (Below w.heap.size w w'))
 case atStart => exact ⟨(([] : List ByteArray)), (0), rs, H', ⟨Nat.le_refl _⟩, ⟨by first | exact Kd.R_nil _ _ _ _ _ | exact Kd.N_nil _ _ _ _ _ | exact Kd.V_nil _ _ _ _ _ | exact Kd.Q_nil _ _ _ _ _ | exact Kd.S_nil _ _ _ _ _⟩, ⟨by (with_reducible repeat (first | apply Kd.R_alloc | apply Kd.R_drewN | apply Kd.R_drew)); exact Kd.R_mono HO18.out (fun _ hk => (by simp [Value.ownBlock]))⟩, ⟨u81HB⟩⟩
 case round =>
  clear H'
  obtain ⟨x3_1, x10_1, rfl, HA, HK1, HO_3, HO_8, HB⟩ := hrel
  cases gk with
  | zero => exact absurd HA.out (by simp [impl_Split.l0])
  | succ k1 =>
   have H := HA.out
   clear HA
   simp only [impl_Split.l0] at H
   by_cases c5 : x10_1 < (t15.length : Int)
   rotate_left
   ·rw [if_neg c5] at H
    have c5b0 := decide_eq_false c5
    clear c5
    obtain rfl := si_ H
    go_wp2
    go_ret
    exact ⟨_, rf, by (with_reducible repeat (first | apply Kd.R_alloc | apply Kd.R_drewN | apply Kd.R_drew)); exact Kd.R_mono HO_3.out (fun _ hk => trivial), bl⟩
   rw [if_pos c5] at H
   have c5b0 := decide_eq_true c5
   clear c5
   revert H
   refine ifn fun c6 H => ?_
   have c6b0 := decide_eq_true c6
   clear c6
   revert H
   refine ifn fun c7 H => ?_
   have c7b0 := decide_eq_true c7
   clear c7
   revert H
   refine ok1 fun t17 A8 H => ?_
   by_cases c9 : t17.toList = ([] : List UInt8)
   ·rw [if_pos c9] at H
    have c9b0 := eqt c9
    have c9b1 := nef c9
    clear c9
    have H' := am H
    clear H
    have p14 : 0 ≤ (x10_1 : Int) := od
    have q14 : x10_1 < (t15.length : Int) := od
    obtain ⟨ad14, e14, hx14_0⟩ := Kd.at_string (Kd.R_reads' HO_8.out).2.2 x10_1 p14 q14
    cases e14
    replace p14 := eq_true p14
    replace q14 := eq_true q14
    go_wp2_with ((with_reducible refine gw ?_); first | (refine gl 15 Tryz.func139 #[.string (rdOf ByteArray.empty t15 x10_1)] ?_; (with_reducible refine (impl_Trim.calls (rdOf ByteArray.empty t15 x10_1) t17 _ A8.out).mono ?_); rintro e w10 ⟨rfl, hb⟩; refine ⟨_, rfl, ?_⟩; replace HO_3 := kr HO_3 hb; replace HO_8 := kr HO_8 hb; replace HB := am (below_step bl hb); clear hb))
    go_roundg k1
    case measure => have := HK1.out; omega
    case rel => exact ⟨(x3_1), (wrap64 (x10_1 + 1)), rs, H', ⟨by have := HK1.out; omega⟩, ⟨ro HO_3⟩, ⟨ro HO_8⟩, ⟨u81HB⟩⟩
   rw [if_neg c9] at H
   have c9b0 := eqf c9
   have c9b1 := net c9
   revert H
   refine ifn fun c11 H => ?_
   have LMc11 := am c11
   clear c11
   obtain ⟨y16, hy16⟩ : ∃ y_ : List ByteArray, y_ = (x3_1 ++ [t17]) := ⟨_, rfl⟩
   replace H : (impl_Split.l0 k1 y16 t15 (t15.length : Int) (wrap64 (x10_1 + 1))) = some r := by first | (rw [hy16]; with_reducible exact H) | (have H2_ := (Option.bind_some _ _).symm.trans H; rw [hy16]; with_reducible exact H2_) | (have H2_ := (Option.bind_some _ _).symm.trans H; with_reducible exact H2_) | with_reducible exact H | (rw [hy16]; exact H) | exact H
   have Ny16 := am hy16
   clear hy16
   have H' := am H
   clear H
   have p14 : 0 ≤ (x10_1 : Int) := od
   have q14 : x10_1 < (t15.length : Int) := od
   obtain ⟨ad14, e14, hx14_0⟩ := Kd.at_string (Kd.R_reads' HO_8.out).2.2 x10_1 p14 q14
   cases e14
   replace p14 := eq_true p14
   replace q14 := eq_true q14
   go_wp2_with (first | ((with_reducible refine gw ?_); first | (refine gl 15 Tryz.func139 #[.string (rdOf ByteArray.empty t15 x10_1)] ?_; (with_reducible refine (impl_Trim.calls (rdOf ByteArray.empty t15 x10_1) t17 _ A8.out).mono ?_); rintro e w12 ⟨rfl, hb⟩; refine ⟨_, rfl, ?_⟩; replace HO_3 := kr HO_3 hb; replace HO_8 := kr HO_8 hb; replace HB := am (below_step bl hb); clear hb)) | ((with_reducible refine gate_builtin (b := .append) (xs := #[.tmp 18, .tmp 20]) rfl ?_); at_builtin; refine Kd.R_append Kd.string (w0 := w) w.heap.size rfl (.tmp 18) (.tmp 20) 26 9 (.string ⟨#[]⟩) 16 rfl Tryz.underlying26 info9 rfl (by decide) (by omega) u3 x3_1 t17 [.string t17] (fun k_ => some k_ ≠ (.slice (some ad14) t15.length co4 : Value).ownBlock) (fun _ => False) rfl rfl ?aP (fun _ hk => hk.elim) ?aF ?aO ?aB ?aS ?aL ?_; (case aP => exact rfl); (case aB => exact bl); (case aF => exact (fun k_ hk => Kd.fresh' (Kd.R_lt (ro HO_8)) k_ hk)); (case aO => exact (ro HO_3)); (case aS => exact (below_size bl)); (case aL => have := LMc11.out; omega); intro v21 w13 ho hb hg hat; rw [← Ny16.out] at ho; have n0_ := am (Kd.R_after (ok := (fun _ => True)) (rm HO_8 (fun _ hk => ⟨trivial, hk⟩)) hg hat); have n1_ := am (hb); have n2_ := am (ho); clear HO_8; clear HB; clear HO_3; have HO_8 := n0_; have HB := n1_; have HO19 := n2_; clear n0_ n1_ n2_; clear ho hb hg hat))
   go_roundg k1
   case measure => have := HK1.out; omega
   case rel => exact ⟨(y16), (wrap64 (x10_1 + 1)), rs, H', ⟨by have := HK1.out; omega⟩, ⟨ro HO19⟩, ⟨rm HO_8 (fun _ hk => hk.2)⟩, ⟨u81HB⟩⟩
def impl_Lower.f (a0 : ByteArray) : Option ByteArray := if a0.size ≤ 4611686018427387904 then some ⟨(a0.data.toList.map low1).toArray⟩ else none
set_option maxHeartbeats 4000000 in
theorem impl_Lower.calls (a0 : ByteArray) (r : ByteArray) (w : World) (h : impl_Lower.f a0 = some r) :
  Calls Tryz.prog 83 #[.string a0] w fun e w' => e = .returned (.string r) ∧ Below w.heap.size w w' := by
 unfold impl_Lower.f at h
 split at h
 case isFalse => cases h
 rename_i hl
 obtain rfl := Option.some.inj h
 obtain ⟨m, hm⟩ := low_start w a0
 have HL := am hm
 have HN := am hl
 have hlen : a0.data.toList.length = a0.size := data_length a0
 have HB0 := am (bytes_below (Below.refl w.heap.size w) (Nat.le_refl _) 5 a0)
 have kb := print_bytes (P := Tryz.prog) 9 22 5 Tryz.underlying9 Tryz.underlying22 Tryz.underlying5 a0 w
 have HLEN := am hlen
 clear hm hlen h hl
 go_enter Tryz.func83, Tryz.ntmps83
 go_wp2
 clear kb
 go_loopw [10] (fun i wr => ∃ k : Nat, k ≤ a0.size ∧ i = .int .i64 k ∧ Aside0 (LowRow w.heap.size k m a0.data.toList wr) ∧ Below w.heap.size w wr) (fun i _ => a0.size - (intOf i).toNat)
 case atStart => exact ⟨0, Nat.zero_le _, rfl, HL, HB0.out⟩
 case round =>
  obtain ⟨k, hk, rfl, hr, hb⟩ := hrel
  have hk2 : ((k : Nat) : Int) ≤ 4611686018427387904 := by have := HN.out; omega
  by_cases hlt : k < a0.size
  ·have hkl : k < a0.data.toList.length := by have := HLEN.out; omega
   have hc := low_cell hr.out k hkl
   have hf := low_free hr.out k hkl
   rw [if_neg (Nat.lt_irrefl k)] at hc
   have HR := am hr.out
   obtain ⟨c, hcc⟩ : ∃ c, c = a0.data.toList[k] := ⟨_, rfl⟩
   rw [← hcc] at hc
   have HC := am hcc
   clear hcc hr
   have hc0 : c.toNat < 256 := c.toNat_lt
   go_wp2
   ·have h1 : 65 ≤ (c.toNat : Int) := by assumption
    have h2 : (c.toNat : Int) ≤ 90 := by assumption
    go_roundw
    case rel => exact ⟨k + 1, by omega, by go_num, ⟨low_set HR.out hkl (by rw [← HC.out]; unfold low1; rw [if_pos ⟨by omega, by omega⟩]; simp; omega)⟩, hb.setCell (by simp) _⟩
    case measure => simp [intOf]; omega
   all_goals
    go_roundw
    case rel => exact ⟨k + 1, by omega, by go_num, ⟨low_keep HR.out hkl (by rw [← HC.out]; unfold low1; rw [if_neg (by omega)])⟩, hb⟩
    case measure => simp [intOf]; omega
  ·have kc : (convert 22 9 (.slice (some ⟨w.heap.size, 0, none⟩) a0.size (grownCap w a0.size 0 5))).run Tryz.prog wr = .ok (.string ⟨(a0.data.toList.map low1).toArray⟩) wr := by
    have := run_convert_bytes_back (P := Tryz.prog) wr 22 9 5 ⟨w.heap.size, 0, none⟩ (grownCap w a0.size 0 5) (a0.data.toList.map low1) Tryz.underlying22 Tryz.underlying5 Tryz.underlying9 (fun j hj => by
     rw [add_plain]
     have hj2 : j < a0.data.toList.length := by simpa using hj
     have hjk : j < k := by have := HLEN.out; omega
     rw [low_cell hr.out j hj2, if_pos hjk]; simp)
    rw [List.length_map, data_length] at this
    exact this
   go_wp2
   go_ret
   exact ⟨rfl, hb⟩
end Go.Proofs.YtjlpjbkpmmpojaaGreatDoor.All
