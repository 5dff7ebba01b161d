-- Written by a program of this session (wip/tools/hprint.py) out of the translation. Lean checks it.
import Derived.Test.YtkgdcfaogdmcgaaDoorAllx0
import Derived.Test.YtkgdcfaogdmcgaaDoorAllx1
import Derived.Test.YtkgdcfaogdmcgaaDoorAllx2
import Derived.Test.YtkgdcfaogdmcgaaDoorAllx3
import Derived.Test.YtkgdcfaogdmcgaaDoorAllx24
namespace Go.Proofs.YtkgdcfaogdmcgaaDoor.All
open Go.RowKit Go.Proofs.YtkgdcfaogdmcgaaDoorW.PrintWords Go.Proofs.YtkgdcfaogdmcgaaDoorW.PrintLast Go.Proofs.YtkgdcfaogdmcgaaDoorW.PrintMore
attribute [local go_sem] max2_int min2_int max_two min_two max_three min_three max_four min_four   -- for this text's walks alone
set_option linter.unusedVariables false
set_option linter.unusedSimpArgs false

/-! ### spec_NumRead: function 150 -/
theorem u150HB {p : Prop} (h : p := by repeat (first | (with_reducible first | exact HB.out | apply below_alloc | apply pw_below_drewN | apply below_drew1) | exact HB.out)) : p := h
mutual
def spec_NumRead.j0 : Nat → ByteArray → Bool → Option (Int × Bool)
 | 0, _, _ => none
 | k + 1, x0, x12 => if x12 = true then (some (0, false)) else (spec_NumRead.l0 k x0 0 0)
def spec_NumRead.l0 : Nat → ByteArray → Int → Int → Option (Int × Bool)
 | 0, _, _, _ => none
 | k + 1, x0, x4, x5 => if x5 < (x0.size : Int) then (if 0 ≤ x5 then (if (bt x0 x5) < 48 then (some (0, false)) else (if (bt x0 x5) > 57 then (some (0, false)) else (spec_NumRead.l0 k x0 (wrap64 ((wrap64 ((wrap64 (10 * x4)) + (wrap64 (bt x0 x5)))) - 48)) (wrap64 (x5 + 1))))) else (none)) else ((spec_NumText.f k x4).bind fun t1184 => (if t1184.toList = x0.toList then (some (x4, true)) else (some (0, false))))
end
def spec_NumRead.f (k : Nat) (a0 : ByteArray) : Option (Int × Bool) := if a0.toList = ([] : List UInt8) then (spec_NumRead.j0 k a0 true) else (spec_NumRead.j0 k a0 (decide ((a0.size : Int) > 7)))
theorem spec_NumRead.mono_l : ∀ k, (∀ y0 y1, LeO (spec_NumRead.j0 k y0 y1) (spec_NumRead.j0 (k + 1) y0 y1)) ∧ (∀ y0 y1 y2, LeO (spec_NumRead.l0 k y0 y1 y2) (spec_NumRead.l0 (k + 1) y0 y1 y2))
 | 0 => ⟨fun _ _ r h => by simp [spec_NumRead.j0] at h, fun _ _ _ r h => by simp [spec_NumRead.l0] at h⟩
 | k + 1 => by
  obtain ⟨ih0, ih1⟩ := spec_NumRead.mono_l k
  refine ⟨?_, ?_⟩
  ·intro y0 y1
   unfold spec_NumRead.j0
   have m0 := @spec_NumText.mono
   exact mo
  ·intro y0 y1 y2
   unfold spec_NumRead.l0
   have m0 := @spec_NumText.mono
   exact mo
theorem spec_NumRead.mono : ∀ a0 k, LeO (spec_NumRead.f k a0) (spec_NumRead.f (k + 1) a0) := by
 intro a0 k
 obtain ⟨ih0, ih1⟩ := spec_NumRead.mono_l k
 unfold spec_NumRead.f
 have m0 := @spec_NumText.mono
 exact mo
set_option maxHeartbeats 8000000 in
set_option maxRecDepth 100000 in
theorem spec_NumRead.calls (k : Nat) (a0 : ByteArray) (r1 : Int) (r2 : Bool) (w : World) (h : spec_NumRead.f k a0 = some (r1, r2)) :
  Calls Tryd.prog 150 #[.string a0] w fun e w' => e = .returned (.tuple #[.int .i64 r1, .bool r2]) ∧ Below w.heap.size w w' := by
 have HB := am (Below.refl w.heap.size w)
 unfold spec_NumRead.f at h
 have H := h
 clear h
 have HC2 := am H
 clear H
 go_enter Tryd.func150, Tryd.ntmps150
 go_upto_region 1 with (fail)
 go_cut [12] (fun v12 wc => ∃ (kq : Nat) (x12_1 : Bool), v12 = .bool x12_1 ∧ Aside0 (spec_NumRead.j0 kq a0 x12_1 = some (r1, r2)) ∧ Aside0 (kq ≤ k) ∧ Aside0 (Below w.heap.size w wc))
 case first =>
  have H := HC2.out
  clear HC2
  by_cases c3 : a0.toList = ([] : List UInt8)
  ·rw [if_pos c3] at H
   have c3b0 : (a0.toList == ([] : List UInt8)) = true := beq_iff_eq.mpr c3
   have c3b1 : (a0.toList != ([] : List UInt8)) = false := bne_eq_false_iff_eq.mpr c3
   clear c3
   (first | rw [c3b0] | (simp only [i64_w, i32_w]; rw [c3b0]) | skip)
   have H' := am H
   clear H
   go_wp2
   go_meet
   case rel => exact ⟨_, (true), rs, H', ⟨by first | omega | exact Nat.le_refl _⟩, ⟨u150HB⟩⟩
  rw [if_neg c3] at H
  have c3b0 : (a0.toList == ([] : List UInt8)) = false := beq_eq_false_iff_ne.mpr c3
  have c3b1 : (a0.toList != ([] : List UInt8)) = true := bne_iff_ne.mpr c3
  (first | rw [c3b0] | (simp only [i64_w, i32_w]; rw [c3b0]) | skip)
  have H' := am H
  clear H
  go_wp2
  go_meet
  case rel => exact ⟨_, (decide ((a0.size : Int) > 7)), rs, H', ⟨by first | omega | exact Nat.le_refl _⟩, ⟨u150HB⟩⟩
 case rest =>
  clear HC2
  try clear c1
  try clear p2
  try clear c3
  try clear c3b0
  try clear c3b1
  obtain ⟨kq, x12_1, rfl, HA, HJ1, HB⟩ := hcut
  cases kq with
  | zero => exact absurd HA.out (by simp [spec_NumRead.j0])
  | succ kj1 =>
   have H := HA.out
   clear HA
   simp only [spec_NumRead.j0] at H
   by_cases c4 : x12_1 = true
   ·subst c4
    rw [if_pos rfl] at H
    simp only [Option.some.injEq, Prod.mk.injEq] at H
    obtain ⟨rfl, rfl⟩ := H
    go_wp2
    go_ret2
    exact ⟨rf, bl⟩
   replace c4 := Bool.eq_false_iff.mpr c4
   subst c4
   rw [if_neg (show ¬ (false = true) by decide)] at H
   have H' := am H
   clear H
   go_wp2
   (try simp only [Act.put, List.setIfInBounds_toArray, List.set_cons_zero, List.set_cons_succ])
   go_loopg [4, 5] kj1 (fun kq v4 v5 w' => ∃ (x4_2 : Int) (x5_2 : Int), v4 = .int .i64 x4_2 ∧ v5 = .int .i64 x5_2 ∧ Aside0 (spec_NumRead.l0 kq a0 x4_2 x5_2 = some (r1, r2)) ∧ Aside0 (kq ≤ kj1) ∧ Aside0 (Below w.heap.size w w'))
   case atStart => exact ⟨(0), (0), rs, rs, H', ⟨Nat.le_refl _⟩, ⟨u150HB⟩⟩
   case round =>
    clear H'
    try clear c1
    try clear p2
    try clear c3
    try clear c3b0
    try clear c3b1
    try clear c4
    try clear p2
    obtain ⟨x4_2, x5_2, rfl, rfl, HA, HK2, HB⟩ := hrel
    cases gk with
    | zero => exact absurd HA.out (by simp [spec_NumRead.l0])
    | succ k2 =>
     have H := HA.out
     clear HA
     simp only [spec_NumRead.l0] at H
     by_cases c5 : x5_2 < (a0.size : Int)
     rotate_left
     ·rw [if_neg c5] at H
      have c5b0 := decide_eq_false c5
      clear c5
      revert H
      refine ok1 fun t1184 A12 H => ?_
      by_cases c13 : t1184.toList = a0.toList
      rotate_left
      ·rw [if_neg c13] at H
       have c13b0 : (t1184.toList == a0.toList) = false := beq_eq_false_iff_ne.mpr c13
       have c13b1 : (t1184.toList != a0.toList) = true := bne_iff_ne.mpr c13
       simp only [Option.some.injEq, Prod.mk.injEq] at H
       obtain ⟨rfl, rfl⟩ := H
       go_wp2_with (first | (refine gl 38 Tryd.func50 #[.int .i64 x4_2] ?_; (with_reducible refine (spec_NumText.calls k2 x4_2 t1184 _ A12.out).mono ?_); rintro e w15 ⟨rfl, hb⟩; refine ⟨_, rfl, ?_⟩; replace HB := am (below_step bl hb); clear hb))
       go_ret2
       exact ⟨rf, bl⟩
      rw [if_pos c13] at H
      have c13b0 : (t1184.toList == a0.toList) = true := beq_iff_eq.mpr c13
      have c13b1 : (t1184.toList != a0.toList) = false := bne_eq_false_iff_eq.mpr c13
      clear c13
      simp only [Option.some.injEq, Prod.mk.injEq] at H
      obtain ⟨rfl, rfl⟩ := H
      go_wp2_with (first | (refine gl 38 Tryd.func50 #[.int .i64 x4_2] ?_; (with_reducible refine (spec_NumText.calls k2 x4_2 t1184 _ A12.out).mono ?_); rintro e w14 ⟨rfl, hb⟩; refine ⟨_, rfl, ?_⟩; replace HB := am (below_step bl hb); clear hb))
      go_ret2
      exact ⟨rf, bl⟩
     rw [if_pos c5] at H
     have c5b0 := decide_eq_true c5
     clear c5
     revert H
     refine ifn fun c6 H => ?_
     have c6b0 := decide_eq_true c6
     clear c6
     by_cases c8 : (bt a0 x5_2) < 48
     ·rw [if_pos c8] at H
      have c8b0 := decide_eq_true c8
      clear c8
      simp only [Option.some.injEq, Prod.mk.injEq] at H
      obtain ⟨rfl, rfl⟩ := H
      have p7 : 0 ≤ (x5_2 : Int) := od
      have q7 : x5_2 < (a0.size : Int) := od
      have hx7 := bt_at a0 x5_2
      replace p7 := eq_true p7
      replace q7 := eq_true q7
      go_wp2
      go_ret2
      exact ⟨rf, bl⟩
     rw [if_neg c8] at H
     have c8b0 := decide_eq_false c8
     clear c8
     by_cases c10 : (bt a0 x5_2) > 57
     ·rw [if_pos c10] at H
      have c10b0 := decide_eq_true c10
      clear c10
      simp only [Option.some.injEq, Prod.mk.injEq] at H
      obtain ⟨rfl, rfl⟩ := H
      have p7 : 0 ≤ (x5_2 : Int) := od
      have q7 : x5_2 < (a0.size : Int) := od
      have hx7 := bt_at a0 x5_2
      replace p7 := eq_true p7
      replace q7 := eq_true q7
      have p9 : 0 ≤ (x5_2 : Int) := od
      have q9 : x5_2 < (a0.size : Int) := od
      have hx9 := bt_at a0 x5_2
      replace p9 := eq_true p9
      replace q9 := eq_true q9
      go_wp2
      go_ret2
      exact ⟨rf, bl⟩
     rw [if_neg c10] at H
     have c10b0 := decide_eq_false c10
     clear c10
     have H' := am H
     clear H
     have p7 : 0 ≤ (x5_2 : Int) := od
     have q7 : x5_2 < (a0.size : Int) := od
     have hx7 := bt_at a0 x5_2
     replace p7 := eq_true p7
     replace q7 := eq_true q7
     have p9 : 0 ≤ (x5_2 : Int) := od
     have q9 : x5_2 < (a0.size : Int) := od
     have hx9 := bt_at a0 x5_2
     replace p9 := eq_true p9
     replace q9 := eq_true q9
     have p11 : 0 ≤ (x5_2 : Int) := od
     have q11 : x5_2 < (a0.size : Int) := od
     have hx11 := bt_at a0 x5_2
     replace p11 := eq_true p11
     replace q11 := eq_true q11
     go_wp2
     go_roundg k2
     case measure => have := HJ1.out; have := HK2.out; omega
     case rel => exact ⟨(wrap64 ((wrap64 ((wrap64 (10 * x4_2)) + (wrap64 (bt a0 x5_2)))) - 48)), (wrap64 (x5_2 + 1)), rs, rs, H', ⟨by have := HJ1.out; have := HK2.out; omega⟩, ⟨u150HB⟩⟩

/-! ### spec_l6Age: function 133 -/
def spec_l6Age.f (k : Nat) (a0 : ByteArray) : Option (Int × Bool) := if (a0.size : Int) < 8 then (some (0, false)) else (if 0 ≤ 8 then (if 8 ≤ (a0.size : Int) then (if (a0.extract 0 8).toList = ([109, 97, 120, 45, 97, 103, 101, 61] : List UInt8) then ((spec_NumRead.f k (a0.extract 8 a0.size)).bind fun bt1185 => (some (bt1185.1, true))) else (some (0, false))) else (none)) else (none))
theorem spec_l6Age.mono : ∀ a0 k, LeO (spec_l6Age.f k a0) (spec_l6Age.f (k + 1) a0) := by
 intro a0 k
 unfold spec_l6Age.f
 have m0 := @spec_NumRead.mono
 exact mo
set_option maxHeartbeats 8000000 in
set_option maxRecDepth 100000 in
theorem spec_l6Age.calls (k : Nat) (a0 : ByteArray) (r1 : Int) (r2 : Bool) (w : World) (h : spec_l6Age.f k a0 = some (r1, r2)) :
  Calls Tryd.prog 133 #[.string a0] w fun e w' => e = .returned (.tuple #[.int .i64 r1, .bool r2]) ∧ Below w.heap.size w w' := by
 have HB := am (Below.refl w.heap.size w)
 unfold spec_l6Age.f at h
 have H := h
 clear h
 by_cases c2 : (a0.size : Int) < 8
 ·rw [if_pos c2] at H
  have c2b0 := decide_eq_true c2
  have c2b1 : decide (a0.size < 8) = true := decide_eq_true (by omega)
  clear c2
  simp only [Option.some.injEq, Prod.mk.injEq] at H
  obtain ⟨rfl, rfl⟩ := H
  go_enter Tryd.func133, Tryd.ntmps133
  go_wp2
  go_ret2
  exact ⟨rf, bl⟩
 rw [if_neg c2] at H
 have c2b0 := decide_eq_false c2
 have c2b1 : decide (a0.size < 8) = false := decide_eq_false (by omega)
 clear c2
 revert H
 refine ifn fun c3 H => ?_
 have c3b0 := eq_true c3
 have c3b1 := decide_eq_true c3
 clear c3
 revert H
 refine ifn fun c4 H => ?_
 have c4b0 := eq_true c4
 have c4b1 := decide_eq_true c4
 clear c4
 by_cases c5 : (a0.extract 0 8).toList = ([109, 97, 120, 45, 97, 103, 101, 61] : List UInt8)
 rotate_left
 ·rw [if_neg c5] at H
  have c5b0 : ((a0.extract 0 8).toList == ([109, 97, 120, 45, 97, 103, 101, 61] : List UInt8)) = false := beq_eq_false_iff_ne.mpr c5
  have c5b1 : ((a0.extract 0 8).toList != ([109, 97, 120, 45, 97, 103, 101, 61] : List UInt8)) = true := bne_iff_ne.mpr c5
  simp only [Option.some.injEq, Prod.mk.injEq] at H
  obtain ⟨rfl, rfl⟩ := H
  go_enter Tryd.func133, Tryd.ntmps133
  go_wp2
  go_ret2
  exact ⟨rf, bl⟩
 rw [if_pos c5] at H
 have c5b0 : ((a0.extract 0 8).toList == ([109, 97, 120, 45, 97, 103, 101, 61] : List UInt8)) = true := beq_iff_eq.mpr c5
 have c5b1 : ((a0.extract 0 8).toList != ([109, 97, 120, 45, 97, 103, 101, 61] : List UInt8)) = false := bne_eq_false_iff_eq.mpr c5
 clear c5
 have c6b0 := eq_true (od : 8 ≤ (a0.size : Int))
 revert H
 refine ok2 fun t1185 t1186 A7 H => ?_
 (try dsimp only at H)
 simp only [Option.some.injEq, Prod.mk.injEq] at H
 obtain ⟨rfl, rfl⟩ := H
 go_enter Tryd.func133, Tryd.ntmps133
 go_wp2_with (first | (refine gl 25 Tryd.func150 #[.string (a0.extract 8 a0.size)] ?_; (with_reducible refine (spec_NumRead.calls k (a0.extract 8 a0.size) t1185 t1186 _ A7.out).mono ?_); rintro e w8 ⟨rfl, hb⟩; refine ⟨_, rfl, ?_⟩; replace HB := am (below_step bl hb); clear hb))
 go_ret2
 exact ⟨rf, bl⟩

/-! ### spec_l1Min: function 134 -/
def spec_l1Min.f (a0 : Int) (a1 : Int) : Option (Int) := if a0 < a1 then (some a0) else (some a1)
set_option maxHeartbeats 8000000 in
set_option maxRecDepth 100000 in
theorem spec_l1Min.calls (a0 : Int) (a1 : Int) (r : Int) (w : World) (h : spec_l1Min.f a0 a1 = some r) :
  Calls Tryd.prog 134 #[.int .i64 a0, .int .i64 a1] w fun e w' => e = .returned (.int .i64 r) ∧ Drawn0 w w' := by
 unfold spec_l1Min.f at h
 have H := h
 clear h
 by_cases c3 : a0 < a1
 ·rw [if_pos c3] at H
  have c3b0 := decide_eq_true c3
  clear c3
  obtain rfl := Option.some.inj H
  go_enter Tryd.func134, Tryd.ntmps134
  go_wp2
  go_ret
  exact ⟨rs, dr⟩
 rw [if_neg c3] at H
 have c3b0 := decide_eq_false c3
 clear c3
 obtain rfl := Option.some.inj H
 go_enter Tryd.func134, Tryd.ntmps134
 go_wp2
 go_ret
 exact ⟨rs, dr⟩

/-! ### spec_CcRead: function 100 -/
theorem u100HB {p : Prop} (h : p := by repeat (first | (with_reducible first | exact HB.out | apply below_alloc | apply pw_below_drewN | apply below_drew1 | refine below_set ?_ GE1187.out | refine below_set ?_ GE1188.out) | exact HB.out)) : p := h
mutual
def spec_CcRead.l0 : Nat → List ByteArray → Int → Bool → Bool → Bool → Bool → Bool → Int → Option (Bool × Bool × Bool × Bool × Bool × Int)
 | 0, _, _, _, _, _, _, _, _ => none
 | k + 1, x4, x5, x1189000, x1189001, x1189002, x1189003, x1189004, x1189005 => if x5 < (x4.length : Int) then (if 0 ≤ x5 then ((spec_Lower.f k (rdOf ByteArray.empty x4 x5)).bind fun t1193 => ((spec_l6Age.f k t1193).bind fun bt1194 => (if t1193.toList = ([110, 111, 45, 115, 116, 111, 114, 101] : List UInt8) then (spec_CcRead.l0 k x4 (wrap64 (x5 + 1)) true x1189001 x1189002 x1189003 x1189004 x1189005) else (if t1193.toList = ([110, 111, 45, 99, 97, 99, 104, 101] : List UInt8) then (spec_CcRead.l0 k x4 (wrap64 (x5 + 1)) x1189000 true x1189002 x1189003 x1189004 x1189005) else (if t1193.toList = ([112, 114, 105, 118, 97, 116, 101] : List UInt8) then (spec_CcRead.l0 k x4 (wrap64 (x5 + 1)) x1189000 x1189001 true x1189003 x1189004 x1189005) else (if t1193.toList = ([109, 117, 115, 116, 45, 114, 101, 118, 97, 108, 105, 100, 97, 116, 101] : List UInt8) then (spec_CcRead.l0 k x4 (wrap64 (x5 + 1)) x1189000 x1189001 x1189002 true x1189004 x1189005) else (if bt1194.2 = true then (spec_CcRead.j1 k x4 x5 bt1194.1 bt1194.2 x1189004 x1189000 x1189001 x1189002 x1189003 x1189004 x1189005) else (spec_CcRead.j1 k x4 x5 bt1194.1 bt1194.2 false x1189000 x1189001 x1189002 x1189003 x1189004 x1189005)))))))) else (none)) else (some (x1189000, x1189001, x1189002, x1189003, x1189004, x1189005))
def spec_CcRead.j1 : Nat → List ByteArray → Int → Int → Bool → Bool → Bool → Bool → Bool → Bool → Bool → Int → Option (Bool × Bool × Bool × Bool × Bool × Int)
 | 0, _, _, _, _, _, _, _, _, _, _, _ => none
 | k + 1, x4, x5, x7, x8, x44, x1189000, x1189001, x1189002, x1189003, x1189004, x1189005 => if x44 = true then ((spec_l1Min.f x1189005 x7).bind fun t1196 => (spec_CcRead.l0 k x4 (wrap64 (x5 + 1)) x1189000 x1189001 x1189002 x1189003 x1189004 t1196)) else (if x8 = true then (spec_CcRead.l0 k x4 (wrap64 (x5 + 1)) x1189000 x1189001 x1189002 x1189003 true x7) else (spec_CcRead.l0 k x4 (wrap64 (x5 + 1)) x1189000 x1189001 x1189002 x1189003 x1189004 x1189005))
end
def spec_CcRead.f (k : Nat) (a0 : ByteArray) : Option (Bool × Bool × Bool × Bool × Bool × Int) := (spec_Split.f k a0).bind fun t1189 => (spec_CcRead.l0 k t1189 0 false false false false false 0)
theorem spec_CcRead.mono_l : ∀ k, (∀ y0 y1 y2 y3 y4 y5 y6 y7, LeO (spec_CcRead.l0 k y0 y1 y2 y3 y4 y5 y6 y7) (spec_CcRead.l0 (k + 1) y0 y1 y2 y3 y4 y5 y6 y7)) ∧ (∀ y0 y1 y2 y3 y4 y5 y6 y7 y8 y9 y10, LeO (spec_CcRead.j1 k y0 y1 y2 y3 y4 y5 y6 y7 y8 y9 y10) (spec_CcRead.j1 (k + 1) y0 y1 y2 y3 y4 y5 y6 y7 y8 y9 y10))
 | 0 => ⟨fun _ _ _ _ _ _ _ _ r h => by simp [spec_CcRead.l0] at h, fun _ _ _ _ _ _ _ _ _ _ _ r h => by simp [spec_CcRead.j1] at h⟩
 | k + 1 => by
  obtain ⟨ih0, ih1⟩ := spec_CcRead.mono_l k
  refine ⟨?_, ?_⟩
  ·intro y0 y1 y2 y3 y4 y5 y6 y7
   unfold spec_CcRead.l0
   have m0 := @spec_Lower.mono
   have m1 := @spec_Split.mono
   have m2 := @spec_l6Age.mono
   exact mo
  ·intro y0 y1 y2 y3 y4 y5 y6 y7 y8 y9 y10
   unfold spec_CcRead.j1
   have m0 := @spec_Lower.mono
   have m1 := @spec_Split.mono
   have m2 := @spec_l6Age.mono
   exact mo
theorem spec_CcRead.mono : ∀ a0 k, LeO (spec_CcRead.f k a0) (spec_CcRead.f (k + 1) a0) := by
 intro a0 k
 obtain ⟨ih0, ih1⟩ := spec_CcRead.mono_l k
 unfold spec_CcRead.f
 have m0 := @spec_Lower.mono
 have m1 := @spec_Split.mono
 have m2 := @spec_l6Age.mono
 exact mo
set_option maxHeartbeats 8000000 in
set_option maxRecDepth 100000 in
theorem spec_CcRead.calls (k : Nat) (a0 : ByteArray) (r1 : Bool) (r2 : Bool) (r3 : Bool) (r4 : Bool) (r5 : Bool) (r6 : Int) (w : World) (h : spec_CcRead.f k a0 = some (r1, r2, r3, r4, r5, r6)) :
  Calls Tryd.prog 100 #[.string a0] w fun e w' => e = .returned (.agg #[.bool r1, .bool r2, .bool r3, .bool r4, .bool r5, .int .i64 r6]) ∧ Below w.heap.size w w' := by
 have hu72 := Tryd.underlying72
 have HB := am (Below.refl w.heap.size w)
 unfold spec_CcRead.f at h
 have H := h
 clear h
 revert H
 refine ok1 fun t1189 A2 H => ?_
 have H' := am H
 clear H
 go_enter Tryd.func100, Tryd.ntmps100
 go_wp2_with (first | (refine bx 2 #[.bool false, .bool false, .bool false, .bool false, .bool false, .int .i64 0] 72 ?_; intro gb1187 hg w3 hbox hb; have BK1187 := am (hbox); have GW1187 := am (sz hg : w.heap.size ≤ gb1187); have GE1187 := am (sz hg : w.heap.size ≤ gb1187); replace HB := am (below_step bl hb); clear hb hbox hg) | (refine bx 3 #[.bool false, .bool false, .bool false, .bool false, .bool false, .int .i64 0] 72 ?_; intro gb1188 hg w4 hbox hb; have BK1188 := am (hbox); have GW1188 := am (sz hg : w.heap.size ≤ gb1188); have GE1188 := am (sz hg : w.heap.size ≤ gb1188); replace HB := am (below_step bl hb); have NB1187_1188 := am (nl hg BK1187 : gb1187 ≠ gb1188); have NB1188_1187 := am (ng hg BK1187 : gb1188 ≠ gb1187); replace BK1187 := kb BK1187 hb; clear hb hbox hg; have hnb5 := NB1188_1187.out; have hnc5 := NB1187_1188.out; obtain ⟨z6_0, y6_0, z6_1, y6_1, z6_2, y6_2, z6_3, y6_3, z6_4, y6_4, z6_5, y6_5⟩ := cl6 BK1188) | (refine gl 11 Tryd.func121 #[.string a0] ?_; (with_reducible refine (spec_Split.calls k a0 t1189 _ A2.out).mono ?_); rintro e w7 ⟨v1190, rfl, ho0, hb⟩; refine ⟨_, rfl, ?_⟩; have HO1191 := am (Kd.R_lower ho0 (below_size bl)); replace BK1187 := kg1 BK1187 NB1187_1188 hb; replace BK1188 := am (blk_below (g := gb1188) (o := .cells #[.bool false, .bool false, .bool false, .bool false, .bool false, .int .i64 0] 72 (0, 0)) (pt0 BK1188) hb); replace HB := am (below_step bl hb); clear hb ho0))
 (try simp only [Act.put, List.setIfInBounds_toArray, List.set_cons_zero, List.set_cons_succ])
 go_loopg [5] k (fun kq v5 w' => ∃ (x5_1 : Int) (x1189000_1 : Bool) (x1189001_1 : Bool) (x1189002_1 : Bool) (x1189003_1 : Bool) (x1189004_1 : Bool) (x1189005_1 : Int), v5 = .int .i64 x5_1 ∧ Aside0 (spec_CcRead.l0 kq t1189 x5_1 x1189000_1 x1189001_1 x1189002_1 x1189003_1 x1189004_1 x1189005_1 = some (r1, r2, r3, r4, r5, r6)) ∧ Aside0 (kq ≤ k) ∧ Aside0 (Kd.R Kd.string 9 w' w.heap.size (fun _ => True) v1190 t1189) ∧ Aside0 (w'.heap[gb1187]? = some (.cells #[.bool false, .bool false, .bool false, .bool false, .bool false, .int .i64 0] 72 (0, 0))) ∧ Aside0 (w'.heap[gb1188]? = some (.cells #[.bool x1189000_1, .bool x1189001_1, .bool x1189002_1, .bool x1189003_1, .bool x1189004_1, .int .i64 x1189005_1] 72 (0, 0))) ∧ Aside0 (Below w.heap.size w w'))
 case atStart => exact ⟨(0), (false), (false), (false), (false), (false), (0), rs, H', ⟨Nat.le_refl _⟩, ⟨by (with_reducible repeat (first | apply Kd.R_alloc | apply Kd.R_drewN | apply Kd.R_drew)); exact HO1191.out⟩, ⟨by (with_reducible repeat (first | refine blk_drewN ?_ _ | refine blk_drew ?_ | refine blk_alloc ?_ _)); exact BK1187.out⟩, ⟨by (with_reducible repeat (first | refine blk_drewN ?_ _ | refine blk_drew ?_ | refine blk_alloc ?_ _)); exact BK1188.out⟩, ⟨u100HB⟩⟩
 case round =>
  clear H'
  try clear c1
  try clear p2
  try clear c5
  try clear z6_0
  try clear z6_1
  try clear z6_2
  try clear z6_3
  try clear z6_4
  try clear z6_5
  try clear y6_0
  try clear y6_1
  try clear y6_2
  try clear y6_3
  try clear y6_4
  try clear y6_5
  obtain ⟨x5_1, x1189000_1, x1189001_1, x1189002_1, x1189003_1, x1189004_1, x1189005_1, rfl, HA, HK1, HO_4, BK1187, BK1188, HB⟩ := hrel
  cases gk with
  | zero => exact absurd HA.out (by simp [spec_CcRead.l0])
  | succ k1 =>
   have H := HA.out
   clear HA
   simp only [spec_CcRead.l0] at H
   by_cases c8 : x5_1 < (t1189.length : Int)
   rotate_left
   ·rw [if_neg c8] at H
    have c8b0 := decide_eq_false c8
    clear c8
    simp only [Option.some.injEq, Prod.mk.injEq] at H
    obtain ⟨rfl, rfl, rfl, rfl, rfl, rfl⟩ := H
    obtain ⟨Ao50, co50, eo50⟩ := Kd.R_slice HO_4.out
    subst eo50
    have hnb51 := NB1188_1187.out
    have hnc51 := NB1187_1188.out
    obtain ⟨z52_0, y52_0, z52_1, y52_1, z52_2, y52_2, z52_3, y52_3, z52_4, y52_4, z52_5, y52_5⟩ := cl6 BK1188
    obtain ⟨z53_0, y53_0, z53_1, y53_1, z53_2, y53_2, z53_3, y53_3, z53_4, y53_4, z53_5, y53_5⟩ := cl6 BK1187
    go_wp2
    refine bodyPost_ret (results_cell_row rfl _ _ gb1187 72 #[.bool x1189000_1, .bool x1189001_1, .bool x1189002_1, .bool x1189003_1, .bool x1189004_1, .int .i64 x1189005_1] (0, 0) _ rfl (pt0 BK1187) Tryd.underlying72 rfl (by kernel_rfl)) rfl ?_
    exact ⟨rf, bl⟩
   rw [if_pos c8] at H
   have c8b0 := decide_eq_true c8
   clear c8
   revert H
   refine ifn fun c9 H => ?_
   have c9b0 := decide_eq_true c9
   clear c9
   revert H
   refine ok1 fun t1193 A10 H => ?_
   revert H
   refine ok2 fun t1194 t1195 A11 H => ?_
   (try dsimp only at H)
   by_cases c12 : t1193.toList = ([110, 111, 45, 115, 116, 111, 114, 101] : List UInt8)
   ·rw [if_pos c12] at H
    have c12b0 : (t1193.toList == ([110, 111, 45, 115, 116, 111, 114, 101] : List UInt8)) = true := beq_iff_eq.mpr c12
    have c12b1 : (t1193.toList != ([110, 111, 45, 115, 116, 111, 114, 101] : List UInt8)) = false := bne_eq_false_iff_eq.mpr c12
    clear c12
    have H' := am H
    clear H
    obtain ⟨Ao13, co13, eo13⟩ := Kd.R_slice HO_4.out
    subst eo13
    have p1192 : 0 ≤ (x5_1 : Int) := od
    have q1192 : x5_1 < (t1189.length : Int) := od
    obtain ⟨ad1192, e1192, hx1192_0⟩ := Kd.at_string (Kd.R_reads' HO_4.out).2.2 x5_1 p1192 q1192
    cases e1192
    replace p1192 := eq_true p1192
    replace q1192 := eq_true q1192
    go_wp2_with (first | (refine gl 22 Tryd.func122 #[.string (rdOf ByteArray.empty t1189 x5_1)] ?_; (with_reducible refine (spec_Lower.calls k1 (rdOf ByteArray.empty t1189 x5_1) t1193 _ A10.out).mono ?_); rintro e w14 ⟨rfl, hb⟩; refine ⟨_, rfl, ?_⟩; replace HO_4 := kr HO_4 hb; replace BK1187 := kb BK1187 hb; replace BK1188 := kb BK1188 hb; replace HB := am (below_step bl hb); clear hb) | (refine gl 25 Tryd.func133 #[.string t1193] ?_; (with_reducible refine (spec_l6Age.calls k1 t1193 t1194 t1195 _ A11.out).mono ?_); rintro e w15 ⟨rfl, hb⟩; refine ⟨_, rfl, ?_⟩; replace HO_4 := kr HO_4 hb; replace BK1187 := kb BK1187 hb; replace BK1188 := kb BK1188 hb; replace HB := am (below_step bl hb); clear hb; have hnb16 := NB1188_1187.out; have hnc16 := NB1187_1188.out; obtain ⟨z17_0, y17_0, z17_1, y17_1, z17_2, y17_2, z17_3, y17_3, z17_4, y17_4, z17_5, y17_5⟩ := cl6 BK1188))
    go_roundg k1
    case measure => have := HK1.out; omega
    case rel => exact ⟨(wrap64 (x5_1 + 1)), (true), (x1189001_1), (x1189002_1), (x1189003_1), (x1189004_1), (x1189005_1), rs, H', ⟨by have := HK1.out; omega⟩, ⟨rg (Kd.R_types HO_4.out BK1188.out (by decide))⟩, ⟨by (with_reducible repeat (first | refine blk_drewN ?_ _ | refine blk_drew ?_ | refine blk_alloc ?_ _)); refine blk_far ?_ NB1187_1188.out _; (with_reducible repeat (first | refine blk_drewN ?_ _ | refine blk_drew ?_ | refine blk_alloc ?_ _)); exact BK1187.out⟩, ⟨pt0 BK1188⟩, ⟨u100HB⟩⟩
   rw [if_neg c12] at H
   have c12b0 : (t1193.toList == ([110, 111, 45, 115, 116, 111, 114, 101] : List UInt8)) = false := beq_eq_false_iff_ne.mpr c12
   have c12b1 : (t1193.toList != ([110, 111, 45, 115, 116, 111, 114, 101] : List UInt8)) = true := bne_iff_ne.mpr c12
   by_cases c18 : t1193.toList = ([110, 111, 45, 99, 97, 99, 104, 101] : List UInt8)
   ·rw [if_pos c18] at H
    have c18b0 : (t1193.toList == ([110, 111, 45, 99, 97, 99, 104, 101] : List UInt8)) = true := beq_iff_eq.mpr c18
    have c18b1 : (t1193.toList != ([110, 111, 45, 99, 97, 99, 104, 101] : List UInt8)) = false := bne_eq_false_iff_eq.mpr c18
    clear c18
    have H' := am H
    clear H
    obtain ⟨Ao19, co19, eo19⟩ := Kd.R_slice HO_4.out
    subst eo19
    have p1192 : 0 ≤ (x5_1 : Int) := od
    have q1192 : x5_1 < (t1189.length : Int) := od
    obtain ⟨ad1192, e1192, hx1192_0⟩ := Kd.at_string (Kd.R_reads' HO_4.out).2.2 x5_1 p1192 q1192
    cases e1192
    replace p1192 := eq_true p1192
    replace q1192 := eq_true q1192
    go_wp2_with (first | (refine gl 22 Tryd.func122 #[.string (rdOf ByteArray.empty t1189 x5_1)] ?_; (with_reducible refine (spec_Lower.calls k1 (rdOf ByteArray.empty t1189 x5_1) t1193 _ A10.out).mono ?_); rintro e w20 ⟨rfl, hb⟩; refine ⟨_, rfl, ?_⟩; replace HO_4 := kr HO_4 hb; replace BK1187 := kb BK1187 hb; replace BK1188 := kb BK1188 hb; replace HB := am (below_step bl hb); clear hb) | (refine gl 25 Tryd.func133 #[.string t1193] ?_; (with_reducible refine (spec_l6Age.calls k1 t1193 t1194 t1195 _ A11.out).mono ?_); rintro e w21 ⟨rfl, hb⟩; refine ⟨_, rfl, ?_⟩; replace HO_4 := kr HO_4 hb; replace BK1187 := kb BK1187 hb; replace BK1188 := kb BK1188 hb; replace HB := am (below_step bl hb); clear hb; have hnb22 := NB1188_1187.out; have hnc22 := NB1187_1188.out; obtain ⟨z23_0, y23_0, z23_1, y23_1, z23_2, y23_2, z23_3, y23_3, z23_4, y23_4, z23_5, y23_5⟩ := cl6 BK1188))
    go_roundg k1
    case measure => have := HK1.out; omega
    case rel => exact ⟨(wrap64 (x5_1 + 1)), (x1189000_1), (true), (x1189002_1), (x1189003_1), (x1189004_1), (x1189005_1), rs, H', ⟨by have := HK1.out; omega⟩, ⟨rg (Kd.R_types HO_4.out BK1188.out (by decide))⟩, ⟨by (with_reducible repeat (first | refine blk_drewN ?_ _ | refine blk_drew ?_ | refine blk_alloc ?_ _)); refine blk_far ?_ NB1187_1188.out _; (with_reducible repeat (first | refine blk_drewN ?_ _ | refine blk_drew ?_ | refine blk_alloc ?_ _)); exact BK1187.out⟩, ⟨pt0 BK1188⟩, ⟨u100HB⟩⟩
   rw [if_neg c18] at H
   have c18b0 : (t1193.toList == ([110, 111, 45, 99, 97, 99, 104, 101] : List UInt8)) = false := beq_eq_false_iff_ne.mpr c18
   have c18b1 : (t1193.toList != ([110, 111, 45, 99, 97, 99, 104, 101] : List UInt8)) = true := bne_iff_ne.mpr c18
   by_cases c24 : t1193.toList = ([112, 114, 105, 118, 97, 116, 101] : List UInt8)
   ·rw [if_pos c24] at H
    have c24b0 : (t1193.toList == ([112, 114, 105, 118, 97, 116, 101] : List UInt8)) = true := beq_iff_eq.mpr c24
    have c24b1 : (t1193.toList != ([112, 114, 105, 118, 97, 116, 101] : List UInt8)) = false := bne_eq_false_iff_eq.mpr c24
    clear c24
    have H' := am H
    clear H
    obtain ⟨Ao25, co25, eo25⟩ := Kd.R_slice HO_4.out
    subst eo25
    have p1192 : 0 ≤ (x5_1 : Int) := od
    have q1192 : x5_1 < (t1189.length : Int) := od
    obtain ⟨ad1192, e1192, hx1192_0⟩ := Kd.at_string (Kd.R_reads' HO_4.out).2.2 x5_1 p1192 q1192
    cases e1192
    replace p1192 := eq_true p1192
    replace q1192 := eq_true q1192
    go_wp2_with (first | (refine gl 22 Tryd.func122 #[.string (rdOf ByteArray.empty t1189 x5_1)] ?_; (with_reducible refine (spec_Lower.calls k1 (rdOf ByteArray.empty t1189 x5_1) t1193 _ A10.out).mono ?_); rintro e w26 ⟨rfl, hb⟩; refine ⟨_, rfl, ?_⟩; replace HO_4 := kr HO_4 hb; replace BK1187 := kb BK1187 hb; replace BK1188 := kb BK1188 hb; replace HB := am (below_step bl hb); clear hb) | (refine gl 25 Tryd.func133 #[.string t1193] ?_; (with_reducible refine (spec_l6Age.calls k1 t1193 t1194 t1195 _ A11.out).mono ?_); rintro e w27 ⟨rfl, hb⟩; refine ⟨_, rfl, ?_⟩; replace HO_4 := kr HO_4 hb; replace BK1187 := kb BK1187 hb; replace BK1188 := kb BK1188 hb; replace HB := am (below_step bl hb); clear hb; have hnb28 := NB1188_1187.out; have hnc28 := NB1187_1188.out; obtain ⟨z29_0, y29_0, z29_1, y29_1, z29_2, y29_2, z29_3, y29_3, z29_4, y29_4, z29_5, y29_5⟩ := cl6 BK1188))
    go_roundg k1
    case measure => have := HK1.out; omega
    case rel => exact ⟨(wrap64 (x5_1 + 1)), (x1189000_1), (x1189001_1), (true), (x1189003_1), (x1189004_1), (x1189005_1), rs, H', ⟨by have := HK1.out; omega⟩, ⟨rg (Kd.R_types HO_4.out BK1188.out (by decide))⟩, ⟨by (with_reducible repeat (first | refine blk_drewN ?_ _ | refine blk_drew ?_ | refine blk_alloc ?_ _)); refine blk_far ?_ NB1187_1188.out _; (with_reducible repeat (first | refine blk_drewN ?_ _ | refine blk_drew ?_ | refine blk_alloc ?_ _)); exact BK1187.out⟩, ⟨pt0 BK1188⟩, ⟨u100HB⟩⟩
   rw [if_neg c24] at H
   have c24b0 : (t1193.toList == ([112, 114, 105, 118, 97, 116, 101] : List UInt8)) = false := beq_eq_false_iff_ne.mpr c24
   have c24b1 : (t1193.toList != ([112, 114, 105, 118, 97, 116, 101] : List UInt8)) = true := bne_iff_ne.mpr c24
   by_cases c30 : t1193.toList = ([109, 117, 115, 116, 45, 114, 101, 118, 97, 108, 105, 100, 97, 116, 101] : List UInt8)
   ·rw [if_pos c30] at H
    have c30b0 : (t1193.toList == ([109, 117, 115, 116, 45, 114, 101, 118, 97, 108, 105, 100, 97, 116, 101] : List UInt8)) = true := beq_iff_eq.mpr c30
    have c30b1 : (t1193.toList != ([109, 117, 115, 116, 45, 114, 101, 118, 97, 108, 105, 100, 97, 116, 101] : List UInt8)) = false := bne_eq_false_iff_eq.mpr c30
    clear c30
    have H' := am H
    clear H
    obtain ⟨Ao31, co31, eo31⟩ := Kd.R_slice HO_4.out
    subst eo31
    have p1192 : 0 ≤ (x5_1 : Int) := od
    have q1192 : x5_1 < (t1189.length : Int) := od
    obtain ⟨ad1192, e1192, hx1192_0⟩ := Kd.at_string (Kd.R_reads' HO_4.out).2.2 x5_1 p1192 q1192
    cases e1192
    replace p1192 := eq_true p1192
    replace q1192 := eq_true q1192
    go_wp2_with (first | (refine gl 22 Tryd.func122 #[.string (rdOf ByteArray.empty t1189 x5_1)] ?_; (with_reducible refine (spec_Lower.calls k1 (rdOf ByteArray.empty t1189 x5_1) t1193 _ A10.out).mono ?_); rintro e w32 ⟨rfl, hb⟩; refine ⟨_, rfl, ?_⟩; replace HO_4 := kr HO_4 hb; replace BK1187 := kb BK1187 hb; replace BK1188 := kb BK1188 hb; replace HB := am (below_step bl hb); clear hb) | (refine gl 25 Tryd.func133 #[.string t1193] ?_; (with_reducible refine (spec_l6Age.calls k1 t1193 t1194 t1195 _ A11.out).mono ?_); rintro e w33 ⟨rfl, hb⟩; refine ⟨_, rfl, ?_⟩; replace HO_4 := kr HO_4 hb; replace BK1187 := kb BK1187 hb; replace BK1188 := kb BK1188 hb; replace HB := am (below_step bl hb); clear hb; have hnb34 := NB1188_1187.out; have hnc34 := NB1187_1188.out; obtain ⟨z35_0, y35_0, z35_1, y35_1, z35_2, y35_2, z35_3, y35_3, z35_4, y35_4, z35_5, y35_5⟩ := cl6 BK1188))
    go_roundg k1
    case measure => have := HK1.out; omega
    case rel => exact ⟨(wrap64 (x5_1 + 1)), (x1189000_1), (x1189001_1), (x1189002_1), (true), (x1189004_1), (x1189005_1), rs, H', ⟨by have := HK1.out; omega⟩, ⟨rg (Kd.R_types HO_4.out BK1188.out (by decide))⟩, ⟨by (with_reducible repeat (first | refine blk_drewN ?_ _ | refine blk_drew ?_ | refine blk_alloc ?_ _)); refine blk_far ?_ NB1187_1188.out _; (with_reducible repeat (first | refine blk_drewN ?_ _ | refine blk_drew ?_ | refine blk_alloc ?_ _)); exact BK1187.out⟩, ⟨pt0 BK1188⟩, ⟨u100HB⟩⟩
   rw [if_neg c30] at H
   have c30b0 : (t1193.toList == ([109, 117, 115, 116, 45, 114, 101, 118, 97, 108, 105, 100, 97, 116, 101] : List UInt8)) = false := beq_eq_false_iff_ne.mpr c30
   have c30b1 : (t1193.toList != ([109, 117, 115, 116, 45, 114, 101, 118, 97, 108, 105, 100, 97, 116, 101] : List UInt8)) = true := bne_iff_ne.mpr c30
   have HC36 := am H
   clear H
   obtain ⟨Ao37, co37, eo37⟩ := Kd.R_slice HO_4.out
   subst eo37
   have p1192 : 0 ≤ (x5_1 : Int) := od
   have q1192 : x5_1 < (t1189.length : Int) := od
   obtain ⟨ad1192, e1192, hx1192_0⟩ := Kd.at_string (Kd.R_reads' HO_4.out).2.2 x5_1 p1192 q1192
   cases e1192
   replace p1192 := eq_true p1192
   replace q1192 := eq_true q1192
   go_upto_region 16 with (first | (refine gl 22 Tryd.func122 #[.string (rdOf ByteArray.empty t1189 x5_1)] ?_; (with_reducible refine (spec_Lower.calls k1 (rdOf ByteArray.empty t1189 x5_1) t1193 _ A10.out).mono ?_); rintro e w38 ⟨rfl, hb⟩; refine ⟨_, rfl, ?_⟩; replace HO_4 := kr HO_4 hb; replace BK1187 := kb BK1187 hb; replace BK1188 := kb BK1188 hb; replace HB := am (below_step bl hb); clear hb) | (refine gl 25 Tryd.func133 #[.string t1193] ?_; (with_reducible refine (spec_l6Age.calls k1 t1193 t1194 t1195 _ A11.out).mono ?_); rintro e w39 ⟨rfl, hb⟩; refine ⟨_, rfl, ?_⟩; replace HO_4 := kr HO_4 hb; replace BK1187 := kb BK1187 hb; replace BK1188 := kb BK1188 hb; replace HB := am (below_step bl hb); clear hb))
   (try simp only [Act.put, List.setIfInBounds_toArray, List.set_cons_zero, List.set_cons_succ])
   go_cut [44] (fun v44 wc => ∃ (kq : Nat) (x44_35 : Bool), v44 = .bool x44_35 ∧ Aside0 (spec_CcRead.j1 kq t1189 x5_1 t1194 t1195 x44_35 x1189000_1 x1189001_1 x1189002_1 x1189003_1 x1189004_1 x1189005_1 = some (r1, r2, r3, r4, r5, r6)) ∧ Aside0 (kq ≤ k1) ∧ Aside0 (Kd.R Kd.string 9 wc w.heap.size (fun _ => True) (.slice (some ad1192) t1189.length co37) t1189) ∧ Aside0 (wc.heap[gb1187]? = some (.cells #[.bool false, .bool false, .bool false, .bool false, .bool false, .int .i64 0] 72 (0, 0))) ∧ Aside0 (wc.heap[gb1188]? = some (.cells #[.bool x1189000_1, .bool x1189001_1, .bool x1189002_1, .bool x1189003_1, .bool x1189004_1, .int .i64 x1189005_1] 72 (0, 0))) ∧ Aside0 (Below w.heap.size w wc))
   case first =>
    have H := HC36.out
    clear HC36
    by_cases c40 : t1195 = true
    rotate_left
    ·replace c40 := Bool.eq_false_iff.mpr c40
     subst c40
     rw [if_neg (show ¬ (false = true) by decide)] at H
     have H' := am H
     clear H
     go_wp2
     go_meet
     case rel => exact ⟨_, (false), rs, H', ⟨by have := HK1.out; first | omega | exact Nat.le_refl _⟩, ⟨by (with_reducible repeat (first | apply Kd.R_alloc | apply Kd.R_drewN | apply Kd.R_drew)); exact HO_4.out⟩, ⟨by (with_reducible repeat (first | refine blk_drewN ?_ _ | refine blk_drew ?_ | refine blk_alloc ?_ _)); exact BK1187.out⟩, ⟨by (with_reducible repeat (first | refine blk_drewN ?_ _ | refine blk_drew ?_ | refine blk_alloc ?_ _)); exact BK1188.out⟩, ⟨u100HB⟩⟩
    subst c40
    rw [if_pos rfl] at H
    have H' := am H
    clear H
    have hnb41 := NB1188_1187.out
    have hnc41 := NB1187_1188.out
    obtain ⟨z42_0, y42_0, z42_1, y42_1, z42_2, y42_2, z42_3, y42_3, z42_4, y42_4, z42_5, y42_5⟩ := cl6 BK1188
    go_wp2
    go_meet
    case rel => exact ⟨_, (x1189004_1), rs, H', ⟨by have := HK1.out; first | omega | exact Nat.le_refl _⟩, ⟨by (with_reducible repeat (first | apply Kd.R_alloc | apply Kd.R_drewN | apply Kd.R_drew)); exact HO_4.out⟩, ⟨by (with_reducible repeat (first | refine blk_drewN ?_ _ | refine blk_drew ?_ | refine blk_alloc ?_ _)); exact BK1187.out⟩, ⟨by (with_reducible repeat (first | refine blk_drewN ?_ _ | refine blk_drew ?_ | refine blk_alloc ?_ _)); exact BK1188.out⟩, ⟨u100HB⟩⟩
   case rest =>
    clear HC36
    try clear c1
    try clear p1
    try clear q1
    try clear hx1
    try clear c2
    try clear p2
    try clear c3
    try clear c4
    try clear c5
    try clear p6
    try clear c8
    try clear c8b0
    try clear c9
    try clear c9b0
    try clear c10
    try clear p11
    try clear q11
    try clear hx11
    try clear c12
    try clear c12b0
    try clear c12b1
    try clear c13
    try clear c16
    try clear c18
    try clear c18b0
    try clear c18b1
    try clear c22
    try clear c24
    try clear c24b0
    try clear c24b1
    try clear c28
    try clear c30
    try clear c30b0
    try clear c30b1
    try clear c34
    try clear c40
    try clear c41
    try clear z17_0
    try clear z17_1
    try clear z17_2
    try clear z17_3
    try clear z17_4
    try clear z17_5
    try clear z23_0
    try clear z23_1
    try clear z23_2
    try clear z23_3
    try clear z23_4
    try clear z23_5
    try clear z29_0
    try clear z29_1
    try clear z29_2
    try clear z29_3
    try clear z29_4
    try clear z29_5
    try clear z35_0
    try clear z35_1
    try clear z35_2
    try clear z35_3
    try clear z35_4
    try clear z35_5
    try clear z42_0
    try clear z42_1
    try clear z42_2
    try clear z42_3
    try clear z42_4
    try clear z42_5
    try clear z6_0
    try clear z6_1
    try clear z6_2
    try clear z6_3
    try clear z6_4
    try clear z6_5
    try clear y17_0
    try clear y17_1
    try clear y17_2
    try clear y17_3
    try clear y17_4
    try clear y17_5
    try clear y23_0
    try clear y23_1
    try clear y23_2
    try clear y23_3
    try clear y23_4
    try clear y23_5
    try clear y29_0
    try clear y29_1
    try clear y29_2
    try clear y29_3
    try clear y29_4
    try clear y29_5
    try clear y35_0
    try clear y35_1
    try clear y35_2
    try clear y35_3
    try clear y35_4
    try clear y35_5
    try clear y42_0
    try clear y42_1
    try clear y42_2
    try clear y42_3
    try clear y42_4
    try clear y42_5
    try clear y6_0
    try clear y6_1
    try clear y6_2
    try clear y6_3
    try clear y6_4
    try clear y6_5
    try clear hx1192_0
    try clear p1192
    try clear p2
    try clear q1192
    obtain ⟨kq, x44_35, rfl, HA, HJ35, HO_4, BK1187, BK1188, HB⟩ := hcut
    cases kq with
    | zero => exact absurd HA.out (by simp [spec_CcRead.j1])
    | succ kj35 =>
     have H := HA.out
     clear HA
     simp only [spec_CcRead.j1] at H
     by_cases c43 : x44_35 = true
     rotate_left
     ·replace c43 := Bool.eq_false_iff.mpr c43
      subst c43
      rw [if_neg (show ¬ (false = true) by decide)] at H
      by_cases c47 : t1195 = true
      rotate_left
      ·replace c47 := Bool.eq_false_iff.mpr c47
       subst c47
       rw [if_neg (show ¬ (false = true) by decide)] at H
       have H' := am H
       clear H
       go_wp2
       go_roundg kj35
       case measure => have := HK1.out; have := HJ35.out; omega
       case rel => exact ⟨(wrap64 (x5_1 + 1)), (x1189000_1), (x1189001_1), (x1189002_1), (x1189003_1), (x1189004_1), (x1189005_1), rs, H', ⟨by have := HK1.out; have := HJ35.out; omega⟩, ⟨by (with_reducible repeat (first | apply Kd.R_alloc | apply Kd.R_drewN | apply Kd.R_drew)); exact HO_4.out⟩, ⟨by (with_reducible repeat (first | refine blk_drewN ?_ _ | refine blk_drew ?_ | refine blk_alloc ?_ _)); exact BK1187.out⟩, ⟨by (with_reducible repeat (first | refine blk_drewN ?_ _ | refine blk_drew ?_ | refine blk_alloc ?_ _)); exact BK1188.out⟩, ⟨u100HB⟩⟩
      subst c47
      rw [if_pos rfl] at H
      have H' := am H
      clear H
      have hnb48 := NB1188_1187.out
      have hnc48 := NB1187_1188.out
      obtain ⟨z49_0, y49_0, z49_1, y49_1, z49_2, y49_2, z49_3, y49_3, z49_4, y49_4, z49_5, y49_5⟩ := cl6 BK1188
      go_wp2
      go_roundg kj35
      case measure => have := HK1.out; have := HJ35.out; omega
      case rel => exact ⟨(wrap64 (x5_1 + 1)), (x1189000_1), (x1189001_1), (x1189002_1), (x1189003_1), (true), (t1194), rs, H', ⟨by have := HK1.out; have := HJ35.out; omega⟩, ⟨rg (Kd.R_types HO_4.out BK1188.out (by decide))⟩, ⟨by (with_reducible repeat (first | refine blk_drewN ?_ _ | refine blk_drew ?_ | refine blk_alloc ?_ _)); refine blk_far ?_ NB1187_1188.out _; (with_reducible repeat (first | refine blk_drewN ?_ _ | refine blk_drew ?_ | refine blk_alloc ?_ _)); refine blk_far ?_ NB1187_1188.out _; (with_reducible repeat (first | refine blk_drewN ?_ _ | refine blk_drew ?_ | refine blk_alloc ?_ _)); exact BK1187.out⟩, ⟨pt0 BK1188⟩, ⟨u100HB⟩⟩
     subst c43
     rw [if_pos rfl] at H
     revert H
     refine ok1 fun t1196 A44 H => ?_
     have H' := am H
     clear H
     have hnb45 := NB1188_1187.out
     have hnc45 := NB1187_1188.out
     obtain ⟨z46_0, y46_0, z46_1, y46_1, z46_2, y46_2, z46_3, y46_3, z46_4, y46_4, z46_5, y46_5⟩ := cl6 BK1188
     go_wp2_with (first | (refine gl 53 Tryd.func134 #[.int .i64 x1189005_1, .int .i64 t1194] ?_; (with_reducible refine (spec_l1Min.calls x1189005_1 t1194 t1196 _ A44.out).mono ?_); rintro e w' ⟨rfl, ⟨nd, rfl⟩⟩; refine ⟨_, rfl, ?_⟩; (try (rw [drewN_self wc]; generalize hq_ : World.drewN wc _ = wc; have n0_ : Aside0 (Kd.R Kd.string 9 wc w.heap.size (fun _ => True) (.slice (some ad1192) t1189.length co37) t1189) := ⟨by rw [← hq_]; exact (ro HO_4)⟩; have n1_ : Aside0 (wc.heap[gb1187]? = some (.cells #[.bool false, .bool false, .bool false, .bool false, .bool false, .int .i64 0] 72 (0, 0))) := ⟨by rw [← hq_]; exact (bk BK1187)⟩; have n2_ : Aside0 (wc.heap[gb1188]? = some (.cells #[.bool x1189000_1, .bool x1189001_1, .bool x1189002_1, .bool x1189003_1, .bool x1189004_1, .int .i64 x1189005_1] 72 (0, 0))) := ⟨by rw [← hq_]; exact (bk BK1188)⟩; have n3_ : Aside0 (Below w.heap.size w wc) := ⟨by rw [← hq_]; exact bl⟩; clear HO_4 BK1187 BK1188 HB hq_; have HO_4 := n0_; have BK1187 := n1_; have BK1188 := n2_; have HB := n3_; clear n0_ n1_ n2_ n3_; obtain ⟨z46_0, y46_0, z46_1, y46_1, z46_2, y46_2, z46_3, y46_3, z46_4, y46_4, z46_5, y46_5⟩ := cl6 BK1188))))
     go_roundg kj35
     case measure => have := HK1.out; have := HJ35.out; omega
     case rel => exact ⟨(wrap64 (x5_1 + 1)), (x1189000_1), (x1189001_1), (x1189002_1), (x1189003_1), (x1189004_1), (t1196), rs, H', ⟨by have := HK1.out; have := HJ35.out; omega⟩, ⟨rg (Kd.R_types HO_4.out BK1188.out (by decide))⟩, ⟨by (with_reducible repeat (first | refine blk_drewN ?_ _ | refine blk_drew ?_ | refine blk_alloc ?_ _)); refine blk_far ?_ NB1187_1188.out _; (with_reducible repeat (first | refine blk_drewN ?_ _ | refine blk_drew ?_ | refine blk_alloc ?_ _)); exact BK1187.out⟩, ⟨pt0 BK1188⟩, ⟨u100HB⟩⟩

/-! ### spec_CcOf: function 42 -/
def spec_CcOf.f (k : Nat) (l0 : List (S84)) : Option (Bool × Bool × Bool × Bool × Bool × Int) := (spec_Get.f k l0 (⟨#[99, 97, 99, 104, 101, 45, 99, 111, 110, 116, 114, 111, 108]⟩ : ByteArray)).bind fun bt1198 => ((spec_CcRead.f k bt1198.1).bind fun bt1200 => (some (bt1200.1, bt1200.2.1, bt1200.2.2.1, bt1200.2.2.2.1, bt1200.2.2.2.2.1, bt1200.2.2.2.2.2)))
theorem spec_CcOf.mono : ∀ a0 k, LeO (spec_CcOf.f k a0) (spec_CcOf.f (k + 1) a0) := by
 intro a0 k
 unfold spec_CcOf.f
 have m0 := @spec_CcRead.mono
 have m1 := @spec_Get.mono
 exact mo
set_option maxHeartbeats 8000000 in
set_option maxRecDepth 100000 in
theorem spec_CcOf.calls (k : Nat) (A0 : Option Addr) (c0 : Nat) (l0 : List (S84)) (r1 : Bool) (r2 : Bool) (r3 : Bool) (r4 : Bool) (r5 : Bool) (r6 : Int) (w : World) (hr0 : Kd.C k84 w A0 l0.length l0) (hc0 : l0.length ≤ c0) (h : spec_CcOf.f k l0 = some (r1, r2, r3, r4, r5, r6)) :
  Calls Tryd.prog 42 #[.slice A0 l0.length c0] w fun e w' => e = .returned (.agg #[.bool r1, .bool r2, .bool r3, .bool r4, .bool r5, .int .i64 r6]) ∧ Below w.heap.size w w' := by
 have hu72 := Tryd.underlying72
 have HR0 := am hr0
 have HC0 := am hc0
 clear hr0 hc0
 have HB := am (Below.refl w.heap.size w)
 unfold spec_CcOf.f at h
 have H := h
 clear h
 revert H
 refine ok2 fun t1198 t1199 A2 H => ?_
 (try dsimp only at H)
 revert H
 refine ok6 fun t1200 t1201 t1202 t1203 t1204 t1205 A3 H => ?_
 (try dsimp only at H)
 simp only [Option.some.injEq, Prod.mk.injEq] at H
 obtain ⟨rfl, rfl, rfl, rfl, rfl, rfl⟩ := H
 go_enter Tryd.func42, Tryd.ntmps42
 go_wp2_with (first | (refine bx 2 #[.bool false, .bool false, .bool false, .bool false, .bool false, .int .i64 0] 72 ?_; intro gb1197 hg w4 hbox hb; have BK1197 := am (hbox); have GW1197 := am (sz hg : w.heap.size ≤ gb1197); have GE1197 := am (sz hg : w.heap.size ≤ gb1197); replace HB := am (below_step bl hb); clear hb hbox hg) | (refine gl 7 Tryd.func55 #[.slice A0 l0.length c0, .string (⟨#[99, 97, 99, 104, 101, 45, 99, 111, 110, 116, 114, 111, 108]⟩ : ByteArray)] ?_; (with_reducible refine (spec_Get.calls k _ _ l0 (⟨#[99, 97, 99, 104, 101, 45, 99, 111, 110, 116, 114, 111, 108]⟩ : ByteArray) t1198 t1199 _ ?side1 ?side2 A2.out).mono ?_); (case side1 => exact cb HR0); (case side2 => exact HC0.out); rintro e w' ⟨rfl, ⟨nd, rfl⟩⟩; refine ⟨_, rfl, ?_⟩; (try (rw [drewN_self w4]; generalize hq_ : World.drewN w4 _ = w4; have n0_ : Aside0 (w4.heap[gb1197]? = some (.cells #[.bool false, .bool false, .bool false, .bool false, .bool false, .int .i64 0] 72 (0, 0))) := ⟨by rw [← hq_]; exact (bk BK1197)⟩; have n1_ : Aside0 (Below w.heap.size w w4) := ⟨by rw [← hq_]; exact bl⟩; clear BK1197 HB hq_; have BK1197 := n0_; have HB := n1_; clear n0_ n1_))) | (refine gl 11 Tryd.func100 #[.string t1198] ?_; (with_reducible refine (spec_CcRead.calls k t1198 t1200 t1201 t1202 t1203 t1204 t1205 _ A3.out).mono ?_); rintro e w5 ⟨rfl, hb⟩; refine ⟨_, rfl, ?_⟩; replace BK1197 := kb BK1197 hb; replace HB := am (below_step bl hb); clear hb; obtain ⟨z6_0, y6_0, z6_1, y6_1, z6_2, y6_2, z6_3, y6_3, z6_4, y6_4, z6_5, y6_5⟩ := cl6 BK1197))
 refine bodyPost_ret (results_cell_row rfl _ _ gb1197 72 #[.bool t1200, .bool t1201, .bool t1202, .bool t1203, .bool t1204, .int .i64 t1205] (0, 0) _ rfl (pt0 BK1197) Tryd.underlying72 rfl (by kernel_rfl)) rfl ?_
 exact ⟨rf, bl⟩

/-! ### stringslite_CutPrefix: function 167 -/
def stringslite_CutPrefix.f (a0 : ByteArray) (a1 : ByteArray) : Option (ByteArray × Bool) := (stringslite_HasPrefix.f a0 a1).bind fun t1206 => (if t1206 = true then (if 0 ≤ (a1.size : Int) then (if (a1.size : Int) ≤ (a0.size : Int) then (some (a0.extract ((a1.size : Int) : Int).toNat a0.size, true)) else (none)) else (none)) else (some (a0, false)))
set_option maxHeartbeats 8000000 in
set_option maxRecDepth 100000 in
theorem stringslite_CutPrefix.calls (a0 : ByteArray) (a1 : ByteArray) (r1 : ByteArray) (r2 : Bool) (w : World) (h : stringslite_CutPrefix.f a0 a1 = some (r1, r2)) :
  Calls Tryd.prog 167 #[.string a0, .string a1] w fun e w' => e = .returned (.tuple #[.string r1, .bool r2]) ∧ Drawn0 w w' := by
 unfold stringslite_CutPrefix.f at h
 have H := h
 clear h
 revert H
 refine ok1 fun t1206 A3 H => ?_
 by_cases c4 : t1206 = true
 rotate_left
 ·replace c4 := Bool.eq_false_iff.mpr c4
  subst c4
  rw [if_neg (show ¬ (false = true) by decide)] at H
  simp only [Option.some.injEq, Prod.mk.injEq] at H
  obtain ⟨rfl, rfl⟩ := H
  go_enter Tryd.func167, Tryd.ntmps167
  go_wp2_with (first | (refine gl 8 Tryd.func145 #[.string a0, .string a1] ?_; (with_reducible refine (stringslite_HasPrefix.calls a0 a1 false _ A3.out).mono ?_); rintro e w' ⟨rfl, ⟨nd, rfl⟩⟩; refine ⟨_, rfl, ?_⟩))
  go_ret2
  exact ⟨rs, dr⟩
 subst c4
 rw [if_pos rfl] at H
 revert H
 refine ifn fun c5 H => ?_
 have c5b0 := eq_true c5
 have c5b1 := decide_eq_true c5
 clear c5
 revert H
 refine ifn fun c6 H => ?_
 have c6b0 := eq_true c6
 have c6b1 := decide_eq_true c6
 clear c6
 simp only [Option.some.injEq, Prod.mk.injEq] at H
 obtain ⟨rfl, rfl⟩ := H
 go_enter Tryd.func167, Tryd.ntmps167
 go_wp2_with (first | (refine gl 8 Tryd.func145 #[.string a0, .string a1] ?_; (with_reducible refine (stringslite_HasPrefix.calls a0 a1 true _ A3.out).mono ?_); rintro e w' ⟨rfl, ⟨nd, rfl⟩⟩; refine ⟨_, rfl, ?_⟩))
 go_ret2
 exact ⟨rs, dr⟩

/-! ### strings_CutPrefix: function 151 -/
def strings_CutPrefix.f (a0 : ByteArray) (a1 : ByteArray) : Option (ByteArray × Bool) := (stringslite_CutPrefix.f a0 a1).bind fun bt1207 => (some (bt1207.1, bt1207.2))
set_option maxHeartbeats 8000000 in
set_option maxRecDepth 100000 in
theorem strings_CutPrefix.calls (a0 : ByteArray) (a1 : ByteArray) (r1 : ByteArray) (r2 : Bool) (w : World) (h : strings_CutPrefix.f a0 a1 = some (r1, r2)) :
  Calls Tryd.prog 151 #[.string a0, .string a1] w fun e w' => e = .returned (.tuple #[.string r1, .bool r2]) ∧ Drawn0 w w' := by
 unfold strings_CutPrefix.f at h
 have H := h
 clear h
 revert H
 refine ok2 fun t1207 t1208 A3 H => ?_
 (try dsimp only at H)
 simp only [Option.some.injEq, Prod.mk.injEq] at H
 obtain ⟨rfl, rfl⟩ := H
 go_enter Tryd.func151, Tryd.ntmps151
 go_wp2_with (first | (refine gl 8 Tryd.func167 #[.string a0, .string a1] ?_; (with_reducible refine (stringslite_CutPrefix.calls a0 a1 t1207 t1208 _ A3.out).mono ?_); rintro e w' ⟨rfl, ⟨nd, rfl⟩⟩; refine ⟨_, rfl, ?_⟩))
 go_ret2
 exact ⟨rs, dr⟩

/-! ### NumRead: strconv.Atoi there, strconv.Itoa back -/
def numRead (s : ByteArray) : Int × Bool :=
 if 7 < s.size then (0, false)
 else match Lib.atoiAll s.data.toList with
  | .ok n => if 0 ≤ n ∧ n ≤ 1000000 ∧ Lib.itoa n = s.data.toList then (n, true) else (0, false)
  | _ => (0, false)
def impl_NumRead.f (a0 : ByteArray) : Option (Int × Bool) := some (numRead a0)
set_option maxHeartbeats 4000000 in
theorem impl_NumRead.calls (a0 : ByteArray) (r1 : Int) (r2 : Bool) (w : World) (hGE : GLOBE w) (hGT : GLOBT w) (h : impl_NumRead.f a0 = some (r1, r2)) :
  Calls Tryd.prog 152 #[.string a0] w fun e w' => e = .returned (.tuple #[.int .i64 r1, .bool r2]) ∧ Below w.heap.size w w' := by
 obtain rfl : (numRead a0).1 = r1 := by rw [Option.some.inj h]
 obtain rfl : (numRead a0).2 = r2 := by rw [Option.some.inj h]
 clear h
 have HGE := am hGE
 have HGT := am hGT
 clear hGE hGT
 have HB := am (Below.refl w.heap.size w)
 by_cases c : 7 < a0.size
 ·have c0 : decide ((a0.size : Int) > 7) = true := decide_eq_true (by omega)
  go_enter Tryd.func152, Tryd.ntmps152
  go_wp2
  go_ret2
  exact ⟨by unfold numRead; rw [if_pos c]; rfl, HB.out⟩
 have c0 : decide ((a0.size : Int) > 7) = false := decide_eq_false (by omega)
 have hmax : a0.size ≤ 9223372036854775806 := by omega
 have hlim : a0.size ≤ 281474976710656 := by omega
 cases hA : Lib.atoiAll a0.data.toList with
 | ok n =>
  have HA := am hA
  clear hA
  go_enter Tryd.func152, Tryd.ntmps152
  by_cases c1 : 0 ≤ n ∧ n ≤ 1000000
  rotate_left
  ·have c1' : impl_inRange.f n 0 1000000 = some false := by
    unfold impl_inRange.f
    by_cases h : n ≥ 0
    ·rw [if_pos h, decide_eq_false (fun e => c1 ⟨h, e⟩)]
    ·rw [if_neg h]
   go_wp2_with (first | (go_at_call 168; refine (Tryd.strconv_Atoi_ok a0 hmax n HA.out _).mono ?_; rintro e w1 ⟨rfl, hb⟩; have HB1 : Aside0 (Below w.heap.size w w1) := ⟨by rcases hb with rfl | ⟨t, rfl⟩ <;> first | exact Below.refl _ _ | exact Lib.bytesWorld_below _ _ _⟩; clear hb) | (go_at_call 60; refine (impl_inRange.calls n 0 1000000 false _ c1').mono ?_; rintro e w2 ⟨rfl, ⟨nd, rfl⟩⟩))
   go_ret2
   exact ⟨by unfold numRead; rw [if_neg c, HA.out]; simp only; rw [if_neg (fun e => c1 ⟨e.1, e.2.1⟩)]; rfl, by repeat (first | (with_reducible first | exact HB1.out | apply below_alloc | apply pw_below_drewN | apply below_drew1) | exact HB1.out)⟩
  by_cases c2 : Lib.itoa n = a0.data.toList
  ·have e2 : (Lib.itoa n == a0.toList) = true := by rw [ByteArray.toList_eq, c2]; simp
   have e3 : (!(Lib.itoa n == a0.toList)) = false := by rw [e2]; rfl
   go_wp2_with (first | (go_at_call 168; refine (Tryd.strconv_Atoi_ok a0 hmax n HA.out _).mono ?_; rintro e w1 ⟨rfl, hb⟩; have HB1 : Aside0 (Below w.heap.size w w1) := ⟨by rcases hb with rfl | ⟨t, rfl⟩ <;> first | exact Below.refl _ _ | exact Lib.bytesWorld_below _ _ _⟩; clear hb) | (go_at_call 60; refine (impl_inRange.calls n 0 1000000 true _ (by unfold impl_inRange.f; rw [if_pos c1.1, decide_eq_true c1.2])).mono ?_; rintro e w2 ⟨rfl, ⟨nd, rfl⟩⟩) | (go_at_call 119; refine (strconv_Itoa.calls n ⟨(Lib.itoa n).toArray⟩ _ ?hg (by unfold strconv_Itoa.f; rw [if_pos (by omega)])).mono ?_; (case hg => exact GLOBT.below HGT.out (pw_below_drewN HB1.out _)); rintro e w3 ⟨rfl, hb3⟩; have HB3 := am (below_step (pw_below_drewN HB1.out _) hb3); clear hb3))
   go_ret2
   exact ⟨by unfold numRead; rw [if_neg c, HA.out]; simp only; rw [if_pos ⟨c1.1, c1.2, c2⟩]; rfl, by repeat (first | (with_reducible first | exact HB3.out | apply below_alloc | apply pw_below_drewN | apply below_drew1) | exact HB3.out)⟩
  have e2 : (Lib.itoa n == a0.toList) = false := by rw [ByteArray.toList_eq, beq_eq_false_iff_ne]; exact c2
  have e3 : (!(Lib.itoa n == a0.toList)) = true := by rw [e2]; rfl
  go_wp2_with (first | (go_at_call 168; refine (Tryd.strconv_Atoi_ok a0 hmax n HA.out _).mono ?_; rintro e w1 ⟨rfl, hb⟩; have HB1 : Aside0 (Below w.heap.size w w1) := ⟨by rcases hb with rfl | ⟨t, rfl⟩ <;> first | exact Below.refl _ _ | exact Lib.bytesWorld_below _ _ _⟩; clear hb) | (go_at_call 60; refine (impl_inRange.calls n 0 1000000 true _ (by unfold impl_inRange.f; rw [if_pos c1.1, decide_eq_true c1.2])).mono ?_; rintro e w2 ⟨rfl, ⟨nd, rfl⟩⟩) | (go_at_call 119; refine (strconv_Itoa.calls n ⟨(Lib.itoa n).toArray⟩ _ ?hg (by unfold strconv_Itoa.f; rw [if_pos (by omega)])).mono ?_; (case hg => exact GLOBT.below HGT.out (pw_below_drewN HB1.out _)); rintro e w3 ⟨rfl, hb3⟩; have HB3 := am (below_step (pw_below_drewN HB1.out _) hb3); clear hb3))
  go_ret2
  exact ⟨by unfold numRead; rw [if_neg c, HA.out]; simp only; rw [if_neg (fun e => c2 e.2.2)]; rfl, by repeat (first | (with_reducible first | exact HB3.out | apply below_alloc | apply pw_below_drewN | apply below_drew1) | exact HB3.out)⟩
 | range =>
  have HA := am hA
  clear hA
  obtain ⟨_, ⟨tp, pv, hv⟩⟩ := HGE.out
  go_enter Tryd.func152, Tryd.ntmps152
  go_wp2_with (first | (go_at_call 168; refine (Tryd.strconv_Atoi_range_var a0 hlim HA.out tp pv _ hv).mono ?_; rintro e w1 ⟨N, rfl, _, _, hb⟩; have HB1 := am hb; clear hb))
  go_ret2
  exact ⟨by unfold numRead; rw [if_neg c, HA.out]; rfl, by repeat (first | (with_reducible first | exact HB1.out | apply below_alloc | apply pw_below_drewN | apply below_drew1) | exact HB1.out)⟩
 | _ =>
  have HA := am hA
  clear hA
  obtain ⟨⟨tp, pv, hv⟩, _⟩ := HGE.out
  go_enter Tryd.func152, Tryd.ntmps152
  go_wp2_with (first | (go_at_call 168; refine (Tryd.strconv_Atoi_syntax_var a0 hlim HA.out tp pv _ hv).mono ?_; rintro e w1 ⟨N, rfl, _, _, hb⟩; have HB1 := am hb; clear hb))
  go_ret2
  exact ⟨by unfold numRead; rw [if_neg c, HA.out]; rfl, by repeat (first | (with_reducible first | exact HB1.out | apply below_alloc | apply pw_below_drewN | apply below_drew1) | exact HB1.out)⟩

/-! #### words -/
/-- A state of type 72 at block g of W; what its slices lead to came in by w0. -/
def IsS72 (w0 W : World) (g : Nat) (f0 : Bool) (f1 : Bool) (f2 : Bool) (f3 : Bool) (f4 : Bool) (f5 : Int) : Prop := W.heap[g]? = some (.cells #[.bool f0, .bool f1, .bool f2, .bool f3, .bool f4, .int .i64 f5] 72 (0, 0)) ∧ w0.heap.size ≤ g
theorem IsS72.grown {w0 W : World} {g : Nat} {f0 : Bool} {f1 : Bool} {f2 : Bool} {f3 : Bool} {f4 : Bool} {f5 : Int} {W1 : World} {row : Option Nat} (h : IsS72 w0 W g f0 f1 f2 f3 f4 f5) (hw : W.grownBy W1 row) (hne : some g ≠ row) : IsS72 w0 W1 g f0 f1 f2 f3 f4 f5 := by
 obtain ⟨hb, hg⟩ := h
 exact ⟨blk_grown hb hw hne, hg⟩
theorem IsS72.own_neN {w0 W : World} {g : Nat} {f0 : Bool} {f1 : Bool} {f2 : Bool} {f3 : Bool} {f4 : Bool} {f5 : Int} {α : Type} {d : Kd α} {e : Nat} {base : Nat} {ok : Nat → Prop} {v : Value} {xs : List α} (h : IsS72 w0 W g f0 f1 f2 f3 f4 f5) (ho : Kd.N d e W base ok v xs) (ht : e ≠ 72) : some g ≠ v.ownBlock := by
 obtain ⟨hb, hg⟩ := h
 exact Kd.N_ne ho hb ht
theorem IsS72.fresh {w0 W : World} {g : Nat} {f0 : Bool} {f1 : Bool} {f2 : Bool} {f3 : Bool} {f4 : Bool} {f5 : Int} (h : IsS72 w0 W g f0 f1 f2 f3 f4 f5) : ∀ k, W.heap.size ≤ k → k ≠ g := by
 obtain ⟨hb, hg⟩ := h
 exact Kd.freshB hb
theorem IsS72.kept {w0 W : World} {g : Nat} {f0 : Bool} {f1 : Bool} {f2 : Bool} {f3 : Bool} {f4 : Bool} {f5 : Int} {W1 : World} {S : Nat → Prop} (h : IsS72 w0 W g f0 f1 f2 f3 f4 f5) (hk : Kept W W1 S) (hne : ¬ S g) : IsS72 w0 W1 g f0 f1 f2 f3 f4 f5 := by
 obtain ⟨hb, hg⟩ := h
 exact ⟨blk_kept hb hk hne, hg⟩
theorem IsS72.below {w0 W : World} {g : Nat} {f0 : Bool} {f1 : Bool} {f2 : Bool} {f3 : Bool} {f4 : Bool} {f5 : Int} {W1 : World} (h : IsS72 w0 W g f0 f1 f2 f3 f4 f5) (hw : Below W.heap.size W W1) : IsS72 w0 W1 g f0 f1 f2 f3 f4 f5 := h.grown (grown_of_below hw none) (by simp)
theorem IsS72.alloc {w0 W : World} {g : Nat} {f0 : Bool} {f1 : Bool} {f2 : Bool} {f3 : Bool} {f4 : Bool} {f5 : Int} (h : IsS72 w0 W g f0 f1 f2 f3 f4 f5) (o : Obj) : IsS72 w0 (W.alloc o) g f0 f1 f2 f3 f4 f5 := h.below (below_alloc (Below.refl _ _) o)
theorem IsS72.drewN {w0 W : World} {g : Nat} {f0 : Bool} {f1 : Bool} {f2 : Bool} {f3 : Bool} {f4 : Bool} {f5 : Int} (h : IsS72 w0 W g f0 f1 f2 f3 f4 f5) (m : Nat) : IsS72 w0 (W.drewN m) g f0 f1 f2 f3 f4 f5 := h
theorem IsS72.drew {w0 W : World} {g : Nat} {f0 : Bool} {f1 : Bool} {f2 : Bool} {f3 : Bool} {f4 : Bool} {f5 : Int} (h : IsS72 w0 W g f0 f1 f2 f3 f4 f5) : IsS72 w0 W.drew g f0 f1 f2 f3 f4 f5 := h
theorem IsS72.at_ {w0 W : World} {g : Nat} {f0 : Bool} {f1 : Bool} {f2 : Bool} {f3 : Bool} {f4 : Bool} {f5 : Int} {w' : World} {m : Nat} (hq : W.drewN m = w') (h : IsS72 w0 W g f0 f1 f2 f3 f4 f5) : IsS72 w0 w' g f0 f1 f2 f3 f4 f5 := by subst hq; exact IsS72.drewN h m
theorem IsS72.apart {w0 W : World} {g : Nat} {f0 : Bool} {f1 : Bool} {f2 : Bool} {f3 : Bool} {f4 : Bool} {f5 : Int} {α : Type} {d : Kd α} {e : Nat} {base : Nat} {ok : Nat → Prop} {v : Value} {xs : List α} (h : IsS72 w0 W g f0 f1 f2 f3 f4 f5) (ho : d.R e W base ok v xs) (ht : ∀ q, q ∈ e :: d.E → q ≠ 72) : d.R e W base (fun k => ok k ∧ k ≠ g) v xs := by
 obtain ⟨hb, hg⟩ := h
 exact Kd.R_types ho hb ht
theorem IsS72.own_ne {w0 W : World} {g : Nat} {f0 : Bool} {f1 : Bool} {f2 : Bool} {f3 : Bool} {f4 : Bool} {f5 : Int} {α : Type} {d : Kd α} {e : Nat} {base : Nat} {ok : Nat → Prop} {v : Value} {xs : List α} (h : IsS72 w0 W g f0 f1 f2 f3 f4 f5) (ho : d.R e W base ok v xs) (ht : e ≠ 72) : some g ≠ v.ownBlock := by
 obtain ⟨hb, hg⟩ := h
 exact Kd.R_ne ho hb ht
theorem IsS72.apartQ {w0 W : World} {g : Nat} {f0 : Bool} {f1 : Bool} {f2 : Bool} {f3 : Bool} {f4 : Bool} {f5 : Int} {α : Type} {d : Kd α} {e : Nat} {base : Nat} {ok : Nat → Prop} {v : Value} {xs : List α} (h : IsS72 w0 W g f0 f1 f2 f3 f4 f5) (ho : d.Q e W base ok v xs) (ht : ∀ q, q ∈ e :: d.E → q ≠ 72) : d.Q e W base (fun k => ok k ∧ k ≠ g) v xs := by
 obtain ⟨hb, hg⟩ := h
 exact Kd.Q_types ho hb ht
theorem IsS72.own_neQ {w0 W : World} {g : Nat} {f0 : Bool} {f1 : Bool} {f2 : Bool} {f3 : Bool} {f4 : Bool} {f5 : Int} {α : Type} {d : Kd α} {e : Nat} {base : Nat} {ok : Nat → Prop} {v : Value} {xs : List α} (h : IsS72 w0 W g f0 f1 f2 f3 f4 f5) (ho : d.Q e W base ok v xs) (ht : e ≠ 72) : some g ≠ v.ownBlock := by
 obtain ⟨hb, hg⟩ := h
 exact Kd.Q_ne ho hb ht
theorem IsS72.apartS {w0 W : World} {g : Nat} {f0 : Bool} {f1 : Bool} {f2 : Bool} {f3 : Bool} {f4 : Bool} {f5 : Int} {α : Type} {d : Kd α} {e : Nat} {base : Nat} {ok : Nat → Prop} {v : Value} {xs : List α} (h : IsS72 w0 W g f0 f1 f2 f3 f4 f5) (ho : d.S e W base ok v xs) (ht : ∀ q, q ∈ e :: d.E → q ≠ 72) : d.S e W base (fun k => ok k ∧ k ≠ g) v xs := by
 obtain ⟨hb, hg⟩ := h
 exact Kd.S_types ho hb ht
theorem IsS72.own_neS {w0 W : World} {g : Nat} {f0 : Bool} {f1 : Bool} {f2 : Bool} {f3 : Bool} {f4 : Bool} {f5 : Int} {α : Type} {d : Kd α} {e : Nat} {base : Nat} {ok : Nat → Prop} {v : Value} {xs : List α} (h : IsS72 w0 W g f0 f1 f2 f3 f4 f5) (ho : d.S e W base ok v xs) (ht : e ≠ 72) : some g ≠ v.ownBlock := by
 obtain ⟨hb, hg⟩ := h
 exact Kd.S_ne ho hb ht
theorem IsS72.lt {w0 W : World} {g : Nat} {f0 : Bool} {f1 : Bool} {f2 : Bool} {f3 : Bool} {f4 : Bool} {f5 : Int} (h : IsS72 w0 W g f0 f1 f2 f3 f4 f5) : g < W.heap.size := by
 obtain ⟨hb, hg⟩ := h
 exact blk_lt hb
theorem IsS72.ge {w0 W : World} {g : Nat} {f0 : Bool} {f1 : Bool} {f2 : Bool} {f3 : Bool} {f4 : Bool} {f5 : Int} (h : IsS72 w0 W g f0 f1 f2 f3 f4 f5) : w0.heap.size ≤ g := by
 obtain ⟨hb, hg⟩ := h
 exact hg
theorem IsS72.ne_blk {w0 W : World} {g : Nat} {f0 : Bool} {f1 : Bool} {f2 : Bool} {f3 : Bool} {f4 : Bool} {f5 : Int} {a : Nat} {cs : Array Value} {t : TypeId} {fr : Nat × Nat} (h : IsS72 w0 W g f0 f1 f2 f3 f4 f5) (hb2 : W.heap[a]? = some (.cells cs t fr)) (ht : t ≠ 72) : g ≠ a := by
 obtain ⟨hb, hg⟩ := h
 rintro rfl
 rw [hb] at hb2
 injection hb2 with hb2
 injection hb2 with _ ht2
 exact ht ht2.symm
theorem IsS72.far {w0 W : World} {g : Nat} {f0 : Bool} {f1 : Bool} {f2 : Bool} {f3 : Bool} {f4 : Bool} {f5 : Int} {p : Addr} (h : IsS72 w0 W g f0 f1 f2 f3 f4 f5) (hne : g ≠ p.block) (u : Value) : IsS72 w0 (W.setCell p u) g f0 f1 f2 f3 f4 f5 := by
 obtain ⟨hb, hg⟩ := h
 exact ⟨blk_far hb hne u, hg⟩
theorem cellS72_0 {W : World} {g : Nat} {f0 : Bool} {f1 : Bool} {f2 : Bool} {f3 : Bool} {f4 : Bool} {f5 : Int} (h : W.heap[g]? = some (.cells #[.bool f0, .bool f1, .bool f2, .bool f3, .bool f4, .int .i64 f5] 72 (0, 0))) : W.cell? ⟨g, 0, none⟩ = some (.bool f0) := (blk_cell h 0).trans rfl
theorem IsS72.set_0 {w0 W : World} {g : Nat} {f0 : Bool} {f1 : Bool} {f2 : Bool} {f3 : Bool} {f4 : Bool} {f5 : Int} (h : IsS72 w0 W g f0 f1 f2 f3 f4 f5) (x : Bool) : IsS72 w0 (W.setCell ⟨g, 0, none⟩ (.bool x)) g x f1 f2 f3 f4 f5 := by
 obtain ⟨hb, hg⟩ := h
 exact ⟨by simpa using blk_set hb 0 (.bool x), hg⟩
theorem cellS72_1 {W : World} {g : Nat} {f0 : Bool} {f1 : Bool} {f2 : Bool} {f3 : Bool} {f4 : Bool} {f5 : Int} (h : W.heap[g]? = some (.cells #[.bool f0, .bool f1, .bool f2, .bool f3, .bool f4, .int .i64 f5] 72 (0, 0))) : W.cell? ⟨g, 1, none⟩ = some (.bool f1) := (blk_cell h 1).trans rfl
theorem IsS72.set_1 {w0 W : World} {g : Nat} {f0 : Bool} {f1 : Bool} {f2 : Bool} {f3 : Bool} {f4 : Bool} {f5 : Int} (h : IsS72 w0 W g f0 f1 f2 f3 f4 f5) (x : Bool) : IsS72 w0 (W.setCell ⟨g, 1, none⟩ (.bool x)) g f0 x f2 f3 f4 f5 := by
 obtain ⟨hb, hg⟩ := h
 exact ⟨by simpa using blk_set hb 1 (.bool x), hg⟩
theorem cellS72_2 {W : World} {g : Nat} {f0 : Bool} {f1 : Bool} {f2 : Bool} {f3 : Bool} {f4 : Bool} {f5 : Int} (h : W.heap[g]? = some (.cells #[.bool f0, .bool f1, .bool f2, .bool f3, .bool f4, .int .i64 f5] 72 (0, 0))) : W.cell? ⟨g, 2, none⟩ = some (.bool f2) := (blk_cell h 2).trans rfl
theorem IsS72.set_2 {w0 W : World} {g : Nat} {f0 : Bool} {f1 : Bool} {f2 : Bool} {f3 : Bool} {f4 : Bool} {f5 : Int} (h : IsS72 w0 W g f0 f1 f2 f3 f4 f5) (x : Bool) : IsS72 w0 (W.setCell ⟨g, 2, none⟩ (.bool x)) g f0 f1 x f3 f4 f5 := by
 obtain ⟨hb, hg⟩ := h
 exact ⟨by simpa using blk_set hb 2 (.bool x), hg⟩
theorem cellS72_3 {W : World} {g : Nat} {f0 : Bool} {f1 : Bool} {f2 : Bool} {f3 : Bool} {f4 : Bool} {f5 : Int} (h : W.heap[g]? = some (.cells #[.bool f0, .bool f1, .bool f2, .bool f3, .bool f4, .int .i64 f5] 72 (0, 0))) : W.cell? ⟨g, 3, none⟩ = some (.bool f3) := (blk_cell h 3).trans rfl
theorem IsS72.set_3 {w0 W : World} {g : Nat} {f0 : Bool} {f1 : Bool} {f2 : Bool} {f3 : Bool} {f4 : Bool} {f5 : Int} (h : IsS72 w0 W g f0 f1 f2 f3 f4 f5) (x : Bool) : IsS72 w0 (W.setCell ⟨g, 3, none⟩ (.bool x)) g f0 f1 f2 x f4 f5 := by
 obtain ⟨hb, hg⟩ := h
 exact ⟨by simpa using blk_set hb 3 (.bool x), hg⟩
theorem cellS72_4 {W : World} {g : Nat} {f0 : Bool} {f1 : Bool} {f2 : Bool} {f3 : Bool} {f4 : Bool} {f5 : Int} (h : W.heap[g]? = some (.cells #[.bool f0, .bool f1, .bool f2, .bool f3, .bool f4, .int .i64 f5] 72 (0, 0))) : W.cell? ⟨g, 4, none⟩ = some (.bool f4) := (blk_cell h 4).trans rfl
theorem IsS72.set_4 {w0 W : World} {g : Nat} {f0 : Bool} {f1 : Bool} {f2 : Bool} {f3 : Bool} {f4 : Bool} {f5 : Int} (h : IsS72 w0 W g f0 f1 f2 f3 f4 f5) (x : Bool) : IsS72 w0 (W.setCell ⟨g, 4, none⟩ (.bool x)) g f0 f1 f2 f3 x f5 := by
 obtain ⟨hb, hg⟩ := h
 exact ⟨by simpa using blk_set hb 4 (.bool x), hg⟩
theorem cellS72_5 {W : World} {g : Nat} {f0 : Bool} {f1 : Bool} {f2 : Bool} {f3 : Bool} {f4 : Bool} {f5 : Int} (h : W.heap[g]? = some (.cells #[.bool f0, .bool f1, .bool f2, .bool f3, .bool f4, .int .i64 f5] 72 (0, 0))) : W.cell? ⟨g, 5, none⟩ = some (.int .i64 f5) := (blk_cell h 5).trans rfl
theorem IsS72.set_5 {w0 W : World} {g : Nat} {f0 : Bool} {f1 : Bool} {f2 : Bool} {f3 : Bool} {f4 : Bool} {f5 : Int} (h : IsS72 w0 W g f0 f1 f2 f3 f4 f5) (x : Int) : IsS72 w0 (W.setCell ⟨g, 5, none⟩ (.int .i64 x)) g f0 f1 f2 f3 f4 x := by
 obtain ⟨hb, hg⟩ := h
 exact ⟨by simpa using blk_set hb 5 (.int .i64 x), hg⟩
theorem IsS72.new (w0 W : World) (f0 : Bool) (f1 : Bool) (f2 : Bool) (f3 : Bool) (f4 : Bool) (f5 : Int) (hB : Below w0.heap.size w0 W) : IsS72 w0 (W.alloc (.cells #[.bool f0, .bool f1, .bool f2, .bool f3, .bool f4, .int .i64 f5] 72)) W.heap.size f0 f1 f2 f3 f4 f5 := ⟨by simpa using heap_alloc_new W _, hB.size⟩

/-! ### impl_Cc_word: function 135 -/
theorem u135HI0 {p : Prop} (h : p := by repeat (first | (with_reducible first | exact HI0.out | apply IsS72.alloc | apply IsS72.drewN | apply IsS72.drew | apply IsS72.set_0 | apply IsS72.set_1 | apply IsS72.set_2 | apply IsS72.set_3 | apply IsS72.set_4 | apply IsS72.set_5) | exact HI0.out)) : p := h
theorem u135HK {p : Prop} (h : p := by repeat (first | (with_reducible first | exact HK.out | apply KeepBut.set_ | apply keep_drewN | apply keep_drew | apply keep_alloc) | exact HK.out)) : p := h
theorem u135HB {p : Prop} (h : p := by repeat (first | (with_reducible first | exact HB.out | apply below_alloc | apply pw_below_drewN | apply below_drew1 | refine below_set ?_ (IsS72.ge HI0.out)) | exact HB.out)) : p := h
def impl_Cc_word.j0 : Nat → ByteArray → Bool → Bool → Bool → Bool → Bool → Int → Option (Bool × Bool × Bool × Bool × Bool × Int)
 | 0, _, _, _, _, _, _, _ => none
 | k + 1, x1, x1000, x1001, x1002, x1003, x1004, x1005 => (strings_CutPrefix.f x1 (⟨#[109, 97, 120, 45, 97, 103, 101, 61]⟩ : ByteArray)).bind fun bt1209 => (if bt1209.2 = true then ((impl_NumRead.f bt1209.1).bind fun bt1211 => (if x1004 = true then (some (x1000, x1001, x1002, x1003, true, mn bt1211.1 x1005)) else (some (x1000, x1001, x1002, x1003, true, bt1211.1)))) else (some (x1000, x1001, x1002, x1003, x1004, x1005)))
def impl_Cc_word.f (k : Nat) (s0_0 : Bool) (s0_1 : Bool) (s0_2 : Bool) (s0_3 : Bool) (s0_4 : Bool) (s0_5 : Int) (a1 : ByteArray) : Option (Bool × Bool × Bool × Bool × Bool × Int) := if a1.toList = ([110, 111, 45, 115, 116, 111, 114, 101] : List UInt8) then (impl_Cc_word.j0 k a1 true s0_1 s0_2 s0_3 s0_4 s0_5) else (if a1.toList = ([110, 111, 45, 99, 97, 99, 104, 101] : List UInt8) then (impl_Cc_word.j0 k a1 s0_0 true s0_2 s0_3 s0_4 s0_5) else (if a1.toList = ([112, 114, 105, 118, 97, 116, 101] : List UInt8) then (impl_Cc_word.j0 k a1 s0_0 s0_1 true s0_3 s0_4 s0_5) else (if a1.toList = ([109, 117, 115, 116, 45, 114, 101, 118, 97, 108, 105, 100, 97, 116, 101] : List UInt8) then (impl_Cc_word.j0 k a1 s0_0 s0_1 s0_2 true s0_4 s0_5) else (impl_Cc_word.j0 k a1 s0_0 s0_1 s0_2 s0_3 s0_4 s0_5))))
theorem impl_Cc_word.mono_l : ∀ k, (∀ y0 y1 y2 y3 y4 y5 y6, LeO (impl_Cc_word.j0 k y0 y1 y2 y3 y4 y5 y6) (impl_Cc_word.j0 (k + 1) y0 y1 y2 y3 y4 y5 y6))
 | 0 => fun _ _ _ _ _ _ _ r h => by simp [impl_Cc_word.j0] at h
 | k + 1 => by
  have ih0 := impl_Cc_word.mono_l k
  ·intro y0 y1 y2 y3 y4 y5 y6
   unfold impl_Cc_word.j0
   exact mo
theorem impl_Cc_word.mono : ∀ a0 a1 a2 a3 a4 a5 a6 k, LeO (impl_Cc_word.f k a0 a1 a2 a3 a4 a5 a6) (impl_Cc_word.f (k + 1) a0 a1 a2 a3 a4 a5 a6) := by
 intro a0 a1 a2 a3 a4 a5 a6 k
 have ih0 := impl_Cc_word.mono_l k
 unfold impl_Cc_word.f
 exact mo
set_option maxHeartbeats 8000000 in
set_option maxRecDepth 100000 in
theorem impl_Cc_word.calls (k : Nat) (g : Nat) (s0_0 : Bool) (s0_1 : Bool) (s0_2 : Bool) (s0_3 : Bool) (s0_4 : Bool) (s0_5 : Int) (a1 : ByteArray) (r1 : Bool) (r2 : Bool) (r3 : Bool) (r4 : Bool) (r5 : Bool) (r6 : Int) (w0 w : World) (hGE : GLOBE w0) (hGT : GLOBT w0) (hI : IsS72 w0 w g s0_0 s0_1 s0_2 s0_3 s0_4 s0_5) (hB : Below w0.heap.size w0 w) (h : impl_Cc_word.f k s0_0 s0_1 s0_2 s0_3 s0_4 s0_5 a1 = some (r1, r2, r3, r4, r5, r6)) :
  Calls Tryd.prog 135 #[.pointer (some ⟨g, 0, none⟩), .string a1] w fun e w' => e = .returned (.tuple #[]) ∧ IsS72 w0 w' g r1 r2 r3 r4 r5 r6 ∧ Below w0.heap.size w0 w' ∧ KeepBut w w' g none := by
 have HGE := am hGE
 clear hGE
 have HGT := am hGT
 clear hGT
 have HI0 := am hI
 have HK := am (KeepBut.refl w g none)
 have HL := am hB.size
 clear hI
 have HW0 := am hB.size
 have HB := am hB
 clear hB
 unfold impl_Cc_word.f at h
 have H := h
 clear h
 have HC3 := am H
 clear H
 go_enter Tryd.func135, Tryd.ntmps135
 go_upto_block 0 with (fail)
 go_cut [] (fun wc => ∃ (kq : Nat) (x1000_2 : Bool) (x1001_2 : Bool) (x1002_2 : Bool) (x1003_2 : Bool), Aside0 (impl_Cc_word.j0 kq a1 x1000_2 x1001_2 x1002_2 x1003_2 s0_4 s0_5 = some (r1, r2, r3, r4, r5, r6)) ∧ Aside0 (kq ≤ k) ∧ Aside0 (IsS72 w0 wc g x1000_2 x1001_2 x1002_2 x1003_2 s0_4 s0_5) ∧ Aside0 (KeepBut w wc g none) ∧ Aside0 (Below w0.heap.size w0 wc))
 case first =>
  have H := HC3.out
  clear HC3
  by_cases c4 : a1.toList = ([110, 111, 45, 115, 116, 111, 114, 101] : List UInt8)
  ·rw [if_pos c4] at H
   have c4b0 : (a1.toList == ([110, 111, 45, 115, 116, 111, 114, 101] : List UInt8)) = true := beq_iff_eq.mpr c4
   have c4b1 : (a1.toList != ([110, 111, 45, 115, 116, 111, 114, 101] : List UInt8)) = false := bne_eq_false_iff_eq.mpr c4
   clear c4
   (first | rw [c4b0] | (simp only [i64_w, i32_w]; rw [c4b0]) | skip)
   have H' := am H
   clear H
   obtain ⟨HGz5, hgz5⟩ := HI0.out
   have z5_0 := cellS72_0 HGz5
   have z5_1 := cellS72_1 HGz5
   have z5_2 := cellS72_2 HGz5
   have z5_3 := cellS72_3 HGz5
   have z5_4 := cellS72_4 HGz5
   have z5_5 := cellS72_5 HGz5
   have y5_0 := blk_frozen HGz5 0
   have y5_1 := blk_frozen HGz5 1
   have y5_2 := blk_frozen HGz5 2
   have y5_3 := blk_frozen HGz5 3
   have y5_4 := blk_frozen HGz5 4
   have y5_5 := blk_frozen HGz5 5
   clear HGz5 hgz5
   go_wp2
   go_meet
   case rel => exact ⟨_, (true), (s0_1), (s0_2), (s0_3), H', ⟨by first | omega | exact Nat.le_refl _⟩, ⟨u135HI0⟩, ⟨u135HK⟩, ⟨u135HB⟩⟩
  rw [if_neg c4] at H
  have c4b0 : (a1.toList == ([110, 111, 45, 115, 116, 111, 114, 101] : List UInt8)) = false := beq_eq_false_iff_ne.mpr c4
  have c4b1 : (a1.toList != ([110, 111, 45, 115, 116, 111, 114, 101] : List UInt8)) = true := bne_iff_ne.mpr c4
  (first | rw [c4b0] | (simp only [i64_w, i32_w]; rw [c4b0]) | skip)
  by_cases c6 : a1.toList = ([110, 111, 45, 99, 97, 99, 104, 101] : List UInt8)
  ·rw [if_pos c6] at H
   have c6b0 : (a1.toList == ([110, 111, 45, 99, 97, 99, 104, 101] : List UInt8)) = true := beq_iff_eq.mpr c6
   have c6b1 : (a1.toList != ([110, 111, 45, 99, 97, 99, 104, 101] : List UInt8)) = false := bne_eq_false_iff_eq.mpr c6
   clear c6
   have H' := am H
   clear H
   obtain ⟨HGz7, hgz7⟩ := HI0.out
   have z7_0 := cellS72_0 HGz7
   have z7_1 := cellS72_1 HGz7
   have z7_2 := cellS72_2 HGz7
   have z7_3 := cellS72_3 HGz7
   have z7_4 := cellS72_4 HGz7
   have z7_5 := cellS72_5 HGz7
   have y7_0 := blk_frozen HGz7 0
   have y7_1 := blk_frozen HGz7 1
   have y7_2 := blk_frozen HGz7 2
   have y7_3 := blk_frozen HGz7 3
   have y7_4 := blk_frozen HGz7 4
   have y7_5 := blk_frozen HGz7 5
   clear HGz7 hgz7
   go_wp2
   go_meet
   case rel => exact ⟨_, (s0_0), (true), (s0_2), (s0_3), H', ⟨by first | omega | exact Nat.le_refl _⟩, ⟨u135HI0⟩, ⟨u135HK⟩, ⟨u135HB⟩⟩
  rw [if_neg c6] at H
  have c6b0 : (a1.toList == ([110, 111, 45, 99, 97, 99, 104, 101] : List UInt8)) = false := beq_eq_false_iff_ne.mpr c6
  have c6b1 : (a1.toList != ([110, 111, 45, 99, 97, 99, 104, 101] : List UInt8)) = true := bne_iff_ne.mpr c6
  by_cases c8 : a1.toList = ([112, 114, 105, 118, 97, 116, 101] : List UInt8)
  ·rw [if_pos c8] at H
   have c8b0 : (a1.toList == ([112, 114, 105, 118, 97, 116, 101] : List UInt8)) = true := beq_iff_eq.mpr c8
   have c8b1 : (a1.toList != ([112, 114, 105, 118, 97, 116, 101] : List UInt8)) = false := bne_eq_false_iff_eq.mpr c8
   clear c8
   have H' := am H
   clear H
   obtain ⟨HGz9, hgz9⟩ := HI0.out
   have z9_0 := cellS72_0 HGz9
   have z9_1 := cellS72_1 HGz9
   have z9_2 := cellS72_2 HGz9
   have z9_3 := cellS72_3 HGz9
   have z9_4 := cellS72_4 HGz9
   have z9_5 := cellS72_5 HGz9
   have y9_0 := blk_frozen HGz9 0
   have y9_1 := blk_frozen HGz9 1
   have y9_2 := blk_frozen HGz9 2
   have y9_3 := blk_frozen HGz9 3
   have y9_4 := blk_frozen HGz9 4
   have y9_5 := blk_frozen HGz9 5
   clear HGz9 hgz9
   go_wp2
   go_meet
   case rel => exact ⟨_, (s0_0), (s0_1), (true), (s0_3), H', ⟨by first | omega | exact Nat.le_refl _⟩, ⟨u135HI0⟩, ⟨u135HK⟩, ⟨u135HB⟩⟩
  rw [if_neg c8] at H
  have c8b0 : (a1.toList == ([112, 114, 105, 118, 97, 116, 101] : List UInt8)) = false := beq_eq_false_iff_ne.mpr c8
  have c8b1 : (a1.toList != ([112, 114, 105, 118, 97, 116, 101] : List UInt8)) = true := bne_iff_ne.mpr c8
  by_cases c10 : a1.toList = ([109, 117, 115, 116, 45, 114, 101, 118, 97, 108, 105, 100, 97, 116, 101] : List UInt8)
  rotate_left
  ·rw [if_neg c10] at H
   have c10b0 : (a1.toList == ([109, 117, 115, 116, 45, 114, 101, 118, 97, 108, 105, 100, 97, 116, 101] : List UInt8)) = false := beq_eq_false_iff_ne.mpr c10
   have c10b1 : (a1.toList != ([109, 117, 115, 116, 45, 114, 101, 118, 97, 108, 105, 100, 97, 116, 101] : List UInt8)) = true := bne_iff_ne.mpr c10
   have H' := am H
   clear H
   go_wp2
   go_meet
   case rel => exact ⟨_, (s0_0), (s0_1), (s0_2), (s0_3), H', ⟨by first | omega | exact Nat.le_refl _⟩, ⟨u135HI0⟩, ⟨u135HK⟩, ⟨u135HB⟩⟩
  rw [if_pos c10] at H
  have c10b0 : (a1.toList == ([109, 117, 115, 116, 45, 114, 101, 118, 97, 108, 105, 100, 97, 116, 101] : List UInt8)) = true := beq_iff_eq.mpr c10
  have c10b1 : (a1.toList != ([109, 117, 115, 116, 45, 114, 101, 118, 97, 108, 105, 100, 97, 116, 101] : List UInt8)) = false := bne_eq_false_iff_eq.mpr c10
  clear c10
  have H' := am H
  clear H
  obtain ⟨HGz11, hgz11⟩ := HI0.out
  have z11_0 := cellS72_0 HGz11
  have z11_1 := cellS72_1 HGz11
  have z11_2 := cellS72_2 HGz11
  have z11_3 := cellS72_3 HGz11
  have z11_4 := cellS72_4 HGz11
  have z11_5 := cellS72_5 HGz11
  have y11_0 := blk_frozen HGz11 0
  have y11_1 := blk_frozen HGz11 1
  have y11_2 := blk_frozen HGz11 2
  have y11_3 := blk_frozen HGz11 3
  have y11_4 := blk_frozen HGz11 4
  have y11_5 := blk_frozen HGz11 5
  clear HGz11 hgz11
  go_wp2
  go_meet
  case rel => exact ⟨_, (s0_0), (s0_1), (s0_2), (true), H', ⟨by first | omega | exact Nat.le_refl _⟩, ⟨u135HI0⟩, ⟨u135HK⟩, ⟨u135HB⟩⟩
 case rest =>
  clear HC3
  try clear c1
  try clear p2
  try clear c4
  try clear c4b0
  try clear c4b1
  try clear c6
  try clear c6b0
  try clear c6b1
  try clear c8
  try clear c8b0
  try clear c8b1
  try clear c10
  try clear c10b0
  try clear c10b1
  try clear z11_0
  try clear z11_1
  try clear z11_2
  try clear z11_3
  try clear z11_4
  try clear z11_5
  try clear z5_0
  try clear z5_1
  try clear z5_2
  try clear z5_3
  try clear z5_4
  try clear z5_5
  try clear z7_0
  try clear z7_1
  try clear z7_2
  try clear z7_3
  try clear z7_4
  try clear z7_5
  try clear z9_0
  try clear z9_1
  try clear z9_2
  try clear z9_3
  try clear z9_4
  try clear z9_5
  try clear y11_0
  try clear y11_1
  try clear y11_2
  try clear y11_3
  try clear y11_4
  try clear y11_5
  try clear y5_0
  try clear y5_1
  try clear y5_2
  try clear y5_3
  try clear y5_4
  try clear y5_5
  try clear y7_0
  try clear y7_1
  try clear y7_2
  try clear y7_3
  try clear y7_4
  try clear y7_5
  try clear y9_0
  try clear y9_1
  try clear y9_2
  try clear y9_3
  try clear y9_4
  try clear y9_5
  obtain ⟨kq, x1000_2, x1001_2, x1002_2, x1003_2, HA, HJ2, HI0, HK, HB⟩ := hcut
  cases kq with
  | zero => exact absurd HA.out (by simp [impl_Cc_word.j0])
  | succ kj2 =>
   have H := HA.out
   clear HA
   simp only [impl_Cc_word.j0] at H
   revert H
   refine ok2 fun t1209 t1210 A12 H => ?_
   (try dsimp only at H)
   by_cases c13 : t1210 = true
   rotate_left
   ·replace c13 := Bool.eq_false_iff.mpr c13
    subst c13
    rw [if_neg (show ¬ (false = true) by decide)] at H
    simp only [Option.some.injEq, Prod.mk.injEq] at H
    obtain ⟨rfl, rfl, rfl, rfl, rfl, rfl⟩ := H
    go_wp2_with (first | (refine gl 31 Tryd.func151 #[.string a1, .string (⟨#[109, 97, 120, 45, 97, 103, 101, 61]⟩ : ByteArray)] ?_; (with_reducible refine (strings_CutPrefix.calls a1 (⟨#[109, 97, 120, 45, 97, 103, 101, 61]⟩ : ByteArray) t1209 false _ A12.out).mono ?_); rintro e w' ⟨rfl, ⟨nd, rfl⟩⟩; refine ⟨_, rfl, ?_⟩))
    first | go_end0 | ((try simp only [Exit.inBlock, Exit.then]); refine bodyPost_ret (results_none rfl _ _ _) rfl ?_)
    exact ⟨rf, u135HI0, u135HB, u135HK⟩
   subst c13
   rw [if_pos rfl] at H
   revert H
   refine ok2 fun t1211 t1212 A14 H => ?_
   (try dsimp only at H)
   by_cases c15 : s0_4 = true
   rotate_left
   ·replace c15 := Bool.eq_false_iff.mpr c15
    subst c15
    rw [if_neg (show ¬ (false = true) by decide)] at H
    simp only [Option.some.injEq, Prod.mk.injEq] at H
    obtain ⟨rfl, rfl, rfl, rfl, rfl, rfl⟩ := H
    go_wp2_with (first | (refine gl 31 Tryd.func151 #[.string a1, .string (⟨#[109, 97, 120, 45, 97, 103, 101, 61]⟩ : ByteArray)] ?_; (with_reducible refine (strings_CutPrefix.calls a1 (⟨#[109, 97, 120, 45, 97, 103, 101, 61]⟩ : ByteArray) t1209 true _ A12.out).mono ?_); rintro e w' ⟨rfl, ⟨nd, rfl⟩⟩; refine ⟨_, rfl, ?_⟩; (try (rw [drewN_self wc]; generalize hq_ : World.drewN wc _ = wc; have n0_ : Aside0 (IsS72 w0 wc g x1000_2 x1001_2 x1002_2 x1003_2 false s0_5) := ⟨by rw [← hq_]; exact u135HI0⟩; have n1_ : Aside0 (KeepBut w wc g none) := ⟨by rw [← hq_]; exact u135HK⟩; have n2_ : Aside0 (Below w0.heap.size w0 wc) := ⟨by rw [← hq_]; exact u135HB⟩; clear HI0 HK HB hq_; have HI0 := n0_; have HK := n1_; have HB := n2_; clear n0_ n1_ n2_))) | (refine gl 38 Tryd.func152 #[.string t1209] ?_; (with_reducible refine (impl_NumRead.calls t1209 t1211 t1212 _ ?side1 ?side2 A14.out).mono ?_); (case side1 => exact GLOBE.below HGE.out u135HB); (case side2 => exact GLOBT.below HGT.out u135HB); rintro e w19 ⟨rfl, hb⟩; refine ⟨_, rfl, ?_⟩; replace HK := am (KeepBut.trans u135HK (KeepBut.of_below hb g none) (.inl rfl)); replace HB := am (below_step u135HB hb); replace HI0 := am (IsS72.below u135HI0 hb); clear hb; obtain ⟨HGz20, hgz20⟩ := HI0.out; have z20_0 := cellS72_0 HGz20; have z20_1 := cellS72_1 HGz20; have z20_2 := cellS72_2 HGz20; have z20_3 := cellS72_3 HGz20; have z20_4 := cellS72_4 HGz20; have z20_5 := cellS72_5 HGz20; have y20_0 := blk_frozen HGz20 0; have y20_1 := blk_frozen HGz20 1; have y20_2 := blk_frozen HGz20 2; have y20_3 := blk_frozen HGz20 3; have y20_4 := blk_frozen HGz20 4; have y20_5 := blk_frozen HGz20 5; clear HGz20 hgz20))
    first | go_end0 | ((try simp only [Exit.inBlock, Exit.then]); refine bodyPost_ret (results_none rfl _ _ _) rfl ?_)
    exact ⟨rf, u135HI0, u135HB, u135HK⟩
   subst c15
   rw [if_pos rfl] at H
   obtain ⟨ji16, hji16⟩ : ∃ j_ : Int, (mn t1211 s0_5) = j_ := ⟨_, rfl⟩
   replace H : (some (x1000_2, x1001_2, x1002_2, x1003_2, true, ji16)) = some (r1, r2, r3, r4, r5, r6) := by first | (rw [hji16] at H; exact H) | (simp only [hji16] at H ⊢; exact H)
   (try rw [hji16] at A12)
   (try rw [hji16] at A14)
   have hji16_ : (if s0_5 < t1211 then s0_5 else t1211) = ji16 := hji16
   simp only [Option.some.injEq, Prod.mk.injEq] at H
   obtain ⟨rfl, rfl, rfl, rfl, rfl, rfl⟩ := H
   go_wp2_with (first | (refine gl 31 Tryd.func151 #[.string a1, .string (⟨#[109, 97, 120, 45, 97, 103, 101, 61]⟩ : ByteArray)] ?_; (with_reducible refine (strings_CutPrefix.calls a1 (⟨#[109, 97, 120, 45, 97, 103, 101, 61]⟩ : ByteArray) t1209 true _ A12.out).mono ?_); rintro e w' ⟨rfl, ⟨nd, rfl⟩⟩; refine ⟨_, rfl, ?_⟩; (try (rw [drewN_self wc]; generalize hq_ : World.drewN wc _ = wc; have n0_ : Aside0 (IsS72 w0 wc g x1000_2 x1001_2 x1002_2 x1003_2 true s0_5) := ⟨by rw [← hq_]; exact u135HI0⟩; have n1_ : Aside0 (KeepBut w wc g none) := ⟨by rw [← hq_]; exact u135HK⟩; have n2_ : Aside0 (Below w0.heap.size w0 wc) := ⟨by rw [← hq_]; exact u135HB⟩; clear HI0 HK HB hq_; have HI0 := n0_; have HK := n1_; have HB := n2_; clear n0_ n1_ n2_))) | (refine gl 38 Tryd.func152 #[.string t1209] ?_; (with_reducible refine (impl_NumRead.calls t1209 t1211 t1212 _ ?side1 ?side2 A14.out).mono ?_); (case side1 => exact GLOBE.below HGE.out u135HB); (case side2 => exact GLOBT.below HGT.out u135HB); rintro e w17 ⟨rfl, hb⟩; refine ⟨_, rfl, ?_⟩; replace HK := am (KeepBut.trans u135HK (KeepBut.of_below hb g none) (.inl rfl)); replace HB := am (below_step u135HB hb); replace HI0 := am (IsS72.below u135HI0 hb); clear hb; obtain ⟨HGz18, hgz18⟩ := HI0.out; have z18_0 := cellS72_0 HGz18; have z18_1 := cellS72_1 HGz18; have z18_2 := cellS72_2 HGz18; have z18_3 := cellS72_3 HGz18; have z18_4 := cellS72_4 HGz18; have z18_5 := cellS72_5 HGz18; have y18_0 := blk_frozen HGz18 0; have y18_1 := blk_frozen HGz18 1; have y18_2 := blk_frozen HGz18 2; have y18_3 := blk_frozen HGz18 3; have y18_4 := blk_frozen HGz18 4; have y18_5 := blk_frozen HGz18 5; clear HGz18 hgz18))
   first | go_end0 | ((try simp only [Exit.inBlock, Exit.then]); refine bodyPost_ret (results_none rfl _ _ _) rfl ?_)
   exact ⟨by first | rfl | (simp [errW_none, errW_some] <;> rfl) | (simp only [← hji16]; first | rfl | (simp [errW_none, errW_some] <;> rfl)) | (simp [*, errW_none, errW_some] <;> rfl), u135HI0, u135HB, u135HK⟩

end Go.Proofs.YtkgdcfaogdmcgaaDoor.All
