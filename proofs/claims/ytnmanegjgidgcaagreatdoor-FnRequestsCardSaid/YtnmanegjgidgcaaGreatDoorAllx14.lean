-- Written by a program of this session (wip/tools/hprint.py) out of the translation. Lean checks it.
import Derived.Test.YtnmanegjgidgcaaGreatDoorAllx0
import Derived.Test.YtnmanegjgidgcaaGreatDoorAllx2
import Derived.Test.YtnmanegjgidgcaaGreatDoorAllx3
import Derived.Test.YtnmanegjgidgcaaGreatDoorAllx4
namespace Go.Proofs.YtnmanegjgidgcaaGreatDoor.All
open Go.RowKit Go.Proofs.YtnmanegjgidgcaaGreatDoorW.PrintWords Go.Proofs.YtnmanegjgidgcaaGreatDoorW.PrintLast Go.Proofs.YtnmanegjgidgcaaGreatDoorW.PrintMore
attribute [local go_sem] max2_int min2_int max_two min_two max_three min_three max_four min_four   -- for this text's walks alone
set_option linter.unusedVariables false
set_option linter.unusedSimpArgs false

/-! ### NumRead: strconv.Atoi there, strconv.Itoa back -/
def numRead (s : ByteArray) : Int × Bool :=
 if 7 < s.size then (0, false)
 else match Lib.atoiAll s.data.toList with
  | .ok n => if 0 ≤ n ∧ n ≤ 1000000 ∧ Lib.itoa n = s.data.toList then (n, true) else (0, false)
  | _ => (0, false)
def impl_NumRead.f (a0 : ByteArray) : Option (Int × Bool) := some (numRead a0)
set_option maxHeartbeats 4000000 in
theorem impl_NumRead.calls (a0 : ByteArray) (r1 : Int) (r2 : Bool) (w : World) (hGE : GLOBE w) (hGT : GLOBT w) (h : impl_NumRead.f a0 = some (r1, r2)) :
  Calls Tryz.prog 90 #[.string a0] w fun e w' => e = .returned (.tuple #[.int .i64 r1, .bool r2]) ∧ Below w.heap.size w w' := by
 obtain rfl : (numRead a0).1 = r1 := by rw [Option.some.inj h]
 obtain rfl : (numRead a0).2 = r2 := by rw [Option.some.inj h]
 clear h
 have HGE := am hGE
 have HGT := am hGT
 clear hGE hGT
 have HB := am (Below.refl w.heap.size w)
 by_cases c : 7 < a0.size
 ·have c0 : decide ((a0.size : Int) > 7) = true := decide_eq_true (by omega)
  go_enter Tryz.func90, Tryz.ntmps90
  go_wp2
  go_ret2
  exact ⟨by unfold numRead; rw [if_pos c]; rfl, HB.out⟩
 have c0 : decide ((a0.size : Int) > 7) = false := decide_eq_false (by omega)
 have hmax : a0.size ≤ 9223372036854775806 := by omega
 have hlim : a0.size ≤ 281474976710656 := by omega
 cases hA : Lib.atoiAll a0.data.toList with
 | ok n =>
  have HA := am hA
  clear hA
  go_enter Tryz.func90, Tryz.ntmps90
  by_cases c1 : 0 ≤ n ∧ n ≤ 1000000
  rotate_left
  ·have c1' : impl_inRange.f n 0 1000000 = some false := by
    unfold impl_inRange.f
    by_cases h : n ≥ 0
    ·rw [if_pos h, decide_eq_false (fun e => c1 ⟨h, e⟩)]
    ·rw [if_neg h]
   go_wp2_with (first | (go_at_call 132; refine (Tryz.strconv_Atoi_ok a0 hmax n HA.out _).mono ?_; rintro e w1 ⟨rfl, hb⟩; have HB1 : Aside0 (Below w.heap.size w w1) := ⟨by rcases hb with rfl | ⟨t, rfl⟩ <;> first | exact Below.refl _ _ | exact Lib.bytesWorld_below _ _ _⟩; clear hb) | (go_at_call 80; refine (impl_inRange.calls n 0 1000000 false _ c1').mono ?_; rintro e w2 ⟨rfl, ⟨nd, rfl⟩⟩))
   go_ret2
   exact ⟨by unfold numRead; rw [if_neg c, HA.out]; simp only; rw [if_neg (fun e => c1 ⟨e.1, e.2.1⟩)]; rfl, by repeat (first | (with_reducible first | exact HB1.out | apply below_alloc | apply pw_below_drewN | apply below_drew1) | exact HB1.out)⟩
  by_cases c2 : Lib.itoa n = a0.data.toList
  ·have e2 : (Lib.itoa n == a0.toList) = true := by rw [ByteArray.toList_eq, c2]; simp
   have e3 : (!(Lib.itoa n == a0.toList)) = false := by rw [e2]; rfl
   go_wp2_with (first | (go_at_call 132; refine (Tryz.strconv_Atoi_ok a0 hmax n HA.out _).mono ?_; rintro e w1 ⟨rfl, hb⟩; have HB1 : Aside0 (Below w.heap.size w w1) := ⟨by rcases hb with rfl | ⟨t, rfl⟩ <;> first | exact Below.refl _ _ | exact Lib.bytesWorld_below _ _ _⟩; clear hb) | (go_at_call 80; refine (impl_inRange.calls n 0 1000000 true _ (by unfold impl_inRange.f; rw [if_pos c1.1, decide_eq_true c1.2])).mono ?_; rintro e w2 ⟨rfl, ⟨nd, rfl⟩⟩) | (go_at_call 95; refine (strconv_Itoa.calls n ⟨(Lib.itoa n).toArray⟩ _ ?hg (by unfold strconv_Itoa.f; rw [if_pos (by omega)])).mono ?_; (case hg => exact GLOBT.below HGT.out (pw_below_drewN HB1.out _)); rintro e w3 ⟨rfl, hb3⟩; have HB3 := am (below_step (pw_below_drewN HB1.out _) hb3); clear hb3))
   go_ret2
   exact ⟨by unfold numRead; rw [if_neg c, HA.out]; simp only; rw [if_pos ⟨c1.1, c1.2, c2⟩]; rfl, by repeat (first | (with_reducible first | exact HB3.out | apply below_alloc | apply pw_below_drewN | apply below_drew1) | exact HB3.out)⟩
  have e2 : (Lib.itoa n == a0.toList) = false := by rw [ByteArray.toList_eq, beq_eq_false_iff_ne]; exact c2
  have e3 : (!(Lib.itoa n == a0.toList)) = true := by rw [e2]; rfl
  go_wp2_with (first | (go_at_call 132; refine (Tryz.strconv_Atoi_ok a0 hmax n HA.out _).mono ?_; rintro e w1 ⟨rfl, hb⟩; have HB1 : Aside0 (Below w.heap.size w w1) := ⟨by rcases hb with rfl | ⟨t, rfl⟩ <;> first | exact Below.refl _ _ | exact Lib.bytesWorld_below _ _ _⟩; clear hb) | (go_at_call 80; refine (impl_inRange.calls n 0 1000000 true _ (by unfold impl_inRange.f; rw [if_pos c1.1, decide_eq_true c1.2])).mono ?_; rintro e w2 ⟨rfl, ⟨nd, rfl⟩⟩) | (go_at_call 95; refine (strconv_Itoa.calls n ⟨(Lib.itoa n).toArray⟩ _ ?hg (by unfold strconv_Itoa.f; rw [if_pos (by omega)])).mono ?_; (case hg => exact GLOBT.below HGT.out (pw_below_drewN HB1.out _)); rintro e w3 ⟨rfl, hb3⟩; have HB3 := am (below_step (pw_below_drewN HB1.out _) hb3); clear hb3))
  go_ret2
  exact ⟨by unfold numRead; rw [if_neg c, HA.out]; simp only; rw [if_neg (fun e => c2 e.2.2)]; rfl, by repeat (first | (with_reducible first | exact HB3.out | apply below_alloc | apply pw_below_drewN | apply below_drew1) | exact HB3.out)⟩
 | range =>
  have HA := am hA
  clear hA
  obtain ⟨_, ⟨tp, pv, hv⟩⟩ := HGE.out
  go_enter Tryz.func90, Tryz.ntmps90
  go_wp2_with (first | (go_at_call 132; refine (Tryz.strconv_Atoi_range_var a0 hlim HA.out tp pv _ hv).mono ?_; rintro e w1 ⟨N, rfl, _, _, hb⟩; have HB1 := am hb; clear hb))
  go_ret2
  exact ⟨by unfold numRead; rw [if_neg c, HA.out]; rfl, by repeat (first | (with_reducible first | exact HB1.out | apply below_alloc | apply pw_below_drewN | apply below_drew1) | exact HB1.out)⟩
 | _ =>
  have HA := am hA
  clear hA
  obtain ⟨⟨tp, pv, hv⟩, _⟩ := HGE.out
  go_enter Tryz.func90, Tryz.ntmps90
  go_wp2_with (first | (go_at_call 132; refine (Tryz.strconv_Atoi_syntax_var a0 hlim HA.out tp pv _ hv).mono ?_; rintro e w1 ⟨N, rfl, _, _, hb⟩; have HB1 := am hb; clear hb))
  go_ret2
  exact ⟨by unfold numRead; rw [if_neg c, HA.out]; rfl, by repeat (first | (with_reducible first | exact HB1.out | apply below_alloc | apply pw_below_drewN | apply below_drew1) | exact HB1.out)⟩

/-! ### spec_NumRead: function 89 -/
theorem u89HB {p : Prop} (h : p := by repeat (first | (with_reducible first | exact HB.out | apply below_alloc | apply pw_below_drewN | apply below_drew1) | exact HB.out)) : p := h
mutual
def spec_NumRead.j0 : Nat → ByteArray → Bool → Option (Int × Bool)
 | 0, _, _ => none
 | k + 1, x0, x12 => if x12 = true then (some (0, false)) else (spec_NumRead.l0 k x0 0 0)
def spec_NumRead.l0 : Nat → ByteArray → Int → Int → Option (Int × Bool)
 | 0, _, _, _ => none
 | k + 1, x0, x4, x5 => if x5 < (x0.size : Int) then (if 0 ≤ x5 then (if (bt x0 x5) < 48 then (some (0, false)) else (if (bt x0 x5) > 57 then (some (0, false)) else (spec_NumRead.l0 k x0 (wrap64 ((wrap64 ((wrap64 (10 * x4)) + (wrap64 (bt x0 x5)))) - 48)) (wrap64 (x5 + 1))))) else (none)) else ((spec_NumText.f k x4).bind fun t407 => (if t407.toList = x0.toList then (some (x4, true)) else (some (0, false))))
end
def spec_NumRead.f (k : Nat) (a0 : ByteArray) : Option (Int × Bool) := if a0.toList = ([] : List UInt8) then (spec_NumRead.j0 k a0 true) else (spec_NumRead.j0 k a0 (decide ((a0.size : Int) > 7)))
theorem spec_NumRead.mono_l : ∀ k, (∀ y0 y1, LeO (spec_NumRead.j0 k y0 y1) (spec_NumRead.j0 (k + 1) y0 y1)) ∧ (∀ y0 y1 y2, LeO (spec_NumRead.l0 k y0 y1 y2) (spec_NumRead.l0 (k + 1) y0 y1 y2))
 | 0 => ⟨fun _ _ r h => by simp [spec_NumRead.j0] at h, fun _ _ _ r h => by simp [spec_NumRead.l0] at h⟩
 | k + 1 => by
  obtain ⟨ih0, ih1⟩ := spec_NumRead.mono_l k
  refine ⟨?_, ?_⟩
  ·intro y0 y1
   unfold spec_NumRead.j0
   have m0 := @spec_NumText.mono
   exact mo
  ·intro y0 y1 y2
   unfold spec_NumRead.l0
   have m0 := @spec_NumText.mono
   exact mo
theorem spec_NumRead.mono : ∀ a0 k, LeO (spec_NumRead.f k a0) (spec_NumRead.f (k + 1) a0) := by
 intro a0 k
 obtain ⟨ih0, ih1⟩ := spec_NumRead.mono_l k
 unfold spec_NumRead.f
 have m0 := @spec_NumText.mono
 exact mo
set_option maxHeartbeats 8000000 in
set_option maxRecDepth 100000 in
theorem spec_NumRead.calls (k : Nat) (a0 : ByteArray) (r1 : Int) (r2 : Bool) (w : World) (h : spec_NumRead.f k a0 = some (r1, r2)) :
  Calls Tryz.prog 89 #[.string a0] w fun e w' => e = .returned (.tuple #[.int .i64 r1, .bool r2]) ∧ Below w.heap.size w w' := by
 have HB := am (Below.refl w.heap.size w)
 unfold spec_NumRead.f at h
 have H := h
 clear h
 have HC2 := am H
 clear H
 go_enter Tryz.func89, Tryz.ntmps89
 go_upto_region 1 with (fail)
 go_cut [12] (fun v12 wc => ∃ (kq : Nat) (x12_1 : Bool), v12 = .bool x12_1 ∧ Aside0 (spec_NumRead.j0 kq a0 x12_1 = some (r1, r2)) ∧ Aside0 (kq ≤ k) ∧ Aside0 (Below w.heap.size w wc))
 case first =>
  have H := HC2.out
  clear HC2
  by_cases c3 : a0.toList = ([] : List UInt8)
  ·rw [if_pos c3] at H
   have c3b0 : (a0.toList == ([] : List UInt8)) = true := beq_iff_eq.mpr c3
   have c3b1 : (a0.toList != ([] : List UInt8)) = false := bne_eq_false_iff_eq.mpr c3
   clear c3
   (first | rw [c3b0] | (simp only [i64_w, i32_w]; rw [c3b0]) | skip)
   have H' := am H
   clear H
   go_wp2
   go_meet
   case rel => exact ⟨_, (true), rs, H', ⟨by first | omega | exact Nat.le_refl _⟩, ⟨u89HB⟩⟩
  rw [if_neg c3] at H
  have c3b0 : (a0.toList == ([] : List UInt8)) = false := beq_eq_false_iff_ne.mpr c3
  have c3b1 : (a0.toList != ([] : List UInt8)) = true := bne_iff_ne.mpr c3
  (first | rw [c3b0] | (simp only [i64_w, i32_w]; rw [c3b0]) | skip)
  have H' := am H
  clear H
  go_wp2
  go_meet
  case rel => exact ⟨_, (decide ((a0.size : Int) > 7)), rs, H', ⟨by first | omega | exact Nat.le_refl _⟩, ⟨u89HB⟩⟩
 case rest =>
  clear HC2
  try clear p2
  try clear c3
  try clear c3b0
  try clear c3b1
  obtain ⟨kq, x12_1, rfl, HA, HJ1, HB⟩ := hcut
  cases kq with
  | zero => exact absurd HA.out (by simp [spec_NumRead.j0])
  | succ kj1 =>
   have H := HA.out
   clear HA
   simp only [spec_NumRead.j0] at H
   by_cases c4 : x12_1 = true
   ·subst c4
    rw [if_pos rfl] at H
    simp only [Option.some.injEq, Prod.mk.injEq] at H
    obtain ⟨rfl, rfl⟩ := H
    go_wp2
    go_ret2
    exact ⟨rf, bl⟩
   replace c4 := Bool.eq_false_iff.mpr c4
   subst c4
   rw [if_neg (show ¬ (false = true) by decide)] at H
   have H' := am H
   clear H
   go_wp2
   (try simp only [Act.put, List.setIfInBounds_toArray, List.set_cons_zero, List.set_cons_succ])
   go_loopg [4, 5] kj1 (fun kq v4 v5 w' => ∃ (x4_2 : Int) (x5_2 : Int), v4 = .int .i64 x4_2 ∧ v5 = .int .i64 x5_2 ∧ Aside0 (spec_NumRead.l0 kq a0 x4_2 x5_2 = some (r1, r2)) ∧ Aside0 (kq ≤ kj1) ∧ Aside0 (Below w.heap.size w w'))
   case atStart => exact ⟨(0), (0), rs, rs, H', ⟨Nat.le_refl _⟩, ⟨u89HB⟩⟩
   case round =>
    clear H'
    try clear p2
    try clear c3
    try clear c3b0
    try clear c3b1
    try clear c4
    try clear p2
    obtain ⟨x4_2, x5_2, rfl, rfl, HA, HK2, HB⟩ := hrel
    cases gk with
    | zero => exact absurd HA.out (by simp [spec_NumRead.l0])
    | succ k2 =>
     have H := HA.out
     clear HA
     simp only [spec_NumRead.l0] at H
     by_cases c5 : x5_2 < (a0.size : Int)
     rotate_left
     ·rw [if_neg c5] at H
      have c5b0 := decide_eq_false c5
      clear c5
      revert H
      refine ok1 fun t407 A12 H => ?_
      by_cases c13 : t407.toList = a0.toList
      rotate_left
      ·rw [if_neg c13] at H
       have c13b0 : (t407.toList == a0.toList) = false := beq_eq_false_iff_ne.mpr c13
       have c13b1 : (t407.toList != a0.toList) = true := bne_iff_ne.mpr c13
       simp only [Option.some.injEq, Prod.mk.injEq] at H
       obtain ⟨rfl, rfl⟩ := H
       go_wp2_with (first | (refine gl 38 Tryz.func79 #[.int .i64 x4_2] ?_; (with_reducible refine (spec_NumText.calls k2 x4_2 t407 _ A12.out).mono ?_); rintro e w15 ⟨rfl, hb⟩; refine ⟨_, rfl, ?_⟩; replace HB := am (below_step bl hb); clear hb))
       go_ret2
       exact ⟨rf, bl⟩
      rw [if_pos c13] at H
      have c13b0 : (t407.toList == a0.toList) = true := beq_iff_eq.mpr c13
      have c13b1 : (t407.toList != a0.toList) = false := bne_eq_false_iff_eq.mpr c13
      clear c13
      simp only [Option.some.injEq, Prod.mk.injEq] at H
      obtain ⟨rfl, rfl⟩ := H
      go_wp2_with (first | (refine gl 38 Tryz.func79 #[.int .i64 x4_2] ?_; (with_reducible refine (spec_NumText.calls k2 x4_2 t407 _ A12.out).mono ?_); rintro e w14 ⟨rfl, hb⟩; refine ⟨_, rfl, ?_⟩; replace HB := am (below_step bl hb); clear hb))
      go_ret2
      exact ⟨rf, bl⟩
     rw [if_pos c5] at H
     have c5b0 := decide_eq_true c5
     clear c5
     revert H
     refine ifn fun c6 H => ?_
     have c6b0 := decide_eq_true c6
     clear c6
     by_cases c8 : (bt a0 x5_2) < 48
     ·rw [if_pos c8] at H
      have c8b0 := decide_eq_true c8
      clear c8
      simp only [Option.some.injEq, Prod.mk.injEq] at H
      obtain ⟨rfl, rfl⟩ := H
      have p7 : 0 ≤ (x5_2 : Int) := od
      have q7 : x5_2 < (a0.size : Int) := od
      have hx7 := bt_at a0 x5_2
      replace p7 := eq_true p7
      replace q7 := eq_true q7
      go_wp2
      go_ret2
      exact ⟨rf, bl⟩
     rw [if_neg c8] at H
     have c8b0 := decide_eq_false c8
     clear c8
     by_cases c10 : (bt a0 x5_2) > 57
     ·rw [if_pos c10] at H
      have c10b0 := decide_eq_true c10
      clear c10
      simp only [Option.some.injEq, Prod.mk.injEq] at H
      obtain ⟨rfl, rfl⟩ := H
      have p7 : 0 ≤ (x5_2 : Int) := od
      have q7 : x5_2 < (a0.size : Int) := od
      have hx7 := bt_at a0 x5_2
      replace p7 := eq_true p7
      replace q7 := eq_true q7
      have p9 : 0 ≤ (x5_2 : Int) := od
      have q9 : x5_2 < (a0.size : Int) := od
      have hx9 := bt_at a0 x5_2
      replace p9 := eq_true p9
      replace q9 := eq_true q9
      go_wp2
      go_ret2
      exact ⟨rf, bl⟩
     rw [if_neg c10] at H
     have c10b0 := decide_eq_false c10
     clear c10
     have H' := am H
     clear H
     have p7 : 0 ≤ (x5_2 : Int) := od
     have q7 : x5_2 < (a0.size : Int) := od
     have hx7 := bt_at a0 x5_2
     replace p7 := eq_true p7
     replace q7 := eq_true q7
     have p9 : 0 ≤ (x5_2 : Int) := od
     have q9 : x5_2 < (a0.size : Int) := od
     have hx9 := bt_at a0 x5_2
     replace p9 := eq_true p9
     replace q9 := eq_true q9
     have p11 : 0 ≤ (x5_2 : Int) := od
     have q11 : x5_2 < (a0.size : Int) := od
     have hx11 := bt_at a0 x5_2
     replace p11 := eq_true p11
     replace q11 := eq_true q11
     go_wp2
     go_roundg k2
     case measure => have := HJ1.out; have := HK2.out; omega
     case rel => exact ⟨(wrap64 ((wrap64 ((wrap64 (10 * x4_2)) + (wrap64 (bt a0 x5_2)))) - 48)), (wrap64 (x5_2 + 1)), rs, rs, H', ⟨by have := HJ1.out; have := HK2.out; omega⟩, ⟨u89HB⟩⟩

/-! ### spec_RespOk: function 96 -/
def spec_RespOk.f (k : Nat) (a0_0 : Int) (l0_1 : List (S100)) (a0_2 : ByteArray) : Option (Bool) := (spec_l1In.f a0_0 100 599).bind fun t702 => (if t702 = true then ((spec_FieldsOk.f k l0_1).bind fun t703 => (if t703 = true then (some (decide ((a0_2.size : Int) ≤ 120))) else (some false))) else (some false))
theorem spec_RespOk.mono : ∀ a0 a1 a2 k, LeO (spec_RespOk.f k a0 a1 a2) (spec_RespOk.f (k + 1) a0 a1 a2) := by
 intro a0 a1 a2 k
 unfold spec_RespOk.f
 have m0 := @spec_FieldsOk.mono
 exact mo
set_option maxHeartbeats 8000000 in
set_option maxRecDepth 100000 in
theorem spec_RespOk.calls (k : Nat) (a0_0 : Int) (A0_1 : Option Addr) (c0_1 : Nat) (l0_1 : List (S100)) (a0_2 : ByteArray) (r : Bool) (w : World) (hr0_1 : Kd.C k100 w A0_1 l0_1.length l0_1) (hc0_1 : l0_1.length ≤ c0_1) (h : spec_RespOk.f k a0_0 l0_1 a0_2 = some r) :
  Calls Tryz.prog 96 #[.agg #[.int .i64 a0_0, .slice A0_1 l0_1.length c0_1, .string a0_2]] w fun e w' => e = .returned (.bool r) ∧ Below w.heap.size w w' := by
 have hu48 := Tryz.underlying48
 have HR0_1 := am hr0_1
 have HC0_1 := am hc0_1
 clear hr0_1 hc0_1
 have HB := am (Below.refl w.heap.size w)
 unfold spec_RespOk.f at h
 have H := h
 clear h
 revert H
 refine ok1 fun t702 A2 H => ?_
 by_cases c3 : t702 = true
 rotate_left
 ·replace c3 := Bool.eq_false_iff.mpr c3
  subst c3
  rw [if_neg (show ¬ (false = true) by decide)] at H
  obtain rfl := Option.some.inj H
  go_enter Tryz.func96, Tryz.ntmps96
  go_wp2_with (first | ((with_reducible refine gate_dst (N := 1) rfl ?_); (try (refine gate_guard (by rfl) ?_; dsimp only)); refine box_event ?hg (N := 1) ?hd (cs := #[.int .i64 a0_0, .slice A0_1 l0_1.length c0_1, .string a0_2]) (t := 48) ?hr ?_; (case hd => rfl); (case hg => rfl); (case hr => first | (go_simp; done) | (go_simp; rfl)); intro gb701 hg w10 hbox hb; have BK701 := am (hbox); have GW701 := am (sz hg : w.heap.size ≤ gb701); have GE701 := am (sz hg : w.heap.size ≤ gb701); replace HB := am (below_step bl hb); clear hb hbox hg; obtain ⟨z11_0, y11_0, z11_1, y11_1, z11_2, y11_2⟩ := cl3 BK701) | (refine gl 5 Tryz.func125 #[.int .i64 a0_0, .int .i64 100, .int .i64 599] ?_; (with_reducible refine (spec_l1In.calls a0_0 100 599 false _ A2.out).mono ?_); rintro e w' ⟨rfl, ⟨nd, rfl⟩⟩; refine ⟨_, rfl, ?_⟩))
  go_ret
  exact ⟨rf, bl⟩
 subst c3
 rw [if_pos rfl] at H
 revert H
 refine ok1 fun t703 A4 H => ?_
 by_cases c5 : t703 = true
 ·subst c5
  rw [if_pos rfl] at H
  obtain rfl := Option.some.inj H
  go_enter Tryz.func96, Tryz.ntmps96
  go_wp2_with (first | ((with_reducible refine gate_dst (N := 1) rfl ?_); (try (refine gate_guard (by rfl) ?_; dsimp only)); refine box_event ?hg (N := 1) ?hd (cs := #[.int .i64 a0_0, .slice A0_1 l0_1.length c0_1, .string a0_2]) (t := 48) ?hr ?_; (case hd => rfl); (case hg => rfl); (case hr => first | (go_simp; done) | (go_simp; rfl)); intro gb701 hg w6 hbox hb; have BK701 := am (hbox); have GW701 := am (sz hg : w.heap.size ≤ gb701); have GE701 := am (sz hg : w.heap.size ≤ gb701); replace HB := am (below_step bl hb); clear hb hbox hg; obtain ⟨z7_0, y7_0, z7_1, y7_1, z7_2, y7_2⟩ := cl3 BK701) | (refine gl 5 Tryz.func125 #[.int .i64 a0_0, .int .i64 100, .int .i64 599] ?_; (with_reducible refine (spec_l1In.calls a0_0 100 599 true _ A2.out).mono ?_); rintro e w' ⟨rfl, ⟨nd, rfl⟩⟩; refine ⟨_, rfl, ?_⟩) | (go_at_call 127; (with_reducible refine (spec_FieldsOk.calls k _ _ l0_1 true _ ?side1 ?side2 A4.out).mono ?_); (case side1 => repeat (first | exact (Kd.C_below HR0_1.out bl) | (with_reducible refine Kd.C_alloc ?_ _) | (with_reducible refine Kd.C_drewN ?_ _) | (with_reducible refine Kd.C_drew ?_))); (case side2 => exact HC0_1.out); rintro e w' ⟨rfl, ⟨nd, rfl⟩⟩))
  go_ret
  exact ⟨rf, bl⟩
 replace c5 := Bool.eq_false_iff.mpr c5
 subst c5
 rw [if_neg (show ¬ (false = true) by decide)] at H
 obtain rfl := Option.some.inj H
 go_enter Tryz.func96, Tryz.ntmps96
 go_wp2_with (first | ((with_reducible refine gate_dst (N := 1) rfl ?_); (try (refine gate_guard (by rfl) ?_; dsimp only)); refine box_event ?hg (N := 1) ?hd (cs := #[.int .i64 a0_0, .slice A0_1 l0_1.length c0_1, .string a0_2]) (t := 48) ?hr ?_; (case hd => rfl); (case hg => rfl); (case hr => first | (go_simp; done) | (go_simp; rfl)); intro gb701 hg w8 hbox hb; have BK701 := am (hbox); have GW701 := am (sz hg : w.heap.size ≤ gb701); have GE701 := am (sz hg : w.heap.size ≤ gb701); replace HB := am (below_step bl hb); clear hb hbox hg; obtain ⟨z9_0, y9_0, z9_1, y9_1, z9_2, y9_2⟩ := cl3 BK701) | (refine gl 5 Tryz.func125 #[.int .i64 a0_0, .int .i64 100, .int .i64 599] ?_; (with_reducible refine (spec_l1In.calls a0_0 100 599 true _ A2.out).mono ?_); rintro e w' ⟨rfl, ⟨nd, rfl⟩⟩; refine ⟨_, rfl, ?_⟩) | (go_at_call 127; (with_reducible refine (spec_FieldsOk.calls k _ _ l0_1 false _ ?side1 ?side2 A4.out).mono ?_); (case side1 => repeat (first | exact (Kd.C_below HR0_1.out bl) | (with_reducible refine Kd.C_alloc ?_ _) | (with_reducible refine Kd.C_drewN ?_ _) | (with_reducible refine Kd.C_drew ?_))); (case side2 => exact HC0_1.out); rintro e w' ⟨rfl, ⟨nd, rfl⟩⟩))
 go_ret
 exact ⟨rf, bl⟩

/-! ### spec_RespText: function 34 -/
def spec_RespText.f (k : Nat) (a0_0 : Int) (l0_1 : List (S100)) (a0_2 : ByteArray) : Option (ByteArray) := (spec_RespOk.f k a0_0 l0_1 a0_2).bind fun t705 => (if t705 = true then ((spec_NumText.f k a0_0).bind fun t706 => (if 9 + t706.size ≤ 9223372036854775807 then (if ((⟨#[72, 84, 84, 80, 47, 49, 46, 49, 32]⟩ : ByteArray) ++ t706).size + 4 ≤ 9223372036854775807 then ((spec_FieldsText.f k l0_1).bind fun t707 => (if (((⟨#[72, 84, 84, 80, 47, 49, 46, 49, 32]⟩ : ByteArray) ++ t706) ++ (⟨#[32, 46, 13, 10]⟩ : ByteArray)).size + t707.size ≤ 9223372036854775807 then (if ((((⟨#[72, 84, 84, 80, 47, 49, 46, 49, 32]⟩ : ByteArray) ++ t706) ++ (⟨#[32, 46, 13, 10]⟩ : ByteArray)) ++ t707).size + 16 ≤ 9223372036854775807 then ((spec_NumText.f k (a0_2.size : Int)).bind fun t708 => (if (((((⟨#[72, 84, 84, 80, 47, 49, 46, 49, 32]⟩ : ByteArray) ++ t706) ++ (⟨#[32, 46, 13, 10]⟩ : ByteArray)) ++ t707) ++ (⟨#[99, 111, 110, 116, 101, 110, 116, 45, 108, 101, 110, 103, 116, 104, 58, 32]⟩ : ByteArray)).size + t708.size ≤ 9223372036854775807 then (if ((((((⟨#[72, 84, 84, 80, 47, 49, 46, 49, 32]⟩ : ByteArray) ++ t706) ++ (⟨#[32, 46, 13, 10]⟩ : ByteArray)) ++ t707) ++ (⟨#[99, 111, 110, 116, 101, 110, 116, 45, 108, 101, 110, 103, 116, 104, 58, 32]⟩ : ByteArray)) ++ t708).size + 4 ≤ 9223372036854775807 then (if (((((((⟨#[72, 84, 84, 80, 47, 49, 46, 49, 32]⟩ : ByteArray) ++ t706) ++ (⟨#[32, 46, 13, 10]⟩ : ByteArray)) ++ t707) ++ (⟨#[99, 111, 110, 116, 101, 110, 116, 45, 108, 101, 110, 103, 116, 104, 58, 32]⟩ : ByteArray)) ++ t708) ++ (⟨#[13, 10, 13, 10]⟩ : ByteArray)).size + a0_2.size ≤ 9223372036854775807 then (some ((((((((⟨#[72, 84, 84, 80, 47, 49, 46, 49, 32]⟩ : ByteArray) ++ t706) ++ (⟨#[32, 46, 13, 10]⟩ : ByteArray)) ++ t707) ++ (⟨#[99, 111, 110, 116, 101, 110, 116, 45, 108, 101, 110, 103, 116, 104, 58, 32]⟩ : ByteArray)) ++ t708) ++ (⟨#[13, 10, 13, 10]⟩ : ByteArray)) ++ a0_2)) else (none)) else (none)) else (none))) else (none)) else (none))) else (none)) else (none))) else (some (⟨#[]⟩ : ByteArray)))
theorem spec_RespText.mono : ∀ a0 a1 a2 k, LeO (spec_RespText.f k a0 a1 a2) (spec_RespText.f (k + 1) a0 a1 a2) := by
 intro a0 a1 a2 k
 unfold spec_RespText.f
 have m0 := @spec_FieldsText.mono
 have m1 := @spec_NumText.mono
 have m2 := @spec_RespOk.mono
 exact mo
def spec_RespText.T3 : Bool × List (List Nat × List Nat) := (true, [([], []), ([0], [0]), ([1], [1]), ([2], [2]), ([3], [3]), ([], []), ([5], [5]), ([6, 2], [6]), ([4, 7], [4, 7]), ([8], [8]), ([], []), ([10], [10]), ([11], [11]), ([12, 7], [12]), ([9, 13], [9, 13]), ([14], [14]), ([], []), ([16], [16]), ([15, 17], [15, 17]), ([18, 13, 0, 1, 2, 3, 4, 5, 6, 7, 8, 9, 10, 11, 12, 13, 14, 15, 16, 17, 18], [18])])
def spec_RespText.B3 : List Nat := [0, 1, 3, 7, 15, 0, 32, 103, 255, 511, 0, 1024, 3072, 7399, 16383, 32767, 0, 65536, 262143, 524287]
theorem spec_RespText.tab3 : rtab .any (opsOf Tryz.f34 3) = spec_RespText.T3 := by kernel_rfl
theorem spec_RespText.bits3 : waitsOk spec_RespText.T3.2 spec_RespText.B3 = true := by kernel_rfl
set_option maxHeartbeats 8000000 in
set_option maxRecDepth 100000 in
theorem spec_RespText.calls (k : Nat) (a0_0 : Int) (A0_1 : Option Addr) (c0_1 : Nat) (l0_1 : List (S100)) (a0_2 : ByteArray) (r : ByteArray) (w : World) (hr0_1 : Kd.C k100 w A0_1 l0_1.length l0_1) (hc0_1 : l0_1.length ≤ c0_1) (h : spec_RespText.f k a0_0 l0_1 a0_2 = some r) :
  Calls Tryz.prog 34 #[.agg #[.int .i64 a0_0, .slice A0_1 l0_1.length c0_1, .string a0_2]] w fun e w' => e = .returned (.string r) ∧ Below w.heap.size w w' := by
 have hu48 := Tryz.underlying48
 have HR0_1 := am hr0_1
 have HC0_1 := am hc0_1
 clear hr0_1 hc0_1
 have HB := am (Below.refl w.heap.size w)
 unfold spec_RespText.f at h
 have H := h
 clear h
 revert H
 refine ok1 fun t705 A2 H => ?_
 by_cases c3 : t705 = true
 rotate_left
 ·replace c3 := Bool.eq_false_iff.mpr c3
  subst c3
  rw [if_neg (show ¬ (false = true) by decide)] at H
  obtain rfl := Option.some.inj H
  go_enter Tryz.func34, Tryz.ntmps34
  go_wp2_with (first | (refine bx 1 #[.int .i64 a0_0, .slice A0_1 l0_1.length c0_1, .string a0_2] 48 ?_; intro gb704 hg w20 hbox hb; have BK704 := am (hbox); have GW704 := am (sz hg : w.heap.size ≤ gb704); have GE704 := am (sz hg : w.heap.size ≤ gb704); replace HB := am (below_step bl hb); clear hb hbox hg; obtain ⟨z21_0, y21_0, z21_1, y21_1, z21_2, y21_2⟩ := cl3 BK704) | (refine gl 4 Tryz.func96 #[.agg #[.int .i64 a0_0, .slice A0_1 l0_1.length c0_1, .string a0_2]] ?_; (with_reducible refine (spec_RespOk.calls k a0_0 _ _ l0_1 a0_2 false _ ?side1 ?side2 A2.out).mono ?_); (case side1 => exact cb HR0_1); (case side2 => exact HC0_1.out); rintro e w22 ⟨rfl, hb⟩; refine ⟨_, rfl, ?_⟩; replace BK704 := kb BK704 hb; replace HB := am (below_step bl hb); clear hb))
  go_ret
  exact ⟨rf, bl⟩
 subst c3
 rw [if_pos rfl] at H
 revert H
 refine ok1 fun t706 A4 H => ?_
 revert H
 refine ifn fun c5 H => ?_
 have c5b0 := eq_true c5
 have c5b1 := decide_eq_true c5
 try have c5b2 := eq_false (Nat.not_lt.2 c5)
 revert H
 refine ifn fun c6 H => ?_
 have c6b0 := eq_true c6
 have c6b1 := decide_eq_true c6
 try have c6b2 := eq_false (Nat.not_lt.2 c6)
 have c6b3 : (9223372036854775807 < 9 + (t706).size + 4) = False := b3 c6
 revert H
 refine ok1 fun t707 A7 H => ?_
 revert H
 refine ifn fun c8 H => ?_
 have c8b0 := eq_true c8
 have c8b1 := decide_eq_true c8
 try have c8b2 := eq_false (Nat.not_lt.2 c8)
 have c8b3 : (9223372036854775807 < 9 + (t706).size + 4 + (t707).size) = False := b3 c8
 revert H
 refine ifn fun c9 H => ?_
 have c9b0 := eq_true c9
 have c9b1 := decide_eq_true c9
 try have c9b2 := eq_false (Nat.not_lt.2 c9)
 have c9b3 : (9223372036854775807 < 9 + (t706).size + 4 + (t707).size + 16) = False := b3 c9
 revert H
 refine ok1 fun t708 A10 H => ?_
 revert H
 refine ifn fun c11 H => ?_
 have c11b0 := eq_true c11
 have c11b1 := decide_eq_true c11
 try have c11b2 := eq_false (Nat.not_lt.2 c11)
 have c11b3 : (9223372036854775807 < 9 + (t706).size + 4 + (t707).size + 16 + (t708).size) = False := b3 c11
 revert H
 refine ifn fun c12 H => ?_
 have c12b0 := eq_true c12
 have c12b1 := decide_eq_true c12
 try have c12b2 := eq_false (Nat.not_lt.2 c12)
 have c12b3 : (9223372036854775807 < 9 + (t706).size + 4 + (t707).size + 16 + (t708).size + 4) = False := b3 c12
 revert H
 refine ifn fun c13 H => ?_
 have c13b0 := eq_true c13
 have c13b1 := decide_eq_true c13
 try have c13b2 := eq_false (Nat.not_lt.2 c13)
 have c13b3 : (9223372036854775807 < 9 + (t706).size + 4 + (t707).size + 16 + (t708).size + 4 + (a0_2).size) = False := b3 c13
 obtain rfl := Option.some.inj H
 go_enter Tryz.func34, Tryz.ntmps34
 try go_wp2_with (first | (refine bx 1 #[.int .i64 a0_0, .slice A0_1 l0_1.length c0_1, .string a0_2] 48 ?_; intro gb704 hg w14 hbox hb; have BK704 := am (hbox); have GW704 := am (sz hg : w.heap.size ≤ gb704); have GE704 := am (sz hg : w.heap.size ≤ gb704); replace HB := am (below_step bl hb); clear hb hbox hg; obtain ⟨z15_0, y15_0, z15_1, y15_1, z15_2, y15_2⟩ := cl3 BK704) | (refine gl 4 Tryz.func96 #[.agg #[.int .i64 a0_0, .slice A0_1 l0_1.length c0_1, .string a0_2]] ?_; (with_reducible refine (spec_RespOk.calls k a0_0 _ _ l0_1 a0_2 true _ ?side1 ?side2 A2.out).mono ?_); (case side1 => exact cb HR0_1); (case side2 => exact HC0_1.out); rintro e w16 ⟨rfl, hb⟩; refine ⟨_, rfl, ?_⟩; replace BK704 := kb BK704 hb; replace HB := am (below_step bl hb); clear hb))
 replace BK704 := am (blk_drew BK704.out)
 replace HB := am (below_drew1 HB.out)
 refine start_ (n := 20) (S := fun w' => w'.cell? ⟨gb704, 0, none⟩ = some (.int .i64 a0_0) ∧ w'.cell? ⟨gb704, 1, none⟩ = some (.slice A0_1 l0_1.length c0_1) ∧ w'.cell? ⟨gb704, 2, none⟩ = some (.string a0_2)) (ds := []) ⟨br true [0, 20]⟩ (by kernel_rfl) rfl (by kernel_rfl) ⟨bc BK704, bc BK704, bc BK704⟩ (fun hHeld => ?_); refine with_tabW spec_RespText.tab3 spec_RespText.bits3 (fun HT_ HW_ => ?_)
 generalize w16.drew = w17 at BK704 HB hHeld ⊢
 refine pu 0 6 [1, 19] ?_
 refine pu 5 11 [1, 4, 1, 14] ?_
 refine pu 10 16 [1, 4, 1, 4, 1, 9] ?_
 refine pu 16 22 [1, 4, 1, 4, 1, 5, 1, 3] ?_
 refine tk 1 7 [2, 3, 1, 4, 1, 5, 1, 3] ?_
 refine tk 6 12 [2, 3, 2, 3, 1, 5, 1, 3] ?_
 refine tk 11 17 [2, 3, 2, 3, 2, 4, 1, 3] ?_
 refine pu 12 18 [2, 3, 2, 3, 3, 3, 1, 3] ?_
 refine tk 17 23 [2, 3, 2, 3, 3, 3, 2, 2] ?_
 refine og 2 8 [3, 2, 2, 3, 3, 3, 2, 2] Tryz.func79 #[.int .i64 a0_0] (fun K hK => ?_)
 with_reducible refine (spec_NumText.calls k a0_0 t706 _ A4.out).mono ?_
 rintro e w18 ⟨rfl, hb⟩
 refine ⟨_, rfl, ?_⟩
 replace BK704 := kb BK704 hb
 replace HB := am (below_step bl hb)
 clear hb
 refine hK.out _ _ ⟨bc BK704, bc BK704, bc BK704⟩ (fun hHeld => ?_)
 clear hK K
 refine nm 8 ?_
 refine pu 3 9 [4, 1, 2, 3, 3, 3, 2, 2] ?_
 refine pu 4 10 [7, 3, 3, 3, 2, 2] ?_
 refine og 7 13 [8, 2, 3, 3, 2, 2] Tryz.func78 #[.slice A0_1 l0_1.length c0_1] (fun K hK => ?_)
 with_reducible refine (spec_FieldsText.calls k _ _ l0_1 t707 _ ?side1 ?side2 A7.out).mono ?_
 (case side1 => exact cb HR0_1)
 (case side2 => exact HC0_1.out)
 rintro e w' ⟨rfl, ⟨nd, rfl⟩⟩
 refine ⟨_, rfl, ?_⟩
 refine hK.out _ _ ⟨bc BK704, bc BK704, bc BK704⟩ (fun hHeld => ?_)
 clear hK K
 refine nm 13 ?_
 refine pu 8 14 [9, 1, 3, 3, 2, 2] ?_
 refine pu 9 15 [13, 3, 2, 2] ?_
 refine og 13 19 [14, 2, 2, 2] Tryz.func79 #[.int .i64 (a0_2.size : Int)] (fun K hK => ?_)
 with_reducible refine (spec_NumText.calls k (a0_2.size : Int) t708 _ A10.out).mono ?_
 rintro e w19 ⟨rfl, hb⟩
 refine ⟨_, rfl, ?_⟩
 replace BK704 := kb BK704 hb
 replace HB := am (below_step bl hb)
 clear hb
 refine hK.out _ _ ⟨bc BK704, bc BK704, bc BK704⟩ (fun hHeld => ?_)
 clear hK K
 refine nm 19 ?_
 refine pu 14 20 [15, 1, 2, 2] ?_
 refine pu 15 21 [18, 2] ?_
 refine pu 18 24 [19, 1] ?_
 refine pu 19 2 [20] ?_
 refine done_ (done_of HT_.out (by kernel_rfl)) ?_
 try go_wp2
 go_ret
 exact ⟨rf, bl⟩

/-! ### spec_RespRead: function 27 -/
theorem u27HB {p : Prop} (h : p := by repeat (first | (with_reducible first | exact HB.out | apply below_alloc | apply pw_below_drewN | apply below_drew1 | refine below_set ?_ GE709.out) | exact HB.out)) : p := h
def spec_RespRead.j0 : Nat → ByteArray → List ByteArray → Int → Bool → Option (Int × (List (S100)) × ByteArray × Bool)
 | 0, _, _, _, _ => none
 | k + 1, x0, x4, x5, x21 => if x21 = true then (some (0, ([] : List (S100)), (⟨#[]⟩ : ByteArray), false)) else (if 0 < (x4.length : Int) then ((spec_l3Words.f k (rdOf ByteArray.empty x4 0)).bind fun t715 => (if (t715.length : Int) = 3 then (if 1 < (t715.length : Int) then ((spec_NumRead.f k (rdOf ByteArray.empty t715 1)).bind fun bt719 => (if 1 ≤ (x4.length : Int) then ((spec_l3Fields.f k (x4.drop 1)).bind fun t725 => (if 0 ≤ x5 then (if x5 ≤ (x0.size : Int) then ((spec_RespText.f k bt719.1 t725 (x0.extract (x5 : Int).toNat x0.size)).bind fun t729 => (if t729.toList = x0.toList then (some (bt719.1, t725, x0.extract (x5 : Int).toNat x0.size, true)) else (some (0, ([] : List (S100)), (⟨#[]⟩ : ByteArray), false)))) else (none)) else (none))) else (none))) else (none)) else (some (0, ([] : List (S100)), (⟨#[]⟩ : ByteArray), false)))) else (none))
def spec_RespRead.f (k : Nat) (a0 : ByteArray) : Option (Int × (List (S100)) × ByteArray × Bool) := (spec_l3Head.f k a0).bind fun bt710 => (if bt710.2 < 0 then (spec_RespRead.j0 k a0 bt710.1 bt710.2 true) else (spec_RespRead.j0 k a0 bt710.1 bt710.2 ((bt710.1.length : Int) == 0)))
theorem spec_RespRead.mono_l : ∀ k, (∀ y0 y1 y2 y3, LeO (spec_RespRead.j0 k y0 y1 y2 y3) (spec_RespRead.j0 (k + 1) y0 y1 y2 y3))
 | 0 => fun _ _ _ _ r h => by simp [spec_RespRead.j0] at h
 | k + 1 => by
  have ih0 := spec_RespRead.mono_l k
  ·intro y0 y1 y2 y3
   unfold spec_RespRead.j0
   have m0 := @spec_NumRead.mono
   have m1 := @spec_RespText.mono
   have m2 := @spec_l3Fields.mono
   have m3 := @spec_l3Head.mono
   have m4 := @spec_l3Words.mono
   exact mo
theorem spec_RespRead.mono : ∀ a0 k, LeO (spec_RespRead.f k a0) (spec_RespRead.f (k + 1) a0) := by
 intro a0 k
 have ih0 := spec_RespRead.mono_l k
 unfold spec_RespRead.f
 have m0 := @spec_NumRead.mono
 have m1 := @spec_RespText.mono
 have m2 := @spec_l3Fields.mono
 have m3 := @spec_l3Head.mono
 have m4 := @spec_l3Words.mono
 exact mo
def spec_RespRead.T8 : Bool × List (List Nat × List Nat) := (true, [([], []), ([], []), ([1], [1]), ([2], [2]), ([], []), ([], []), ([4, 5], [4, 5]), ([0, 3, 6], [0, 3, 6]), ([], []), ([8, 7, 3, 0, 1, 2, 3, 4, 5, 6, 7, 8], [7, 8])])
def spec_RespRead.B8 : List Nat := [0, 0, 2, 6, 0, 0, 48, 127, 0, 511]
theorem spec_RespRead.tab8 : rtab .any (opsOf Tryz.f27 8) = spec_RespRead.T8 := by kernel_rfl
theorem spec_RespRead.bits8 : waitsOk spec_RespRead.T8.2 spec_RespRead.B8 = true := by kernel_rfl
set_option maxHeartbeats 8000000 in
set_option maxRecDepth 100000 in
theorem spec_RespRead.calls (k : Nat) (a0 : ByteArray) (r1 : Int) (r2 : List (S100)) (r3 : ByteArray) (r4 : Bool) (w : World) (h : spec_RespRead.f k a0 = some (r1, r2, r3, r4)) :
  Calls Tryz.prog 27 #[.string a0] w fun e w' => ∃ v1_ : Value, e = .returned (.tuple #[.agg #[.int .i64 r1, v1_, .string r3], .bool r4]) ∧ Kd.R k100 100 w' w.heap.size (fun _ => True) v1_ r2 ∧ Below w.heap.size w w' := by
 have hu48 := Tryz.underlying48
 have HB := am (Below.refl w.heap.size w)
 unfold spec_RespRead.f at h
 have H := h
 clear h
 revert H
 refine ok2 fun t710 t711 A2 H => ?_
 (try dsimp only at H)
 have HC3 := am H
 clear H
 go_enter Tryz.func27, Tryz.ntmps27
 go_upto_region 2 with (first | ((with_reducible refine gate_dst (N := 2) rfl ?_); (try (refine gate_guard (by rfl) ?_; dsimp only)); refine box_event ?hg (N := 2) ?hd (cs := #[.int .i64 0, .slice none 0 0, .string (⟨#[]⟩ : ByteArray)]) (t := 48) ?hr ?_; (case hd => rfl); (case hg => rfl); (case hr => first | (go_simp; done) | (go_simp; rfl)); intro gb709 hg w4 hbox hb; have BK709 := am (hbox); have GW709 := am (sz hg : w.heap.size ≤ gb709); have GE709 := am (sz hg : w.heap.size ≤ gb709); replace HB := am (below_step bl hb); clear hb hbox hg) | (refine gl 12 Tryz.func86 #[.string a0] ?_; (with_reducible refine (spec_l3Head.calls k a0 t710 t711 _ A2.out).mono ?_); rintro e w5 ⟨v712, rfl, ho0, hb⟩; refine ⟨_, rfl, ?_⟩; have HO713 := am (Kd.R_lower ho0 (below_size bl)); replace BK709 := kb BK709 hb; replace HB := am (below_step bl hb); clear hb ho0))
 (try simp only [Act.put, List.setIfInBounds_toArray, List.set_cons_zero, List.set_cons_succ])
 go_cut [21] (fun v21 wc => ∃ (kq : Nat) (x21_2 : Bool), v21 = .bool x21_2 ∧ Aside0 (spec_RespRead.j0 kq a0 t710 t711 x21_2 = some (r1, r2, r3, r4)) ∧ Aside0 (kq ≤ k) ∧ Aside0 (Kd.R Kd.string 9 wc w.heap.size (fun _ => True) v712 t710) ∧ Aside0 (wc.heap[gb709]? = some (.cells #[.int .i64 0, (.slice none 0 0), .string (⟨#[]⟩ : ByteArray)] 48 (0, 0))) ∧ Aside0 (Below w.heap.size w wc))
 case first =>
  have H := HC3.out
  clear HC3
  by_cases c6 : t711 < 0
  ·rw [if_pos c6] at H
   have c6b0 := decide_eq_true c6
   clear c6
   (first | rw [c6b0] | (simp only [i64_w, i32_w]; rw [c6b0]) | skip)
   have H' := am H
   clear H
   go_wp2
   go_meet
   case rel => exact ⟨_, (true), rs, H', ⟨by first | omega | exact Nat.le_refl _⟩, ⟨by (with_reducible repeat (first | apply Kd.R_alloc | apply Kd.R_drewN | apply Kd.R_drew)); exact HO713.out⟩, ⟨by (with_reducible repeat (first | refine blk_drewN ?_ _ | refine blk_drew ?_ | refine blk_alloc ?_ _)); exact BK709.out⟩, ⟨u27HB⟩⟩
  rw [if_neg c6] at H
  have c6b0 := decide_eq_false c6
  clear c6
  (first | rw [c6b0] | (simp only [i64_w, i32_w]; rw [c6b0]) | skip)
  have H' := am H
  clear H
  obtain ⟨Ao7, co7, eo7⟩ := Kd.R_slice HO713.out
  subst eo7
  go_wp2
  go_meet
  case rel => exact ⟨_, (((t710.length : Int) == 0)), rs, H', ⟨by first | omega | exact Nat.le_refl _⟩, ⟨by (with_reducible repeat (first | apply Kd.R_alloc | apply Kd.R_drewN | apply Kd.R_drew)); exact HO713.out⟩, ⟨by (with_reducible repeat (first | refine blk_drewN ?_ _ | refine blk_drew ?_ | refine blk_alloc ?_ _)); exact BK709.out⟩, ⟨u27HB⟩⟩
 case rest =>
  clear HC3
  try clear c2
  try clear p2
  try clear c6
  try clear c6b0
  obtain ⟨kq, x21_2, rfl, HA, HJ2, HO_4, BK709, HB⟩ := hcut
  cases kq with
  | zero => exact absurd HA.out (by simp [spec_RespRead.j0])
  | succ kj2 =>
   have H := HA.out
   clear HA
   simp only [spec_RespRead.j0] at H
   by_cases c8 : x21_2 = true
   ·subst c8
    rw [if_pos rfl] at H
    simp only [Option.some.injEq, Prod.mk.injEq] at H
    obtain ⟨rfl, rfl, rfl, rfl⟩ := H
    obtain ⟨z9_0, y9_0, z9_1, y9_1, z9_2, y9_2⟩ := cl3 BK709
    go_wp2
    refine bodyPost_ret (results_ct rfl _ _ gb709 48 #[.int .i64 0, .slice none 0 0, .string (⟨#[]⟩ : ByteArray)] (0, 0) _ rfl (pt0 BK709) Tryz.underlying48 rfl (by kernel_rfl)) rfl ?_
    exact ⟨_, rf, by first | exact Kd.R_nil _ _ _ _ _ | exact Kd.N_nil _ _ _ _ _ | exact Kd.V_nil _ _ _ _ _ | exact Kd.Q_nil _ _ _ _ _ | exact Kd.S_nil _ _ _ _ _, bl⟩
   replace c8 := Bool.eq_false_iff.mpr c8
   subst c8
   rw [if_neg (show ¬ (false = true) by decide)] at H
   revert H
   refine ifn fun c10 H => ?_
   have c10b0 := decide_eq_true c10
   have c10b1 : decide (0 < t710.length) = true := decide_eq_true (by omega)
   clear c10
   revert H
   refine ok1 fun t715 A11 H => ?_
   by_cases c12 : (t715.length : Int) = 3
   rotate_left
   ·rw [if_neg c12] at H
    have c12b0 : ((t715.length : Int) == 3) = false := beq_eq_false_iff_ne.mpr c12
    have c12b1 : ((t715.length : Int) != 3) = true := bne_iff_ne.mpr c12
    simp only [Option.some.injEq, Prod.mk.injEq] at H
    obtain ⟨rfl, rfl, rfl, rfl⟩ := H
    obtain ⟨Ao58, co58, eo58⟩ := Kd.R_slice HO_4.out
    subst eo58
    have p714 : 0 ≤ (0 : Int) := (by omega)
    have q714 : 0 < (t710.length : Int) := od
    obtain ⟨ad714, e714, hx714_0⟩ := Kd.at_string (Kd.R_reads' HO_4.out).2.2 0 p714 q714
    cases e714
    have qi714 : (0 < t710.length) = True := eq_true (by omega)
    (try rw [show ((0 : Int)).toNat = 0 from rfl] at hx714_0)
    (try rw [Addr.add_zero'] at hx714_0)
    replace p714 := eq_true p714
    replace q714 := eq_true q714
    go_wp2_with (first | (refine gl 26 Tryz.func87 #[.string (rdOf ByteArray.empty t710 0)] ?_; (with_reducible refine (spec_l3Words.calls kj2 (rdOf ByteArray.empty t710 0) t715 _ A11.out).mono ?_); rintro e w59 ⟨v716, rfl, ho0, hb⟩; refine ⟨_, rfl, ?_⟩; have HO717 := am (Kd.R_lower (Kd.R_new' ho0 (Kd.R_lt (ro HO_4))) (below_size bl)); replace HO_4 := am (Kd.R_elder' (ro HO_4) (Kd.R_base ho0) hb); replace BK709 := kb BK709 hb; replace HB := am (below_step bl hb); clear hb ho0; obtain ⟨Ao60, co60, eo60⟩ := Kd.R_slice HO717.out; subst eo60; obtain ⟨z61_0, y61_0, z61_1, y61_1, z61_2, y61_2⟩ := cl3 BK709))
    refine bodyPost_ret (results_ct rfl _ _ gb709 48 #[.int .i64 0, .slice none 0 0, .string (⟨#[]⟩ : ByteArray)] (0, 0) _ rfl (pt0 BK709) Tryz.underlying48 rfl (by kernel_rfl)) rfl ?_
    exact ⟨_, rf, by first | exact Kd.R_nil _ _ _ _ _ | exact Kd.N_nil _ _ _ _ _ | exact Kd.V_nil _ _ _ _ _ | exact Kd.Q_nil _ _ _ _ _ | exact Kd.S_nil _ _ _ _ _, bl⟩
   rw [if_pos c12] at H
   have c12b0 : ((t715.length : Int) == 3) = true := beq_iff_eq.mpr c12
   have c12b1 : ((t715.length : Int) != 3) = false := bne_eq_false_iff_eq.mpr c12
   clear c12
   revert H
   refine ifn fun c13 H => ?_
   have c13b0 := decide_eq_true c13
   have c13b1 : decide (1 < t715.length) = true := decide_eq_true (by omega)
   clear c13
   revert H
   refine ok2 fun t719 t720 A14 H => ?_
   (try dsimp only at H)
   revert H
   refine ifn fun c15 H => ?_
   have c15b0 := eq_true c15
   have c15b1 := decide_eq_true c15
   clear c15
   obtain ⟨y721, hy721⟩ : ∃ y_ : List ByteArray, y_ = (t710.drop 1) := ⟨_, rfl⟩
   replace H : ((spec_l3Fields.f kj2 y721).bind fun t725 => (if 0 ≤ t711 then (if t711 ≤ (a0.size : Int) then ((spec_RespText.f kj2 t719 t725 (a0.extract (t711 : Int).toNat a0.size)).bind fun t729 => (if t729.toList = a0.toList then (some (t719, t725, a0.extract (t711 : Int).toNat a0.size, true)) else (some (0, ([] : List (S100)), (⟨#[]⟩ : ByteArray), false)))) else (none)) else (none))) = some (r1, r2, r3, r4) := by first | (rw [hy721]; with_reducible exact H) | (have H2_ := (Option.bind_some _ _).symm.trans H; rw [hy721]; with_reducible exact H2_) | (have H2_ := (Option.bind_some _ _).symm.trans H; with_reducible exact H2_) | with_reducible exact H | (rw [hy721]; exact H) | exact H
   have Ny721 := am hy721
   clear hy721
   revert H
   refine ok1 fun t725 A16 H => ?_
   revert H
   refine ifn fun c17 H => ?_
   have c17b0 := eq_true c17
   have c17b1 := decide_eq_true c17
   clear c17
   revert H
   refine ifn fun c18 H => ?_
   have c18b0 := eq_true c18
   have c18b1 := decide_eq_true c18
   clear c18
   revert H
   refine ok1 fun t729 A19 H => ?_
   by_cases c20 : t729.toList = a0.toList
   rotate_left
   ·rw [if_neg c20] at H
    have c20b0 : (t729.toList == a0.toList) = false := beq_eq_false_iff_ne.mpr c20
    have c20b1 : (t729.toList != a0.toList) = true := bne_iff_ne.mpr c20
    simp only [Option.some.injEq, Prod.mk.injEq] at H
    obtain ⟨rfl, rfl, rfl, rfl⟩ := H
    obtain ⟨Ao40, co40, eo40⟩ := Kd.R_slice HO_4.out
    subst eo40
    have p714 : 0 ≤ (0 : Int) := (by omega)
    have q714 : 0 < (t710.length : Int) := od
    obtain ⟨ad714, e714, hx714_0⟩ := Kd.at_string (Kd.R_reads' HO_4.out).2.2 0 p714 q714
    cases e714
    have qi714 : (0 < t710.length) = True := eq_true (by omega)
    (try rw [show ((0 : Int)).toNat = 0 from rfl] at hx714_0)
    (try rw [Addr.add_zero'] at hx714_0)
    replace p714 := eq_true p714
    replace q714 := eq_true q714
    try go_wp2_with (first | (refine gl 26 Tryz.func87 #[.string (rdOf ByteArray.empty t710 0)] ?_; (with_reducible refine (spec_l3Words.calls kj2 (rdOf ByteArray.empty t710 0) t715 _ A11.out).mono ?_); rintro e w41 ⟨v716, rfl, ho0, hb⟩; refine ⟨_, rfl, ?_⟩; have HO717 := am (Kd.R_lower (Kd.R_new' ho0 (Kd.R_lt (ro HO_4))) (below_size bl)); replace HO_4 := am (Kd.R_elder' (ro HO_4) (Kd.R_base ho0) hb); replace BK709 := kb BK709 hb; replace HB := am (below_step bl hb); clear hb ho0; obtain ⟨Ao42, co42, eo42⟩ := Kd.R_slice HO717.out; subst eo42; have p718 : 0 ≤ (1 : Int) := (by omega); have q718 : 1 < (t715.length : Int) := od; obtain ⟨ad718, e718, hx718_0⟩ := Kd.at_string (Kd.R_reads' HO717.out).2.2 1 p718 q718; cases e718; (try simp only [show (1 : Int).toNat = 1 from rfl, Nat.reduceMul, Nat.reduceEqDiff, Go.Addr.add, ↓reduceIte] at hx718_0); have qi718 : (1 < t715.length) = True := eq_true (by omega); (try rw [show ((1 : Int)).toNat = 1 from rfl] at hx718_0); replace p718 := eq_true p718; replace q718 := eq_true q718) | (refine gl 35 Tryz.func89 #[.string (rdOf ByteArray.empty t715 1)] ?_; (with_reducible refine (spec_NumRead.calls kj2 (rdOf ByteArray.empty t715 1) t719 t720 _ A14.out).mono ?_); rintro e w43 ⟨rfl, hb⟩; refine ⟨_, rfl, ?_⟩; replace HO_4 := kr HO_4 hb; replace HO717 := kr HO717 hb; replace BK709 := kb BK709 hb; replace HB := am (below_step bl hb); clear hb))
    replace HO_4 := am (Kd.R_drew HO_4.out)
    replace HO717 := am (Kd.R_drew HO717.out)
    replace BK709 := am (blk_drew BK709.out)
    replace HB := am (below_drew1 HB.out)
    have q45 : (1 : Int) ≤ ((t710.length : Int) : Int) := od
    obtain ⟨i045, hi045, _, hsz45, _⟩ := info_parts info9
    have hroom45 : t710.length ≤ co40 := (Kd.R_reads' HO_4.out).2.1
    have hC45 : Kd.C Kd.string _ (some ad714) t710.length t710 := (Kd.R_reads' HO_4.out).2.2
    have hcut45 := cut_from (P := Tryz.prog) 35 9 .i64 Tryz.underlying35 hi045 1 hsz45 (some ad714) t710.length co40 1 (by omega) q45
    have hr45 := Kd.C_drop (m := (1 : Int).toNat) (c := co40) hC45 (by omega) hroom45
    obtain ⟨A45, hA45⟩ : ∃ A1, A1 = (if co40 = (1 : Int).toNat then (some ad714) else ((some ad714) : Option Addr).map (·.add ((1 : Int).toNat * 1))) := ⟨_, rfl⟩
    obtain ⟨c45, hc45⟩ : ∃ c1, c1 = co40 - (1 : Int).toNat := ⟨_, rfl⟩
    have hy45 : y721.length = t710.length - (1 : Int).toNat := (by rw [Ny721.out, List.length_drop] <;> omega)
    rw [show (t710).drop (1 : Int).toNat = y721 from Ny721.out.symm] at hr45
    replace hr45 : Kd.C Kd.string _ A45 y721.length y721 := (by rw [hA45]; exact hr45)
    rw [← hy45, ← hA45, ← hc45] at hcut45
    have HR724 := am hr45
    have HC724 := am (show y721.length ≤ c45 from by rw [hy45, hc45]; exact Nat.sub_le_sub_right hroom45 _)
    clear hr45 hC45 hroom45 hi045 hsz45 hc45
    have KY45 := am hy45
    have KA45 := am hA45
    clear hy45 hA45
    have KL45 := am (show 1 ≤ t710.length from by omega)
    replace q45 := eq_true q45
    refine start_ (n := 10) (S := fun w' => True) (ds := []) ⟨br true [0, 10]⟩ (by kernel_rfl) rfl (by kernel_rfl) trivial (fun hHeld => ?_); refine with_tabW spec_RespRead.tab8 spec_RespRead.bits8 (fun HT_ HW_ => ?_)
    generalize w43.drew = w44 at HO_4 HO717 BK709 HB HR724 hHeld ⊢
    refine pu 0 38 [1, 9] ?_
    refine pu 1 39 [2, 8] ?_
    refine pu 2 40 [3, 7] ?_
    refine pu 4 42 [3, 1, 1, 5] ?_
    refine pu 5 43 [3, 1, 2, 4] ?_
    refine pu 6 44 [3, 1, 3, 3] ?_
    refine join_ (σ := Value × Nat) 1 #[true, true, true, true, true, true, true, true, true, false] (fun s_ => [(41, s_.1), (9, .pointer (some ⟨s_.2, 0, none⟩)), (45, .agg #[.int .i64 t719, s_.1, .string (a0.extract (t711 : Int).toNat a0.size)])]) (fun s_ w' => (Kd.R Kd.string 9 w' w.heap.size (fun k_ => some k_ ≠ (.slice (some ad714) t710.length co40 : Value).ownBlock) (.slice (some ad718) t715.length co42) t715) ∧ (Kd.R k100 100 w' w.heap.size (fun _ => True) s_.1 t725) ∧ (Kd.R Kd.string 9 w' w.heap.size (fun k_ => some k_ ≠ (.slice (some ad718) t715.length co42 : Value).ownBlock) (.slice (some ad714) t710.length co40) t710) ∧ (w'.heap[gb709]? = some (.cells #[.int .i64 0, .slice none 0 0, .string (⟨#[]⟩ : ByteArray)] 48 (0, 0))) ∧ (w'.heap[s_.2]? = some (.cells #[.int .i64 0, .slice none 0 0, .string (⟨#[]⟩ : ByteArray)] 48 (0, 0))) ∧ (w.heap.size ≤ s_.2) ∧ (w.heap.size ≤ s_.2) ∧ (gb709 ≠ s_.2) ∧ (s_.2 ≠ gb709) ∧ (Below w.heap.size w w')) ?_ ?_
    rotate_left
    ·intro hCont
     refine two_ (i := 3) (j := 8) (Ni := some 41) (Nj := some 9) #[true, true, true, true, true, true, true, false, false, false] #[true, true, true, false, true, true, true, false, true, false] rfl rfl rfl rfl (two_of HT_.out (by kernel_rfl)) (by decide) (by decide) (fun K hK => ?_) (fun K hK => ?_)
     ·skip
      refine goes_ Tryz.func88 (by kernel_rfl) rfl #[.slice A45 y721.length c45] (by rfl) rfl rfl ma ?_
      with_reducible refine (spec_l3Fields.calls kj2 _ _ y721 t725 _ ?side1 ?side2 A16.out).mono ?_
      (case side1 => repeat (first | exact (by repeat (first | (with_reducible exact HR724.out) | (with_reducible refine Kd.C_alloc ?_ _) | (with_reducible refine Kd.C_drewN ?_ _) | (with_reducible refine Kd.C_drew ?_) | exact HR724.out)) | (with_reducible refine Kd.C_alloc ?_ _) | (with_reducible refine Kd.C_drewN ?_ _) | (with_reducible refine Kd.C_drew ?_)))
      (case side2 => exact HC724.out)
      rintro e w46 ⟨v726, rfl, ho0, hb⟩
      refine ⟨_, rfl, ?_⟩
      replace HO_4 := kr HO_4 hb
      replace HO717 := kr HO717 hb
      have HO727 := am (Kd.R_lower ho0 (below_size bl))
      replace BK709 := kb BK709 hb
      replace HR724 := am (Kd.C_below (by repeat (first | (with_reducible exact HR724.out) | (with_reducible refine Kd.C_alloc ?_ _) | (with_reducible refine Kd.C_drewN ?_ _) | (with_reducible refine Kd.C_drew ?_) | exact HR724.out)) hb)
      replace HB := am (below_step bl hb)
      clear hb ho0
      obtain ⟨Ao47, co47, eo47⟩ := Kd.R_slice HO727.out
      (first | subst eo47 | (injection eo47 with f1_ f2_ f3_; have f4_ := f1_.symm; have f5_ := f3_.symm; clear f1_ f2_ f3_; subst f4_; subst f5_))
      refine hK.out _ _ trivial (fun hHeld => ?_)
      clear hK K
      refine nm 41 ?_
      refine pu 7 45 [8, 2] ?_
      refine one_ (i := 8) (N := some 9) #[true, true, true, true, true, true, true, true, true, false] rfl rfl (one_of HT_.out (by kernel_rfl)) (by decide) (fun K hK => ?_)
      refine box_step ?hg (N := 9) ?hd (cs := #[.int .i64 0, .slice none 0 0, .string (⟨#[]⟩ : ByteArray)]) (t := 48) ?hr ?_; (case hd => rfl); (case hg => rfl); (case hr => first | (go_simp; done) | (go_simp; rfl))
      intro gb728 hg w48 hbox hb
      replace HO_4 := am (Kd.R_below (ro HO_4) hb)
      replace HO717 := am (Kd.R_below (ro HO717) hb)
      replace HO727 := am (Kd.R_below (ro HO727) hb)
      replace HR724 := am (Kd.C_below (by repeat (first | (with_reducible exact HR724.out) | (with_reducible refine Kd.C_alloc ?_ _) | (with_reducible refine Kd.C_drewN ?_ _) | (with_reducible refine Kd.C_drew ?_) | exact HR724.out)) hb)
      have BK728 := am (hbox)
      have GW728 := am (sz hg : w.heap.size ≤ gb728)
      have GE728 := am (sz hg : w.heap.size ≤ gb728)
      replace HB := am (below_step bl hb)
      have NB709_728 := am (nl hg BK709 : gb709 ≠ gb728)
      have NB728_709 := am (ng hg BK709 : gb728 ≠ gb709)
      replace BK709 := kb BK709 hb
      clear hb hbox hg
      refine hK.out _ _ trivial (fun hHeld => ?_)
      clear hK K
      refine nm 9 ?_
      exact norm_ (by simp only [putAll, Act.put, List.setIfInBounds_toArray, List.set_cons_zero, List.set_cons_succ]) (hCont (.slice Ao47 t725.length co47, gb728) _ ⟨(by (with_reducible repeat (first | apply Kd.R_alloc | apply Kd.R_drewN | apply Kd.R_drew)); exact Kd.R_mono HO717.out (fun _ hk => hk.2)), (ro HO727), (by (with_reducible repeat (first | apply Kd.R_alloc | apply Kd.R_drewN | apply Kd.R_drew)); exact Kd.R_mono HO_4.out (fun _ hk => hk.2)), (bk BK709), (bk BK728), GW728.out, GE728.out, NB709_728.out, NB728_709.out, bl⟩)
     ·skip
      refine box_step ?hg (N := 9) ?hd (cs := #[.int .i64 0, .slice none 0 0, .string (⟨#[]⟩ : ByteArray)]) (t := 48) ?hr ?_; (case hd => rfl); (case hg => rfl); (case hr => first | (go_simp; done) | (go_simp; rfl))
      intro gb728 hg w46 hbox hb
      replace HO_4 := am (Kd.R_below (ro HO_4) hb)
      replace HO717 := am (Kd.R_below (ro HO717) hb)
      replace HR724 := am (Kd.C_below (by repeat (first | (with_reducible exact HR724.out) | (with_reducible refine Kd.C_alloc ?_ _) | (with_reducible refine Kd.C_drewN ?_ _) | (with_reducible refine Kd.C_drew ?_) | exact HR724.out)) hb)
      have BK728 := am (hbox)
      have GW728 := am (sz hg : w.heap.size ≤ gb728)
      have GE728 := am (sz hg : w.heap.size ≤ gb728)
      replace HB := am (below_step bl hb)
      have NB709_728 := am (nl hg BK709 : gb709 ≠ gb728)
      have NB728_709 := am (ng hg BK709 : gb728 ≠ gb709)
      replace BK709 := kb BK709 hb
      clear hb hbox hg
      refine hK.out _ _ trivial (fun hHeld => ?_)
      clear hK K
      refine nm 9 ?_
      refine og 3 41 [7, 1, 1, 1] Tryz.func88 #[.slice A45 y721.length c45] (fun K hK => ?_)
      with_reducible refine (spec_l3Fields.calls kj2 _ _ y721 t725 _ ?side1 ?side2 A16.out).mono ?_
      (case side1 => repeat (first | exact (by repeat (first | (with_reducible exact HR724.out) | (with_reducible refine Kd.C_alloc ?_ _) | (with_reducible refine Kd.C_drewN ?_ _) | (with_reducible refine Kd.C_drew ?_) | exact HR724.out)) | (with_reducible refine Kd.C_alloc ?_ _) | (with_reducible refine Kd.C_drewN ?_ _) | (with_reducible refine Kd.C_drew ?_)))
      (case side2 => exact HC724.out)
      rintro e w47 ⟨v726, rfl, ho0, hb⟩
      refine ⟨_, rfl, ?_⟩
      replace HO_4 := kr HO_4 hb
      replace HO717 := kr HO717 hb
      have HO727 := am (Kd.R_lower ho0 (below_size bl))
      replace BK709 := kb BK709 hb
      replace HR724 := am (Kd.C_below (by repeat (first | (with_reducible exact HR724.out) | (with_reducible refine Kd.C_alloc ?_ _) | (with_reducible refine Kd.C_drewN ?_ _) | (with_reducible refine Kd.C_drew ?_) | exact HR724.out)) hb)
      replace BK728 := kb BK728 hb
      replace HB := am (below_step bl hb)
      clear hb ho0
      obtain ⟨Ao48, co48, eo48⟩ := Kd.R_slice HO727.out
      (first | subst eo48 | (injection eo48 with f1_ f2_ f3_; have f4_ := f1_.symm; have f5_ := f3_.symm; clear f1_ f2_ f3_; subst f4_; subst f5_))
      refine hK.out _ _ trivial (fun hHeld => ?_)
      clear hK K
      refine nm 41 ?_
      refine pu 7 45 [9, 1] ?_
      exact norm_ (by simp only [putAll, Act.put, List.setIfInBounds_toArray, List.set_cons_zero, List.set_cons_succ]) (hCont (.slice Ao48 t725.length co48, gb728) _ ⟨(by (with_reducible repeat (first | apply Kd.R_alloc | apply Kd.R_drewN | apply Kd.R_drew)); exact Kd.R_mono HO717.out (fun _ hk => hk.2)), (ro HO727), (by (with_reducible repeat (first | apply Kd.R_alloc | apply Kd.R_drewN | apply Kd.R_drew)); exact Kd.R_mono HO_4.out (fun _ hk => hk.2)), (bk BK709), (bk BK728), GW728.out, GE728.out, NB709_728.out, NB728_709.out, bl⟩)
    rintro ⟨v726, gb728⟩ w49 ⟨h0_, h1_, h2_, h3_, h4_, h5_, h6_, h7_, h8_, h9_⟩
    have n0_ : Aside0 (Kd.R Kd.string 9 w49 w.heap.size (fun k_ => some k_ ≠ (.slice (some ad714) t710.length co40 : Value).ownBlock) (.slice (some ad718) t715.length co42) t715) := ⟨h0_⟩
    have n1_ : Aside0 (Kd.R k100 100 w49 w.heap.size (fun _ => True) v726 t725) := ⟨h1_⟩
    have n2_ : Aside0 (Kd.R Kd.string 9 w49 w.heap.size (fun k_ => some k_ ≠ (.slice (some ad718) t715.length co42 : Value).ownBlock) (.slice (some ad714) t710.length co40) t710) := ⟨h2_⟩
    have n3_ : Aside0 (w49.heap[gb709]? = some (.cells #[.int .i64 0, .slice none 0 0, .string (⟨#[]⟩ : ByteArray)] 48 (0, 0))) := ⟨h3_⟩
    have n4_ : Aside0 (w49.heap[gb728]? = some (.cells #[.int .i64 0, .slice none 0 0, .string (⟨#[]⟩ : ByteArray)] 48 (0, 0))) := ⟨h4_⟩
    have n5_ : Aside0 (w.heap.size ≤ gb728) := ⟨h5_⟩
    have n6_ : Aside0 (w.heap.size ≤ gb728) := ⟨h6_⟩
    have n7_ : Aside0 (gb709 ≠ gb728) := ⟨h7_⟩
    have n8_ : Aside0 (gb728 ≠ gb709) := ⟨h8_⟩
    have n9_ : Aside0 (Below w.heap.size w w49) := ⟨h9_⟩
    clear HO_4
    clear HO717
    clear BK709
    clear HB
    clear h0_ h1_ h2_ h3_ h4_ h5_ h6_ h7_ h8_ h9_
    have HO717 := n0_
    have HO727 := n1_
    have HO_4 := n2_
    have BK709 := n3_
    have BK728 := n4_
    have GW728 := n5_
    have GE728 := n6_
    have NB709_728 := n7_
    have NB728_709 := n8_
    have HB := n9_
    clear n0_ n1_ n2_ n3_ n4_ n5_ n6_ n7_ n8_ n9_
    have hHeld := trivial
    obtain ⟨Ao50, co50, eo50⟩ := Kd.R_slice HO727.out
    (first | subst eo50 | (injection eo50 with f1_ f2_ f3_; have f4_ := f1_.symm; have f5_ := f3_.symm; clear f1_ f2_ f3_; subst f4_; subst f5_))
    refine norm_ (a' := ?_) ?_ ?_
    rotate_left
    ·simp only [putAll, Act.put, List.setIfInBounds_toArray, List.set_cons_zero, List.set_cons_succ]
     rfl
    refine one_ (i := 9) (N := none) #[true, true, true, true, true, true, true, true, true, true] rfl rfl (one_of HT_.out (by kernel_rfl)) (by decide) (fun K hK => ?_)
    have hs51 : w49.cell? ⟨gb728, 0, none⟩ = some (.int .i64 0) := bc BK728
    have hfs51 := blk_frozen BK728.out 0
    have hns51_0 := NB709_728.out
    have hms51_0 := NB728_709.out
    have hs52 : w49.cell? ⟨gb728, 1, none⟩ = some (.slice none 0 0) := bc BK728
    have hfs52 := blk_frozen BK728.out 1
    have hns52_0 := NB709_728.out
    have hms52_0 := NB728_709.out
    have hs53 : w49.cell? ⟨gb728, 2, none⟩ = some (.string (⟨#[]⟩ : ByteArray)) := bc BK728
    have hfs53 := blk_frozen BK728.out 2
    have hns53_0 := NB709_728.out
    have hms53_0 := NB728_709.out
    refine skip_ (w1 := ?_) (by rfl) rfl ?_ ?_
    rotate_left
    ·go_simp
     rfl
    refine hK.out _ _ trivial (fun hHeld => ?_)
    clear hK K
    refine done_ (done_of HT_.out (by kernel_rfl)) ?_
    have hnb54 := NB728_709.out
    have hnc54 := NB709_728.out
    obtain ⟨z55_0, y55_0, z55_1, y55_1, z55_2, y55_2⟩ := cl3 BK728
    try go_wp2_with (first | (refine gl 47 Tryz.func34 #[.agg #[.int .i64 t719, .slice Ao50 t725.length co50, .string (a0.extract (t711 : Int).toNat a0.size)]] ?_; (with_reducible refine (spec_RespText.calls kj2 t719 _ _ t725 (a0.extract (t711 : Int).toNat a0.size) t729 _ ?side1 ?side2 A19.out).mono ?_); (case side1 => refine (Kd.R_reads' (e := 100) (base := w.heap.size) (ok := fun k_ => True) (n := t725.length) (c := co50) ?_).2.2; exact (by (with_reducible repeat (first | apply Kd.R_alloc | apply Kd.R_drewN | apply Kd.R_drew)); exact (Kd.R_mono (Kd.R_far (p := ⟨gb728, 2, none⟩) (Kd.R_far (p := ⟨gb728, 1, none⟩) (Kd.R_far (p := ⟨gb728, 0, none⟩) (Kd.R_types HO727.out BK728.out (by decide)) (fun _ hk => hk.2) (.int .i64 t719)) (fun _ hk => hk.2) (.slice Ao50 t725.length co50)) (fun _ hk => hk.2) (.string (a0.extract (t711 : Int).toNat a0.size))) (fun _ h_ => h_.1)))); (case side2 => exact (Kd.R_reads' HO727.out).2.1); rintro e w56 ⟨rfl, hb⟩; refine ⟨_, rfl, ?_⟩; have n0_ := am (Kd.R_below (by (with_reducible repeat (first | apply Kd.R_alloc | apply Kd.R_drewN | apply Kd.R_drew)); exact (Kd.R_mono (Kd.R_far (p := ⟨gb728, 2, none⟩) (Kd.R_far (p := ⟨gb728, 1, none⟩) (Kd.R_far (p := ⟨gb728, 0, none⟩) (Kd.R_types HO_4.out BK728.out (by decide)) (fun _ hk => hk.2) (.int .i64 t719)) (fun _ hk => hk.2) (.slice Ao50 t725.length co50)) (fun _ hk => hk.2) (.string (a0.extract (t711 : Int).toNat a0.size))) (fun _ h_ => h_.1))) hb); have n1_ := am (Kd.R_below (by (with_reducible repeat (first | apply Kd.R_alloc | apply Kd.R_drewN | apply Kd.R_drew)); exact (Kd.R_mono (Kd.R_far (p := ⟨gb728, 2, none⟩) (Kd.R_far (p := ⟨gb728, 1, none⟩) (Kd.R_far (p := ⟨gb728, 0, none⟩) (Kd.R_types HO717.out BK728.out (by decide)) (fun _ hk => hk.2) (.int .i64 t719)) (fun _ hk => hk.2) (.slice Ao50 t725.length co50)) (fun _ hk => hk.2) (.string (a0.extract (t711 : Int).toNat a0.size))) (fun _ h_ => h_.1))) hb); have n2_ := am (Kd.R_below (by (with_reducible repeat (first | apply Kd.R_alloc | apply Kd.R_drewN | apply Kd.R_drew)); exact (Kd.R_mono (Kd.R_far (p := ⟨gb728, 2, none⟩) (Kd.R_far (p := ⟨gb728, 1, none⟩) (Kd.R_far (p := ⟨gb728, 0, none⟩) (Kd.R_types HO727.out BK728.out (by decide)) (fun _ hk => hk.2) (.int .i64 t719)) (fun _ hk => hk.2) (.slice Ao50 t725.length co50)) (fun _ hk => hk.2) (.string (a0.extract (t711 : Int).toNat a0.size))) (fun _ h_ => h_.1))) hb); have n3_ := kg1 BK709 NB709_728 hb; have n4_ := am (blk_below (g := gb728) (o := .cells #[.int .i64 t719, .slice Ao50 t725.length co50, .string (a0.extract (t711 : Int).toNat a0.size)] 48 (0, 0)) (pt0 BK728) hb); have n5_ := am (below_step bl hb); clear HO_4; clear HO717; clear HO727; clear BK709; clear BK728; clear HB; have HO_4 := n0_; have HO717 := n1_; have HO727 := n2_; have BK709 := n3_; have BK728 := n4_; have HB := n5_; clear n0_ n1_ n2_ n3_ n4_ n5_; clear hb; obtain ⟨z57_0, y57_0, z57_1, y57_1, z57_2, y57_2⟩ := cl3 BK709))
    refine bodyPost_ret (results_ct rfl _ _ gb709 48 #[.int .i64 0, .slice none 0 0, .string (⟨#[]⟩ : ByteArray)] (0, 0) _ rfl (pt0 BK709) Tryz.underlying48 rfl (by kernel_rfl)) rfl ?_
    exact ⟨_, rf, by first | exact Kd.R_nil _ _ _ _ _ | exact Kd.N_nil _ _ _ _ _ | exact Kd.V_nil _ _ _ _ _ | exact Kd.Q_nil _ _ _ _ _ | exact Kd.S_nil _ _ _ _ _, bl⟩
   rw [if_pos c20] at H
   have c20b0 : (t729.toList == a0.toList) = true := beq_iff_eq.mpr c20
   have c20b1 : (t729.toList != a0.toList) = false := bne_eq_false_iff_eq.mpr c20
   clear c20
   simp only [Option.some.injEq, Prod.mk.injEq] at H
   obtain ⟨rfl, rfl, rfl, rfl⟩ := H
   obtain ⟨Ao21, co21, eo21⟩ := Kd.R_slice HO_4.out
   subst eo21
   have p714 : 0 ≤ (0 : Int) := (by omega)
   have q714 : 0 < (t710.length : Int) := od
   obtain ⟨ad714, e714, hx714_0⟩ := Kd.at_string (Kd.R_reads' HO_4.out).2.2 0 p714 q714
   cases e714
   have qi714 : (0 < t710.length) = True := eq_true (by omega)
   (try rw [show ((0 : Int)).toNat = 0 from rfl] at hx714_0)
   (try rw [Addr.add_zero'] at hx714_0)
   replace p714 := eq_true p714
   replace q714 := eq_true q714
   try go_wp2_with (first | (refine gl 26 Tryz.func87 #[.string (rdOf ByteArray.empty t710 0)] ?_; (with_reducible refine (spec_l3Words.calls kj2 (rdOf ByteArray.empty t710 0) t715 _ A11.out).mono ?_); rintro e w22 ⟨v716, rfl, ho0, hb⟩; refine ⟨_, rfl, ?_⟩; have HO717 := am (Kd.R_lower (Kd.R_new' ho0 (Kd.R_lt (ro HO_4))) (below_size bl)); replace HO_4 := am (Kd.R_elder' (ro HO_4) (Kd.R_base ho0) hb); replace BK709 := kb BK709 hb; replace HB := am (below_step bl hb); clear hb ho0; obtain ⟨Ao23, co23, eo23⟩ := Kd.R_slice HO717.out; subst eo23; have p718 : 0 ≤ (1 : Int) := (by omega); have q718 : 1 < (t715.length : Int) := od; obtain ⟨ad718, e718, hx718_0⟩ := Kd.at_string (Kd.R_reads' HO717.out).2.2 1 p718 q718; cases e718; (try simp only [show (1 : Int).toNat = 1 from rfl, Nat.reduceMul, Nat.reduceEqDiff, Go.Addr.add, ↓reduceIte] at hx718_0); have qi718 : (1 < t715.length) = True := eq_true (by omega); (try rw [show ((1 : Int)).toNat = 1 from rfl] at hx718_0); replace p718 := eq_true p718; replace q718 := eq_true q718) | (refine gl 35 Tryz.func89 #[.string (rdOf ByteArray.empty t715 1)] ?_; (with_reducible refine (spec_NumRead.calls kj2 (rdOf ByteArray.empty t715 1) t719 t720 _ A14.out).mono ?_); rintro e w24 ⟨rfl, hb⟩; refine ⟨_, rfl, ?_⟩; replace HO_4 := kr HO_4 hb; replace HO717 := kr HO717 hb; replace BK709 := kb BK709 hb; replace HB := am (below_step bl hb); clear hb))
   replace HO_4 := am (Kd.R_drew HO_4.out)
   replace HO717 := am (Kd.R_drew HO717.out)
   replace BK709 := am (blk_drew BK709.out)
   replace HB := am (below_drew1 HB.out)
   have q26 : (1 : Int) ≤ ((t710.length : Int) : Int) := od
   obtain ⟨i026, hi026, _, hsz26, _⟩ := info_parts info9
   have hroom26 : t710.length ≤ co21 := (Kd.R_reads' HO_4.out).2.1
   have hC26 : Kd.C Kd.string _ (some ad714) t710.length t710 := (Kd.R_reads' HO_4.out).2.2
   have hcut26 := cut_from (P := Tryz.prog) 35 9 .i64 Tryz.underlying35 hi026 1 hsz26 (some ad714) t710.length co21 1 (by omega) q26
   have hr26 := Kd.C_drop (m := (1 : Int).toNat) (c := co21) hC26 (by omega) hroom26
   obtain ⟨A26, hA26⟩ : ∃ A1, A1 = (if co21 = (1 : Int).toNat then (some ad714) else ((some ad714) : Option Addr).map (·.add ((1 : Int).toNat * 1))) := ⟨_, rfl⟩
   obtain ⟨c26, hc26⟩ : ∃ c1, c1 = co21 - (1 : Int).toNat := ⟨_, rfl⟩
   have hy26 : y721.length = t710.length - (1 : Int).toNat := (by rw [Ny721.out, List.length_drop] <;> omega)
   rw [show (t710).drop (1 : Int).toNat = y721 from Ny721.out.symm] at hr26
   replace hr26 : Kd.C Kd.string _ A26 y721.length y721 := (by rw [hA26]; exact hr26)
   rw [← hy26, ← hA26, ← hc26] at hcut26
   have HR724 := am hr26
   have HC724 := am (show y721.length ≤ c26 from by rw [hy26, hc26]; exact Nat.sub_le_sub_right hroom26 _)
   clear hr26 hC26 hroom26 hi026 hsz26 hc26
   have KY26 := am hy26
   have KA26 := am hA26
   clear hy26 hA26
   have KL26 := am (show 1 ≤ t710.length from by omega)
   replace q26 := eq_true q26
   refine start_ (n := 10) (S := fun w' => True) (ds := []) ⟨br true [0, 10]⟩ (by kernel_rfl) rfl (by kernel_rfl) trivial (fun hHeld => ?_); refine with_tabW spec_RespRead.tab8 spec_RespRead.bits8 (fun HT_ HW_ => ?_)
   generalize w24.drew = w25 at HO_4 HO717 BK709 HB HR724 hHeld ⊢
   refine pu 0 38 [1, 9] ?_
   refine pu 1 39 [2, 8] ?_
   refine pu 2 40 [3, 7] ?_
   refine pu 4 42 [3, 1, 1, 5] ?_
   refine pu 5 43 [3, 1, 2, 4] ?_
   refine pu 6 44 [3, 1, 3, 3] ?_
   refine join_ (σ := Value × Nat) 1 #[true, true, true, true, true, true, true, true, true, false] (fun s_ => [(41, s_.1), (9, .pointer (some ⟨s_.2, 0, none⟩)), (45, .agg #[.int .i64 t719, s_.1, .string (a0.extract (t711 : Int).toNat a0.size)])]) (fun s_ w' => (Kd.R Kd.string 9 w' w.heap.size (fun k_ => some k_ ≠ (.slice (some ad714) t710.length co21 : Value).ownBlock) (.slice (some ad718) t715.length co23) t715) ∧ (Kd.R k100 100 w' w.heap.size (fun _ => True) s_.1 t725) ∧ (Kd.R Kd.string 9 w' w.heap.size (fun k_ => some k_ ≠ (.slice (some ad718) t715.length co23 : Value).ownBlock) (.slice (some ad714) t710.length co21) t710) ∧ (w'.heap[gb709]? = some (.cells #[.int .i64 0, .slice none 0 0, .string (⟨#[]⟩ : ByteArray)] 48 (0, 0))) ∧ (w'.heap[s_.2]? = some (.cells #[.int .i64 0, .slice none 0 0, .string (⟨#[]⟩ : ByteArray)] 48 (0, 0))) ∧ (w.heap.size ≤ s_.2) ∧ (w.heap.size ≤ s_.2) ∧ (gb709 ≠ s_.2) ∧ (s_.2 ≠ gb709) ∧ (Below w.heap.size w w')) ?_ ?_
   rotate_left
   ·intro hCont
    refine two_ (i := 3) (j := 8) (Ni := some 41) (Nj := some 9) #[true, true, true, true, true, true, true, false, false, false] #[true, true, true, false, true, true, true, false, true, false] rfl rfl rfl rfl (two_of HT_.out (by kernel_rfl)) (by decide) (by decide) (fun K hK => ?_) (fun K hK => ?_)
    ·skip
     refine goes_ Tryz.func88 (by kernel_rfl) rfl #[.slice A26 y721.length c26] (by rfl) rfl rfl ma ?_
     with_reducible refine (spec_l3Fields.calls kj2 _ _ y721 t725 _ ?side1 ?side2 A16.out).mono ?_
     (case side1 => repeat (first | exact (by repeat (first | (with_reducible exact HR724.out) | (with_reducible refine Kd.C_alloc ?_ _) | (with_reducible refine Kd.C_drewN ?_ _) | (with_reducible refine Kd.C_drew ?_) | exact HR724.out)) | (with_reducible refine Kd.C_alloc ?_ _) | (with_reducible refine Kd.C_drewN ?_ _) | (with_reducible refine Kd.C_drew ?_)))
     (case side2 => exact HC724.out)
     rintro e w27 ⟨v726, rfl, ho0, hb⟩
     refine ⟨_, rfl, ?_⟩
     replace HO_4 := kr HO_4 hb
     replace HO717 := kr HO717 hb
     have HO727 := am (Kd.R_lower ho0 (below_size bl))
     replace BK709 := kb BK709 hb
     replace HR724 := am (Kd.C_below (by repeat (first | (with_reducible exact HR724.out) | (with_reducible refine Kd.C_alloc ?_ _) | (with_reducible refine Kd.C_drewN ?_ _) | (with_reducible refine Kd.C_drew ?_) | exact HR724.out)) hb)
     replace HB := am (below_step bl hb)
     clear hb ho0
     obtain ⟨Ao28, co28, eo28⟩ := Kd.R_slice HO727.out
     (first | subst eo28 | (injection eo28 with f1_ f2_ f3_; have f4_ := f1_.symm; have f5_ := f3_.symm; clear f1_ f2_ f3_; subst f4_; subst f5_))
     refine hK.out _ _ trivial (fun hHeld => ?_)
     clear hK K
     refine nm 41 ?_
     refine pu 7 45 [8, 2] ?_
     refine one_ (i := 8) (N := some 9) #[true, true, true, true, true, true, true, true, true, false] rfl rfl (one_of HT_.out (by kernel_rfl)) (by decide) (fun K hK => ?_)
     refine box_step ?hg (N := 9) ?hd (cs := #[.int .i64 0, .slice none 0 0, .string (⟨#[]⟩ : ByteArray)]) (t := 48) ?hr ?_; (case hd => rfl); (case hg => rfl); (case hr => first | (go_simp; done) | (go_simp; rfl))
     intro gb728 hg w29 hbox hb
     replace HO_4 := am (Kd.R_below (ro HO_4) hb)
     replace HO717 := am (Kd.R_below (ro HO717) hb)
     replace HO727 := am (Kd.R_below (ro HO727) hb)
     replace HR724 := am (Kd.C_below (by repeat (first | (with_reducible exact HR724.out) | (with_reducible refine Kd.C_alloc ?_ _) | (with_reducible refine Kd.C_drewN ?_ _) | (with_reducible refine Kd.C_drew ?_) | exact HR724.out)) hb)
     have BK728 := am (hbox)
     have GW728 := am (sz hg : w.heap.size ≤ gb728)
     have GE728 := am (sz hg : w.heap.size ≤ gb728)
     replace HB := am (below_step bl hb)
     have NB709_728 := am (nl hg BK709 : gb709 ≠ gb728)
     have NB728_709 := am (ng hg BK709 : gb728 ≠ gb709)
     replace BK709 := kb BK709 hb
     clear hb hbox hg
     refine hK.out _ _ trivial (fun hHeld => ?_)
     clear hK K
     refine nm 9 ?_
     exact norm_ (by simp only [putAll, Act.put, List.setIfInBounds_toArray, List.set_cons_zero, List.set_cons_succ]) (hCont (.slice Ao28 t725.length co28, gb728) _ ⟨(by (with_reducible repeat (first | apply Kd.R_alloc | apply Kd.R_drewN | apply Kd.R_drew)); exact Kd.R_mono HO717.out (fun _ hk => hk.2)), (ro HO727), (by (with_reducible repeat (first | apply Kd.R_alloc | apply Kd.R_drewN | apply Kd.R_drew)); exact Kd.R_mono HO_4.out (fun _ hk => hk.2)), (bk BK709), (bk BK728), GW728.out, GE728.out, NB709_728.out, NB728_709.out, bl⟩)
    ·skip
     refine box_step ?hg (N := 9) ?hd (cs := #[.int .i64 0, .slice none 0 0, .string (⟨#[]⟩ : ByteArray)]) (t := 48) ?hr ?_; (case hd => rfl); (case hg => rfl); (case hr => first | (go_simp; done) | (go_simp; rfl))
     intro gb728 hg w27 hbox hb
     replace HO_4 := am (Kd.R_below (ro HO_4) hb)
     replace HO717 := am (Kd.R_below (ro HO717) hb)
     replace HR724 := am (Kd.C_below (by repeat (first | (with_reducible exact HR724.out) | (with_reducible refine Kd.C_alloc ?_ _) | (with_reducible refine Kd.C_drewN ?_ _) | (with_reducible refine Kd.C_drew ?_) | exact HR724.out)) hb)
     have BK728 := am (hbox)
     have GW728 := am (sz hg : w.heap.size ≤ gb728)
     have GE728 := am (sz hg : w.heap.size ≤ gb728)
     replace HB := am (below_step bl hb)
     have NB709_728 := am (nl hg BK709 : gb709 ≠ gb728)
     have NB728_709 := am (ng hg BK709 : gb728 ≠ gb709)
     replace BK709 := kb BK709 hb
     clear hb hbox hg
     refine hK.out _ _ trivial (fun hHeld => ?_)
     clear hK K
     refine nm 9 ?_
     refine og 3 41 [7, 1, 1, 1] Tryz.func88 #[.slice A26 y721.length c26] (fun K hK => ?_)
     with_reducible refine (spec_l3Fields.calls kj2 _ _ y721 t725 _ ?side1 ?side2 A16.out).mono ?_
     (case side1 => repeat (first | exact (by repeat (first | (with_reducible exact HR724.out) | (with_reducible refine Kd.C_alloc ?_ _) | (with_reducible refine Kd.C_drewN ?_ _) | (with_reducible refine Kd.C_drew ?_) | exact HR724.out)) | (with_reducible refine Kd.C_alloc ?_ _) | (with_reducible refine Kd.C_drewN ?_ _) | (with_reducible refine Kd.C_drew ?_)))
     (case side2 => exact HC724.out)
     rintro e w28 ⟨v726, rfl, ho0, hb⟩
     refine ⟨_, rfl, ?_⟩
     replace HO_4 := kr HO_4 hb
     replace HO717 := kr HO717 hb
     have HO727 := am (Kd.R_lower ho0 (below_size bl))
     replace BK709 := kb BK709 hb
     replace HR724 := am (Kd.C_below (by repeat (first | (with_reducible exact HR724.out) | (with_reducible refine Kd.C_alloc ?_ _) | (with_reducible refine Kd.C_drewN ?_ _) | (with_reducible refine Kd.C_drew ?_) | exact HR724.out)) hb)
     replace BK728 := kb BK728 hb
     replace HB := am (below_step bl hb)
     clear hb ho0
     obtain ⟨Ao29, co29, eo29⟩ := Kd.R_slice HO727.out
     (first | subst eo29 | (injection eo29 with f1_ f2_ f3_; have f4_ := f1_.symm; have f5_ := f3_.symm; clear f1_ f2_ f3_; subst f4_; subst f5_))
     refine hK.out _ _ trivial (fun hHeld => ?_)
     clear hK K
     refine nm 41 ?_
     refine pu 7 45 [9, 1] ?_
     exact norm_ (by simp only [putAll, Act.put, List.setIfInBounds_toArray, List.set_cons_zero, List.set_cons_succ]) (hCont (.slice Ao29 t725.length co29, gb728) _ ⟨(by (with_reducible repeat (first | apply Kd.R_alloc | apply Kd.R_drewN | apply Kd.R_drew)); exact Kd.R_mono HO717.out (fun _ hk => hk.2)), (ro HO727), (by (with_reducible repeat (first | apply Kd.R_alloc | apply Kd.R_drewN | apply Kd.R_drew)); exact Kd.R_mono HO_4.out (fun _ hk => hk.2)), (bk BK709), (bk BK728), GW728.out, GE728.out, NB709_728.out, NB728_709.out, bl⟩)
   rintro ⟨v726, gb728⟩ w30 ⟨h0_, h1_, h2_, h3_, h4_, h5_, h6_, h7_, h8_, h9_⟩
   have n0_ : Aside0 (Kd.R Kd.string 9 w30 w.heap.size (fun k_ => some k_ ≠ (.slice (some ad714) t710.length co21 : Value).ownBlock) (.slice (some ad718) t715.length co23) t715) := ⟨h0_⟩
   have n1_ : Aside0 (Kd.R k100 100 w30 w.heap.size (fun _ => True) v726 t725) := ⟨h1_⟩
   have n2_ : Aside0 (Kd.R Kd.string 9 w30 w.heap.size (fun k_ => some k_ ≠ (.slice (some ad718) t715.length co23 : Value).ownBlock) (.slice (some ad714) t710.length co21) t710) := ⟨h2_⟩
   have n3_ : Aside0 (w30.heap[gb709]? = some (.cells #[.int .i64 0, .slice none 0 0, .string (⟨#[]⟩ : ByteArray)] 48 (0, 0))) := ⟨h3_⟩
   have n4_ : Aside0 (w30.heap[gb728]? = some (.cells #[.int .i64 0, .slice none 0 0, .string (⟨#[]⟩ : ByteArray)] 48 (0, 0))) := ⟨h4_⟩
   have n5_ : Aside0 (w.heap.size ≤ gb728) := ⟨h5_⟩
   have n6_ : Aside0 (w.heap.size ≤ gb728) := ⟨h6_⟩
   have n7_ : Aside0 (gb709 ≠ gb728) := ⟨h7_⟩
   have n8_ : Aside0 (gb728 ≠ gb709) := ⟨h8_⟩
   have n9_ : Aside0 (Below w.heap.size w w30) := ⟨h9_⟩
   clear HO_4
   clear HO717
   clear BK709
   clear HB
   clear h0_ h1_ h2_ h3_ h4_ h5_ h6_ h7_ h8_ h9_
   have HO717 := n0_
   have HO727 := n1_
   have HO_4 := n2_
   have BK709 := n3_
   have BK728 := n4_
   have GW728 := n5_
   have GE728 := n6_
   have NB709_728 := n7_
   have NB728_709 := n8_
   have HB := n9_
   clear n0_ n1_ n2_ n3_ n4_ n5_ n6_ n7_ n8_ n9_
   have hHeld := trivial
   obtain ⟨Ao31, co31, eo31⟩ := Kd.R_slice HO727.out
   (first | subst eo31 | (injection eo31 with f1_ f2_ f3_; have f4_ := f1_.symm; have f5_ := f3_.symm; clear f1_ f2_ f3_; subst f4_; subst f5_))
   refine norm_ (a' := ?_) ?_ ?_
   rotate_left
   ·simp only [putAll, Act.put, List.setIfInBounds_toArray, List.set_cons_zero, List.set_cons_succ]
    rfl
   refine one_ (i := 9) (N := none) #[true, true, true, true, true, true, true, true, true, true] rfl rfl (one_of HT_.out (by kernel_rfl)) (by decide) (fun K hK => ?_)
   have hs32 : w30.cell? ⟨gb728, 0, none⟩ = some (.int .i64 0) := bc BK728
   have hfs32 := blk_frozen BK728.out 0
   have hns32_0 := NB709_728.out
   have hms32_0 := NB728_709.out
   have hs33 : w30.cell? ⟨gb728, 1, none⟩ = some (.slice none 0 0) := bc BK728
   have hfs33 := blk_frozen BK728.out 1
   have hns33_0 := NB709_728.out
   have hms33_0 := NB728_709.out
   have hs34 : w30.cell? ⟨gb728, 2, none⟩ = some (.string (⟨#[]⟩ : ByteArray)) := bc BK728
   have hfs34 := blk_frozen BK728.out 2
   have hns34_0 := NB709_728.out
   have hms34_0 := NB728_709.out
   refine skip_ (w1 := ?_) (by rfl) rfl ?_ ?_
   rotate_left
   ·go_simp
    rfl
   refine hK.out _ _ trivial (fun hHeld => ?_)
   clear hK K
   refine done_ (done_of HT_.out (by kernel_rfl)) ?_
   have hnb35 := NB728_709.out
   have hnc35 := NB709_728.out
   obtain ⟨z36_0, y36_0, z36_1, y36_1, z36_2, y36_2⟩ := cl3 BK728
   try go_wp2_with (first | (refine gl 47 Tryz.func34 #[.agg #[.int .i64 t719, .slice Ao31 t725.length co31, .string (a0.extract (t711 : Int).toNat a0.size)]] ?_; (with_reducible refine (spec_RespText.calls kj2 t719 _ _ t725 (a0.extract (t711 : Int).toNat a0.size) t729 _ ?side1 ?side2 A19.out).mono ?_); (case side1 => refine (Kd.R_reads' (e := 100) (base := w.heap.size) (ok := fun k_ => True) (n := t725.length) (c := co31) ?_).2.2; exact (by (with_reducible repeat (first | apply Kd.R_alloc | apply Kd.R_drewN | apply Kd.R_drew)); exact (Kd.R_mono (Kd.R_far (p := ⟨gb728, 2, none⟩) (Kd.R_far (p := ⟨gb728, 1, none⟩) (Kd.R_far (p := ⟨gb728, 0, none⟩) (Kd.R_types HO727.out BK728.out (by decide)) (fun _ hk => hk.2) (.int .i64 t719)) (fun _ hk => hk.2) (.slice Ao31 t725.length co31)) (fun _ hk => hk.2) (.string (a0.extract (t711 : Int).toNat a0.size))) (fun _ h_ => h_.1)))); (case side2 => exact (Kd.R_reads' HO727.out).2.1); rintro e w37 ⟨rfl, hb⟩; refine ⟨_, rfl, ?_⟩; have n0_ := am (Kd.R_below (by (with_reducible repeat (first | apply Kd.R_alloc | apply Kd.R_drewN | apply Kd.R_drew)); exact (Kd.R_mono (Kd.R_far (p := ⟨gb728, 2, none⟩) (Kd.R_far (p := ⟨gb728, 1, none⟩) (Kd.R_far (p := ⟨gb728, 0, none⟩) (Kd.R_types HO_4.out BK728.out (by decide)) (fun _ hk => hk.2) (.int .i64 t719)) (fun _ hk => hk.2) (.slice Ao31 t725.length co31)) (fun _ hk => hk.2) (.string (a0.extract (t711 : Int).toNat a0.size))) (fun _ h_ => h_.1))) hb); have n1_ := am (Kd.R_below (by (with_reducible repeat (first | apply Kd.R_alloc | apply Kd.R_drewN | apply Kd.R_drew)); exact (Kd.R_mono (Kd.R_far (p := ⟨gb728, 2, none⟩) (Kd.R_far (p := ⟨gb728, 1, none⟩) (Kd.R_far (p := ⟨gb728, 0, none⟩) (Kd.R_types HO717.out BK728.out (by decide)) (fun _ hk => hk.2) (.int .i64 t719)) (fun _ hk => hk.2) (.slice Ao31 t725.length co31)) (fun _ hk => hk.2) (.string (a0.extract (t711 : Int).toNat a0.size))) (fun _ h_ => h_.1))) hb); have n2_ := am (Kd.R_below (by (with_reducible repeat (first | apply Kd.R_alloc | apply Kd.R_drewN | apply Kd.R_drew)); exact (Kd.R_mono (Kd.R_far (p := ⟨gb728, 2, none⟩) (Kd.R_far (p := ⟨gb728, 1, none⟩) (Kd.R_far (p := ⟨gb728, 0, none⟩) (Kd.R_types HO727.out BK728.out (by decide)) (fun _ hk => hk.2) (.int .i64 t719)) (fun _ hk => hk.2) (.slice Ao31 t725.length co31)) (fun _ hk => hk.2) (.string (a0.extract (t711 : Int).toNat a0.size))) (fun _ h_ => h_.1))) hb); have n3_ := kg1 BK709 NB709_728 hb; have n4_ := am (blk_below (g := gb728) (o := .cells #[.int .i64 t719, .slice Ao31 t725.length co31, .string (a0.extract (t711 : Int).toNat a0.size)] 48 (0, 0)) (pt0 BK728) hb); have n5_ := am (below_step bl hb); clear HO_4; clear HO717; clear HO727; clear BK709; clear BK728; clear HB; have HO_4 := n0_; have HO717 := n1_; have HO727 := n2_; have BK709 := n3_; have BK728 := n4_; have HB := n5_; clear n0_ n1_ n2_ n3_ n4_ n5_; clear hb; obtain ⟨z38_0, y38_0, z38_1, y38_1, z38_2, y38_2⟩ := cl3 BK728; obtain ⟨z39_0, y39_0, z39_1, y39_1, z39_2, y39_2⟩ := cl3 BK709))
   refine bodyPost_ret (results_ct rfl _ _ gb709 48 #[.int .i64 t719, .slice Ao31 t725.length co31, .string (a0.extract (t711 : Int).toNat a0.size)] (0, 0) _ rfl (pt0 BK709) Tryz.underlying48 rfl (by kernel_rfl)) rfl ?_
   exact ⟨_, rf, rg (Kd.R_types HO727.out BK709.out (by decide)), bl⟩

/-! ### impl_RespOk: function 35 -/
def impl_RespOk.f (k : Nat) (a0_0 : Int) (l0_1 : List (S100)) (a0_2 : ByteArray) : Option (Bool) := (impl_inRange.f a0_0 100 599).bind fun t731 => (if t731 = true then (if (a0_2.size : Int) ≤ 120 then ((impl_FieldsOk.f k l0_1).bind fun t732 => (some t732)) else (some false)) else (some false))
theorem impl_RespOk.mono : ∀ a0 a1 a2 k, LeO (impl_RespOk.f k a0 a1 a2) (impl_RespOk.f (k + 1) a0 a1 a2) := by
 intro a0 a1 a2 k
 unfold impl_RespOk.f
 have m0 := @impl_FieldsOk.mono
 exact mo
set_option maxHeartbeats 8000000 in
set_option maxRecDepth 100000 in
theorem impl_RespOk.calls (k : Nat) (a0_0 : Int) (A0_1 : Option Addr) (c0_1 : Nat) (l0_1 : List (S100)) (a0_2 : ByteArray) (r : Bool) (w : World) (hr0_1 : Kd.C k100 w A0_1 l0_1.length l0_1) (hc0_1 : l0_1.length ≤ c0_1) (h : impl_RespOk.f k a0_0 l0_1 a0_2 = some r) :
  Calls Tryz.prog 35 #[.agg #[.int .i64 a0_0, .slice A0_1 l0_1.length c0_1, .string a0_2]] w fun e w' => e = .returned (.bool r) ∧ Below w.heap.size w w' := by
 have hu48 := Tryz.underlying48
 have HR0_1 := am hr0_1
 have HC0_1 := am hc0_1
 clear hr0_1 hc0_1
 have HB := am (Below.refl w.heap.size w)
 unfold impl_RespOk.f at h
 have H := h
 clear h
 revert H
 refine ok1 fun t731 A2 H => ?_
 by_cases c3 : t731 = true
 rotate_left
 ·replace c3 := Bool.eq_false_iff.mpr c3
  subst c3
  rw [if_neg (show ¬ (false = true) by decide)] at H
  obtain rfl := Option.some.inj H
  go_enter Tryz.func35, Tryz.ntmps35
  go_wp2_with (first | ((with_reducible refine gate_dst (N := 1) rfl ?_); (try (refine gate_guard (by rfl) ?_; dsimp only)); refine box_event ?hg (N := 1) ?hd (cs := #[.int .i64 a0_0, .slice A0_1 l0_1.length c0_1, .string a0_2]) (t := 48) ?hr ?_; (case hd => rfl); (case hg => rfl); (case hr => first | (go_simp; done) | (go_simp; rfl)); intro gb730 hg w11 hbox hb; have BK730 := am (hbox); have GW730 := am (sz hg : w.heap.size ≤ gb730); have GE730 := am (sz hg : w.heap.size ≤ gb730); replace HB := am (below_step bl hb); clear hb hbox hg; obtain ⟨z12_0, y12_0, z12_1, y12_1, z12_2, y12_2⟩ := cl3 BK730) | (refine gl 5 Tryz.func80 #[.int .i64 a0_0, .int .i64 100, .int .i64 599] ?_; (with_reducible refine (impl_inRange.calls a0_0 100 599 false _ A2.out).mono ?_); rintro e w' ⟨rfl, ⟨nd, rfl⟩⟩; refine ⟨_, rfl, ?_⟩))
  go_ret
  exact ⟨rf, bl⟩
 subst c3
 rw [if_pos rfl] at H
 by_cases c4 : (a0_2.size : Int) ≤ 120
 rotate_left
 ·rw [if_neg c4] at H
  have c4b0 := decide_eq_false c4
  have c4b1 : decide (a0_2.size ≤ 120) = false := decide_eq_false (by omega)
  clear c4
  obtain rfl := Option.some.inj H
  go_enter Tryz.func35, Tryz.ntmps35
  go_wp2_with (first | ((with_reducible refine gate_dst (N := 1) rfl ?_); (try (refine gate_guard (by rfl) ?_; dsimp only)); refine box_event ?hg (N := 1) ?hd (cs := #[.int .i64 a0_0, .slice A0_1 l0_1.length c0_1, .string a0_2]) (t := 48) ?hr ?_; (case hd => rfl); (case hg => rfl); (case hr => first | (go_simp; done) | (go_simp; rfl)); intro gb730 hg w9 hbox hb; have BK730 := am (hbox); have GW730 := am (sz hg : w.heap.size ≤ gb730); have GE730 := am (sz hg : w.heap.size ≤ gb730); replace HB := am (below_step bl hb); clear hb hbox hg; obtain ⟨z10_0, y10_0, z10_1, y10_1, z10_2, y10_2⟩ := cl3 BK730) | (refine gl 5 Tryz.func80 #[.int .i64 a0_0, .int .i64 100, .int .i64 599] ?_; (with_reducible refine (impl_inRange.calls a0_0 100 599 true _ A2.out).mono ?_); rintro e w' ⟨rfl, ⟨nd, rfl⟩⟩; refine ⟨_, rfl, ?_⟩))
  go_ret
  exact ⟨rf, bl⟩
 rw [if_pos c4] at H
 have c4b0 := decide_eq_true c4
 have c4b1 : decide (a0_2.size ≤ 120) = true := decide_eq_true (by omega)
 clear c4
 revert H
 refine ok1 fun t732 A5 H => ?_
 obtain rfl := Option.some.inj H
 go_enter Tryz.func35, Tryz.ntmps35
 go_wp2_with (first | ((with_reducible refine gate_dst (N := 1) rfl ?_); (try (refine gate_guard (by rfl) ?_; dsimp only)); refine box_event ?hg (N := 1) ?hd (cs := #[.int .i64 a0_0, .slice A0_1 l0_1.length c0_1, .string a0_2]) (t := 48) ?hr ?_; (case hd => rfl); (case hg => rfl); (case hr => first | (go_simp; done) | (go_simp; rfl)); intro gb730 hg w6 hbox hb; have BK730 := am (hbox); have GW730 := am (sz hg : w.heap.size ≤ gb730); have GE730 := am (sz hg : w.heap.size ≤ gb730); replace HB := am (below_step bl hb); clear hb hbox hg; obtain ⟨z7_0, y7_0, z7_1, y7_1, z7_2, y7_2⟩ := cl3 BK730) | (refine gl 5 Tryz.func80 #[.int .i64 a0_0, .int .i64 100, .int .i64 599] ?_; (with_reducible refine (impl_inRange.calls a0_0 100 599 true _ A2.out).mono ?_); rintro e w' ⟨rfl, ⟨nd, rfl⟩⟩; refine ⟨_, rfl, ?_⟩) | (go_at_call 82; (with_reducible refine (impl_FieldsOk.calls k _ _ l0_1 t732 _ ?side1 ?side2 A5.out).mono ?_); (case side1 => repeat (first | exact (Kd.C_below HR0_1.out bl) | (with_reducible refine Kd.C_alloc ?_ _) | (with_reducible refine Kd.C_drewN ?_ _) | (with_reducible refine Kd.C_drew ?_))); (case side2 => exact HC0_1.out); rintro e w8 ⟨rfl, hb⟩; replace BK730 := kb BK730 hb; replace HB := am (below_step bl hb); clear hb))
 go_ret
 exact ⟨rf, bl⟩

end Go.Proofs.YtnmanegjgidgcaaGreatDoor.All
