-- Written by a program of this session (wip/tools/hprint.py) out of the translation. Lean checks it.
import Derived.Test.YtkgdcfaogdmcgaaDoorAllx0
import Derived.Test.YtkgdcfaogdmcgaaDoorAllx1
import Derived.Test.YtkgdcfaogdmcgaaDoorAllx3
import Derived.Test.YtkgdcfaogdmcgaaDoorAllx4
import Derived.Test.YtkgdcfaogdmcgaaDoorAllx28
import Derived.Test.YtkgdcfaogdmcgaaDoorAllx29
import Derived.Test.YtkgdcfaogdmcgaaDoorAllx30
namespace Go.Proofs.YtkgdcfaogdmcgaaDoor.All
open Go.RowKit Go.Proofs.YtkgdcfaogdmcgaaDoorW.PrintWords Go.Proofs.YtkgdcfaogdmcgaaDoorW.PrintLast Go.Proofs.YtkgdcfaogdmcgaaDoorW.PrintMore
attribute [local go_sem] max2_int min2_int max_two min_two max_three min_three max_four min_four   -- for this text's walks alone
set_option linter.unusedVariables false
set_option linter.unusedSimpArgs false

/-! ### laws_szBan: function 87 -/
def laws_szBan.f (a0_0 : Int) (a0_1 : ByteArray) (a0_2 : ByteArray) (a0_3 : Int) (a1 : Int) : Option (Int) := if (wrap64 (a1 - (a0_1.size : Int))) < 0 then (some (-1)) else (if (wrap64 ((wrap64 (a1 - (a0_1.size : Int))) - (a0_2.size : Int))) < 0 then (some (-1)) else (some (wrap64 ((wrap64 (a1 - (a0_1.size : Int))) - (a0_2.size : Int)))))
set_option maxHeartbeats 8000000 in
set_option maxRecDepth 100000 in
theorem laws_szBan.calls (a0_0 : Int) (a0_1 : ByteArray) (a0_2 : ByteArray) (a0_3 : Int) (a1 : Int) (r : Int) (w : World) (h : laws_szBan.f a0_0 a0_1 a0_2 a0_3 a1 = some r) :
  Calls Tryd.prog 87 #[.agg #[.int .i64 a0_0, .string a0_1, .string a0_2, .int .i64 a0_3], .int .i64 a1] w fun e w' => e = .returned (.int .i64 r) ∧ Below w.heap.size w w' := by
 have hu107 := Tryd.underlying107
 have HB := am (Below.refl w.heap.size w)
 unfold laws_szBan.f at h
 have H := h
 clear h
 by_cases c3 : (wrap64 (a1 - (a0_1.size : Int))) < 0
 ·rw [if_pos c3] at H
  have c3b0 := decide_eq_true c3
  clear c3
  obtain rfl := Option.some.inj H
  go_enter Tryd.func87, Tryd.ntmps87
  go_wp2_with (first | (refine bx 2 #[.int .i64 a0_0, .string a0_1, .string a0_2, .int .i64 a0_3] 107 ?_; intro gb943 hg w4 hbox hb; have BK943 := am (hbox); have GW943 := am (sz hg : w.heap.size ≤ gb943); have GE943 := am (sz hg : w.heap.size ≤ gb943); replace HB := am (below_step bl hb); clear hb hbox hg; obtain ⟨z5_0, y5_0, z5_1, y5_1, z5_2, y5_2, z5_3, y5_3⟩ := cl4 BK943))
  go_ret
  exact ⟨rf, bl⟩
 rw [if_neg c3] at H
 have c3b0 := decide_eq_false c3
 clear c3
 by_cases c6 : (wrap64 ((wrap64 (a1 - (a0_1.size : Int))) - (a0_2.size : Int))) < 0
 ·rw [if_pos c6] at H
  have c6b0 := decide_eq_true c6
  clear c6
  obtain rfl := Option.some.inj H
  go_enter Tryd.func87, Tryd.ntmps87
  go_wp2_with (first | (refine bx 2 #[.int .i64 a0_0, .string a0_1, .string a0_2, .int .i64 a0_3] 107 ?_; intro gb943 hg w7 hbox hb; have BK943 := am (hbox); have GW943 := am (sz hg : w.heap.size ≤ gb943); have GE943 := am (sz hg : w.heap.size ≤ gb943); replace HB := am (below_step bl hb); clear hb hbox hg; obtain ⟨z8_0, y8_0, z8_1, y8_1, z8_2, y8_2, z8_3, y8_3⟩ := cl4 BK943))
  go_ret
  exact ⟨rf, bl⟩
 rw [if_neg c6] at H
 have c6b0 := decide_eq_false c6
 clear c6
 obtain rfl := Option.some.inj H
 go_enter Tryd.func87, Tryd.ntmps87
 go_wp2_with (first | (refine bx 2 #[.int .i64 a0_0, .string a0_1, .string a0_2, .int .i64 a0_3] 107 ?_; intro gb943 hg w9 hbox hb; have BK943 := am (hbox); have GW943 := am (sz hg : w.heap.size ≤ gb943); have GE943 := am (sz hg : w.heap.size ≤ gb943); replace HB := am (below_step bl hb); clear hb hbox hg; obtain ⟨z10_0, y10_0, z10_1, y10_1, z10_2, y10_2, z10_3, y10_3⟩ := cl4 BK943))
 go_ret
 exact ⟨rf, bl⟩

/-! ### laws_szBanS: function 32 -/
def laws_szBanS.l0 : Nat → List (S107) → Int → Int → Option (Int)
 | 0, _, _, _ => none
 | k + 1, x0, x1, x5 => if x5 < (x0.length : Int) then (if 0 ≤ x5 then ((laws_szBan.f ((rd_T107 x0 x5).f0) ((rd_T107 x0 x5).f1) ((rd_T107 x0 x5).f2) ((rd_T107 x0 x5).f3) x1).bind fun t945 => (if t945 < 0 then (some (-1)) else (laws_szBanS.l0 k x0 t945 (wrap64 (x5 + 1))))) else (none)) else (some x1)
def laws_szBanS.f (k : Nat) (l0 : List (S107)) (a1 : Int) : Option (Int) := if (wrap64 (a1 - (l0.length : Int))) < 0 then (some (-1)) else (laws_szBanS.l0 k l0 (wrap64 (a1 - (l0.length : Int))) 0)
theorem laws_szBanS.mono_l : ∀ k, (∀ y0 y1 y2, LeO (laws_szBanS.l0 k y0 y1 y2) (laws_szBanS.l0 (k + 1) y0 y1 y2))
 | 0 => fun _ _ _ r h => by simp [laws_szBanS.l0] at h
 | k + 1 => by
  have ih0 := laws_szBanS.mono_l k
  ·intro y0 y1 y2
   unfold laws_szBanS.l0
   exact mo
theorem laws_szBanS.mono : ∀ a0 a1 k, LeO (laws_szBanS.f k a0 a1) (laws_szBanS.f (k + 1) a0 a1) := by
 intro a0 a1 k
 have ih0 := laws_szBanS.mono_l k
 unfold laws_szBanS.f
 exact mo
set_option maxHeartbeats 8000000 in
set_option maxRecDepth 100000 in
theorem laws_szBanS.calls (k : Nat) (A0 : Option Addr) (c0 : Nat) (l0 : List (S107)) (a1 : Int) (r : Int) (w : World) (hr0 : Kd.C k107 w A0 l0.length l0) (hc0 : l0.length ≤ c0) (h : laws_szBanS.f k l0 a1 = some r) :
  Calls Tryd.prog 32 #[.slice A0 l0.length c0, .int .i64 a1] w fun e w' => e = .returned (.int .i64 r) ∧ Below w.heap.size w w' := by
 have hu107 := Tryd.underlying107
 have HR0 := am hr0
 have HC0 := am hc0
 clear hr0 hc0
 have HB := am (Below.refl w.heap.size w)
 unfold laws_szBanS.f at h
 have H := h
 clear h
 by_cases c3 : (wrap64 (a1 - (l0.length : Int))) < 0
 ·rw [if_pos c3] at H
  have c3b0 := decide_eq_true c3
  clear c3
  obtain rfl := Option.some.inj H
  go_enter Tryd.func32, Tryd.ntmps32
  go_wp2
  go_ret
  exact ⟨rf, bl⟩
 rw [if_neg c3] at H
 have c3b0 := decide_eq_false c3
 clear c3
 have H' := am H
 clear H
 go_enter Tryd.func32, Tryd.ntmps32
 go_wp2
 (try simp only [Act.put, List.setIfInBounds_toArray, List.set_cons_zero, List.set_cons_succ])
 go_loopg [1, 5] k (fun kq v1 v5 w' => ∃ (x1_1 : Int) (x5_1 : Int), v1 = .int .i64 x1_1 ∧ v5 = .int .i64 x5_1 ∧ Aside0 (laws_szBanS.l0 kq l0 x1_1 x5_1 = some r) ∧ Aside0 (kq ≤ k) ∧ Aside0 (Below w.heap.size w w'))
 case atStart => exact ⟨(wrap64 (a1 - (l0.length : Int))), (0), rs, rs, H', ⟨Nat.le_refl _⟩, ⟨by repeat (first | (with_reducible first | exact HB.out | apply below_alloc | apply pw_below_drewN | apply below_drew1) | exact HB.out)⟩⟩
 case round =>
  clear H'
  try clear p2
  try clear c3
  try clear c3b0
  obtain ⟨x1_1, x5_1, rfl, rfl, HA, HK1, HB⟩ := hrel
  cases gk with
  | zero => exact absurd HA.out (by simp [laws_szBanS.l0])
  | succ k1 =>
   have H := HA.out
   clear HA
   simp only [laws_szBanS.l0] at H
   by_cases c4 : x5_1 < (l0.length : Int)
   rotate_left
   ·rw [if_neg c4] at H
    have c4b0 := decide_eq_false c4
    clear c4
    obtain rfl := Option.some.inj H
    go_wp2
    go_ret
    exact ⟨rf, bl⟩
   rw [if_pos c4] at H
   have c4b0 := decide_eq_true c4
   clear c4
   revert H
   refine ifn fun c5 H => ?_
   have c5b0 := decide_eq_true c5
   clear c5
   revert H
   refine ok1 fun t945 A6 H => ?_
   by_cases c7 : t945 < 0
   ·rw [if_pos c7] at H
    have c7b0 := decide_eq_true c7
    clear c7
    obtain rfl := Option.some.inj H
    have p944 : 0 ≤ (x5_1 : Int) := od
    have q944 : x5_1 < (l0.length : Int) := od
    obtain ⟨ad944, e944, hx944_0, hx944_1, hx944_2, hx944_3⟩ := at_T107 HR0.out x5_1 p944 q944
    cases e944
    replace hx944_0 := hcw hx944_0
    replace hx944_1 := hcw hx944_1
    replace hx944_2 := hcw hx944_2
    replace hx944_3 := hcw hx944_3
    replace p944 := eq_true p944
    replace q944 := eq_true q944
    go_wp2_with (first | (refine gl 23 Tryd.func87 #[.agg #[.int .i64 ((rd_T107 l0 x5_1).f0), .string ((rd_T107 l0 x5_1).f1), .string ((rd_T107 l0 x5_1).f2), .int .i64 ((rd_T107 l0 x5_1).f3)], .int .i64 x1_1] ?_; (with_reducible refine (laws_szBan.calls ((rd_T107 l0 x5_1).f0) ((rd_T107 l0 x5_1).f1) ((rd_T107 l0 x5_1).f2) ((rd_T107 l0 x5_1).f3) x1_1 t945 _ A6.out).mono ?_); rintro e w8 ⟨rfl, hb⟩; refine ⟨_, rfl, ?_⟩; replace HB := am (below_step bl hb); clear hb))
    go_ret
    exact ⟨rf, bl⟩
   rw [if_neg c7] at H
   have c7b0 := decide_eq_false c7
   clear c7
   have H' := am H
   clear H
   have p944 : 0 ≤ (x5_1 : Int) := od
   have q944 : x5_1 < (l0.length : Int) := od
   obtain ⟨ad944, e944, hx944_0, hx944_1, hx944_2, hx944_3⟩ := at_T107 HR0.out x5_1 p944 q944
   cases e944
   replace hx944_0 := hcw hx944_0
   replace hx944_1 := hcw hx944_1
   replace hx944_2 := hcw hx944_2
   replace hx944_3 := hcw hx944_3
   replace p944 := eq_true p944
   replace q944 := eq_true q944
   go_wp2_with (first | (refine gl 23 Tryd.func87 #[.agg #[.int .i64 ((rd_T107 l0 x5_1).f0), .string ((rd_T107 l0 x5_1).f1), .string ((rd_T107 l0 x5_1).f2), .int .i64 ((rd_T107 l0 x5_1).f3)], .int .i64 x1_1] ?_; (with_reducible refine (laws_szBan.calls ((rd_T107 l0 x5_1).f0) ((rd_T107 l0 x5_1).f1) ((rd_T107 l0 x5_1).f2) ((rd_T107 l0 x5_1).f3) x1_1 t945 _ A6.out).mono ?_); rintro e w9 ⟨rfl, hb⟩; refine ⟨_, rfl, ?_⟩; replace HB := am (below_step bl hb); clear hb))
   go_roundg k1
   case measure => have := HK1.out; omega
   case rel => exact ⟨(t945), (wrap64 (x5_1 + 1)), rs, rs, H', ⟨by have := HK1.out; omega⟩, ⟨by repeat (first | (with_reducible first | exact HB.out | apply below_alloc | apply pw_below_drewN | apply below_drew1) | exact HB.out)⟩⟩

/-! ### spec_BanOk: function 127 -/
def spec_BanOk.j0 : Nat → Int → Bool → Int → ByteArray → ByteArray → Int → Option (Bool)
 | 0, _, _, _, _, _, _ => none
 | k + 1, x8, x9, x947000, x947001, x947002, x947003 => if x9 = true then ((spec_l3Path.f k x947001).bind fun t948 => (if t948 = true then (some (x947002.toList == ([] : List UInt8))) else (some false))) else (if x8 = 3 then ((spec_TokenOk.f k x947001).bind fun t949 => (if t949 = true then ((spec_ValueOk.f k x947002).bind fun t950 => (some t950)) else (some false))) else (some false))
def spec_BanOk.f (k : Nat) (a0_0 : Int) (a0_1 : ByteArray) (a0_2 : ByteArray) (a0_3 : Int) : Option (Bool) := (spec_l1In.f a0_3 0 1000000).bind fun t947 => (if t947 = true then (if a0_0 = 1 then (spec_BanOk.j0 k a0_0 (a0_0 == 1) a0_0 a0_1 a0_2 a0_3) else (spec_BanOk.j0 k a0_0 (a0_0 == 2) a0_0 a0_1 a0_2 a0_3)) else (some false))
theorem spec_BanOk.mono_l : ∀ k, (∀ y0 y1 y2 y3 y4 y5, LeO (spec_BanOk.j0 k y0 y1 y2 y3 y4 y5) (spec_BanOk.j0 (k + 1) y0 y1 y2 y3 y4 y5))
 | 0 => fun _ _ _ _ _ _ r h => by simp [spec_BanOk.j0] at h
 | k + 1 => by
  have ih0 := spec_BanOk.mono_l k
  ·intro y0 y1 y2 y3 y4 y5
   unfold spec_BanOk.j0
   have m0 := @spec_TokenOk.mono
   have m1 := @spec_ValueOk.mono
   have m2 := @spec_l3Path.mono
   exact mo
theorem spec_BanOk.mono : ∀ a0 a1 a2 a3 k, LeO (spec_BanOk.f k a0 a1 a2 a3) (spec_BanOk.f (k + 1) a0 a1 a2 a3) := by
 intro a0 a1 a2 a3 k
 have ih0 := spec_BanOk.mono_l k
 unfold spec_BanOk.f
 have m0 := @spec_TokenOk.mono
 have m1 := @spec_ValueOk.mono
 have m2 := @spec_l3Path.mono
 exact mo
set_option maxHeartbeats 8000000 in
set_option maxRecDepth 100000 in
theorem spec_BanOk.calls (k : Nat) (a0_0 : Int) (a0_1 : ByteArray) (a0_2 : ByteArray) (a0_3 : Int) (r : Bool) (w : World) (h : spec_BanOk.f k a0_0 a0_1 a0_2 a0_3 = some r) :
  Calls Tryd.prog 127 #[.agg #[.int .i64 a0_0, .string a0_1, .string a0_2, .int .i64 a0_3]] w fun e w' => e = .returned (.bool r) ∧ Below w.heap.size w w' := by
 have hu109 := Tryd.underlying109
 have HB := am (Below.refl w.heap.size w)
 unfold spec_BanOk.f at h
 have H := h
 clear h
 revert H
 refine ok1 fun t947 A2 H => ?_
 by_cases c3 : t947 = true
 rotate_left
 ·replace c3 := Bool.eq_false_iff.mpr c3
  subst c3
  rw [if_neg (show ¬ (false = true) by decide)] at H
  obtain rfl := Option.some.inj H
  go_enter Tryd.func127, Tryd.ntmps127
  go_wp2_with (first | (refine bx 1 #[.int .i64 a0_0, .string a0_1, .string a0_2, .int .i64 a0_3] 109 ?_; intro gb946 hg w19 hbox hb; have BK946 := am (hbox); have GW946 := am (sz hg : w.heap.size ≤ gb946); have GE946 := am (sz hg : w.heap.size ≤ gb946); replace HB := am (below_step bl hb); clear hb hbox hg; obtain ⟨z20_0, y20_0, z20_1, y20_1, z20_2, y20_2, z20_3, y20_3⟩ := cl4 BK946) | (refine gl 5 Tryd.func72 #[.int .i64 a0_3, .int .i64 0, .int .i64 1000000] ?_; (with_reducible refine (spec_l1In.calls a0_3 0 1000000 false _ A2.out).mono ?_); rintro e w' ⟨rfl, ⟨nd, rfl⟩⟩; refine ⟨_, rfl, ?_⟩))
  go_ret
  exact ⟨rf, bl⟩
 subst c3
 rw [if_pos rfl] at H
 have HC4 := am H
 clear H
 go_enter Tryd.func127, Tryd.ntmps127
 go_upto_if 9 with (first | (refine bx 1 #[.int .i64 a0_0, .string a0_1, .string a0_2, .int .i64 a0_3] 109 ?_; intro gb946 hg w5 hbox hb; have BK946 := am (hbox); have GW946 := am (sz hg : w.heap.size ≤ gb946); have GE946 := am (sz hg : w.heap.size ≤ gb946); replace HB := am (below_step bl hb); clear hb hbox hg; obtain ⟨z6_0, y6_0, z6_1, y6_1, z6_2, y6_2, z6_3, y6_3⟩ := cl4 BK946) | (refine gl 5 Tryd.func72 #[.int .i64 a0_3, .int .i64 0, .int .i64 1000000] ?_; (with_reducible refine (spec_l1In.calls a0_3 0 1000000 true _ A2.out).mono ?_); rintro e w' ⟨rfl, ⟨nd, rfl⟩⟩; refine ⟨_, rfl, ?_⟩))
 (try simp only [Act.put, List.setIfInBounds_toArray, List.set_cons_zero, List.set_cons_succ])
 go_cut [9] (fun v9 wc => ∃ (kq : Nat) (x9_3 : Bool), v9 = .bool x9_3 ∧ Aside0 (spec_BanOk.j0 kq a0_0 x9_3 a0_0 a0_1 a0_2 a0_3 = some r) ∧ Aside0 (kq ≤ k) ∧ Aside0 (wc.heap[gb946]? = some (.cells #[.int .i64 a0_0, .string a0_1, .string a0_2, .int .i64 a0_3] 109 (0, 0))) ∧ Aside0 (Below w.heap.size w wc))
 case first =>
  have H := HC4.out
  clear HC4
  by_cases c7 : a0_0 = 1
  rotate_left
  ·rw [if_neg c7] at H
   have c7b0 : (a0_0 == 1) = false := beq_eq_false_iff_ne.mpr c7
   have c7b1 : (a0_0 != 1) = true := bne_iff_ne.mpr c7
   (first | rw [c7b0] | (simp only [i64_w, i32_w]; rw [c7b0]) | skip)
   have H' := am H
   clear H
   go_wp2
   go_meet
   case rel => exact ⟨_, ((a0_0 == 2)), rs, H', ⟨by first | omega | exact Nat.le_refl _⟩, ⟨by (with_reducible repeat (first | refine blk_drewN ?_ _ | refine blk_drew ?_ | refine blk_alloc ?_ _)); exact BK946.out⟩, ⟨by repeat (first | (with_reducible first | exact HB.out | apply below_alloc | apply pw_below_drewN | apply below_drew1 | refine below_set ?_ GE946.out) | exact HB.out)⟩⟩
  rw [if_pos c7] at H
  have c7b0 : (a0_0 == 1) = true := beq_iff_eq.mpr c7
  have c7b1 : (a0_0 != 1) = false := bne_eq_false_iff_eq.mpr c7
  clear c7
  (first | rw [c7b0] | (simp only [i64_w, i32_w]; rw [c7b0]) | skip)
  have H' := am H
  clear H
  go_wp2
  go_meet
  case rel => exact ⟨_, ((a0_0 == 1)), rs, H', ⟨by first | omega | exact Nat.le_refl _⟩, ⟨by (with_reducible repeat (first | refine blk_drewN ?_ _ | refine blk_drew ?_ | refine blk_alloc ?_ _)); exact BK946.out⟩, ⟨by repeat (first | (with_reducible first | exact HB.out | apply below_alloc | apply pw_below_drewN | apply below_drew1 | refine below_set ?_ GE946.out) | exact HB.out)⟩⟩
 case rest =>
  clear HC4
  try clear c1
  try clear p2
  try clear c3
  try clear c7
  try clear c7b0
  try clear c7b1
  try clear z6_0
  try clear z6_1
  try clear z6_2
  try clear z6_3
  try clear y6_0
  try clear y6_1
  try clear y6_2
  try clear y6_3
  obtain ⟨kq, x9_3, rfl, HA, HJ3, BK946, HB⟩ := hcut
  cases kq with
  | zero => exact absurd HA.out (by simp [spec_BanOk.j0])
  | succ kj3 =>
   have H := HA.out
   clear HA
   simp only [spec_BanOk.j0] at H
   by_cases c8 : x9_3 = true
   ·subst c8
    rw [if_pos rfl] at H
    revert H
    refine ok1 fun t948 A9 H => ?_
    by_cases c10 : t948 = true
    ·subst c10
     rw [if_pos rfl] at H
     obtain rfl := Option.some.inj H
     obtain ⟨z11_0, y11_0, z11_1, y11_1, z11_2, y11_2, z11_3, y11_3⟩ := cl4 BK946
     go_wp2_with (first | (refine gl 14 Tryd.func71 #[.string a0_1] ?_; (with_reducible refine (spec_l3Path.calls kj3 a0_1 true _ A9.out).mono ?_); rintro e w' ⟨rfl, ⟨nd, rfl⟩⟩; refine ⟨_, rfl, ?_⟩))
     go_ret
     exact ⟨rf, bl⟩
    replace c10 := Bool.eq_false_iff.mpr c10
    subst c10
    rw [if_neg (show ¬ (false = true) by decide)] at H
    obtain rfl := Option.some.inj H
    obtain ⟨z12_0, y12_0, z12_1, y12_1, z12_2, y12_2, z12_3, y12_3⟩ := cl4 BK946
    go_wp2_with (first | (refine gl 14 Tryd.func71 #[.string a0_1] ?_; (with_reducible refine (spec_l3Path.calls kj3 a0_1 false _ A9.out).mono ?_); rintro e w' ⟨rfl, ⟨nd, rfl⟩⟩; refine ⟨_, rfl, ?_⟩))
    go_ret
    exact ⟨rf, bl⟩
   replace c8 := Bool.eq_false_iff.mpr c8
   subst c8
   rw [if_neg (show ¬ (false = true) by decide)] at H
   by_cases c13 : a0_0 = 3
   rotate_left
   ·rw [if_neg c13] at H
    have c13b0 : (a0_0 == 3) = false := beq_eq_false_iff_ne.mpr c13
    have c13b1 : (a0_0 != 3) = true := bne_iff_ne.mpr c13
    obtain rfl := Option.some.inj H
    go_wp2
    go_ret
    exact ⟨rf, bl⟩
   rw [if_pos c13] at H
   have c13b0 : (a0_0 == 3) = true := beq_iff_eq.mpr c13
   have c13b1 : (a0_0 != 3) = false := bne_eq_false_iff_eq.mpr c13
   clear c13
   revert H
   refine ok1 fun t949 A14 H => ?_
   by_cases c15 : t949 = true
   rotate_left
   ·replace c15 := Bool.eq_false_iff.mpr c15
    subst c15
    rw [if_neg (show ¬ (false = true) by decide)] at H
    obtain rfl := Option.some.inj H
    obtain ⟨z18_0, y18_0, z18_1, y18_1, z18_2, y18_2, z18_3, y18_3⟩ := cl4 BK946
    go_wp2_with (first | (refine gl 24 Tryd.func120 #[.string a0_1] ?_; (with_reducible refine (spec_TokenOk.calls kj3 a0_1 false _ A14.out).mono ?_); rintro e w' ⟨rfl, ⟨nd, rfl⟩⟩; refine ⟨_, rfl, ?_⟩))
    go_ret
    exact ⟨rf, bl⟩
   subst c15
   rw [if_pos rfl] at H
   revert H
   refine ok1 fun t950 A16 H => ?_
   obtain rfl := Option.some.inj H
   obtain ⟨z17_0, y17_0, z17_1, y17_1, z17_2, y17_2, z17_3, y17_3⟩ := cl4 BK946
   go_wp2_with (first | (refine gl 24 Tryd.func120 #[.string a0_1] ?_; (with_reducible refine (spec_TokenOk.calls kj3 a0_1 true _ A14.out).mono ?_); rintro e w' ⟨rfl, ⟨nd, rfl⟩⟩; refine ⟨_, rfl, ?_⟩) | (go_at_call 76; (with_reducible refine (spec_ValueOk.calls kj3 a0_2 t950 _ A16.out).mono ?_); rintro e w' ⟨rfl, ⟨nd, rfl⟩⟩))
   go_ret
   exact ⟨rf, bl⟩

/-! ### spec_Hits: function 88 -/
def spec_Hits.j0 : Nat → Bool → Int → ByteArray → ByteArray → Int → ByteArray → List ByteArray → List ByteArray → Int → List (S84) → ByteArray → Int → Option (Bool)
 | 0, _, _, _, _, _, _, _, _, _, _, _, _ => none
 | k + 1, x21, x952000, x952001, x952002, x952003, x953000, x953001, x953002, x953003, x953004, x953005, x953006 => if x21 = true then (some false) else (if x952000 = 1 then (some (x953000.toList == x952001.toList)) else (if x952000 = 2 then (if (x953000.size : Int) ≥ (x952001.size : Int) then (if 0 ≤ (x952001.size : Int) then (if (x952001.size : Int) ≤ (x953000.size : Int) then (some ((x953000.extract 0 ((x952001.size : Int) : Int).toNat).toList == x952001.toList)) else (none)) else (none)) else (some false)) else ((spec_Get.f k x953004 x952001).bind fun bt955 => (if bt955.2 = true then (some (bt955.1.toList == x952002.toList)) else (some false)))))
def spec_Hits.f (k : Nat) (a0_0 : Int) (a0_1 : ByteArray) (a0_2 : ByteArray) (a0_3 : Int) (a1_0 : ByteArray) (l1_1 : List ByteArray) (l1_2 : List ByteArray) (a1_3 : Int) (l1_4 : List (S84)) (a1_5 : ByteArray) (a1_6 : Int) : Option (Bool) := (spec_BanOk.f k a0_0 a0_1 a0_2 a0_3).bind fun t953 => (if t953 = true then ((spec_ObjOk.f k a1_0 l1_1 l1_2 a1_3 l1_4 a1_5 a1_6).bind fun t954 => (if t954 = true then (spec_Hits.j0 k (decide (a1_6 > a0_3)) a0_0 a0_1 a0_2 a0_3 a1_0 l1_1 l1_2 a1_3 l1_4 a1_5 a1_6) else (spec_Hits.j0 k true a0_0 a0_1 a0_2 a0_3 a1_0 l1_1 l1_2 a1_3 l1_4 a1_5 a1_6))) else (spec_Hits.j0 k true a0_0 a0_1 a0_2 a0_3 a1_0 l1_1 l1_2 a1_3 l1_4 a1_5 a1_6))
theorem spec_Hits.mono_l : ∀ k, (∀ y0 y1 y2 y3 y4 y5 y6 y7 y8 y9 y10 y11, LeO (spec_Hits.j0 k y0 y1 y2 y3 y4 y5 y6 y7 y8 y9 y10 y11) (spec_Hits.j0 (k + 1) y0 y1 y2 y3 y4 y5 y6 y7 y8 y9 y10 y11))
 | 0 => fun _ _ _ _ _ _ _ _ _ _ _ _ r h => by simp [spec_Hits.j0] at h
 | k + 1 => by
  have ih0 := spec_Hits.mono_l k
  ·intro y0 y1 y2 y3 y4 y5 y6 y7 y8 y9 y10 y11
   unfold spec_Hits.j0
   have m0 := @spec_BanOk.mono
   have m1 := @spec_Get.mono
   have m2 := @spec_ObjOk.mono
   exact mo
theorem spec_Hits.mono : ∀ a0 a1 a2 a3 a4 a5 a6 a7 a8 a9 a10 k, LeO (spec_Hits.f k a0 a1 a2 a3 a4 a5 a6 a7 a8 a9 a10) (spec_Hits.f (k + 1) a0 a1 a2 a3 a4 a5 a6 a7 a8 a9 a10) := by
 intro a0 a1 a2 a3 a4 a5 a6 a7 a8 a9 a10 k
 have ih0 := spec_Hits.mono_l k
 unfold spec_Hits.f
 have m0 := @spec_BanOk.mono
 have m1 := @spec_Get.mono
 have m2 := @spec_ObjOk.mono
 exact mo
set_option maxHeartbeats 8000000 in
set_option maxRecDepth 100000 in
theorem spec_Hits.calls (k : Nat) (a0_0 : Int) (a0_1 : ByteArray) (a0_2 : ByteArray) (a0_3 : Int) (a1_0 : ByteArray) (A1_1 : Option Addr) (c1_1 : Nat) (l1_1 : List ByteArray) (A1_2 : Option Addr) (c1_2 : Nat) (l1_2 : List ByteArray) (a1_3 : Int) (A1_4 : Option Addr) (c1_4 : Nat) (l1_4 : List (S84)) (a1_5 : ByteArray) (a1_6 : Int) (r : Bool) (w : World) (hr1_1 : Kd.C Kd.string w A1_1 l1_1.length l1_1) (hc1_1 : l1_1.length ≤ c1_1) (hr1_2 : Kd.C Kd.string w A1_2 l1_2.length l1_2) (hc1_2 : l1_2.length ≤ c1_2) (hr1_4 : Kd.C k84 w A1_4 l1_4.length l1_4) (hc1_4 : l1_4.length ≤ c1_4) (h : spec_Hits.f k a0_0 a0_1 a0_2 a0_3 a1_0 l1_1 l1_2 a1_3 l1_4 a1_5 a1_6 = some r) :
  Calls Tryd.prog 88 #[.agg #[.int .i64 a0_0, .string a0_1, .string a0_2, .int .i64 a0_3], .agg #[.string a1_0, .slice A1_1 l1_1.length c1_1, .slice A1_2 l1_2.length c1_2, .int .i64 a1_3, .slice A1_4 l1_4.length c1_4, .string a1_5, .int .i64 a1_6]] w fun e w' => e = .returned (.bool r) ∧ Below w.heap.size w w' := by
 have hu109 := Tryd.underlying109
 have hu55 := Tryd.underlying55
 have HR1_1 := am hr1_1
 have HC1_1 := am hc1_1
 clear hr1_1 hc1_1
 have HR1_2 := am hr1_2
 have HC1_2 := am hc1_2
 clear hr1_2 hc1_2
 have HR1_4 := am hr1_4
 have HC1_4 := am hc1_4
 clear hr1_4 hc1_4
 have HB := am (Below.refl w.heap.size w)
 unfold spec_Hits.f at h
 have H := h
 clear h
 have HC3 := am H
 clear H
 go_enter Tryd.func88, Tryd.ntmps88
 go_upto_region 1 with (first | ((with_reducible refine gate_dst (N := 2) rfl ?_); (try (refine gate_guard (by rfl) ?_; dsimp only)); refine box_event ?hg (N := 2) ?hd (cs := #[.int .i64 a0_0, .string a0_1, .string a0_2, .int .i64 a0_3]) (t := 109) ?hr ?_; (case hd => rfl); (case hg => rfl); (case hr => first | (go_simp; done) | (go_simp; rfl)); intro gb951 hg w4 hbox hb; have BK951 := am (hbox); have GW951 := am (sz hg : w.heap.size ≤ gb951); have GE951 := am (sz hg : w.heap.size ≤ gb951); replace HB := am (below_step bl hb); clear hb hbox hg) | ((with_reducible refine gate_dst (N := 3) rfl ?_); (try (refine gate_guard (by rfl) ?_; dsimp only)); refine box_event ?hg (N := 3) ?hd (cs := #[.string a1_0, .slice A1_1 l1_1.length c1_1, .slice A1_2 l1_2.length c1_2, .int .i64 a1_3, .slice A1_4 l1_4.length c1_4, .string a1_5, .int .i64 a1_6]) (t := 55) ?hr ?_; (case hd => rfl); (case hg => rfl); (case hr => first | (go_simp; done) | (go_simp; rfl)); intro gb952 hg w5 hbox hb; have BK952 := am (hbox); have GW952 := am (sz hg : w.heap.size ≤ gb952); have GE952 := am (sz hg : w.heap.size ≤ gb952); replace HB := am (below_step bl hb); have NB951_952 := am (nl hg BK951 : gb951 ≠ gb952); have NB952_951 := am (ng hg BK951 : gb952 ≠ gb951); replace BK951 := kb BK951 hb; clear hb hbox hg))
 repeat (go_quiet (first | ((with_reducible refine gate_dst (N := 2) rfl ?_); (try (refine gate_guard (by rfl) ?_; dsimp only)); refine box_event ?hg (N := 2) ?hd (cs := #[.int .i64 a0_0, .string a0_1, .string a0_2, .int .i64 a0_3]) (t := 109) ?hr ?_; (case hd => rfl); (case hg => rfl); (case hr => first | (go_simp; done) | (go_simp; rfl)); intro gb951 hg w4 hbox hb; have BK951 := am (hbox); have GW951 := am (sz hg : w.heap.size ≤ gb951); have GE951 := am (sz hg : w.heap.size ≤ gb951); replace HB := am (below_step bl hb); clear hb hbox hg) | ((with_reducible refine gate_dst (N := 3) rfl ?_); (try (refine gate_guard (by rfl) ?_; dsimp only)); refine box_event ?hg (N := 3) ?hd (cs := #[.string a1_0, .slice A1_1 l1_1.length c1_1, .slice A1_2 l1_2.length c1_2, .int .i64 a1_3, .slice A1_4 l1_4.length c1_4, .string a1_5, .int .i64 a1_6]) (t := 55) ?hr ?_; (case hd => rfl); (case hg => rfl); (case hr => first | (go_simp; done) | (go_simp; rfl)); intro gb952 hg w5 hbox hb; have BK952 := am (hbox); have GW952 := am (sz hg : w.heap.size ≤ gb952); have GE952 := am (sz hg : w.heap.size ≤ gb952); replace HB := am (below_step bl hb); have NB951_952 := am (nl hg BK951 : gb951 ≠ gb952); have NB952_951 := am (ng hg BK951 : gb952 ≠ gb951); replace BK951 := kb BK951 hb; clear hb hbox hg)); go_upto_region 1 with (first | ((with_reducible refine gate_dst (N := 2) rfl ?_); (try (refine gate_guard (by rfl) ?_; dsimp only)); refine box_event ?hg (N := 2) ?hd (cs := #[.int .i64 a0_0, .string a0_1, .string a0_2, .int .i64 a0_3]) (t := 109) ?hr ?_; (case hd => rfl); (case hg => rfl); (case hr => first | (go_simp; done) | (go_simp; rfl)); intro gb951 hg w4 hbox hb; have BK951 := am (hbox); have GW951 := am (sz hg : w.heap.size ≤ gb951); have GE951 := am (sz hg : w.heap.size ≤ gb951); replace HB := am (below_step bl hb); clear hb hbox hg) | ((with_reducible refine gate_dst (N := 3) rfl ?_); (try (refine gate_guard (by rfl) ?_; dsimp only)); refine box_event ?hg (N := 3) ?hd (cs := #[.string a1_0, .slice A1_1 l1_1.length c1_1, .slice A1_2 l1_2.length c1_2, .int .i64 a1_3, .slice A1_4 l1_4.length c1_4, .string a1_5, .int .i64 a1_6]) (t := 55) ?hr ?_; (case hd => rfl); (case hg => rfl); (case hr => first | (go_simp; done) | (go_simp; rfl)); intro gb952 hg w5 hbox hb; have BK952 := am (hbox); have GW952 := am (sz hg : w.heap.size ≤ gb952); have GE952 := am (sz hg : w.heap.size ≤ gb952); replace HB := am (below_step bl hb); have NB951_952 := am (nl hg BK951 : gb951 ≠ gb952); have NB952_951 := am (ng hg BK951 : gb952 ≠ gb951); replace BK951 := kb BK951 hb; clear hb hbox hg)))
 (try simp only [Act.put, List.setIfInBounds_toArray, List.set_cons_zero, List.set_cons_succ])
 go_cut [21] (fun v21 wc => ∃ (kq : Nat) (x21_2 : Bool), v21 = .bool x21_2 ∧ Aside0 (spec_Hits.j0 kq x21_2 a0_0 a0_1 a0_2 a0_3 a1_0 l1_1 l1_2 a1_3 l1_4 a1_5 a1_6 = some r) ∧ Aside0 (kq ≤ k) ∧ Aside0 (wc.heap[gb951]? = some (.cells #[.int .i64 a0_0, .string a0_1, .string a0_2, .int .i64 a0_3] 109 (0, 0))) ∧ Aside0 (wc.heap[gb952]? = some (.cells #[.string a1_0, (.slice A1_1 l1_1.length c1_1), (.slice A1_2 l1_2.length c1_2), .int .i64 a1_3, (.slice A1_4 l1_4.length c1_4), .string a1_5, .int .i64 a1_6] 55 (0, 0))) ∧ Aside0 (Below w.heap.size w wc))
 case first =>
  have H := HC3.out
  clear HC3
  revert H
  refine ok1 fun t953 A6 H => ?_
  by_cases c7 : t953 = true
  rotate_left
  ·replace c7 := Bool.eq_false_iff.mpr c7
   subst c7
   rw [if_neg (show ¬ (false = true) by decide)] at H
   have H' := am H
   clear H
   have hnb22 := NB951_952.out
   have hnc22 := NB952_951.out
   obtain ⟨z23_0, y23_0, z23_1, y23_1, z23_2, y23_2, z23_3, y23_3⟩ := cl4 BK951
   go_wp2_with (first | (go_at_call 127; (with_reducible refine (spec_BanOk.calls k a0_0 a0_1 a0_2 a0_3 false _ A6.out).mono ?_); rintro e w24 ⟨rfl, hb⟩; replace BK951 := kb BK951 hb; replace BK952 := kb BK952 hb; replace HB := am (below_step bl hb); clear hb))
   repeat (go_quiet (first | (go_at_call 127; (with_reducible refine (spec_BanOk.calls k a0_0 a0_1 a0_2 a0_3 false _ A6.out).mono ?_); rintro e w24 ⟨rfl, hb⟩; replace BK951 := kb BK951 hb; replace BK952 := kb BK952 hb; replace HB := am (below_step bl hb); clear hb)); try go_wp2_with (first | (go_at_call 127; (with_reducible refine (spec_BanOk.calls k a0_0 a0_1 a0_2 a0_3 false _ A6.out).mono ?_); rintro e w24 ⟨rfl, hb⟩; replace BK951 := kb BK951 hb; replace BK952 := kb BK952 hb; replace HB := am (below_step bl hb); clear hb)))
   go_meet
   case rel => exact ⟨_, (true), rs, H', ⟨by first | omega | exact Nat.le_refl _⟩, ⟨by (with_reducible repeat (first | refine blk_drewN ?_ _ | refine blk_drew ?_ | refine blk_alloc ?_ _)); exact BK951.out⟩, ⟨by (with_reducible repeat (first | refine blk_drewN ?_ _ | refine blk_drew ?_ | refine blk_alloc ?_ _)); exact BK952.out⟩, ⟨by repeat (first | (with_reducible first | exact HB.out | apply below_alloc | apply pw_below_drewN | apply below_drew1 | refine below_set ?_ GE951.out | refine below_set ?_ GE952.out) | exact HB.out)⟩⟩
  subst c7
  rw [if_pos rfl] at H
  revert H
  refine ok1 fun t954 A8 H => ?_
  by_cases c9 : t954 = true
  rotate_left
  ·replace c9 := Bool.eq_false_iff.mpr c9
   subst c9
   rw [if_neg (show ¬ (false = true) by decide)] at H
   have H' := am H
   clear H
   have hnb17 := NB951_952.out
   have hnc17 := NB952_951.out
   obtain ⟨z18_0, y18_0, z18_1, y18_1, z18_2, y18_2, z18_3, y18_3⟩ := cl4 BK951
   go_wp2_with (first | (go_at_call 127; (with_reducible refine (spec_BanOk.calls k a0_0 a0_1 a0_2 a0_3 true _ A6.out).mono ?_); rintro e w19 ⟨rfl, hb⟩; replace BK951 := kb BK951 hb; replace BK952 := kb BK952 hb; replace HB := am (below_step bl hb); clear hb; obtain ⟨z20_0, y20_0, z20_1, y20_1, z20_2, y20_2, z20_3, y20_3, z20_4, y20_4, z20_5, y20_5, z20_6, y20_6⟩ := cl7 BK952) | (go_at_call 28; (with_reducible refine (spec_ObjOk.calls k a1_0 _ _ l1_1 _ _ l1_2 a1_3 _ _ l1_4 a1_5 a1_6 false _ ?side1 ?side2 ?side3 ?side4 ?side5 ?side6 A8.out).mono ?_); (case side1 => exact cb HR1_1); (case side2 => exact HC1_1.out); (case side3 => exact cb HR1_2); (case side4 => exact HC1_2.out); (case side5 => exact cb HR1_4); (case side6 => exact HC1_4.out); rintro e w21 ⟨rfl, hb⟩; replace BK951 := kb BK951 hb; replace BK952 := kb BK952 hb; replace HB := am (below_step bl hb); clear hb))
   repeat (go_quiet (first | (go_at_call 127; (with_reducible refine (spec_BanOk.calls k a0_0 a0_1 a0_2 a0_3 true _ A6.out).mono ?_); rintro e w19 ⟨rfl, hb⟩; replace BK951 := kb BK951 hb; replace BK952 := kb BK952 hb; replace HB := am (below_step bl hb); clear hb; obtain ⟨z20_0, y20_0, z20_1, y20_1, z20_2, y20_2, z20_3, y20_3, z20_4, y20_4, z20_5, y20_5, z20_6, y20_6⟩ := cl7 BK952) | (go_at_call 28; (with_reducible refine (spec_ObjOk.calls k a1_0 _ _ l1_1 _ _ l1_2 a1_3 _ _ l1_4 a1_5 a1_6 false _ ?side1 ?side2 ?side3 ?side4 ?side5 ?side6 A8.out).mono ?_); (case side1 => exact cb HR1_1); (case side2 => exact HC1_1.out); (case side3 => exact cb HR1_2); (case side4 => exact HC1_2.out); (case side5 => exact cb HR1_4); (case side6 => exact HC1_4.out); rintro e w21 ⟨rfl, hb⟩; replace BK951 := kb BK951 hb; replace BK952 := kb BK952 hb; replace HB := am (below_step bl hb); clear hb)); try go_wp2_with (first | (go_at_call 127; (with_reducible refine (spec_BanOk.calls k a0_0 a0_1 a0_2 a0_3 true _ A6.out).mono ?_); rintro e w19 ⟨rfl, hb⟩; replace BK951 := kb BK951 hb; replace BK952 := kb BK952 hb; replace HB := am (below_step bl hb); clear hb; obtain ⟨z20_0, y20_0, z20_1, y20_1, z20_2, y20_2, z20_3, y20_3, z20_4, y20_4, z20_5, y20_5, z20_6, y20_6⟩ := cl7 BK952) | (go_at_call 28; (with_reducible refine (spec_ObjOk.calls k a1_0 _ _ l1_1 _ _ l1_2 a1_3 _ _ l1_4 a1_5 a1_6 false _ ?side1 ?side2 ?side3 ?side4 ?side5 ?side6 A8.out).mono ?_); (case side1 => exact cb HR1_1); (case side2 => exact HC1_1.out); (case side3 => exact cb HR1_2); (case side4 => exact HC1_2.out); (case side5 => exact cb HR1_4); (case side6 => exact HC1_4.out); rintro e w21 ⟨rfl, hb⟩; replace BK951 := kb BK951 hb; replace BK952 := kb BK952 hb; replace HB := am (below_step bl hb); clear hb)))
   go_meet
   case rel => exact ⟨_, (true), rs, H', ⟨by first | omega | exact Nat.le_refl _⟩, ⟨by (with_reducible repeat (first | refine blk_drewN ?_ _ | refine blk_drew ?_ | refine blk_alloc ?_ _)); exact BK951.out⟩, ⟨by (with_reducible repeat (first | refine blk_drewN ?_ _ | refine blk_drew ?_ | refine blk_alloc ?_ _)); exact BK952.out⟩, ⟨by repeat (first | (with_reducible first | exact HB.out | apply below_alloc | apply pw_below_drewN | apply below_drew1 | refine below_set ?_ GE951.out | refine below_set ?_ GE952.out) | exact HB.out)⟩⟩
  subst c9
  rw [if_pos rfl] at H
  have H' := am H
  clear H
  have hnb10 := NB951_952.out
  have hnc10 := NB952_951.out
  obtain ⟨z11_0, y11_0, z11_1, y11_1, z11_2, y11_2, z11_3, y11_3⟩ := cl4 BK951
  go_wp2_with (first | (go_at_call 127; (with_reducible refine (spec_BanOk.calls k a0_0 a0_1 a0_2 a0_3 true _ A6.out).mono ?_); rintro e w12 ⟨rfl, hb⟩; replace BK951 := kb BK951 hb; replace BK952 := kb BK952 hb; replace HB := am (below_step bl hb); clear hb; obtain ⟨z13_0, y13_0, z13_1, y13_1, z13_2, y13_2, z13_3, y13_3, z13_4, y13_4, z13_5, y13_5, z13_6, y13_6⟩ := cl7 BK952) | (go_at_call 28; (with_reducible refine (spec_ObjOk.calls k a1_0 _ _ l1_1 _ _ l1_2 a1_3 _ _ l1_4 a1_5 a1_6 true _ ?side1 ?side2 ?side3 ?side4 ?side5 ?side6 A8.out).mono ?_); (case side1 => exact cb HR1_1); (case side2 => exact HC1_1.out); (case side3 => exact cb HR1_2); (case side4 => exact HC1_2.out); (case side5 => exact cb HR1_4); (case side6 => exact HC1_4.out); rintro e w14 ⟨rfl, hb⟩; replace BK951 := kb BK951 hb; replace BK952 := kb BK952 hb; replace HB := am (below_step bl hb); clear hb; obtain ⟨z15_0, y15_0, z15_1, y15_1, z15_2, y15_2, z15_3, y15_3, z15_4, y15_4, z15_5, y15_5, z15_6, y15_6⟩ := cl7 BK952; obtain ⟨z16_0, y16_0, z16_1, y16_1, z16_2, y16_2, z16_3, y16_3⟩ := cl4 BK951))
  repeat (go_quiet (first | (go_at_call 127; (with_reducible refine (spec_BanOk.calls k a0_0 a0_1 a0_2 a0_3 true _ A6.out).mono ?_); rintro e w12 ⟨rfl, hb⟩; replace BK951 := kb BK951 hb; replace BK952 := kb BK952 hb; replace HB := am (below_step bl hb); clear hb; obtain ⟨z13_0, y13_0, z13_1, y13_1, z13_2, y13_2, z13_3, y13_3, z13_4, y13_4, z13_5, y13_5, z13_6, y13_6⟩ := cl7 BK952) | (go_at_call 28; (with_reducible refine (spec_ObjOk.calls k a1_0 _ _ l1_1 _ _ l1_2 a1_3 _ _ l1_4 a1_5 a1_6 true _ ?side1 ?side2 ?side3 ?side4 ?side5 ?side6 A8.out).mono ?_); (case side1 => exact cb HR1_1); (case side2 => exact HC1_1.out); (case side3 => exact cb HR1_2); (case side4 => exact HC1_2.out); (case side5 => exact cb HR1_4); (case side6 => exact HC1_4.out); rintro e w14 ⟨rfl, hb⟩; replace BK951 := kb BK951 hb; replace BK952 := kb BK952 hb; replace HB := am (below_step bl hb); clear hb; obtain ⟨z15_0, y15_0, z15_1, y15_1, z15_2, y15_2, z15_3, y15_3, z15_4, y15_4, z15_5, y15_5, z15_6, y15_6⟩ := cl7 BK952; obtain ⟨z16_0, y16_0, z16_1, y16_1, z16_2, y16_2, z16_3, y16_3⟩ := cl4 BK951)); try go_wp2_with (first | (go_at_call 127; (with_reducible refine (spec_BanOk.calls k a0_0 a0_1 a0_2 a0_3 true _ A6.out).mono ?_); rintro e w12 ⟨rfl, hb⟩; replace BK951 := kb BK951 hb; replace BK952 := kb BK952 hb; replace HB := am (below_step bl hb); clear hb; obtain ⟨z13_0, y13_0, z13_1, y13_1, z13_2, y13_2, z13_3, y13_3, z13_4, y13_4, z13_5, y13_5, z13_6, y13_6⟩ := cl7 BK952) | (go_at_call 28; (with_reducible refine (spec_ObjOk.calls k a1_0 _ _ l1_1 _ _ l1_2 a1_3 _ _ l1_4 a1_5 a1_6 true _ ?side1 ?side2 ?side3 ?side4 ?side5 ?side6 A8.out).mono ?_); (case side1 => exact cb HR1_1); (case side2 => exact HC1_1.out); (case side3 => exact cb HR1_2); (case side4 => exact HC1_2.out); (case side5 => exact cb HR1_4); (case side6 => exact HC1_4.out); rintro e w14 ⟨rfl, hb⟩; replace BK951 := kb BK951 hb; replace BK952 := kb BK952 hb; replace HB := am (below_step bl hb); clear hb; obtain ⟨z15_0, y15_0, z15_1, y15_1, z15_2, y15_2, z15_3, y15_3, z15_4, y15_4, z15_5, y15_5, z15_6, y15_6⟩ := cl7 BK952; obtain ⟨z16_0, y16_0, z16_1, y16_1, z16_2, y16_2, z16_3, y16_3⟩ := cl4 BK951)))
  go_meet
  case rel => exact ⟨_, (decide (a1_6 > a0_3)), rs, H', ⟨by first | omega | exact Nat.le_refl _⟩, ⟨by (with_reducible repeat (first | refine blk_drewN ?_ _ | refine blk_drew ?_ | refine blk_alloc ?_ _)); exact BK951.out⟩, ⟨by (with_reducible repeat (first | refine blk_drewN ?_ _ | refine blk_drew ?_ | refine blk_alloc ?_ _)); exact BK952.out⟩, ⟨by repeat (first | (with_reducible first | exact HB.out | apply below_alloc | apply pw_below_drewN | apply below_drew1 | refine below_set ?_ GE951.out | refine below_set ?_ GE952.out) | exact HB.out)⟩⟩
 case rest =>
  clear HC3
  try clear c1
  try clear c2
  try clear p2
  try clear c7
  try clear c8
  try clear c9
  try clear c10
  try clear c17
  try clear c22
  try clear z11_0
  try clear z11_1
  try clear z11_2
  try clear z11_3
  try clear z13_0
  try clear z13_1
  try clear z13_2
  try clear z13_3
  try clear z13_4
  try clear z13_5
  try clear z13_6
  try clear z15_0
  try clear z15_1
  try clear z15_2
  try clear z15_3
  try clear z15_4
  try clear z15_5
  try clear z15_6
  try clear z16_0
  try clear z16_1
  try clear z16_2
  try clear z16_3
  try clear z18_0
  try clear z18_1
  try clear z18_2
  try clear z18_3
  try clear z20_0
  try clear z20_1
  try clear z20_2
  try clear z20_3
  try clear z20_4
  try clear z20_5
  try clear z20_6
  try clear z23_0
  try clear z23_1
  try clear z23_2
  try clear z23_3
  try clear y11_0
  try clear y11_1
  try clear y11_2
  try clear y11_3
  try clear y13_0
  try clear y13_1
  try clear y13_2
  try clear y13_3
  try clear y13_4
  try clear y13_5
  try clear y13_6
  try clear y15_0
  try clear y15_1
  try clear y15_2
  try clear y15_3
  try clear y15_4
  try clear y15_5
  try clear y15_6
  try clear y16_0
  try clear y16_1
  try clear y16_2
  try clear y16_3
  try clear y18_0
  try clear y18_1
  try clear y18_2
  try clear y18_3
  try clear y20_0
  try clear y20_1
  try clear y20_2
  try clear y20_3
  try clear y20_4
  try clear y20_5
  try clear y20_6
  try clear y23_0
  try clear y23_1
  try clear y23_2
  try clear y23_3
  obtain ⟨kq, x21_2, rfl, HA, HJ2, BK951, BK952, HB⟩ := hcut
  cases kq with
  | zero => exact absurd HA.out (by simp [spec_Hits.j0])
  | succ kj2 =>
   have H := HA.out
   clear HA
   simp only [spec_Hits.j0] at H
   by_cases c25 : x21_2 = true
   ·subst c25
    rw [if_pos rfl] at H
    obtain rfl := Option.some.inj H
    go_wp2
    repeat (go_quiet (fail); try go_wp2)
    go_ret
    exact ⟨rf, bl⟩
   replace c25 := Bool.eq_false_iff.mpr c25
   subst c25
   rw [if_neg (show ¬ (false = true) by decide)] at H
   by_cases c26 : a0_0 = 1
   ·rw [if_pos c26] at H
    have c26b0 : (a0_0 == 1) = true := beq_iff_eq.mpr c26
    have c26b1 : (a0_0 != 1) = false := bne_eq_false_iff_eq.mpr c26
    clear c26
    obtain rfl := Option.some.inj H
    have hnb27 := NB951_952.out
    have hnc27 := NB952_951.out
    obtain ⟨z28_0, y28_0, z28_1, y28_1, z28_2, y28_2, z28_3, y28_3⟩ := cl4 BK951
    obtain ⟨z29_0, y29_0, z29_1, y29_1, z29_2, y29_2, z29_3, y29_3, z29_4, y29_4, z29_5, y29_5, z29_6, y29_6⟩ := cl7 BK952
    go_wp2
    repeat (go_quiet (fail); try go_wp2)
    go_ret
    exact ⟨rf, bl⟩
   rw [if_neg c26] at H
   have c26b0 : (a0_0 == 1) = false := beq_eq_false_iff_ne.mpr c26
   have c26b1 : (a0_0 != 1) = true := bne_iff_ne.mpr c26
   by_cases c30 : a0_0 = 2
   ·rw [if_pos c30] at H
    have c30b0 : (a0_0 == 2) = true := beq_iff_eq.mpr c30
    have c30b1 : (a0_0 != 2) = false := bne_eq_false_iff_eq.mpr c30
    clear c30
    by_cases c31 : (a1_0.size : Int) ≥ (a0_1.size : Int)
    rotate_left
    ·rw [if_neg c31] at H
     have c31b0 := decide_eq_false c31
     have c31b1 : decide (a0_1.size ≤ a1_0.size) = false := decide_eq_false (fun h => c31 (Int.ofNat_le.mpr h))
     clear c31
     obtain rfl := Option.some.inj H
     have hnb37 := NB951_952.out
     have hnc37 := NB952_951.out
     obtain ⟨z38_0, y38_0, z38_1, y38_1, z38_2, y38_2, z38_3, y38_3⟩ := cl4 BK951
     obtain ⟨z39_0, y39_0, z39_1, y39_1, z39_2, y39_2, z39_3, y39_3, z39_4, y39_4, z39_5, y39_5, z39_6, y39_6⟩ := cl7 BK952
     go_wp2
     repeat (go_quiet (fail); try go_wp2)
     go_ret
     exact ⟨rf, bl⟩
    rw [if_pos c31] at H
    have c31b0 := decide_eq_true c31
    have c31b1 : decide (a0_1.size ≤ a1_0.size) = true := decide_eq_true (Int.ofNat_le.mp c31)
    clear c31
    revert H
    refine ifn fun c32 H => ?_
    have c32b0 := eq_true c32
    have c32b1 := decide_eq_true c32
    clear c32
    revert H
    refine ifn fun c33 H => ?_
    have c33b0 := eq_true c33
    have c33b1 := decide_eq_true c33
    clear c33
    obtain rfl := Option.some.inj H
    have hnb34 := NB951_952.out
    have hnc34 := NB952_951.out
    obtain ⟨z35_0, y35_0, z35_1, y35_1, z35_2, y35_2, z35_3, y35_3⟩ := cl4 BK951
    obtain ⟨z36_0, y36_0, z36_1, y36_1, z36_2, y36_2, z36_3, y36_3, z36_4, y36_4, z36_5, y36_5, z36_6, y36_6⟩ := cl7 BK952
    go_wp2
    repeat (go_quiet (fail); try go_wp2)
    go_ret
    exact ⟨rf, bl⟩
   rw [if_neg c30] at H
   have c30b0 : (a0_0 == 2) = false := beq_eq_false_iff_ne.mpr c30
   have c30b1 : (a0_0 != 2) = true := bne_iff_ne.mpr c30
   revert H
   refine ok2 fun t955 t956 A40 H => ?_
   (try dsimp only at H)
   by_cases c41 : t956 = true
   ·subst c41
    rw [if_pos rfl] at H
    obtain rfl := Option.some.inj H
    have hnb42 := NB951_952.out
    have hnc42 := NB952_951.out
    obtain ⟨z43_0, y43_0, z43_1, y43_1, z43_2, y43_2, z43_3, y43_3⟩ := cl4 BK951
    obtain ⟨z44_0, y44_0, z44_1, y44_1, z44_2, y44_2, z44_3, y44_3, z44_4, y44_4, z44_5, y44_5, z44_6, y44_6⟩ := cl7 BK952
    go_wp2_with (first | (go_at_call 55; (with_reducible refine (spec_Get.calls kj2 _ _ l1_4 a0_1 t955 true _ ?side1 ?side2 A40.out).mono ?_); (case side1 => exact cb HR1_4); (case side2 => exact HC1_4.out); rintro e w' ⟨rfl, ⟨nd, rfl⟩⟩; (try first | exact ⟨rfl, _, World.drewN_drewN _ _ _⟩ | exact ⟨rfl, _, Eq.trans (World.drewN_drewN _ _ _) (congrArg (World.drewN _) (Nat.add_assoc _ _ _))⟩)))
    repeat (go_quiet (first | (go_at_call 55; (with_reducible refine (spec_Get.calls kj2 _ _ l1_4 a0_1 t955 true _ ?side1 ?side2 A40.out).mono ?_); (case side1 => exact cb HR1_4); (case side2 => exact HC1_4.out); rintro e w' ⟨rfl, ⟨nd, rfl⟩⟩; (try first | exact ⟨rfl, _, World.drewN_drewN _ _ _⟩ | exact ⟨rfl, _, Eq.trans (World.drewN_drewN _ _ _) (congrArg (World.drewN _) (Nat.add_assoc _ _ _))⟩))); try go_wp2_with (first | (go_at_call 55; (with_reducible refine (spec_Get.calls kj2 _ _ l1_4 a0_1 t955 true _ ?side1 ?side2 A40.out).mono ?_); (case side1 => exact cb HR1_4); (case side2 => exact HC1_4.out); rintro e w' ⟨rfl, ⟨nd, rfl⟩⟩; (try first | exact ⟨rfl, _, World.drewN_drewN _ _ _⟩ | exact ⟨rfl, _, Eq.trans (World.drewN_drewN _ _ _) (congrArg (World.drewN _) (Nat.add_assoc _ _ _))⟩))))
    go_ret
    exact ⟨rf, bl⟩
   replace c41 := Bool.eq_false_iff.mpr c41
   subst c41
   rw [if_neg (show ¬ (false = true) by decide)] at H
   obtain rfl := Option.some.inj H
   have hnb45 := NB951_952.out
   have hnc45 := NB952_951.out
   obtain ⟨z46_0, y46_0, z46_1, y46_1, z46_2, y46_2, z46_3, y46_3⟩ := cl4 BK951
   obtain ⟨z47_0, y47_0, z47_1, y47_1, z47_2, y47_2, z47_3, y47_3, z47_4, y47_4, z47_5, y47_5, z47_6, y47_6⟩ := cl7 BK952
   go_wp2_with (first | (go_at_call 55; (with_reducible refine (spec_Get.calls kj2 _ _ l1_4 a0_1 t955 false _ ?side1 ?side2 A40.out).mono ?_); (case side1 => exact cb HR1_4); (case side2 => exact HC1_4.out); rintro e w' ⟨rfl, ⟨nd, rfl⟩⟩; (try first | exact ⟨rfl, _, World.drewN_drewN _ _ _⟩ | exact ⟨rfl, _, Eq.trans (World.drewN_drewN _ _ _) (congrArg (World.drewN _) (Nat.add_assoc _ _ _))⟩)))
   repeat (go_quiet (first | (go_at_call 55; (with_reducible refine (spec_Get.calls kj2 _ _ l1_4 a0_1 t955 false _ ?side1 ?side2 A40.out).mono ?_); (case side1 => exact cb HR1_4); (case side2 => exact HC1_4.out); rintro e w' ⟨rfl, ⟨nd, rfl⟩⟩; (try first | exact ⟨rfl, _, World.drewN_drewN _ _ _⟩ | exact ⟨rfl, _, Eq.trans (World.drewN_drewN _ _ _) (congrArg (World.drewN _) (Nat.add_assoc _ _ _))⟩))); try go_wp2_with (first | (go_at_call 55; (with_reducible refine (spec_Get.calls kj2 _ _ l1_4 a0_1 t955 false _ ?side1 ?side2 A40.out).mono ?_); (case side1 => exact cb HR1_4); (case side2 => exact HC1_4.out); rintro e w' ⟨rfl, ⟨nd, rfl⟩⟩; (try first | exact ⟨rfl, _, World.drewN_drewN _ _ _⟩ | exact ⟨rfl, _, Eq.trans (World.drewN_drewN _ _ _) (congrArg (World.drewN _) (Nat.add_assoc _ _ _))⟩))))
   go_ret
   exact ⟨rf, bl⟩

/-! ### spec_HitsAny: function 33 -/
def spec_HitsAny.l0 : Nat → List (S109) → Int → ByteArray → List ByteArray → List ByteArray → Int → List (S84) → ByteArray → Int → Option (Bool)
 | 0, _, _, _, _, _, _, _, _, _ => none
 | k + 1, x0, x5, x958000, x958001, x958002, x958003, x958004, x958005, x958006 => if x5 < (x0.length : Int) then (if 0 ≤ x5 then ((spec_Hits.f k ((rd_T109 x0 x5).f0) ((rd_T109 x0 x5).f1) ((rd_T109 x0 x5).f2) ((rd_T109 x0 x5).f3) x958000 x958001 x958002 x958003 x958004 x958005 x958006).bind fun t959 => (if t959 = true then (some true) else (spec_HitsAny.l0 k x0 (wrap64 (x5 + 1)) x958000 x958001 x958002 x958003 x958004 x958005 x958006))) else (none)) else (some false)
def spec_HitsAny.f (k : Nat) (l0 : List (S109)) (a1_0 : ByteArray) (l1_1 : List ByteArray) (l1_2 : List ByteArray) (a1_3 : Int) (l1_4 : List (S84)) (a1_5 : ByteArray) (a1_6 : Int) : Option (Bool) := spec_HitsAny.l0 k l0 0 a1_0 l1_1 l1_2 a1_3 l1_4 a1_5 a1_6
theorem spec_HitsAny.mono_l : ∀ k, (∀ y0 y1 y2 y3 y4 y5 y6 y7 y8, LeO (spec_HitsAny.l0 k y0 y1 y2 y3 y4 y5 y6 y7 y8) (spec_HitsAny.l0 (k + 1) y0 y1 y2 y3 y4 y5 y6 y7 y8))
 | 0 => fun _ _ _ _ _ _ _ _ _ r h => by simp [spec_HitsAny.l0] at h
 | k + 1 => by
  have ih0 := spec_HitsAny.mono_l k
  ·intro y0 y1 y2 y3 y4 y5 y6 y7 y8
   unfold spec_HitsAny.l0
   have m0 := @spec_Hits.mono
   exact mo
theorem spec_HitsAny.mono : ∀ a0 a1 a2 a3 a4 a5 a6 a7 k, LeO (spec_HitsAny.f k a0 a1 a2 a3 a4 a5 a6 a7) (spec_HitsAny.f (k + 1) a0 a1 a2 a3 a4 a5 a6 a7) := by
 intro a0 a1 a2 a3 a4 a5 a6 a7 k
 have ih0 := spec_HitsAny.mono_l k
 unfold spec_HitsAny.f
 have m0 := @spec_Hits.mono
 exact mo
set_option maxHeartbeats 8000000 in
set_option maxRecDepth 100000 in
theorem spec_HitsAny.calls (k : Nat) (A0 : Option Addr) (c0 : Nat) (l0 : List (S109)) (a1_0 : ByteArray) (A1_1 : Option Addr) (c1_1 : Nat) (l1_1 : List ByteArray) (A1_2 : Option Addr) (c1_2 : Nat) (l1_2 : List ByteArray) (a1_3 : Int) (A1_4 : Option Addr) (c1_4 : Nat) (l1_4 : List (S84)) (a1_5 : ByteArray) (a1_6 : Int) (r : Bool) (w : World) (hr0 : Kd.C k109 w A0 l0.length l0) (hc0 : l0.length ≤ c0) (hr1_1 : Kd.C Kd.string w A1_1 l1_1.length l1_1) (hc1_1 : l1_1.length ≤ c1_1) (hr1_2 : Kd.C Kd.string w A1_2 l1_2.length l1_2) (hc1_2 : l1_2.length ≤ c1_2) (hr1_4 : Kd.C k84 w A1_4 l1_4.length l1_4) (hc1_4 : l1_4.length ≤ c1_4) (h : spec_HitsAny.f k l0 a1_0 l1_1 l1_2 a1_3 l1_4 a1_5 a1_6 = some r) :
  Calls Tryd.prog 33 #[.slice A0 l0.length c0, .agg #[.string a1_0, .slice A1_1 l1_1.length c1_1, .slice A1_2 l1_2.length c1_2, .int .i64 a1_3, .slice A1_4 l1_4.length c1_4, .string a1_5, .int .i64 a1_6]] w fun e w' => e = .returned (.bool r) ∧ Below w.heap.size w w' := by
 have hu55 := Tryd.underlying55
 have hu109 := Tryd.underlying109
 have HR0 := am hr0
 have HC0 := am hc0
 clear hr0 hc0
 have HR1_1 := am hr1_1
 have HC1_1 := am hc1_1
 clear hr1_1 hc1_1
 have HR1_2 := am hr1_2
 have HC1_2 := am hc1_2
 clear hr1_2 hc1_2
 have HR1_4 := am hr1_4
 have HC1_4 := am hc1_4
 clear hr1_4 hc1_4
 have HB := am (Below.refl w.heap.size w)
 unfold spec_HitsAny.f at h
 have H := h
 clear h
 have H' := am H
 clear H
 go_enter Tryd.func33, Tryd.ntmps33
 go_wp2_with (first | (refine bx 3 #[.string a1_0, .slice A1_1 l1_1.length c1_1, .slice A1_2 l1_2.length c1_2, .int .i64 a1_3, .slice A1_4 l1_4.length c1_4, .string a1_5, .int .i64 a1_6] 55 ?_; intro gb957 hg w3 hbox hb; have BK957 := am (hbox); have GW957 := am (sz hg : w.heap.size ≤ gb957); have GE957 := am (sz hg : w.heap.size ≤ gb957); replace HB := am (below_step bl hb); clear hb hbox hg))
 (try simp only [Act.put, List.setIfInBounds_toArray, List.set_cons_zero, List.set_cons_succ])
 go_loopg [5] k (fun kq v5 w' => ∃ (x5_1 : Int), v5 = .int .i64 x5_1 ∧ Aside0 (spec_HitsAny.l0 kq l0 x5_1 a1_0 l1_1 l1_2 a1_3 l1_4 a1_5 a1_6 = some r) ∧ Aside0 (kq ≤ k) ∧ Aside0 (w'.heap[gb957]? = some (.cells #[.string a1_0, (.slice A1_1 l1_1.length c1_1), (.slice A1_2 l1_2.length c1_2), .int .i64 a1_3, (.slice A1_4 l1_4.length c1_4), .string a1_5, .int .i64 a1_6] 55 (0, 0))) ∧ Aside0 (Below w.heap.size w w'))
 case atStart => exact ⟨(0), rs, H', ⟨Nat.le_refl _⟩, ⟨by (with_reducible repeat (first | refine blk_drewN ?_ _ | refine blk_drew ?_ | refine blk_alloc ?_ _)); exact BK957.out⟩, ⟨by repeat (first | (with_reducible first | exact HB.out | apply below_alloc | apply pw_below_drewN | apply below_drew1 | refine below_set ?_ GE957.out) | exact HB.out)⟩⟩
 case round =>
  clear H'
  try clear c1
  try clear p2
  try clear c3
  obtain ⟨x5_1, rfl, HA, HK1, BK957, HB⟩ := hrel
  cases gk with
  | zero => exact absurd HA.out (by simp [spec_HitsAny.l0])
  | succ k1 =>
   have H := HA.out
   clear HA
   simp only [spec_HitsAny.l0] at H
   by_cases c4 : x5_1 < (l0.length : Int)
   rotate_left
   ·rw [if_neg c4] at H
    have c4b0 := decide_eq_false c4
    clear c4
    obtain rfl := Option.some.inj H
    go_wp2
    go_ret
    exact ⟨rf, bl⟩
   rw [if_pos c4] at H
   have c4b0 := decide_eq_true c4
   clear c4
   revert H
   refine ifn fun c5 H => ?_
   have c5b0 := decide_eq_true c5
   clear c5
   revert H
   refine ok1 fun t959 A6 H => ?_
   by_cases c7 : t959 = true
   ·subst c7
    rw [if_pos rfl] at H
    obtain rfl := Option.some.inj H
    try go_wp2
    replace BK957 := am (blk_drew BK957.out)
    replace HB := am (below_drew1 HB.out)
    have p958 : 0 ≤ (x5_1 : Int) := od
    have q958 : x5_1 < (l0.length : Int) := od
    obtain ⟨ad958, e958, hx958_0, hx958_1, hx958_2, hx958_3⟩ := at_T109 HR0.out x5_1 p958 q958
    have hw958_3 := hx958_3
    have hw958_2 := hx958_2
    have hw958_1 := hx958_1
    have hw958_0 := hx958_0
    cases e958
    replace hx958_0 := hcw hx958_0
    replace hx958_1 := hcw hx958_1
    replace hx958_2 := hcw hx958_2
    replace hx958_3 := hcw hx958_3
    replace p958 := eq_true p958
    replace q958 := eq_true q958
    refine start_ (n := 6) (S := fun w' => w'.cell? ⟨gb957, 0, none⟩ = some (.string a1_0) ∧ w'.cell? ⟨gb957, 1, none⟩ = some (.slice A1_1 l1_1.length c1_1) ∧ w'.cell? ⟨gb957, 2, none⟩ = some (.slice A1_2 l1_2.length c1_2) ∧ w'.cell? ⟨gb957, 3, none⟩ = some (.int .i64 a1_3) ∧ w'.cell? ⟨gb957, 4, none⟩ = some (.slice A1_4 l1_4.length c1_4) ∧ w'.cell? ⟨gb957, 5, none⟩ = some (.string a1_5) ∧ w'.cell? ⟨gb957, 6, none⟩ = some (.int .i64 a1_6) ∧ w'.cell? (ad958.add ((x5_1).toNat * 4)) = some (.int .i64 ((rd_T109 l0 x5_1).f0)) ∧ w'.cell? ⟨(ad958.add ((x5_1).toNat * 4)).block, (ad958.add ((x5_1).toNat * 4)).off + 1, none⟩ = some (.string ((rd_T109 l0 x5_1).f1)) ∧ w'.cell? ⟨(ad958.add ((x5_1).toNat * 4)).block, (ad958.add ((x5_1).toNat * 4)).off + 2, none⟩ = some (.string ((rd_T109 l0 x5_1).f2)) ∧ w'.cell? ⟨(ad958.add ((x5_1).toNat * 4)).block, (ad958.add ((x5_1).toNat * 4)).off + 3, none⟩ = some (.int .i64 ((rd_T109 l0 x5_1).f3))) (ds := []) ⟨br true [0, 6]⟩ (by kernel_rfl) rfl (by kernel_rfl) ⟨bc BK957, bc BK957, bc BK957, bc BK957, bc BK957, bc BK957, bc BK957, (hcw hw958_0), (hcw hw958_1), (hcw hw958_2), (hcw hw958_3)⟩ (fun hHeld => ?_)
    generalize wr.drew = w8 at BK957 HB hx958_0 hx958_1 hx958_2 hx958_3 hHeld ⊢
    refine pu 0 12 [1, 5] ?_
    refine pu 1 13 [2, 4] ?_
    refine pu 2 14 [3, 3] ?_
    refine tk 3 15 [4, 2] ?_
    refine tk 4 16 [5, 1] ?_
    refine og 5 17 [6] Tryd.func88 #[.agg #[.int .i64 ((rd_T109 l0 x5_1).f0), .string ((rd_T109 l0 x5_1).f1), .string ((rd_T109 l0 x5_1).f2), .int .i64 ((rd_T109 l0 x5_1).f3)], .agg #[.string a1_0, .slice A1_1 l1_1.length c1_1, .slice A1_2 l1_2.length c1_2, .int .i64 a1_3, .slice A1_4 l1_4.length c1_4, .string a1_5, .int .i64 a1_6]] (fun K hK => ?_)
    with_reducible refine (spec_Hits.calls k1 ((rd_T109 l0 x5_1).f0) ((rd_T109 l0 x5_1).f1) ((rd_T109 l0 x5_1).f2) ((rd_T109 l0 x5_1).f3) a1_0 _ _ l1_1 _ _ l1_2 a1_3 _ _ l1_4 a1_5 a1_6 true _ ?side1 ?side2 ?side3 ?side4 ?side5 ?side6 A6.out).mono ?_
    (case side1 => exact cb HR1_1)
    (case side2 => exact HC1_1.out)
    (case side3 => exact cb HR1_2)
    (case side4 => exact HC1_2.out)
    (case side5 => exact cb HR1_4)
    (case side6 => exact HC1_4.out)
    rintro e w9 ⟨rfl, hb⟩
    refine ⟨_, rfl, ?_⟩
    replace BK957 := kb BK957 hb
    replace HB := am (below_step bl hb)
    clear hb
    refine hK.out _ _ ⟨bc BK957, bc BK957, bc BK957, bc BK957, bc BK957, bc BK957, bc BK957, (hcw hw958_0), (hcw hw958_1), (hcw hw958_2), (hcw hw958_3)⟩ (fun hHeld => ?_)
    clear hK K
    refine nm 17 ?_
    refine done_ (by kernel_rfl) ?_
    try go_wp2
    go_ret
    exact ⟨rf, bl⟩
   replace c7 := Bool.eq_false_iff.mpr c7
   subst c7
   rw [if_neg (show ¬ (false = true) by decide)] at H
   have H' := am H
   clear H
   try go_wp2
   replace BK957 := am (blk_drew BK957.out)
   replace HB := am (below_drew1 HB.out)
   have p958 : 0 ≤ (x5_1 : Int) := od
   have q958 : x5_1 < (l0.length : Int) := od
   obtain ⟨ad958, e958, hx958_0, hx958_1, hx958_2, hx958_3⟩ := at_T109 HR0.out x5_1 p958 q958
   have hw958_3 := hx958_3
   have hw958_2 := hx958_2
   have hw958_1 := hx958_1
   have hw958_0 := hx958_0
   cases e958
   replace hx958_0 := hcw hx958_0
   replace hx958_1 := hcw hx958_1
   replace hx958_2 := hcw hx958_2
   replace hx958_3 := hcw hx958_3
   replace p958 := eq_true p958
   replace q958 := eq_true q958
   refine start_ (n := 6) (S := fun w' => w'.cell? ⟨gb957, 0, none⟩ = some (.string a1_0) ∧ w'.cell? ⟨gb957, 1, none⟩ = some (.slice A1_1 l1_1.length c1_1) ∧ w'.cell? ⟨gb957, 2, none⟩ = some (.slice A1_2 l1_2.length c1_2) ∧ w'.cell? ⟨gb957, 3, none⟩ = some (.int .i64 a1_3) ∧ w'.cell? ⟨gb957, 4, none⟩ = some (.slice A1_4 l1_4.length c1_4) ∧ w'.cell? ⟨gb957, 5, none⟩ = some (.string a1_5) ∧ w'.cell? ⟨gb957, 6, none⟩ = some (.int .i64 a1_6) ∧ w'.cell? (ad958.add ((x5_1).toNat * 4)) = some (.int .i64 ((rd_T109 l0 x5_1).f0)) ∧ w'.cell? ⟨(ad958.add ((x5_1).toNat * 4)).block, (ad958.add ((x5_1).toNat * 4)).off + 1, none⟩ = some (.string ((rd_T109 l0 x5_1).f1)) ∧ w'.cell? ⟨(ad958.add ((x5_1).toNat * 4)).block, (ad958.add ((x5_1).toNat * 4)).off + 2, none⟩ = some (.string ((rd_T109 l0 x5_1).f2)) ∧ w'.cell? ⟨(ad958.add ((x5_1).toNat * 4)).block, (ad958.add ((x5_1).toNat * 4)).off + 3, none⟩ = some (.int .i64 ((rd_T109 l0 x5_1).f3))) (ds := []) ⟨br true [0, 6]⟩ (by kernel_rfl) rfl (by kernel_rfl) ⟨bc BK957, bc BK957, bc BK957, bc BK957, bc BK957, bc BK957, bc BK957, (hcw hw958_0), (hcw hw958_1), (hcw hw958_2), (hcw hw958_3)⟩ (fun hHeld => ?_)
   generalize wr.drew = w10 at BK957 HB hx958_0 hx958_1 hx958_2 hx958_3 hHeld ⊢
   refine pu 0 12 [1, 5] ?_
   refine pu 1 13 [2, 4] ?_
   refine pu 2 14 [3, 3] ?_
   refine tk 3 15 [4, 2] ?_
   refine tk 4 16 [5, 1] ?_
   refine og 5 17 [6] Tryd.func88 #[.agg #[.int .i64 ((rd_T109 l0 x5_1).f0), .string ((rd_T109 l0 x5_1).f1), .string ((rd_T109 l0 x5_1).f2), .int .i64 ((rd_T109 l0 x5_1).f3)], .agg #[.string a1_0, .slice A1_1 l1_1.length c1_1, .slice A1_2 l1_2.length c1_2, .int .i64 a1_3, .slice A1_4 l1_4.length c1_4, .string a1_5, .int .i64 a1_6]] (fun K hK => ?_)
   with_reducible refine (spec_Hits.calls k1 ((rd_T109 l0 x5_1).f0) ((rd_T109 l0 x5_1).f1) ((rd_T109 l0 x5_1).f2) ((rd_T109 l0 x5_1).f3) a1_0 _ _ l1_1 _ _ l1_2 a1_3 _ _ l1_4 a1_5 a1_6 false _ ?side1 ?side2 ?side3 ?side4 ?side5 ?side6 A6.out).mono ?_
   (case side1 => exact cb HR1_1)
   (case side2 => exact HC1_1.out)
   (case side3 => exact cb HR1_2)
   (case side4 => exact HC1_2.out)
   (case side5 => exact cb HR1_4)
   (case side6 => exact HC1_4.out)
   rintro e w11 ⟨rfl, hb⟩
   refine ⟨_, rfl, ?_⟩
   replace BK957 := kb BK957 hb
   replace HB := am (below_step bl hb)
   clear hb
   refine hK.out _ _ ⟨bc BK957, bc BK957, bc BK957, bc BK957, bc BK957, bc BK957, bc BK957, (hcw hw958_0), (hcw hw958_1), (hcw hw958_2), (hcw hw958_3)⟩ (fun hHeld => ?_)
   clear hK K
   refine nm 17 ?_
   refine done_ (by kernel_rfl) ?_
   try go_wp2
   go_roundg k1
   case measure => have := HK1.out; omega
   case rel => exact ⟨(wrap64 (x5_1 + 1)), rs, H', ⟨by have := HK1.out; omega⟩, ⟨by (with_reducible repeat (first | refine blk_drewN ?_ _ | refine blk_drew ?_ | refine blk_alloc ?_ _)); exact BK957.out⟩, ⟨by repeat (first | (with_reducible first | exact HB.out | apply below_alloc | apply pw_below_drewN | apply below_drew1 | refine below_set ?_ GE957.out) | exact HB.out)⟩⟩

/-! ### laws_toBan: function 89 -/
def laws_toBan.f (a0_0 : Int) (a0_1 : ByteArray) (a0_2 : ByteArray) (a0_3 : Int) : Option (Int × ByteArray × ByteArray × Int) := some (a0_0, a0_1, a0_2, a0_3)
set_option maxHeartbeats 8000000 in
set_option maxRecDepth 100000 in
theorem laws_toBan.calls (a0_0 : Int) (a0_1 : ByteArray) (a0_2 : ByteArray) (a0_3 : Int) (r1 : Int) (r2 : ByteArray) (r3 : ByteArray) (r4 : Int) (w : World) (h : laws_toBan.f a0_0 a0_1 a0_2 a0_3 = some (r1, r2, r3, r4)) :
  Calls Tryd.prog 89 #[.agg #[.int .i64 a0_0, .string a0_1, .string a0_2, .int .i64 a0_3]] w fun e w' => e = .returned (.agg #[.int .i64 r1, .string r2, .string r3, .int .i64 r4]) ∧ Below w.heap.size w w' := by
 have hu107 := Tryd.underlying107
 have hu109 := Tryd.underlying109
 have HB := am (Below.refl w.heap.size w)
 unfold laws_toBan.f at h
 have H := h
 clear h
 simp only [Option.some.injEq, Prod.mk.injEq] at H
 obtain ⟨rfl, rfl, rfl, rfl⟩ := H
 go_enter Tryd.func89, Tryd.ntmps89
 go_wp2_with (first | (refine bx 1 #[.int .i64 a0_0, .string a0_1, .string a0_2, .int .i64 a0_3] 107 ?_; intro gb960 hg w2 hbox hb; have BK960 := am (hbox); have GW960 := am (sz hg : w.heap.size ≤ gb960); have GE960 := am (sz hg : w.heap.size ≤ gb960); replace HB := am (below_step bl hb); clear hb hbox hg) | (refine bx 2 #[.int .i64 0, .string (⟨#[]⟩ : ByteArray), .string (⟨#[]⟩ : ByteArray), .int .i64 0] 109 ?_; intro gb961 hg w3 hbox hb; have BK961 := am (hbox); have GW961 := am (sz hg : w.heap.size ≤ gb961); have GE961 := am (sz hg : w.heap.size ≤ gb961); replace HB := am (below_step bl hb); have NB960_961 := am (nl hg BK960 : gb960 ≠ gb961); have NB961_960 := am (ng hg BK960 : gb961 ≠ gb960); replace BK960 := kb BK960 hb; clear hb hbox hg) | (refine bx 3 #[.int .i64 0, .string (⟨#[]⟩ : ByteArray), .string (⟨#[]⟩ : ByteArray), .int .i64 0] 109 ?_; intro gb962 hg w4 hbox hb; have BK962 := am (hbox); have GW962 := am (sz hg : w.heap.size ≤ gb962); have GE962 := am (sz hg : w.heap.size ≤ gb962); replace HB := am (below_step bl hb); have NB960_962 := am (nl hg BK960 : gb960 ≠ gb962); have NB962_960 := am (ng hg BK960 : gb962 ≠ gb960); replace BK960 := kb BK960 hb; have NB961_962 := am (nl hg BK961 : gb961 ≠ gb962); have NB962_961 := am (ng hg BK961 : gb962 ≠ gb961); replace BK961 := kb BK961 hb; clear hb hbox hg; have hnb5 := NB960_961.out; have hnc5 := NB961_960.out; have hnb6 := NB960_962.out; have hnc6 := NB962_960.out; obtain ⟨z7_0, y7_0, z7_1, y7_1, z7_2, y7_2, z7_3, y7_3⟩ := cl4 BK960; have hnb8 := NB962_961.out; have hnc8 := NB961_962.out; obtain ⟨z9_0, y9_0, z9_1, y9_1, z9_2, y9_2, z9_3, y9_3⟩ := cl4 BK962; obtain ⟨z10_0, y10_0, z10_1, y10_1, z10_2, y10_2, z10_3, y10_3⟩ := cl4 BK961))
 refine bodyPost_ret (results_cell_row rfl _ _ gb961 109 #[.int .i64 a0_0, .string a0_1, .string a0_2, .int .i64 a0_3] (0, 0) _ rfl (by (with_reducible repeat (first | refine blk_drewN ?_ _ | refine blk_drew ?_ | refine blk_alloc ?_ _)); refine blk_put (cs := #[.int .i64 a0_0, .string a0_1, .string a0_2, .int .i64 0]) ?_ 3 _ rfl; (with_reducible repeat (first | refine blk_drewN ?_ _ | refine blk_drew ?_ | refine blk_alloc ?_ _)); refine blk_put (cs := #[.int .i64 a0_0, .string a0_1, .string (⟨#[]⟩ : ByteArray), .int .i64 0]) ?_ 2 _ rfl; (with_reducible repeat (first | refine blk_drewN ?_ _ | refine blk_drew ?_ | refine blk_alloc ?_ _)); refine blk_put (cs := #[.int .i64 a0_0, .string (⟨#[]⟩ : ByteArray), .string (⟨#[]⟩ : ByteArray), .int .i64 0]) ?_ 1 _ rfl; (with_reducible repeat (first | refine blk_drewN ?_ _ | refine blk_drew ?_ | refine blk_alloc ?_ _)); refine blk_put (cs := #[.int .i64 0, .string (⟨#[]⟩ : ByteArray), .string (⟨#[]⟩ : ByteArray), .int .i64 0]) ?_ 0 _ rfl; (with_reducible repeat (first | refine blk_drewN ?_ _ | refine blk_drew ?_ | refine blk_alloc ?_ _)); refine blk_far ?_ NB961_962.out _; (with_reducible repeat (first | refine blk_drewN ?_ _ | refine blk_drew ?_ | refine blk_alloc ?_ _)); refine blk_far ?_ NB961_962.out _; (with_reducible repeat (first | refine blk_drewN ?_ _ | refine blk_drew ?_ | refine blk_alloc ?_ _)); refine blk_far ?_ NB961_962.out _; (with_reducible repeat (first | refine blk_drewN ?_ _ | refine blk_drew ?_ | refine blk_alloc ?_ _)); refine blk_far ?_ NB961_962.out _; (with_reducible repeat (first | refine blk_drewN ?_ _ | refine blk_drew ?_ | refine blk_alloc ?_ _)); exact BK961.out) Tryd.underlying109 rfl (by kernel_rfl)) rfl ?_
 exact ⟨rf, bl⟩

/-! ### laws_toBanS: function 34 -/
def laws_toBanS.l0 : Nat → List (S107) → List (S109) → Int → Option ((List (S109)))
 | 0, _, _, _ => none
 | k + 1, x0, x3, x4 => if x4 < (x0.length : Int) then (if 0 ≤ x4 then ((laws_toBan.f ((rd_T107 x0 x4).f0) ((rd_T107 x0 x4).f1) ((rd_T107 x0 x4).f2) ((rd_T107 x0 x4).f3)).bind fun bt967 => (if x4 < (x3.length : Int) then (laws_toBanS.l0 k x0 (x3.set (x4 : Int).toNat (⟨bt967.1, bt967.2.1, bt967.2.2.1, bt967.2.2.2⟩ : S109)) (wrap64 (x4 + 1))) else (none))) else (none)) else (some x3)
def laws_toBanS.f (k : Nat) (l0 : List (S107)) : Option ((List (S109))) := if 0 ≤ (l0.length : Int) then (if ((l0.length : Int) : Int).toNat ≤ 5864062014805 then (laws_toBanS.l0 k l0 (List.replicate ((l0.length : Int) : Int).toNat z109) 0) else (none)) else (none)
theorem laws_toBanS.mono_l : ∀ k, (∀ y0 y1 y2, LeO (laws_toBanS.l0 k y0 y1 y2) (laws_toBanS.l0 (k + 1) y0 y1 y2))
 | 0 => fun _ _ _ r h => by simp [laws_toBanS.l0] at h
 | k + 1 => by
  have ih0 := laws_toBanS.mono_l k
  ·intro y0 y1 y2
   unfold laws_toBanS.l0
   exact mo
theorem laws_toBanS.mono : ∀ a0 k, LeO (laws_toBanS.f k a0) (laws_toBanS.f (k + 1) a0) := by
 intro a0 k
 have ih0 := laws_toBanS.mono_l k
 unfold laws_toBanS.f
 exact mo
set_option maxHeartbeats 8000000 in
set_option maxRecDepth 100000 in
theorem laws_toBanS.calls (k : Nat) (A0 : Option Addr) (c0 : Nat) (l0 : List (S107)) (r : List (S109)) (w : World) (hr0 : Kd.C k107 w A0 l0.length l0) (hc0 : l0.length ≤ c0) (h : laws_toBanS.f k l0 = some r) :
  Calls Tryd.prog 34 #[.slice A0 l0.length c0] w fun e w' => ∃ v0_ : Value, e = .returned (v0_) ∧ Kd.R k109 109 w' w.heap.size (fun _ => True) v0_ r ∧ Below w.heap.size w w' := by
 have hu107 := Tryd.underlying107
 have hu109 := Tryd.underlying109
 have HR0 := am hr0
 have HC0 := am hc0
 clear hr0 hc0
 have HB := am (Below.refl w.heap.size w)
 unfold laws_toBanS.f at h
 have H := h
 clear h
 revert H
 refine ifn fun c2 H => ?_
 have c2b0 := eq_true c2
 have c2b1 := decide_eq_true c2
 clear c2
 revert H
 refine ifn fun c3 H => ?_
 have c3b0 := eq_true c3
 have c3b1 := decide_eq_true c3
 clear c3
 obtain ⟨y963, hy963⟩ : ∃ y_ : List (S109), y_ = (List.replicate ((l0.length : Int) : Int).toNat z109) := ⟨_, rfl⟩
 replace H : (laws_toBanS.l0 k l0 y963 0) = some r := by first | (rw [hy963]; with_reducible exact H) | (have H2_ := (Option.bind_some _ _).symm.trans H; rw [hy963]; with_reducible exact H2_) | (have H2_ := (Option.bind_some _ _).symm.trans H; with_reducible exact H2_) | with_reducible exact H | (rw [hy963]; exact H) | exact H
 have Ny963 := am hy963
 clear hy963
 have H' := am H
 clear H
 go_enter Tryd.func34, Tryd.ntmps34
 go_wp2_with (first | ((with_reducible refine gate_dst (N := 7) rfl ?_); refine Kd.R_make k109 _ 109 rfl (N := 7) rfl 62 _ _ rfl (l0.length : Int) rfl rfl Tryd.underlying62 (.agg #[(.int .i64 0), (.string ⟨#[]⟩), (.string ⟨#[]⟩), (.int .i64 0)]) 48 info109 rfl (by decide) (by omega) z109 (ok := fun _ => True) (okp := fun _ => True) (k109_mkM _ _ _ z109 ) (fun _ hk => hk) trivial (od) (Nat.le_trans (Nat.mul_le_mul_right _ (od : (l0.length : Int).toNat ≤ 5864062014805)) (by omega)) (Below.refl _ _) (Nat.le_refl _) ?_; intro v964 w4 ho5 hb hg_ hnew_; clear hg_ hnew_; (first | rw [← Ny963.out] at ho5 | (simp only [Int.reduceToNat] at ho5; rw [← Ny963.out] at ho5)); have HO965 := am (Kd.R_lower ho5 (below_size bl)); replace HB := am (below_step bl hb); clear hb ho5))
 (try simp only [Act.put, List.setIfInBounds_toArray, List.set_cons_zero, List.set_cons_succ])
 go_loopg [4] k (fun kq v4 w' => ∃ (x3_1 : List (S109)) (x4_1 : Int), v4 = .int .i64 x4_1 ∧ Aside0 (laws_toBanS.l0 kq l0 x3_1 x4_1 = some r) ∧ Aside0 (kq ≤ k) ∧ Aside0 (Kd.R k109 109 w' w.heap.size (fun _ => True) v964 x3_1) ∧ Aside0 (Below w.heap.size w w'))
 case atStart => exact ⟨(y963), (0), rs, H', ⟨Nat.le_refl _⟩, ⟨by (with_reducible repeat (first | apply Kd.R_alloc | apply Kd.R_drewN | apply Kd.R_drew)); exact HO965.out⟩, ⟨by repeat (first | (with_reducible first | exact HB.out | apply below_alloc | apply pw_below_drewN | apply below_drew1) | exact HB.out)⟩⟩
 case round =>
  clear H'
  try clear c2
  try clear c2b0
  try clear c2b1
  try clear p2
  try clear c3
  try clear c3b0
  try clear c3b1
  obtain ⟨x3_1, x4_1, rfl, HA, HK1, HO_3, HB⟩ := hrel
  cases gk with
  | zero => exact absurd HA.out (by simp [laws_toBanS.l0])
  | succ k1 =>
   have H := HA.out
   clear HA
   simp only [laws_toBanS.l0] at H
   by_cases c6 : x4_1 < (l0.length : Int)
   rotate_left
   ·rw [if_neg c6] at H
    have c6b0 := decide_eq_false c6
    clear c6
    obtain rfl := Option.some.inj H
    go_wp2
    go_ret
    exact ⟨_, rf, by (with_reducible repeat (first | apply Kd.R_alloc | apply Kd.R_drewN | apply Kd.R_drew)); exact HO_3.out, bl⟩
   rw [if_pos c6] at H
   have c6b0 := decide_eq_true c6
   clear c6
   revert H
   refine ifn fun c7 H => ?_
   have c7b0 := decide_eq_true c7
   clear c7
   revert H
   refine ok4 fun t967 t968 t969 t970 A8 H => ?_
   (try dsimp only at H)
   revert H
   refine ifn fun c9 H => ?_
   have c9b0 := decide_eq_true c9
   clear c9
   obtain ⟨y971, hy971⟩ : ∃ y_ : List (S109), y_ = (x3_1.set (x4_1 : Int).toNat (⟨t967, t968, t969, t970⟩ : S109)) := ⟨_, rfl⟩
   replace H : (laws_toBanS.l0 k1 l0 y971 (wrap64 (x4_1 + 1))) = some r := by first | (rw [hy971]; with_reducible exact H) | (have H2_ := (Option.bind_some _ _).symm.trans H; rw [hy971]; with_reducible exact H2_) | (have H2_ := (Option.bind_some _ _).symm.trans H; with_reducible exact H2_) | with_reducible exact H | (rw [hy971]; exact H) | exact H
   have Ny971 := am hy971
   clear hy971
   have H' := am H
   clear H
   have p966 : 0 ≤ (x4_1 : Int) := od
   have q966 : x4_1 < (l0.length : Int) := od
   obtain ⟨ad966, e966, hx966_0, hx966_1, hx966_2, hx966_3⟩ := at_T107 HR0.out x4_1 p966 q966
   cases e966
   replace hx966_0 := hcw hx966_0
   replace hx966_1 := hcw hx966_1
   replace hx966_2 := hcw hx966_2
   replace hx966_3 := hcw hx966_3
   replace p966 := eq_true p966
   replace q966 := eq_true q966
   go_wp2_with (first | (refine gl 20 Tryd.func89 #[.agg #[.int .i64 ((rd_T107 l0 x4_1).f0), .string ((rd_T107 l0 x4_1).f1), .string ((rd_T107 l0 x4_1).f2), .int .i64 ((rd_T107 l0 x4_1).f3)]] ?_; (with_reducible refine (laws_toBan.calls ((rd_T107 l0 x4_1).f0) ((rd_T107 l0 x4_1).f1) ((rd_T107 l0 x4_1).f2) ((rd_T107 l0 x4_1).f3) t967 t968 t969 t970 _ A8.out).mono ?_); rintro e w11 ⟨rfl, hb⟩; refine ⟨_, rfl, ?_⟩; replace HO_3 := kr HO_3 hb; replace HB := am (below_step bl hb); clear hb; have p10 : 0 ≤ (x4_1 : Int) := od; have q10 : (x4_1 : Int) < ((x3_1.length : Int) : Int) := od; obtain ⟨go10, co10, eo10, gb10, gl10, cl10, HG10⟩ := Kd.R_form HO_3.out (by omega); (first | cases eo10 | (injection eo10 with ea_ en_ ec_; (first | subst ea_ | (injection ea_ with ea_; subst ea_)); subst ec_; clear en_)); have GB10 := am gb10; have GG10 := am HG10; clear gb10 gl10 HG10; obtain ⟨ce10, hcl10, hM10, hcc10, hfr10⟩ := Kd.R_elem HO_3.out z109 (x4_1 : Int) p10 q10; obtain rfl := k109_openM hM10; have hx10_0 : w11.cell? ⟨go10, (x4_1 : Int).toNat * 4, none⟩ = some (.int .i64 ((rd_T109 x3_1 x4_1).f0)) := hcc10 0 _ rfl; have hx10_1 : w11.cell? ⟨go10, (x4_1 : Int).toNat * 4 + 1, none⟩ = some (.string ((rd_T109 x3_1 x4_1).f1)) := hcc10 1 _ rfl; have hx10_2 : w11.cell? ⟨go10, (x4_1 : Int).toNat * 4 + 2, none⟩ = some (.string ((rd_T109 x3_1 x4_1).f2)) := hcc10 2 _ rfl; have hx10_3 : w11.cell? ⟨go10, (x4_1 : Int).toNat * 4 + 3, none⟩ = some (.int .i64 ((rd_T109 x3_1 x4_1).f3)) := hcc10 3 _ rfl; have hf10_0 : w11.frozen? ⟨go10, (x4_1 : Int).toNat * 4, none⟩ = false := hfr10 0; have hf10_1 : w11.frozen? ⟨go10, (x4_1 : Int).toNat * 4 + 1, none⟩ = false := hfr10 1; have hf10_2 : w11.frozen? ⟨go10, (x4_1 : Int).toNat * 4 + 2, none⟩ = false := hfr10 2; have hf10_3 : w11.frozen? ⟨go10, (x4_1 : Int).toNat * 4 + 3, none⟩ = false := hfr10 3; clear hcl10 hcc10 hfr10 hM10; replace p10 := eq_true p10; replace q10 := eq_true q10; have HX12 := am (show Kd.R k109 109 w11 w.heap.size (fun _ => True) (.slice (some ⟨go10, 0, none⟩) x3_1.length co10) x3_1 from (ro HO_3)); obtain ⟨ce12, hcl12, hM12, hcc12, hfr12⟩ := Kd.R_elem HX12.out z109 (x4_1 : Int) (od) (by have h_ : (x4_1 : Int) < ((x3_1.length : Int) : Int) := od; first | exact h_ | (have e_ := (Kd.R_reads' HO_3.out).1; omega) | simpa using h_); obtain rfl := k109_openM hM12; have HP12 := Kd.R_seg HX12.out (x4_1 : Int) (od) (by have h_ : (x4_1 : Int) < ((x3_1.length : Int) : Int) := od; first | exact h_ | (have e_ := (Kd.R_reads' HO_3.out).1; omega) | simpa using h_) (seg := [.int .i64 t967, .string t968, .string t969, .int .i64 t970]) (j := 0) hcl12 hcc12 (show 4 ≤ 4 from by decide) (x' := (⟨t967, t968, t969, t970⟩ : S109)) (k109_mkM _ _ _ (⟨t967, t968, t969, t970⟩ : S109) ) (fun _ hk => hk); have hx12_0 := hcc12 0 _ rfl; (try simp only [show (k109).sz = 4 from rfl, Nat.mul_one, Nat.add_zero] at hx12_0); have hf12_0 := hfr12 0; (try simp only [show (k109).sz = 4 from rfl, Nat.mul_one, Nat.add_zero] at hf12_0); have hx12_1 := hcc12 1 _ rfl; (try simp only [show (k109).sz = 4 from rfl, Nat.mul_one, Nat.add_zero] at hx12_1); have hf12_1 := hfr12 1; (try simp only [show (k109).sz = 4 from rfl, Nat.mul_one, Nat.add_zero] at hf12_1); have hx12_2 := hcc12 2 _ rfl; (try simp only [show (k109).sz = 4 from rfl, Nat.mul_one, Nat.add_zero] at hx12_2); have hf12_2 := hfr12 2; (try simp only [show (k109).sz = 4 from rfl, Nat.mul_one, Nat.add_zero] at hf12_2); have hx12_3 := hcc12 3 _ rfl; (try simp only [show (k109).sz = 4 from rfl, Nat.mul_one, Nat.add_zero] at hx12_3); have hf12_3 := hfr12 3; (try simp only [show (k109).sz = 4 from rfl, Nat.mul_one, Nat.add_zero] at hf12_3); clear hcl12 hcc12 hfr12 hM12) | ((with_reducible refine gate_store (t := 109) (p := 21) rfl ?_); refine store_event (t := 109) (p := 21) (v := ?vo_w13) (w1 := ((((w11.setCell ⟨go10, (x4_1 : Int).toNat * 4, none⟩ (.int .i64 t967)).setCell ⟨go10, (x4_1 : Int).toNat * 4 + 1, none⟩ (.string t968)).setCell ⟨go10, (x4_1 : Int).toNat * 4 + 2, none⟩ (.string t969)).setCell ⟨go10, (x4_1 : Int).toNat * 4 + 3, none⟩ (.int .i64 t970))) ?hg ?ho ?hn ?hr ?_; (case ho => rfl); (case hg => rfl); (case hn => rfl); (case hr => first | (go_simp; done) | (go_simp; rfl)); intro w13 hw; have hg : w11.grownBy w13 (some go10) := (by rw [hw]; exact HP12.2); have hp_ : Kd.R k109 109 w13 w.heap.size (fun _ => True) (.slice (some ⟨go10, 0, none⟩) x3_1.length co10) y971 := (by rw [hw, Ny971.out]; exact HP12.1); clear HP12; have n0_ := am (hp_); have n1_ := am ((by rw [hw]; exact below_set (below_set (below_set (below_set (HB.out) GB10.out) GB10.out) GB10.out) GB10.out : Below w.heap.size w w13)); clear HO_3; clear HB; have HO_3 := n0_; have HB := n1_; clear n0_ n1_; clear hg hw hp_))
   go_roundg k1
   case measure => have := HK1.out; omega
   case rel => exact ⟨(y971), (wrap64 (x4_1 + 1)), rs, H', ⟨by have := HK1.out; omega⟩, ⟨by (with_reducible repeat (first | apply Kd.R_alloc | apply Kd.R_drewN | apply Kd.R_drew)); exact HO_3.out⟩, ⟨by repeat (first | (with_reducible first | exact HB.out | apply below_alloc | apply pw_below_drewN | apply below_drew1) | exact HB.out)⟩⟩

/-! ### impl_BanOk: function 128 -/
def impl_BanOk.j0 : Nat → Int → Bool → Int → ByteArray → ByteArray → Int → Option (Bool)
 | 0, _, _, _, _, _, _ => none
 | k + 1, x8, x9, x973000, x973001, x973002, x973003 => if x9 = true then ((impl_pathOk.f k x973001).bind fun t974 => (if t974 = true then (some (x973002.toList == ([] : List UInt8))) else (some false))) else (if x8 = 3 then ((impl_TokenOk.f k x973001).bind fun t975 => (if t975 = true then ((impl_ValueOk.f k x973002).bind fun t976 => (some t976)) else (some false))) else (some false))
def impl_BanOk.f (k : Nat) (a0_0 : Int) (a0_1 : ByteArray) (a0_2 : ByteArray) (a0_3 : Int) : Option (Bool) := (impl_isTime.f a0_3).bind fun t973 => (if t973 = true then (if a0_0 = 1 then (impl_BanOk.j0 k a0_0 (a0_0 == 1) a0_0 a0_1 a0_2 a0_3) else (impl_BanOk.j0 k a0_0 (a0_0 == 2) a0_0 a0_1 a0_2 a0_3)) else (some false))
theorem impl_BanOk.mono_l : ∀ k, (∀ y0 y1 y2 y3 y4 y5, LeO (impl_BanOk.j0 k y0 y1 y2 y3 y4 y5) (impl_BanOk.j0 (k + 1) y0 y1 y2 y3 y4 y5))
 | 0 => fun _ _ _ _ _ _ r h => by simp [impl_BanOk.j0] at h
 | k + 1 => by
  have ih0 := impl_BanOk.mono_l k
  ·intro y0 y1 y2 y3 y4 y5
   unfold impl_BanOk.j0
   have m0 := @impl_TokenOk.mono
   have m1 := @impl_ValueOk.mono
   have m2 := @impl_pathOk.mono
   exact mo
theorem impl_BanOk.mono : ∀ a0 a1 a2 a3 k, LeO (impl_BanOk.f k a0 a1 a2 a3) (impl_BanOk.f (k + 1) a0 a1 a2 a3) := by
 intro a0 a1 a2 a3 k
 have ih0 := impl_BanOk.mono_l k
 unfold impl_BanOk.f
 have m0 := @impl_TokenOk.mono
 have m1 := @impl_ValueOk.mono
 have m2 := @impl_pathOk.mono
 exact mo
set_option maxHeartbeats 8000000 in
set_option maxRecDepth 100000 in
theorem impl_BanOk.calls (k : Nat) (a0_0 : Int) (a0_1 : ByteArray) (a0_2 : ByteArray) (a0_3 : Int) (r : Bool) (w : World) (h : impl_BanOk.f k a0_0 a0_1 a0_2 a0_3 = some r) :
  Calls Tryd.prog 128 #[.agg #[.int .i64 a0_0, .string a0_1, .string a0_2, .int .i64 a0_3]] w fun e w' => e = .returned (.bool r) ∧ Below w.heap.size w w' := by
 have hu109 := Tryd.underlying109
 have HB := am (Below.refl w.heap.size w)
 unfold impl_BanOk.f at h
 have H := h
 clear h
 revert H
 refine ok1 fun t973 A2 H => ?_
 by_cases c3 : t973 = true
 rotate_left
 ·replace c3 := Bool.eq_false_iff.mpr c3
  subst c3
  rw [if_neg (show ¬ (false = true) by decide)] at H
  obtain rfl := Option.some.inj H
  go_enter Tryd.func128, Tryd.ntmps128
  go_wp2_with (first | (refine bx 1 #[.int .i64 a0_0, .string a0_1, .string a0_2, .int .i64 a0_3] 109 ?_; intro gb972 hg w20 hbox hb; have BK972 := am (hbox); have GW972 := am (sz hg : w.heap.size ≤ gb972); have GE972 := am (sz hg : w.heap.size ≤ gb972); replace HB := am (below_step bl hb); clear hb hbox hg; obtain ⟨z21_0, y21_0, z21_1, y21_1, z21_2, y21_2, z21_3, y21_3⟩ := cl4 BK972) | (refine gl 5 Tryd.func80 #[.int .i64 a0_3] ?_; (with_reducible refine (impl_isTime.calls a0_3 false _ A2.out).mono ?_); rintro e w' ⟨rfl, ⟨nd, rfl⟩⟩; refine ⟨_, rfl, ?_⟩))
  go_ret
  exact ⟨rf, bl⟩
 subst c3
 rw [if_pos rfl] at H
 have HC4 := am H
 clear H
 go_enter Tryd.func128, Tryd.ntmps128
 go_upto_if 9 with (first | (refine bx 1 #[.int .i64 a0_0, .string a0_1, .string a0_2, .int .i64 a0_3] 109 ?_; intro gb972 hg w5 hbox hb; have BK972 := am (hbox); have GW972 := am (sz hg : w.heap.size ≤ gb972); have GE972 := am (sz hg : w.heap.size ≤ gb972); replace HB := am (below_step bl hb); clear hb hbox hg; obtain ⟨z6_0, y6_0, z6_1, y6_1, z6_2, y6_2, z6_3, y6_3⟩ := cl4 BK972) | (refine gl 5 Tryd.func80 #[.int .i64 a0_3] ?_; (with_reducible refine (impl_isTime.calls a0_3 true _ A2.out).mono ?_); rintro e w' ⟨rfl, ⟨nd, rfl⟩⟩; refine ⟨_, rfl, ?_⟩))
 (try simp only [Act.put, List.setIfInBounds_toArray, List.set_cons_zero, List.set_cons_succ])
 go_cut [9] (fun v9 wc => ∃ (kq : Nat) (x9_3 : Bool), v9 = .bool x9_3 ∧ Aside0 (impl_BanOk.j0 kq a0_0 x9_3 a0_0 a0_1 a0_2 a0_3 = some r) ∧ Aside0 (kq ≤ k) ∧ Aside0 (wc.heap[gb972]? = some (.cells #[.int .i64 a0_0, .string a0_1, .string a0_2, .int .i64 a0_3] 109 (0, 0))) ∧ Aside0 (Below w.heap.size w wc))
 case first =>
  have H := HC4.out
  clear HC4
  by_cases c7 : a0_0 = 1
  rotate_left
  ·rw [if_neg c7] at H
   have c7b0 : (a0_0 == 1) = false := beq_eq_false_iff_ne.mpr c7
   have c7b1 : (a0_0 != 1) = true := bne_iff_ne.mpr c7
   (first | rw [c7b0] | (simp only [i64_w, i32_w]; rw [c7b0]) | skip)
   have H' := am H
   clear H
   go_wp2
   go_meet
   case rel => exact ⟨_, ((a0_0 == 2)), rs, H', ⟨by first | omega | exact Nat.le_refl _⟩, ⟨by (with_reducible repeat (first | refine blk_drewN ?_ _ | refine blk_drew ?_ | refine blk_alloc ?_ _)); exact BK972.out⟩, ⟨by repeat (first | (with_reducible first | exact HB.out | apply below_alloc | apply pw_below_drewN | apply below_drew1 | refine below_set ?_ GE972.out) | exact HB.out)⟩⟩
  rw [if_pos c7] at H
  have c7b0 : (a0_0 == 1) = true := beq_iff_eq.mpr c7
  have c7b1 : (a0_0 != 1) = false := bne_eq_false_iff_eq.mpr c7
  clear c7
  (first | rw [c7b0] | (simp only [i64_w, i32_w]; rw [c7b0]) | skip)
  have H' := am H
  clear H
  go_wp2
  go_meet
  case rel => exact ⟨_, ((a0_0 == 1)), rs, H', ⟨by first | omega | exact Nat.le_refl _⟩, ⟨by (with_reducible repeat (first | refine blk_drewN ?_ _ | refine blk_drew ?_ | refine blk_alloc ?_ _)); exact BK972.out⟩, ⟨by repeat (first | (with_reducible first | exact HB.out | apply below_alloc | apply pw_below_drewN | apply below_drew1 | refine below_set ?_ GE972.out) | exact HB.out)⟩⟩
 case rest =>
  clear HC4
  try clear c1
  try clear p2
  try clear c3
  try clear c7
  try clear c7b0
  try clear c7b1
  try clear z6_0
  try clear z6_1
  try clear z6_2
  try clear z6_3
  try clear y6_0
  try clear y6_1
  try clear y6_2
  try clear y6_3
  obtain ⟨kq, x9_3, rfl, HA, HJ3, BK972, HB⟩ := hcut
  cases kq with
  | zero => exact absurd HA.out (by simp [impl_BanOk.j0])
  | succ kj3 =>
   have H := HA.out
   clear HA
   simp only [impl_BanOk.j0] at H
   by_cases c8 : x9_3 = true
   ·subst c8
    rw [if_pos rfl] at H
    revert H
    refine ok1 fun t974 A9 H => ?_
    by_cases c10 : t974 = true
    ·subst c10
     rw [if_pos rfl] at H
     obtain rfl := Option.some.inj H
     obtain ⟨z11_0, y11_0, z11_1, y11_1, z11_2, y11_2, z11_3, y11_3⟩ := cl4 BK972
     go_wp2_with (first | (refine gl 14 Tryd.func61 #[.string a0_1] ?_; (with_reducible refine (impl_pathOk.calls kj3 a0_1 true _ A9.out).mono ?_); rintro e w' ⟨rfl, ⟨nd, rfl⟩⟩; refine ⟨_, rfl, ?_⟩))
     go_ret
     exact ⟨rf, bl⟩
    replace c10 := Bool.eq_false_iff.mpr c10
    subst c10
    rw [if_neg (show ¬ (false = true) by decide)] at H
    obtain rfl := Option.some.inj H
    obtain ⟨z12_0, y12_0, z12_1, y12_1, z12_2, y12_2, z12_3, y12_3⟩ := cl4 BK972
    go_wp2_with (first | (refine gl 14 Tryd.func61 #[.string a0_1] ?_; (with_reducible refine (impl_pathOk.calls kj3 a0_1 false _ A9.out).mono ?_); rintro e w' ⟨rfl, ⟨nd, rfl⟩⟩; refine ⟨_, rfl, ?_⟩))
    go_ret
    exact ⟨rf, bl⟩
   replace c8 := Bool.eq_false_iff.mpr c8
   subst c8
   rw [if_neg (show ¬ (false = true) by decide)] at H
   by_cases c13 : a0_0 = 3
   rotate_left
   ·rw [if_neg c13] at H
    have c13b0 : (a0_0 == 3) = false := beq_eq_false_iff_ne.mpr c13
    have c13b1 : (a0_0 != 3) = true := bne_iff_ne.mpr c13
    obtain rfl := Option.some.inj H
    go_wp2
    go_ret
    exact ⟨rf, bl⟩
   rw [if_pos c13] at H
   have c13b0 : (a0_0 == 3) = true := beq_iff_eq.mpr c13
   have c13b1 : (a0_0 != 3) = false := bne_eq_false_iff_eq.mpr c13
   clear c13
   revert H
   refine ok1 fun t975 A14 H => ?_
   by_cases c15 : t975 = true
   rotate_left
   ·replace c15 := Bool.eq_false_iff.mpr c15
    subst c15
    rw [if_neg (show ¬ (false = true) by decide)] at H
    obtain rfl := Option.some.inj H
    obtain ⟨z19_0, y19_0, z19_1, y19_1, z19_2, y19_2, z19_3, y19_3⟩ := cl4 BK972
    go_wp2_with (first | (refine gl 24 Tryd.func116 #[.string a0_1] ?_; (with_reducible refine (impl_TokenOk.calls kj3 a0_1 false _ A14.out).mono ?_); rintro e w' ⟨rfl, ⟨nd, rfl⟩⟩; refine ⟨_, rfl, ?_⟩))
    go_ret
    exact ⟨rf, bl⟩
   subst c15
   rw [if_pos rfl] at H
   revert H
   refine ok1 fun t976 A16 H => ?_
   obtain rfl := Option.some.inj H
   obtain ⟨z17_0, y17_0, z17_1, y17_1, z17_2, y17_2, z17_3, y17_3⟩ := cl4 BK972
   go_wp2_with (first | (refine gl 24 Tryd.func116 #[.string a0_1] ?_; (with_reducible refine (impl_TokenOk.calls kj3 a0_1 true _ A14.out).mono ?_); rintro e w' ⟨rfl, ⟨nd, rfl⟩⟩; refine ⟨_, rfl, ?_⟩) | (go_at_call 79; (with_reducible refine (impl_ValueOk.calls kj3 a0_2 t976 _ A16.out).mono ?_); rintro e w18 ⟨rfl, hb⟩; replace BK972 := kb BK972 hb; replace HB := am (below_step bl hb); clear hb))
   go_ret
   exact ⟨rf, bl⟩

/-! ### strings_HasPrefix: function 129 -/
def strings_HasPrefix.f (a0 : ByteArray) (a1 : ByteArray) : Option (Bool) := (stringslite_HasPrefix.f a0 a1).bind fun t977 => (some t977)
set_option maxHeartbeats 8000000 in
set_option maxRecDepth 100000 in
theorem strings_HasPrefix.calls (a0 : ByteArray) (a1 : ByteArray) (r : Bool) (w : World) (h : strings_HasPrefix.f a0 a1 = some r) :
  Calls Tryd.prog 129 #[.string a0, .string a1] w fun e w' => e = .returned (.bool r) ∧ Drawn0 w w' := by
 unfold strings_HasPrefix.f at h
 have H := h
 clear h
 revert H
 refine ok1 fun t977 A3 H => ?_
 obtain rfl := Option.some.inj H
 go_enter Tryd.func129, Tryd.ntmps129
 go_wp2_with (first | (refine gl 7 Tryd.func145 #[.string a0, .string a1] ?_; (with_reducible refine (stringslite_HasPrefix.calls a0 a1 t977 _ A3.out).mono ?_); rintro e w' ⟨rfl, ⟨nd, rfl⟩⟩; refine ⟨_, rfl, ?_⟩))
 go_ret
 exact ⟨rs, dr⟩

end Go.Proofs.YtkgdcfaogdmcgaaDoor.All
