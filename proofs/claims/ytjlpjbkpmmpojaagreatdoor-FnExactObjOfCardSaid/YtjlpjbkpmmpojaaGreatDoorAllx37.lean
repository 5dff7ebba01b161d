-- Written by a program of this session (wip/tools/hprint.py) out of the translation. Lean checks it.
import Derived.Test.YtjlpjbkpmmpojaaGreatDoorAllx0
import Derived.Test.YtjlpjbkpmmpojaaGreatDoorAllx33
namespace Go.Proofs.YtjlpjbkpmmpojaaGreatDoor.All
open Go.RowKit Go.Proofs.YtjlpjbkpmmpojaaGreatDoorW.PrintWords Go.Proofs.YtjlpjbkpmmpojaaGreatDoorW.PrintLast Go.Proofs.YtjlpjbkpmmpojaaGreatDoorW.PrintMore
attribute [local go_sem] max2_int min2_int max_two min_two max_three min_three max_four min_four   -- for this text's walks alone
set_option linter.unusedVariables false
set_option linter.unusedSimpArgs false

/-! ### laws_szField: function 161 -/
def laws_szField.f (a0_0 : ByteArray) (a0_1 : ByteArray) (a1 : Int) : Option (Int) := if (wrap64 (a1 - (a0_0.size : Int))) < 0 then (some (-1)) else (if (wrap64 ((wrap64 (a1 - (a0_0.size : Int))) - (a0_1.size : Int))) < 0 then (some (-1)) else (some (wrap64 ((wrap64 (a1 - (a0_0.size : Int))) - (a0_1.size : Int)))))
set_option maxHeartbeats 8000000 in
set_option maxRecDepth 100000 in
theorem laws_szField.calls (a0_0 : ByteArray) (a0_1 : ByteArray) (a1 : Int) (r : Int) (w : World) (h : laws_szField.f a0_0 a0_1 a1 = some r) :
  Calls Tryz.prog 161 #[.agg #[.string a0_0, .string a0_1], .int .i64 a1] w fun e w' => e = .returned (.int .i64 r) ∧ Below w.heap.size w w' := by
 have hu163 := Tryz.underlying163
 have HB := am (Below.refl w.heap.size w)
 unfold laws_szField.f at h
 have H := h
 clear h
 have HH3 := am H
 clear H
 go_enter Tryz.func161, Tryz.ntmps161
 go_upto_if 11 with ((with_reducible refine gw ?_); first | (refine bx 2 #[.string a0_0, .string a0_1] 163 ?_; intro gb1561 hg w4 hbox hb; have BK1561 := am (hbox); have GW1561 := am (sz hg : w.heap.size ≤ gb1561); have GE1561 := am (sz hg : w.heap.size ≤ gb1561); replace HB := am (below_step bl hb); clear hb hbox hg; obtain ⟨z5_0, y5_0, z5_1, y5_1⟩ := cl2 BK1561))
 have H := HH3.out
 clear HH3
 by_cases c6 : (wrap64 (a1 - (a0_0.size : Int))) < 0
 ·rw [if_pos c6] at H
  have c6b0 := decide_eq_true c6
  clear c6
  (first | rw [c6b0] | (simp only [i64_w, i32_w]; rw [c6b0]) | skip)
  obtain rfl := Option.some.inj H
  go_wp2
  go_ret
  exact ⟨rf, bl⟩
 rw [if_neg c6] at H
 have c6b0 := decide_eq_false c6
 clear c6
 (first | rw [c6b0] | (simp only [i64_w, i32_w]; rw [c6b0]) | skip)
 by_cases c7 : (wrap64 ((wrap64 (a1 - (a0_0.size : Int))) - (a0_1.size : Int))) < 0
 ·rw [if_pos c7] at H
  have c7b0 := decide_eq_true c7
  clear c7
  obtain rfl := Option.some.inj H
  obtain ⟨z8_0, y8_0, z8_1, y8_1⟩ := cl2 BK1561
  go_wp2
  go_ret
  exact ⟨rf, bl⟩
 rw [if_neg c7] at H
 have c7b0 := decide_eq_false c7
 clear c7
 obtain rfl := Option.some.inj H
 obtain ⟨z9_0, y9_0, z9_1, y9_1⟩ := cl2 BK1561
 go_wp2
 go_ret
 exact ⟨rf, bl⟩

/-! ### laws_szFieldS: function 116 -/
theorem u116HB {p : Prop} (h : p := by repeat (first | (with_reducible first | exact HB.out | apply below_alloc | apply pw_below_drewN | apply below_drew1) | exact HB.out)) : p := h
def laws_szFieldS.l0 : Nat → List (S163) → Int → Int → Option (Int)
 | 0, _, _, _ => none
 | k + 1, x0, x1, x5 => if x5 < (x0.length : Int) then (if 0 ≤ x5 then ((laws_szField.f ((rd_T163 x0 x5).f0) ((rd_T163 x0 x5).f1) x1).bind fun t1563 => (if t1563 < 0 then (some (-1)) else (laws_szFieldS.l0 k x0 t1563 (wrap64 (x5 + 1))))) else (none)) else (some x1)
def laws_szFieldS.f (k : Nat) (l0 : List (S163)) (a1 : Int) : Option (Int) := if (wrap64 (a1 - (l0.length : Int))) < 0 then (some (-1)) else (laws_szFieldS.l0 k l0 (wrap64 (a1 - (l0.length : Int))) 0)
theorem laws_szFieldS.mono_l : ∀ k, (∀ y0 y1 y2, LeO (laws_szFieldS.l0 k y0 y1 y2) (laws_szFieldS.l0 (k + 1) y0 y1 y2))
 | 0 => fun _ _ _ r h => by simp [laws_szFieldS.l0] at h
 | k + 1 => by
  have ih0 := laws_szFieldS.mono_l k
  ·intro y0 y1 y2
   unfold laws_szFieldS.l0
   exact mo
theorem laws_szFieldS.mono : ∀ a0 a1 k, LeO (laws_szFieldS.f k a0 a1) (laws_szFieldS.f (k + 1) a0 a1) := by
 intro a0 a1 k
 have ih0 := laws_szFieldS.mono_l k
 unfold laws_szFieldS.f
 exact mo
set_option maxHeartbeats 8000000 in
set_option maxRecDepth 100000 in
theorem laws_szFieldS.calls (k : Nat) (A0 : Option Addr) (c0 : Nat) (l0 : List (S163)) (a1 : Int) (r : Int) (w : World) (hr0 : Kd.C k163 w A0 l0.length l0) (hc0 : l0.length ≤ c0) (h : laws_szFieldS.f k l0 a1 = some r) :
  Calls Tryz.prog 116 #[.slice A0 l0.length c0, .int .i64 a1] w fun e w' => e = .returned (.int .i64 r) ∧ Below w.heap.size w w' := by
 have hu163 := Tryz.underlying163
 have HR0 := am hr0
 have HC0 := am hc0
 clear hr0 hc0
 have HB := am (Below.refl w.heap.size w)
 unfold laws_szFieldS.f at h
 have H := h
 clear h
 by_cases c3 : (wrap64 (a1 - (l0.length : Int))) < 0
 ·rw [if_pos c3] at H
  have c3b0 := decide_eq_true c3
  clear c3
  obtain rfl := Option.some.inj H
  go_enter Tryz.func116, Tryz.ntmps116
  go_wp2
  go_ret
  exact ⟨rf, bl⟩
 rw [if_neg c3] at H
 have c3b0 := decide_eq_false c3
 clear c3
 have H' := am H
 clear H
 go_enter Tryz.func116, Tryz.ntmps116
 go_wp2
 (try simp only [Act.put, List.setIfInBounds_toArray, List.set_cons_zero, List.set_cons_succ])
 go_loopg [1, 5] k (fun kq v1 v5 w' => ∃ (x1_1 : Int) (x5_1 : Int), v1 = .int .i64 x1_1 ∧ v5 = .int .i64 x5_1 ∧ Aside0 (laws_szFieldS.l0 kq l0 x1_1 x5_1 = some r) ∧ Aside0 (kq ≤ k) ∧ Aside0 (Below w.heap.size w w'))
 case atStart => exact ⟨(wrap64 (a1 - (l0.length : Int))), (0), rs, rs, H', ⟨Nat.le_refl _⟩, ⟨u116HB⟩⟩
 case round =>
  clear H'
  try clear c1
  try clear p2
  try clear c3
  try clear c3b0
  obtain ⟨x1_1, x5_1, rfl, rfl, HA, HK1, HB⟩ := hrel
  cases gk with
  | zero => exact absurd HA.out (by simp [laws_szFieldS.l0])
  | succ k1 =>
   have H := HA.out
   clear HA
   simp only [laws_szFieldS.l0] at H
   by_cases c4 : x5_1 < (l0.length : Int)
   rotate_left
   ·rw [if_neg c4] at H
    have c4b0 := decide_eq_false c4
    clear c4
    obtain rfl := Option.some.inj H
    go_wp2
    go_ret
    exact ⟨rf, bl⟩
   rw [if_pos c4] at H
   have c4b0 := decide_eq_true c4
   clear c4
   revert H
   refine ifn fun c5 H => ?_
   have c5b0 := decide_eq_true c5
   clear c5
   revert H
   refine ok1 fun t1563 A6 H => ?_
   by_cases c7 : t1563 < 0
   ·rw [if_pos c7] at H
    have c7b0 := decide_eq_true c7
    clear c7
    obtain rfl := Option.some.inj H
    have p1562 : 0 ≤ (x5_1 : Int) := od
    have q1562 : x5_1 < (l0.length : Int) := od
    obtain ⟨ad1562, e1562, hx1562_0, hx1562_1⟩ := at_T163 HR0.out x5_1 p1562 q1562
    cases e1562
    replace hx1562_0 := hcw hx1562_0
    replace hx1562_1 := hcw hx1562_1
    replace p1562 := eq_true p1562
    replace q1562 := eq_true q1562
    go_wp2_with ((with_reducible refine gw ?_); first | (refine gl 23 Tryz.func161 #[.agg #[.string ((rd_T163 l0 x5_1).f0), .string ((rd_T163 l0 x5_1).f1)], .int .i64 x1_1] ?_; (with_reducible refine (laws_szField.calls ((rd_T163 l0 x5_1).f0) ((rd_T163 l0 x5_1).f1) x1_1 t1563 _ A6.out).mono ?_); rintro e w8 ⟨rfl, hb⟩; refine ⟨_, rfl, ?_⟩; replace HB := am (below_step bl hb); clear hb))
    go_ret
    exact ⟨rf, bl⟩
   rw [if_neg c7] at H
   have c7b0 := decide_eq_false c7
   clear c7
   have H' := am H
   clear H
   have p1562 : 0 ≤ (x5_1 : Int) := od
   have q1562 : x5_1 < (l0.length : Int) := od
   obtain ⟨ad1562, e1562, hx1562_0, hx1562_1⟩ := at_T163 HR0.out x5_1 p1562 q1562
   cases e1562
   replace hx1562_0 := hcw hx1562_0
   replace hx1562_1 := hcw hx1562_1
   replace p1562 := eq_true p1562
   replace q1562 := eq_true q1562
   go_wp2_with ((with_reducible refine gw ?_); first | (refine gl 23 Tryz.func161 #[.agg #[.string ((rd_T163 l0 x5_1).f0), .string ((rd_T163 l0 x5_1).f1)], .int .i64 x1_1] ?_; (with_reducible refine (laws_szField.calls ((rd_T163 l0 x5_1).f0) ((rd_T163 l0 x5_1).f1) x1_1 t1563 _ A6.out).mono ?_); rintro e w9 ⟨rfl, hb⟩; refine ⟨_, rfl, ?_⟩; replace HB := am (below_step bl hb); clear hb))
   go_roundg k1
   case measure => have := HK1.out; omega
   case rel => exact ⟨(t1563), (wrap64 (x5_1 + 1)), rs, rs, H', ⟨by have := HK1.out; omega⟩, ⟨u116HB⟩⟩

/-! ### laws_szReq: function 42 -/
def laws_szReq.f (k : Nat) (a0_0 : Int) (a0_1 : ByteArray) (l0_2 : List (S163)) (a0_3 : ByteArray) (a1 : Int) : Option (Int) := if (wrap64 (a1 - (a0_1.size : Int))) < 0 then (some (-1)) else ((laws_szFieldS.f k l0_2 (wrap64 (a1 - (a0_1.size : Int)))).bind fun t1565 => (if t1565 < 0 then (some (-1)) else (if (wrap64 (t1565 - (a0_3.size : Int))) < 0 then (some (-1)) else (some (wrap64 (t1565 - (a0_3.size : Int)))))))
theorem laws_szReq.mono : ∀ a0 a1 a2 a3 a4 k, LeO (laws_szReq.f k a0 a1 a2 a3 a4) (laws_szReq.f (k + 1) a0 a1 a2 a3 a4) := by
 intro a0 a1 a2 a3 a4 k
 unfold laws_szReq.f
 have m0 := @laws_szFieldS.mono
 exact mo
set_option maxHeartbeats 8000000 in
set_option maxRecDepth 100000 in
theorem laws_szReq.calls (k : Nat) (a0_0 : Int) (a0_1 : ByteArray) (A0_2 : Option Addr) (c0_2 : Nat) (l0_2 : List (S163)) (a0_3 : ByteArray) (a1 : Int) (r : Int) (w : World) (hr0_2 : Kd.C k163 w A0_2 l0_2.length l0_2) (hc0_2 : l0_2.length ≤ c0_2) (h : laws_szReq.f k a0_0 a0_1 l0_2 a0_3 a1 = some r) :
  Calls Tryz.prog 42 #[.agg #[.int .i64 a0_0, .string a0_1, .slice A0_2 l0_2.length c0_2, .string a0_3], .int .i64 a1] w fun e w' => e = .returned (.int .i64 r) ∧ Below w.heap.size w w' := by
 have hu67 := Tryz.underlying67
 have HR0_2 := am hr0_2
 have HC0_2 := am hc0_2
 clear hr0_2 hc0_2
 have HB := am (Below.refl w.heap.size w)
 unfold laws_szReq.f at h
 have H := h
 clear h
 have HH3 := am H
 clear H
 go_enter Tryz.func42, Tryz.ntmps42
 go_upto_if 11 with ((with_reducible refine gw ?_); first | (refine bx 2 #[.int .i64 a0_0, .string a0_1, .slice A0_2 l0_2.length c0_2, .string a0_3] 67 ?_; intro gb1564 hg w4 hbox hb; have BK1564 := am (hbox); have GW1564 := am (sz hg : w.heap.size ≤ gb1564); have GE1564 := am (sz hg : w.heap.size ≤ gb1564); replace HB := am (below_step bl hb); clear hb hbox hg; obtain ⟨z5_0, y5_0, z5_1, y5_1, z5_2, y5_2, z5_3, y5_3⟩ := cl4 BK1564))
 have H := HH3.out
 clear HH3
 by_cases c6 : (wrap64 (a1 - (a0_1.size : Int))) < 0
 ·rw [if_pos c6] at H
  have c6b0 := decide_eq_true c6
  clear c6
  (first | rw [c6b0] | (simp only [i64_w, i32_w]; rw [c6b0]) | skip)
  obtain rfl := Option.some.inj H
  go_wp2
  go_ret
  exact ⟨rf, bl⟩
 rw [if_neg c6] at H
 have c6b0 := decide_eq_false c6
 clear c6
 (first | rw [c6b0] | (simp only [i64_w, i32_w]; rw [c6b0]) | skip)
 revert H
 refine ok1 fun t1565 A7 H => ?_
 have HH8 := am H
 clear H
 obtain ⟨z9_0, y9_0, z9_1, y9_1, z9_2, y9_2, z9_3, y9_3⟩ := cl4 BK1564
 go_upto_if 17 with ((with_reducible refine gw ?_); first | (refine gl 15 Tryz.func116 #[.slice A0_2 l0_2.length c0_2, .int .i64 (wrap64 (a1 - (a0_1.size : Int)))] ?_; (with_reducible refine (laws_szFieldS.calls k _ _ l0_2 (wrap64 (a1 - (a0_1.size : Int))) t1565 _ ?side1 ?side2 A7.out).mono ?_); (case side1 => exact cb HR0_2); (case side2 => exact HC0_2.out); rintro e w10 ⟨rfl, hb⟩; refine ⟨_, rfl, ?_⟩; replace BK1564 := kb BK1564 hb; replace HB := am (below_step bl hb); clear hb))
 have H := HH8.out
 clear HH8
 by_cases c11 : t1565 < 0
 ·rw [if_pos c11] at H
  have c11b0 := decide_eq_true c11
  clear c11
  (first | rw [c11b0] | (simp only [i64_w, i32_w]; rw [c11b0]) | skip)
  obtain rfl := Option.some.inj H
  go_wp2
  go_ret
  exact ⟨rf, bl⟩
 rw [if_neg c11] at H
 have c11b0 := decide_eq_false c11
 clear c11
 (first | rw [c11b0] | (simp only [i64_w, i32_w]; rw [c11b0]) | skip)
 by_cases c12 : (wrap64 (t1565 - (a0_3.size : Int))) < 0
 ·rw [if_pos c12] at H
  have c12b0 := decide_eq_true c12
  clear c12
  obtain rfl := Option.some.inj H
  obtain ⟨z13_0, y13_0, z13_1, y13_1, z13_2, y13_2, z13_3, y13_3⟩ := cl4 BK1564
  go_wp2
  go_ret
  exact ⟨rf, bl⟩
 rw [if_neg c12] at H
 have c12b0 := decide_eq_false c12
 clear c12
 obtain rfl := Option.some.inj H
 obtain ⟨z14_0, y14_0, z14_1, y14_1, z14_2, y14_2, z14_3, y14_3⟩ := cl4 BK1564
 go_wp2
 go_ret
 exact ⟨rf, bl⟩

/-! ### laws_szResp: function 43 -/
def laws_szResp.f (k : Nat) (a0_0 : Int) (l0_1 : List (S163)) (a0_2 : ByteArray) (a1 : Int) : Option (Int) := (laws_szFieldS.f k l0_1 a1).bind fun t1567 => (if t1567 < 0 then (some (-1)) else (if (wrap64 (t1567 - (a0_2.size : Int))) < 0 then (some (-1)) else (some (wrap64 (t1567 - (a0_2.size : Int))))))
theorem laws_szResp.mono : ∀ a0 a1 a2 a3 k, LeO (laws_szResp.f k a0 a1 a2 a3) (laws_szResp.f (k + 1) a0 a1 a2 a3) := by
 intro a0 a1 a2 a3 k
 unfold laws_szResp.f
 have m0 := @laws_szFieldS.mono
 exact mo
set_option maxHeartbeats 8000000 in
set_option maxRecDepth 100000 in
theorem laws_szResp.calls (k : Nat) (a0_0 : Int) (A0_1 : Option Addr) (c0_1 : Nat) (l0_1 : List (S163)) (a0_2 : ByteArray) (a1 : Int) (r : Int) (w : World) (hr0_1 : Kd.C k163 w A0_1 l0_1.length l0_1) (hc0_1 : l0_1.length ≤ c0_1) (h : laws_szResp.f k a0_0 l0_1 a0_2 a1 = some r) :
  Calls Tryz.prog 43 #[.agg #[.int .i64 a0_0, .slice A0_1 l0_1.length c0_1, .string a0_2], .int .i64 a1] w fun e w' => e = .returned (.int .i64 r) ∧ Below w.heap.size w w' := by
 have hu69 := Tryz.underlying69
 have HR0_1 := am hr0_1
 have HC0_1 := am hc0_1
 clear hr0_1 hc0_1
 have HB := am (Below.refl w.heap.size w)
 unfold laws_szResp.f at h
 have H := h
 clear h
 revert H
 refine ok1 fun t1567 A3 H => ?_
 have HH4 := am H
 clear H
 go_enter Tryz.func43, Tryz.ntmps43
 go_upto_if 10 with ((with_reducible refine gw ?_); first | (refine bx 2 #[.int .i64 a0_0, .slice A0_1 l0_1.length c0_1, .string a0_2] 69 ?_; intro gb1566 hg w5 hbox hb; have BK1566 := am (hbox); have GW1566 := am (sz hg : w.heap.size ≤ gb1566); have GE1566 := am (sz hg : w.heap.size ≤ gb1566); replace HB := am (below_step bl hb); clear hb hbox hg; obtain ⟨z6_0, y6_0, z6_1, y6_1, z6_2, y6_2⟩ := cl3 BK1566) | (refine gl 8 Tryz.func116 #[.slice A0_1 l0_1.length c0_1, .int .i64 a1] ?_; (with_reducible refine (laws_szFieldS.calls k _ _ l0_1 a1 t1567 _ ?side1 ?side2 A3.out).mono ?_); (case side1 => exact cb HR0_1); (case side2 => exact HC0_1.out); rintro e w7 ⟨rfl, hb⟩; refine ⟨_, rfl, ?_⟩; replace BK1566 := kb BK1566 hb; replace HB := am (below_step bl hb); clear hb))
 have H := HH4.out
 clear HH4
 by_cases c8 : t1567 < 0
 ·rw [if_pos c8] at H
  have c8b0 := decide_eq_true c8
  clear c8
  (first | rw [c8b0] | (simp only [i64_w, i32_w]; rw [c8b0]) | skip)
  obtain rfl := Option.some.inj H
  go_wp2
  go_ret
  exact ⟨rf, bl⟩
 rw [if_neg c8] at H
 have c8b0 := decide_eq_false c8
 clear c8
 (first | rw [c8b0] | (simp only [i64_w, i32_w]; rw [c8b0]) | skip)
 by_cases c9 : (wrap64 (t1567 - (a0_2.size : Int))) < 0
 ·rw [if_pos c9] at H
  have c9b0 := decide_eq_true c9
  clear c9
  obtain rfl := Option.some.inj H
  obtain ⟨z10_0, y10_0, z10_1, y10_1, z10_2, y10_2⟩ := cl3 BK1566
  go_wp2
  go_ret
  exact ⟨rf, bl⟩
 rw [if_neg c9] at H
 have c9b0 := decide_eq_false c9
 clear c9
 obtain rfl := Option.some.inj H
 obtain ⟨z11_0, y11_0, z11_1, y11_1, z11_2, y11_2⟩ := cl3 BK1566
 go_wp2
 go_ret
 exact ⟨rf, bl⟩

/-! ### laws_toField: function 162 -/
def laws_toField.f (a0_0 : ByteArray) (a0_1 : ByteArray) : Option (ByteArray × ByteArray) := some (a0_0, a0_1)
set_option maxHeartbeats 8000000 in
set_option maxRecDepth 100000 in
theorem laws_toField.calls (a0_0 : ByteArray) (a0_1 : ByteArray) (r1 : ByteArray) (r2 : ByteArray) (w : World) (h : laws_toField.f a0_0 a0_1 = some (r1, r2)) :
  Calls Tryz.prog 162 #[.agg #[.string a0_0, .string a0_1]] w fun e w' => e = .returned (.agg #[.string r1, .string r2]) ∧ Below w.heap.size w w' := by
 have hu163 := Tryz.underlying163
 have hu116 := Tryz.underlying116
 have HB := am (Below.refl w.heap.size w)
 unfold laws_toField.f at h
 have H := h
 clear h
 simp only [Option.some.injEq, Prod.mk.injEq] at H
 obtain ⟨rfl, rfl⟩ := H
 go_enter Tryz.func162, Tryz.ntmps162
 go_wp2_with ((with_reducible refine gw ?_); first | (refine bx 1 #[.string a0_0, .string a0_1] 163 ?_; intro gb1568 hg w2 hbox hb; have BK1568 := am (hbox); have GW1568 := am (sz hg : w.heap.size ≤ gb1568); have GE1568 := am (sz hg : w.heap.size ≤ gb1568); replace HB := am (below_step bl hb); clear hb hbox hg) | (refine bx 2 #[.string (⟨#[]⟩ : ByteArray), .string (⟨#[]⟩ : ByteArray)] 116 ?_; intro gb1569 hg w3 hbox hb; have BK1569 := am (hbox); have GW1569 := am (sz hg : w.heap.size ≤ gb1569); have GE1569 := am (sz hg : w.heap.size ≤ gb1569); replace HB := am (below_step bl hb); have NB1568_1569 := am (nl hg BK1568 : gb1568 ≠ gb1569); have NB1569_1568 := am (ng hg BK1568 : gb1569 ≠ gb1568); replace BK1568 := kb BK1568 hb; clear hb hbox hg) | (refine bx 3 #[.string (⟨#[]⟩ : ByteArray), .string (⟨#[]⟩ : ByteArray)] 116 ?_; intro gb1570 hg w4 hbox hb; have BK1570 := am (hbox); have GW1570 := am (sz hg : w.heap.size ≤ gb1570); have GE1570 := am (sz hg : w.heap.size ≤ gb1570); replace HB := am (below_step bl hb); have NB1568_1570 := am (nl hg BK1568 : gb1568 ≠ gb1570); have NB1570_1568 := am (ng hg BK1568 : gb1570 ≠ gb1568); replace BK1568 := kb BK1568 hb; have NB1569_1570 := am (nl hg BK1569 : gb1569 ≠ gb1570); have NB1570_1569 := am (ng hg BK1569 : gb1570 ≠ gb1569); replace BK1569 := kb BK1569 hb; clear hb hbox hg; have hnb5 := NB1568_1569.out; have hnc5 := NB1569_1568.out; have hnb6 := NB1568_1570.out; have hnc6 := NB1570_1568.out; obtain ⟨z7_0, y7_0, z7_1, y7_1⟩ := cl2 BK1568; have hnb8 := NB1570_1569.out; have hnc8 := NB1569_1570.out; obtain ⟨z9_0, y9_0, z9_1, y9_1⟩ := cl2 BK1570; obtain ⟨z10_0, y10_0, z10_1, y10_1⟩ := cl2 BK1569))
 refine bodyPost_ret (results_cell_row rfl _ _ gb1569 116 #[.string a0_0, .string a0_1] (0, 0) _ rfl (pt1 BK1569 NB1569_1570) Tryz.underlying116 rfl (by kernel_rfl)) rfl ?_
 exact ⟨rf, bl⟩

/-! ### laws_toFieldS: function 118 -/
theorem u118HB {p : Prop} (h : p := by repeat (first | (with_reducible first | exact HB.out | apply below_alloc | apply pw_below_drewN | apply below_drew1) | exact HB.out)) : p := h
def laws_toFieldS.l0 : Nat → List (S163) → List (S116) → Int → Option ((List (S116)))
 | 0, _, _, _ => none
 | k + 1, x0, x3, x4 => if x4 < (x0.length : Int) then (if 0 ≤ x4 then ((laws_toField.f ((rd_T163 x0 x4).f0) ((rd_T163 x0 x4).f1)).bind fun bt1575 => (if x4 < (x3.length : Int) then (laws_toFieldS.l0 k x0 (x3.set (x4 : Int).toNat (⟨bt1575.1, bt1575.2⟩ : S116)) (wrap64 (x4 + 1))) else (none))) else (none)) else (some x3)
def laws_toFieldS.f (k : Nat) (l0 : List (S163)) : Option ((List (S116))) := if 0 ≤ (l0.length : Int) then (if ((l0.length : Int) : Int).toNat ≤ 8796093022208 then (laws_toFieldS.l0 k l0 (List.replicate ((l0.length : Int) : Int).toNat z116) 0) else (none)) else (none)
theorem laws_toFieldS.mono_l : ∀ k, (∀ y0 y1 y2, LeO (laws_toFieldS.l0 k y0 y1 y2) (laws_toFieldS.l0 (k + 1) y0 y1 y2))
 | 0 => fun _ _ _ r h => by simp [laws_toFieldS.l0] at h
 | k + 1 => by
  have ih0 := laws_toFieldS.mono_l k
  ·intro y0 y1 y2
   unfold laws_toFieldS.l0
   exact mo
theorem laws_toFieldS.mono : ∀ a0 k, LeO (laws_toFieldS.f k a0) (laws_toFieldS.f (k + 1) a0) := by
 intro a0 k
 have ih0 := laws_toFieldS.mono_l k
 unfold laws_toFieldS.f
 exact mo
set_option maxHeartbeats 8000000 in
set_option maxRecDepth 100000 in
theorem laws_toFieldS.calls (k : Nat) (A0 : Option Addr) (c0 : Nat) (l0 : List (S163)) (r : List (S116)) (w : World) (hr0 : Kd.C k163 w A0 l0.length l0) (hc0 : l0.length ≤ c0) (h : laws_toFieldS.f k l0 = some r) :
  Calls Tryz.prog 118 #[.slice A0 l0.length c0] w fun e w' => ∃ v0_ : Value, e = .returned (v0_) ∧ Kd.R k116 116 w' w.heap.size (fun _ => True) v0_ r ∧ Below w.heap.size w w' := by
 have hu163 := Tryz.underlying163
 have hu116 := Tryz.underlying116
 have HR0 := am hr0
 have HC0 := am hc0
 clear hr0 hc0
 have HB := am (Below.refl w.heap.size w)
 unfold laws_toFieldS.f at h
 have H := h
 clear h
 revert H
 refine ifn fun c2 H => ?_
 have c2b0 := eq_true c2
 have c2b1 := decide_eq_true c2
 clear c2
 revert H
 refine ifn fun c3 H => ?_
 have c3b0 := eq_true c3
 have c3b1 := decide_eq_true c3
 clear c3
 obtain ⟨y1571, hy1571⟩ : ∃ y_ : List (S116), y_ = (List.replicate ((l0.length : Int) : Int).toNat z116) := ⟨_, rfl⟩
 replace H : (laws_toFieldS.l0 k l0 y1571 0) = some r := by first | (rw [hy1571]; with_reducible exact H) | (have H2_ := (Option.bind_some _ _).symm.trans H; rw [hy1571]; with_reducible exact H2_) | (have H2_ := (Option.bind_some _ _).symm.trans H; with_reducible exact H2_) | with_reducible exact H | (rw [hy1571]; exact H) | exact H
 have Ny1571 := am hy1571
 clear hy1571
 have H' := am H
 clear H
 go_enter Tryz.func118, Tryz.ntmps118
 go_wp2_with (first | ((with_reducible refine gate_dst (N := 7) rfl ?_); refine Kd.R_make k116 _ 116 rfl (N := 7) rfl 27 _ _ rfl (l0.length : Int) rfl rfl Tryz.underlying27 (.agg #[(.string ⟨#[]⟩), (.string ⟨#[]⟩)]) 32 info116 rfl (by decide) (by omega) z116 (ok := fun _ => True) (okp := fun _ => True) (k116_mkM _ _ _ z116 ) (fun _ hk => hk) trivial (od) (Nat.le_trans (Nat.mul_le_mul_right _ (od : (l0.length : Int).toNat ≤ 8796093022208)) (by omega)) (Below.refl _ _) (Nat.le_refl _) ?_; intro v1572 w4 ho5 hb hg_ hnew_; clear hg_ hnew_; (first | rw [← Ny1571.out] at ho5 | (simp only [Int.reduceToNat] at ho5; rw [← Ny1571.out] at ho5)); have HO1573 := am (Kd.R_lower ho5 (below_size bl)); replace HB := am (below_step bl hb); clear hb ho5))
 (try simp only [Act.put, List.setIfInBounds_toArray, List.set_cons_zero, List.set_cons_succ])
 go_loopg [4] k (fun kq v4 w' => ∃ (x3_1 : List (S116)) (x4_1 : Int), v4 = .int .i64 x4_1 ∧ Aside0 (laws_toFieldS.l0 kq l0 x3_1 x4_1 = some r) ∧ Aside0 (kq ≤ k) ∧ Aside0 (Kd.R k116 116 w' w.heap.size (fun _ => True) v1572 x3_1) ∧ Aside0 (Below w.heap.size w w'))
 case atStart => exact ⟨(y1571), (0), rs, H', ⟨Nat.le_refl _⟩, ⟨by (with_reducible repeat (first | apply Kd.R_alloc | apply Kd.R_drewN | apply Kd.R_drew)); exact HO1573.out⟩, ⟨u118HB⟩⟩
 case round =>
  clear H'
  try clear c1
  try clear c2
  try clear c2b0
  try clear c2b1
  try clear p2
  try clear c3
  try clear c3b0
  try clear c3b1
  obtain ⟨x3_1, x4_1, rfl, HA, HK1, HO_3, HB⟩ := hrel
  cases gk with
  | zero => exact absurd HA.out (by simp [laws_toFieldS.l0])
  | succ k1 =>
   have H := HA.out
   clear HA
   simp only [laws_toFieldS.l0] at H
   by_cases c6 : x4_1 < (l0.length : Int)
   rotate_left
   ·rw [if_neg c6] at H
    have c6b0 := decide_eq_false c6
    clear c6
    obtain rfl := Option.some.inj H
    go_wp2
    go_ret
    exact ⟨_, rf, by (with_reducible repeat (first | apply Kd.R_alloc | apply Kd.R_drewN | apply Kd.R_drew)); exact HO_3.out, bl⟩
   rw [if_pos c6] at H
   have c6b0 := decide_eq_true c6
   clear c6
   revert H
   refine ifn fun c7 H => ?_
   have c7b0 := decide_eq_true c7
   clear c7
   revert H
   refine ok2 fun t1575 t1576 A8 H => ?_
   (try dsimp only at H)
   revert H
   refine ifn fun c9 H => ?_
   have c9b0 := decide_eq_true c9
   clear c9
   obtain ⟨y1577, hy1577⟩ : ∃ y_ : List (S116), y_ = (x3_1.set (x4_1 : Int).toNat (⟨t1575, t1576⟩ : S116)) := ⟨_, rfl⟩
   replace H : (laws_toFieldS.l0 k1 l0 y1577 (wrap64 (x4_1 + 1))) = some r := by first | (rw [hy1577]; with_reducible exact H) | (have H2_ := (Option.bind_some _ _).symm.trans H; rw [hy1577]; with_reducible exact H2_) | (have H2_ := (Option.bind_some _ _).symm.trans H; with_reducible exact H2_) | with_reducible exact H | (rw [hy1577]; exact H) | exact H
   have Ny1577 := am hy1577
   clear hy1577
   have H' := am H
   clear H
   have p1574 : 0 ≤ (x4_1 : Int) := od
   have q1574 : x4_1 < (l0.length : Int) := od
   obtain ⟨ad1574, e1574, hx1574_0, hx1574_1⟩ := at_T163 HR0.out x4_1 p1574 q1574
   cases e1574
   replace hx1574_0 := hcw hx1574_0
   replace hx1574_1 := hcw hx1574_1
   replace p1574 := eq_true p1574
   replace q1574 := eq_true q1574
   go_wp2_with (first | ((with_reducible refine gw ?_); first | (refine gl 20 Tryz.func162 #[.agg #[.string ((rd_T163 l0 x4_1).f0), .string ((rd_T163 l0 x4_1).f1)]] ?_; (with_reducible refine (laws_toField.calls ((rd_T163 l0 x4_1).f0) ((rd_T163 l0 x4_1).f1) t1575 t1576 _ A8.out).mono ?_); rintro e w11 ⟨rfl, hb⟩; refine ⟨_, rfl, ?_⟩; replace HO_3 := kr HO_3 hb; replace HB := am (below_step bl hb); clear hb; have p10 : 0 ≤ (x4_1 : Int) := od; have q10 : (x4_1 : Int) < ((x3_1.length : Int) : Int) := od; obtain ⟨go10, co10, eo10, gb10, gl10, cl10, HG10⟩ := Kd.R_form HO_3.out (by omega); (first | cases eo10 | (injection eo10 with ea_ en_ ec_; (first | subst ea_ | (injection ea_ with ea_; subst ea_)); subst ec_; clear en_)); have GB10 := am gb10; have GG10 := am HG10; clear gb10 gl10 HG10; obtain ⟨ce10, hcl10, hM10, hcc10, hfr10⟩ := Kd.R_elem HO_3.out z116 (x4_1 : Int) p10 q10; obtain rfl := k116_openM hM10; have hx10_0 : w11.cell? ⟨go10, (x4_1 : Int).toNat * 2, none⟩ = some (.string ((rd_T116 x3_1 x4_1).f0)) := hcc10 0 _ rfl; have hx10_1 : w11.cell? ⟨go10, (x4_1 : Int).toNat * 2 + 1, none⟩ = some (.string ((rd_T116 x3_1 x4_1).f1)) := hcc10 1 _ rfl; have hf10_0 : w11.frozen? ⟨go10, (x4_1 : Int).toNat * 2, none⟩ = false := hfr10 0; have hf10_1 : w11.frozen? ⟨go10, (x4_1 : Int).toNat * 2 + 1, none⟩ = false := hfr10 1; clear hcl10 hcc10 hfr10 hM10; replace p10 := eq_true p10; replace q10 := eq_true q10; have HX12 := am (show Kd.R k116 116 w11 w.heap.size (fun _ => True) (.slice (some ⟨go10, 0, none⟩) x3_1.length co10) x3_1 from (ro HO_3)); obtain ⟨ce12, hcl12, hM12, hcc12, hfr12⟩ := Kd.R_elem HX12.out z116 (x4_1 : Int) (od) (by have h_ : (x4_1 : Int) < ((x3_1.length : Int) : Int) := od; first | exact h_ | (have e_ := (Kd.R_reads' HO_3.out).1; omega) | simpa using h_); obtain rfl := k116_openM hM12; have HP12 := Kd.R_seg HX12.out (x4_1 : Int) (od) (by have h_ : (x4_1 : Int) < ((x3_1.length : Int) : Int) := od; first | exact h_ | (have e_ := (Kd.R_reads' HO_3.out).1; omega) | simpa using h_) (seg := [.string t1575, .string t1576]) (j := 0) hcl12 hcc12 (show 2 ≤ 2 from by decide) (x' := (⟨t1575, t1576⟩ : S116)) (k116_mkM _ _ _ (⟨t1575, t1576⟩ : S116) ) (fun _ hk => hk); have hx12_0 := hcc12 0 _ rfl; (try simp only [show (k116).sz = 2 from rfl, Nat.mul_one, Nat.add_zero] at hx12_0); have hf12_0 := hfr12 0; (try simp only [show (k116).sz = 2 from rfl, Nat.mul_one, Nat.add_zero] at hf12_0); have hx12_1 := hcc12 1 _ rfl; (try simp only [show (k116).sz = 2 from rfl, Nat.mul_one, Nat.add_zero] at hx12_1); have hf12_1 := hfr12 1; (try simp only [show (k116).sz = 2 from rfl, Nat.mul_one, Nat.add_zero] at hf12_1); clear hcl12 hcc12 hfr12 hM12)) | ((with_reducible refine gate_store (t := 116) (p := 21) rfl ?_); refine store_event (t := 116) (p := 21) (v := ?vo_w13) (w1 := ((w11.setCell ⟨go10, (x4_1 : Int).toNat * 2, none⟩ (.string t1575)).setCell ⟨go10, (x4_1 : Int).toNat * 2 + 1, none⟩ (.string t1576))) ?hg ?ho ?hn ?hr ?_; (case ho => rfl); (case hg => rfl); (case hn => rfl); (case hr => first | (go_simp; done) | (go_simp; rfl)); intro w13 hw; have hg : w11.grownBy w13 (some go10) := (by rw [hw]; exact HP12.2); have hp_ : Kd.R k116 116 w13 w.heap.size (fun _ => True) (.slice (some ⟨go10, 0, none⟩) x3_1.length co10) y1577 := (by rw [hw, Ny1577.out]; exact HP12.1); clear HP12; have n0_ := am (hp_); have n1_ := am ((by rw [hw]; exact below_set (below_set (HB.out) GB10.out) GB10.out : Below w.heap.size w w13)); clear HO_3; clear HB; have HO_3 := n0_; have HB := n1_; clear n0_ n1_; clear hg hw hp_))
   go_roundg k1
   case measure => have := HK1.out; omega
   case rel => exact ⟨(y1577), (wrap64 (x4_1 + 1)), rs, H', ⟨by have := HK1.out; omega⟩, ⟨by (with_reducible repeat (first | apply Kd.R_alloc | apply Kd.R_drewN | apply Kd.R_drew)); exact HO_3.out⟩, ⟨u118HB⟩⟩

/-! ### laws_toReq: function 45 -/
def laws_toReq.f (k : Nat) (a0_0 : Int) (a0_1 : ByteArray) (l0_2 : List (S163)) (a0_3 : ByteArray) : Option (Int × ByteArray × (List (S116)) × ByteArray) := (laws_toFieldS.f k l0_2).bind fun t1581 => (some (a0_0, a0_1, t1581, a0_3))
theorem laws_toReq.mono : ∀ a0 a1 a2 a3 k, LeO (laws_toReq.f k a0 a1 a2 a3) (laws_toReq.f (k + 1) a0 a1 a2 a3) := by
 intro a0 a1 a2 a3 k
 unfold laws_toReq.f
 have m0 := @laws_toFieldS.mono
 exact mo
set_option maxHeartbeats 8000000 in
set_option maxRecDepth 100000 in
theorem laws_toReq.calls (k : Nat) (a0_0 : Int) (a0_1 : ByteArray) (A0_2 : Option Addr) (c0_2 : Nat) (l0_2 : List (S163)) (a0_3 : ByteArray) (r1 : Int) (r2 : ByteArray) (r3 : List (S116)) (r4 : ByteArray) (w : World) (hr0_2 : Kd.C k163 w A0_2 l0_2.length l0_2) (hc0_2 : l0_2.length ≤ c0_2) (h : laws_toReq.f k a0_0 a0_1 l0_2 a0_3 = some (r1, r2, r3, r4)) :
  Calls Tryz.prog 45 #[.agg #[.int .i64 a0_0, .string a0_1, .slice A0_2 l0_2.length c0_2, .string a0_3]] w fun e w' => ∃ v2_ : Value, e = .returned (.agg #[.int .i64 r1, .string r2, v2_, .string r4]) ∧ Kd.R k116 116 w' w.heap.size (fun _ => True) v2_ r3 ∧ Below w.heap.size w w' := by
 have hu67 := Tryz.underlying67
 have hu50 := Tryz.underlying50
 have HR0_2 := am hr0_2
 have HC0_2 := am hc0_2
 clear hr0_2 hc0_2
 have HB := am (Below.refl w.heap.size w)
 unfold laws_toReq.f at h
 have H := h
 clear h
 revert H
 refine ok1 fun t1581 A2 H => ?_
 simp only [Option.some.injEq, Prod.mk.injEq] at H
 obtain ⟨rfl, rfl, rfl, rfl⟩ := H
 go_enter Tryz.func45, Tryz.ntmps45
 go_wp2_with ((with_reducible refine gw ?_); first | (refine bx 1 #[.int .i64 a0_0, .string a0_1, .slice A0_2 l0_2.length c0_2, .string a0_3] 67 ?_; intro gb1578 hg w3 hbox hb; have BK1578 := am (hbox); have GW1578 := am (sz hg : w.heap.size ≤ gb1578); have GE1578 := am (sz hg : w.heap.size ≤ gb1578); replace HB := am (below_step bl hb); clear hb hbox hg) | (refine bx 2 #[.int .i64 0, .string (⟨#[]⟩ : ByteArray), .slice none 0 0, .string (⟨#[]⟩ : ByteArray)] 50 ?_; intro gb1579 hg w4 hbox hb; have BK1579 := am (hbox); have GW1579 := am (sz hg : w.heap.size ≤ gb1579); have GE1579 := am (sz hg : w.heap.size ≤ gb1579); replace HB := am (below_step bl hb); have NB1578_1579 := am (nl hg BK1578 : gb1578 ≠ gb1579); have NB1579_1578 := am (ng hg BK1578 : gb1579 ≠ gb1578); replace BK1578 := kb BK1578 hb; clear hb hbox hg) | (refine bx 3 #[.int .i64 0, .string (⟨#[]⟩ : ByteArray), .slice none 0 0, .string (⟨#[]⟩ : ByteArray)] 50 ?_; intro gb1580 hg w5 hbox hb; have BK1580 := am (hbox); have GW1580 := am (sz hg : w.heap.size ≤ gb1580); have GE1580 := am (sz hg : w.heap.size ≤ gb1580); replace HB := am (below_step bl hb); have NB1578_1580 := am (nl hg BK1578 : gb1578 ≠ gb1580); have NB1580_1578 := am (ng hg BK1578 : gb1580 ≠ gb1578); replace BK1578 := kb BK1578 hb; have NB1579_1580 := am (nl hg BK1579 : gb1579 ≠ gb1580); have NB1580_1579 := am (ng hg BK1579 : gb1580 ≠ gb1579); replace BK1579 := kb BK1579 hb; clear hb hbox hg; have hnb6 := NB1578_1579.out; have hnc6 := NB1579_1578.out; have hnb7 := NB1578_1580.out; have hnc7 := NB1580_1578.out; obtain ⟨z8_0, y8_0, z8_1, y8_1, z8_2, y8_2, z8_3, y8_3⟩ := cl4 BK1578; have hnb9 := NB1580_1579.out; have hnc9 := NB1579_1580.out; obtain ⟨z10_0, y10_0, z10_1, y10_1, z10_2, y10_2, z10_3, y10_3⟩ := cl4 BK1580) | (refine gl 12 Tryz.func118 #[.slice A0_2 l0_2.length c0_2] ?_; (with_reducible refine (laws_toFieldS.calls k _ _ l0_2 t1581 _ ?side1 ?side2 A2.out).mono ?_); (case side1 => exact Kd.C_below HR0_2.out bl); (case side2 => exact HC0_2.out); rintro e w11 ⟨v1582, rfl, ho0, hb⟩; refine ⟨_, rfl, ?_⟩; have HO1583 := am (Kd.R_lower ho0 (below_size bl)); replace BK1578 := kg1 BK1578 NB1578_1580 hb; replace BK1579 := kg1 BK1579 NB1579_1580 hb; replace BK1580 := am (blk_below (g := gb1580) (o := .cells #[.int .i64 a0_0, .string a0_1, .slice none 0 0, .string (⟨#[]⟩ : ByteArray)] 50 (0, 0)) (pt0 BK1580) hb); replace HB := am (below_step bl hb); clear hb ho0; obtain ⟨Ao12, co12, eo12⟩ := Kd.R_slice HO1583.out; subst eo12; obtain ⟨z13_0, y13_0, z13_1, y13_1, z13_2, y13_2, z13_3, y13_3⟩ := cl4 BK1580; obtain ⟨z14_0, y14_0, z14_1, y14_1, z14_2, y14_2, z14_3, y14_3⟩ := cl4 BK1578; obtain ⟨z15_0, y15_0, z15_1, y15_1, z15_2, y15_2, z15_3, y15_3⟩ := cl4 BK1579))
 refine bodyPost_ret (results_cell_row rfl _ _ gb1579 50 #[.int .i64 a0_0, .string a0_1, .slice Ao12 t1581.length co12, .string a0_3] (0, 0) _ rfl (pt1 BK1579 NB1579_1580) Tryz.underlying50 rfl (by kernel_rfl)) rfl ?_
 exact ⟨_, rf, rj (Kd.R_types (Kd.R_types HO1583.out BK1580.out (by decide)) BK1579.out (by decide)) (fun _ hk => trivial), bl⟩

/-! ### laws_toResp: function 46 -/
def laws_toResp.f (k : Nat) (a0_0 : Int) (l0_1 : List (S163)) (a0_2 : ByteArray) : Option (Int × (List (S116)) × ByteArray) := (laws_toFieldS.f k l0_1).bind fun t1587 => (some (a0_0, t1587, a0_2))
theorem laws_toResp.mono : ∀ a0 a1 a2 k, LeO (laws_toResp.f k a0 a1 a2) (laws_toResp.f (k + 1) a0 a1 a2) := by
 intro a0 a1 a2 k
 unfold laws_toResp.f
 have m0 := @laws_toFieldS.mono
 exact mo
set_option maxHeartbeats 8000000 in
set_option maxRecDepth 100000 in
theorem laws_toResp.calls (k : Nat) (a0_0 : Int) (A0_1 : Option Addr) (c0_1 : Nat) (l0_1 : List (S163)) (a0_2 : ByteArray) (r1 : Int) (r2 : List (S116)) (r3 : ByteArray) (w : World) (hr0_1 : Kd.C k163 w A0_1 l0_1.length l0_1) (hc0_1 : l0_1.length ≤ c0_1) (h : laws_toResp.f k a0_0 l0_1 a0_2 = some (r1, r2, r3)) :
  Calls Tryz.prog 46 #[.agg #[.int .i64 a0_0, .slice A0_1 l0_1.length c0_1, .string a0_2]] w fun e w' => ∃ v1_ : Value, e = .returned (.agg #[.int .i64 r1, v1_, .string r3]) ∧ Kd.R k116 116 w' w.heap.size (fun _ => True) v1_ r2 ∧ Below w.heap.size w w' := by
 have hu69 := Tryz.underlying69
 have hu29 := Tryz.underlying29
 have HR0_1 := am hr0_1
 have HC0_1 := am hc0_1
 clear hr0_1 hc0_1
 have HB := am (Below.refl w.heap.size w)
 unfold laws_toResp.f at h
 have H := h
 clear h
 revert H
 refine ok1 fun t1587 A2 H => ?_
 simp only [Option.some.injEq, Prod.mk.injEq] at H
 obtain ⟨rfl, rfl, rfl⟩ := H
 go_enter Tryz.func46, Tryz.ntmps46
 go_wp2_with ((with_reducible refine gw ?_); first | (refine bx 1 #[.int .i64 a0_0, .slice A0_1 l0_1.length c0_1, .string a0_2] 69 ?_; intro gb1584 hg w3 hbox hb; have BK1584 := am (hbox); have GW1584 := am (sz hg : w.heap.size ≤ gb1584); have GE1584 := am (sz hg : w.heap.size ≤ gb1584); replace HB := am (below_step bl hb); clear hb hbox hg) | (refine bx 2 #[.int .i64 0, .slice none 0 0, .string (⟨#[]⟩ : ByteArray)] 29 ?_; intro gb1585 hg w4 hbox hb; have BK1585 := am (hbox); have GW1585 := am (sz hg : w.heap.size ≤ gb1585); have GE1585 := am (sz hg : w.heap.size ≤ gb1585); replace HB := am (below_step bl hb); have NB1584_1585 := am (nl hg BK1584 : gb1584 ≠ gb1585); have NB1585_1584 := am (ng hg BK1584 : gb1585 ≠ gb1584); replace BK1584 := kb BK1584 hb; clear hb hbox hg) | (refine bx 3 #[.int .i64 0, .slice none 0 0, .string (⟨#[]⟩ : ByteArray)] 29 ?_; intro gb1586 hg w5 hbox hb; have BK1586 := am (hbox); have GW1586 := am (sz hg : w.heap.size ≤ gb1586); have GE1586 := am (sz hg : w.heap.size ≤ gb1586); replace HB := am (below_step bl hb); have NB1584_1586 := am (nl hg BK1584 : gb1584 ≠ gb1586); have NB1586_1584 := am (ng hg BK1584 : gb1586 ≠ gb1584); replace BK1584 := kb BK1584 hb; have NB1585_1586 := am (nl hg BK1585 : gb1585 ≠ gb1586); have NB1586_1585 := am (ng hg BK1585 : gb1586 ≠ gb1585); replace BK1585 := kb BK1585 hb; clear hb hbox hg; have hnb6 := NB1584_1585.out; have hnc6 := NB1585_1584.out; have hnb7 := NB1584_1586.out; have hnc7 := NB1586_1584.out; obtain ⟨z8_0, y8_0, z8_1, y8_1, z8_2, y8_2⟩ := cl3 BK1584; have hnb9 := NB1586_1585.out; have hnc9 := NB1585_1586.out; obtain ⟨z10_0, y10_0, z10_1, y10_1, z10_2, y10_2⟩ := cl3 BK1586) | (refine gl 9 Tryz.func118 #[.slice A0_1 l0_1.length c0_1] ?_; (with_reducible refine (laws_toFieldS.calls k _ _ l0_1 t1587 _ ?side1 ?side2 A2.out).mono ?_); (case side1 => exact Kd.C_below HR0_1.out bl); (case side2 => exact HC0_1.out); rintro e w11 ⟨v1588, rfl, ho0, hb⟩; refine ⟨_, rfl, ?_⟩; have HO1589 := am (Kd.R_lower ho0 (below_size bl)); replace BK1584 := kg1 BK1584 NB1584_1586 hb; replace BK1585 := kg1 BK1585 NB1585_1586 hb; replace BK1586 := am (blk_below (g := gb1586) (o := .cells #[.int .i64 a0_0, .slice none 0 0, .string (⟨#[]⟩ : ByteArray)] 29 (0, 0)) (pt0 BK1586) hb); replace HB := am (below_step bl hb); clear hb ho0; obtain ⟨Ao12, co12, eo12⟩ := Kd.R_slice HO1589.out; subst eo12; obtain ⟨z13_0, y13_0, z13_1, y13_1, z13_2, y13_2⟩ := cl3 BK1586; obtain ⟨z14_0, y14_0, z14_1, y14_1, z14_2, y14_2⟩ := cl3 BK1584; obtain ⟨z15_0, y15_0, z15_1, y15_1, z15_2, y15_2⟩ := cl3 BK1585))
 refine bodyPost_ret (results_cell_row rfl _ _ gb1585 29 #[.int .i64 a0_0, .slice Ao12 t1587.length co12, .string a0_2] (0, 0) _ rfl (pt1 BK1585 NB1585_1586) Tryz.underlying29 rfl (by kernel_rfl)) rfl ?_
 exact ⟨_, rf, rj (Kd.R_types (Kd.R_types HO1589.out BK1586.out (by decide)) BK1585.out (by decide)) (fun _ hk => trivial), bl⟩

/-! ### laws_eqReq: function 48 -/
def laws_eqReq.f (k : Nat) (a0_0 : Int) (a0_1 : ByteArray) (l0_2 : List (S116)) (a0_3 : ByteArray) (a1_0 : Int) (a1_1 : ByteArray) (l1_2 : List (S116)) (a1_3 : ByteArray) : Option (Bool) := if a0_0 = a1_0 then (if a0_1.toList = a1_1.toList then ((laws_eqFieldS.f k l0_2 l1_2).bind fun t1618 => (if t1618 = true then (if a0_3.toList = a1_3.toList then (some true) else (some false)) else (some false))) else (some false)) else (some false)
theorem laws_eqReq.mono : ∀ a0 a1 a2 a3 a4 a5 a6 a7 k, LeO (laws_eqReq.f k a0 a1 a2 a3 a4 a5 a6 a7) (laws_eqReq.f (k + 1) a0 a1 a2 a3 a4 a5 a6 a7) := by
 intro a0 a1 a2 a3 a4 a5 a6 a7 k
 unfold laws_eqReq.f
 have m0 := @laws_eqFieldS.mono
 exact mo
set_option maxHeartbeats 8000000 in
set_option maxRecDepth 100000 in
theorem laws_eqReq.calls (k : Nat) (a0_0 : Int) (a0_1 : ByteArray) (A0_2 : Option Addr) (c0_2 : Nat) (l0_2 : List (S116)) (a0_3 : ByteArray) (a1_0 : Int) (a1_1 : ByteArray) (A1_2 : Option Addr) (c1_2 : Nat) (l1_2 : List (S116)) (a1_3 : ByteArray) (r : Bool) (w : World) (hr0_2 : Kd.C k116 w A0_2 l0_2.length l0_2) (hc0_2 : l0_2.length ≤ c0_2) (hr1_2 : Kd.C k116 w A1_2 l1_2.length l1_2) (hc1_2 : l1_2.length ≤ c1_2) (h : laws_eqReq.f k a0_0 a0_1 l0_2 a0_3 a1_0 a1_1 l1_2 a1_3 = some r) :
  Calls Tryz.prog 48 #[.agg #[.int .i64 a0_0, .string a0_1, .slice A0_2 l0_2.length c0_2, .string a0_3], .agg #[.int .i64 a1_0, .string a1_1, .slice A1_2 l1_2.length c1_2, .string a1_3]] w fun e w' => e = .returned (.bool r) ∧ Below w.heap.size w w' := by
 have hu50 := Tryz.underlying50
 have HR0_2 := am hr0_2
 have HC0_2 := am hc0_2
 clear hr0_2 hc0_2
 have HR1_2 := am hr1_2
 have HC1_2 := am hc1_2
 clear hr1_2 hc1_2
 have HB := am (Below.refl w.heap.size w)
 unfold laws_eqReq.f at h
 have H := h
 clear h
 have HH3 := am H
 clear H
 go_enter Tryz.func48, Tryz.ntmps48
 go_upto_if 9 with ((with_reducible refine gw ?_); first | (refine bx 2 #[.int .i64 a0_0, .string a0_1, .slice A0_2 l0_2.length c0_2, .string a0_3] 50 ?_; intro gb1616 hg w4 hbox hb; have BK1616 := am (hbox); have GW1616 := am (sz hg : w.heap.size ≤ gb1616); have GE1616 := am (sz hg : w.heap.size ≤ gb1616); replace HB := am (below_step bl hb); clear hb hbox hg) | (refine bx 3 #[.int .i64 a1_0, .string a1_1, .slice A1_2 l1_2.length c1_2, .string a1_3] 50 ?_; intro gb1617 hg w5 hbox hb; have BK1617 := am (hbox); have GW1617 := am (sz hg : w.heap.size ≤ gb1617); have GE1617 := am (sz hg : w.heap.size ≤ gb1617); replace HB := am (below_step bl hb); have NB1616_1617 := am (nl hg BK1616 : gb1616 ≠ gb1617); have NB1617_1616 := am (ng hg BK1616 : gb1617 ≠ gb1616); replace BK1616 := kb BK1616 hb; clear hb hbox hg; have hnb6 := NB1616_1617.out; have hnc6 := NB1617_1616.out; obtain ⟨z7_0, y7_0, z7_1, y7_1, z7_2, y7_2, z7_3, y7_3⟩ := cl4 BK1616; obtain ⟨z8_0, y8_0, z8_1, y8_1, z8_2, y8_2, z8_3, y8_3⟩ := cl4 BK1617))
 have H := HH3.out
 clear HH3
 by_cases c9 : a0_0 = a1_0
 rotate_left
 ·rw [if_neg c9] at H
  have c9b0 : (a0_0 == a1_0) = false := beq_eq_false_iff_ne.mpr c9
  have c9b1 : (a0_0 != a1_0) = true := bne_iff_ne.mpr c9
  (first | rw [c9b0] | (simp only [i64_w, i32_w]; rw [c9b0]) | skip)
  obtain rfl := Option.some.inj H
  go_wp2
  go_ret
  exact ⟨rf, bl⟩
 rw [if_pos c9] at H
 have c9b0 : (a0_0 == a1_0) = true := beq_iff_eq.mpr c9
 have c9b1 : (a0_0 != a1_0) = false := bne_eq_false_iff_eq.mpr c9
 clear c9
 (first | rw [c9b0] | (simp only [i64_w, i32_w]; rw [c9b0]) | skip)
 by_cases c10 : a0_1.toList = a1_1.toList
 rotate_left
 ·rw [if_neg c10] at H
  have c10b0 : (a0_1.toList == a1_1.toList) = false := beq_eq_false_iff_ne.mpr c10
  have c10b1 : (a0_1.toList != a1_1.toList) = true := bne_iff_ne.mpr c10
  obtain rfl := Option.some.inj H
  have hnb25 := NB1616_1617.out
  have hnc25 := NB1617_1616.out
  obtain ⟨z26_0, y26_0, z26_1, y26_1, z26_2, y26_2, z26_3, y26_3⟩ := cl4 BK1616
  obtain ⟨z27_0, y27_0, z27_1, y27_1, z27_2, y27_2, z27_3, y27_3⟩ := cl4 BK1617
  go_wp2
  go_ret
  exact ⟨rf, bl⟩
 rw [if_pos c10] at H
 have c10b0 : (a0_1.toList == a1_1.toList) = true := beq_iff_eq.mpr c10
 have c10b1 : (a0_1.toList != a1_1.toList) = false := bne_eq_false_iff_eq.mpr c10
 clear c10
 revert H
 refine ok1 fun t1618 A11 H => ?_
 have HH12 := am H
 clear H
 have hnb13 := NB1616_1617.out
 have hnc13 := NB1617_1616.out
 obtain ⟨z14_0, y14_0, z14_1, y14_1, z14_2, y14_2, z14_3, y14_3⟩ := cl4 BK1616
 obtain ⟨z15_0, y15_0, z15_1, y15_1, z15_2, y15_2, z15_3, y15_3⟩ := cl4 BK1617
 go_upto_if 20 with ((with_reducible refine gw ?_); first | (refine gl 19 Tryz.func120 #[.slice A0_2 l0_2.length c0_2, .slice A1_2 l1_2.length c1_2] ?_; (with_reducible refine (laws_eqFieldS.calls k _ _ l0_2 _ _ l1_2 t1618 _ ?side1 ?side2 ?side3 ?side4 A11.out).mono ?_); (case side1 => exact cb HR0_2); (case side2 => exact HC0_2.out); (case side3 => exact cb HR1_2); (case side4 => exact HC1_2.out); rintro e w16 ⟨rfl, hb⟩; refine ⟨_, rfl, ?_⟩; replace BK1616 := kb BK1616 hb; replace BK1617 := kb BK1617 hb; replace HB := am (below_step bl hb); clear hb))
 have H := HH12.out
 clear HH12
 by_cases c17 : t1618 = true
 rotate_left
 ·replace c17 := Bool.eq_false_iff.mpr c17
  subst c17
  rw [if_neg (show ¬ (false = true) by decide)] at H
  obtain rfl := Option.some.inj H
  go_wp2
  go_ret
  exact ⟨rf, bl⟩
 subst c17
 rw [if_pos rfl] at H
 by_cases c18 : a0_3.toList = a1_3.toList
 rotate_left
 ·rw [if_neg c18] at H
  have c18b0 : (a0_3.toList == a1_3.toList) = false := beq_eq_false_iff_ne.mpr c18
  have c18b1 : (a0_3.toList != a1_3.toList) = true := bne_iff_ne.mpr c18
  (first | rw [c18b0] | (simp only [i64_w, i32_w]; rw [c18b0]) | skip)
  obtain rfl := Option.some.inj H
  have hnb22 := NB1616_1617.out
  have hnc22 := NB1617_1616.out
  obtain ⟨z23_0, y23_0, z23_1, y23_1, z23_2, y23_2, z23_3, y23_3⟩ := cl4 BK1616
  obtain ⟨z24_0, y24_0, z24_1, y24_1, z24_2, y24_2, z24_3, y24_3⟩ := cl4 BK1617
  go_wp2
  go_ret
  exact ⟨rf, bl⟩
 rw [if_pos c18] at H
 have c18b0 : (a0_3.toList == a1_3.toList) = true := beq_iff_eq.mpr c18
 have c18b1 : (a0_3.toList != a1_3.toList) = false := bne_eq_false_iff_eq.mpr c18
 clear c18
 (first | rw [c18b0] | (simp only [i64_w, i32_w]; rw [c18b0]) | skip)
 obtain rfl := Option.some.inj H
 have hnb19 := NB1616_1617.out
 have hnc19 := NB1617_1616.out
 obtain ⟨z20_0, y20_0, z20_1, y20_1, z20_2, y20_2, z20_3, y20_3⟩ := cl4 BK1616
 obtain ⟨z21_0, y21_0, z21_1, y21_1, z21_2, y21_2, z21_3, y21_3⟩ := cl4 BK1617
 go_wp2
 go_ret
 exact ⟨rf, bl⟩

/-! ### laws_markReq: function 50 -/
theorem u50HK {p : Prop} (h : p := by repeat (first | (with_reducible first | exact HK.out | apply Kept.alloc | apply Kept.drewN | apply Kept.drew | refine Kept.setCell ?_ (.inr GW1619.out) _) | exact HK.out)) : p := h
theorem u50HB {p : Prop} (h : p := by repeat (first | (with_reducible first | exact HB.out | apply below_alloc | apply pw_below_drewN | apply below_drew1 | refine below_set ?_ GE1619.out) | exact HB.out)) : p := h
def laws_markReq.f (k : Nat) (a0_0 : Int) (a0_1 : ByteArray) (l0_2 : List (S116)) (a0_3 : ByteArray) (a1 : Int) : Option (Int × (List (S116))) := (laws_markFieldS.f k l0_2 a1).bind fun bt1620 => (some (bt1620.1, bt1620.2))
theorem laws_markReq.mono : ∀ a0 a1 a2 a3 a4 k, LeO (laws_markReq.f k a0 a1 a2 a3 a4) (laws_markReq.f (k + 1) a0 a1 a2 a3 a4) := by
 intro a0 a1 a2 a3 a4 k
 unfold laws_markReq.f
 have m0 := @laws_markFieldS.mono
 exact mo
set_option maxHeartbeats 8000000 in
set_option maxRecDepth 100000 in
theorem laws_markReq.calls (k : Nat) (a0_0 : Int) (a0_1 : ByteArray) (P0_2_ : Nat → Prop) (u9000_ : Value) (l0_2 : List (S116)) (a0_3 : ByteArray) (a1 : Int) (r1 : Int) (r2 : List (S116)) (w0 w : World) (hB : Below w0.heap.size w0 w) (ho0_2 : Kd.R k116 116 w w0.heap.size P0_2_ u9000_ l0_2) (h : laws_markReq.f k a0_0 a0_1 l0_2 a0_3 a1 = some (r1, r2)) :
  Calls Tryz.prog 50 #[.agg #[.int .i64 a0_0, .string a0_1, u9000_, .string a0_3], .int .i64 a1] w fun e w' => e = .returned (.int .i64 r1) ∧ Kd.R k116 116 w' w0.heap.size (fun k_ => (P0_2_ k_ ∨ w.heap.size ≤ k_)) u9000_ r2 ∧ Below w0.heap.size w0 w' ∧ Kept w w' (fun k_ => P0_2_ k_) := by
 have hu50 := Tryz.underlying50
 have HO0_2 := am (show Kd.R k116 116 w w0.heap.size (fun k_ => (P0_2_ k_ ∨ w.heap.size ≤ k_)) u9000_ l0_2 from Kd.R_mono ho0_2 (fun k_ hk => (.inl hk)))
 have HK := am (Kept.refl w (fun k_ => P0_2_ k_))
 have HW0 := am hB.size
 have HB := am hB
 clear hB
 unfold laws_markReq.f at h
 have H := h
 clear h
 revert H
 refine ok2 fun t1620 t1621 A3 H => ?_
 (try dsimp only at H)
 simp only [Option.some.injEq, Prod.mk.injEq] at H
 obtain ⟨rfl, rfl⟩ := H
 obtain ⟨Ao4, co4, eo4⟩ := Kd.R_slice HO0_2.out
 subst eo4
 go_enter Tryz.func50, Tryz.ntmps50
 go_wp2_with ((with_reducible refine gw ?_); first | (refine bx 2 #[.int .i64 a0_0, .string a0_1, .slice Ao4 l0_2.length co4, .string a0_3] 50 ?_; intro gb1619 hg w5 hbox hb; have n0_ := am (Kd.R_below (ro HO0_2) hb); have n1_ := am (Kept.below (S := (fun k_ => P0_2_ k_)) u50HK hb); have n2_ := am (below_step bl hb); have n3_ := am (hbox); have n4_ := am ((by rw [hg]; exact (by first | exact HK.out.1 | exact (show Kept w _ (fun k_ => P0_2_ k_) from u50HK).1) : w.heap.size ≤ gb1619)); have n5_ := am ((by rw [hg]; exact (below_size bl) : w0.heap.size ≤ gb1619)); clear HO0_2; clear HK; clear HB; have HO0_2 := n0_; have HK := n1_; have HB := n2_; have BK1619 := n3_; have GW1619 := n4_; have GE1619 := n5_; clear n0_ n1_ n2_ n3_ n4_ n5_; clear hb hbox hg; obtain ⟨z6_0, y6_0, z6_1, y6_1, z6_2, y6_2, z6_3, y6_3⟩ := cl4 BK1619) | (refine gl 8 Tryz.func121 #[.slice Ao4 l0_2.length co4, .int .i64 a1] ?_; (with_reducible refine (laws_markFieldS.calls k (fun k_ => some k_ = (.slice Ao4 l0_2.length co4 : Value).ownBlock) (.slice Ao4 l0_2.length co4) l0_2 a1 t1620 t1621 w0 _ ?side1 ?side2 A3.out).mono ?_); (case side1 => exact u50HB); (case side2 => exact Kd.R_tight rfl HO0_2.out); rintro e w7 ⟨rfl, hy0, hb, hkp⟩; refine ⟨_, rfl, ?_⟩; replace BK1619 := am (blk_kept (bk BK1619) hkp (fun hs_ => (fun e_ => (Kd.R_ne HO0_2.out BK1619.out (by decide)) e_) hs_)); replace HK := am (Kept.then_ (S := (fun k_ => P0_2_ k_)) u50HK hkp (fun k_ hs_ => (fun e_ => (HO0_2.out.1 k_ e_.symm)) hs_)); replace HO0_2 := am (Kd.R_reok rfl hy0 (fun k_ e_ => HO0_2.out.1 k_ e_)); replace HB := am (hb); clear hb; (try clear hkp); (try clear hy0)))
 go_ret
 exact ⟨rf, by (with_reducible repeat (first | apply Kd.R_alloc | apply Kd.R_drewN | apply Kd.R_drew)); exact HO0_2.out, u50HB, u50HK⟩

end Go.Proofs.YtjlpjbkpmmpojaaGreatDoor.All
