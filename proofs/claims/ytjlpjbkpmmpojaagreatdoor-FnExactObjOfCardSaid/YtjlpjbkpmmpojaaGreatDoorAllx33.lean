-- Written by a program of this session (wip/tools/hprint.py) out of the translation. Lean checks it.
import Derived.Test.YtjlpjbkpmmpojaaGreatDoorAllx0
namespace Go.Proofs.YtjlpjbkpmmpojaaGreatDoor.All
open Go.RowKit Go.Proofs.YtjlpjbkpmmpojaaGreatDoorW.PrintWords Go.Proofs.YtjlpjbkpmmpojaaGreatDoorW.PrintLast Go.Proofs.YtjlpjbkpmmpojaaGreatDoorW.PrintMore
attribute [local go_sem] max2_int min2_int max_two min_two max_three min_three max_four min_four   -- for this text's walks alone
set_option linter.unusedVariables false
set_option linter.unusedSimpArgs false

/-! ### laws_eqField: function 163 -/
def laws_eqField.f (a0_0 : ByteArray) (a0_1 : ByteArray) (a1_0 : ByteArray) (a1_1 : ByteArray) : Option (Bool) := if a0_0.toList = a1_0.toList then (if a0_1.toList = a1_1.toList then (some true) else (some false)) else (some false)
set_option maxHeartbeats 8000000 in
set_option maxRecDepth 100000 in
theorem laws_eqField.calls (a0_0 : ByteArray) (a0_1 : ByteArray) (a1_0 : ByteArray) (a1_1 : ByteArray) (r : Bool) (w : World) (h : laws_eqField.f a0_0 a0_1 a1_0 a1_1 = some r) :
  Calls Tryz.prog 163 #[.agg #[.string a0_0, .string a0_1], .agg #[.string a1_0, .string a1_1]] w fun e w' => e = .returned (.bool r) ∧ Below w.heap.size w w' := by
 have hu116 := Tryz.underlying116
 have HB := am (Below.refl w.heap.size w)
 unfold laws_eqField.f at h
 have H := h
 clear h
 have HH3 := am H
 clear H
 go_enter Tryz.func163, Tryz.ntmps163
 go_upto_if 9 with ((with_reducible refine gw ?_); first | (refine bx 2 #[.string a0_0, .string a0_1] 116 ?_; intro gb1462 hg w4 hbox hb; have BK1462 := am (hbox); have GW1462 := am (sz hg : w.heap.size ≤ gb1462); have GE1462 := am (sz hg : w.heap.size ≤ gb1462); replace HB := am (below_step bl hb); clear hb hbox hg) | (refine bx 3 #[.string a1_0, .string a1_1] 116 ?_; intro gb1463 hg w5 hbox hb; have BK1463 := am (hbox); have GW1463 := am (sz hg : w.heap.size ≤ gb1463); have GE1463 := am (sz hg : w.heap.size ≤ gb1463); replace HB := am (below_step bl hb); have NB1462_1463 := am (nl hg BK1462 : gb1462 ≠ gb1463); have NB1463_1462 := am (ng hg BK1462 : gb1463 ≠ gb1462); replace BK1462 := kb BK1462 hb; clear hb hbox hg; have hnb6 := NB1462_1463.out; have hnc6 := NB1463_1462.out; obtain ⟨z7_0, y7_0, z7_1, y7_1⟩ := cl2 BK1462; obtain ⟨z8_0, y8_0, z8_1, y8_1⟩ := cl2 BK1463))
 have H := HH3.out
 clear HH3
 by_cases c9 : a0_0.toList = a1_0.toList
 rotate_left
 ·rw [if_neg c9] at H
  have c9b0 : (a0_0.toList == a1_0.toList) = false := beq_eq_false_iff_ne.mpr c9
  have c9b1 : (a0_0.toList != a1_0.toList) = true := bne_iff_ne.mpr c9
  (first | rw [c9b0] | (simp only [i64_w, i32_w]; rw [c9b0]) | skip)
  obtain rfl := Option.some.inj H
  go_wp2
  go_ret
  exact ⟨rf, bl⟩
 rw [if_pos c9] at H
 have c9b0 : (a0_0.toList == a1_0.toList) = true := beq_iff_eq.mpr c9
 have c9b1 : (a0_0.toList != a1_0.toList) = false := bne_eq_false_iff_eq.mpr c9
 clear c9
 (first | rw [c9b0] | (simp only [i64_w, i32_w]; rw [c9b0]) | skip)
 by_cases c10 : a0_1.toList = a1_1.toList
 rotate_left
 ·rw [if_neg c10] at H
  have c10b0 : (a0_1.toList == a1_1.toList) = false := beq_eq_false_iff_ne.mpr c10
  have c10b1 : (a0_1.toList != a1_1.toList) = true := bne_iff_ne.mpr c10
  obtain rfl := Option.some.inj H
  have hnb14 := NB1462_1463.out
  have hnc14 := NB1463_1462.out
  obtain ⟨z15_0, y15_0, z15_1, y15_1⟩ := cl2 BK1462
  obtain ⟨z16_0, y16_0, z16_1, y16_1⟩ := cl2 BK1463
  go_wp2
  go_ret
  exact ⟨rf, bl⟩
 rw [if_pos c10] at H
 have c10b0 : (a0_1.toList == a1_1.toList) = true := beq_iff_eq.mpr c10
 have c10b1 : (a0_1.toList != a1_1.toList) = false := bne_eq_false_iff_eq.mpr c10
 clear c10
 obtain rfl := Option.some.inj H
 have hnb11 := NB1462_1463.out
 have hnc11 := NB1463_1462.out
 obtain ⟨z12_0, y12_0, z12_1, y12_1⟩ := cl2 BK1462
 obtain ⟨z13_0, y13_0, z13_1, y13_1⟩ := cl2 BK1463
 go_wp2
 go_ret
 exact ⟨rf, bl⟩

/-! ### laws_eqFieldS: function 120 -/
theorem u120HB {p : Prop} (h : p := by repeat (first | (with_reducible first | exact HB.out | apply below_alloc | apply pw_below_drewN | apply below_drew1) | exact HB.out)) : p := h
def laws_eqFieldS.l0 : Nat → List (S116) → List (S116) → Int → Option (Bool)
 | 0, _, _, _ => none
 | k + 1, x0, x1, x5 => if x5 < (x0.length : Int) then (if 0 ≤ x5 then (if x5 < (x1.length : Int) then ((laws_eqField.f ((rd_T116 x0 x5).f0) ((rd_T116 x0 x5).f1) ((rd_T116 x1 x5).f0) ((rd_T116 x1 x5).f1)).bind fun t1466 => (if t1466 = true then (laws_eqFieldS.l0 k x0 x1 (wrap64 (x5 + 1))) else (some false))) else (none)) else (none)) else (some true)
def laws_eqFieldS.f (k : Nat) (l0 : List (S116)) (l1 : List (S116)) : Option (Bool) := if (l0.length : Int) = (l1.length : Int) then (laws_eqFieldS.l0 k l0 l1 0) else (some false)
theorem laws_eqFieldS.mono_l : ∀ k, (∀ y0 y1 y2, LeO (laws_eqFieldS.l0 k y0 y1 y2) (laws_eqFieldS.l0 (k + 1) y0 y1 y2))
 | 0 => fun _ _ _ r h => by simp [laws_eqFieldS.l0] at h
 | k + 1 => by
  have ih0 := laws_eqFieldS.mono_l k
  ·intro y0 y1 y2
   unfold laws_eqFieldS.l0
   exact mo
theorem laws_eqFieldS.mono : ∀ a0 a1 k, LeO (laws_eqFieldS.f k a0 a1) (laws_eqFieldS.f (k + 1) a0 a1) := by
 intro a0 a1 k
 have ih0 := laws_eqFieldS.mono_l k
 unfold laws_eqFieldS.f
 exact mo
def laws_eqFieldS.T6 : Bool × List (List Nat × List Nat) := (true, [([], []), ([], []), ([0, 1], [0, 1]), ([2], [2]), ([], []), ([], []), ([4, 5], [4, 5]), ([6], [6]), ([3, 7], [3, 7]), ([8], [8])])
def laws_eqFieldS.B6 : List Nat := [0, 0, 3, 7, 0, 0, 48, 112, 255, 511]
theorem laws_eqFieldS.tab6 : rtab .any (opsOf Tryz.f120 6) = laws_eqFieldS.T6 := by kernel_rfl
theorem laws_eqFieldS.bits6 : waitsOk laws_eqFieldS.T6.2 laws_eqFieldS.B6 = true := by kernel_rfl
set_option maxHeartbeats 8000000 in
set_option maxRecDepth 100000 in
theorem laws_eqFieldS.calls (k : Nat) (A0 : Option Addr) (c0 : Nat) (l0 : List (S116)) (A1 : Option Addr) (c1 : Nat) (l1 : List (S116)) (r : Bool) (w : World) (hr0 : Kd.C k116 w A0 l0.length l0) (hc0 : l0.length ≤ c0) (hr1 : Kd.C k116 w A1 l1.length l1) (hc1 : l1.length ≤ c1) (h : laws_eqFieldS.f k l0 l1 = some r) :
  Calls Tryz.prog 120 #[.slice A0 l0.length c0, .slice A1 l1.length c1] w fun e w' => e = .returned (.bool r) ∧ Below w.heap.size w w' := by
 have hu116 := Tryz.underlying116
 have HR0 := am hr0
 have HC0 := am hc0
 clear hr0 hc0
 have HR1 := am hr1
 have HC1 := am hc1
 clear hr1 hc1
 have HB := am (Below.refl w.heap.size w)
 unfold laws_eqFieldS.f at h
 have H := h
 clear h
 by_cases c3 : (l0.length : Int) = (l1.length : Int)
 rotate_left
 ·rw [if_neg c3] at H
  have c3b0 : ((l0.length : Int) == (l1.length : Int)) = false := beq_eq_false_iff_ne.mpr c3
  have c3b1 : ((l0.length : Int) != (l1.length : Int)) = true := bne_iff_ne.mpr c3
  have c3b2 : (l0.length == l1.length) = false := by first | simpa using c3 | (simp at c3 ⊢; omega)
  obtain rfl := Option.some.inj H
  go_enter Tryz.func120, Tryz.ntmps120
  go_wp2
  go_ret
  exact ⟨rf, bl⟩
 rw [if_pos c3] at H
 have c3b0 : ((l0.length : Int) == (l1.length : Int)) = true := beq_iff_eq.mpr c3
 have c3b1 : ((l0.length : Int) != (l1.length : Int)) = false := bne_eq_false_iff_eq.mpr c3
 have c3b2 : (l0.length == l1.length) = true := by first | simpa using c3 | (simp at c3 ⊢; omega)
 clear c3
 have H' := am H
 clear H
 go_enter Tryz.func120, Tryz.ntmps120
 go_wp2
 (try simp only [Act.put, List.setIfInBounds_toArray, List.set_cons_zero, List.set_cons_succ])
 go_loopg [5] k (fun kq v5 w' => ∃ (x5_1 : Int), v5 = .int .i64 x5_1 ∧ Aside0 (laws_eqFieldS.l0 kq l0 l1 x5_1 = some r) ∧ Aside0 (kq ≤ k) ∧ Aside0 (Below w.heap.size w w'))
 case atStart => exact ⟨(0), rs, H', ⟨Nat.le_refl _⟩, ⟨u120HB⟩⟩
 case round =>
  clear H'
  try clear c1
  try clear p2
  try clear c3
  try clear c3b0
  try clear c3b1
  try clear c3b2
  obtain ⟨x5_1, rfl, HA, HK1, HB⟩ := hrel
  cases gk with
  | zero => exact absurd HA.out (by simp [laws_eqFieldS.l0])
  | succ k1 =>
   have H := HA.out
   clear HA
   simp only [laws_eqFieldS.l0] at H
   by_cases c4 : x5_1 < (l0.length : Int)
   rotate_left
   ·rw [if_neg c4] at H
    have c4b0 := decide_eq_false c4
    clear c4
    obtain rfl := Option.some.inj H
    go_wp2
    go_ret
    exact ⟨rf, bl⟩
   rw [if_pos c4] at H
   have c4b0 := decide_eq_true c4
   clear c4
   revert H
   refine ifn fun c5 H => ?_
   have c5b0 := decide_eq_true c5
   clear c5
   revert H
   refine ifn fun c6 H => ?_
   have c6b0 := decide_eq_true c6
   clear c6
   revert H
   refine ok1 fun t1466 A7 H => ?_
   have HH8 := am H
   clear H
   try go_wp2
   replace HB := am (below_drew1 HB.out)
   have p1464 : 0 ≤ (x5_1 : Int) := od
   have q1464 : x5_1 < (l0.length : Int) := od
   obtain ⟨ad1464, e1464, hx1464_0, hx1464_1⟩ := at_T116 HR0.out x5_1 p1464 q1464
   have hw1464_1 := hx1464_1
   have hw1464_0 := hx1464_0
   cases e1464
   replace hx1464_0 := hcw hx1464_0
   replace hx1464_1 := hcw hx1464_1
   replace p1464 := eq_true p1464
   replace q1464 := eq_true q1464
   have p1465 : 0 ≤ (x5_1 : Int) := od
   have q1465 : x5_1 < (l1.length : Int) := od
   obtain ⟨ad1465, e1465, hx1465_0, hx1465_1⟩ := at_T116 HR1.out x5_1 p1465 q1465
   have hw1465_1 := hx1465_1
   have hw1465_0 := hx1465_0
   cases e1465
   replace hx1465_0 := hcw hx1465_0
   replace hx1465_1 := hcw hx1465_1
   replace p1465 := eq_true p1465
   replace q1465 := eq_true q1465
   refine start_ (n := 10) (S := fun w' => w'.cell? (ad1464.add ((x5_1).toNat * 2)) = some (.string ((rd_T116 l0 x5_1).f0)) ∧ w'.cell? ⟨(ad1464.add ((x5_1).toNat * 2)).block, (ad1464.add ((x5_1).toNat * 2)).off + 1, none⟩ = some (.string ((rd_T116 l0 x5_1).f1)) ∧ w'.cell? (ad1465.add ((x5_1).toNat * 2)) = some (.string ((rd_T116 l1 x5_1).f0)) ∧ w'.cell? ⟨(ad1465.add ((x5_1).toNat * 2)).block, (ad1465.add ((x5_1).toNat * 2)).off + 1, none⟩ = some (.string ((rd_T116 l1 x5_1).f1))) (ds := []) ⟨br true [0, 10]⟩ (by kernel_rfl) rfl (by kernel_rfl) ⟨(hcw hw1464_0), (hcw hw1464_1), (hcw hw1465_0), (hcw hw1465_1)⟩ (fun hHeld => ?_); refine with_tabW laws_eqFieldS.tab6 laws_eqFieldS.bits6 (fun HT_ HW_ => ?_)
   generalize wr.drew = w9 at HB hx1464_0 hx1464_1 hx1465_0 hx1465_1 hHeld ⊢
   refine pu 0 17 [1, 9] ?_
   refine pu 1 18 [2, 8] ?_
   refine pu 2 19 [3, 7] ?_
   refine pu 4 21 [3, 1, 1, 5] ?_
   refine pu 5 22 [3, 1, 2, 4] ?_
   refine pu 6 23 [3, 1, 3, 3] ?_
   refine tk 3 20 [7, 3] ?_
   refine tk 7 24 [8, 2] ?_
   refine og 8 25 [9, 1] Tryz.func163 #[.agg #[.string ((rd_T116 l0 x5_1).f0), .string ((rd_T116 l0 x5_1).f1)], .agg #[.string ((rd_T116 l1 x5_1).f0), .string ((rd_T116 l1 x5_1).f1)]] (fun K hK => ?_)
   with_reducible refine (laws_eqField.calls ((rd_T116 l0 x5_1).f0) ((rd_T116 l0 x5_1).f1) ((rd_T116 l1 x5_1).f0) ((rd_T116 l1 x5_1).f1) t1466 _ A7.out).mono ?_
   rintro e w10 ⟨rfl, hb⟩
   refine ⟨_, rfl, ?_⟩
   replace HB := am (below_step bl hb)
   clear hb
   refine hK.out _ _ ⟨(hcw hw1464_0), (hcw hw1464_1), (hcw hw1465_0), (hcw hw1465_1)⟩ (fun hHeld => ?_)
   clear hK K
   refine nm 25 ?_
   refine pu 9 26 [10] ?_
   refine done_ (done_of HT_.out (by kernel_rfl)) ?_
   go_upto_if 26 with (fail)
   have H := HH8.out
   clear HH8
   by_cases c11 : t1466 = true
   rotate_left
   ·replace c11 := Bool.eq_false_iff.mpr c11
    subst c11
    rw [if_neg (show ¬ (false = true) by decide)] at H
    obtain rfl := Option.some.inj H
    go_wp2
    go_ret
    exact ⟨rf, bl⟩
   subst c11
   rw [if_pos rfl] at H
   have H' := am H
   clear H
   go_wp2
   go_roundg k1
   case measure => have := HK1.out; omega
   case rel => exact ⟨(wrap64 (x5_1 + 1)), rs, H', ⟨by have := HK1.out; omega⟩, ⟨u120HB⟩⟩

/-! ### laws_eqResp: function 49 -/
def laws_eqResp.f (k : Nat) (a0_0 : Int) (l0_1 : List (S116)) (a0_2 : ByteArray) (a1_0 : Int) (l1_1 : List (S116)) (a1_2 : ByteArray) : Option (Bool) := if a0_0 = a1_0 then ((laws_eqFieldS.f k l0_1 l1_1).bind fun t1469 => (if t1469 = true then (if a0_2.toList = a1_2.toList then (some true) else (some false)) else (some false))) else (some false)
theorem laws_eqResp.mono : ∀ a0 a1 a2 a3 a4 a5 k, LeO (laws_eqResp.f k a0 a1 a2 a3 a4 a5) (laws_eqResp.f (k + 1) a0 a1 a2 a3 a4 a5) := by
 intro a0 a1 a2 a3 a4 a5 k
 unfold laws_eqResp.f
 have m0 := @laws_eqFieldS.mono
 exact mo
set_option maxHeartbeats 8000000 in
set_option maxRecDepth 100000 in
theorem laws_eqResp.calls (k : Nat) (a0_0 : Int) (A0_1 : Option Addr) (c0_1 : Nat) (l0_1 : List (S116)) (a0_2 : ByteArray) (a1_0 : Int) (A1_1 : Option Addr) (c1_1 : Nat) (l1_1 : List (S116)) (a1_2 : ByteArray) (r : Bool) (w : World) (hr0_1 : Kd.C k116 w A0_1 l0_1.length l0_1) (hc0_1 : l0_1.length ≤ c0_1) (hr1_1 : Kd.C k116 w A1_1 l1_1.length l1_1) (hc1_1 : l1_1.length ≤ c1_1) (h : laws_eqResp.f k a0_0 l0_1 a0_2 a1_0 l1_1 a1_2 = some r) :
  Calls Tryz.prog 49 #[.agg #[.int .i64 a0_0, .slice A0_1 l0_1.length c0_1, .string a0_2], .agg #[.int .i64 a1_0, .slice A1_1 l1_1.length c1_1, .string a1_2]] w fun e w' => e = .returned (.bool r) ∧ Below w.heap.size w w' := by
 have hu29 := Tryz.underlying29
 have HR0_1 := am hr0_1
 have HC0_1 := am hc0_1
 clear hr0_1 hc0_1
 have HR1_1 := am hr1_1
 have HC1_1 := am hc1_1
 clear hr1_1 hc1_1
 have HB := am (Below.refl w.heap.size w)
 unfold laws_eqResp.f at h
 have H := h
 clear h
 have HH3 := am H
 clear H
 go_enter Tryz.func49, Tryz.ntmps49
 go_upto_if 9 with ((with_reducible refine gw ?_); first | (refine bx 2 #[.int .i64 a0_0, .slice A0_1 l0_1.length c0_1, .string a0_2] 29 ?_; intro gb1467 hg w4 hbox hb; have BK1467 := am (hbox); have GW1467 := am (sz hg : w.heap.size ≤ gb1467); have GE1467 := am (sz hg : w.heap.size ≤ gb1467); replace HB := am (below_step bl hb); clear hb hbox hg) | (refine bx 3 #[.int .i64 a1_0, .slice A1_1 l1_1.length c1_1, .string a1_2] 29 ?_; intro gb1468 hg w5 hbox hb; have BK1468 := am (hbox); have GW1468 := am (sz hg : w.heap.size ≤ gb1468); have GE1468 := am (sz hg : w.heap.size ≤ gb1468); replace HB := am (below_step bl hb); have NB1467_1468 := am (nl hg BK1467 : gb1467 ≠ gb1468); have NB1468_1467 := am (ng hg BK1467 : gb1468 ≠ gb1467); replace BK1467 := kb BK1467 hb; clear hb hbox hg; have hnb6 := NB1467_1468.out; have hnc6 := NB1468_1467.out; obtain ⟨z7_0, y7_0, z7_1, y7_1, z7_2, y7_2⟩ := cl3 BK1467; obtain ⟨z8_0, y8_0, z8_1, y8_1, z8_2, y8_2⟩ := cl3 BK1468))
 have H := HH3.out
 clear HH3
 by_cases c9 : a0_0 = a1_0
 rotate_left
 ·rw [if_neg c9] at H
  have c9b0 : (a0_0 == a1_0) = false := beq_eq_false_iff_ne.mpr c9
  have c9b1 : (a0_0 != a1_0) = true := bne_iff_ne.mpr c9
  (first | rw [c9b0] | (simp only [i64_w, i32_w]; rw [c9b0]) | skip)
  obtain rfl := Option.some.inj H
  go_wp2
  go_ret
  exact ⟨rf, bl⟩
 rw [if_pos c9] at H
 have c9b0 : (a0_0 == a1_0) = true := beq_iff_eq.mpr c9
 have c9b1 : (a0_0 != a1_0) = false := bne_eq_false_iff_eq.mpr c9
 clear c9
 (first | rw [c9b0] | (simp only [i64_w, i32_w]; rw [c9b0]) | skip)
 revert H
 refine ok1 fun t1469 A10 H => ?_
 have HH11 := am H
 clear H
 have hnb12 := NB1467_1468.out
 have hnc12 := NB1468_1467.out
 obtain ⟨z13_0, y13_0, z13_1, y13_1, z13_2, y13_2⟩ := cl3 BK1467
 obtain ⟨z14_0, y14_0, z14_1, y14_1, z14_2, y14_2⟩ := cl3 BK1468
 go_upto_if 15 with ((with_reducible refine gw ?_); first | (refine gl 14 Tryz.func120 #[.slice A0_1 l0_1.length c0_1, .slice A1_1 l1_1.length c1_1] ?_; (with_reducible refine (laws_eqFieldS.calls k _ _ l0_1 _ _ l1_1 t1469 _ ?side1 ?side2 ?side3 ?side4 A10.out).mono ?_); (case side1 => exact cb HR0_1); (case side2 => exact HC0_1.out); (case side3 => exact cb HR1_1); (case side4 => exact HC1_1.out); rintro e w15 ⟨rfl, hb⟩; refine ⟨_, rfl, ?_⟩; replace BK1467 := kb BK1467 hb; replace BK1468 := kb BK1468 hb; replace HB := am (below_step bl hb); clear hb))
 have H := HH11.out
 clear HH11
 by_cases c16 : t1469 = true
 rotate_left
 ·replace c16 := Bool.eq_false_iff.mpr c16
  subst c16
  rw [if_neg (show ¬ (false = true) by decide)] at H
  obtain rfl := Option.some.inj H
  go_wp2
  go_ret
  exact ⟨rf, bl⟩
 subst c16
 rw [if_pos rfl] at H
 by_cases c17 : a0_2.toList = a1_2.toList
 rotate_left
 ·rw [if_neg c17] at H
  have c17b0 : (a0_2.toList == a1_2.toList) = false := beq_eq_false_iff_ne.mpr c17
  have c17b1 : (a0_2.toList != a1_2.toList) = true := bne_iff_ne.mpr c17
  (first | rw [c17b0] | (simp only [i64_w, i32_w]; rw [c17b0]) | skip)
  obtain rfl := Option.some.inj H
  have hnb21 := NB1467_1468.out
  have hnc21 := NB1468_1467.out
  obtain ⟨z22_0, y22_0, z22_1, y22_1, z22_2, y22_2⟩ := cl3 BK1467
  obtain ⟨z23_0, y23_0, z23_1, y23_1, z23_2, y23_2⟩ := cl3 BK1468
  go_wp2
  go_ret
  exact ⟨rf, bl⟩
 rw [if_pos c17] at H
 have c17b0 : (a0_2.toList == a1_2.toList) = true := beq_iff_eq.mpr c17
 have c17b1 : (a0_2.toList != a1_2.toList) = false := bne_eq_false_iff_eq.mpr c17
 clear c17
 (first | rw [c17b0] | (simp only [i64_w, i32_w]; rw [c17b0]) | skip)
 obtain rfl := Option.some.inj H
 have hnb18 := NB1467_1468.out
 have hnc18 := NB1468_1467.out
 obtain ⟨z19_0, y19_0, z19_1, y19_1, z19_2, y19_2⟩ := cl3 BK1467
 obtain ⟨z20_0, y20_0, z20_1, y20_1, z20_2, y20_2⟩ := cl3 BK1468
 go_wp2
 go_ret
 exact ⟨rf, bl⟩

/-! ### laws_eqStringS: function 112 -/
def laws_eqStringS.l0 : Nat → List ByteArray → List ByteArray → Int → Option (Bool)
 | 0, _, _, _ => none
 | k + 1, x0, x1, x5 => if x5 < (x0.length : Int) then (if 0 ≤ x5 then (if x5 < (x1.length : Int) then (if (rdOf ByteArray.empty x0 x5).toList = (rdOf ByteArray.empty x1 x5).toList then (laws_eqStringS.l0 k x0 x1 (wrap64 (x5 + 1))) else (some false)) else (none)) else (none)) else (some true)
def laws_eqStringS.f (k : Nat) (l0 : List ByteArray) (l1 : List ByteArray) : Option (Bool) := if (l0.length : Int) = (l1.length : Int) then (laws_eqStringS.l0 k l0 l1 0) else (some false)
theorem laws_eqStringS.mono_l : ∀ k, (∀ y0 y1 y2, LeO (laws_eqStringS.l0 k y0 y1 y2) (laws_eqStringS.l0 (k + 1) y0 y1 y2))
 | 0 => fun _ _ _ r h => by simp [laws_eqStringS.l0] at h
 | k + 1 => by
  have ih0 := laws_eqStringS.mono_l k
  ·intro y0 y1 y2
   unfold laws_eqStringS.l0
   exact mo
theorem laws_eqStringS.mono : ∀ a0 a1 k, LeO (laws_eqStringS.f k a0 a1) (laws_eqStringS.f (k + 1) a0 a1) := by
 intro a0 a1 k
 have ih0 := laws_eqStringS.mono_l k
 unfold laws_eqStringS.f
 exact mo
set_option maxHeartbeats 8000000 in
set_option maxRecDepth 100000 in
theorem laws_eqStringS.calls (k : Nat) (A0 : Option Addr) (c0 : Nat) (l0 : List ByteArray) (A1 : Option Addr) (c1 : Nat) (l1 : List ByteArray) (r : Bool) (w : World) (hr0 : Kd.C Kd.string w A0 l0.length l0) (hc0 : l0.length ≤ c0) (hr1 : Kd.C Kd.string w A1 l1.length l1) (hc1 : l1.length ≤ c1) (h : laws_eqStringS.f k l0 l1 = some r) :
  Calls Tryz.prog 112 #[.slice A0 l0.length c0, .slice A1 l1.length c1] w fun e w' => e = .returned (.bool r) ∧ Drawn0 w w' := by
 have HR0 := am hr0
 have HC0 := am hc0
 clear hr0 hc0
 have HR1 := am hr1
 have HC1 := am hc1
 clear hr1 hc1
 unfold laws_eqStringS.f at h
 have H := h
 clear h
 by_cases c3 : (l0.length : Int) = (l1.length : Int)
 rotate_left
 ·rw [if_neg c3] at H
  have c3b0 : ((l0.length : Int) == (l1.length : Int)) = false := beq_eq_false_iff_ne.mpr c3
  have c3b1 : ((l0.length : Int) != (l1.length : Int)) = true := bne_iff_ne.mpr c3
  have c3b2 : (l0.length == l1.length) = false := by first | simpa using c3 | (simp at c3 ⊢; omega)
  obtain rfl := Option.some.inj H
  go_enter Tryz.func112, Tryz.ntmps112
  go_wp2
  repeat (go_quiet (fail); try go_wp2)
  go_ret
  exact ⟨rs, dr⟩
 rw [if_pos c3] at H
 have c3b0 : ((l0.length : Int) == (l1.length : Int)) = true := beq_iff_eq.mpr c3
 have c3b1 : ((l0.length : Int) != (l1.length : Int)) = false := bne_eq_false_iff_eq.mpr c3
 have c3b2 : (l0.length == l1.length) = true := by first | simpa using c3 | (simp at c3 ⊢; omega)
 clear c3
 have H' := am H
 clear H
 go_enter Tryz.func112, Tryz.ntmps112
 go_wp2
 repeat (go_quiet (fail); try go_wp2)
 (try simp only [Act.put, List.setIfInBounds_toArray, List.set_cons_zero, List.set_cons_succ])
 go_loopg [5] k (fun kq v5 w' => ∃ (x5_1 : Int), v5 = .int .i64 x5_1 ∧ Aside0 (laws_eqStringS.l0 kq l0 l1 x5_1 = some r) ∧ Aside0 (kq ≤ k) ∧ Drawn0 w w')
 case atStart => exact ⟨(0), rs, H', ⟨Nat.le_refl _⟩, dr⟩
 case round =>
  clear H'
  try clear c1
  try clear p2
  try clear c3
  try clear c3b0
  try clear c3b1
  try clear c3b2
  obtain ⟨x5_1, rfl, HA, HK1, ⟨m1, rfl⟩⟩ := hrel
  cases gk with
  | zero => exact absurd HA.out (by simp [laws_eqStringS.l0])
  | succ k1 =>
   have H := HA.out
   clear HA
   simp only [laws_eqStringS.l0] at H
   by_cases c4 : x5_1 < (l0.length : Int)
   rotate_left
   ·rw [if_neg c4] at H
    have c4b0 := decide_eq_false c4
    clear c4
    obtain rfl := Option.some.inj H
    go_wp2
    repeat (go_quiet (fail); try go_wp2)
    go_ret
    exact ⟨rs, dr⟩
   rw [if_pos c4] at H
   have c4b0 := decide_eq_true c4
   clear c4
   revert H
   refine ifn fun c5 H => ?_
   have c5b0 := decide_eq_true c5
   clear c5
   revert H
   refine ifn fun c6 H => ?_
   have c6b0 := decide_eq_true c6
   clear c6
   by_cases c7 : (rdOf ByteArray.empty l0 x5_1).toList = (rdOf ByteArray.empty l1 x5_1).toList
   rotate_left
   ·rw [if_neg c7] at H
    have c7b0 : ((rdOf ByteArray.empty l0 x5_1).toList == (rdOf ByteArray.empty l1 x5_1).toList) = false := beq_eq_false_iff_ne.mpr c7
    have c7b1 : ((rdOf ByteArray.empty l0 x5_1).toList != (rdOf ByteArray.empty l1 x5_1).toList) = true := bne_iff_ne.mpr c7
    obtain rfl := Option.some.inj H
    have p1470 : 0 ≤ (x5_1 : Int) := od
    have q1470 : x5_1 < (l0.length : Int) := od
    obtain ⟨ad1470, e1470, hx1470_0⟩ := Kd.at_string HR0.out x5_1 p1470 q1470
    cases e1470
    replace p1470 := eq_true p1470
    replace q1470 := eq_true q1470
    have p1471 : 0 ≤ (x5_1 : Int) := od
    have q1471 : x5_1 < (l1.length : Int) := od
    obtain ⟨ad1471, e1471, hx1471_0⟩ := Kd.at_string HR1.out x5_1 p1471 q1471
    cases e1471
    replace p1471 := eq_true p1471
    replace q1471 := eq_true q1471
    go_wp2
    repeat (go_quiet (fail); try go_wp2)
    go_ret
    exact ⟨rs, dr⟩
   rw [if_pos c7] at H
   have c7b0 : ((rdOf ByteArray.empty l0 x5_1).toList == (rdOf ByteArray.empty l1 x5_1).toList) = true := beq_iff_eq.mpr c7
   have c7b1 : ((rdOf ByteArray.empty l0 x5_1).toList != (rdOf ByteArray.empty l1 x5_1).toList) = false := bne_eq_false_iff_eq.mpr c7
   clear c7
   have H' := am H
   clear H
   have p1470 : 0 ≤ (x5_1 : Int) := od
   have q1470 : x5_1 < (l0.length : Int) := od
   obtain ⟨ad1470, e1470, hx1470_0⟩ := Kd.at_string HR0.out x5_1 p1470 q1470
   cases e1470
   replace p1470 := eq_true p1470
   replace q1470 := eq_true q1470
   have p1471 : 0 ≤ (x5_1 : Int) := od
   have q1471 : x5_1 < (l1.length : Int) := od
   obtain ⟨ad1471, e1471, hx1471_0⟩ := Kd.at_string HR1.out x5_1 p1471 q1471
   cases e1471
   replace p1471 := eq_true p1471
   replace q1471 := eq_true q1471
   go_wp2
   repeat (go_quiet (fail); try go_wp2)
   go_roundg k1
   case measure => have := HK1.out; omega
   case rel => exact ⟨(wrap64 (x5_1 + 1)), rs, H', ⟨by have := HK1.out; omega⟩, dr⟩

/-! ### laws_eqObj: function 39 -/
def laws_eqObj.f (k : Nat) (a0_0 : ByteArray) (l0_1 : List ByteArray) (l0_2 : List ByteArray) (a0_3 : Int) (l0_4 : List (S116)) (a0_5 : ByteArray) (a0_6 : Int) (a1_0 : ByteArray) (l1_1 : List ByteArray) (l1_2 : List ByteArray) (a1_3 : Int) (l1_4 : List (S116)) (a1_5 : ByteArray) (a1_6 : Int) : Option (Bool) := if a0_0.toList = a1_0.toList then ((laws_eqStringS.f k l0_1 l1_1).bind fun t1474 => (if t1474 = true then ((laws_eqStringS.f k l0_2 l1_2).bind fun t1475 => (if t1475 = true then ((laws_eqResp.f k a0_3 l0_4 a0_5 a1_3 l1_4 a1_5).bind fun t1476 => (if t1476 = true then (if a0_6 = a1_6 then (some true) else (some false)) else (some false))) else (some false))) else (some false))) else (some false)
theorem laws_eqObj.mono : ∀ a0 a1 a2 a3 a4 a5 a6 a7 a8 a9 a10 a11 a12 a13 k, LeO (laws_eqObj.f k a0 a1 a2 a3 a4 a5 a6 a7 a8 a9 a10 a11 a12 a13) (laws_eqObj.f (k + 1) a0 a1 a2 a3 a4 a5 a6 a7 a8 a9 a10 a11 a12 a13) := by
 intro a0 a1 a2 a3 a4 a5 a6 a7 a8 a9 a10 a11 a12 a13 k
 unfold laws_eqObj.f
 have m0 := @laws_eqResp.mono
 have m1 := @laws_eqStringS.mono
 exact mo
set_option maxHeartbeats 8000000 in
set_option maxRecDepth 100000 in
theorem laws_eqObj.calls (k : Nat) (a0_0 : ByteArray) (A0_1 : Option Addr) (c0_1 : Nat) (l0_1 : List ByteArray) (A0_2 : Option Addr) (c0_2 : Nat) (l0_2 : List ByteArray) (a0_3 : Int) (A0_4 : Option Addr) (c0_4 : Nat) (l0_4 : List (S116)) (a0_5 : ByteArray) (a0_6 : Int) (a1_0 : ByteArray) (A1_1 : Option Addr) (c1_1 : Nat) (l1_1 : List ByteArray) (A1_2 : Option Addr) (c1_2 : Nat) (l1_2 : List ByteArray) (a1_3 : Int) (A1_4 : Option Addr) (c1_4 : Nat) (l1_4 : List (S116)) (a1_5 : ByteArray) (a1_6 : Int) (r : Bool) (w : World) (hr0_1 : Kd.C Kd.string w A0_1 l0_1.length l0_1) (hc0_1 : l0_1.length ≤ c0_1) (hr0_2 : Kd.C Kd.string w A0_2 l0_2.length l0_2) (hc0_2 : l0_2.length ≤ c0_2) (hr0_4 : Kd.C k116 w A0_4 l0_4.length l0_4) (hc0_4 : l0_4.length ≤ c0_4) (hr1_1 : Kd.C Kd.string w A1_1 l1_1.length l1_1) (hc1_1 : l1_1.length ≤ c1_1) (hr1_2 : Kd.C Kd.string w A1_2 l1_2.length l1_2) (hc1_2 : l1_2.length ≤ c1_2) (hr1_4 : Kd.C k116 w A1_4 l1_4.length l1_4) (hc1_4 : l1_4.length ≤ c1_4) (h : laws_eqObj.f k a0_0 l0_1 l0_2 a0_3 l0_4 a0_5 a0_6 a1_0 l1_1 l1_2 a1_3 l1_4 a1_5 a1_6 = some r) :
  Calls Tryz.prog 39 #[.agg #[.string a0_0, .slice A0_1 l0_1.length c0_1, .slice A0_2 l0_2.length c0_2, .int .i64 a0_3, .slice A0_4 l0_4.length c0_4, .string a0_5, .int .i64 a0_6], .agg #[.string a1_0, .slice A1_1 l1_1.length c1_1, .slice A1_2 l1_2.length c1_2, .int .i64 a1_3, .slice A1_4 l1_4.length c1_4, .string a1_5, .int .i64 a1_6]] w fun e w' => e = .returned (.bool r) ∧ Below w.heap.size w w' := by
 have hu31 := Tryz.underlying31
 have hu29 := Tryz.underlying29
 have HR0_1 := am hr0_1
 have HC0_1 := am hc0_1
 clear hr0_1 hc0_1
 have HR0_2 := am hr0_2
 have HC0_2 := am hc0_2
 clear hr0_2 hc0_2
 have HR0_4 := am hr0_4
 have HC0_4 := am hc0_4
 clear hr0_4 hc0_4
 have HR1_1 := am hr1_1
 have HC1_1 := am hc1_1
 clear hr1_1 hc1_1
 have HR1_2 := am hr1_2
 have HC1_2 := am hc1_2
 clear hr1_2 hc1_2
 have HR1_4 := am hr1_4
 have HC1_4 := am hc1_4
 clear hr1_4 hc1_4
 have HB := am (Below.refl w.heap.size w)
 unfold laws_eqObj.f at h
 have H := h
 clear h
 have HH3 := am H
 clear H
 go_enter Tryz.func39, Tryz.ntmps39
 go_upto_if 9 with ((with_reducible refine gw ?_); first | (refine bx 2 #[.string a0_0, .slice A0_1 l0_1.length c0_1, .slice A0_2 l0_2.length c0_2, .int .i64 a0_3, .slice A0_4 l0_4.length c0_4, .string a0_5, .int .i64 a0_6] 31 ?_; intro gb1472 hg w4 hbox hb; have BK1472 := am (hbox); have GW1472 := am (sz hg : w.heap.size ≤ gb1472); have GE1472 := am (sz hg : w.heap.size ≤ gb1472); replace HB := am (below_step bl hb); clear hb hbox hg) | (refine bx 3 #[.string a1_0, .slice A1_1 l1_1.length c1_1, .slice A1_2 l1_2.length c1_2, .int .i64 a1_3, .slice A1_4 l1_4.length c1_4, .string a1_5, .int .i64 a1_6] 31 ?_; intro gb1473 hg w5 hbox hb; have BK1473 := am (hbox); have GW1473 := am (sz hg : w.heap.size ≤ gb1473); have GE1473 := am (sz hg : w.heap.size ≤ gb1473); replace HB := am (below_step bl hb); have NB1472_1473 := am (nl hg BK1472 : gb1472 ≠ gb1473); have NB1473_1472 := am (ng hg BK1472 : gb1473 ≠ gb1472); replace BK1472 := kb BK1472 hb; clear hb hbox hg; have hnb6 := NB1472_1473.out; have hnc6 := NB1473_1472.out; obtain ⟨z7_0, y7_0, z7_1, y7_1, z7_2, y7_2, z7_3, y7_3, z7_4, y7_4, z7_5, y7_5, z7_6, y7_6⟩ := cl7 BK1472; obtain ⟨z8_0, y8_0, z8_1, y8_1, z8_2, y8_2, z8_3, y8_3, z8_4, y8_4, z8_5, y8_5, z8_6, y8_6⟩ := cl7 BK1473))
 have H := HH3.out
 clear HH3
 by_cases c9 : a0_0.toList = a1_0.toList
 rotate_left
 ·rw [if_neg c9] at H
  have c9b0 : (a0_0.toList == a1_0.toList) = false := beq_eq_false_iff_ne.mpr c9
  have c9b1 : (a0_0.toList != a1_0.toList) = true := bne_iff_ne.mpr c9
  (first | rw [c9b0] | (simp only [i64_w, i32_w]; rw [c9b0]) | skip)
  obtain rfl := Option.some.inj H
  go_wp2
  go_ret
  exact ⟨rf, bl⟩
 rw [if_pos c9] at H
 have c9b0 : (a0_0.toList == a1_0.toList) = true := beq_iff_eq.mpr c9
 have c9b1 : (a0_0.toList != a1_0.toList) = false := bne_eq_false_iff_eq.mpr c9
 clear c9
 (first | rw [c9b0] | (simp only [i64_w, i32_w]; rw [c9b0]) | skip)
 revert H
 refine ok1 fun t1474 A10 H => ?_
 have HH11 := am H
 clear H
 have hnb12 := NB1472_1473.out
 have hnc12 := NB1473_1472.out
 obtain ⟨z13_0, y13_0, z13_1, y13_1, z13_2, y13_2, z13_3, y13_3, z13_4, y13_4, z13_5, y13_5, z13_6, y13_6⟩ := cl7 BK1472
 obtain ⟨z14_0, y14_0, z14_1, y14_1, z14_2, y14_2, z14_3, y14_3, z14_4, y14_4, z14_5, y14_5, z14_6, y14_6⟩ := cl7 BK1473
 go_upto_if 15 with ((with_reducible refine gw ?_); first | (refine gl 14 Tryz.func112 #[.slice A0_1 l0_1.length c0_1, .slice A1_1 l1_1.length c1_1] ?_; (with_reducible refine (laws_eqStringS.calls k _ _ l0_1 _ _ l1_1 t1474 _ ?side1 ?side2 ?side3 ?side4 A10.out).mono ?_); (case side1 => exact cb HR0_1); (case side2 => exact HC0_1.out); (case side3 => exact cb HR1_1); (case side4 => exact HC1_1.out); rintro e w' ⟨rfl, ⟨nd, rfl⟩⟩; refine ⟨_, rfl, ?_⟩))
 have H := HH11.out
 clear HH11
 by_cases c15 : t1474 = true
 rotate_left
 ·replace c15 := Bool.eq_false_iff.mpr c15
  subst c15
  rw [if_neg (show ¬ (false = true) by decide)] at H
  obtain rfl := Option.some.inj H
  go_wp2
  go_ret
  exact ⟨rf, bl⟩
 subst c15
 rw [if_pos rfl] at H
 revert H
 refine ok1 fun t1475 A16 H => ?_
 have HH17 := am H
 clear H
 have hnb18 := NB1472_1473.out
 have hnc18 := NB1473_1472.out
 obtain ⟨z19_0, y19_0, z19_1, y19_1, z19_2, y19_2, z19_3, y19_3, z19_4, y19_4, z19_5, y19_5, z19_6, y19_6⟩ := cl7 BK1472
 obtain ⟨z20_0, y20_0, z20_1, y20_1, z20_2, y20_2, z20_3, y20_3, z20_4, y20_4, z20_5, y20_5, z20_6, y20_6⟩ := cl7 BK1473
 go_upto_if 21 with ((with_reducible refine gw ?_); first | (refine gl 20 Tryz.func112 #[.slice A0_2 l0_2.length c0_2, .slice A1_2 l1_2.length c1_2] ?_; (with_reducible refine (laws_eqStringS.calls k _ _ l0_2 _ _ l1_2 t1475 _ ?side1 ?side2 ?side3 ?side4 A16.out).mono ?_); (case side1 => exact cb HR0_2); (case side2 => exact HC0_2.out); (case side3 => exact cb HR1_2); (case side4 => exact HC1_2.out); rintro e w' ⟨rfl, ⟨nd, rfl⟩⟩; refine ⟨_, rfl, ?_⟩))
 have H := HH17.out
 clear HH17
 by_cases c21 : t1475 = true
 rotate_left
 ·replace c21 := Bool.eq_false_iff.mpr c21
  subst c21
  rw [if_neg (show ¬ (false = true) by decide)] at H
  obtain rfl := Option.some.inj H
  go_wp2
  go_ret
  exact ⟨rf, bl⟩
 subst c21
 rw [if_pos rfl] at H
 revert H
 refine ok1 fun t1476 A22 H => ?_
 have HH23 := am H
 clear H
 have hnb24 := NB1472_1473.out
 have hnc24 := NB1473_1472.out
 obtain ⟨z25_0, y25_0, z25_1, y25_1, z25_2, y25_2, z25_3, y25_3, z25_4, y25_4, z25_5, y25_5, z25_6, y25_6⟩ := cl7 BK1472
 obtain ⟨z26_0, y26_0, z26_1, y26_1, z26_2, y26_2, z26_3, y26_3, z26_4, y26_4, z26_5, y26_5, z26_6, y26_6⟩ := cl7 BK1473
 go_upto_if 27 with ((with_reducible refine gw ?_); first | (refine gl 26 Tryz.func49 #[.agg #[.int .i64 a0_3, .slice A0_4 l0_4.length c0_4, .string a0_5], .agg #[.int .i64 a1_3, .slice A1_4 l1_4.length c1_4, .string a1_5]] ?_; (with_reducible refine (laws_eqResp.calls k a0_3 _ _ l0_4 a0_5 a1_3 _ _ l1_4 a1_5 t1476 _ ?side1 ?side2 ?side3 ?side4 A22.out).mono ?_); (case side1 => exact cb HR0_4); (case side2 => exact HC0_4.out); (case side3 => exact cb HR1_4); (case side4 => exact HC1_4.out); rintro e w27 ⟨rfl, hb⟩; refine ⟨_, rfl, ?_⟩; replace BK1472 := kb BK1472 hb; replace BK1473 := kb BK1473 hb; replace HB := am (below_step bl hb); clear hb))
 have H := HH23.out
 clear HH23
 by_cases c28 : t1476 = true
 rotate_left
 ·replace c28 := Bool.eq_false_iff.mpr c28
  subst c28
  rw [if_neg (show ¬ (false = true) by decide)] at H
  obtain rfl := Option.some.inj H
  go_wp2
  go_ret
  exact ⟨rf, bl⟩
 subst c28
 rw [if_pos rfl] at H
 by_cases c29 : a0_6 = a1_6
 rotate_left
 ·rw [if_neg c29] at H
  have c29b0 : (a0_6 == a1_6) = false := beq_eq_false_iff_ne.mpr c29
  have c29b1 : (a0_6 != a1_6) = true := bne_iff_ne.mpr c29
  (first | rw [c29b0] | (simp only [i64_w, i32_w]; rw [c29b0]) | skip)
  obtain rfl := Option.some.inj H
  have hnb33 := NB1472_1473.out
  have hnc33 := NB1473_1472.out
  obtain ⟨z34_0, y34_0, z34_1, y34_1, z34_2, y34_2, z34_3, y34_3, z34_4, y34_4, z34_5, y34_5, z34_6, y34_6⟩ := cl7 BK1472
  obtain ⟨z35_0, y35_0, z35_1, y35_1, z35_2, y35_2, z35_3, y35_3, z35_4, y35_4, z35_5, y35_5, z35_6, y35_6⟩ := cl7 BK1473
  go_wp2
  go_ret
  exact ⟨rf, bl⟩
 rw [if_pos c29] at H
 have c29b0 : (a0_6 == a1_6) = true := beq_iff_eq.mpr c29
 have c29b1 : (a0_6 != a1_6) = false := bne_eq_false_iff_eq.mpr c29
 clear c29
 (first | rw [c29b0] | (simp only [i64_w, i32_w]; rw [c29b0]) | skip)
 obtain rfl := Option.some.inj H
 have hnb30 := NB1472_1473.out
 have hnc30 := NB1473_1472.out
 obtain ⟨z31_0, y31_0, z31_1, y31_1, z31_2, y31_2, z31_3, y31_3, z31_4, y31_4, z31_5, y31_5, z31_6, y31_6⟩ := cl7 BK1472
 obtain ⟨z32_0, y32_0, z32_1, y32_1, z32_2, y32_2, z32_3, y32_3, z32_4, y32_4, z32_5, y32_5, z32_6, y32_6⟩ := cl7 BK1473
 go_wp2
 go_ret
 exact ⟨rf, bl⟩

/-! ### laws_markText: function 159 -/
theorem u159HB {p : Prop} (h : p := by repeat (first | (with_reducible first | exact HB.out | apply below_alloc | apply pw_below_drewN | apply below_drew1) | exact HB.out)) : p := h
def laws_markText.l0 : Nat → Int → ByteArray → Option (ByteArray)
 | 0, _, _ => none
 | k + 1, x0, x3 => if x0 > 0 then ((some (([(wrap64 (48 + (Int.tmod x0 10))) % 256] : List Int) : List Int)).bind fun y1477 => (if (strOfNums y1477).size + x3.size ≤ 9223372036854775807 then (laws_markText.l0 k (wrap64 (Int.tdiv x0 10)) ((strOfNums y1477) ++ x3)) else (none))) else (if 1 + x3.size ≤ 9223372036854775807 then (some ((⟨#[109]⟩ : ByteArray) ++ x3)) else (none))
def laws_markText.f (k : Nat) (a0 : Int) : Option (ByteArray) := if a0 ≤ 0 then (some (⟨#[109, 48]⟩ : ByteArray)) else (laws_markText.l0 k a0 (⟨#[]⟩ : ByteArray))
theorem laws_markText.mono_l : ∀ k, (∀ y0 y1, LeO (laws_markText.l0 k y0 y1) (laws_markText.l0 (k + 1) y0 y1))
 | 0 => fun _ _ r h => by simp [laws_markText.l0] at h
 | k + 1 => by
  have ih0 := laws_markText.mono_l k
  ·intro y0 y1
   unfold laws_markText.l0
   exact mo
theorem laws_markText.mono : ∀ a0 k, LeO (laws_markText.f k a0) (laws_markText.f (k + 1) a0) := by
 intro a0 k
 have ih0 := laws_markText.mono_l k
 unfold laws_markText.f
 exact mo
set_option maxHeartbeats 8000000 in
set_option maxRecDepth 100000 in
theorem laws_markText.calls (k : Nat) (a0 : Int) (r : ByteArray) (w : World) (h : laws_markText.f k a0 = some r) :
  Calls Tryz.prog 159 #[.int .i64 a0] w fun e w' => e = .returned (.string r) ∧ Below w.heap.size w w' := by
 have HB := am (Below.refl w.heap.size w)
 unfold laws_markText.f at h
 have H := h
 clear h
 by_cases c2 : a0 ≤ 0
 ·rw [if_pos c2] at H
  have c2b0 := decide_eq_true c2
  clear c2
  obtain rfl := Option.some.inj H
  go_enter Tryz.func159, Tryz.ntmps159
  go_wp2
  go_ret
  exact ⟨rf, bl⟩
 rw [if_neg c2] at H
 have c2b0 := decide_eq_false c2
 clear c2
 have H' := am H
 clear H
 go_enter Tryz.func159, Tryz.ntmps159
 go_wp2
 (try simp only [Act.put, List.setIfInBounds_toArray, List.set_cons_zero, List.set_cons_succ])
 go_loopg [0, 3] k (fun kq v0 v3 w' => ∃ (x0_1 : Int) (x3_1 : ByteArray), v0 = .int .i64 x0_1 ∧ v3 = .string x3_1 ∧ Aside0 (laws_markText.l0 kq x0_1 x3_1 = some r) ∧ Aside0 (kq ≤ k) ∧ Aside0 (Below w.heap.size w w'))
 case atStart => exact ⟨(a0), ((⟨#[]⟩ : ByteArray)), rs, rs, H', ⟨Nat.le_refl _⟩, ⟨u159HB⟩⟩
 case round =>
  clear H'
  try clear c1
  try clear c2
  try clear c2b0
  try clear p2
  obtain ⟨x0_1, x3_1, rfl, rfl, HA, HK1, HB⟩ := hrel
  cases gk with
  | zero => exact absurd HA.out (by simp [laws_markText.l0])
  | succ k1 =>
   have H := HA.out
   clear HA
   simp only [laws_markText.l0] at H
   by_cases c3 : x0_1 > 0
   rotate_left
   ·rw [if_neg c3] at H
    have c3b0 := decide_eq_false c3
    clear c3
    revert H
    refine ifn fun c8 H => ?_
    have c8b0 := eq_true c8
    have c8b1 := decide_eq_true c8
    try have c8b2 := eq_false (Nat.not_lt.2 c8)
    obtain rfl := Option.some.inj H
    go_wp2
    go_ret
    exact ⟨rf, bl⟩
   rw [if_pos c3] at H
   have c3b0 := decide_eq_true c3
   clear c3
   obtain ⟨y1477, hy1477⟩ : ∃ y_ : List Int, y_ = (([(wrap64 (48 + (Int.tmod x0_1 10))) % 256] : List Int)) := ⟨_, rfl⟩
   replace H : (if (strOfNums y1477).size + x3_1.size ≤ 9223372036854775807 then (laws_markText.l0 k1 (wrap64 (Int.tdiv x0_1 10)) ((strOfNums y1477) ++ x3_1)) else (none)) = some r := by first | (rw [hy1477]; with_reducible exact H) | (have H2_ := (Option.bind_some _ _).symm.trans H; rw [hy1477]; with_reducible exact H2_) | (have H2_ := (Option.bind_some _ _).symm.trans H; with_reducible exact H2_) | with_reducible exact H | (rw [hy1477]; exact H) | exact H
   have Ny1477 := am hy1477
   clear hy1477
   revert H
   refine ifn fun c4 H => ?_
   have c4b0 := eq_true c4
   have c4b1 := decide_eq_true c4
   try have c4b2 := eq_false (Nat.not_lt.2 c4)
   have H' := am H
   clear H
   go_wp2_with (first | ((with_reducible refine gate_dst (N := 12) rfl ?_); refine Kd.R_lit (Kd.int .u8) _ 5 ?hg (N := 12) ?hd (xs := ([(wrap64 (48 + (Int.tmod x0_1 10))) % 256] : List Int)) (inner := [.int .u8 ((wrap64 (48 + (Int.tmod x0_1 10))) % 256)]) (ok := fun _ => True) (okp := fun _ => True) ?hr ?hp (fun _ hk => hk) trivial (Below.refl _ _) (Nat.le_refl _) (by simp) ?_; (case hd => rfl); (case hg => rfl); (case hr => first | (go_simp; done) | (go_simp; rfl)); (case hp => exact rp); intro v1478 w5 ho6 hb hg_ hnew_; clear hg_ hnew_; (first | rw [← Ny1477.out] at ho6 | (simp only [Int.reduceToNat] at ho6; rw [← Ny1477.out] at ho6)); have HO1479 := am (Kd.R_lower ho6 (below_size bl)); replace HB := am (below_step bl hb); clear hb ho6; have hcv7 := own_string (P := Tryz.prog) Tryz.underlying22 Tryz.underlying5 Tryz.underlying9 (Kd.own_of_R HO1479.out)))
   go_roundg k1
   case measure => have := HK1.out; omega
   case rel => exact ⟨(wrap64 (Int.tdiv x0_1 10)), ((strOfNums y1477) ++ x3_1), rs, rs, H', ⟨by have := HK1.out; omega⟩, ⟨u159HB⟩⟩

/-! ### laws_markFieldS: function 121 -/
theorem u121HK {p : Prop} (h : p := by repeat (first | (with_reducible first | exact HK.out | apply Kept.alloc | apply Kept.drewN | apply Kept.drew) | exact HK.out)) : p := h
theorem u121HB {p : Prop} (h : p := by repeat (first | (with_reducible first | exact HB.out | apply below_alloc | apply pw_below_drewN | apply below_drew1) | exact HB.out)) : p := h
def laws_markFieldS.l0 : Nat → List (S116) → Int → Int → Option (Int × (List (S116)))
 | 0, _, _, _ => none
 | k + 1, x0, x1, x5 => if x5 < (x0.length : Int) then ((laws_markText.f k x1).bind fun t1480 => (if 0 ≤ x5 then ((some (x0.set (x5 : Int).toNat (⟨t1480, (rd_T116 x0 x5).f1⟩ : S116) : List (S116))).bind fun y1481 => ((laws_markText.f k (wrap64 (x1 + 1))).bind fun t1482 => (laws_markFieldS.l0 k (y1481.set (x5 : Int).toNat (⟨(rd_T116 y1481 x5).f0, t1482⟩ : S116)) (wrap64 ((wrap64 (x1 + 1)) + 1)) (wrap64 (x5 + 1))))) else (none))) else (some (x1, x0))
def laws_markFieldS.f (k : Nat) (l0 : List (S116)) (a1 : Int) : Option (Int × (List (S116))) := laws_markFieldS.l0 k l0 a1 0
theorem laws_markFieldS.mono_l : ∀ k, (∀ y0 y1 y2, LeO (laws_markFieldS.l0 k y0 y1 y2) (laws_markFieldS.l0 (k + 1) y0 y1 y2))
 | 0 => fun _ _ _ r h => by simp [laws_markFieldS.l0] at h
 | k + 1 => by
  have ih0 := laws_markFieldS.mono_l k
  ·intro y0 y1 y2
   unfold laws_markFieldS.l0
   have m0 := @laws_markText.mono
   exact mo
theorem laws_markFieldS.mono : ∀ a0 a1 k, LeO (laws_markFieldS.f k a0 a1) (laws_markFieldS.f (k + 1) a0 a1) := by
 intro a0 a1 k
 have ih0 := laws_markFieldS.mono_l k
 unfold laws_markFieldS.f
 have m0 := @laws_markText.mono
 exact mo
set_option maxHeartbeats 8000000 in
set_option maxRecDepth 100000 in
theorem laws_markFieldS.calls (k : Nat) (P0_ : Nat → Prop) (u9000_ : Value) (l0 : List (S116)) (a1 : Int) (r1 : Int) (r2 : List (S116)) (w0 w : World) (hB : Below w0.heap.size w0 w) (ho0 : Kd.R k116 116 w w0.heap.size P0_ u9000_ l0) (h : laws_markFieldS.f k l0 a1 = some (r1, r2)) :
  Calls Tryz.prog 121 #[u9000_, .int .i64 a1] w fun e w' => e = .returned (.int .i64 r1) ∧ Kd.R k116 116 w' w0.heap.size (fun k_ => (P0_ k_ ∨ w.heap.size ≤ k_)) u9000_ r2 ∧ Below w0.heap.size w0 w' ∧ Kept w w' (fun k_ => P0_ k_) := by
 have HO0 := am (show Kd.R k116 116 w w0.heap.size (fun k_ => (P0_ k_ ∨ w.heap.size ≤ k_)) u9000_ l0 from Kd.R_mono ho0 (fun k_ hk => (.inl hk)))
 have HK := am (Kept.refl w (fun k_ => P0_ k_))
 have HW0 := am hB.size
 have HB := am hB
 clear hB
 unfold laws_markFieldS.f at h
 have H := h
 clear h
 have H' := am H
 clear H
 go_enter Tryz.func121, Tryz.ntmps121
 go_wp2
 (try simp only [Act.put, List.setIfInBounds_toArray, List.set_cons_zero, List.set_cons_succ])
 go_loopg [1, 5] k (fun kq v1 v5 w' => ∃ (x0_1 : List (S116)) (x1_1 : Int) (x5_1 : Int), v1 = .int .i64 x1_1 ∧ v5 = .int .i64 x5_1 ∧ Aside0 (laws_markFieldS.l0 kq x0_1 x1_1 x5_1 = some (r1, r2)) ∧ Aside0 (kq ≤ k) ∧ Aside0 (Kd.R k116 116 w' w0.heap.size (fun k_ => (P0_ k_ ∨ w.heap.size ≤ k_)) u9000_ x0_1) ∧ Aside0 (Kept w w' (fun k_ => P0_ k_)) ∧ Aside0 (Below w0.heap.size w0 w'))
 case atStart => exact ⟨(l0), (a1), (0), rs, rs, H', ⟨Nat.le_refl _⟩, ⟨by (with_reducible repeat (first | apply Kd.R_alloc | apply Kd.R_drewN | apply Kd.R_drew)); exact HO0.out⟩, ⟨u121HK⟩, ⟨u121HB⟩⟩
 case round =>
  clear H'
  try clear c1
  try clear p2
  obtain ⟨x0_1, x1_1, x5_1, rfl, rfl, HA, HK1, HO_0, HK, HB⟩ := hrel
  cases gk with
  | zero => exact absurd HA.out (by simp [laws_markFieldS.l0])
  | succ k1 =>
   have H := HA.out
   clear HA
   simp only [laws_markFieldS.l0] at H
   by_cases c3 : x5_1 < (x0_1.length : Int)
   rotate_left
   ·rw [if_neg c3] at H
    have c3b0 := decide_eq_false c3
    clear c3
    simp only [Option.some.injEq, Prod.mk.injEq] at H
    obtain ⟨rfl, rfl⟩ := H
    obtain ⟨Ao16, co16, eo16⟩ := Kd.R_slice HO_0.out
    subst eo16
    go_wp2
    go_ret
    exact ⟨rf, by (with_reducible repeat (first | apply Kd.R_alloc | apply Kd.R_drewN | apply Kd.R_drew)); exact HO_0.out, u121HB, u121HK⟩
   rw [if_pos c3] at H
   have c3b0 := decide_eq_true c3
   clear c3
   revert H
   refine ok1 fun t1480 A4 H => ?_
   revert H
   refine ifn fun c5 H => ?_
   have c5b0 := decide_eq_true c5
   clear c5
   obtain ⟨y1481, hy1481⟩ : ∃ y_ : List (S116), y_ = (x0_1.set (x5_1 : Int).toNat (⟨t1480, (rd_T116 x0_1 x5_1).f1⟩ : S116)) := ⟨_, rfl⟩
   replace H : ((laws_markText.f k1 (wrap64 (x1_1 + 1))).bind fun t1482 => (laws_markFieldS.l0 k1 (y1481.set (x5_1 : Int).toNat (⟨(rd_T116 y1481 x5_1).f0, t1482⟩ : S116)) (wrap64 ((wrap64 (x1_1 + 1)) + 1)) (wrap64 (x5_1 + 1)))) = some (r1, r2) := by first | (rw [hy1481]; with_reducible exact H) | (have H2_ := (Option.bind_some _ _).symm.trans H; rw [hy1481]; with_reducible exact H2_) | (have H2_ := (Option.bind_some _ _).symm.trans H; with_reducible exact H2_) | with_reducible exact H | (rw [hy1481]; exact H) | exact H
   have Ny1481 := am hy1481
   clear hy1481
   revert H
   refine ok1 fun t1482 A7 H => ?_
   obtain ⟨y1483, hy1483⟩ : ∃ y_ : List (S116), y_ = (y1481.set (x5_1 : Int).toNat (⟨(rd_T116 y1481 x5_1).f0, t1482⟩ : S116)) := ⟨_, rfl⟩
   replace H : (laws_markFieldS.l0 k1 y1483 (wrap64 ((wrap64 (x1_1 + 1)) + 1)) (wrap64 (x5_1 + 1))) = some (r1, r2) := by first | (rw [hy1483]; with_reducible exact H) | (have H2_ := (Option.bind_some _ _).symm.trans H; rw [hy1483]; with_reducible exact H2_) | (have H2_ := (Option.bind_some _ _).symm.trans H; with_reducible exact H2_) | with_reducible exact H | (rw [hy1483]; exact H) | exact H
   have Ny1483 := am hy1483
   clear hy1483
   have H' := am H
   clear H
   obtain ⟨Ao9, co9, eo9⟩ := Kd.R_slice HO_0.out
   subst eo9
   go_wp2_with (first | ((with_reducible refine gw ?_); refine gl 15 Tryz.func159 #[.int .i64 x1_1] ?_; (with_reducible refine (laws_markText.calls k1 x1_1 t1480 _ A4.out).mono ?_); rintro e w10 ⟨rfl, hb⟩; refine ⟨_, rfl, ?_⟩; replace HO_0 := kr HO_0 hb; replace HK := am (Kept.below (S := (fun k_ => P0_ k_)) u121HK hb); replace HB := am (below_step bl hb); clear hb; have p6 : 0 ≤ (x5_1 : Int) := od; have q6 : (x5_1 : Int) < ((x0_1.length : Int) : Int) := od; obtain ⟨go6, co6, eo6, gb6, gl6, cl6, HG6⟩ := Kd.R_form HO_0.out (by omega); (first | cases eo6 | (injection eo6 with ea_ en_ ec_; (first | subst ea_ | (injection ea_ with ea_; subst ea_)); subst ec_; clear en_)); have GB6 := am gb6; have GG6 := am HG6; clear gb6 gl6 HG6; have HMgo6 := am (show (P0_ go6 ∨ w.heap.size ≤ go6) from (HO_0.out.1 _ rfl)); obtain ⟨ce6, hcl6, hM6, hcc6, hfr6⟩ := Kd.R_elem HO_0.out z116 (x5_1 : Int) p6 q6; obtain rfl := k116_openM hM6; have hx6_0 : w10.cell? ⟨go6, (x5_1 : Int).toNat * 2, none⟩ = some (.string ((rd_T116 x0_1 x5_1).f0)) := hcc6 0 _ rfl; have hx6_1 : w10.cell? ⟨go6, (x5_1 : Int).toNat * 2 + 1, none⟩ = some (.string ((rd_T116 x0_1 x5_1).f1)) := hcc6 1 _ rfl; have hf6_0 : w10.frozen? ⟨go6, (x5_1 : Int).toNat * 2, none⟩ = false := hfr6 0; have hf6_1 : w10.frozen? ⟨go6, (x5_1 : Int).toNat * 2 + 1, none⟩ = false := hfr6 1; clear hcl6 hcc6 hfr6 hM6; replace p6 := eq_true p6; replace q6 := eq_true q6; have HX11 := am (show Kd.R k116 116 w10 w0.heap.size (fun k_ => (P0_ k_ ∨ w.heap.size ≤ k_)) (.slice (some ⟨go6, 0, none⟩) x0_1.length co9) x0_1 from (ro HO_0)); obtain ⟨ce11, hcl11, hM11, hcc11, hfr11⟩ := Kd.R_elem HX11.out z116 (x5_1 : Int) (od) (by have h_ : (x5_1 : Int) < ((x0_1.length : Int) : Int) := od; first | exact h_ | (have e_ := (Kd.R_reads' HO_0.out).1; omega) | simpa using h_); obtain rfl := k116_openM hM11; have HP11 := Kd.R_seg HX11.out (x5_1 : Int) (od) (by have h_ : (x5_1 : Int) < ((x0_1.length : Int) : Int) := od; first | exact h_ | (have e_ := (Kd.R_reads' HO_0.out).1; omega) | simpa using h_) (seg := [.string t1480]) (j := 0) hcl11 hcc11 (show 1 ≤ 2 from by decide) (x' := (⟨t1480, (rd_T116 x0_1 x5_1).f1⟩ : S116)) (k116_mkM _ _ _ (⟨t1480, (rd_T116 x0_1 x5_1).f1⟩ : S116) ) (fun _ hk => hk); have hx11_0 := hcc11 0 _ rfl; (try simp only [show (k116).sz = 2 from rfl, Nat.mul_one, Nat.add_zero] at hx11_0); have hf11_0 := hfr11 0; (try simp only [show (k116).sz = 2 from rfl, Nat.mul_one, Nat.add_zero] at hf11_0); clear hcl11 hcc11 hfr11 hM11) | ((with_reducible refine gate_store (t := 9) (p := 17) rfl ?_); refine store_event (t := 9) (p := 17) (v := ?vo_w12) (w1 := (w10.setCell ⟨go6, (x5_1 : Int).toNat * 2, none⟩ (.string t1480))) ?hg ?ho ?hn ?hr ?_; (case ho => rfl); (case hg => rfl); (case hn => rfl); (case hr => first | (go_simp; done) | (go_simp; rfl)); intro w12 hw; have hg : w10.grownBy w12 (some go6) := (by rw [hw]; exact HP11.2); have hp_ : Kd.R k116 116 w12 w0.heap.size (fun k_ => (P0_ k_ ∨ w.heap.size ≤ k_)) (.slice (some ⟨go6, 0, none⟩) x0_1.length co9) y1481 := (by rw [hw, Ny1481.out]; exact HP11.1); clear HP11; have n0_ := am (hp_); have n1_ := am ((by rw [hw]; exact below_set (HB.out) GB6.out : Below w0.heap.size w0 w12)); have n2_ := am (Kept.of_grown (S := (fun k_ => P0_ k_)) hg u121HK (fun k_ e_ => (HO_0.out.1 k_ e_))); clear HO_0; clear HB; clear HK; have HO_0 := n0_; have HB := n1_; have HK := n2_; clear n0_ n1_ n2_; clear hg hw hp_) | ((with_reducible refine gw ?_); refine gl 23 Tryz.func159 #[.int .i64 (wrap64 (x1_1 + 1))] ?_; (with_reducible refine (laws_markText.calls k1 (wrap64 (x1_1 + 1)) t1482 _ A7.out).mono ?_); rintro e w13 ⟨rfl, hb⟩; refine ⟨_, rfl, ?_⟩; replace HO_0 := kr HO_0 hb; replace HK := am (Kept.below (S := (fun k_ => P0_ k_)) u121HK hb); replace HB := am (below_step bl hb); clear hb; have p8 : 0 ≤ (x5_1 : Int) := od; have q8 : (x5_1 : Int) < ((x0_1.length : Int) : Int) := od; obtain ⟨ce8, hcl8, hM8, hcc8, hfr8⟩ := Kd.R_elem HO_0.out z116 (x5_1 : Int) p8 q8; obtain rfl := k116_openM hM8; have hx8_0 : w13.cell? ⟨go6, (x5_1 : Int).toNat * 2, none⟩ = some (.string ((rd_T116 y1481 x5_1).f0)) := hcc8 0 _ rfl; have hx8_1 : w13.cell? ⟨go6, (x5_1 : Int).toNat * 2 + 1, none⟩ = some (.string ((rd_T116 y1481 x5_1).f1)) := hcc8 1 _ rfl; have hf8_0 : w13.frozen? ⟨go6, (x5_1 : Int).toNat * 2, none⟩ = false := hfr8 0; have hf8_1 : w13.frozen? ⟨go6, (x5_1 : Int).toNat * 2 + 1, none⟩ = false := hfr8 1; clear hcl8 hcc8 hfr8 hM8; replace p8 := eq_true p8; replace q8 := eq_true q8; have HX14 := am (show Kd.R k116 116 w13 w0.heap.size (fun k_ => (P0_ k_ ∨ w.heap.size ≤ k_)) (.slice (some ⟨go6, 0, none⟩) x0_1.length co9) y1481 from (ro HO_0)); obtain ⟨ce14, hcl14, hM14, hcc14, hfr14⟩ := Kd.R_elem HX14.out z116 (x5_1 : Int) (od) (by have h_ : (x5_1 : Int) < ((x0_1.length : Int) : Int) := od; first | exact h_ | (have e_ := (Kd.R_reads' HO_0.out).1; omega) | simpa using h_); obtain rfl := k116_openM hM14; have HP14 := Kd.R_seg HX14.out (x5_1 : Int) (od) (by have h_ : (x5_1 : Int) < ((x0_1.length : Int) : Int) := od; first | exact h_ | (have e_ := (Kd.R_reads' HO_0.out).1; omega) | simpa using h_) (seg := [.string t1482]) (j := 1) hcl14 hcc14 (show 2 ≤ 2 from by decide) (x' := (⟨(rd_T116 y1481 x5_1).f0, t1482⟩ : S116)) (k116_mkM _ _ _ (⟨(rd_T116 y1481 x5_1).f0, t1482⟩ : S116) ) (fun _ hk => hk); have hx14_1 := hcc14 1 _ rfl; (try simp only [show (k116).sz = 2 from rfl, Nat.mul_one, Nat.add_zero] at hx14_1); have hf14_1 := hfr14 1; (try simp only [show (k116).sz = 2 from rfl, Nat.mul_one, Nat.add_zero] at hf14_1); clear hcl14 hcc14 hfr14 hM14) | ((with_reducible refine gate_store (t := 9) (p := 25) rfl ?_); refine store_event (t := 9) (p := 25) (v := ?vo_w15) (w1 := (w13.setCell ⟨go6, (x5_1 : Int).toNat * 2 + 1, none⟩ (.string t1482))) ?hg ?ho ?hn ?hr ?_; (case ho => rfl); (case hg => rfl); (case hn => rfl); (case hr => first | (go_simp; done) | (go_simp; rfl)); intro w15 hw; have hg : w13.grownBy w15 (some go6) := (by rw [hw]; exact HP14.2); have hp_ : Kd.R k116 116 w15 w0.heap.size (fun k_ => (P0_ k_ ∨ w.heap.size ≤ k_)) (.slice (some ⟨go6, 0, none⟩) x0_1.length co9) y1483 := (by rw [hw, Ny1483.out]; exact HP14.1); clear HP14; have n0_ := am (hp_); have n1_ := am ((by rw [hw]; exact below_set (HB.out) GB6.out : Below w0.heap.size w0 w15)); have n2_ := am (Kept.of_grown (S := (fun k_ => P0_ k_)) hg u121HK (fun k_ e_ => (HO_0.out.1 k_ e_))); clear HO_0; clear HB; clear HK; have HO_0 := n0_; have HB := n1_; have HK := n2_; clear n0_ n1_ n2_; clear hg hw hp_))
   go_roundg k1
   case measure => have := HK1.out; omega
   case rel => exact ⟨(y1483), (wrap64 ((wrap64 (x1_1 + 1)) + 1)), (wrap64 (x5_1 + 1)), rs, rs, H', ⟨by have := HK1.out; omega⟩, ⟨by (with_reducible repeat (first | apply Kd.R_alloc | apply Kd.R_drewN | apply Kd.R_drew)); exact HO_0.out⟩, ⟨u121HK⟩, ⟨u121HB⟩⟩

/-! ### laws_markResp: function 51 -/
theorem u51HK {p : Prop} (h : p := by repeat (first | (with_reducible first | exact HK.out | apply Kept.alloc | apply Kept.drewN | apply Kept.drew | refine Kept.setCell ?_ (.inr GW1484.out) _) | exact HK.out)) : p := h
theorem u51HB {p : Prop} (h : p := by repeat (first | (with_reducible first | exact HB.out | apply below_alloc | apply pw_below_drewN | apply below_drew1 | refine below_set ?_ GE1484.out) | exact HB.out)) : p := h
def laws_markResp.f (k : Nat) (a0_0 : Int) (l0_1 : List (S116)) (a0_2 : ByteArray) (a1 : Int) : Option (Int × (List (S116))) := (laws_markFieldS.f k l0_1 a1).bind fun bt1485 => (some (bt1485.1, bt1485.2))
theorem laws_markResp.mono : ∀ a0 a1 a2 a3 k, LeO (laws_markResp.f k a0 a1 a2 a3) (laws_markResp.f (k + 1) a0 a1 a2 a3) := by
 intro a0 a1 a2 a3 k
 unfold laws_markResp.f
 have m0 := @laws_markFieldS.mono
 exact mo
set_option maxHeartbeats 8000000 in
set_option maxRecDepth 100000 in
theorem laws_markResp.calls (k : Nat) (a0_0 : Int) (P0_1_ : Nat → Prop) (u9000_ : Value) (l0_1 : List (S116)) (a0_2 : ByteArray) (a1 : Int) (r1 : Int) (r2 : List (S116)) (w0 w : World) (hB : Below w0.heap.size w0 w) (ho0_1 : Kd.R k116 116 w w0.heap.size P0_1_ u9000_ l0_1) (h : laws_markResp.f k a0_0 l0_1 a0_2 a1 = some (r1, r2)) :
  Calls Tryz.prog 51 #[.agg #[.int .i64 a0_0, u9000_, .string a0_2], .int .i64 a1] w fun e w' => e = .returned (.int .i64 r1) ∧ Kd.R k116 116 w' w0.heap.size (fun k_ => (P0_1_ k_ ∨ w.heap.size ≤ k_)) u9000_ r2 ∧ Below w0.heap.size w0 w' ∧ Kept w w' (fun k_ => P0_1_ k_) := by
 have hu29 := Tryz.underlying29
 have HO0_1 := am (show Kd.R k116 116 w w0.heap.size (fun k_ => (P0_1_ k_ ∨ w.heap.size ≤ k_)) u9000_ l0_1 from Kd.R_mono ho0_1 (fun k_ hk => (.inl hk)))
 have HK := am (Kept.refl w (fun k_ => P0_1_ k_))
 have HW0 := am hB.size
 have HB := am hB
 clear hB
 unfold laws_markResp.f at h
 have H := h
 clear h
 revert H
 refine ok2 fun t1485 t1486 A3 H => ?_
 (try dsimp only at H)
 simp only [Option.some.injEq, Prod.mk.injEq] at H
 obtain ⟨rfl, rfl⟩ := H
 obtain ⟨Ao4, co4, eo4⟩ := Kd.R_slice HO0_1.out
 subst eo4
 go_enter Tryz.func51, Tryz.ntmps51
 go_wp2_with ((with_reducible refine gw ?_); first | (refine bx 2 #[.int .i64 a0_0, .slice Ao4 l0_1.length co4, .string a0_2] 29 ?_; intro gb1484 hg w5 hbox hb; have n0_ := am (Kd.R_below (ro HO0_1) hb); have n1_ := am (Kept.below (S := (fun k_ => P0_1_ k_)) u51HK hb); have n2_ := am (below_step bl hb); have n3_ := am (hbox); have n4_ := am ((by rw [hg]; exact (by first | exact HK.out.1 | exact (show Kept w _ (fun k_ => P0_1_ k_) from u51HK).1) : w.heap.size ≤ gb1484)); have n5_ := am ((by rw [hg]; exact (below_size bl) : w0.heap.size ≤ gb1484)); clear HO0_1; clear HK; clear HB; have HO0_1 := n0_; have HK := n1_; have HB := n2_; have BK1484 := n3_; have GW1484 := n4_; have GE1484 := n5_; clear n0_ n1_ n2_ n3_ n4_ n5_; clear hb hbox hg; obtain ⟨z6_0, y6_0, z6_1, y6_1, z6_2, y6_2⟩ := cl3 BK1484) | (refine gl 8 Tryz.func121 #[.slice Ao4 l0_1.length co4, .int .i64 a1] ?_; (with_reducible refine (laws_markFieldS.calls k (fun k_ => some k_ = (.slice Ao4 l0_1.length co4 : Value).ownBlock) (.slice Ao4 l0_1.length co4) l0_1 a1 t1485 t1486 w0 _ ?side1 ?side2 A3.out).mono ?_); (case side1 => exact u51HB); (case side2 => exact Kd.R_tight rfl HO0_1.out); rintro e w7 ⟨rfl, hy0, hb, hkp⟩; refine ⟨_, rfl, ?_⟩; replace BK1484 := am (blk_kept (bk BK1484) hkp (fun hs_ => (fun e_ => (Kd.R_ne HO0_1.out BK1484.out (by decide)) e_) hs_)); replace HK := am (Kept.then_ (S := (fun k_ => P0_1_ k_)) u51HK hkp (fun k_ hs_ => (fun e_ => (HO0_1.out.1 k_ e_.symm)) hs_)); replace HO0_1 := am (Kd.R_reok rfl hy0 (fun k_ e_ => HO0_1.out.1 k_ e_)); replace HB := am (hb); clear hb; (try clear hkp); (try clear hy0)))
 go_ret
 exact ⟨rf, by (with_reducible repeat (first | apply Kd.R_alloc | apply Kd.R_drewN | apply Kd.R_drew)); exact HO0_1.out, u51HB, u51HK⟩

/-! ### laws_markStringS: function 113 -/
theorem u113HK {p : Prop} (h : p := by repeat (first | (with_reducible first | exact HK.out | apply Kept.alloc | apply Kept.drewN | apply Kept.drew) | exact HK.out)) : p := h
theorem u113HB {p : Prop} (h : p := by repeat (first | (with_reducible first | exact HB.out | apply below_alloc | apply pw_below_drewN | apply below_drew1) | exact HB.out)) : p := h
def laws_markStringS.l0 : Nat → List ByteArray → Int → Int → Option (Int × List ByteArray)
 | 0, _, _, _ => none
 | k + 1, x0, x1, x5 => if x5 < (x0.length : Int) then ((laws_markText.f k x1).bind fun t1487 => (if 0 ≤ x5 then (laws_markStringS.l0 k (x0.set (x5 : Int).toNat t1487) (wrap64 (x1 + 1)) (wrap64 (x5 + 1))) else (none))) else (some (x1, x0))
def laws_markStringS.f (k : Nat) (l0 : List ByteArray) (a1 : Int) : Option (Int × List ByteArray) := laws_markStringS.l0 k l0 a1 0
theorem laws_markStringS.mono_l : ∀ k, (∀ y0 y1 y2, LeO (laws_markStringS.l0 k y0 y1 y2) (laws_markStringS.l0 (k + 1) y0 y1 y2))
 | 0 => fun _ _ _ r h => by simp [laws_markStringS.l0] at h
 | k + 1 => by
  have ih0 := laws_markStringS.mono_l k
  ·intro y0 y1 y2
   unfold laws_markStringS.l0
   have m0 := @laws_markText.mono
   exact mo
theorem laws_markStringS.mono : ∀ a0 a1 k, LeO (laws_markStringS.f k a0 a1) (laws_markStringS.f (k + 1) a0 a1) := by
 intro a0 a1 k
 have ih0 := laws_markStringS.mono_l k
 unfold laws_markStringS.f
 have m0 := @laws_markText.mono
 exact mo
set_option maxHeartbeats 8000000 in
set_option maxRecDepth 100000 in
theorem laws_markStringS.calls (k : Nat) (P0_ : Nat → Prop) (u9000_ : Value) (l0 : List ByteArray) (a1 : Int) (r1 : Int) (r2 : List ByteArray) (w0 w : World) (hB : Below w0.heap.size w0 w) (ho0 : Kd.R Kd.string 9 w w0.heap.size P0_ u9000_ l0) (h : laws_markStringS.f k l0 a1 = some (r1, r2)) :
  Calls Tryz.prog 113 #[u9000_, .int .i64 a1] w fun e w' => e = .returned (.int .i64 r1) ∧ Kd.R Kd.string 9 w' w0.heap.size (fun k_ => (P0_ k_ ∨ w.heap.size ≤ k_)) u9000_ r2 ∧ Below w0.heap.size w0 w' ∧ Kept w w' (fun k_ => P0_ k_) := by
 have HO0 := am (show Kd.R Kd.string 9 w w0.heap.size (fun k_ => (P0_ k_ ∨ w.heap.size ≤ k_)) u9000_ l0 from Kd.R_mono ho0 (fun k_ hk => (.inl hk)))
 have HK := am (Kept.refl w (fun k_ => P0_ k_))
 have HW0 := am hB.size
 have HB := am hB
 clear hB
 unfold laws_markStringS.f at h
 have H := h
 clear h
 have H' := am H
 clear H
 go_enter Tryz.func113, Tryz.ntmps113
 go_wp2
 (try simp only [Act.put, List.setIfInBounds_toArray, List.set_cons_zero, List.set_cons_succ])
 go_loopg [1, 5] k (fun kq v1 v5 w' => ∃ (x0_1 : List ByteArray) (x1_1 : Int) (x5_1 : Int), v1 = .int .i64 x1_1 ∧ v5 = .int .i64 x5_1 ∧ Aside0 (laws_markStringS.l0 kq x0_1 x1_1 x5_1 = some (r1, r2)) ∧ Aside0 (kq ≤ k) ∧ Aside0 (Kd.R Kd.string 9 w' w0.heap.size (fun k_ => (P0_ k_ ∨ w.heap.size ≤ k_)) u9000_ x0_1) ∧ Aside0 (Kept w w' (fun k_ => P0_ k_)) ∧ Aside0 (Below w0.heap.size w0 w'))
 case atStart => exact ⟨(l0), (a1), (0), rs, rs, H', ⟨Nat.le_refl _⟩, ⟨by (with_reducible repeat (first | apply Kd.R_alloc | apply Kd.R_drewN | apply Kd.R_drew)); exact HO0.out⟩, ⟨u113HK⟩, ⟨u113HB⟩⟩
 case round =>
  clear H'
  try clear c1
  try clear p2
  obtain ⟨x0_1, x1_1, x5_1, rfl, rfl, HA, HK1, HO_0, HK, HB⟩ := hrel
  cases gk with
  | zero => exact absurd HA.out (by simp [laws_markStringS.l0])
  | succ k1 =>
   have H := HA.out
   clear HA
   simp only [laws_markStringS.l0] at H
   by_cases c3 : x5_1 < (x0_1.length : Int)
   rotate_left
   ·rw [if_neg c3] at H
    have c3b0 := decide_eq_false c3
    clear c3
    simp only [Option.some.injEq, Prod.mk.injEq] at H
    obtain ⟨rfl, rfl⟩ := H
    obtain ⟨Ao11, co11, eo11⟩ := Kd.R_slice HO_0.out
    subst eo11
    go_wp2
    go_ret
    exact ⟨rf, by (with_reducible repeat (first | apply Kd.R_alloc | apply Kd.R_drewN | apply Kd.R_drew)); exact HO_0.out, u113HB, u113HK⟩
   rw [if_pos c3] at H
   have c3b0 := decide_eq_true c3
   clear c3
   revert H
   refine ok1 fun t1487 A4 H => ?_
   revert H
   refine ifn fun c5 H => ?_
   have c5b0 := decide_eq_true c5
   clear c5
   obtain ⟨y1488, hy1488⟩ : ∃ y_ : List ByteArray, y_ = (x0_1.set (x5_1 : Int).toNat t1487) := ⟨_, rfl⟩
   replace H : (laws_markStringS.l0 k1 y1488 (wrap64 (x1_1 + 1)) (wrap64 (x5_1 + 1))) = some (r1, r2) := by first | (rw [hy1488]; with_reducible exact H) | (have H2_ := (Option.bind_some _ _).symm.trans H; rw [hy1488]; with_reducible exact H2_) | (have H2_ := (Option.bind_some _ _).symm.trans H; with_reducible exact H2_) | with_reducible exact H | (rw [hy1488]; exact H) | exact H
   have Ny1488 := am hy1488
   clear hy1488
   have H' := am H
   clear H
   obtain ⟨Ao7, co7, eo7⟩ := Kd.R_slice HO_0.out
   subst eo7
   go_wp2_with (first | ((with_reducible refine gw ?_); first | (refine gl 15 Tryz.func159 #[.int .i64 x1_1] ?_; (with_reducible refine (laws_markText.calls k1 x1_1 t1487 _ A4.out).mono ?_); rintro e w8 ⟨rfl, hb⟩; refine ⟨_, rfl, ?_⟩; replace HO_0 := kr HO_0 hb; replace HK := am (Kept.below (S := (fun k_ => P0_ k_)) u113HK hb); replace HB := am (below_step bl hb); clear hb; have p6 : 0 ≤ (x5_1 : Int) := od; have q6 : (x5_1 : Int) < ((x0_1.length : Int) : Int) := od; obtain ⟨go6, co6, eo6, gb6, gl6, cl6, HG6⟩ := Kd.R_form HO_0.out (by omega); (first | cases eo6 | (injection eo6 with ea_ en_ ec_; (first | subst ea_ | (injection ea_ with ea_; subst ea_)); subst ec_; clear en_)); have GB6 := am gb6; have GG6 := am HG6; clear gb6 gl6 HG6; have HMgo6 := am (show (P0_ go6 ∨ w.heap.size ≤ go6) from (HO_0.out.1 _ rfl)); obtain ⟨hx6_0, hf6_0⟩ := Kd.R_celln (⟨#[]⟩ : ByteArray) HO_0.out (x5_1 : Int) p6 q6; replace p6 := eq_true p6; replace q6 := eq_true q6; obtain ⟨hy9_, hz9_⟩ := Kd.R_celln (⟨#[]⟩ : ByteArray) HO_0.out (x5_1 : Int) (od) (od); have HP9 := Kd.R_putg HO_0.out (x5_1 : Int) t1487)) | ((with_reducible refine gate_store (t := 9) (p := 16) rfl ?_); refine store_event (t := 9) (p := 16) (v := ?vo_w10) (w1 := (w8.setCell ⟨go6, (x5_1 : Int).toNat, none⟩ (.string t1487))) ?hg ?ho ?hn ?hr ?_; (case ho => rfl); (case hg => rfl); (case hn => rfl); (case hr => first | (go_simp; done) | (go_simp; rfl)); intro w10 hw; have hg : w8.grownBy w10 (some go6) := (by rw [hw]; exact HP9.2); have hp_ : Kd.R Kd.string 9 w10 w0.heap.size (fun k_ => (P0_ k_ ∨ w.heap.size ≤ k_)) (.slice (some ⟨go6, 0, none⟩) x0_1.length co7) y1488 := (by rw [hw, Ny1488.out]; exact HP9.1); clear HP9; have n0_ := am (hp_); have n1_ := am ((by rw [hw]; exact below_set (HB.out) GB6.out : Below w0.heap.size w0 w10)); have n2_ := am (Kept.of_grown (S := (fun k_ => P0_ k_)) hg u113HK (fun k_ e_ => (HO_0.out.1 k_ e_))); clear HO_0; clear HB; clear HK; have HO_0 := n0_; have HB := n1_; have HK := n2_; clear n0_ n1_ n2_; clear hg hw hp_))
   go_roundg k1
   case measure => have := HK1.out; omega
   case rel => exact ⟨(y1488), (wrap64 (x1_1 + 1)), (wrap64 (x5_1 + 1)), rs, rs, H', ⟨by have := HK1.out; omega⟩, ⟨by (with_reducible repeat (first | apply Kd.R_alloc | apply Kd.R_drewN | apply Kd.R_drew)); exact HO_0.out⟩, ⟨u113HK⟩, ⟨u113HB⟩⟩

/-! ### laws_markObj: function 40 -/
theorem u40HK {p : Prop} (h : p := by repeat (first | (with_reducible first | exact HK.out | apply Kept.alloc | apply Kept.drewN | apply Kept.drew | refine Kept.setCell ?_ (.inr GW1489.out) _) | exact HK.out)) : p := h
theorem u40HB {p : Prop} (h : p := by repeat (first | (with_reducible first | exact HB.out | apply below_alloc | apply pw_below_drewN | apply below_drew1 | refine below_set ?_ GE1489.out) | exact HB.out)) : p := h
def laws_markObj.f (k : Nat) (a0_0 : ByteArray) (l0_1 : List ByteArray) (l0_2 : List ByteArray) (a0_3 : Int) (l0_4 : List (S116)) (a0_5 : ByteArray) (a0_6 : Int) (a1 : Int) : Option (Int × List ByteArray × List ByteArray × (List (S116))) := (laws_markStringS.f k l0_1 a1).bind fun bt1490 => ((laws_markStringS.f k l0_2 bt1490.1).bind fun bt1492 => ((laws_markResp.f k a0_3 l0_4 a0_5 bt1492.1).bind fun bt1494 => (some (bt1494.1, bt1490.2, bt1492.2, bt1494.2))))
theorem laws_markObj.mono : ∀ a0 a1 a2 a3 a4 a5 a6 a7 k, LeO (laws_markObj.f k a0 a1 a2 a3 a4 a5 a6 a7) (laws_markObj.f (k + 1) a0 a1 a2 a3 a4 a5 a6 a7) := by
 intro a0 a1 a2 a3 a4 a5 a6 a7 k
 unfold laws_markObj.f
 have m0 := @laws_markResp.mono
 have m1 := @laws_markStringS.mono
 exact mo
set_option maxHeartbeats 8000000 in
set_option maxRecDepth 100000 in
theorem laws_markObj.calls (k : Nat) (a0_0 : ByteArray) (P0_1_ : Nat → Prop) (u9000_ : Value) (l0_1 : List ByteArray) (P0_2_ : Nat → Prop) (u9001_ : Value) (l0_2 : List ByteArray) (a0_3 : Int) (P0_4_ : Nat → Prop) (u9002_ : Value) (l0_4 : List (S116)) (a0_5 : ByteArray) (a0_6 : Int) (a1 : Int) (r1 : Int) (r2 : List ByteArray) (r3 : List ByteArray) (r4 : List (S116)) (w0 w : World) (hB : Below w0.heap.size w0 w) (ho0_1 : Kd.R Kd.string 9 w w0.heap.size P0_1_ u9000_ l0_1) (hp0_1_0_2 : ∀ k_, P0_1_ k_ → ¬ P0_2_ k_) (ho0_2 : Kd.R Kd.string 9 w w0.heap.size P0_2_ u9001_ l0_2) (hp0_2_0_1 : ∀ k_, P0_2_ k_ → ¬ P0_1_ k_) (ho0_4 : Kd.R k116 116 w w0.heap.size P0_4_ u9002_ l0_4) (h : laws_markObj.f k a0_0 l0_1 l0_2 a0_3 l0_4 a0_5 a0_6 a1 = some (r1, r2, r3, r4)) :
  Calls Tryz.prog 40 #[.agg #[.string a0_0, u9000_, u9001_, .int .i64 a0_3, u9002_, .string a0_5, .int .i64 a0_6], .int .i64 a1] w fun e w' => e = .returned (.int .i64 r1) ∧ Kd.R Kd.string 9 w' w0.heap.size (fun k_ => ((P0_1_ k_ ∨ P0_2_ k_ ∨ P0_4_ k_) ∨ w.heap.size ≤ k_)) u9000_ r2 ∧ Kd.R Kd.string 9 w' w0.heap.size (fun k_ => ((P0_1_ k_ ∨ P0_2_ k_ ∨ P0_4_ k_) ∨ w.heap.size ≤ k_)) u9001_ r3 ∧ Kd.R k116 116 w' w0.heap.size (fun k_ => ((P0_1_ k_ ∨ P0_2_ k_ ∨ P0_4_ k_) ∨ w.heap.size ≤ k_)) u9002_ r4 ∧ Below w0.heap.size w0 w' ∧ Kept w w' (fun k_ => P0_1_ k_ ∨ P0_2_ k_ ∨ P0_4_ k_) := by
 have hu31 := Tryz.underlying31
 have hu29 := Tryz.underlying29
 have HO0_1 := am (show Kd.R Kd.string 9 w w0.heap.size (fun k_ => ((P0_1_ k_ ∨ P0_2_ k_ ∨ P0_4_ k_) ∨ w.heap.size ≤ k_) ∧ some k_ ≠ (u9001_ : Value).ownBlock) u9000_ l0_1 from Kd.R_mono ho0_1 (fun k_ hk => ⟨(.inl (.inl hk)), fun e_ => hp0_1_0_2 k_ hk (ho0_2.1 k_ e_.symm)⟩))
 have HO0_2 := am (show Kd.R Kd.string 9 w w0.heap.size (fun k_ => ((P0_1_ k_ ∨ P0_2_ k_ ∨ P0_4_ k_) ∨ w.heap.size ≤ k_) ∧ some k_ ≠ (u9000_ : Value).ownBlock) u9001_ l0_2 from Kd.R_mono ho0_2 (fun k_ hk => ⟨(.inl (.inr (.inl hk))), fun e_ => hp0_2_0_1 k_ hk (ho0_1.1 k_ e_.symm)⟩))
 have HO0_4 := am (show Kd.R k116 116 w w0.heap.size (fun k_ => ((P0_1_ k_ ∨ P0_2_ k_ ∨ P0_4_ k_) ∨ w.heap.size ≤ k_)) u9002_ l0_4 from Kd.R_mono ho0_4 (fun k_ hk => (.inl (.inr (.inr hk)))))
 have HK := am (Kept.refl w (fun k_ => P0_1_ k_ ∨ P0_2_ k_ ∨ P0_4_ k_))
 have HW0 := am hB.size
 have HB := am hB
 clear hB
 unfold laws_markObj.f at h
 have H := h
 clear h
 revert H
 refine ok2 fun t1490 t1491 A3 H => ?_
 (try dsimp only at H)
 revert H
 refine ok2 fun t1492 t1493 A4 H => ?_
 (try dsimp only at H)
 revert H
 refine ok2 fun t1494 t1495 A5 H => ?_
 (try dsimp only at H)
 simp only [Option.some.injEq, Prod.mk.injEq] at H
 obtain ⟨rfl, rfl, rfl, rfl⟩ := H
 obtain ⟨Ao6, co6, eo6⟩ := Kd.R_slice HO0_1.out
 subst eo6
 obtain ⟨Ao7, co7, eo7⟩ := Kd.R_slice HO0_2.out
 subst eo7
 obtain ⟨Ao8, co8, eo8⟩ := Kd.R_slice HO0_4.out
 subst eo8
 go_enter Tryz.func40, Tryz.ntmps40
 go_wp2_with ((with_reducible refine gw ?_); first | (refine bx 2 #[.string a0_0, .slice Ao6 l0_1.length co6, .slice Ao7 l0_2.length co7, .int .i64 a0_3, .slice Ao8 l0_4.length co8, .string a0_5, .int .i64 a0_6] 31 ?_; intro gb1489 hg w9 hbox hb; have n0_ := am (Kd.R_below (ro HO0_1) hb); have n1_ := am (Kd.R_below (ro HO0_2) hb); have n2_ := am (Kd.R_below (ro HO0_4) hb); have n3_ := am (Kept.below (S := (fun k_ => P0_1_ k_ ∨ P0_2_ k_ ∨ P0_4_ k_)) u40HK hb); have n4_ := am (below_step bl hb); have n5_ := am (hbox); have n6_ := am ((by rw [hg]; exact (by first | exact HK.out.1 | exact (show Kept w _ (fun k_ => P0_1_ k_ ∨ P0_2_ k_ ∨ P0_4_ k_) from u40HK).1) : w.heap.size ≤ gb1489)); have n7_ := am ((by rw [hg]; exact (below_size bl) : w0.heap.size ≤ gb1489)); clear HO0_1; clear HO0_2; clear HO0_4; clear HK; clear HB; have HO0_1 := n0_; have HO0_2 := n1_; have HO0_4 := n2_; have HK := n3_; have HB := n4_; have BK1489 := n5_; have GW1489 := n6_; have GE1489 := n7_; clear n0_ n1_ n2_ n3_ n4_ n5_ n6_ n7_; clear hb hbox hg; obtain ⟨z10_0, y10_0, z10_1, y10_1, z10_2, y10_2, z10_3, y10_3, z10_4, y10_4, z10_5, y10_5, z10_6, y10_6⟩ := cl7 BK1489) | (refine gl 8 Tryz.func113 #[.slice Ao6 l0_1.length co6, .int .i64 a1] ?_; (with_reducible refine (laws_markStringS.calls k (fun k_ => some k_ = (.slice Ao6 l0_1.length co6 : Value).ownBlock) (.slice Ao6 l0_1.length co6) l0_1 a1 t1490 t1491 w0 _ ?side1 ?side2 A3.out).mono ?_); (case side1 => exact u40HB); (case side2 => exact Kd.R_tight rfl HO0_1.out); rintro e w11 ⟨rfl, hy0, hb, hkp⟩; refine ⟨_, rfl, ?_⟩; replace HO0_2 := am (Kd.R_mono (ok' := fun k_ => ((P0_1_ k_ ∨ P0_2_ k_ ∨ P0_4_ k_) ∨ w.heap.size ≤ k_) ∧ some k_ ≠ (.slice Ao6 l0_1.length co6 : Value).ownBlock) (Kd.R_keptB (HO0_2.out) hkp (fun k_ hk_ hs_ => (hk_.2) hs_)) (fun k_ hk_ => ⟨hk_.1.1, hk_.1.2⟩)); replace HO0_4 := am (Kd.R_mono (ok' := fun k_ => ((P0_1_ k_ ∨ P0_2_ k_ ∨ P0_4_ k_) ∨ w.heap.size ≤ k_)) (Kd.R_keptB ((Kd.R_apart' HO0_4.out (Kd.R_typed HO0_1.out) (by decide))) hkp (fun k_ hk_ hs_ => (hk_.2) hs_)) (fun k_ hk_ => hk_.1.1)); replace BK1489 := am (blk_kept (bk BK1489) hkp (fun hs_ => (fun e_ => (Kd.R_ne HO0_1.out BK1489.out (by decide)) e_) hs_)); replace HK := am (Kept.then_ (S := (fun k_ => P0_1_ k_ ∨ P0_2_ k_ ∨ P0_4_ k_)) u40HK hkp (fun k_ hs_ => (fun e_ => (HO0_1.out.1 k_ e_.symm).1) hs_)); replace HO0_1 := am (Kd.R_reok rfl hy0 (fun k_ e_ => HO0_1.out.1 k_ e_)); replace HB := am (hb); clear hb; (try clear hkp); (try clear hy0); obtain ⟨z12_0, y12_0, z12_1, y12_1, z12_2, y12_2, z12_3, y12_3, z12_4, y12_4, z12_5, y12_5, z12_6, y12_6⟩ := cl7 BK1489) | (refine gl 12 Tryz.func113 #[.slice Ao7 l0_2.length co7, .int .i64 t1490] ?_; (with_reducible refine (laws_markStringS.calls k (fun k_ => some k_ = (.slice Ao7 l0_2.length co7 : Value).ownBlock) (.slice Ao7 l0_2.length co7) l0_2 t1490 t1492 t1493 w0 _ ?side1 ?side2 A4.out).mono ?_); (case side1 => exact u40HB); (case side2 => exact Kd.R_tight rfl HO0_2.out); rintro e w13 ⟨rfl, hy0, hb, hkp⟩; refine ⟨_, rfl, ?_⟩; replace HO0_1 := am (Kd.R_mono (ok' := fun k_ => ((P0_1_ k_ ∨ P0_2_ k_ ∨ P0_4_ k_) ∨ w.heap.size ≤ k_) ∧ some k_ ≠ (.slice Ao7 l0_2.length co7 : Value).ownBlock) (Kd.R_keptB (HO0_1.out) hkp (fun k_ hk_ hs_ => (hk_.2) hs_)) (fun k_ hk_ => ⟨hk_.1.1, hk_.1.2⟩)); replace HO0_4 := am (Kd.R_mono (ok' := fun k_ => ((P0_1_ k_ ∨ P0_2_ k_ ∨ P0_4_ k_) ∨ w.heap.size ≤ k_)) (Kd.R_keptB ((Kd.R_apart' HO0_4.out (Kd.R_typed HO0_2.out) (by decide))) hkp (fun k_ hk_ hs_ => (hk_.2) hs_)) (fun k_ hk_ => hk_.1.1)); replace BK1489 := am (blk_kept (bk BK1489) hkp (fun hs_ => (fun e_ => (Kd.R_ne HO0_2.out BK1489.out (by decide)) e_) hs_)); replace HK := am (Kept.then_ (S := (fun k_ => P0_1_ k_ ∨ P0_2_ k_ ∨ P0_4_ k_)) u40HK hkp (fun k_ hs_ => (fun e_ => (HO0_2.out.1 k_ e_.symm).1) hs_)); replace HO0_2 := am (Kd.R_reok rfl hy0 (fun k_ e_ => HO0_2.out.1 k_ e_)); replace HB := am (hb); clear hb; (try clear hkp); (try clear hy0); obtain ⟨z14_0, y14_0, z14_1, y14_1, z14_2, y14_2, z14_3, y14_3, z14_4, y14_4, z14_5, y14_5, z14_6, y14_6⟩ := cl7 BK1489) | (refine gl 16 Tryz.func51 #[.agg #[.int .i64 a0_3, .slice Ao8 l0_4.length co8, .string a0_5], .int .i64 t1492] ?_; (with_reducible refine (laws_markResp.calls k a0_3 (fun k_ => some k_ = (.slice Ao8 l0_4.length co8 : Value).ownBlock) (.slice Ao8 l0_4.length co8) l0_4 a0_5 t1492 t1494 t1495 w0 _ ?side1 ?side2 A5.out).mono ?_); (case side1 => exact u40HB); (case side2 => exact Kd.R_tight rfl HO0_4.out); rintro e w15 ⟨rfl, hy0, hb, hkp⟩; refine ⟨_, rfl, ?_⟩; replace HO0_1 := am (Kd.R_mono (ok' := fun k_ => ((P0_1_ k_ ∨ P0_2_ k_ ∨ P0_4_ k_) ∨ w.heap.size ≤ k_) ∧ some k_ ≠ (.slice Ao7 l0_2.length co7 : Value).ownBlock) (Kd.R_keptB ((Kd.R_apart' HO0_1.out (Kd.R_typed HO0_4.out) (by decide))) hkp (fun k_ hk_ hs_ => (hk_.2) hs_)) (fun k_ hk_ => ⟨hk_.1.1.1, hk_.1.1.2⟩)); replace HO0_2 := am (Kd.R_mono (ok' := fun k_ => ((P0_1_ k_ ∨ P0_2_ k_ ∨ P0_4_ k_) ∨ w.heap.size ≤ k_) ∧ some k_ ≠ (.slice Ao6 l0_1.length co6 : Value).ownBlock) (Kd.R_keptB ((Kd.R_apart' HO0_2.out (Kd.R_typed HO0_4.out) (by decide))) hkp (fun k_ hk_ hs_ => (hk_.2) hs_)) (fun k_ hk_ => ⟨hk_.1.1.1, hk_.1.1.2⟩)); replace BK1489 := am (blk_kept (bk BK1489) hkp (fun hs_ => (fun e_ => (Kd.R_ne HO0_4.out BK1489.out (by decide)) e_) hs_)); replace HK := am (Kept.then_ (S := (fun k_ => P0_1_ k_ ∨ P0_2_ k_ ∨ P0_4_ k_)) u40HK hkp (fun k_ hs_ => (fun e_ => (HO0_4.out.1 k_ e_.symm)) hs_)); replace HO0_4 := am (Kd.R_reok rfl hy0 (fun k_ e_ => HO0_4.out.1 k_ e_)); replace HB := am (hb); clear hb; (try clear hkp); (try clear hy0)))
 go_ret
 exact ⟨rf, by (with_reducible repeat (first | apply Kd.R_alloc | apply Kd.R_drewN | apply Kd.R_drew)); exact Kd.R_mono HO0_1.out (fun _ hk => hk.1), by (with_reducible repeat (first | apply Kd.R_alloc | apply Kd.R_drewN | apply Kd.R_drew)); exact Kd.R_mono HO0_2.out (fun _ hk => hk.1), by (with_reducible repeat (first | apply Kd.R_alloc | apply Kd.R_drewN | apply Kd.R_drew)); exact HO0_4.out, u40HB, u40HK⟩

/-! ### laws_heldStringS: function 114 -/
theorem u114HB {p : Prop} (h : p := by repeat (first | (with_reducible first | exact HB.out | apply below_alloc | apply pw_below_drewN | apply below_drew1) | exact HB.out)) : p := h
def laws_heldStringS.l0 : Nat → List ByteArray → Int → Int → Option (Int)
 | 0, _, _, _ => none
 | k + 1, x0, x1, x5 => if x5 < (x0.length : Int) then (if 0 ≤ x5 then ((laws_markText.f k x1).bind fun t1497 => (if (rdOf ByteArray.empty x0 x5).toList = t1497.toList then (laws_heldStringS.l0 k x0 (wrap64 (x1 + 1)) (wrap64 (x5 + 1))) else (some (-1)))) else (none)) else (some x1)
def laws_heldStringS.f (k : Nat) (l0 : List ByteArray) (a1 : Int) : Option (Int) := laws_heldStringS.l0 k l0 a1 0
theorem laws_heldStringS.mono_l : ∀ k, (∀ y0 y1 y2, LeO (laws_heldStringS.l0 k y0 y1 y2) (laws_heldStringS.l0 (k + 1) y0 y1 y2))
 | 0 => fun _ _ _ r h => by simp [laws_heldStringS.l0] at h
 | k + 1 => by
  have ih0 := laws_heldStringS.mono_l k
  ·intro y0 y1 y2
   unfold laws_heldStringS.l0
   have m0 := @laws_markText.mono
   exact mo
theorem laws_heldStringS.mono : ∀ a0 a1 k, LeO (laws_heldStringS.f k a0 a1) (laws_heldStringS.f (k + 1) a0 a1) := by
 intro a0 a1 k
 have ih0 := laws_heldStringS.mono_l k
 unfold laws_heldStringS.f
 have m0 := @laws_markText.mono
 exact mo
set_option maxHeartbeats 8000000 in
set_option maxRecDepth 100000 in
theorem laws_heldStringS.calls (k : Nat) (A0 : Option Addr) (c0 : Nat) (l0 : List ByteArray) (a1 : Int) (r : Int) (w : World) (hr0 : Kd.C Kd.string w A0 l0.length l0) (hc0 : l0.length ≤ c0) (h : laws_heldStringS.f k l0 a1 = some r) :
  Calls Tryz.prog 114 #[.slice A0 l0.length c0, .int .i64 a1] w fun e w' => e = .returned (.int .i64 r) ∧ Below w.heap.size w w' := by
 have HR0 := am hr0
 have HC0 := am hc0
 clear hr0 hc0
 have HB := am (Below.refl w.heap.size w)
 unfold laws_heldStringS.f at h
 have H := h
 clear h
 have H' := am H
 clear H
 go_enter Tryz.func114, Tryz.ntmps114
 go_wp2
 (try simp only [Act.put, List.setIfInBounds_toArray, List.set_cons_zero, List.set_cons_succ])
 go_loopg [1, 5] k (fun kq v1 v5 w' => ∃ (x1_1 : Int) (x5_1 : Int), v1 = .int .i64 x1_1 ∧ v5 = .int .i64 x5_1 ∧ Aside0 (laws_heldStringS.l0 kq l0 x1_1 x5_1 = some r) ∧ Aside0 (kq ≤ k) ∧ Aside0 (Below w.heap.size w w'))
 case atStart => exact ⟨(a1), (0), rs, rs, H', ⟨Nat.le_refl _⟩, ⟨u114HB⟩⟩
 case round =>
  clear H'
  try clear c1
  try clear p2
  obtain ⟨x1_1, x5_1, rfl, rfl, HA, HK1, HB⟩ := hrel
  cases gk with
  | zero => exact absurd HA.out (by simp [laws_heldStringS.l0])
  | succ k1 =>
   have H := HA.out
   clear HA
   simp only [laws_heldStringS.l0] at H
   by_cases c3 : x5_1 < (l0.length : Int)
   rotate_left
   ·rw [if_neg c3] at H
    have c3b0 := decide_eq_false c3
    clear c3
    obtain rfl := Option.some.inj H
    go_wp2
    go_ret
    exact ⟨rf, bl⟩
   rw [if_pos c3] at H
   have c3b0 := decide_eq_true c3
   clear c3
   revert H
   refine ifn fun c4 H => ?_
   have c4b0 := decide_eq_true c4
   clear c4
   revert H
   refine ok1 fun t1497 A5 H => ?_
   have HH6 := am H
   clear H
   try go_wp2
   replace HB := am (below_drew1 HB.out)
   have p1496 : 0 ≤ (x5_1 : Int) := od
   have q1496 : x5_1 < (l0.length : Int) := od
   obtain ⟨ad1496, e1496, hx1496_0⟩ := Kd.at_string HR0.out x5_1 p1496 q1496
   have hw1496_0 := hx1496_0
   cases e1496
   replace hx1496_0 := hcw hx1496_0
   replace p1496 := eq_true p1496
   replace q1496 := eq_true q1496
   refine start_ (n := 7) (S := fun w' => w'.cell? (ad1496.add (x5_1).toNat) = some (.string (rdOf ByteArray.empty l0 x5_1))) (ds := []) ⟨br true [0, 7]⟩ (by kernel_rfl) rfl (by kernel_rfl) ((hcw hw1496_0)) (fun hHeld => ?_)
   generalize wr.drew = w7 at HB hx1496_0 hHeld ⊢
   refine pu 0 12 [1, 6] ?_
   refine pu 1 13 [2, 5] ?_
   refine pu 2 14 [3, 4] ?_
   refine pu 4 16 [3, 1, 1, 2] ?_
   refine take_ (i := 3) (N := some 15) (v := ?_) (a' := ?_) #[true, true, true, true, true, false, false] rfl rfl (by kernel_rfl) (fun _ _ _ h => h) (Or.inl ⟨by rfl, ?_⟩) hHeld ?_ ?_
   rotate_left
   ·intro w' s0
    go_simp
    with_reducible rfl
   rotate_left
   ·simp only [Act.put, List.setIfInBounds_toArray, List.set_cons_zero, List.set_cons_succ, i64_w, i32_w]
    rfl
   refine og 5 17 [6, 1] Tryz.func159 #[.int .i64 x1_1] (fun K hK => ?_)
   with_reducible refine (laws_markText.calls k1 x1_1 t1497 _ A5.out).mono ?_
   rintro e w8 ⟨rfl, hb⟩
   refine ⟨_, rfl, ?_⟩
   replace HB := am (below_step bl hb)
   clear hb
   refine hK.out _ _ ((hcw hw1496_0)) (fun hHeld => ?_)
   clear hK K
   refine nm 17 ?_
   refine pu 6 18 [7] ?_
   refine done_ (by kernel_rfl) ?_
   go_upto_if 18 with (fail)
   have H := HH6.out
   clear HH6
   by_cases c9 : (rdOf ByteArray.empty l0 x5_1).toList = t1497.toList
   rotate_left
   ·rw [if_neg c9] at H
    have c9b0 : ((rdOf ByteArray.empty l0 x5_1).toList == t1497.toList) = false := beq_eq_false_iff_ne.mpr c9
    have c9b1 : ((rdOf ByteArray.empty l0 x5_1).toList != t1497.toList) = true := bne_iff_ne.mpr c9
    (first | rw [c9b0] | (simp only [i64_w, i32_w]; rw [c9b0]) | skip)
    obtain rfl := Option.some.inj H
    go_wp2
    go_ret
    exact ⟨rf, bl⟩
   rw [if_pos c9] at H
   have c9b0 : ((rdOf ByteArray.empty l0 x5_1).toList == t1497.toList) = true := beq_iff_eq.mpr c9
   have c9b1 : ((rdOf ByteArray.empty l0 x5_1).toList != t1497.toList) = false := bne_eq_false_iff_eq.mpr c9
   clear c9
   (first | rw [c9b0] | (simp only [i64_w, i32_w]; rw [c9b0]) | skip)
   have H' := am H
   clear H
   go_wp2
   go_roundg k1
   case measure => have := HK1.out; omega
   case rel => exact ⟨(wrap64 (x1_1 + 1)), (wrap64 (x5_1 + 1)), rs, rs, H', ⟨by have := HK1.out; omega⟩, ⟨u114HB⟩⟩

/-! ### laws_heldFieldS: function 160 -/
theorem u160HB {p : Prop} (h : p := by repeat (first | (with_reducible first | exact HB.out | apply below_alloc | apply pw_below_drewN | apply below_drew1) | exact HB.out)) : p := h
def laws_heldFieldS.l0 : Nat → List (S116) → Int → Int → Option (Int)
 | 0, _, _, _ => none
 | k + 1, x0, x1, x5 => if x5 < (x0.length : Int) then (if 0 ≤ x5 then ((laws_markText.f k x1).bind fun t1499 => (if ((rd_T116 x0 x5).f0).toList = t1499.toList then ((laws_markText.f k (wrap64 (x1 + 1))).bind fun t1501 => (if ((rd_T116 x0 x5).f1).toList = t1501.toList then (laws_heldFieldS.l0 k x0 (wrap64 ((wrap64 (x1 + 1)) + 1)) (wrap64 (x5 + 1))) else (some (-1)))) else (some (-1)))) else (none)) else (some x1)
def laws_heldFieldS.f (k : Nat) (l0 : List (S116)) (a1 : Int) : Option (Int) := laws_heldFieldS.l0 k l0 a1 0
theorem laws_heldFieldS.mono_l : ∀ k, (∀ y0 y1 y2, LeO (laws_heldFieldS.l0 k y0 y1 y2) (laws_heldFieldS.l0 (k + 1) y0 y1 y2))
 | 0 => fun _ _ _ r h => by simp [laws_heldFieldS.l0] at h
 | k + 1 => by
  have ih0 := laws_heldFieldS.mono_l k
  ·intro y0 y1 y2
   unfold laws_heldFieldS.l0
   have m0 := @laws_markText.mono
   exact mo
theorem laws_heldFieldS.mono : ∀ a0 a1 k, LeO (laws_heldFieldS.f k a0 a1) (laws_heldFieldS.f (k + 1) a0 a1) := by
 intro a0 a1 k
 have ih0 := laws_heldFieldS.mono_l k
 unfold laws_heldFieldS.f
 have m0 := @laws_markText.mono
 exact mo
def laws_heldFieldS.T4 : Bool × List (List Nat × List Nat) := (true, [([], []), ([], []), ([0, 1], [0, 1]), ([2], [2]), ([3], [3]), ([], []), ([5], [5]), ([4, 6], [4, 6])])
def laws_heldFieldS.B4 : List Nat := [0, 0, 3, 7, 15, 0, 32, 127]
theorem laws_heldFieldS.tab4 : rtab .any (opsOf Tryz.f160 4) = laws_heldFieldS.T4 := by kernel_rfl
theorem laws_heldFieldS.bits4 : waitsOk laws_heldFieldS.T4.2 laws_heldFieldS.B4 = true := by kernel_rfl
def laws_heldFieldS.T7 : Bool × List (List Nat × List Nat) := (true, [([], []), ([], []), ([0, 1], [0, 1]), ([2], [2]), ([3], [3]), ([], []), ([5], [5]), ([4, 6], [4, 6])])
def laws_heldFieldS.B7 : List Nat := [0, 0, 3, 7, 15, 0, 32, 127]
theorem laws_heldFieldS.tab7 : rtab .any (opsOf Tryz.f160 7) = laws_heldFieldS.T7 := by kernel_rfl
theorem laws_heldFieldS.bits7 : waitsOk laws_heldFieldS.T7.2 laws_heldFieldS.B7 = true := by kernel_rfl
set_option maxHeartbeats 8000000 in
set_option maxRecDepth 100000 in
theorem laws_heldFieldS.calls (k : Nat) (A0 : Option Addr) (c0 : Nat) (l0 : List (S116)) (a1 : Int) (r : Int) (w : World) (hr0 : Kd.C k116 w A0 l0.length l0) (hc0 : l0.length ≤ c0) (h : laws_heldFieldS.f k l0 a1 = some r) :
  Calls Tryz.prog 160 #[.slice A0 l0.length c0, .int .i64 a1] w fun e w' => e = .returned (.int .i64 r) ∧ Below w.heap.size w w' := by
 have HR0 := am hr0
 have HC0 := am hc0
 clear hr0 hc0
 have HB := am (Below.refl w.heap.size w)
 unfold laws_heldFieldS.f at h
 have H := h
 clear h
 have H' := am H
 clear H
 go_enter Tryz.func160, Tryz.ntmps160
 go_wp2
 (try simp only [Act.put, List.setIfInBounds_toArray, List.set_cons_zero, List.set_cons_succ])
 go_loopg [1, 5] k (fun kq v1 v5 w' => ∃ (x1_1 : Int) (x5_1 : Int), v1 = .int .i64 x1_1 ∧ v5 = .int .i64 x5_1 ∧ Aside0 (laws_heldFieldS.l0 kq l0 x1_1 x5_1 = some r) ∧ Aside0 (kq ≤ k) ∧ Aside0 (Below w.heap.size w w'))
 case atStart => exact ⟨(a1), (0), rs, rs, H', ⟨Nat.le_refl _⟩, ⟨u160HB⟩⟩
 case round =>
  clear H'
  try clear c1
  try clear p2
  obtain ⟨x1_1, x5_1, rfl, rfl, HA, HK1, HB⟩ := hrel
  cases gk with
  | zero => exact absurd HA.out (by simp [laws_heldFieldS.l0])
  | succ k1 =>
   have H := HA.out
   clear HA
   simp only [laws_heldFieldS.l0] at H
   by_cases c3 : x5_1 < (l0.length : Int)
   rotate_left
   ·rw [if_neg c3] at H
    have c3b0 := decide_eq_false c3
    clear c3
    obtain rfl := Option.some.inj H
    go_wp2
    go_ret
    exact ⟨rf, bl⟩
   rw [if_pos c3] at H
   have c3b0 := decide_eq_true c3
   clear c3
   revert H
   refine ifn fun c4 H => ?_
   have c4b0 := decide_eq_true c4
   clear c4
   revert H
   refine ok1 fun t1499 A5 H => ?_
   have HH6 := am H
   clear H
   try go_wp2
   replace HB := am (below_drew1 HB.out)
   have p1498 : 0 ≤ (x5_1 : Int) := od
   have q1498 : x5_1 < (l0.length : Int) := od
   obtain ⟨ad1498, e1498, hx1498_0, hx1498_1⟩ := at_T116 HR0.out x5_1 p1498 q1498
   have hw1498_1 := hx1498_1
   have hw1498_0 := hx1498_0
   cases e1498
   replace hx1498_0 := hcw hx1498_0
   replace hx1498_1 := hcw hx1498_1
   replace p1498 := eq_true p1498
   replace q1498 := eq_true q1498
   refine start_ (n := 8) (S := fun w' => w'.cell? (ad1498.add ((x5_1).toNat * 2)) = some (.string ((rd_T116 l0 x5_1).f0)) ∧ w'.cell? ⟨(ad1498.add ((x5_1).toNat * 2)).block, (ad1498.add ((x5_1).toNat * 2)).off + 1, none⟩ = some (.string ((rd_T116 l0 x5_1).f1))) (ds := []) ⟨br true [0, 8]⟩ (by kernel_rfl) rfl (by kernel_rfl) ⟨(hcw hw1498_0), (hcw hw1498_1)⟩ (fun hHeld => ?_); refine with_tabW laws_heldFieldS.tab4 laws_heldFieldS.bits4 (fun HT_ HW_ => ?_)
   generalize wr.drew = w7 at HB hx1498_0 hx1498_1 hHeld ⊢
   refine pu 0 12 [1, 7] ?_
   refine pu 1 13 [2, 6] ?_
   refine pu 2 14 [3, 5] ?_
   refine pu 3 15 [4, 4] ?_
   refine pu 5 17 [4, 1, 1, 2] ?_
   refine tk 4 16 [6, 2] ?_
   refine og 6 18 [7, 1] Tryz.func159 #[.int .i64 x1_1] (fun K hK => ?_)
   with_reducible refine (laws_markText.calls k1 x1_1 t1499 _ A5.out).mono ?_
   rintro e w8 ⟨rfl, hb⟩
   refine ⟨_, rfl, ?_⟩
   replace HB := am (below_step bl hb)
   clear hb
   refine hK.out _ _ ⟨(hcw hw1498_0), (hcw hw1498_1)⟩ (fun hHeld => ?_)
   clear hK K
   refine nm 18 ?_
   refine pu 7 19 [8] ?_
   refine done_ (done_of HT_.out (by kernel_rfl)) ?_
   go_upto_if 19 with (fail)
   have H := HH6.out
   clear HH6
   by_cases c9 : ((rd_T116 l0 x5_1).f0).toList = t1499.toList
   rotate_left
   ·rw [if_neg c9] at H
    have c9b0 : (((rd_T116 l0 x5_1).f0).toList == t1499.toList) = false := beq_eq_false_iff_ne.mpr c9
    have c9b1 : (((rd_T116 l0 x5_1).f0).toList != t1499.toList) = true := bne_iff_ne.mpr c9
    (first | rw [c9b0] | (simp only [i64_w, i32_w]; rw [c9b0]) | skip)
    obtain rfl := Option.some.inj H
    go_wp2
    go_ret
    exact ⟨rf, bl⟩
   rw [if_pos c9] at H
   have c9b0 : (((rd_T116 l0 x5_1).f0).toList == t1499.toList) = true := beq_iff_eq.mpr c9
   have c9b1 : (((rd_T116 l0 x5_1).f0).toList != t1499.toList) = false := bne_eq_false_iff_eq.mpr c9
   clear c9
   (first | rw [c9b0] | (simp only [i64_w, i32_w]; rw [c9b0]) | skip)
   revert H
   refine ok1 fun t1501 A10 H => ?_
   have HH11 := am H
   clear H
   try go_wp2
   replace HB := am (below_drew1 HB.out)
   have p1500 : 0 ≤ (x5_1 : Int) := od
   have q1500 : x5_1 < (l0.length : Int) := od
   obtain ⟨ad1500, e1500, hx1500_0, hx1500_1⟩ := at_T116 HR0.out x5_1 p1500 q1500
   have hw1500_1 := hx1500_1
   have hw1500_0 := hx1500_0
   obtain rfl : ad1498 = ad1500 := (by injection e1500)
   replace hx1500_0 := hcw hx1500_0
   replace hx1500_1 := hcw hx1500_1
   replace p1500 := eq_true p1500
   replace q1500 := eq_true q1500
   refine start_ (n := 8) (S := fun w' => w'.cell? (ad1498.add ((x5_1).toNat * 2)) = some (.string ((rd_T116 l0 x5_1).f0)) ∧ w'.cell? ⟨(ad1498.add ((x5_1).toNat * 2)).block, (ad1498.add ((x5_1).toNat * 2)).off + 1, none⟩ = some (.string ((rd_T116 l0 x5_1).f1))) (ds := []) ⟨br true [0, 8]⟩ (by kernel_rfl) rfl (by kernel_rfl) ⟨(hcw hw1500_0), (hcw hw1500_1)⟩ (fun hHeld => ?_); refine with_tabW laws_heldFieldS.tab7 laws_heldFieldS.bits7 (fun HT_ HW_ => ?_)
   generalize w8.drew = w12 at HB hx1500_0 hx1500_1 hHeld ⊢
   refine pu 0 22 [1, 7] ?_
   refine pu 1 23 [2, 6] ?_
   refine pu 2 24 [3, 5] ?_
   refine pu 3 25 [4, 4] ?_
   refine pu 5 27 [4, 1, 1, 2] ?_
   refine tk 4 26 [6, 2] ?_
   refine og 6 28 [7, 1] Tryz.func159 #[.int .i64 (wrap64 (x1_1 + 1))] (fun K hK => ?_)
   with_reducible refine (laws_markText.calls k1 (wrap64 (x1_1 + 1)) t1501 _ A10.out).mono ?_
   rintro e w13 ⟨rfl, hb⟩
   refine ⟨_, rfl, ?_⟩
   replace HB := am (below_step bl hb)
   clear hb
   refine hK.out _ _ ⟨(hcw hw1500_0), (hcw hw1500_1)⟩ (fun hHeld => ?_)
   clear hK K
   refine nm 28 ?_
   refine pu 7 29 [8] ?_
   refine done_ (done_of HT_.out (by kernel_rfl)) ?_
   go_upto_if 29 with (fail)
   have H := HH11.out
   clear HH11
   by_cases c14 : ((rd_T116 l0 x5_1).f1).toList = t1501.toList
   rotate_left
   ·rw [if_neg c14] at H
    have c14b0 : (((rd_T116 l0 x5_1).f1).toList == t1501.toList) = false := beq_eq_false_iff_ne.mpr c14
    have c14b1 : (((rd_T116 l0 x5_1).f1).toList != t1501.toList) = true := bne_iff_ne.mpr c14
    (first | rw [c14b0] | (simp only [i64_w, i32_w]; rw [c14b0]) | skip)
    obtain rfl := Option.some.inj H
    go_wp2
    go_ret
    exact ⟨rf, bl⟩
   rw [if_pos c14] at H
   have c14b0 : (((rd_T116 l0 x5_1).f1).toList == t1501.toList) = true := beq_iff_eq.mpr c14
   have c14b1 : (((rd_T116 l0 x5_1).f1).toList != t1501.toList) = false := bne_eq_false_iff_eq.mpr c14
   clear c14
   (first | rw [c14b0] | (simp only [i64_w, i32_w]; rw [c14b0]) | skip)
   have H' := am H
   clear H
   go_wp2
   go_roundg k1
   case measure => have := HK1.out; omega
   case rel => exact ⟨(wrap64 ((wrap64 (x1_1 + 1)) + 1)), (wrap64 (x5_1 + 1)), rs, rs, H', ⟨by have := HK1.out; omega⟩, ⟨u160HB⟩⟩

/-! ### laws_heldResp: function 115 -/
def laws_heldResp.f (k : Nat) (a0_0 : Int) (l0_1 : List (S116)) (a0_2 : ByteArray) (a1 : Int) : Option (Int) := (laws_heldFieldS.f k l0_1 a1).bind fun t1503 => (if t1503 < 0 then (some (-1)) else (some t1503))
theorem laws_heldResp.mono : ∀ a0 a1 a2 a3 k, LeO (laws_heldResp.f k a0 a1 a2 a3) (laws_heldResp.f (k + 1) a0 a1 a2 a3) := by
 intro a0 a1 a2 a3 k
 unfold laws_heldResp.f
 have m0 := @laws_heldFieldS.mono
 exact mo
set_option maxHeartbeats 8000000 in
set_option maxRecDepth 100000 in
theorem laws_heldResp.calls (k : Nat) (a0_0 : Int) (A0_1 : Option Addr) (c0_1 : Nat) (l0_1 : List (S116)) (a0_2 : ByteArray) (a1 : Int) (r : Int) (w : World) (hr0_1 : Kd.C k116 w A0_1 l0_1.length l0_1) (hc0_1 : l0_1.length ≤ c0_1) (h : laws_heldResp.f k a0_0 l0_1 a0_2 a1 = some r) :
  Calls Tryz.prog 115 #[.agg #[.int .i64 a0_0, .slice A0_1 l0_1.length c0_1, .string a0_2], .int .i64 a1] w fun e w' => e = .returned (.int .i64 r) ∧ Below w.heap.size w w' := by
 have hu29 := Tryz.underlying29
 have HR0_1 := am hr0_1
 have HC0_1 := am hc0_1
 clear hr0_1 hc0_1
 have HB := am (Below.refl w.heap.size w)
 unfold laws_heldResp.f at h
 have H := h
 clear h
 revert H
 refine ok1 fun t1503 A3 H => ?_
 have HH4 := am H
 clear H
 go_enter Tryz.func115, Tryz.ntmps115
 go_upto_if 10 with ((with_reducible refine gw ?_); first | (refine bx 2 #[.int .i64 a0_0, .slice A0_1 l0_1.length c0_1, .string a0_2] 29 ?_; intro gb1502 hg w5 hbox hb; have BK1502 := am (hbox); have GW1502 := am (sz hg : w.heap.size ≤ gb1502); have GE1502 := am (sz hg : w.heap.size ≤ gb1502); replace HB := am (below_step bl hb); clear hb hbox hg; obtain ⟨z6_0, y6_0, z6_1, y6_1, z6_2, y6_2⟩ := cl3 BK1502) | (refine gl 8 Tryz.func160 #[.slice A0_1 l0_1.length c0_1, .int .i64 a1] ?_; (with_reducible refine (laws_heldFieldS.calls k _ _ l0_1 a1 t1503 _ ?side1 ?side2 A3.out).mono ?_); (case side1 => exact cb HR0_1); (case side2 => exact HC0_1.out); rintro e w7 ⟨rfl, hb⟩; refine ⟨_, rfl, ?_⟩; replace BK1502 := kb BK1502 hb; replace HB := am (below_step bl hb); clear hb))
 have H := HH4.out
 clear HH4
 by_cases c8 : t1503 < 0
 ·rw [if_pos c8] at H
  have c8b0 := decide_eq_true c8
  clear c8
  (first | rw [c8b0] | (simp only [i64_w, i32_w]; rw [c8b0]) | skip)
  obtain rfl := Option.some.inj H
  go_wp2
  go_ret
  exact ⟨rf, bl⟩
 rw [if_neg c8] at H
 have c8b0 := decide_eq_false c8
 clear c8
 (first | rw [c8b0] | (simp only [i64_w, i32_w]; rw [c8b0]) | skip)
 obtain rfl := Option.some.inj H
 go_wp2
 go_ret
 exact ⟨rf, bl⟩

end Go.Proofs.YtjlpjbkpmmpojaaGreatDoor.All
