-- Written by a program of this session (wip/tools/hprint.py) out of the translation. Lean checks it.
import Derived.Test.YtnmanegjgidgcaaGreatDoorAllx0
namespace Go.Proofs.YtnmanegjgidgcaaGreatDoor.All
open Go.RowKit Go.Proofs.YtnmanegjgidgcaaGreatDoorW.PrintWords Go.Proofs.YtnmanegjgidgcaaGreatDoorW.PrintLast Go.Proofs.YtnmanegjgidgcaaGreatDoorW.PrintMore
attribute [local go_sem] max2_int min2_int max_two min_two max_three min_three max_four min_four   -- for this text's walks alone
set_option linter.unusedVariables false
set_option linter.unusedSimpArgs false

/-! ### laws_eqField: function 133 -/
def laws_eqField.f (a0_0 : ByteArray) (a0_1 : ByteArray) (a1_0 : ByteArray) (a1_1 : ByteArray) : Option (Bool) := if a0_0.toList = a1_0.toList then (if a0_1.toList = a1_1.toList then (some true) else (some false)) else (some false)
set_option maxHeartbeats 8000000 in
set_option maxRecDepth 100000 in
theorem laws_eqField.calls (a0_0 : ByteArray) (a0_1 : ByteArray) (a1_0 : ByteArray) (a1_1 : ByteArray) (r : Bool) (w : World) (h : laws_eqField.f a0_0 a0_1 a1_0 a1_1 = some r) :
  Calls Tryz.prog 133 #[.agg #[.string a0_0, .string a0_1], .agg #[.string a1_0, .string a1_1]] w fun e w' => e = .returned (.bool r) ∧ Below w.heap.size w w' := by
 have hu100 := Tryz.underlying100
 have HB := am (Below.refl w.heap.size w)
 unfold laws_eqField.f at h
 have H := h
 clear h
 by_cases c3 : a0_0.toList = a1_0.toList
 rotate_left
 ·rw [if_neg c3] at H
  have c3b0 : (a0_0.toList == a1_0.toList) = false := beq_eq_false_iff_ne.mpr c3
  have c3b1 : (a0_0.toList != a1_0.toList) = true := bne_iff_ne.mpr c3
  obtain rfl := Option.some.inj H
  go_enter Tryz.func133, Tryz.ntmps133
  go_wp2_with (first | (refine bx 2 #[.string a0_0, .string a0_1] 100 ?_; intro gb753 hg w15 hbox hb; have BK753 := am (hbox); have GW753 := am (sz hg : w.heap.size ≤ gb753); have GE753 := am (sz hg : w.heap.size ≤ gb753); replace HB := am (below_step bl hb); clear hb hbox hg) | (refine bx 3 #[.string a1_0, .string a1_1] 100 ?_; intro gb754 hg w16 hbox hb; have BK754 := am (hbox); have GW754 := am (sz hg : w.heap.size ≤ gb754); have GE754 := am (sz hg : w.heap.size ≤ gb754); replace HB := am (below_step bl hb); have NB753_754 := am (nl hg BK753 : gb753 ≠ gb754); have NB754_753 := am (ng hg BK753 : gb754 ≠ gb753); replace BK753 := kb BK753 hb; clear hb hbox hg; have hnb17 := NB753_754.out; have hnc17 := NB754_753.out; obtain ⟨z18_0, y18_0, z18_1, y18_1⟩ := cl2 BK753; obtain ⟨z19_0, y19_0, z19_1, y19_1⟩ := cl2 BK754))
  go_ret
  exact ⟨rf, bl⟩
 rw [if_pos c3] at H
 have c3b0 : (a0_0.toList == a1_0.toList) = true := beq_iff_eq.mpr c3
 have c3b1 : (a0_0.toList != a1_0.toList) = false := bne_eq_false_iff_eq.mpr c3
 clear c3
 by_cases c4 : a0_1.toList = a1_1.toList
 ·rw [if_pos c4] at H
  have c4b0 : (a0_1.toList == a1_1.toList) = true := beq_iff_eq.mpr c4
  have c4b1 : (a0_1.toList != a1_1.toList) = false := bne_eq_false_iff_eq.mpr c4
  clear c4
  obtain rfl := Option.some.inj H
  go_enter Tryz.func133, Tryz.ntmps133
  go_wp2_with (first | (refine bx 2 #[.string a0_0, .string a0_1] 100 ?_; intro gb753 hg w5 hbox hb; have BK753 := am (hbox); have GW753 := am (sz hg : w.heap.size ≤ gb753); have GE753 := am (sz hg : w.heap.size ≤ gb753); replace HB := am (below_step bl hb); clear hb hbox hg) | (refine bx 3 #[.string a1_0, .string a1_1] 100 ?_; intro gb754 hg w6 hbox hb; have BK754 := am (hbox); have GW754 := am (sz hg : w.heap.size ≤ gb754); have GE754 := am (sz hg : w.heap.size ≤ gb754); replace HB := am (below_step bl hb); have NB753_754 := am (nl hg BK753 : gb753 ≠ gb754); have NB754_753 := am (ng hg BK753 : gb754 ≠ gb753); replace BK753 := kb BK753 hb; clear hb hbox hg; have hnb7 := NB753_754.out; have hnc7 := NB754_753.out; obtain ⟨z8_0, y8_0, z8_1, y8_1⟩ := cl2 BK753; obtain ⟨z9_0, y9_0, z9_1, y9_1⟩ := cl2 BK754))
  go_ret
  exact ⟨rf, bl⟩
 rw [if_neg c4] at H
 have c4b0 : (a0_1.toList == a1_1.toList) = false := beq_eq_false_iff_ne.mpr c4
 have c4b1 : (a0_1.toList != a1_1.toList) = true := bne_iff_ne.mpr c4
 obtain rfl := Option.some.inj H
 go_enter Tryz.func133, Tryz.ntmps133
 go_wp2_with (first | (refine bx 2 #[.string a0_0, .string a0_1] 100 ?_; intro gb753 hg w10 hbox hb; have BK753 := am (hbox); have GW753 := am (sz hg : w.heap.size ≤ gb753); have GE753 := am (sz hg : w.heap.size ≤ gb753); replace HB := am (below_step bl hb); clear hb hbox hg) | (refine bx 3 #[.string a1_0, .string a1_1] 100 ?_; intro gb754 hg w11 hbox hb; have BK754 := am (hbox); have GW754 := am (sz hg : w.heap.size ≤ gb754); have GE754 := am (sz hg : w.heap.size ≤ gb754); replace HB := am (below_step bl hb); have NB753_754 := am (nl hg BK753 : gb753 ≠ gb754); have NB754_753 := am (ng hg BK753 : gb754 ≠ gb753); replace BK753 := kb BK753 hb; clear hb hbox hg; have hnb12 := NB753_754.out; have hnc12 := NB754_753.out; obtain ⟨z13_0, y13_0, z13_1, y13_1⟩ := cl2 BK753; obtain ⟨z14_0, y14_0, z14_1, y14_1⟩ := cl2 BK754))
 go_ret
 exact ⟨rf, bl⟩

/-! ### laws_eqFieldS: function 91 -/
theorem u91HB {p : Prop} (h : p := by repeat (first | (with_reducible first | exact HB.out | apply below_alloc | apply pw_below_drewN | apply below_drew1) | exact HB.out)) : p := h
def laws_eqFieldS.l0 : Nat → List (S100) → List (S100) → Int → Option (Bool)
 | 0, _, _, _ => none
 | k + 1, x0, x1, x5 => if x5 < (x0.length : Int) then (if 0 ≤ x5 then (if x5 < (x1.length : Int) then ((laws_eqField.f ((rd_T100 x0 x5).f0) ((rd_T100 x0 x5).f1) ((rd_T100 x1 x5).f0) ((rd_T100 x1 x5).f1)).bind fun t757 => (if t757 = true then (laws_eqFieldS.l0 k x0 x1 (wrap64 (x5 + 1))) else (some false))) else (none)) else (none)) else (some true)
def laws_eqFieldS.f (k : Nat) (l0 : List (S100)) (l1 : List (S100)) : Option (Bool) := if (l0.length : Int) = (l1.length : Int) then (laws_eqFieldS.l0 k l0 l1 0) else (some false)
theorem laws_eqFieldS.mono_l : ∀ k, (∀ y0 y1 y2, LeO (laws_eqFieldS.l0 k y0 y1 y2) (laws_eqFieldS.l0 (k + 1) y0 y1 y2))
 | 0 => fun _ _ _ r h => by simp [laws_eqFieldS.l0] at h
 | k + 1 => by
  have ih0 := laws_eqFieldS.mono_l k
  ·intro y0 y1 y2
   unfold laws_eqFieldS.l0
   exact mo
theorem laws_eqFieldS.mono : ∀ a0 a1 k, LeO (laws_eqFieldS.f k a0 a1) (laws_eqFieldS.f (k + 1) a0 a1) := by
 intro a0 a1 k
 have ih0 := laws_eqFieldS.mono_l k
 unfold laws_eqFieldS.f
 exact mo
def laws_eqFieldS.T6 : Bool × List (List Nat × List Nat) := (true, [([], []), ([], []), ([0, 1], [0, 1]), ([2], [2]), ([], []), ([], []), ([4, 5], [4, 5]), ([6], [6]), ([3, 7], [3, 7]), ([8], [8])])
def laws_eqFieldS.B6 : List Nat := [0, 0, 3, 7, 0, 0, 48, 112, 255, 511]
theorem laws_eqFieldS.tab6 : rtab .any (opsOf Tryz.f91 6) = laws_eqFieldS.T6 := by kernel_rfl
theorem laws_eqFieldS.bits6 : waitsOk laws_eqFieldS.T6.2 laws_eqFieldS.B6 = true := by kernel_rfl
set_option maxHeartbeats 8000000 in
set_option maxRecDepth 100000 in
theorem laws_eqFieldS.calls (k : Nat) (A0 : Option Addr) (c0 : Nat) (l0 : List (S100)) (A1 : Option Addr) (c1 : Nat) (l1 : List (S100)) (r : Bool) (w : World) (hr0 : Kd.C k100 w A0 l0.length l0) (hc0 : l0.length ≤ c0) (hr1 : Kd.C k100 w A1 l1.length l1) (hc1 : l1.length ≤ c1) (h : laws_eqFieldS.f k l0 l1 = some r) :
  Calls Tryz.prog 91 #[.slice A0 l0.length c0, .slice A1 l1.length c1] w fun e w' => e = .returned (.bool r) ∧ Below w.heap.size w w' := by
 have hu100 := Tryz.underlying100
 have HR0 := am hr0
 have HC0 := am hc0
 clear hr0 hc0
 have HR1 := am hr1
 have HC1 := am hc1
 clear hr1 hc1
 have HB := am (Below.refl w.heap.size w)
 unfold laws_eqFieldS.f at h
 have H := h
 clear h
 by_cases c3 : (l0.length : Int) = (l1.length : Int)
 rotate_left
 ·rw [if_neg c3] at H
  have c3b0 : ((l0.length : Int) == (l1.length : Int)) = false := beq_eq_false_iff_ne.mpr c3
  have c3b1 : ((l0.length : Int) != (l1.length : Int)) = true := bne_iff_ne.mpr c3
  have c3b2 : (l0.length == l1.length) = false := by first | simpa using c3 | (simp at c3 ⊢; omega)
  obtain rfl := Option.some.inj H
  go_enter Tryz.func91, Tryz.ntmps91
  go_wp2
  go_ret
  exact ⟨rf, bl⟩
 rw [if_pos c3] at H
 have c3b0 : ((l0.length : Int) == (l1.length : Int)) = true := beq_iff_eq.mpr c3
 have c3b1 : ((l0.length : Int) != (l1.length : Int)) = false := bne_eq_false_iff_eq.mpr c3
 have c3b2 : (l0.length == l1.length) = true := by first | simpa using c3 | (simp at c3 ⊢; omega)
 clear c3
 have H' := am H
 clear H
 go_enter Tryz.func91, Tryz.ntmps91
 go_wp2
 (try simp only [Act.put, List.setIfInBounds_toArray, List.set_cons_zero, List.set_cons_succ])
 go_loopg [5] k (fun kq v5 w' => ∃ (x5_1 : Int), v5 = .int .i64 x5_1 ∧ Aside0 (laws_eqFieldS.l0 kq l0 l1 x5_1 = some r) ∧ Aside0 (kq ≤ k) ∧ Aside0 (Below w.heap.size w w'))
 case atStart => exact ⟨(0), rs, H', ⟨Nat.le_refl _⟩, ⟨u91HB⟩⟩
 case round =>
  clear H'
  try clear c1
  try clear p2
  try clear c3
  try clear c3b0
  try clear c3b1
  try clear c3b2
  obtain ⟨x5_1, rfl, HA, HK1, HB⟩ := hrel
  cases gk with
  | zero => exact absurd HA.out (by simp [laws_eqFieldS.l0])
  | succ k1 =>
   have H := HA.out
   clear HA
   simp only [laws_eqFieldS.l0] at H
   by_cases c4 : x5_1 < (l0.length : Int)
   rotate_left
   ·rw [if_neg c4] at H
    have c4b0 := decide_eq_false c4
    clear c4
    obtain rfl := Option.some.inj H
    go_wp2
    go_ret
    exact ⟨rf, bl⟩
   rw [if_pos c4] at H
   have c4b0 := decide_eq_true c4
   clear c4
   revert H
   refine ifn fun c5 H => ?_
   have c5b0 := decide_eq_true c5
   clear c5
   revert H
   refine ifn fun c6 H => ?_
   have c6b0 := decide_eq_true c6
   clear c6
   revert H
   refine ok1 fun t757 A7 H => ?_
   by_cases c8 : t757 = true
   rotate_left
   ·replace c8 := Bool.eq_false_iff.mpr c8
    subst c8
    rw [if_neg (show ¬ (false = true) by decide)] at H
    obtain rfl := Option.some.inj H
    try go_wp2
    replace HB := am (below_drew1 HB.out)
    have p755 : 0 ≤ (x5_1 : Int) := od
    have q755 : x5_1 < (l0.length : Int) := od
    obtain ⟨ad755, e755, hx755_0, hx755_1⟩ := at_T100 HR0.out x5_1 p755 q755
    have hw755_1 := hx755_1
    have hw755_0 := hx755_0
    cases e755
    replace hx755_0 := hcw hx755_0
    replace hx755_1 := hcw hx755_1
    replace p755 := eq_true p755
    replace q755 := eq_true q755
    have p756 : 0 ≤ (x5_1 : Int) := od
    have q756 : x5_1 < (l1.length : Int) := od
    obtain ⟨ad756, e756, hx756_0, hx756_1⟩ := at_T100 HR1.out x5_1 p756 q756
    have hw756_1 := hx756_1
    have hw756_0 := hx756_0
    cases e756
    replace hx756_0 := hcw hx756_0
    replace hx756_1 := hcw hx756_1
    replace p756 := eq_true p756
    replace q756 := eq_true q756
    refine start_ (n := 10) (S := fun w' => w'.cell? (ad755.add ((x5_1).toNat * 2)) = some (.string ((rd_T100 l0 x5_1).f0)) ∧ w'.cell? ⟨(ad755.add ((x5_1).toNat * 2)).block, (ad755.add ((x5_1).toNat * 2)).off + 1, none⟩ = some (.string ((rd_T100 l0 x5_1).f1)) ∧ w'.cell? (ad756.add ((x5_1).toNat * 2)) = some (.string ((rd_T100 l1 x5_1).f0)) ∧ w'.cell? ⟨(ad756.add ((x5_1).toNat * 2)).block, (ad756.add ((x5_1).toNat * 2)).off + 1, none⟩ = some (.string ((rd_T100 l1 x5_1).f1))) (ds := []) ⟨br true [0, 10]⟩ (by kernel_rfl) rfl (by kernel_rfl) ⟨(hcw hw755_0), (hcw hw755_1), (hcw hw756_0), (hcw hw756_1)⟩ (fun hHeld => ?_); refine with_tabW laws_eqFieldS.tab6 laws_eqFieldS.bits6 (fun HT_ HW_ => ?_)
    generalize wr.drew = w11 at HB hx755_0 hx755_1 hx756_0 hx756_1 hHeld ⊢
    refine pu 0 17 [1, 9] ?_
    refine pu 1 18 [2, 8] ?_
    refine pu 2 19 [3, 7] ?_
    refine pu 4 21 [3, 1, 1, 5] ?_
    refine pu 5 22 [3, 1, 2, 4] ?_
    refine pu 6 23 [3, 1, 3, 3] ?_
    refine tk 3 20 [7, 3] ?_
    refine tk 7 24 [8, 2] ?_
    refine og 8 25 [9, 1] Tryz.func133 #[.agg #[.string ((rd_T100 l0 x5_1).f0), .string ((rd_T100 l0 x5_1).f1)], .agg #[.string ((rd_T100 l1 x5_1).f0), .string ((rd_T100 l1 x5_1).f1)]] (fun K hK => ?_)
    with_reducible refine (laws_eqField.calls ((rd_T100 l0 x5_1).f0) ((rd_T100 l0 x5_1).f1) ((rd_T100 l1 x5_1).f0) ((rd_T100 l1 x5_1).f1) false _ A7.out).mono ?_
    rintro e w12 ⟨rfl, hb⟩
    refine ⟨_, rfl, ?_⟩
    replace HB := am (below_step bl hb)
    clear hb
    refine hK.out _ _ ⟨(hcw hw755_0), (hcw hw755_1), (hcw hw756_0), (hcw hw756_1)⟩ (fun hHeld => ?_)
    clear hK K
    refine nm 25 ?_
    refine pu 9 26 [10] ?_
    refine done_ (done_of HT_.out (by kernel_rfl)) ?_
    try go_wp2
    go_ret
    exact ⟨rf, bl⟩
   subst c8
   rw [if_pos rfl] at H
   have H' := am H
   clear H
   try go_wp2
   replace HB := am (below_drew1 HB.out)
   have p755 : 0 ≤ (x5_1 : Int) := od
   have q755 : x5_1 < (l0.length : Int) := od
   obtain ⟨ad755, e755, hx755_0, hx755_1⟩ := at_T100 HR0.out x5_1 p755 q755
   have hw755_1 := hx755_1
   have hw755_0 := hx755_0
   cases e755
   replace hx755_0 := hcw hx755_0
   replace hx755_1 := hcw hx755_1
   replace p755 := eq_true p755
   replace q755 := eq_true q755
   have p756 : 0 ≤ (x5_1 : Int) := od
   have q756 : x5_1 < (l1.length : Int) := od
   obtain ⟨ad756, e756, hx756_0, hx756_1⟩ := at_T100 HR1.out x5_1 p756 q756
   have hw756_1 := hx756_1
   have hw756_0 := hx756_0
   cases e756
   replace hx756_0 := hcw hx756_0
   replace hx756_1 := hcw hx756_1
   replace p756 := eq_true p756
   replace q756 := eq_true q756
   refine start_ (n := 10) (S := fun w' => w'.cell? (ad755.add ((x5_1).toNat * 2)) = some (.string ((rd_T100 l0 x5_1).f0)) ∧ w'.cell? ⟨(ad755.add ((x5_1).toNat * 2)).block, (ad755.add ((x5_1).toNat * 2)).off + 1, none⟩ = some (.string ((rd_T100 l0 x5_1).f1)) ∧ w'.cell? (ad756.add ((x5_1).toNat * 2)) = some (.string ((rd_T100 l1 x5_1).f0)) ∧ w'.cell? ⟨(ad756.add ((x5_1).toNat * 2)).block, (ad756.add ((x5_1).toNat * 2)).off + 1, none⟩ = some (.string ((rd_T100 l1 x5_1).f1))) (ds := []) ⟨br true [0, 10]⟩ (by kernel_rfl) rfl (by kernel_rfl) ⟨(hcw hw755_0), (hcw hw755_1), (hcw hw756_0), (hcw hw756_1)⟩ (fun hHeld => ?_); refine with_tabW laws_eqFieldS.tab6 laws_eqFieldS.bits6 (fun HT_ HW_ => ?_)
   generalize wr.drew = w9 at HB hx755_0 hx755_1 hx756_0 hx756_1 hHeld ⊢
   refine pu 0 17 [1, 9] ?_
   refine pu 1 18 [2, 8] ?_
   refine pu 2 19 [3, 7] ?_
   refine pu 4 21 [3, 1, 1, 5] ?_
   refine pu 5 22 [3, 1, 2, 4] ?_
   refine pu 6 23 [3, 1, 3, 3] ?_
   refine tk 3 20 [7, 3] ?_
   refine tk 7 24 [8, 2] ?_
   refine og 8 25 [9, 1] Tryz.func133 #[.agg #[.string ((rd_T100 l0 x5_1).f0), .string ((rd_T100 l0 x5_1).f1)], .agg #[.string ((rd_T100 l1 x5_1).f0), .string ((rd_T100 l1 x5_1).f1)]] (fun K hK => ?_)
   with_reducible refine (laws_eqField.calls ((rd_T100 l0 x5_1).f0) ((rd_T100 l0 x5_1).f1) ((rd_T100 l1 x5_1).f0) ((rd_T100 l1 x5_1).f1) true _ A7.out).mono ?_
   rintro e w10 ⟨rfl, hb⟩
   refine ⟨_, rfl, ?_⟩
   replace HB := am (below_step bl hb)
   clear hb
   refine hK.out _ _ ⟨(hcw hw755_0), (hcw hw755_1), (hcw hw756_0), (hcw hw756_1)⟩ (fun hHeld => ?_)
   clear hK K
   refine nm 25 ?_
   refine pu 9 26 [10] ?_
   refine done_ (done_of HT_.out (by kernel_rfl)) ?_
   try go_wp2
   go_roundg k1
   case measure => have := HK1.out; omega
   case rel => exact ⟨(wrap64 (x5_1 + 1)), rs, H', ⟨by have := HK1.out; omega⟩, ⟨u91HB⟩⟩

/-! ### laws_eqResp: function 29 -/
def laws_eqResp.f (k : Nat) (a0_0 : Int) (l0_1 : List (S100)) (a0_2 : ByteArray) (a1_0 : Int) (l1_1 : List (S100)) (a1_2 : ByteArray) : Option (Bool) := if a0_0 = a1_0 then ((laws_eqFieldS.f k l0_1 l1_1).bind fun t760 => (if t760 = true then (if a0_2.toList = a1_2.toList then (some true) else (some false)) else (some false))) else (some false)
theorem laws_eqResp.mono : ∀ a0 a1 a2 a3 a4 a5 k, LeO (laws_eqResp.f k a0 a1 a2 a3 a4 a5) (laws_eqResp.f (k + 1) a0 a1 a2 a3 a4 a5) := by
 intro a0 a1 a2 a3 a4 a5 k
 unfold laws_eqResp.f
 have m0 := @laws_eqFieldS.mono
 exact mo
set_option maxHeartbeats 8000000 in
set_option maxRecDepth 100000 in
theorem laws_eqResp.calls (k : Nat) (a0_0 : Int) (A0_1 : Option Addr) (c0_1 : Nat) (l0_1 : List (S100)) (a0_2 : ByteArray) (a1_0 : Int) (A1_1 : Option Addr) (c1_1 : Nat) (l1_1 : List (S100)) (a1_2 : ByteArray) (r : Bool) (w : World) (hr0_1 : Kd.C k100 w A0_1 l0_1.length l0_1) (hc0_1 : l0_1.length ≤ c0_1) (hr1_1 : Kd.C k100 w A1_1 l1_1.length l1_1) (hc1_1 : l1_1.length ≤ c1_1) (h : laws_eqResp.f k a0_0 l0_1 a0_2 a1_0 l1_1 a1_2 = some r) :
  Calls Tryz.prog 29 #[.agg #[.int .i64 a0_0, .slice A0_1 l0_1.length c0_1, .string a0_2], .agg #[.int .i64 a1_0, .slice A1_1 l1_1.length c1_1, .string a1_2]] w fun e w' => e = .returned (.bool r) ∧ Below w.heap.size w w' := by
 have hu48 := Tryz.underlying48
 have HR0_1 := am hr0_1
 have HC0_1 := am hc0_1
 clear hr0_1 hc0_1
 have HR1_1 := am hr1_1
 have HC1_1 := am hc1_1
 clear hr1_1 hc1_1
 have HB := am (Below.refl w.heap.size w)
 unfold laws_eqResp.f at h
 have H := h
 clear h
 by_cases c3 : a0_0 = a1_0
 rotate_left
 ·rw [if_neg c3] at H
  have c3b0 : (a0_0 == a1_0) = false := beq_eq_false_iff_ne.mpr c3
  have c3b1 : (a0_0 != a1_0) = true := bne_iff_ne.mpr c3
  obtain rfl := Option.some.inj H
  go_enter Tryz.func29, Tryz.ntmps29
  go_wp2_with (first | (refine bx 2 #[.int .i64 a0_0, .slice A0_1 l0_1.length c0_1, .string a0_2] 48 ?_; intro gb758 hg w29 hbox hb; have BK758 := am (hbox); have GW758 := am (sz hg : w.heap.size ≤ gb758); have GE758 := am (sz hg : w.heap.size ≤ gb758); replace HB := am (below_step bl hb); clear hb hbox hg) | (refine bx 3 #[.int .i64 a1_0, .slice A1_1 l1_1.length c1_1, .string a1_2] 48 ?_; intro gb759 hg w30 hbox hb; have BK759 := am (hbox); have GW759 := am (sz hg : w.heap.size ≤ gb759); have GE759 := am (sz hg : w.heap.size ≤ gb759); replace HB := am (below_step bl hb); have NB758_759 := am (nl hg BK758 : gb758 ≠ gb759); have NB759_758 := am (ng hg BK758 : gb759 ≠ gb758); replace BK758 := kb BK758 hb; clear hb hbox hg; have hnb31 := NB758_759.out; have hnc31 := NB759_758.out; obtain ⟨z32_0, y32_0, z32_1, y32_1, z32_2, y32_2⟩ := cl3 BK758; obtain ⟨z33_0, y33_0, z33_1, y33_1, z33_2, y33_2⟩ := cl3 BK759))
  go_ret
  exact ⟨rf, bl⟩
 rw [if_pos c3] at H
 have c3b0 : (a0_0 == a1_0) = true := beq_iff_eq.mpr c3
 have c3b1 : (a0_0 != a1_0) = false := bne_eq_false_iff_eq.mpr c3
 clear c3
 revert H
 refine ok1 fun t760 A4 H => ?_
 by_cases c5 : t760 = true
 rotate_left
 ·replace c5 := Bool.eq_false_iff.mpr c5
  subst c5
  rw [if_neg (show ¬ (false = true) by decide)] at H
  obtain rfl := Option.some.inj H
  go_enter Tryz.func29, Tryz.ntmps29
  go_wp2_with (first | (refine bx 2 #[.int .i64 a0_0, .slice A0_1 l0_1.length c0_1, .string a0_2] 48 ?_; intro gb758 hg w23 hbox hb; have BK758 := am (hbox); have GW758 := am (sz hg : w.heap.size ≤ gb758); have GE758 := am (sz hg : w.heap.size ≤ gb758); replace HB := am (below_step bl hb); clear hb hbox hg) | (refine bx 3 #[.int .i64 a1_0, .slice A1_1 l1_1.length c1_1, .string a1_2] 48 ?_; intro gb759 hg w24 hbox hb; have BK759 := am (hbox); have GW759 := am (sz hg : w.heap.size ≤ gb759); have GE759 := am (sz hg : w.heap.size ≤ gb759); replace HB := am (below_step bl hb); have NB758_759 := am (nl hg BK758 : gb758 ≠ gb759); have NB759_758 := am (ng hg BK758 : gb759 ≠ gb758); replace BK758 := kb BK758 hb; clear hb hbox hg; have hnb25 := NB758_759.out; have hnc25 := NB759_758.out; obtain ⟨z26_0, y26_0, z26_1, y26_1, z26_2, y26_2⟩ := cl3 BK758; obtain ⟨z27_0, y27_0, z27_1, y27_1, z27_2, y27_2⟩ := cl3 BK759) | (refine gl 14 Tryz.func91 #[.slice A0_1 l0_1.length c0_1, .slice A1_1 l1_1.length c1_1] ?_; (with_reducible refine (laws_eqFieldS.calls k _ _ l0_1 _ _ l1_1 false _ ?side1 ?side2 ?side3 ?side4 A4.out).mono ?_); (case side1 => exact cb HR0_1); (case side2 => exact HC0_1.out); (case side3 => exact cb HR1_1); (case side4 => exact HC1_1.out); rintro e w28 ⟨rfl, hb⟩; refine ⟨_, rfl, ?_⟩; replace BK758 := kb BK758 hb; replace BK759 := kb BK759 hb; replace HB := am (below_step bl hb); clear hb))
  go_ret
  exact ⟨rf, bl⟩
 subst c5
 rw [if_pos rfl] at H
 by_cases c6 : a0_2.toList = a1_2.toList
 rotate_left
 ·rw [if_neg c6] at H
  have c6b0 : (a0_2.toList == a1_2.toList) = false := beq_eq_false_iff_ne.mpr c6
  have c6b1 : (a0_2.toList != a1_2.toList) = true := bne_iff_ne.mpr c6
  obtain rfl := Option.some.inj H
  go_enter Tryz.func29, Tryz.ntmps29
  go_wp2_with (first | (refine bx 2 #[.int .i64 a0_0, .slice A0_1 l0_1.length c0_1, .string a0_2] 48 ?_; intro gb758 hg w15 hbox hb; have BK758 := am (hbox); have GW758 := am (sz hg : w.heap.size ≤ gb758); have GE758 := am (sz hg : w.heap.size ≤ gb758); replace HB := am (below_step bl hb); clear hb hbox hg) | (refine bx 3 #[.int .i64 a1_0, .slice A1_1 l1_1.length c1_1, .string a1_2] 48 ?_; intro gb759 hg w16 hbox hb; have BK759 := am (hbox); have GW759 := am (sz hg : w.heap.size ≤ gb759); have GE759 := am (sz hg : w.heap.size ≤ gb759); replace HB := am (below_step bl hb); have NB758_759 := am (nl hg BK758 : gb758 ≠ gb759); have NB759_758 := am (ng hg BK758 : gb759 ≠ gb758); replace BK758 := kb BK758 hb; clear hb hbox hg; have hnb17 := NB758_759.out; have hnc17 := NB759_758.out; obtain ⟨z18_0, y18_0, z18_1, y18_1, z18_2, y18_2⟩ := cl3 BK758; obtain ⟨z19_0, y19_0, z19_1, y19_1, z19_2, y19_2⟩ := cl3 BK759) | (refine gl 14 Tryz.func91 #[.slice A0_1 l0_1.length c0_1, .slice A1_1 l1_1.length c1_1] ?_; (with_reducible refine (laws_eqFieldS.calls k _ _ l0_1 _ _ l1_1 true _ ?side1 ?side2 ?side3 ?side4 A4.out).mono ?_); (case side1 => exact cb HR0_1); (case side2 => exact HC0_1.out); (case side3 => exact cb HR1_1); (case side4 => exact HC1_1.out); rintro e w20 ⟨rfl, hb⟩; refine ⟨_, rfl, ?_⟩; replace BK758 := kb BK758 hb; replace BK759 := kb BK759 hb; replace HB := am (below_step bl hb); clear hb; obtain ⟨z21_0, y21_0, z21_1, y21_1, z21_2, y21_2⟩ := cl3 BK758; obtain ⟨z22_0, y22_0, z22_1, y22_1, z22_2, y22_2⟩ := cl3 BK759))
  go_ret
  exact ⟨rf, bl⟩
 rw [if_pos c6] at H
 have c6b0 : (a0_2.toList == a1_2.toList) = true := beq_iff_eq.mpr c6
 have c6b1 : (a0_2.toList != a1_2.toList) = false := bne_eq_false_iff_eq.mpr c6
 clear c6
 obtain rfl := Option.some.inj H
 go_enter Tryz.func29, Tryz.ntmps29
 go_wp2_with (first | (refine bx 2 #[.int .i64 a0_0, .slice A0_1 l0_1.length c0_1, .string a0_2] 48 ?_; intro gb758 hg w7 hbox hb; have BK758 := am (hbox); have GW758 := am (sz hg : w.heap.size ≤ gb758); have GE758 := am (sz hg : w.heap.size ≤ gb758); replace HB := am (below_step bl hb); clear hb hbox hg) | (refine bx 3 #[.int .i64 a1_0, .slice A1_1 l1_1.length c1_1, .string a1_2] 48 ?_; intro gb759 hg w8 hbox hb; have BK759 := am (hbox); have GW759 := am (sz hg : w.heap.size ≤ gb759); have GE759 := am (sz hg : w.heap.size ≤ gb759); replace HB := am (below_step bl hb); have NB758_759 := am (nl hg BK758 : gb758 ≠ gb759); have NB759_758 := am (ng hg BK758 : gb759 ≠ gb758); replace BK758 := kb BK758 hb; clear hb hbox hg; have hnb9 := NB758_759.out; have hnc9 := NB759_758.out; obtain ⟨z10_0, y10_0, z10_1, y10_1, z10_2, y10_2⟩ := cl3 BK758; obtain ⟨z11_0, y11_0, z11_1, y11_1, z11_2, y11_2⟩ := cl3 BK759) | (refine gl 14 Tryz.func91 #[.slice A0_1 l0_1.length c0_1, .slice A1_1 l1_1.length c1_1] ?_; (with_reducible refine (laws_eqFieldS.calls k _ _ l0_1 _ _ l1_1 true _ ?side1 ?side2 ?side3 ?side4 A4.out).mono ?_); (case side1 => exact cb HR0_1); (case side2 => exact HC0_1.out); (case side3 => exact cb HR1_1); (case side4 => exact HC1_1.out); rintro e w12 ⟨rfl, hb⟩; refine ⟨_, rfl, ?_⟩; replace BK758 := kb BK758 hb; replace BK759 := kb BK759 hb; replace HB := am (below_step bl hb); clear hb; obtain ⟨z13_0, y13_0, z13_1, y13_1, z13_2, y13_2⟩ := cl3 BK758; obtain ⟨z14_0, y14_0, z14_1, y14_1, z14_2, y14_2⟩ := cl3 BK759))
 go_ret
 exact ⟨rf, bl⟩

/-! ### laws_markText: function 99 -/
theorem u99HB {p : Prop} (h : p := by repeat (first | (with_reducible first | exact HB.out | apply below_alloc | apply pw_below_drewN | apply below_drew1) | exact HB.out)) : p := h
def laws_markText.l0 : Nat → Int → ByteArray → Option (ByteArray)
 | 0, _, _ => none
 | k + 1, x0, x3 => if x0 > 0 then ((some (([(wrap64 (48 + (Int.tmod x0 10))) % 256] : List Int) : List Int)).bind fun y761 => (if (strOfNums y761).size + x3.size ≤ 9223372036854775807 then (laws_markText.l0 k (wrap64 (Int.tdiv x0 10)) ((strOfNums y761) ++ x3)) else (none))) else (if 1 + x3.size ≤ 9223372036854775807 then (some ((⟨#[109]⟩ : ByteArray) ++ x3)) else (none))
def laws_markText.f (k : Nat) (a0 : Int) : Option (ByteArray) := if a0 ≤ 0 then (some (⟨#[109, 48]⟩ : ByteArray)) else (laws_markText.l0 k a0 (⟨#[]⟩ : ByteArray))
theorem laws_markText.mono_l : ∀ k, (∀ y0 y1, LeO (laws_markText.l0 k y0 y1) (laws_markText.l0 (k + 1) y0 y1))
 | 0 => fun _ _ r h => by simp [laws_markText.l0] at h
 | k + 1 => by
  have ih0 := laws_markText.mono_l k
  ·intro y0 y1
   unfold laws_markText.l0
   exact mo
theorem laws_markText.mono : ∀ a0 k, LeO (laws_markText.f k a0) (laws_markText.f (k + 1) a0) := by
 intro a0 k
 have ih0 := laws_markText.mono_l k
 unfold laws_markText.f
 exact mo
set_option maxHeartbeats 8000000 in
set_option maxRecDepth 100000 in
theorem laws_markText.calls (k : Nat) (a0 : Int) (r : ByteArray) (w : World) (h : laws_markText.f k a0 = some r) :
  Calls Tryz.prog 99 #[.int .i64 a0] w fun e w' => e = .returned (.string r) ∧ Below w.heap.size w w' := by
 have HB := am (Below.refl w.heap.size w)
 unfold laws_markText.f at h
 have H := h
 clear h
 by_cases c2 : a0 ≤ 0
 ·rw [if_pos c2] at H
  have c2b0 := decide_eq_true c2
  clear c2
  obtain rfl := Option.some.inj H
  go_enter Tryz.func99, Tryz.ntmps99
  go_wp2
  go_ret
  exact ⟨rf, bl⟩
 rw [if_neg c2] at H
 have c2b0 := decide_eq_false c2
 clear c2
 have H' := am H
 clear H
 go_enter Tryz.func99, Tryz.ntmps99
 go_wp2
 (try simp only [Act.put, List.setIfInBounds_toArray, List.set_cons_zero, List.set_cons_succ])
 go_loopg [0, 3] k (fun kq v0 v3 w' => ∃ (x0_1 : Int) (x3_1 : ByteArray), v0 = .int .i64 x0_1 ∧ v3 = .string x3_1 ∧ Aside0 (laws_markText.l0 kq x0_1 x3_1 = some r) ∧ Aside0 (kq ≤ k) ∧ Aside0 (Below w.heap.size w w'))
 case atStart => exact ⟨(a0), ((⟨#[]⟩ : ByteArray)), rs, rs, H', ⟨Nat.le_refl _⟩, ⟨u99HB⟩⟩
 case round =>
  clear H'
  try clear c2
  try clear c2b0
  try clear p2
  obtain ⟨x0_1, x3_1, rfl, rfl, HA, HK1, HB⟩ := hrel
  cases gk with
  | zero => exact absurd HA.out (by simp [laws_markText.l0])
  | succ k1 =>
   have H := HA.out
   clear HA
   simp only [laws_markText.l0] at H
   by_cases c3 : x0_1 > 0
   rotate_left
   ·rw [if_neg c3] at H
    have c3b0 := decide_eq_false c3
    clear c3
    revert H
    refine ifn fun c8 H => ?_
    have c8b0 := eq_true c8
    have c8b1 := decide_eq_true c8
    try have c8b2 := eq_false (Nat.not_lt.2 c8)
    obtain rfl := Option.some.inj H
    go_wp2
    go_ret
    exact ⟨rf, bl⟩
   rw [if_pos c3] at H
   have c3b0 := decide_eq_true c3
   clear c3
   obtain ⟨y761, hy761⟩ : ∃ y_ : List Int, y_ = (([(wrap64 (48 + (Int.tmod x0_1 10))) % 256] : List Int)) := ⟨_, rfl⟩
   replace H : (if (strOfNums y761).size + x3_1.size ≤ 9223372036854775807 then (laws_markText.l0 k1 (wrap64 (Int.tdiv x0_1 10)) ((strOfNums y761) ++ x3_1)) else (none)) = some r := by first | (rw [hy761]; with_reducible exact H) | (have H2_ := (Option.bind_some _ _).symm.trans H; rw [hy761]; with_reducible exact H2_) | (have H2_ := (Option.bind_some _ _).symm.trans H; with_reducible exact H2_) | with_reducible exact H | (rw [hy761]; exact H) | exact H
   have Ny761 := am hy761
   clear hy761
   revert H
   refine ifn fun c4 H => ?_
   have c4b0 := eq_true c4
   have c4b1 := decide_eq_true c4
   try have c4b2 := eq_false (Nat.not_lt.2 c4)
   have H' := am H
   clear H
   go_wp2_with (first | ((with_reducible refine gate_dst (N := 12) rfl ?_); refine Kd.R_lit (Kd.int .u8) _ 5 ?hg (N := 12) ?hd (xs := ([(wrap64 (48 + (Int.tmod x0_1 10))) % 256] : List Int)) (inner := [.int .u8 ((wrap64 (48 + (Int.tmod x0_1 10))) % 256)]) (ok := fun _ => True) (okp := fun _ => True) ?hr ?hp (fun _ hk => hk) trivial (Below.refl _ _) (Nat.le_refl _) (by simp) ?_; (case hd => rfl); (case hg => rfl); (case hr => first | (go_simp; done) | (go_simp; rfl)); (case hp => exact rp); intro v762 w5 ho6 hb hg_ hnew_; clear hg_ hnew_; (first | rw [← Ny761.out] at ho6 | (simp only [Int.reduceToNat] at ho6; rw [← Ny761.out] at ho6)); have HO763 := am (Kd.R_lower ho6 (below_size bl)); replace HB := am (below_step bl hb); clear hb ho6; have hcv7 := own_string (P := Tryz.prog) Tryz.underlying22 Tryz.underlying5 Tryz.underlying9 (Kd.own_of_R HO763.out)))
   go_roundg k1
   case measure => have := HK1.out; omega
   case rel => exact ⟨(wrap64 (Int.tdiv x0_1 10)), ((strOfNums y761) ++ x3_1), rs, rs, H', ⟨by have := HK1.out; omega⟩, ⟨u99HB⟩⟩

/-! ### laws_markFieldS: function 92 -/
theorem u92HK {p : Prop} (h : p := by repeat (first | (with_reducible first | exact HK.out | apply Kept.alloc | apply Kept.drewN | apply Kept.drew) | exact HK.out)) : p := h
theorem u92HB {p : Prop} (h : p := by repeat (first | (with_reducible first | exact HB.out | apply below_alloc | apply pw_below_drewN | apply below_drew1) | exact HB.out)) : p := h
def laws_markFieldS.l0 : Nat → List (S100) → Int → Int → Option (Int × (List (S100)))
 | 0, _, _, _ => none
 | k + 1, x0, x1, x5 => if x5 < (x0.length : Int) then ((laws_markText.f k x1).bind fun t764 => (if 0 ≤ x5 then ((some (x0.set (x5 : Int).toNat (⟨t764, (rd_T100 x0 x5).f1⟩ : S100) : List (S100))).bind fun y765 => ((laws_markText.f k (wrap64 (x1 + 1))).bind fun t766 => (laws_markFieldS.l0 k (y765.set (x5 : Int).toNat (⟨(rd_T100 y765 x5).f0, t766⟩ : S100)) (wrap64 ((wrap64 (x1 + 1)) + 1)) (wrap64 (x5 + 1))))) else (none))) else (some (x1, x0))
def laws_markFieldS.f (k : Nat) (l0 : List (S100)) (a1 : Int) : Option (Int × (List (S100))) := laws_markFieldS.l0 k l0 a1 0
theorem laws_markFieldS.mono_l : ∀ k, (∀ y0 y1 y2, LeO (laws_markFieldS.l0 k y0 y1 y2) (laws_markFieldS.l0 (k + 1) y0 y1 y2))
 | 0 => fun _ _ _ r h => by simp [laws_markFieldS.l0] at h
 | k + 1 => by
  have ih0 := laws_markFieldS.mono_l k
  ·intro y0 y1 y2
   unfold laws_markFieldS.l0
   have m0 := @laws_markText.mono
   exact mo
theorem laws_markFieldS.mono : ∀ a0 a1 k, LeO (laws_markFieldS.f k a0 a1) (laws_markFieldS.f (k + 1) a0 a1) := by
 intro a0 a1 k
 have ih0 := laws_markFieldS.mono_l k
 unfold laws_markFieldS.f
 have m0 := @laws_markText.mono
 exact mo
set_option maxHeartbeats 8000000 in
set_option maxRecDepth 100000 in
theorem laws_markFieldS.calls (k : Nat) (P0_ : Nat → Prop) (u9000_ : Value) (l0 : List (S100)) (a1 : Int) (r1 : Int) (r2 : List (S100)) (w0 w : World) (hB : Below w0.heap.size w0 w) (ho0 : Kd.R k100 100 w w0.heap.size P0_ u9000_ l0) (h : laws_markFieldS.f k l0 a1 = some (r1, r2)) :
  Calls Tryz.prog 92 #[u9000_, .int .i64 a1] w fun e w' => e = .returned (.int .i64 r1) ∧ Kd.R k100 100 w' w0.heap.size (fun k_ => (P0_ k_ ∨ w.heap.size ≤ k_)) u9000_ r2 ∧ Below w0.heap.size w0 w' ∧ Kept w w' (fun k_ => P0_ k_) := by
 have HO0 := am (show Kd.R k100 100 w w0.heap.size (fun k_ => (P0_ k_ ∨ w.heap.size ≤ k_)) u9000_ l0 from Kd.R_mono ho0 (fun k_ hk => (.inl hk)))
 have HK := am (Kept.refl w (fun k_ => P0_ k_))
 have HW0 := am hB.size
 have HB := am hB
 clear hB
 unfold laws_markFieldS.f at h
 have H := h
 clear h
 have H' := am H
 clear H
 go_enter Tryz.func92, Tryz.ntmps92
 go_wp2
 (try simp only [Act.put, List.setIfInBounds_toArray, List.set_cons_zero, List.set_cons_succ])
 go_loopg [1, 5] k (fun kq v1 v5 w' => ∃ (x0_1 : List (S100)) (x1_1 : Int) (x5_1 : Int), v1 = .int .i64 x1_1 ∧ v5 = .int .i64 x5_1 ∧ Aside0 (laws_markFieldS.l0 kq x0_1 x1_1 x5_1 = some (r1, r2)) ∧ Aside0 (kq ≤ k) ∧ Aside0 (Kd.R k100 100 w' w0.heap.size (fun k_ => (P0_ k_ ∨ w.heap.size ≤ k_)) u9000_ x0_1) ∧ Aside0 (Kept w w' (fun k_ => P0_ k_)) ∧ Aside0 (Below w0.heap.size w0 w'))
 case atStart => exact ⟨(l0), (a1), (0), rs, rs, H', ⟨Nat.le_refl _⟩, ⟨by (with_reducible repeat (first | apply Kd.R_alloc | apply Kd.R_drewN | apply Kd.R_drew)); exact HO0.out⟩, ⟨u92HK⟩, ⟨u92HB⟩⟩
 case round =>
  clear H'
  try clear p2
  obtain ⟨x0_1, x1_1, x5_1, rfl, rfl, HA, HK1, HO_0, HK, HB⟩ := hrel
  cases gk with
  | zero => exact absurd HA.out (by simp [laws_markFieldS.l0])
  | succ k1 =>
   have H := HA.out
   clear HA
   simp only [laws_markFieldS.l0] at H
   by_cases c3 : x5_1 < (x0_1.length : Int)
   rotate_left
   ·rw [if_neg c3] at H
    have c3b0 := decide_eq_false c3
    clear c3
    simp only [Option.some.injEq, Prod.mk.injEq] at H
    obtain ⟨rfl, rfl⟩ := H
    obtain ⟨Ao16, co16, eo16⟩ := Kd.R_slice HO_0.out
    subst eo16
    go_wp2
    go_ret
    exact ⟨rf, by (with_reducible repeat (first | apply Kd.R_alloc | apply Kd.R_drewN | apply Kd.R_drew)); exact HO_0.out, u92HB, u92HK⟩
   rw [if_pos c3] at H
   have c3b0 := decide_eq_true c3
   clear c3
   revert H
   refine ok1 fun t764 A4 H => ?_
   revert H
   refine ifn fun c5 H => ?_
   have c5b0 := decide_eq_true c5
   clear c5
   obtain ⟨y765, hy765⟩ : ∃ y_ : List (S100), y_ = (x0_1.set (x5_1 : Int).toNat (⟨t764, (rd_T100 x0_1 x5_1).f1⟩ : S100)) := ⟨_, rfl⟩
   replace H : ((laws_markText.f k1 (wrap64 (x1_1 + 1))).bind fun t766 => (laws_markFieldS.l0 k1 (y765.set (x5_1 : Int).toNat (⟨(rd_T100 y765 x5_1).f0, t766⟩ : S100)) (wrap64 ((wrap64 (x1_1 + 1)) + 1)) (wrap64 (x5_1 + 1)))) = some (r1, r2) := by first | (rw [hy765]; with_reducible exact H) | (have H2_ := (Option.bind_some _ _).symm.trans H; rw [hy765]; with_reducible exact H2_) | (have H2_ := (Option.bind_some _ _).symm.trans H; with_reducible exact H2_) | with_reducible exact H | (rw [hy765]; exact H) | exact H
   have Ny765 := am hy765
   clear hy765
   revert H
   refine ok1 fun t766 A7 H => ?_
   obtain ⟨y767, hy767⟩ : ∃ y_ : List (S100), y_ = (y765.set (x5_1 : Int).toNat (⟨(rd_T100 y765 x5_1).f0, t766⟩ : S100)) := ⟨_, rfl⟩
   replace H : (laws_markFieldS.l0 k1 y767 (wrap64 ((wrap64 (x1_1 + 1)) + 1)) (wrap64 (x5_1 + 1))) = some (r1, r2) := by first | (rw [hy767]; with_reducible exact H) | (have H2_ := (Option.bind_some _ _).symm.trans H; rw [hy767]; with_reducible exact H2_) | (have H2_ := (Option.bind_some _ _).symm.trans H; with_reducible exact H2_) | with_reducible exact H | (rw [hy767]; exact H) | exact H
   have Ny767 := am hy767
   clear hy767
   have H' := am H
   clear H
   obtain ⟨Ao9, co9, eo9⟩ := Kd.R_slice HO_0.out
   subst eo9
   go_wp2_with (first | (refine gl 15 Tryz.func99 #[.int .i64 x1_1] ?_; (with_reducible refine (laws_markText.calls k1 x1_1 t764 _ A4.out).mono ?_); rintro e w10 ⟨rfl, hb⟩; refine ⟨_, rfl, ?_⟩; replace HO_0 := kr HO_0 hb; replace HK := am (Kept.below (S := (fun k_ => P0_ k_)) u92HK hb); replace HB := am (below_step bl hb); clear hb; have p6 : 0 ≤ (x5_1 : Int) := od; have q6 : (x5_1 : Int) < ((x0_1.length : Int) : Int) := od; obtain ⟨go6, co6, eo6, gb6, gl6, cl6, HG6⟩ := Kd.R_form HO_0.out (by omega); (first | cases eo6 | (injection eo6 with ea_ en_ ec_; (first | subst ea_ | (injection ea_ with ea_; subst ea_)); subst ec_; clear en_)); have GB6 := am gb6; have GG6 := am HG6; clear gb6 gl6 HG6; have HMgo6 := am (show (P0_ go6 ∨ w.heap.size ≤ go6) from (HO_0.out.1 _ rfl)); obtain ⟨ce6, hcl6, hM6, hcc6, hfr6⟩ := Kd.R_elem HO_0.out z100 (x5_1 : Int) p6 q6; obtain rfl := k100_openM hM6; have hx6_0 : w10.cell? ⟨go6, (x5_1 : Int).toNat * 2, none⟩ = some (.string ((rd_T100 x0_1 x5_1).f0)) := hcc6 0 _ rfl; have hx6_1 : w10.cell? ⟨go6, (x5_1 : Int).toNat * 2 + 1, none⟩ = some (.string ((rd_T100 x0_1 x5_1).f1)) := hcc6 1 _ rfl; have hf6_0 : w10.frozen? ⟨go6, (x5_1 : Int).toNat * 2, none⟩ = false := hfr6 0; have hf6_1 : w10.frozen? ⟨go6, (x5_1 : Int).toNat * 2 + 1, none⟩ = false := hfr6 1; clear hcl6 hcc6 hfr6 hM6; replace p6 := eq_true p6; replace q6 := eq_true q6; have HX11 := am (show Kd.R k100 100 w10 w0.heap.size (fun k_ => (P0_ k_ ∨ w.heap.size ≤ k_)) (.slice (some ⟨go6, 0, none⟩) x0_1.length co9) x0_1 from (ro HO_0)); obtain ⟨ce11, hcl11, hM11, hcc11, hfr11⟩ := Kd.R_elem HX11.out z100 (x5_1 : Int) (od) (by have h_ : (x5_1 : Int) < ((x0_1.length : Int) : Int) := od; first | exact h_ | (have e_ := (Kd.R_reads' HO_0.out).1; omega) | simpa using h_); obtain rfl := k100_openM hM11; have HP11 := Kd.R_seg HX11.out (x5_1 : Int) (od) (by have h_ : (x5_1 : Int) < ((x0_1.length : Int) : Int) := od; first | exact h_ | (have e_ := (Kd.R_reads' HO_0.out).1; omega) | simpa using h_) (seg := [.string t764]) (j := 0) hcl11 hcc11 (show 1 ≤ 2 from by decide) (x' := (⟨t764, (rd_T100 x0_1 x5_1).f1⟩ : S100)) (k100_mkM _ _ _ (⟨t764, (rd_T100 x0_1 x5_1).f1⟩ : S100) ) (fun _ hk => hk); have hx11_0 := hcc11 0 _ rfl; (try simp only [show (k100).sz = 2 from rfl, Nat.mul_one, Nat.add_zero] at hx11_0); have hf11_0 := hfr11 0; (try simp only [show (k100).sz = 2 from rfl, Nat.mul_one, Nat.add_zero] at hf11_0); clear hcl11 hcc11 hfr11 hM11) | ((with_reducible refine gate_store (t := 9) (p := 17) rfl ?_); refine store_event (t := 9) (p := 17) (v := ?vo_w12) (w1 := (w10.setCell ⟨go6, (x5_1 : Int).toNat * 2, none⟩ (.string t764))) ?hg ?ho ?hn ?hr ?_; (case ho => rfl); (case hg => rfl); (case hn => rfl); (case hr => first | (go_simp; done) | (go_simp; rfl)); intro w12 hw; have hg : w10.grownBy w12 (some go6) := (by rw [hw]; exact HP11.2); have hp_ : Kd.R k100 100 w12 w0.heap.size (fun k_ => (P0_ k_ ∨ w.heap.size ≤ k_)) (.slice (some ⟨go6, 0, none⟩) x0_1.length co9) y765 := (by rw [hw, Ny765.out]; exact HP11.1); clear HP11; have n0_ := am (hp_); have n1_ := am ((by rw [hw]; exact below_set (HB.out) GB6.out : Below w0.heap.size w0 w12)); have n2_ := am (Kept.of_grown (S := (fun k_ => P0_ k_)) hg u92HK (fun k_ e_ => (HO_0.out.1 k_ e_))); clear HO_0; clear HB; clear HK; have HO_0 := n0_; have HB := n1_; have HK := n2_; clear n0_ n1_ n2_; clear hg hw hp_) | (refine gl 23 Tryz.func99 #[.int .i64 (wrap64 (x1_1 + 1))] ?_; (with_reducible refine (laws_markText.calls k1 (wrap64 (x1_1 + 1)) t766 _ A7.out).mono ?_); rintro e w13 ⟨rfl, hb⟩; refine ⟨_, rfl, ?_⟩; replace HO_0 := kr HO_0 hb; replace HK := am (Kept.below (S := (fun k_ => P0_ k_)) u92HK hb); replace HB := am (below_step bl hb); clear hb; have p8 : 0 ≤ (x5_1 : Int) := od; have q8 : (x5_1 : Int) < ((x0_1.length : Int) : Int) := od; obtain ⟨ce8, hcl8, hM8, hcc8, hfr8⟩ := Kd.R_elem HO_0.out z100 (x5_1 : Int) p8 q8; obtain rfl := k100_openM hM8; have hx8_0 : w13.cell? ⟨go6, (x5_1 : Int).toNat * 2, none⟩ = some (.string ((rd_T100 y765 x5_1).f0)) := hcc8 0 _ rfl; have hx8_1 : w13.cell? ⟨go6, (x5_1 : Int).toNat * 2 + 1, none⟩ = some (.string ((rd_T100 y765 x5_1).f1)) := hcc8 1 _ rfl; have hf8_0 : w13.frozen? ⟨go6, (x5_1 : Int).toNat * 2, none⟩ = false := hfr8 0; have hf8_1 : w13.frozen? ⟨go6, (x5_1 : Int).toNat * 2 + 1, none⟩ = false := hfr8 1; clear hcl8 hcc8 hfr8 hM8; replace p8 := eq_true p8; replace q8 := eq_true q8; have HX14 := am (show Kd.R k100 100 w13 w0.heap.size (fun k_ => (P0_ k_ ∨ w.heap.size ≤ k_)) (.slice (some ⟨go6, 0, none⟩) x0_1.length co9) y765 from (ro HO_0)); obtain ⟨ce14, hcl14, hM14, hcc14, hfr14⟩ := Kd.R_elem HX14.out z100 (x5_1 : Int) (od) (by have h_ : (x5_1 : Int) < ((x0_1.length : Int) : Int) := od; first | exact h_ | (have e_ := (Kd.R_reads' HO_0.out).1; omega) | simpa using h_); obtain rfl := k100_openM hM14; have HP14 := Kd.R_seg HX14.out (x5_1 : Int) (od) (by have h_ : (x5_1 : Int) < ((x0_1.length : Int) : Int) := od; first | exact h_ | (have e_ := (Kd.R_reads' HO_0.out).1; omega) | simpa using h_) (seg := [.string t766]) (j := 1) hcl14 hcc14 (show 2 ≤ 2 from by decide) (x' := (⟨(rd_T100 y765 x5_1).f0, t766⟩ : S100)) (k100_mkM _ _ _ (⟨(rd_T100 y765 x5_1).f0, t766⟩ : S100) ) (fun _ hk => hk); have hx14_1 := hcc14 1 _ rfl; (try simp only [show (k100).sz = 2 from rfl, Nat.mul_one, Nat.add_zero] at hx14_1); have hf14_1 := hfr14 1; (try simp only [show (k100).sz = 2 from rfl, Nat.mul_one, Nat.add_zero] at hf14_1); clear hcl14 hcc14 hfr14 hM14) | ((with_reducible refine gate_store (t := 9) (p := 25) rfl ?_); refine store_event (t := 9) (p := 25) (v := ?vo_w15) (w1 := (w13.setCell ⟨go6, (x5_1 : Int).toNat * 2 + 1, none⟩ (.string t766))) ?hg ?ho ?hn ?hr ?_; (case ho => rfl); (case hg => rfl); (case hn => rfl); (case hr => first | (go_simp; done) | (go_simp; rfl)); intro w15 hw; have hg : w13.grownBy w15 (some go6) := (by rw [hw]; exact HP14.2); have hp_ : Kd.R k100 100 w15 w0.heap.size (fun k_ => (P0_ k_ ∨ w.heap.size ≤ k_)) (.slice (some ⟨go6, 0, none⟩) x0_1.length co9) y767 := (by rw [hw, Ny767.out]; exact HP14.1); clear HP14; have n0_ := am (hp_); have n1_ := am ((by rw [hw]; exact below_set (HB.out) GB6.out : Below w0.heap.size w0 w15)); have n2_ := am (Kept.of_grown (S := (fun k_ => P0_ k_)) hg u92HK (fun k_ e_ => (HO_0.out.1 k_ e_))); clear HO_0; clear HB; clear HK; have HO_0 := n0_; have HB := n1_; have HK := n2_; clear n0_ n1_ n2_; clear hg hw hp_))
   go_roundg k1
   case measure => have := HK1.out; omega
   case rel => exact ⟨(y767), (wrap64 ((wrap64 (x1_1 + 1)) + 1)), (wrap64 (x5_1 + 1)), rs, rs, H', ⟨by have := HK1.out; omega⟩, ⟨by (with_reducible repeat (first | apply Kd.R_alloc | apply Kd.R_drewN | apply Kd.R_drew)); exact HO_0.out⟩, ⟨u92HK⟩, ⟨u92HB⟩⟩

/-! ### laws_markResp: function 30 -/
theorem u30HK {p : Prop} (h : p := by repeat (first | (with_reducible first | exact HK.out | apply Kept.alloc | apply Kept.drewN | apply Kept.drew | refine Kept.setCell ?_ (.inr GW768.out) _) | exact HK.out)) : p := h
theorem u30HB {p : Prop} (h : p := by repeat (first | (with_reducible first | exact HB.out | apply below_alloc | apply pw_below_drewN | apply below_drew1 | refine below_set ?_ GE768.out) | exact HB.out)) : p := h
def laws_markResp.f (k : Nat) (a0_0 : Int) (l0_1 : List (S100)) (a0_2 : ByteArray) (a1 : Int) : Option (Int × (List (S100))) := (laws_markFieldS.f k l0_1 a1).bind fun bt769 => (some (bt769.1, bt769.2))
theorem laws_markResp.mono : ∀ a0 a1 a2 a3 k, LeO (laws_markResp.f k a0 a1 a2 a3) (laws_markResp.f (k + 1) a0 a1 a2 a3) := by
 intro a0 a1 a2 a3 k
 unfold laws_markResp.f
 have m0 := @laws_markFieldS.mono
 exact mo
set_option maxHeartbeats 8000000 in
set_option maxRecDepth 100000 in
theorem laws_markResp.calls (k : Nat) (a0_0 : Int) (P0_1_ : Nat → Prop) (u9000_ : Value) (l0_1 : List (S100)) (a0_2 : ByteArray) (a1 : Int) (r1 : Int) (r2 : List (S100)) (w0 w : World) (hB : Below w0.heap.size w0 w) (ho0_1 : Kd.R k100 100 w w0.heap.size P0_1_ u9000_ l0_1) (h : laws_markResp.f k a0_0 l0_1 a0_2 a1 = some (r1, r2)) :
  Calls Tryz.prog 30 #[.agg #[.int .i64 a0_0, u9000_, .string a0_2], .int .i64 a1] w fun e w' => e = .returned (.int .i64 r1) ∧ Kd.R k100 100 w' w0.heap.size (fun k_ => (P0_1_ k_ ∨ w.heap.size ≤ k_)) u9000_ r2 ∧ Below w0.heap.size w0 w' ∧ Kept w w' (fun k_ => P0_1_ k_) := by
 have hu48 := Tryz.underlying48
 have HO0_1 := am (show Kd.R k100 100 w w0.heap.size (fun k_ => (P0_1_ k_ ∨ w.heap.size ≤ k_)) u9000_ l0_1 from Kd.R_mono ho0_1 (fun k_ hk => (.inl hk)))
 have HK := am (Kept.refl w (fun k_ => P0_1_ k_))
 have HW0 := am hB.size
 have HB := am hB
 clear hB
 unfold laws_markResp.f at h
 have H := h
 clear h
 revert H
 refine ok2 fun t769 t770 A3 H => ?_
 (try dsimp only at H)
 simp only [Option.some.injEq, Prod.mk.injEq] at H
 obtain ⟨rfl, rfl⟩ := H
 obtain ⟨Ao4, co4, eo4⟩ := Kd.R_slice HO0_1.out
 subst eo4
 go_enter Tryz.func30, Tryz.ntmps30
 go_wp2_with (first | (refine bx 2 #[.int .i64 a0_0, .slice Ao4 l0_1.length co4, .string a0_2] 48 ?_; intro gb768 hg w5 hbox hb; have n0_ := am (Kd.R_below (ro HO0_1) hb); have n1_ := am (Kept.below (S := (fun k_ => P0_1_ k_)) u30HK hb); have n2_ := am (below_step bl hb); have n3_ := am (hbox); have n4_ := am ((by rw [hg]; exact (by first | exact HK.out.1 | exact (show Kept w _ (fun k_ => P0_1_ k_) from u30HK).1) : w.heap.size ≤ gb768)); have n5_ := am ((by rw [hg]; exact (below_size bl) : w0.heap.size ≤ gb768)); clear HO0_1; clear HK; clear HB; have HO0_1 := n0_; have HK := n1_; have HB := n2_; have BK768 := n3_; have GW768 := n4_; have GE768 := n5_; clear n0_ n1_ n2_ n3_ n4_ n5_; clear hb hbox hg; obtain ⟨z6_0, y6_0, z6_1, y6_1, z6_2, y6_2⟩ := cl3 BK768) | (refine gl 8 Tryz.func92 #[.slice Ao4 l0_1.length co4, .int .i64 a1] ?_; (with_reducible refine (laws_markFieldS.calls k (fun k_ => some k_ = (.slice Ao4 l0_1.length co4 : Value).ownBlock) (.slice Ao4 l0_1.length co4) l0_1 a1 t769 t770 w0 _ ?side1 ?side2 A3.out).mono ?_); (case side1 => exact u30HB); (case side2 => exact Kd.R_tight rfl HO0_1.out); rintro e w7 ⟨rfl, hy0, hb, hkp⟩; refine ⟨_, rfl, ?_⟩; replace BK768 := am (blk_kept (bk BK768) hkp (fun hs_ => (fun e_ => (Kd.R_ne HO0_1.out BK768.out (by decide)) e_) hs_)); replace HK := am (Kept.then_ (S := (fun k_ => P0_1_ k_)) u30HK hkp (fun k_ hs_ => (fun e_ => (HO0_1.out.1 k_ e_.symm)) hs_)); replace HO0_1 := am (Kd.R_reok rfl hy0 (fun k_ e_ => HO0_1.out.1 k_ e_)); replace HB := am (hb); clear hb; (try clear hkp); (try clear hy0)))
 go_ret
 exact ⟨rf, by (with_reducible repeat (first | apply Kd.R_alloc | apply Kd.R_drewN | apply Kd.R_drew)); exact HO0_1.out, u30HB, u30HK⟩

/-! ### laws_heldFieldS: function 93 -/
theorem u93HB {p : Prop} (h : p := by repeat (first | (with_reducible first | exact HB.out | apply below_alloc | apply pw_below_drewN | apply below_drew1) | exact HB.out)) : p := h
def laws_heldFieldS.l0 : Nat → List (S100) → Int → Int → Option (Int)
 | 0, _, _, _ => none
 | k + 1, x0, x1, x5 => if x5 < (x0.length : Int) then (if 0 ≤ x5 then ((laws_markText.f k x1).bind fun t772 => (if ((rd_T100 x0 x5).f0).toList = t772.toList then ((laws_markText.f k (wrap64 (x1 + 1))).bind fun t774 => (if ((rd_T100 x0 x5).f1).toList = t774.toList then (laws_heldFieldS.l0 k x0 (wrap64 ((wrap64 (x1 + 1)) + 1)) (wrap64 (x5 + 1))) else (some (-1)))) else (some (-1)))) else (none)) else (some x1)
def laws_heldFieldS.f (k : Nat) (l0 : List (S100)) (a1 : Int) : Option (Int) := laws_heldFieldS.l0 k l0 a1 0
theorem laws_heldFieldS.mono_l : ∀ k, (∀ y0 y1 y2, LeO (laws_heldFieldS.l0 k y0 y1 y2) (laws_heldFieldS.l0 (k + 1) y0 y1 y2))
 | 0 => fun _ _ _ r h => by simp [laws_heldFieldS.l0] at h
 | k + 1 => by
  have ih0 := laws_heldFieldS.mono_l k
  ·intro y0 y1 y2
   unfold laws_heldFieldS.l0
   have m0 := @laws_markText.mono
   exact mo
theorem laws_heldFieldS.mono : ∀ a0 a1 k, LeO (laws_heldFieldS.f k a0 a1) (laws_heldFieldS.f (k + 1) a0 a1) := by
 intro a0 a1 k
 have ih0 := laws_heldFieldS.mono_l k
 unfold laws_heldFieldS.f
 have m0 := @laws_markText.mono
 exact mo
def laws_heldFieldS.T4 : Bool × List (List Nat × List Nat) := (true, [([], []), ([], []), ([0, 1], [0, 1]), ([2], [2]), ([3], [3]), ([], []), ([5], [5]), ([4, 6], [4, 6])])
def laws_heldFieldS.B4 : List Nat := [0, 0, 3, 7, 15, 0, 32, 127]
theorem laws_heldFieldS.tab4 : rtab .any (opsOf Tryz.f93 4) = laws_heldFieldS.T4 := by kernel_rfl
theorem laws_heldFieldS.bits4 : waitsOk laws_heldFieldS.T4.2 laws_heldFieldS.B4 = true := by kernel_rfl
def laws_heldFieldS.T7 : Bool × List (List Nat × List Nat) := (true, [([], []), ([], []), ([0, 1], [0, 1]), ([2], [2]), ([3], [3]), ([], []), ([5], [5]), ([4, 6], [4, 6])])
def laws_heldFieldS.B7 : List Nat := [0, 0, 3, 7, 15, 0, 32, 127]
theorem laws_heldFieldS.tab7 : rtab .any (opsOf Tryz.f93 7) = laws_heldFieldS.T7 := by kernel_rfl
theorem laws_heldFieldS.bits7 : waitsOk laws_heldFieldS.T7.2 laws_heldFieldS.B7 = true := by kernel_rfl
set_option maxHeartbeats 8000000 in
set_option maxRecDepth 100000 in
theorem laws_heldFieldS.calls (k : Nat) (A0 : Option Addr) (c0 : Nat) (l0 : List (S100)) (a1 : Int) (r : Int) (w : World) (hr0 : Kd.C k100 w A0 l0.length l0) (hc0 : l0.length ≤ c0) (h : laws_heldFieldS.f k l0 a1 = some r) :
  Calls Tryz.prog 93 #[.slice A0 l0.length c0, .int .i64 a1] w fun e w' => e = .returned (.int .i64 r) ∧ Below w.heap.size w w' := by
 have HR0 := am hr0
 have HC0 := am hc0
 clear hr0 hc0
 have HB := am (Below.refl w.heap.size w)
 unfold laws_heldFieldS.f at h
 have H := h
 clear h
 have H' := am H
 clear H
 go_enter Tryz.func93, Tryz.ntmps93
 go_wp2
 (try simp only [Act.put, List.setIfInBounds_toArray, List.set_cons_zero, List.set_cons_succ])
 go_loopg [1, 5] k (fun kq v1 v5 w' => ∃ (x1_1 : Int) (x5_1 : Int), v1 = .int .i64 x1_1 ∧ v5 = .int .i64 x5_1 ∧ Aside0 (laws_heldFieldS.l0 kq l0 x1_1 x5_1 = some r) ∧ Aside0 (kq ≤ k) ∧ Aside0 (Below w.heap.size w w'))
 case atStart => exact ⟨(a1), (0), rs, rs, H', ⟨Nat.le_refl _⟩, ⟨u93HB⟩⟩
 case round =>
  clear H'
  try clear p2
  obtain ⟨x1_1, x5_1, rfl, rfl, HA, HK1, HB⟩ := hrel
  cases gk with
  | zero => exact absurd HA.out (by simp [laws_heldFieldS.l0])
  | succ k1 =>
   have H := HA.out
   clear HA
   simp only [laws_heldFieldS.l0] at H
   by_cases c3 : x5_1 < (l0.length : Int)
   rotate_left
   ·rw [if_neg c3] at H
    have c3b0 := decide_eq_false c3
    clear c3
    obtain rfl := Option.some.inj H
    go_wp2
    go_ret
    exact ⟨rf, bl⟩
   rw [if_pos c3] at H
   have c3b0 := decide_eq_true c3
   clear c3
   revert H
   refine ifn fun c4 H => ?_
   have c4b0 := decide_eq_true c4
   clear c4
   revert H
   refine ok1 fun t772 A5 H => ?_
   by_cases c6 : ((rd_T100 l0 x5_1).f0).toList = t772.toList
   rotate_left
   ·rw [if_neg c6] at H
    have c6b0 : (((rd_T100 l0 x5_1).f0).toList == t772.toList) = false := beq_eq_false_iff_ne.mpr c6
    have c6b1 : (((rd_T100 l0 x5_1).f0).toList != t772.toList) = true := bne_iff_ne.mpr c6
    obtain rfl := Option.some.inj H
    try go_wp2
    replace HB := am (below_drew1 HB.out)
    have p771 : 0 ≤ (x5_1 : Int) := od
    have q771 : x5_1 < (l0.length : Int) := od
    obtain ⟨ad771, e771, hx771_0, hx771_1⟩ := at_T100 HR0.out x5_1 p771 q771
    have hw771_1 := hx771_1
    have hw771_0 := hx771_0
    cases e771
    replace hx771_0 := hcw hx771_0
    replace hx771_1 := hcw hx771_1
    replace p771 := eq_true p771
    replace q771 := eq_true q771
    refine start_ (n := 8) (S := fun w' => w'.cell? (ad771.add ((x5_1).toNat * 2)) = some (.string ((rd_T100 l0 x5_1).f0)) ∧ w'.cell? ⟨(ad771.add ((x5_1).toNat * 2)).block, (ad771.add ((x5_1).toNat * 2)).off + 1, none⟩ = some (.string ((rd_T100 l0 x5_1).f1))) (ds := []) ⟨br true [0, 8]⟩ (by kernel_rfl) rfl (by kernel_rfl) ⟨(hcw hw771_0), (hcw hw771_1)⟩ (fun hHeld => ?_); refine with_tabW laws_heldFieldS.tab4 laws_heldFieldS.bits4 (fun HT_ HW_ => ?_)
    generalize wr.drew = w17 at HB hx771_0 hx771_1 hHeld ⊢
    refine pu 0 12 [1, 7] ?_
    refine pu 1 13 [2, 6] ?_
    refine pu 2 14 [3, 5] ?_
    refine pu 3 15 [4, 4] ?_
    refine pu 5 17 [4, 1, 1, 2] ?_
    refine tk 4 16 [6, 2] ?_
    refine og 6 18 [7, 1] Tryz.func99 #[.int .i64 x1_1] (fun K hK => ?_)
    with_reducible refine (laws_markText.calls k1 x1_1 t772 _ A5.out).mono ?_
    rintro e w18 ⟨rfl, hb⟩
    refine ⟨_, rfl, ?_⟩
    replace HB := am (below_step bl hb)
    clear hb
    refine hK.out _ _ ⟨(hcw hw771_0), (hcw hw771_1)⟩ (fun hHeld => ?_)
    clear hK K
    refine nm 18 ?_
    refine pu 7 19 [8] ?_
    refine done_ (done_of HT_.out (by kernel_rfl)) ?_
    try go_wp2
    go_ret
    exact ⟨rf, bl⟩
   rw [if_pos c6] at H
   have c6b0 : (((rd_T100 l0 x5_1).f0).toList == t772.toList) = true := beq_iff_eq.mpr c6
   have c6b1 : (((rd_T100 l0 x5_1).f0).toList != t772.toList) = false := bne_eq_false_iff_eq.mpr c6
   clear c6
   revert H
   refine ok1 fun t774 A7 H => ?_
   by_cases c8 : ((rd_T100 l0 x5_1).f1).toList = t774.toList
   rotate_left
   ·rw [if_neg c8] at H
    have c8b0 : (((rd_T100 l0 x5_1).f1).toList == t774.toList) = false := beq_eq_false_iff_ne.mpr c8
    have c8b1 : (((rd_T100 l0 x5_1).f1).toList != t774.toList) = true := bne_iff_ne.mpr c8
    obtain rfl := Option.some.inj H
    try go_wp2
    replace HB := am (below_drew1 HB.out)
    have p771 : 0 ≤ (x5_1 : Int) := od
    have q771 : x5_1 < (l0.length : Int) := od
    obtain ⟨ad771, e771, hx771_0, hx771_1⟩ := at_T100 HR0.out x5_1 p771 q771
    have hw771_1 := hx771_1
    have hw771_0 := hx771_0
    cases e771
    replace hx771_0 := hcw hx771_0
    replace hx771_1 := hcw hx771_1
    replace p771 := eq_true p771
    replace q771 := eq_true q771
    refine start_ (n := 8) (S := fun w' => w'.cell? (ad771.add ((x5_1).toNat * 2)) = some (.string ((rd_T100 l0 x5_1).f0)) ∧ w'.cell? ⟨(ad771.add ((x5_1).toNat * 2)).block, (ad771.add ((x5_1).toNat * 2)).off + 1, none⟩ = some (.string ((rd_T100 l0 x5_1).f1))) (ds := []) ⟨br true [0, 8]⟩ (by kernel_rfl) rfl (by kernel_rfl) ⟨(hcw hw771_0), (hcw hw771_1)⟩ (fun hHeld => ?_); refine with_tabW laws_heldFieldS.tab4 laws_heldFieldS.bits4 (fun HT_ HW_ => ?_)
    generalize wr.drew = w13 at HB hx771_0 hx771_1 hHeld ⊢
    refine pu 0 12 [1, 7] ?_
    refine pu 1 13 [2, 6] ?_
    refine pu 2 14 [3, 5] ?_
    refine pu 3 15 [4, 4] ?_
    refine pu 5 17 [4, 1, 1, 2] ?_
    refine tk 4 16 [6, 2] ?_
    refine og 6 18 [7, 1] Tryz.func99 #[.int .i64 x1_1] (fun K hK => ?_)
    with_reducible refine (laws_markText.calls k1 x1_1 t772 _ A5.out).mono ?_
    rintro e w14 ⟨rfl, hb⟩
    refine ⟨_, rfl, ?_⟩
    replace HB := am (below_step bl hb)
    clear hb
    refine hK.out _ _ ⟨(hcw hw771_0), (hcw hw771_1)⟩ (fun hHeld => ?_)
    clear hK K
    refine nm 18 ?_
    refine pu 7 19 [8] ?_
    refine done_ (done_of HT_.out (by kernel_rfl)) ?_
    try go_wp2
    replace HB := am (below_drew1 HB.out)
    have p773 : 0 ≤ (x5_1 : Int) := od
    have q773 : x5_1 < (l0.length : Int) := od
    obtain ⟨ad773, e773, hx773_0, hx773_1⟩ := at_T100 HR0.out x5_1 p773 q773
    have hw773_1 := hx773_1
    have hw773_0 := hx773_0
    obtain rfl : ad771 = ad773 := (by injection e773)
    replace hx773_0 := hcw hx773_0
    replace hx773_1 := hcw hx773_1
    replace p773 := eq_true p773
    replace q773 := eq_true q773
    refine start_ (n := 8) (S := fun w' => w'.cell? (ad771.add ((x5_1).toNat * 2)) = some (.string ((rd_T100 l0 x5_1).f0)) ∧ w'.cell? ⟨(ad771.add ((x5_1).toNat * 2)).block, (ad771.add ((x5_1).toNat * 2)).off + 1, none⟩ = some (.string ((rd_T100 l0 x5_1).f1))) (ds := []) ⟨br true [0, 8]⟩ (by kernel_rfl) rfl (by kernel_rfl) ⟨(hcw hw773_0), (hcw hw773_1)⟩ (fun hHeld => ?_); refine with_tabW laws_heldFieldS.tab7 laws_heldFieldS.bits7 (fun HT_ HW_ => ?_)
    generalize w14.drew = w15 at HB hx773_0 hx773_1 hHeld ⊢
    refine pu 0 22 [1, 7] ?_
    refine pu 1 23 [2, 6] ?_
    refine pu 2 24 [3, 5] ?_
    refine pu 3 25 [4, 4] ?_
    refine pu 5 27 [4, 1, 1, 2] ?_
    refine tk 4 26 [6, 2] ?_
    refine og 6 28 [7, 1] Tryz.func99 #[.int .i64 (wrap64 (x1_1 + 1))] (fun K hK => ?_)
    with_reducible refine (laws_markText.calls k1 (wrap64 (x1_1 + 1)) t774 _ A7.out).mono ?_
    rintro e w16 ⟨rfl, hb⟩
    refine ⟨_, rfl, ?_⟩
    replace HB := am (below_step bl hb)
    clear hb
    refine hK.out _ _ ⟨(hcw hw773_0), (hcw hw773_1)⟩ (fun hHeld => ?_)
    clear hK K
    refine nm 28 ?_
    refine pu 7 29 [8] ?_
    refine done_ (done_of HT_.out (by kernel_rfl)) ?_
    try go_wp2
    go_ret
    exact ⟨rf, bl⟩
   rw [if_pos c8] at H
   have c8b0 : (((rd_T100 l0 x5_1).f1).toList == t774.toList) = true := beq_iff_eq.mpr c8
   have c8b1 : (((rd_T100 l0 x5_1).f1).toList != t774.toList) = false := bne_eq_false_iff_eq.mpr c8
   clear c8
   have H' := am H
   clear H
   try go_wp2
   replace HB := am (below_drew1 HB.out)
   have p771 : 0 ≤ (x5_1 : Int) := od
   have q771 : x5_1 < (l0.length : Int) := od
   obtain ⟨ad771, e771, hx771_0, hx771_1⟩ := at_T100 HR0.out x5_1 p771 q771
   have hw771_1 := hx771_1
   have hw771_0 := hx771_0
   cases e771
   replace hx771_0 := hcw hx771_0
   replace hx771_1 := hcw hx771_1
   replace p771 := eq_true p771
   replace q771 := eq_true q771
   refine start_ (n := 8) (S := fun w' => w'.cell? (ad771.add ((x5_1).toNat * 2)) = some (.string ((rd_T100 l0 x5_1).f0)) ∧ w'.cell? ⟨(ad771.add ((x5_1).toNat * 2)).block, (ad771.add ((x5_1).toNat * 2)).off + 1, none⟩ = some (.string ((rd_T100 l0 x5_1).f1))) (ds := []) ⟨br true [0, 8]⟩ (by kernel_rfl) rfl (by kernel_rfl) ⟨(hcw hw771_0), (hcw hw771_1)⟩ (fun hHeld => ?_); refine with_tabW laws_heldFieldS.tab4 laws_heldFieldS.bits4 (fun HT_ HW_ => ?_)
   generalize wr.drew = w9 at HB hx771_0 hx771_1 hHeld ⊢
   refine pu 0 12 [1, 7] ?_
   refine pu 1 13 [2, 6] ?_
   refine pu 2 14 [3, 5] ?_
   refine pu 3 15 [4, 4] ?_
   refine pu 5 17 [4, 1, 1, 2] ?_
   refine tk 4 16 [6, 2] ?_
   refine og 6 18 [7, 1] Tryz.func99 #[.int .i64 x1_1] (fun K hK => ?_)
   with_reducible refine (laws_markText.calls k1 x1_1 t772 _ A5.out).mono ?_
   rintro e w10 ⟨rfl, hb⟩
   refine ⟨_, rfl, ?_⟩
   replace HB := am (below_step bl hb)
   clear hb
   refine hK.out _ _ ⟨(hcw hw771_0), (hcw hw771_1)⟩ (fun hHeld => ?_)
   clear hK K
   refine nm 18 ?_
   refine pu 7 19 [8] ?_
   refine done_ (done_of HT_.out (by kernel_rfl)) ?_
   try go_wp2
   replace HB := am (below_drew1 HB.out)
   have p773 : 0 ≤ (x5_1 : Int) := od
   have q773 : x5_1 < (l0.length : Int) := od
   obtain ⟨ad773, e773, hx773_0, hx773_1⟩ := at_T100 HR0.out x5_1 p773 q773
   have hw773_1 := hx773_1
   have hw773_0 := hx773_0
   obtain rfl : ad771 = ad773 := (by injection e773)
   replace hx773_0 := hcw hx773_0
   replace hx773_1 := hcw hx773_1
   replace p773 := eq_true p773
   replace q773 := eq_true q773
   refine start_ (n := 8) (S := fun w' => w'.cell? (ad771.add ((x5_1).toNat * 2)) = some (.string ((rd_T100 l0 x5_1).f0)) ∧ w'.cell? ⟨(ad771.add ((x5_1).toNat * 2)).block, (ad771.add ((x5_1).toNat * 2)).off + 1, none⟩ = some (.string ((rd_T100 l0 x5_1).f1))) (ds := []) ⟨br true [0, 8]⟩ (by kernel_rfl) rfl (by kernel_rfl) ⟨(hcw hw773_0), (hcw hw773_1)⟩ (fun hHeld => ?_); refine with_tabW laws_heldFieldS.tab7 laws_heldFieldS.bits7 (fun HT_ HW_ => ?_)
   generalize w10.drew = w11 at HB hx773_0 hx773_1 hHeld ⊢
   refine pu 0 22 [1, 7] ?_
   refine pu 1 23 [2, 6] ?_
   refine pu 2 24 [3, 5] ?_
   refine pu 3 25 [4, 4] ?_
   refine pu 5 27 [4, 1, 1, 2] ?_
   refine tk 4 26 [6, 2] ?_
   refine og 6 28 [7, 1] Tryz.func99 #[.int .i64 (wrap64 (x1_1 + 1))] (fun K hK => ?_)
   with_reducible refine (laws_markText.calls k1 (wrap64 (x1_1 + 1)) t774 _ A7.out).mono ?_
   rintro e w12 ⟨rfl, hb⟩
   refine ⟨_, rfl, ?_⟩
   replace HB := am (below_step bl hb)
   clear hb
   refine hK.out _ _ ⟨(hcw hw773_0), (hcw hw773_1)⟩ (fun hHeld => ?_)
   clear hK K
   refine nm 28 ?_
   refine pu 7 29 [8] ?_
   refine done_ (done_of HT_.out (by kernel_rfl)) ?_
   try go_wp2
   go_roundg k1
   case measure => have := HK1.out; omega
   case rel => exact ⟨(wrap64 ((wrap64 (x1_1 + 1)) + 1)), (wrap64 (x5_1 + 1)), rs, rs, H', ⟨by have := HK1.out; omega⟩, ⟨u93HB⟩⟩

/-! ### laws_heldResp: function 31 -/
def laws_heldResp.f (k : Nat) (a0_0 : Int) (l0_1 : List (S100)) (a0_2 : ByteArray) (a1 : Int) : Option (Int) := (laws_heldFieldS.f k l0_1 a1).bind fun t776 => (if t776 < 0 then (some (-1)) else (some t776))
theorem laws_heldResp.mono : ∀ a0 a1 a2 a3 k, LeO (laws_heldResp.f k a0 a1 a2 a3) (laws_heldResp.f (k + 1) a0 a1 a2 a3) := by
 intro a0 a1 a2 a3 k
 unfold laws_heldResp.f
 have m0 := @laws_heldFieldS.mono
 exact mo
set_option maxHeartbeats 8000000 in
set_option maxRecDepth 100000 in
theorem laws_heldResp.calls (k : Nat) (a0_0 : Int) (A0_1 : Option Addr) (c0_1 : Nat) (l0_1 : List (S100)) (a0_2 : ByteArray) (a1 : Int) (r : Int) (w : World) (hr0_1 : Kd.C k100 w A0_1 l0_1.length l0_1) (hc0_1 : l0_1.length ≤ c0_1) (h : laws_heldResp.f k a0_0 l0_1 a0_2 a1 = some r) :
  Calls Tryz.prog 31 #[.agg #[.int .i64 a0_0, .slice A0_1 l0_1.length c0_1, .string a0_2], .int .i64 a1] w fun e w' => e = .returned (.int .i64 r) ∧ Below w.heap.size w w' := by
 have hu48 := Tryz.underlying48
 have HR0_1 := am hr0_1
 have HC0_1 := am hc0_1
 clear hr0_1 hc0_1
 have HB := am (Below.refl w.heap.size w)
 unfold laws_heldResp.f at h
 have H := h
 clear h
 revert H
 refine ok1 fun t776 A3 H => ?_
 by_cases c4 : t776 < 0
 ·rw [if_pos c4] at H
  have c4b0 := decide_eq_true c4
  clear c4
  obtain rfl := Option.some.inj H
  go_enter Tryz.func31, Tryz.ntmps31
  go_wp2_with (first | (refine bx 2 #[.int .i64 a0_0, .slice A0_1 l0_1.length c0_1, .string a0_2] 48 ?_; intro gb775 hg w5 hbox hb; have BK775 := am (hbox); have GW775 := am (sz hg : w.heap.size ≤ gb775); have GE775 := am (sz hg : w.heap.size ≤ gb775); replace HB := am (below_step bl hb); clear hb hbox hg; obtain ⟨z6_0, y6_0, z6_1, y6_1, z6_2, y6_2⟩ := cl3 BK775) | (refine gl 8 Tryz.func93 #[.slice A0_1 l0_1.length c0_1, .int .i64 a1] ?_; (with_reducible refine (laws_heldFieldS.calls k _ _ l0_1 a1 t776 _ ?side1 ?side2 A3.out).mono ?_); (case side1 => exact cb HR0_1); (case side2 => exact HC0_1.out); rintro e w7 ⟨rfl, hb⟩; refine ⟨_, rfl, ?_⟩; replace BK775 := kb BK775 hb; replace HB := am (below_step bl hb); clear hb))
  go_ret
  exact ⟨rf, bl⟩
 rw [if_neg c4] at H
 have c4b0 := decide_eq_false c4
 clear c4
 obtain rfl := Option.some.inj H
 go_enter Tryz.func31, Tryz.ntmps31
 go_wp2_with (first | (refine bx 2 #[.int .i64 a0_0, .slice A0_1 l0_1.length c0_1, .string a0_2] 48 ?_; intro gb775 hg w8 hbox hb; have BK775 := am (hbox); have GW775 := am (sz hg : w.heap.size ≤ gb775); have GE775 := am (sz hg : w.heap.size ≤ gb775); replace HB := am (below_step bl hb); clear hb hbox hg; obtain ⟨z9_0, y9_0, z9_1, y9_1, z9_2, y9_2⟩ := cl3 BK775) | (refine gl 8 Tryz.func93 #[.slice A0_1 l0_1.length c0_1, .int .i64 a1] ?_; (with_reducible refine (laws_heldFieldS.calls k _ _ l0_1 a1 t776 _ ?side1 ?side2 A3.out).mono ?_); (case side1 => exact cb HR0_1); (case side2 => exact HC0_1.out); rintro e w10 ⟨rfl, hb⟩; refine ⟨_, rfl, ?_⟩; replace BK775 := kb BK775 hb; replace HB := am (below_step bl hb); clear hb))
 go_ret
 exact ⟨rf, bl⟩

end Go.Proofs.YtnmanegjgidgcaaGreatDoor.All
