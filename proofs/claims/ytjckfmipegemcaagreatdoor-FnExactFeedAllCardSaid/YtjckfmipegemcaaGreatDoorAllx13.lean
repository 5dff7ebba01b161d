-- Written by a program of this session (wip/tools/hprint.py) out of the translation. Lean checks it.
import Derived.Test.YtjckfmipegemcaaGreatDoorAllx0
import Derived.Test.YtjckfmipegemcaaGreatDoorAllx12
namespace Go.Proofs.YtjckfmipegemcaaGreatDoor.All
open Go.RowKit Go.Proofs.YtjckfmipegemcaaGreatDoorW.PrintWords Go.Proofs.YtjckfmipegemcaaGreatDoorW.PrintLast Go.Proofs.YtjckfmipegemcaaGreatDoorW.PrintMore
attribute [local go_sem] max2_int min2_int max_two min_two max_three min_three max_four min_four   -- for this text's walks alone
set_option linter.unusedVariables false
set_option linter.unusedSimpArgs false

/-! ### laws_heldReqS: function 20 -/
theorem u20HB {p : Prop} (h : p := by repeat (first | (with_reducible first | exact HB.out | apply below_alloc | apply pw_below_drewN | apply below_drew1) | exact HB.out)) : p := h
def laws_heldReqS.l0 : Nat → List (S40) → Int → Int → Option (Int)
 | 0, _, _, _ => none
 | k + 1, x0, x1, x5 => if x5 < (x0.length : Int) then (if 0 ≤ x5 then (if ((rd_T40 x0 x5).f0) = x1 then ((laws_markText.f k (wrap64 (x1 + 1))).bind fun t541 => (if ((rd_T40 x0 x5).f1).toList = t541.toList then ((laws_heldFieldS.f k ((rd_T40 x0 x5).f2) (wrap64 ((wrap64 (x1 + 1)) + 1))).bind fun t543 => (if t543 < 0 then (some (-1)) else ((laws_markText.f k t543).bind fun t545 => (if ((rd_T40 x0 x5).f3).toList = t545.toList then (laws_heldReqS.l0 k x0 (wrap64 (t543 + 1)) (wrap64 (x5 + 1))) else (some (-1)))))) else (some (-1)))) else (some (-1))) else (none)) else (some x1)
def laws_heldReqS.f (k : Nat) (l0 : List (S40)) (a1 : Int) : Option (Int) := laws_heldReqS.l0 k l0 a1 0
theorem laws_heldReqS.mono_l : ∀ k, (∀ y0 y1 y2, LeO (laws_heldReqS.l0 k y0 y1 y2) (laws_heldReqS.l0 (k + 1) y0 y1 y2))
 | 0 => fun _ _ _ r h => by simp [laws_heldReqS.l0] at h
 | k + 1 => by
  have ih0 := laws_heldReqS.mono_l k
  ·intro y0 y1 y2
   unfold laws_heldReqS.l0
   have m0 := @laws_heldFieldS.mono
   have m1 := @laws_markText.mono
   exact mo
theorem laws_heldReqS.mono : ∀ a0 a1 k, LeO (laws_heldReqS.f k a0 a1) (laws_heldReqS.f (k + 1) a0 a1) := by
 intro a0 a1 k
 have ih0 := laws_heldReqS.mono_l k
 unfold laws_heldReqS.f
 have m0 := @laws_heldFieldS.mono
 have m1 := @laws_markText.mono
 exact mo
def laws_heldReqS.T7 : Bool × List (List Nat × List Nat) := (true, [([], []), ([], []), ([0, 1], [0, 1]), ([2], [2]), ([3], [3]), ([], []), ([5], [5]), ([4, 6], [4, 6])])
def laws_heldReqS.B7 : List Nat := [0, 0, 3, 7, 15, 0, 32, 127]
theorem laws_heldReqS.tab7 : rtab .any (opsOf Tryz.f20 7) = laws_heldReqS.T7 := by kernel_rfl
theorem laws_heldReqS.bits7 : waitsOk laws_heldReqS.T7.2 laws_heldReqS.B7 = true := by kernel_rfl
def laws_heldReqS.T13 : Bool × List (List Nat × List Nat) := (true, [([], []), ([], []), ([0, 1], [0, 1]), ([2], [2]), ([3], [3]), ([], []), ([5], [5]), ([4, 6], [4, 6])])
def laws_heldReqS.B13 : List Nat := [0, 0, 3, 7, 15, 0, 32, 127]
theorem laws_heldReqS.tab13 : rtab .any (opsOf Tryz.f20 13) = laws_heldReqS.T13 := by kernel_rfl
theorem laws_heldReqS.bits13 : waitsOk laws_heldReqS.T13.2 laws_heldReqS.B13 = true := by kernel_rfl
set_option maxHeartbeats 8000000 in
set_option maxRecDepth 100000 in
theorem laws_heldReqS.calls (k : Nat) (A0 : Option Addr) (c0 : Nat) (l0 : List (S40)) (a1 : Int) (r : Int) (w : World) (hr0 : Kd.C k40 w A0 l0.length l0) (hc0 : l0.length ≤ c0) (h : laws_heldReqS.f k l0 a1 = some r) :
  Calls Tryz.prog 20 #[.slice A0 l0.length c0, .int .i64 a1] w fun e w' => e = .returned (.int .i64 r) ∧ Below w.heap.size w w' := by
 have HR0 := am hr0
 have HC0 := am hc0
 clear hr0 hc0
 have HB := am (Below.refl w.heap.size w)
 unfold laws_heldReqS.f at h
 have H := h
 clear h
 have H' := am H
 clear H
 go_enter Tryz.func20, Tryz.ntmps20
 go_wp2
 (try simp only [Act.put, List.setIfInBounds_toArray, List.set_cons_zero, List.set_cons_succ])
 go_loopg [1, 5] k (fun kq v1 v5 w' => ∃ (x1_1 : Int) (x5_1 : Int), v1 = .int .i64 x1_1 ∧ v5 = .int .i64 x5_1 ∧ Aside0 (laws_heldReqS.l0 kq l0 x1_1 x5_1 = some r) ∧ Aside0 (kq ≤ k) ∧ Aside0 (Below w.heap.size w w'))
 case atStart => exact ⟨(a1), (0), rs, rs, H', ⟨Nat.le_refl _⟩, ⟨u20HB⟩⟩
 case round =>
  clear H'
  try clear c2
  try clear p2
  obtain ⟨x1_1, x5_1, rfl, rfl, HA, HK1, HB⟩ := hrel
  cases gk with
  | zero => exact absurd HA.out (by simp [laws_heldReqS.l0])
  | succ k1 =>
   have H := HA.out
   clear HA
   simp only [laws_heldReqS.l0] at H
   by_cases c3 : x5_1 < (l0.length : Int)
   rotate_left
   ·rw [if_neg c3] at H
    have c3b0 := decide_eq_false c3
    clear c3
    obtain rfl := Option.some.inj H
    go_wp2
    go_ret
    exact ⟨rf, bl⟩
   rw [if_pos c3] at H
   have c3b0 := decide_eq_true c3
   clear c3
   revert H
   refine ifn fun c4 H => ?_
   have c4b0 := decide_eq_true c4
   clear c4
   by_cases c5 : ((rd_T40 l0 x5_1).f0) = x1_1
   rotate_left
   ·rw [if_neg c5] at H
    have c5b0 : (((rd_T40 l0 x5_1).f0) == x1_1) = false := beq_eq_false_iff_ne.mpr c5
    have c5b1 : (((rd_T40 l0 x5_1).f0) != x1_1) = true := bne_iff_ne.mpr c5
    obtain rfl := Option.some.inj H
    have p539 : 0 ≤ (x5_1 : Int) := od
    have q539 : x5_1 < (l0.length : Int) := od
    try clear hx540_0
    try clear hx540_1
    try clear hx540_2
    try clear hx540_3
    try clear hx542_0
    try clear hx542_1
    try clear hx542_2
    try clear hx542_3
    try clear hx544_0
    try clear hx544_1
    try clear hx544_2
    try clear hx544_3
    try clear hHeld
    obtain ⟨ad539, A539_2, c539_2, e539, hx539_0, hx539_1, hx539_2, hx539_3, hl539_2, hi539_2⟩ := at_T40 HR0.out x5_1 p539 q539
    cases e539
    replace hx539_0 := hcw hx539_0
    replace hx539_1 := hcw hx539_1
    replace hx539_2 := hcw hx539_2
    replace hx539_3 := hcw hx539_3
    have HR539_2 := am hi539_2
    have HC539_2 := am hl539_2
    clear hi539_2 hl539_2
    replace p539 := eq_true p539
    replace q539 := eq_true q539
    go_wp2
    go_ret
    exact ⟨rf, bl⟩
   rw [if_pos c5] at H
   have c5b0 : (((rd_T40 l0 x5_1).f0) == x1_1) = true := beq_iff_eq.mpr c5
   have c5b1 : (((rd_T40 l0 x5_1).f0) != x1_1) = false := bne_eq_false_iff_eq.mpr c5
   clear c5
   revert H
   refine ok1 fun t541 A6 H => ?_
   have HH7 := am H
   clear H
   have p539 : 0 ≤ (x5_1 : Int) := od
   have q539 : x5_1 < (l0.length : Int) := od
   obtain ⟨ad539, A539_2, c539_2, e539, hx539_0, hx539_1, hx539_2, hx539_3, hl539_2, hi539_2⟩ := at_T40 HR0.out x5_1 p539 q539
   cases e539
   replace hx539_0 := hcw hx539_0
   replace hx539_1 := hcw hx539_1
   replace hx539_2 := hcw hx539_2
   replace hx539_3 := hcw hx539_3
   have HR539_2 := am hi539_2
   have HC539_2 := am hl539_2
   clear hi539_2 hl539_2
   replace p539 := eq_true p539
   replace q539 := eq_true q539
   try go_wp2
   replace HB := am (below_drew1 HB.out)
   have p540 : 0 ≤ (x5_1 : Int) := od
   have q540 : x5_1 < (l0.length : Int) := od
   try clear hx539_0
   try clear hx539_1
   try clear hx539_2
   try clear hx539_3
   try clear hHeld
   obtain ⟨ad540, A540_2, c540_2, e540, hx540_0, hx540_1, hx540_2, hx540_3, hl540_2, hi540_2⟩ := at_T40 HR0.out x5_1 p540 q540
   have hw540_3 := hx540_3
   have hw540_2 := hx540_2
   have hw540_1 := hx540_1
   have hw540_0 := hx540_0
   obtain rfl : ad539 = ad540 := (by injection e540)
   replace hx540_0 := hcw hx540_0
   replace hx540_1 := hcw hx540_1
   replace hx540_2 := hcw hx540_2
   replace hx540_3 := hcw hx540_3
   have HR540_2 := am hi540_2
   have HC540_2 := am hl540_2
   clear hi540_2 hl540_2
   replace p540 := eq_true p540
   replace q540 := eq_true q540
   refine start_ (n := 8) (S := fun w' => w'.cell? (ad539.add ((x5_1).toNat * 4)) = some (.int .i64 ((rd_T40 l0 x5_1).f0)) ∧ w'.cell? ⟨(ad539.add ((x5_1).toNat * 4)).block, (ad539.add ((x5_1).toNat * 4)).off + 1, none⟩ = some (.string ((rd_T40 l0 x5_1).f1)) ∧ w'.cell? ⟨(ad539.add ((x5_1).toNat * 4)).block, (ad539.add ((x5_1).toNat * 4)).off + 2, none⟩ = some (.slice A540_2 ((rd_T40 l0 x5_1).f2).length c540_2) ∧ w'.cell? ⟨(ad539.add ((x5_1).toNat * 4)).block, (ad539.add ((x5_1).toNat * 4)).off + 3, none⟩ = some (.string ((rd_T40 l0 x5_1).f3))) (ds := []) ⟨br true [0, 8]⟩ (by kernel_rfl) rfl (by kernel_rfl) ⟨(hcw hw540_0), (hcw hw540_1), (hcw hw540_2), (hcw hw540_3)⟩ (fun hHeld => ?_); refine with_tabW laws_heldReqS.tab7 laws_heldReqS.bits7 (fun HT_ HW_ => ?_)
   generalize wr.drew = w8 at HB HR540_2 hx540_0 hx540_1 hx540_2 hx540_3 hHeld ⊢
   refine pu 0 21 [1, 7] ?_
   refine pu 1 22 [2, 6] ?_
   refine pu 2 23 [3, 5] ?_
   refine pu 3 24 [4, 4] ?_
   refine pu 5 26 [4, 1, 1, 2] ?_
   refine tk 4 25 [6, 2] ?_
   refine og 6 27 [7, 1] Tryz.func47 #[.int .i64 (wrap64 (x1_1 + 1))] (fun K hK => ?_)
   with_reducible refine (laws_markText.calls k1 (wrap64 (x1_1 + 1)) t541 _ A6.out).mono ?_
   rintro e w9 ⟨rfl, hb⟩
   refine ⟨_, rfl, ?_⟩
   replace HB := am (below_step bl hb)
   clear hb
   refine hK.out _ _ ⟨(hcw hw540_0), (hcw hw540_1), (hcw hw540_2), (hcw hw540_3)⟩ (fun hHeld => ?_)
   clear hK K
   refine nm 27 ?_
   refine pu 7 28 [8] ?_
   refine done_ (done_of HT_.out (by kernel_rfl)) ?_
   go_upto_if 28 with (fail)
   have H := HH7.out
   clear HH7
   by_cases c10 : ((rd_T40 l0 x5_1).f1).toList = t541.toList
   rotate_left
   ·rw [if_neg c10] at H
    have c10b0 : (((rd_T40 l0 x5_1).f1).toList == t541.toList) = false := beq_eq_false_iff_ne.mpr c10
    have c10b1 : (((rd_T40 l0 x5_1).f1).toList != t541.toList) = true := bne_iff_ne.mpr c10
    (first | rw [c10b0] | (simp only [i64_w, i32_w]; rw [c10b0]) | skip)
    obtain rfl := Option.some.inj H
    go_wp2
    go_ret
    exact ⟨rf, bl⟩
   rw [if_pos c10] at H
   have c10b0 : (((rd_T40 l0 x5_1).f1).toList == t541.toList) = true := beq_iff_eq.mpr c10
   have c10b1 : (((rd_T40 l0 x5_1).f1).toList != t541.toList) = false := bne_eq_false_iff_eq.mpr c10
   clear c10
   (first | rw [c10b0] | (simp only [i64_w, i32_w]; rw [c10b0]) | skip)
   revert H
   refine ok1 fun t543 A11 H => ?_
   have HH12 := am H
   clear H
   have p542 : 0 ≤ (x5_1 : Int) := od
   have q542 : x5_1 < (l0.length : Int) := od
   try clear hx539_0
   try clear hx539_1
   try clear hx539_2
   try clear hx539_3
   try clear hx540_0
   try clear hx540_1
   try clear hx540_2
   try clear hx540_3
   try clear hHeld
   obtain ⟨ad542, A542_2, c542_2, e542, hx542_0, hx542_1, hx542_2, hx542_3, hl542_2, hi542_2⟩ := at_T40 HR0.out x5_1 p542 q542
   obtain rfl : ad539 = ad542 := (by injection e542)
   replace hx542_0 := hcw hx542_0
   replace hx542_1 := hcw hx542_1
   replace hx542_2 := hcw hx542_2
   replace hx542_3 := hcw hx542_3
   have HR542_2 := am hi542_2
   have HC542_2 := am hl542_2
   clear hi542_2 hl542_2
   replace p542 := eq_true p542
   replace q542 := eq_true q542
   go_upto_if 39 with ((with_reducible refine gw ?_); first | (refine gl 37 Tryz.func49 #[.slice A542_2 ((rd_T40 l0 x5_1).f2).length c542_2, .int .i64 (wrap64 ((wrap64 (x1_1 + 1)) + 1))] ?_; (with_reducible refine (laws_heldFieldS.calls k1 _ _ ((rd_T40 l0 x5_1).f2) (wrap64 ((wrap64 (x1_1 + 1)) + 1)) t543 _ ?side1 ?side2 A11.out).mono ?_); (case side1 => exact cb HR542_2); (case side2 => exact HC542_2.out); rintro e w13 ⟨rfl, hb⟩; refine ⟨_, rfl, ?_⟩; replace HB := am (below_step bl hb); clear hb))
   have H := HH12.out
   clear HH12
   by_cases c14 : t543 < 0
   ·rw [if_pos c14] at H
    have c14b0 := decide_eq_true c14
    clear c14
    (first | rw [c14b0] | (simp only [i64_w, i32_w]; rw [c14b0]) | skip)
    obtain rfl := Option.some.inj H
    go_wp2
    go_ret
    exact ⟨rf, bl⟩
   rw [if_neg c14] at H
   have c14b0 := decide_eq_false c14
   clear c14
   (first | rw [c14b0] | (simp only [i64_w, i32_w]; rw [c14b0]) | skip)
   revert H
   refine ok1 fun t545 A15 H => ?_
   have HH16 := am H
   clear H
   try go_wp2
   replace HB := am (below_drew1 HB.out)
   have p544 : 0 ≤ (x5_1 : Int) := od
   have q544 : x5_1 < (l0.length : Int) := od
   try clear hx539_0
   try clear hx539_1
   try clear hx539_2
   try clear hx539_3
   try clear hx540_0
   try clear hx540_1
   try clear hx540_2
   try clear hx540_3
   try clear hx542_0
   try clear hx542_1
   try clear hx542_2
   try clear hx542_3
   try clear hHeld
   obtain ⟨ad544, A544_2, c544_2, e544, hx544_0, hx544_1, hx544_2, hx544_3, hl544_2, hi544_2⟩ := at_T40 HR0.out x5_1 p544 q544
   have hw544_3 := hx544_3
   have hw544_2 := hx544_2
   have hw544_1 := hx544_1
   have hw544_0 := hx544_0
   obtain rfl : ad539 = ad544 := (by injection e544)
   replace hx544_0 := hcw hx544_0
   replace hx544_1 := hcw hx544_1
   replace hx544_2 := hcw hx544_2
   replace hx544_3 := hcw hx544_3
   have HR544_2 := am hi544_2
   have HC544_2 := am hl544_2
   clear hi544_2 hl544_2
   replace p544 := eq_true p544
   replace q544 := eq_true q544
   refine start_ (n := 8) (S := fun w' => w'.cell? (ad539.add ((x5_1).toNat * 4)) = some (.int .i64 ((rd_T40 l0 x5_1).f0)) ∧ w'.cell? ⟨(ad539.add ((x5_1).toNat * 4)).block, (ad539.add ((x5_1).toNat * 4)).off + 1, none⟩ = some (.string ((rd_T40 l0 x5_1).f1)) ∧ w'.cell? ⟨(ad539.add ((x5_1).toNat * 4)).block, (ad539.add ((x5_1).toNat * 4)).off + 2, none⟩ = some (.slice A544_2 ((rd_T40 l0 x5_1).f2).length c544_2) ∧ w'.cell? ⟨(ad539.add ((x5_1).toNat * 4)).block, (ad539.add ((x5_1).toNat * 4)).off + 3, none⟩ = some (.string ((rd_T40 l0 x5_1).f3))) (ds := []) ⟨br true [0, 8]⟩ (by kernel_rfl) rfl (by kernel_rfl) ⟨(hcw hw544_0), (hcw hw544_1), (hcw hw544_2), (hcw hw544_3)⟩ (fun hHeld => ?_); refine with_tabW laws_heldReqS.tab13 laws_heldReqS.bits13 (fun HT_ HW_ => ?_)
   generalize w13.drew = w17 at HB HR544_2 hx544_0 hx544_1 hx544_2 hx544_3 hHeld ⊢
   refine pu 0 40 [1, 7] ?_
   refine pu 1 41 [2, 6] ?_
   refine pu 2 42 [3, 5] ?_
   refine pu 3 43 [4, 4] ?_
   refine pu 5 45 [4, 1, 1, 2] ?_
   refine tk 4 44 [6, 2] ?_
   refine og 6 46 [7, 1] Tryz.func47 #[.int .i64 t543] (fun K hK => ?_)
   with_reducible refine (laws_markText.calls k1 t543 t545 _ A15.out).mono ?_
   rintro e w18 ⟨rfl, hb⟩
   refine ⟨_, rfl, ?_⟩
   replace HB := am (below_step bl hb)
   clear hb
   refine hK.out _ _ ⟨(hcw hw544_0), (hcw hw544_1), (hcw hw544_2), (hcw hw544_3)⟩ (fun hHeld => ?_)
   clear hK K
   refine nm 46 ?_
   refine pu 7 47 [8] ?_
   refine done_ (done_of HT_.out (by kernel_rfl)) ?_
   go_upto_if 47 with (fail)
   have H := HH16.out
   clear HH16
   by_cases c19 : ((rd_T40 l0 x5_1).f3).toList = t545.toList
   rotate_left
   ·rw [if_neg c19] at H
    have c19b0 : (((rd_T40 l0 x5_1).f3).toList == t545.toList) = false := beq_eq_false_iff_ne.mpr c19
    have c19b1 : (((rd_T40 l0 x5_1).f3).toList != t545.toList) = true := bne_iff_ne.mpr c19
    (first | rw [c19b0] | (simp only [i64_w, i32_w]; rw [c19b0]) | skip)
    obtain rfl := Option.some.inj H
    go_wp2
    go_ret
    exact ⟨rf, bl⟩
   rw [if_pos c19] at H
   have c19b0 : (((rd_T40 l0 x5_1).f3).toList == t545.toList) = true := beq_iff_eq.mpr c19
   have c19b1 : (((rd_T40 l0 x5_1).f3).toList != t545.toList) = false := bne_eq_false_iff_eq.mpr c19
   clear c19
   (first | rw [c19b0] | (simp only [i64_w, i32_w]; rw [c19b0]) | skip)
   have H' := am H
   clear H
   go_wp2
   go_roundg k1
   case measure => have := HK1.out; omega
   case rel => exact ⟨(wrap64 (t543 + 1)), (wrap64 (x5_1 + 1)), rs, rs, H', ⟨by have := HK1.out; omega⟩, ⟨u20HB⟩⟩

/-! ### rows that are read by calls, as the walks of FnExactFeed and FnExactFeedAll hold them -/
theorem setCell_size_ (w : World) (p : Addr) (u : Value) : (w.setCell p u).heap.size = w.heap.size := by simp [World.setCell]
theorem Kd.S_kept_ {α : Type} {d : Kd α} {e base : Nat} {ok S : Nat → Prop} {w w1 : World} {v : Value} {xs : List α} (h : Kd.S d e w base ok v xs) (hk : Kept w w1 S) (hok : ∀ k, ok k → ¬ S k) : Kd.S d e w1 base ok v xs := Kd.S_step h (fun k ho hlt => hk.2 k hlt (hok k ho))
theorem Kd.R_kept_ {α : Type} {d : Kd α} {e base : Nat} {ok S : Nat → Prop} {w w1 : World} {v : Value} {xs : List α} (h : d.R e w base ok v xs) (hk : Kept w w1 S) (hok : ∀ k, ok k → ¬ S k) : d.R e w1 base ok v xs := Kd.R_step h (fun k ho hlt => hk.2 k hlt (hok k ho))
theorem held_S {k : Nat} {A : Option Addr} {n c base : Nat} {ok : Nat → Prop} {xs : List S40} {a1 r : Int} {w : World} (hS : Kd.S k40 40 w base ok (.slice A n c) xs) (h : laws_heldReqS.f k xs a1 = some r) :
  Calls Tryz.prog 20 #[.slice A n c, .int .i64 a1] w fun e w' => e = .returned (.int .i64 r) ∧ Below w.heap.size w w' := by
 obtain ⟨e, h1, h2⟩ := Kd.S_reads' hS
 subst e
 exact laws_heldReqS.calls k A c xs a1 r w h2 h1 h
theorem eq_SN {k : Nat} {A A' : Option Addr} {n c n' c' base base' : Nat} {ok ok' : Nat → Prop} {xs ys : List S40} {r : Bool} {w : World} (hS : Kd.S k40 40 w base ok (.slice A n c) xs) (hN : Kd.N k40 40 w base' ok' (.slice A' n' c') ys) (h : laws_eqReqS.f k xs ys = some r) :
  Calls Tryz.prog 18 #[.slice A n c, .slice A' n' c'] w fun e w' => e = .returned (.bool r) ∧ Below w.heap.size w w' := by
 obtain ⟨e, h1, h2⟩ := Kd.S_reads' hS
 obtain ⟨e', h1', h2'⟩ := Kd.N_reads' hN
 subst e
 subst e'
 exact laws_eqReqS.calls k A c xs A' c' ys r w h2 h1 h2' h1' h

end Go.Proofs.YtjckfmipegemcaaGreatDoor.All
