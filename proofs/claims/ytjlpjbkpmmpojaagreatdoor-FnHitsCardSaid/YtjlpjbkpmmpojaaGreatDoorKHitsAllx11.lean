-- Written by a program of this session (wip/tools/hprint.py) out of the translation. Lean checks it.
import Derived.Test.YtjlpjbkpmmpojaaGreatDoorKHitsAllx0
import Derived.Test.YtjlpjbkpmmpojaaGreatDoorKHitsAllx7
import Derived.Test.YtjlpjbkpmmpojaaGreatDoorKHitsAllx8
import Derived.Test.YtjlpjbkpmmpojaaGreatDoorKHitsAllx10
namespace Go.Proofs.YtjlpjbkpmmpojaaGreatDoor.All
open Go.RowKit Go.Proofs.YtjlpjbkpmmpojaaGreatDoorW.PrintWords Go.Proofs.YtjlpjbkpmmpojaaGreatDoorW.PrintLast Go.Proofs.YtjlpjbkpmmpojaaGreatDoorW.PrintMore
attribute [local go_sem] max2_int min2_int max_two min_two max_three min_three max_four min_four  -- for this text's walks alone
set_option linter.unusedVariables false
set_option linter.unusedSimpArgs false

/-! ### spec_MayKeep: function 30 -/
attribute [local go_sem high] ccf0 ccf1 ccf2 ccf3 ccf4 ccf5
theorem u30HB {p : Prop} (h : p := by repeat (first | (with_reducible first | exact HB.out | apply below_alloc | apply pw_below_drewN | apply below_drew1 | refine below_set ?_ GE488.out | refine below_set ?_ GE489.out) | exact HB.out)) : p := h
def spec_MayKeep.j0 : Nat → Bool → Int → ByteArray → List (S116) → ByteArray → Int → List (S116) → ByteArray → Option (Bool)
 | 0, _, _, _, _, _, _, _, _ => none
 | k + 1, x24, x489000, x489001, x489002, x489003, x490000, x490001, x490002 => if x24 = true then (some false) else ((spec_CcOf.f k x489002).bind fun bt492 => ((spec_CcOf.f k x490001).bind fun bt498 => (if bt492.1 = true then (some false) else (if bt498.1 = true then (some false) else (if bt498.2.2.1 = true then (some false) else (if bt498.2.2.2.2.1 = true then ((spec_VaryOf.f k x490001).bind fun t506 => ((spec_l9Names.f k t506).bind fun t509 => (some t509))) else (some false)))))))
def spec_MayKeep.f (k : Nat) (a0_0 : Int) (a0_1 : ByteArray) (l0_2 : List (S116)) (a0_3 : ByteArray) (a1_0 : Int) (l1_1 : List (S116)) (a1_2 : ByteArray) : Option (Bool) := (spec_ReqOk.f k a0_0 a0_1 l0_2 a0_3).bind fun t490 => (if t490 = true then ((spec_RespOk.f k a1_0 l1_1 a1_2).bind fun t491 => (if t491 = true then (if a0_0 = 1 then (spec_MayKeep.j0 k (a1_0 != 200) a0_0 a0_1 l0_2 a0_3 a1_0 l1_1 a1_2) else (spec_MayKeep.j0 k true a0_0 a0_1 l0_2 a0_3 a1_0 l1_1 a1_2)) else (spec_MayKeep.j0 k true a0_0 a0_1 l0_2 a0_3 a1_0 l1_1 a1_2))) else (spec_MayKeep.j0 k true a0_0 a0_1 l0_2 a0_3 a1_0 l1_1 a1_2))
def spec_MayKeep.T3 : Bool × List (List Nat × List Nat) := (true, [([], []), ([0], [0]), ([1], [1]), ([], []), ([3], [3]), ([4, 2], [4]), ([], []), ([], []), ([6, 2, 5, 0, 1, 2, 6, 7], [2, 6]), ([7, 5, 8, 0, 1, 2, 3, 4, 5, 6, 7, 8], [5, 7])])
def spec_MayKeep.B3 : List Nat := [0, 1, 3, 0, 8, 31, 0, 0, 255, 511]
theorem spec_MayKeep.tab3 : rtab .any (opsOf Tryz.f30 3) = spec_MayKeep.T3 := by kernel_rfl
theorem spec_MayKeep.bits3 : waitsOk spec_MayKeep.T3.2 spec_MayKeep.B3 = true := by kernel_rfl
set_option maxHeartbeats 8000000 in
set_option maxRecDepth 100000 in
theorem spec_MayKeep.calls (k : Nat) (a0_0 : Int) (a0_1 : ByteArray) (A0_2 : Option Addr) (c0_2 : Nat) (l0_2 : List (S116)) (a0_3 : ByteArray) (a1_0 : Int) (A1_1 : Option Addr) (c1_1 : Nat) (l1_1 : List (S116)) (a1_2 : ByteArray) (r : Bool) (w : World) (hr0_2 : Kd.C k116 w A0_2 l0_2.length l0_2) (hc0_2 : l0_2.length ≤ c0_2) (hr1_1 : Kd.C k116 w A1_1 l1_1.length l1_1) (hc1_1 : l1_1.length ≤ c1_1) (h : spec_MayKeep.f k a0_0 a0_1 l0_2 a0_3 a1_0 l1_1 a1_2 = some r) :
  Calls Tryz.prog 30 #[.agg #[.int .i64 a0_0, .string a0_1, .slice A0_2 l0_2.length c0_2, .string a0_3], .agg #[.int .i64 a1_0, .slice A1_1 l1_1.length c1_1, .string a1_2]] w fun e w' => e = .returned (.bool r) ∧ Below w.heap.size w w' := by
 have hu50 := Tryz.underlying50
 have hu29 := Tryz.underlying29
 have hu42 := Tryz.underlying42
 have HR0_2 := am hr0_2
 have HC0_2 := am hc0_2
 clear hr0_2 hc0_2
 have HR1_1 := am hr1_1
 have HC1_1 := am hc1_1
 clear hr1_1 hc1_1
 have HB := am (Below.refl w.heap.size w)
 unfold spec_MayKeep.f at h
 have H := h
 clear h
 have HC3 := am H
 clear H
 go_enter Tryz.func30, Tryz.ntmps30
 go_upto_region 1 with ((with_reducible refine gw ?_); first | (refine bx 2 #[.int .i64 a0_0, .string a0_1, .slice A0_2 l0_2.length c0_2, .string a0_3] 50 ?_; intro gb488 hg w4 hbox hb; have BK488 := am (hbox); have GW488 := am (sz hg : w.heap.size ≤ gb488); have GE488 := am (sz hg : w.heap.size ≤ gb488); replace HB := am (below_step bl hb); clear hb hbox hg) | (refine bx 3 #[.int .i64 a1_0, .slice A1_1 l1_1.length c1_1, .string a1_2] 29 ?_; intro gb489 hg w5 hbox hb; have BK489 := am (hbox); have GW489 := am (sz hg : w.heap.size ≤ gb489); have GE489 := am (sz hg : w.heap.size ≤ gb489); replace HB := am (below_step bl hb); have NB488_489 := am (nl hg BK488 : gb488 ≠ gb489); have NB489_488 := am (ng hg BK488 : gb489 ≠ gb488); replace BK488 := kb BK488 hb; clear hb hbox hg))
 (try simp only [Act.put, List.setIfInBounds_toArray, List.set_cons_zero, List.set_cons_succ])
 go_cut [24] (fun v24 wc => ∃ (kq : Nat) (x24_2 : Bool), v24 = .bool x24_2 ∧ Aside0 (spec_MayKeep.j0 kq x24_2 a0_0 a0_1 l0_2 a0_3 a1_0 l1_1 a1_2 = some r) ∧ Aside0 (kq ≤ k) ∧ Aside0 (wc.heap[gb488]? = some (.cells #[.int .i64 a0_0, .string a0_1, (.slice A0_2 l0_2.length c0_2), .string a0_3] 50 (0, 0))) ∧ Aside0 (wc.heap[gb489]? = some (.cells #[.int .i64 a1_0, (.slice A1_1 l1_1.length c1_1), .string a1_2] 29 (0, 0))) ∧ Aside0 (Below w.heap.size w wc))
 case first =>
  have H := HC3.out
  clear HC3
  revert H
  refine ok1 fun t490 A6 H => ?_
  by_cases c7 : t490 = true
  rotate_left
  ·replace c7 := Bool.eq_false_iff.mpr c7
   subst c7
   rw [if_neg (show ¬ (false = true) by decide)] at H
   have H' := am H
   clear H
   have hnb29 := NB488_489.out
   have hnc29 := NB489_488.out
   obtain ⟨z30_0, y30_0, z30_1, y30_1, z30_2, y30_2, z30_3, y30_3⟩ := cl4 BK488
   go_wp2_with ((with_reducible refine gw ?_); first | (refine gl 8 Tryz.func91 #[.agg #[.int .i64 a0_0, .string a0_1, .slice A0_2 l0_2.length c0_2, .string a0_3]] ?_; (with_reducible refine (spec_ReqOk.calls k a0_0 a0_1 _ _ l0_2 a0_3 false _ ?side1 ?side2 A6.out).mono ?_); (case side1 => exact cb HR0_2); (case side2 => exact HC0_2.out); rintro e w31 ⟨rfl, hb⟩; refine ⟨_, rfl, ?_⟩; replace BK488 := kb BK488 hb; replace BK489 := kb BK489 hb; replace HB := am (below_step bl hb); clear hb))
   go_meet
   case rel => exact ⟨_, (true), rs, H', ⟨by first | omega | exact Nat.le_refl _⟩, ⟨by (with_reducible repeat (first | refine blk_drewN ?_ _ | refine blk_drew ?_ | refine blk_alloc ?_ _)); exact BK488.out⟩, ⟨by (with_reducible repeat (first | refine blk_drewN ?_ _ | refine blk_drew ?_ | refine blk_alloc ?_ _)); exact BK489.out⟩, ⟨u30HB⟩⟩
  subst c7
  rw [if_pos rfl] at H
  revert H
  refine ok1 fun t491 A8 H => ?_
  by_cases c9 : t491 = true
  rotate_left
  ·replace c9 := Bool.eq_false_iff.mpr c9
   subst c9
   rw [if_neg (show ¬ (false = true) by decide)] at H
   have H' := am H
   clear H
   have hnb24 := NB488_489.out
   have hnc24 := NB489_488.out
   obtain ⟨z25_0, y25_0, z25_1, y25_1, z25_2, y25_2, z25_3, y25_3⟩ := cl4 BK488
   go_wp2_with (first | ((with_reducible refine gw ?_); first | (refine gl 8 Tryz.func91 #[.agg #[.int .i64 a0_0, .string a0_1, .slice A0_2 l0_2.length c0_2, .string a0_3]] ?_; (with_reducible refine (spec_ReqOk.calls k a0_0 a0_1 _ _ l0_2 a0_3 true _ ?side1 ?side2 A6.out).mono ?_); (case side1 => exact cb HR0_2); (case side2 => exact HC0_2.out); rintro e w26 ⟨rfl, hb⟩; refine ⟨_, rfl, ?_⟩; replace BK488 := kb BK488 hb; replace BK489 := kb BK489 hb; replace HB := am (below_step bl hb); clear hb; obtain ⟨z27_0, y27_0, z27_1, y27_1, z27_2, y27_2⟩ := cl3 BK489)) | (go_at_call 92; (with_reducible refine (spec_RespOk.calls k a1_0 _ _ l1_1 a1_2 false _ ?side1 ?side2 A8.out).mono ?_); (case side1 => exact cb HR1_1); (case side2 => exact HC1_1.out); rintro e w28 ⟨rfl, hb⟩; replace BK488 := kb BK488 hb; replace BK489 := kb BK489 hb; replace HB := am (below_step bl hb); clear hb))
   go_meet
   case rel => exact ⟨_, (true), rs, H', ⟨by first | omega | exact Nat.le_refl _⟩, ⟨by (with_reducible repeat (first | refine blk_drewN ?_ _ | refine blk_drew ?_ | refine blk_alloc ?_ _)); exact BK488.out⟩, ⟨by (with_reducible repeat (first | refine blk_drewN ?_ _ | refine blk_drew ?_ | refine blk_alloc ?_ _)); exact BK489.out⟩, ⟨u30HB⟩⟩
  subst c9
  rw [if_pos rfl] at H
  by_cases c10 : a0_0 = 1
  rotate_left
  ·rw [if_neg c10] at H
   have c10b0 : (a0_0 == 1) = false := beq_eq_false_iff_ne.mpr c10
   have c10b1 : (a0_0 != 1) = true := bne_iff_ne.mpr c10
   (first | rw [c10b0] | (simp only [i64_w, i32_w]; rw [c10b0]) | skip)
   have H' := am H
   clear H
   have hnb18 := NB488_489.out
   have hnc18 := NB489_488.out
   obtain ⟨z19_0, y19_0, z19_1, y19_1, z19_2, y19_2, z19_3, y19_3⟩ := cl4 BK488
   go_wp2_with (first | ((with_reducible refine gw ?_); first | (refine gl 8 Tryz.func91 #[.agg #[.int .i64 a0_0, .string a0_1, .slice A0_2 l0_2.length c0_2, .string a0_3]] ?_; (with_reducible refine (spec_ReqOk.calls k a0_0 a0_1 _ _ l0_2 a0_3 true _ ?side1 ?side2 A6.out).mono ?_); (case side1 => exact cb HR0_2); (case side2 => exact HC0_2.out); rintro e w20 ⟨rfl, hb⟩; refine ⟨_, rfl, ?_⟩; replace BK488 := kb BK488 hb; replace BK489 := kb BK489 hb; replace HB := am (below_step bl hb); clear hb; obtain ⟨z21_0, y21_0, z21_1, y21_1, z21_2, y21_2⟩ := cl3 BK489)) | (go_at_call 92; (with_reducible refine (spec_RespOk.calls k a1_0 _ _ l1_1 a1_2 true _ ?side1 ?side2 A8.out).mono ?_); (case side1 => exact cb HR1_1); (case side2 => exact HC1_1.out); rintro e w22 ⟨rfl, hb⟩; replace BK488 := kb BK488 hb; replace BK489 := kb BK489 hb; replace HB := am (below_step bl hb); clear hb; obtain ⟨z23_0, y23_0, z23_1, y23_1, z23_2, y23_2, z23_3, y23_3⟩ := cl4 BK488))
   go_meet
   case rel => exact ⟨_, (true), rs, H', ⟨by first | omega | exact Nat.le_refl _⟩, ⟨by (with_reducible repeat (first | refine blk_drewN ?_ _ | refine blk_drew ?_ | refine blk_alloc ?_ _)); exact BK488.out⟩, ⟨by (with_reducible repeat (first | refine blk_drewN ?_ _ | refine blk_drew ?_ | refine blk_alloc ?_ _)); exact BK489.out⟩, ⟨u30HB⟩⟩
  rw [if_pos c10] at H
  have c10b0 : (a0_0 == 1) = true := beq_iff_eq.mpr c10
  have c10b1 : (a0_0 != 1) = false := bne_eq_false_iff_eq.mpr c10
  clear c10
  (first | rw [c10b0] | (simp only [i64_w, i32_w]; rw [c10b0]) | skip)
  have H' := am H
  clear H
  have hnb11 := NB488_489.out
  have hnc11 := NB489_488.out
  obtain ⟨z12_0, y12_0, z12_1, y12_1, z12_2, y12_2, z12_3, y12_3⟩ := cl4 BK488
  go_wp2_with (first | ((with_reducible refine gw ?_); first | (refine gl 8 Tryz.func91 #[.agg #[.int .i64 a0_0, .string a0_1, .slice A0_2 l0_2.length c0_2, .string a0_3]] ?_; (with_reducible refine (spec_ReqOk.calls k a0_0 a0_1 _ _ l0_2 a0_3 true _ ?side1 ?side2 A6.out).mono ?_); (case side1 => exact cb HR0_2); (case side2 => exact HC0_2.out); rintro e w13 ⟨rfl, hb⟩; refine ⟨_, rfl, ?_⟩; replace BK488 := kb BK488 hb; replace BK489 := kb BK489 hb; replace HB := am (below_step bl hb); clear hb; obtain ⟨z14_0, y14_0, z14_1, y14_1, z14_2, y14_2⟩ := cl3 BK489)) | (go_at_call 92; (with_reducible refine (spec_RespOk.calls k a1_0 _ _ l1_1 a1_2 true _ ?side1 ?side2 A8.out).mono ?_); (case side1 => exact cb HR1_1); (case side2 => exact HC1_1.out); rintro e w15 ⟨rfl, hb⟩; replace BK488 := kb BK488 hb; replace BK489 := kb BK489 hb; replace HB := am (below_step bl hb); clear hb; obtain ⟨z16_0, y16_0, z16_1, y16_1, z16_2, y16_2, z16_3, y16_3⟩ := cl4 BK488; obtain ⟨z17_0, y17_0, z17_1, y17_1, z17_2, y17_2⟩ := cl3 BK489))
  go_meet
  case rel => exact ⟨_, ((a1_0 != 200)), rs, H', ⟨by first | omega | exact Nat.le_refl _⟩, ⟨by (with_reducible repeat (first | refine blk_drewN ?_ _ | refine blk_drew ?_ | refine blk_alloc ?_ _)); exact BK488.out⟩, ⟨by (with_reducible repeat (first | refine blk_drewN ?_ _ | refine blk_drew ?_ | refine blk_alloc ?_ _)); exact BK489.out⟩, ⟨u30HB⟩⟩
 case rest =>
  clear HC3
  try clear c1
  try clear c2
  try clear p2
  try clear c3
  try clear c7
  try clear c9
  try clear c10
  try clear c10b0
  try clear c10b1
  try clear c11
  try clear c18
  try clear c24
  try clear c29
  try clear c30
  try clear z12_0
  try clear z12_1
  try clear z12_2
  try clear z12_3
  try clear z14_0
  try clear z14_1
  try clear z14_2
  try clear z16_0
  try clear z16_1
  try clear z16_2
  try clear z16_3
  try clear z17_0
  try clear z17_1
  try clear z17_2
  try clear z19_0
  try clear z19_1
  try clear z19_2
  try clear z19_3
  try clear z21_0
  try clear z21_1
  try clear z21_2
  try clear z23_0
  try clear z23_1
  try clear z23_2
  try clear z23_3
  try clear z25_0
  try clear z25_1
  try clear z25_2
  try clear z25_3
  try clear z27_0
  try clear z27_1
  try clear z27_2
  try clear z30_0
  try clear z30_1
  try clear z30_2
  try clear z30_3
  try clear y12_0
  try clear y12_1
  try clear y12_2
  try clear y12_3
  try clear y14_0
  try clear y14_1
  try clear y14_2
  try clear y16_0
  try clear y16_1
  try clear y16_2
  try clear y16_3
  try clear y17_0
  try clear y17_1
  try clear y17_2
  try clear y19_0
  try clear y19_1
  try clear y19_2
  try clear y19_3
  try clear y21_0
  try clear y21_1
  try clear y21_2
  try clear y23_0
  try clear y23_1
  try clear y23_2
  try clear y23_3
  try clear y25_0
  try clear y25_1
  try clear y25_2
  try clear y25_3
  try clear y27_0
  try clear y27_1
  try clear y27_2
  try clear y30_0
  try clear y30_1
  try clear y30_2
  try clear y30_3
  obtain ⟨kq, x24_2, rfl, HA, HJ2, BK488, BK489, HB⟩ := hcut
  cases kq with
  | zero => exact absurd HA.out (by simp [spec_MayKeep.j0])
  | succ kj2 =>
   have H := HA.out
   clear HA
   simp only [spec_MayKeep.j0] at H
   by_cases c32 : x24_2 = true
   ·subst c32
    rw [if_pos rfl] at H
    obtain rfl := Option.some.inj H
    go_wp2
    go_ret
    exact ⟨rf, bl⟩
   replace c32 := Bool.eq_false_iff.mpr c32
   subst c32
   rw [if_neg (show ¬ (false = true) by decide)] at H
   revert H
   refine ok6 fun t492 t493 t494 t495 t496 t497 A33 H => ?_
   (try dsimp only at H)
   revert H
   refine ok6 fun t498 t499 t500 t501 t502 t503 A34 H => ?_
   (try dsimp only at H)
   have HH_ := am H
   clear H
   try go_wp2
   replace BK488 := am (blk_drew BK488.out)
   replace BK489 := am (blk_drew BK489.out)
   replace HB := am (below_drew1 HB.out)
   refine start_ (n := 10) (S := fun w' => w'.cell? ⟨gb488, 0, none⟩ = some (.int .i64 a0_0) ∧ w'.cell? ⟨gb488, 1, none⟩ = some (.string a0_1) ∧ w'.cell? ⟨gb488, 2, none⟩ = some (.slice A0_2 l0_2.length c0_2) ∧ w'.cell? ⟨gb488, 3, none⟩ = some (.string a0_3) ∧ w'.cell? ⟨gb489, 0, none⟩ = some (.int .i64 a1_0) ∧ w'.cell? ⟨gb489, 1, none⟩ = some (.slice A1_1 l1_1.length c1_1) ∧ w'.cell? ⟨gb489, 2, none⟩ = some (.string a1_2)) (ds := []) ⟨br true [0, 10]⟩ (by kernel_rfl) rfl (by kernel_rfl) ⟨bc BK488, bc BK488, bc BK488, bc BK488, bc BK489, bc BK489, bc BK489⟩ (fun hHeld => ?_); refine with_tabW spec_MayKeep.tab3 spec_MayKeep.bits3 (fun HT_ HW_ => ?_)
   generalize wc.drew = w36 at BK488 BK489 HB hHeld ⊢
   refine pu 0 25 [1, 9] ?_
   refine pu 3 28 [1, 2, 1, 6] ?_
   refine tk 1 26 [2, 1, 1, 6] ?_
   refine tk 4 29 [2, 1, 2, 5] ?_
   refine join_ (σ := Nat × Nat) 2 #[true, true, true, true, true, true, true, true, false, false] (fun s_ => [(27, .agg #[.bool t492, .bool t493, .bool t494, .bool t495, .bool t496, .int .i64 t497]), (30, .agg #[.bool t498, .bool t499, .bool t500, .bool t501, .bool t502, .int .i64 t503]), (5, .pointer (some ⟨s_.1, 0, none⟩)), (6, .pointer (some ⟨s_.2, 0, none⟩))]) (fun s_ w' => (w'.cell? ⟨gb488, 0, none⟩ = some (.int .i64 a0_0) ∧ w'.cell? ⟨gb488, 1, none⟩ = some (.string a0_1) ∧ w'.cell? ⟨gb488, 2, none⟩ = some (.slice A0_2 l0_2.length c0_2) ∧ w'.cell? ⟨gb488, 3, none⟩ = some (.string a0_3) ∧ w'.cell? ⟨gb489, 0, none⟩ = some (.int .i64 a1_0) ∧ w'.cell? ⟨gb489, 1, none⟩ = some (.slice A1_1 l1_1.length c1_1) ∧ w'.cell? ⟨gb489, 2, none⟩ = some (.string a1_2)) ∧ (w'.heap[gb488]? = some (.cells #[.int .i64 a0_0, .string a0_1, .slice A0_2 l0_2.length c0_2, .string a0_3] 50 (0, 0))) ∧ (w'.heap[gb489]? = some (.cells #[.int .i64 a1_0, .slice A1_1 l1_1.length c1_1, .string a1_2] 29 (0, 0))) ∧ (w'.heap[s_.1]? = some (.cells #[.bool false, .bool false, .bool false, .bool false, .bool false, .int .i64 0] 42 (0, 0))) ∧ (w'.heap[s_.2]? = some (.cells #[.bool false, .bool false, .bool false, .bool false, .bool false, .int .i64 0] 42 (0, 0))) ∧ (w.heap.size ≤ s_.1) ∧ (w.heap.size ≤ s_.1) ∧ (gb488 ≠ s_.1) ∧ (s_.1 ≠ gb488) ∧ (gb489 ≠ s_.1) ∧ (s_.1 ≠ gb489) ∧ (s_.2 ≠ s_.1) ∧ (s_.1 ≠ s_.2) ∧ (w.heap.size ≤ s_.2) ∧ (w.heap.size ≤ s_.2) ∧ (gb488 ≠ s_.2) ∧ (s_.2 ≠ gb488) ∧ (gb489 ≠ s_.2) ∧ (s_.2 ≠ gb489) ∧ (Below w.heap.size w w')) ?_ ?_
   rotate_left
   ·intro hJ2_5_6_7
    refine join_ (σ := Nat) 3 #[true, true, true, true, true, true, true, false, false, false] (fun s_ => [(27, .agg #[.bool t492, .bool t493, .bool t494, .bool t495, .bool t496, .int .i64 t497]), (30, .agg #[.bool t498, .bool t499, .bool t500, .bool t501, .bool t502, .int .i64 t503]), (5, .pointer (some ⟨s_, 0, none⟩))]) (fun s_ w' => (w'.cell? ⟨gb488, 0, none⟩ = some (.int .i64 a0_0) ∧ w'.cell? ⟨gb488, 1, none⟩ = some (.string a0_1) ∧ w'.cell? ⟨gb488, 2, none⟩ = some (.slice A0_2 l0_2.length c0_2) ∧ w'.cell? ⟨gb488, 3, none⟩ = some (.string a0_3) ∧ w'.cell? ⟨gb489, 0, none⟩ = some (.int .i64 a1_0) ∧ w'.cell? ⟨gb489, 1, none⟩ = some (.slice A1_1 l1_1.length c1_1) ∧ w'.cell? ⟨gb489, 2, none⟩ = some (.string a1_2)) ∧ (w'.heap[gb488]? = some (.cells #[.int .i64 a0_0, .string a0_1, .slice A0_2 l0_2.length c0_2, .string a0_3] 50 (0, 0))) ∧ (w'.heap[gb489]? = some (.cells #[.int .i64 a1_0, .slice A1_1 l1_1.length c1_1, .string a1_2] 29 (0, 0))) ∧ (w'.heap[s_]? = some (.cells #[.bool false, .bool false, .bool false, .bool false, .bool false, .int .i64 0] 42 (0, 0))) ∧ (w.heap.size ≤ s_) ∧ (w.heap.size ≤ s_) ∧ (gb488 ≠ s_) ∧ (s_ ≠ gb488) ∧ (gb489 ≠ s_) ∧ (s_ ≠ gb489) ∧ (Below w.heap.size w w')) ?_ ?_
    rotate_left
    ·intro hJ2_5_6
     refine join_ (σ := Nat) 3 #[true, true, true, true, true, true, false, true, false, false] (fun s_ => [(27, .agg #[.bool t492, .bool t493, .bool t494, .bool t495, .bool t496, .int .i64 t497]), (30, .agg #[.bool t498, .bool t499, .bool t500, .bool t501, .bool t502, .int .i64 t503]), (6, .pointer (some ⟨s_, 0, none⟩))]) (fun s_ w' => (w'.cell? ⟨gb488, 0, none⟩ = some (.int .i64 a0_0) ∧ w'.cell? ⟨gb488, 1, none⟩ = some (.string a0_1) ∧ w'.cell? ⟨gb488, 2, none⟩ = some (.slice A0_2 l0_2.length c0_2) ∧ w'.cell? ⟨gb488, 3, none⟩ = some (.string a0_3) ∧ w'.cell? ⟨gb489, 0, none⟩ = some (.int .i64 a1_0) ∧ w'.cell? ⟨gb489, 1, none⟩ = some (.slice A1_1 l1_1.length c1_1) ∧ w'.cell? ⟨gb489, 2, none⟩ = some (.string a1_2)) ∧ (w'.heap[gb488]? = some (.cells #[.int .i64 a0_0, .string a0_1, .slice A0_2 l0_2.length c0_2, .string a0_3] 50 (0, 0))) ∧ (w'.heap[gb489]? = some (.cells #[.int .i64 a1_0, .slice A1_1 l1_1.length c1_1, .string a1_2] 29 (0, 0))) ∧ (w'.heap[s_]? = some (.cells #[.bool false, .bool false, .bool false, .bool false, .bool false, .int .i64 0] 42 (0, 0))) ∧ (w.heap.size ≤ s_) ∧ (w.heap.size ≤ s_) ∧ (gb488 ≠ s_) ∧ (s_ ≠ gb488) ∧ (gb489 ≠ s_) ∧ (s_ ≠ gb489) ∧ (Below w.heap.size w w')) ?_ ?_
     rotate_left
     ·intro hJ2_5_7
      refine join_ (σ := Nat × Nat) 3 #[true, true, true, true, true, false, true, true, false, false] (fun s_ => [(27, .agg #[.bool t492, .bool t493, .bool t494, .bool t495, .bool t496, .int .i64 t497]), (5, .pointer (some ⟨s_.1, 0, none⟩)), (6, .pointer (some ⟨s_.2, 0, none⟩))]) (fun s_ w' => (w'.cell? ⟨gb488, 0, none⟩ = some (.int .i64 a0_0) ∧ w'.cell? ⟨gb488, 1, none⟩ = some (.string a0_1) ∧ w'.cell? ⟨gb488, 2, none⟩ = some (.slice A0_2 l0_2.length c0_2) ∧ w'.cell? ⟨gb488, 3, none⟩ = some (.string a0_3) ∧ w'.cell? ⟨gb489, 0, none⟩ = some (.int .i64 a1_0) ∧ w'.cell? ⟨gb489, 1, none⟩ = some (.slice A1_1 l1_1.length c1_1) ∧ w'.cell? ⟨gb489, 2, none⟩ = some (.string a1_2)) ∧ (w'.heap[gb488]? = some (.cells #[.int .i64 a0_0, .string a0_1, .slice A0_2 l0_2.length c0_2, .string a0_3] 50 (0, 0))) ∧ (w'.heap[gb489]? = some (.cells #[.int .i64 a1_0, .slice A1_1 l1_1.length c1_1, .string a1_2] 29 (0, 0))) ∧ (w'.heap[s_.1]? = some (.cells #[.bool false, .bool false, .bool false, .bool false, .bool false, .int .i64 0] 42 (0, 0))) ∧ (w'.heap[s_.2]? = some (.cells #[.bool false, .bool false, .bool false, .bool false, .bool false, .int .i64 0] 42 (0, 0))) ∧ (w.heap.size ≤ s_.1) ∧ (w.heap.size ≤ s_.1) ∧ (gb488 ≠ s_.1) ∧ (s_.1 ≠ gb488) ∧ (gb489 ≠ s_.1) ∧ (s_.1 ≠ gb489) ∧ (s_.2 ≠ s_.1) ∧ (s_.1 ≠ s_.2) ∧ (w.heap.size ≤ s_.2) ∧ (w.heap.size ≤ s_.2) ∧ (gb488 ≠ s_.2) ∧ (s_.2 ≠ gb488) ∧ (gb489 ≠ s_.2) ∧ (s_.2 ≠ gb489) ∧ (Below w.heap.size w w')) ?_ ?_
      rotate_left
      ·intro hJ2_6_7
       refine join_ (σ := Unit) 4 #[true, true, true, true, true, true, false, false, false, false] (fun s_ => [(27, .agg #[.bool t492, .bool t493, .bool t494, .bool t495, .bool t496, .int .i64 t497]), (30, .agg #[.bool t498, .bool t499, .bool t500, .bool t501, .bool t502, .int .i64 t503])]) (fun s_ w' => (w'.cell? ⟨gb488, 0, none⟩ = some (.int .i64 a0_0) ∧ w'.cell? ⟨gb488, 1, none⟩ = some (.string a0_1) ∧ w'.cell? ⟨gb488, 2, none⟩ = some (.slice A0_2 l0_2.length c0_2) ∧ w'.cell? ⟨gb488, 3, none⟩ = some (.string a0_3) ∧ w'.cell? ⟨gb489, 0, none⟩ = some (.int .i64 a1_0) ∧ w'.cell? ⟨gb489, 1, none⟩ = some (.slice A1_1 l1_1.length c1_1) ∧ w'.cell? ⟨gb489, 2, none⟩ = some (.string a1_2)) ∧ (w'.heap[gb488]? = some (.cells #[.int .i64 a0_0, .string a0_1, .slice A0_2 l0_2.length c0_2, .string a0_3] 50 (0, 0))) ∧ (w'.heap[gb489]? = some (.cells #[.int .i64 a1_0, .slice A1_1 l1_1.length c1_1, .string a1_2] 29 (0, 0))) ∧ (Below w.heap.size w w')) ?_ ?_
       rotate_left
       ·intro hJ2_5
        refine join_ (σ := Nat) 4 #[true, true, true, true, true, false, true, false, false, false] (fun s_ => [(27, .agg #[.bool t492, .bool t493, .bool t494, .bool t495, .bool t496, .int .i64 t497]), (5, .pointer (some ⟨s_, 0, none⟩))]) (fun s_ w' => (w'.cell? ⟨gb488, 0, none⟩ = some (.int .i64 a0_0) ∧ w'.cell? ⟨gb488, 1, none⟩ = some (.string a0_1) ∧ w'.cell? ⟨gb488, 2, none⟩ = some (.slice A0_2 l0_2.length c0_2) ∧ w'.cell? ⟨gb488, 3, none⟩ = some (.string a0_3) ∧ w'.cell? ⟨gb489, 0, none⟩ = some (.int .i64 a1_0) ∧ w'.cell? ⟨gb489, 1, none⟩ = some (.slice A1_1 l1_1.length c1_1) ∧ w'.cell? ⟨gb489, 2, none⟩ = some (.string a1_2)) ∧ (w'.heap[gb488]? = some (.cells #[.int .i64 a0_0, .string a0_1, .slice A0_2 l0_2.length c0_2, .string a0_3] 50 (0, 0))) ∧ (w'.heap[gb489]? = some (.cells #[.int .i64 a1_0, .slice A1_1 l1_1.length c1_1, .string a1_2] 29 (0, 0))) ∧ (w'.heap[s_]? = some (.cells #[.bool false, .bool false, .bool false, .bool false, .bool false, .int .i64 0] 42 (0, 0))) ∧ (w.heap.size ≤ s_) ∧ (w.heap.size ≤ s_) ∧ (gb488 ≠ s_) ∧ (s_ ≠ gb488) ∧ (gb489 ≠ s_) ∧ (s_ ≠ gb489) ∧ (Below w.heap.size w w')) ?_ ?_
        rotate_left
        ·intro hJ2_6
         refine join_ (σ := Nat) 4 #[true, true, true, true, true, false, false, true, false, false] (fun s_ => [(27, .agg #[.bool t492, .bool t493, .bool t494, .bool t495, .bool t496, .int .i64 t497]), (6, .pointer (some ⟨s_, 0, none⟩))]) (fun s_ w' => (w'.cell? ⟨gb488, 0, none⟩ = some (.int .i64 a0_0) ∧ w'.cell? ⟨gb488, 1, none⟩ = some (.string a0_1) ∧ w'.cell? ⟨gb488, 2, none⟩ = some (.slice A0_2 l0_2.length c0_2) ∧ w'.cell? ⟨gb488, 3, none⟩ = some (.string a0_3) ∧ w'.cell? ⟨gb489, 0, none⟩ = some (.int .i64 a1_0) ∧ w'.cell? ⟨gb489, 1, none⟩ = some (.slice A1_1 l1_1.length c1_1) ∧ w'.cell? ⟨gb489, 2, none⟩ = some (.string a1_2)) ∧ (w'.heap[gb488]? = some (.cells #[.int .i64 a0_0, .string a0_1, .slice A0_2 l0_2.length c0_2, .string a0_3] 50 (0, 0))) ∧ (w'.heap[gb489]? = some (.cells #[.int .i64 a1_0, .slice A1_1 l1_1.length c1_1, .string a1_2] 29 (0, 0))) ∧ (w'.heap[s_]? = some (.cells #[.bool false, .bool false, .bool false, .bool false, .bool false, .int .i64 0] 42 (0, 0))) ∧ (w.heap.size ≤ s_) ∧ (w.heap.size ≤ s_) ∧ (gb488 ≠ s_) ∧ (s_ ≠ gb488) ∧ (gb489 ≠ s_) ∧ (s_ ≠ gb489) ∧ (Below w.heap.size w w')) ?_ ?_
         rotate_left
         ·intro hJ2_7
          refine join_ (σ := Nat × Nat) 4 #[true, true, false, true, true, false, true, true, false, false] (fun s_ => [(5, .pointer (some ⟨s_.1, 0, none⟩)), (6, .pointer (some ⟨s_.2, 0, none⟩))]) (fun s_ w' => (w'.cell? ⟨gb488, 0, none⟩ = some (.int .i64 a0_0) ∧ w'.cell? ⟨gb488, 1, none⟩ = some (.string a0_1) ∧ w'.cell? ⟨gb488, 2, none⟩ = some (.slice A0_2 l0_2.length c0_2) ∧ w'.cell? ⟨gb488, 3, none⟩ = some (.string a0_3) ∧ w'.cell? ⟨gb489, 0, none⟩ = some (.int .i64 a1_0) ∧ w'.cell? ⟨gb489, 1, none⟩ = some (.slice A1_1 l1_1.length c1_1) ∧ w'.cell? ⟨gb489, 2, none⟩ = some (.string a1_2)) ∧ (w'.heap[gb488]? = some (.cells #[.int .i64 a0_0, .string a0_1, .slice A0_2 l0_2.length c0_2, .string a0_3] 50 (0, 0))) ∧ (w'.heap[gb489]? = some (.cells #[.int .i64 a1_0, .slice A1_1 l1_1.length c1_1, .string a1_2] 29 (0, 0))) ∧ (w'.heap[s_.1]? = some (.cells #[.bool false, .bool false, .bool false, .bool false, .bool false, .int .i64 0] 42 (0, 0))) ∧ (w'.heap[s_.2]? = some (.cells #[.bool false, .bool false, .bool false, .bool false, .bool false, .int .i64 0] 42 (0, 0))) ∧ (w.heap.size ≤ s_.1) ∧ (w.heap.size ≤ s_.1) ∧ (gb488 ≠ s_.1) ∧ (s_.1 ≠ gb488) ∧ (gb489 ≠ s_.1) ∧ (s_.1 ≠ gb489) ∧ (s_.2 ≠ s_.1) ∧ (s_.1 ≠ s_.2) ∧ (w.heap.size ≤ s_.2) ∧ (w.heap.size ≤ s_.2) ∧ (gb488 ≠ s_.2) ∧ (s_.2 ≠ gb488) ∧ (gb489 ≠ s_.2) ∧ (s_.2 ≠ gb489) ∧ (Below w.heap.size w w')) ?_ ?_
          rotate_left
          ·intro hJ6_7
           refine join_ (σ := Unit) 5 #[true, true, true, true, true, false, false, false, false, false] (fun s_ => [(27, .agg #[.bool t492, .bool t493, .bool t494, .bool t495, .bool t496, .int .i64 t497])]) (fun s_ w' => (w'.cell? ⟨gb488, 0, none⟩ = some (.int .i64 a0_0) ∧ w'.cell? ⟨gb488, 1, none⟩ = some (.string a0_1) ∧ w'.cell? ⟨gb488, 2, none⟩ = some (.slice A0_2 l0_2.length c0_2) ∧ w'.cell? ⟨gb488, 3, none⟩ = some (.string a0_3) ∧ w'.cell? ⟨gb489, 0, none⟩ = some (.int .i64 a1_0) ∧ w'.cell? ⟨gb489, 1, none⟩ = some (.slice A1_1 l1_1.length c1_1) ∧ w'.cell? ⟨gb489, 2, none⟩ = some (.string a1_2)) ∧ (w'.heap[gb488]? = some (.cells #[.int .i64 a0_0, .string a0_1, .slice A0_2 l0_2.length c0_2, .string a0_3] 50 (0, 0))) ∧ (w'.heap[gb489]? = some (.cells #[.int .i64 a1_0, .slice A1_1 l1_1.length c1_1, .string a1_2] 29 (0, 0))) ∧ (Below w.heap.size w w')) ?_ ?_
           rotate_left
           ·intro hJ2
            refine join_ (σ := Nat) 5 #[true, true, false, true, true, false, true, false, false, false] (fun s_ => [(5, .pointer (some ⟨s_, 0, none⟩))]) (fun s_ w' => (w'.cell? ⟨gb488, 0, none⟩ = some (.int .i64 a0_0) ∧ w'.cell? ⟨gb488, 1, none⟩ = some (.string a0_1) ∧ w'.cell? ⟨gb488, 2, none⟩ = some (.slice A0_2 l0_2.length c0_2) ∧ w'.cell? ⟨gb488, 3, none⟩ = some (.string a0_3) ∧ w'.cell? ⟨gb489, 0, none⟩ = some (.int .i64 a1_0) ∧ w'.cell? ⟨gb489, 1, none⟩ = some (.slice A1_1 l1_1.length c1_1) ∧ w'.cell? ⟨gb489, 2, none⟩ = some (.string a1_2)) ∧ (w'.heap[gb488]? = some (.cells #[.int .i64 a0_0, .string a0_1, .slice A0_2 l0_2.length c0_2, .string a0_3] 50 (0, 0))) ∧ (w'.heap[gb489]? = some (.cells #[.int .i64 a1_0, .slice A1_1 l1_1.length c1_1, .string a1_2] 29 (0, 0))) ∧ (w'.heap[s_]? = some (.cells #[.bool false, .bool false, .bool false, .bool false, .bool false, .int .i64 0] 42 (0, 0))) ∧ (w.heap.size ≤ s_) ∧ (w.heap.size ≤ s_) ∧ (gb488 ≠ s_) ∧ (s_ ≠ gb488) ∧ (gb489 ≠ s_) ∧ (s_ ≠ gb489) ∧ (Below w.heap.size w w')) ?_ ?_
            rotate_left
            ·intro hJ6
             refine join_ (σ := Nat) 5 #[true, true, false, true, true, false, false, true, false, false] (fun s_ => [(6, .pointer (some ⟨s_, 0, none⟩))]) (fun s_ w' => (w'.cell? ⟨gb488, 0, none⟩ = some (.int .i64 a0_0) ∧ w'.cell? ⟨gb488, 1, none⟩ = some (.string a0_1) ∧ w'.cell? ⟨gb488, 2, none⟩ = some (.slice A0_2 l0_2.length c0_2) ∧ w'.cell? ⟨gb488, 3, none⟩ = some (.string a0_3) ∧ w'.cell? ⟨gb489, 0, none⟩ = some (.int .i64 a1_0) ∧ w'.cell? ⟨gb489, 1, none⟩ = some (.slice A1_1 l1_1.length c1_1) ∧ w'.cell? ⟨gb489, 2, none⟩ = some (.string a1_2)) ∧ (w'.heap[gb488]? = some (.cells #[.int .i64 a0_0, .string a0_1, .slice A0_2 l0_2.length c0_2, .string a0_3] 50 (0, 0))) ∧ (w'.heap[gb489]? = some (.cells #[.int .i64 a1_0, .slice A1_1 l1_1.length c1_1, .string a1_2] 29 (0, 0))) ∧ (w'.heap[s_]? = some (.cells #[.bool false, .bool false, .bool false, .bool false, .bool false, .int .i64 0] 42 (0, 0))) ∧ (w.heap.size ≤ s_) ∧ (w.heap.size ≤ s_) ∧ (gb488 ≠ s_) ∧ (s_ ≠ gb488) ∧ (gb489 ≠ s_) ∧ (s_ ≠ gb489) ∧ (Below w.heap.size w w')) ?_ ?_
             rotate_left
             ·intro hJ7
              refine three_ (i := 2) (j := 6) (k := 7) (Ni := some 27) (Nj := some 5) (Nk := some 6) #[true, true, true, true, true, false, false, false, false, false] #[true, true, false, true, true, false, true, false, false, false] #[true, true, false, true, true, false, false, true, false, false] rfl rfl rfl rfl rfl rfl (three_of HT_.out (by kernel_rfl)) (by decide) (by decide) (by decide) (fun K hK => ?_) (fun K hK => ?_) (fun K hK => ?_)
              ·skip
               refine goes_ Tryz.func27 (by kernel_rfl) rfl #[.slice A0_2 l0_2.length c0_2] (by rfl) rfl rfl ma ?_
               with_reducible refine (spec_CcOf.calls kj2 _ _ l0_2 t492 t493 t494 t495 t496 t497 _ ?side1 ?side2 A33.out).mono ?_
               (case side1 => exact cb HR0_2)
               (case side2 => exact HC0_2.out)
               rintro e w37 ⟨rfl, hb⟩
               refine ⟨_, rfl, ?_⟩
               replace BK488 := kb BK488 hb
               replace BK489 := kb BK489 hb
               replace HB := am (below_step bl hb)
               clear hb
               refine hK.out _ _ ⟨bc BK488, bc BK488, bc BK488, bc BK488, bc BK489, bc BK489, bc BK489⟩ (fun hHeld => ?_)
               clear hK K
               refine nm 27 ?_
               exact norm_ (by first | (simp only [putAll, Act.put, List.setIfInBounds_toArray, List.set_cons_zero, List.set_cons_succ]; done) | (simp only [putAll, Act.put, List.setIfInBounds_toArray, List.set_cons_zero, List.set_cons_succ]; rfl)) (hJ2 () _ ⟨hHeld, (bk BK488), (bk BK489), bl⟩)
              ·skip
               refine box_step ?hg (N := 5) ?hd (cs := #[.bool false, .bool false, .bool false, .bool false, .bool false, .int .i64 0]) (t := 42) ?hr ?_; (case hd => rfl); (case hg => rfl); (case hr => first | (go_simp; done) | (go_simp; rfl))
               intro gb504 hg w37 hbox hb
               have BK504 := am (hbox)
               have GW504 := am (sz hg : w.heap.size ≤ gb504)
               have GE504 := am (sz hg : w.heap.size ≤ gb504)
               replace HB := am (below_step bl hb)
               have NB488_504 := am (nl hg BK488 : gb488 ≠ gb504)
               have NB504_488 := am (ng hg BK488 : gb504 ≠ gb488)
               replace BK488 := kb BK488 hb
               have NB489_504 := am (nl hg BK489 : gb489 ≠ gb504)
               have NB504_489 := am (ng hg BK489 : gb504 ≠ gb489)
               replace BK489 := kb BK489 hb
               clear hb hbox hg
               refine hK.out _ _ ⟨bc BK488, bc BK488, bc BK488, bc BK488, bc BK489, bc BK489, bc BK489⟩ (fun hHeld => ?_)
               clear hK K
               refine nm 5 ?_
               exact norm_ (by first | (simp only [putAll, Act.put, List.setIfInBounds_toArray, List.set_cons_zero, List.set_cons_succ]; done) | (simp only [putAll, Act.put, List.setIfInBounds_toArray, List.set_cons_zero, List.set_cons_succ]; rfl)) (hJ6 (gb504) _ ⟨hHeld, (bk BK488), (bk BK489), (bk BK504), GW504.out, GE504.out, NB488_504.out, NB504_488.out, NB489_504.out, NB504_489.out, bl⟩)
              ·skip
               refine box_step ?hg (N := 6) ?hd (cs := #[.bool false, .bool false, .bool false, .bool false, .bool false, .int .i64 0]) (t := 42) ?hr ?_; (case hd => rfl); (case hg => rfl); (case hr => first | (go_simp; done) | (go_simp; rfl))
               intro gb505 hg w37 hbox hb
               have BK505 := am (hbox)
               have GW505 := am (sz hg : w.heap.size ≤ gb505)
               have GE505 := am (sz hg : w.heap.size ≤ gb505)
               replace HB := am (below_step bl hb)
               have NB488_505 := am (nl hg BK488 : gb488 ≠ gb505)
               have NB505_488 := am (ng hg BK488 : gb505 ≠ gb488)
               replace BK488 := kb BK488 hb
               have NB489_505 := am (nl hg BK489 : gb489 ≠ gb505)
               have NB505_489 := am (ng hg BK489 : gb505 ≠ gb489)
               replace BK489 := kb BK489 hb
               clear hb hbox hg
               refine hK.out _ _ ⟨bc BK488, bc BK488, bc BK488, bc BK488, bc BK489, bc BK489, bc BK489⟩ (fun hHeld => ?_)
               clear hK K
               refine nm 6 ?_
               exact norm_ (by first | (simp only [putAll, Act.put, List.setIfInBounds_toArray, List.set_cons_zero, List.set_cons_succ]; done) | (simp only [putAll, Act.put, List.setIfInBounds_toArray, List.set_cons_zero, List.set_cons_succ]; rfl)) (hJ7 (gb505) _ ⟨hHeld, (bk BK488), (bk BK489), (bk BK505), GW505.out, GE505.out, NB488_505.out, NB505_488.out, NB489_505.out, NB505_489.out, bl⟩)
             ·skip
              rintro gb505 w38 ⟨hS_, h0_, h1_, h2_, h3_, h4_, h5_, h6_, h7_, h8_, h9_⟩
              have n0_ : Aside0 (w38.heap[gb488]? = some (.cells #[.int .i64 a0_0, .string a0_1, .slice A0_2 l0_2.length c0_2, .string a0_3] 50 (0, 0))) := ⟨h0_⟩
              have n1_ : Aside0 (w38.heap[gb489]? = some (.cells #[.int .i64 a1_0, .slice A1_1 l1_1.length c1_1, .string a1_2] 29 (0, 0))) := ⟨h1_⟩
              have n2_ : Aside0 (w38.heap[gb505]? = some (.cells #[.bool false, .bool false, .bool false, .bool false, .bool false, .int .i64 0] 42 (0, 0))) := ⟨h2_⟩
              have n3_ : Aside0 (w.heap.size ≤ gb505) := ⟨h3_⟩
              have n4_ : Aside0 (w.heap.size ≤ gb505) := ⟨h4_⟩
              have n5_ : Aside0 (gb488 ≠ gb505) := ⟨h5_⟩
              have n6_ : Aside0 (gb505 ≠ gb488) := ⟨h6_⟩
              have n7_ : Aside0 (gb489 ≠ gb505) := ⟨h7_⟩
              have n8_ : Aside0 (gb505 ≠ gb489) := ⟨h8_⟩
              have n9_ : Aside0 (Below w.heap.size w w38) := ⟨h9_⟩
              clear BK488
              clear BK489
              clear HB
              clear h0_ h1_ h2_ h3_ h4_ h5_ h6_ h7_ h8_ h9_
              have BK488 := n0_
              have BK489 := n1_
              have BK505 := n2_
              have GW505 := n3_
              have GE505 := n4_
              have NB488_505 := n5_
              have NB505_488 := n6_
              have NB489_505 := n7_
              have NB505_489 := n8_
              have HB := n9_
              clear n0_ n1_ n2_ n3_ n4_ n5_ n6_ n7_ n8_ n9_
              have hHeld : w38.cell? ⟨gb488, 0, none⟩ = some (.int .i64 a0_0) ∧ w38.cell? ⟨gb488, 1, none⟩ = some (.string a0_1) ∧ w38.cell? ⟨gb488, 2, none⟩ = some (.slice A0_2 l0_2.length c0_2) ∧ w38.cell? ⟨gb488, 3, none⟩ = some (.string a0_3) ∧ w38.cell? ⟨gb489, 0, none⟩ = some (.int .i64 a1_0) ∧ w38.cell? ⟨gb489, 1, none⟩ = some (.slice A1_1 l1_1.length c1_1) ∧ w38.cell? ⟨gb489, 2, none⟩ = some (.string a1_2) := hS_
              refine norm_ (a' := ?_) ?_ ?_
              rotate_left
              ·simp only [putAll, Act.put, List.setIfInBounds_toArray, List.set_cons_zero, List.set_cons_succ]
               rfl
              refine two_ (i := 2) (j := 6) (Ni := some 27) (Nj := some 5) #[true, true, true, true, true, false, false, true, false, false] #[true, true, false, true, true, false, true, true, false, false] rfl rfl rfl rfl (two_of HT_.out (by kernel_rfl)) (by decide) (by decide) (fun K hK => ?_) (fun K hK => ?_)
              ·skip
               refine goes_ Tryz.func27 (by kernel_rfl) rfl #[.slice A0_2 l0_2.length c0_2] (by rfl) rfl rfl ma ?_
               with_reducible refine (spec_CcOf.calls kj2 _ _ l0_2 t492 t493 t494 t495 t496 t497 _ ?side1 ?side2 A33.out).mono ?_
               (case side1 => exact cb HR0_2)
               (case side2 => exact HC0_2.out)
               rintro e w39 ⟨rfl, hb⟩
               refine ⟨_, rfl, ?_⟩
               replace BK488 := kb BK488 hb
               replace BK489 := kb BK489 hb
               replace BK505 := kb BK505 hb
               replace HB := am (below_step bl hb)
               clear hb
               refine hK.out _ _ ⟨bc BK488, bc BK488, bc BK488, bc BK488, bc BK489, bc BK489, bc BK489⟩ (fun hHeld => ?_)
               clear hK K
               refine nm 27 ?_
               exact norm_ (by first | (simp only [putAll, Act.put, List.setIfInBounds_toArray, List.set_cons_zero, List.set_cons_succ]; done) | (simp only [putAll, Act.put, List.setIfInBounds_toArray, List.set_cons_zero, List.set_cons_succ]; rfl)) (hJ2_7 (gb505) _ ⟨hHeld, (bk BK488), (bk BK489), (bk BK505), GW505.out, GE505.out, NB488_505.out, NB505_488.out, NB489_505.out, NB505_489.out, bl⟩)
              ·skip
               refine box_step ?hg (N := 5) ?hd (cs := #[.bool false, .bool false, .bool false, .bool false, .bool false, .int .i64 0]) (t := 42) ?hr ?_; (case hd => rfl); (case hg => rfl); (case hr => first | (go_simp; done) | (go_simp; rfl))
               intro gb504 hg w39 hbox hb
               have BK504 := am (hbox)
               have GW504 := am (sz hg : w.heap.size ≤ gb504)
               have GE504 := am (sz hg : w.heap.size ≤ gb504)
               replace HB := am (below_step bl hb)
               have NB488_504 := am (nl hg BK488 : gb488 ≠ gb504)
               have NB504_488 := am (ng hg BK488 : gb504 ≠ gb488)
               replace BK488 := kb BK488 hb
               have NB489_504 := am (nl hg BK489 : gb489 ≠ gb504)
               have NB504_489 := am (ng hg BK489 : gb504 ≠ gb489)
               replace BK489 := kb BK489 hb
               have NB505_504 := am (nl hg BK505 : gb505 ≠ gb504)
               have NB504_505 := am (ng hg BK505 : gb504 ≠ gb505)
               replace BK505 := kb BK505 hb
               clear hb hbox hg
               refine hK.out _ _ ⟨bc BK488, bc BK488, bc BK488, bc BK488, bc BK489, bc BK489, bc BK489⟩ (fun hHeld => ?_)
               clear hK K
               refine nm 5 ?_
               exact norm_ (by first | (simp only [putAll, Act.put, List.setIfInBounds_toArray, List.set_cons_zero, List.set_cons_succ]; done) | (simp only [putAll, Act.put, List.setIfInBounds_toArray, List.set_cons_zero, List.set_cons_succ]; rfl)) (hJ6_7 (gb504, gb505) _ ⟨hHeld, (bk BK488), (bk BK489), (bk BK504), (bk BK505), GW504.out, GE504.out, NB488_504.out, NB504_488.out, NB489_504.out, NB504_489.out, NB505_504.out, NB504_505.out, GW505.out, GE505.out, NB488_505.out, NB505_488.out, NB489_505.out, NB505_489.out, bl⟩)
            ·skip
             rintro gb504 w38 ⟨hS_, h0_, h1_, h2_, h3_, h4_, h5_, h6_, h7_, h8_, h9_⟩
             have n0_ : Aside0 (w38.heap[gb488]? = some (.cells #[.int .i64 a0_0, .string a0_1, .slice A0_2 l0_2.length c0_2, .string a0_3] 50 (0, 0))) := ⟨h0_⟩
             have n1_ : Aside0 (w38.heap[gb489]? = some (.cells #[.int .i64 a1_0, .slice A1_1 l1_1.length c1_1, .string a1_2] 29 (0, 0))) := ⟨h1_⟩
             have n2_ : Aside0 (w38.heap[gb504]? = some (.cells #[.bool false, .bool false, .bool false, .bool false, .bool false, .int .i64 0] 42 (0, 0))) := ⟨h2_⟩
             have n3_ : Aside0 (w.heap.size ≤ gb504) := ⟨h3_⟩
             have n4_ : Aside0 (w.heap.size ≤ gb504) := ⟨h4_⟩
             have n5_ : Aside0 (gb488 ≠ gb504) := ⟨h5_⟩
             have n6_ : Aside0 (gb504 ≠ gb488) := ⟨h6_⟩
             have n7_ : Aside0 (gb489 ≠ gb504) := ⟨h7_⟩
             have n8_ : Aside0 (gb504 ≠ gb489) := ⟨h8_⟩
             have n9_ : Aside0 (Below w.heap.size w w38) := ⟨h9_⟩
             clear BK488
             clear BK489
             clear HB
             clear h0_ h1_ h2_ h3_ h4_ h5_ h6_ h7_ h8_ h9_
             have BK488 := n0_
             have BK489 := n1_
             have BK504 := n2_
             have GW504 := n3_
             have GE504 := n4_
             have NB488_504 := n5_
             have NB504_488 := n6_
             have NB489_504 := n7_
             have NB504_489 := n8_
             have HB := n9_
             clear n0_ n1_ n2_ n3_ n4_ n5_ n6_ n7_ n8_ n9_
             have hHeld : w38.cell? ⟨gb488, 0, none⟩ = some (.int .i64 a0_0) ∧ w38.cell? ⟨gb488, 1, none⟩ = some (.string a0_1) ∧ w38.cell? ⟨gb488, 2, none⟩ = some (.slice A0_2 l0_2.length c0_2) ∧ w38.cell? ⟨gb488, 3, none⟩ = some (.string a0_3) ∧ w38.cell? ⟨gb489, 0, none⟩ = some (.int .i64 a1_0) ∧ w38.cell? ⟨gb489, 1, none⟩ = some (.slice A1_1 l1_1.length c1_1) ∧ w38.cell? ⟨gb489, 2, none⟩ = some (.string a1_2) := hS_
             refine norm_ (a' := ?_) ?_ ?_
             rotate_left
             ·simp only [putAll, Act.put, List.setIfInBounds_toArray, List.set_cons_zero, List.set_cons_succ]
              rfl
             refine two_ (i := 2) (j := 7) (Ni := some 27) (Nj := some 6) #[true, true, true, true, true, false, true, false, false, false] #[true, true, false, true, true, false, true, true, false, false] rfl rfl rfl rfl (two_of HT_.out (by kernel_rfl)) (by decide) (by decide) (fun K hK => ?_) (fun K hK => ?_)
             ·skip
              refine goes_ Tryz.func27 (by kernel_rfl) rfl #[.slice A0_2 l0_2.length c0_2] (by rfl) rfl rfl ma ?_
              with_reducible refine (spec_CcOf.calls kj2 _ _ l0_2 t492 t493 t494 t495 t496 t497 _ ?side1 ?side2 A33.out).mono ?_
              (case side1 => exact cb HR0_2)
              (case side2 => exact HC0_2.out)
              rintro e w39 ⟨rfl, hb⟩
              refine ⟨_, rfl, ?_⟩
              replace BK488 := kb BK488 hb
              replace BK489 := kb BK489 hb
              replace BK504 := kb BK504 hb
              replace HB := am (below_step bl hb)
              clear hb
              refine hK.out _ _ ⟨bc BK488, bc BK488, bc BK488, bc BK488, bc BK489, bc BK489, bc BK489⟩ (fun hHeld => ?_)
              clear hK K
              refine nm 27 ?_
              exact norm_ (by first | (simp only [putAll, Act.put, List.setIfInBounds_toArray, List.set_cons_zero, List.set_cons_succ]; done) | (simp only [putAll, Act.put, List.setIfInBounds_toArray, List.set_cons_zero, List.set_cons_succ]; rfl)) (hJ2_6 (gb504) _ ⟨hHeld, (bk BK488), (bk BK489), (bk BK504), GW504.out, GE504.out, NB488_504.out, NB504_488.out, NB489_504.out, NB504_489.out, bl⟩)
             ·skip
              refine box_step ?hg (N := 6) ?hd (cs := #[.bool false, .bool false, .bool false, .bool false, .bool false, .int .i64 0]) (t := 42) ?hr ?_; (case hd => rfl); (case hg => rfl); (case hr => first | (go_simp; done) | (go_simp; rfl))
              intro gb505 hg w39 hbox hb
              have BK505 := am (hbox)
              have GW505 := am (sz hg : w.heap.size ≤ gb505)
              have GE505 := am (sz hg : w.heap.size ≤ gb505)
              replace HB := am (below_step bl hb)
              have NB488_505 := am (nl hg BK488 : gb488 ≠ gb505)
              have NB505_488 := am (ng hg BK488 : gb505 ≠ gb488)
              replace BK488 := kb BK488 hb
              have NB489_505 := am (nl hg BK489 : gb489 ≠ gb505)
              have NB505_489 := am (ng hg BK489 : gb505 ≠ gb489)
              replace BK489 := kb BK489 hb
              have NB504_505 := am (nl hg BK504 : gb504 ≠ gb505)
              have NB505_504 := am (ng hg BK504 : gb505 ≠ gb504)
              replace BK504 := kb BK504 hb
              clear hb hbox hg
              refine hK.out _ _ ⟨bc BK488, bc BK488, bc BK488, bc BK488, bc BK489, bc BK489, bc BK489⟩ (fun hHeld => ?_)
              clear hK K
              refine nm 6 ?_
              exact norm_ (by first | (simp only [putAll, Act.put, List.setIfInBounds_toArray, List.set_cons_zero, List.set_cons_succ]; done) | (simp only [putAll, Act.put, List.setIfInBounds_toArray, List.set_cons_zero, List.set_cons_succ]; rfl)) (hJ6_7 (gb504, gb505) _ ⟨hHeld, (bk BK488), (bk BK489), (bk BK504), (bk BK505), GW504.out, GE504.out, NB488_504.out, NB504_488.out, NB489_504.out, NB504_489.out, NB505_504.out, NB504_505.out, GW505.out, GE505.out, NB488_505.out, NB505_488.out, NB489_505.out, NB505_489.out, bl⟩)
           ·skip
            rintro _ w38 ⟨hS_, h0_, h1_, h2_⟩
            have n0_ : Aside0 (w38.heap[gb488]? = some (.cells #[.int .i64 a0_0, .string a0_1, .slice A0_2 l0_2.length c0_2, .string a0_3] 50 (0, 0))) := ⟨h0_⟩
            have n1_ : Aside0 (w38.heap[gb489]? = some (.cells #[.int .i64 a1_0, .slice A1_1 l1_1.length c1_1, .string a1_2] 29 (0, 0))) := ⟨h1_⟩
            have n2_ : Aside0 (Below w.heap.size w w38) := ⟨h2_⟩
            clear BK488
            clear BK489
            clear HB
            clear h0_ h1_ h2_
            have BK488 := n0_
            have BK489 := n1_
            have HB := n2_
            clear n0_ n1_ n2_
            have hHeld : w38.cell? ⟨gb488, 0, none⟩ = some (.int .i64 a0_0) ∧ w38.cell? ⟨gb488, 1, none⟩ = some (.string a0_1) ∧ w38.cell? ⟨gb488, 2, none⟩ = some (.slice A0_2 l0_2.length c0_2) ∧ w38.cell? ⟨gb488, 3, none⟩ = some (.string a0_3) ∧ w38.cell? ⟨gb489, 0, none⟩ = some (.int .i64 a1_0) ∧ w38.cell? ⟨gb489, 1, none⟩ = some (.slice A1_1 l1_1.length c1_1) ∧ w38.cell? ⟨gb489, 2, none⟩ = some (.string a1_2) := hS_
            refine norm_ (a' := ?_) ?_ ?_
            rotate_left
            ·simp only [putAll, Act.put, List.setIfInBounds_toArray, List.set_cons_zero, List.set_cons_succ]
             rfl
            refine three_ (i := 5) (j := 6) (k := 7) (Ni := some 30) (Nj := some 5) (Nk := some 6) #[true, true, true, true, true, true, false, false, false, false] #[true, true, true, true, true, false, true, false, false, false] #[true, true, true, true, true, false, false, true, false, false] rfl rfl rfl rfl rfl rfl (three_of HT_.out (by kernel_rfl)) (by decide) (by decide) (by decide) (fun K hK => ?_) (fun K hK => ?_) (fun K hK => ?_)
            ·skip
             refine goes_ Tryz.func27 (by kernel_rfl) rfl #[.slice A1_1 l1_1.length c1_1] (by rfl) rfl rfl ma ?_
             with_reducible refine (spec_CcOf.calls kj2 _ _ l1_1 t498 t499 t500 t501 t502 t503 _ ?side1 ?side2 A34.out).mono ?_
             (case side1 => exact cb HR1_1)
             (case side2 => exact HC1_1.out)
             rintro e w39 ⟨rfl, hb⟩
             refine ⟨_, rfl, ?_⟩
             replace BK488 := kb BK488 hb
             replace BK489 := kb BK489 hb
             replace HB := am (below_step bl hb)
             clear hb
             refine hK.out _ _ ⟨bc BK488, bc BK488, bc BK488, bc BK488, bc BK489, bc BK489, bc BK489⟩ (fun hHeld => ?_)
             clear hK K
             refine nm 30 ?_
             exact norm_ (by first | (simp only [putAll, Act.put, List.setIfInBounds_toArray, List.set_cons_zero, List.set_cons_succ]; done) | (simp only [putAll, Act.put, List.setIfInBounds_toArray, List.set_cons_zero, List.set_cons_succ]; rfl)) (hJ2_5 () _ ⟨hHeld, (bk BK488), (bk BK489), bl⟩)
            ·skip
             refine box_step ?hg (N := 5) ?hd (cs := #[.bool false, .bool false, .bool false, .bool false, .bool false, .int .i64 0]) (t := 42) ?hr ?_; (case hd => rfl); (case hg => rfl); (case hr => first | (go_simp; done) | (go_simp; rfl))
             intro gb504 hg w39 hbox hb
             have BK504 := am (hbox)
             have GW504 := am (sz hg : w.heap.size ≤ gb504)
             have GE504 := am (sz hg : w.heap.size ≤ gb504)
             replace HB := am (below_step bl hb)
             have NB488_504 := am (nl hg BK488 : gb488 ≠ gb504)
             have NB504_488 := am (ng hg BK488 : gb504 ≠ gb488)
             replace BK488 := kb BK488 hb
             have NB489_504 := am (nl hg BK489 : gb489 ≠ gb504)
             have NB504_489 := am (ng hg BK489 : gb504 ≠ gb489)
             replace BK489 := kb BK489 hb
             clear hb hbox hg
             refine hK.out _ _ ⟨bc BK488, bc BK488, bc BK488, bc BK488, bc BK489, bc BK489, bc BK489⟩ (fun hHeld => ?_)
             clear hK K
             refine nm 5 ?_
             exact norm_ (by first | (simp only [putAll, Act.put, List.setIfInBounds_toArray, List.set_cons_zero, List.set_cons_succ]; done) | (simp only [putAll, Act.put, List.setIfInBounds_toArray, List.set_cons_zero, List.set_cons_succ]; rfl)) (hJ2_6 (gb504) _ ⟨hHeld, (bk BK488), (bk BK489), (bk BK504), GW504.out, GE504.out, NB488_504.out, NB504_488.out, NB489_504.out, NB504_489.out, bl⟩)
            ·skip
             refine box_step ?hg (N := 6) ?hd (cs := #[.bool false, .bool false, .bool false, .bool false, .bool false, .int .i64 0]) (t := 42) ?hr ?_; (case hd => rfl); (case hg => rfl); (case hr => first | (go_simp; done) | (go_simp; rfl))
             intro gb505 hg w39 hbox hb
             have BK505 := am (hbox)
             have GW505 := am (sz hg : w.heap.size ≤ gb505)
             have GE505 := am (sz hg : w.heap.size ≤ gb505)
             replace HB := am (below_step bl hb)
             have NB488_505 := am (nl hg BK488 : gb488 ≠ gb505)
             have NB505_488 := am (ng hg BK488 : gb505 ≠ gb488)
             replace BK488 := kb BK488 hb
             have NB489_505 := am (nl hg BK489 : gb489 ≠ gb505)
             have NB505_489 := am (ng hg BK489 : gb505 ≠ gb489)
             replace BK489 := kb BK489 hb
             clear hb hbox hg
             refine hK.out _ _ ⟨bc BK488, bc BK488, bc BK488, bc BK488, bc BK489, bc BK489, bc BK489⟩ (fun hHeld => ?_)
             clear hK K
             refine nm 6 ?_
             exact norm_ (by first | (simp only [putAll, Act.put, List.setIfInBounds_toArray, List.set_cons_zero, List.set_cons_succ]; done) | (simp only [putAll, Act.put, List.setIfInBounds_toArray, List.set_cons_zero, List.set_cons_succ]; rfl)) (hJ2_7 (gb505) _ ⟨hHeld, (bk BK488), (bk BK489), (bk BK505), GW505.out, GE505.out, NB488_505.out, NB505_488.out, NB489_505.out, NB505_489.out, bl⟩)
          ·skip
           rintro ⟨gb504, gb505⟩ w39 ⟨hS_, h0_, h1_, h2_, h3_, h4_, h5_, h6_, h7_, h8_, h9_, h10_, h11_, h12_, h13_, h14_, h15_, h16_, h17_, h18_⟩
           have n0_ : Aside0 (w39.heap[gb488]? = some (.cells #[.int .i64 a0_0, .string a0_1, .slice A0_2 l0_2.length c0_2, .string a0_3] 50 (0, 0))) := ⟨h0_⟩
           have n1_ : Aside0 (w39.heap[gb489]? = some (.cells #[.int .i64 a1_0, .slice A1_1 l1_1.length c1_1, .string a1_2] 29 (0, 0))) := ⟨h1_⟩
           have n2_ : Aside0 (w39.heap[gb504]? = some (.cells #[.bool false, .bool false, .bool false, .bool false, .bool false, .int .i64 0] 42 (0, 0))) := ⟨h2_⟩
           have n3_ : Aside0 (w39.heap[gb505]? = some (.cells #[.bool false, .bool false, .bool false, .bool false, .bool false, .int .i64 0] 42 (0, 0))) := ⟨h3_⟩
           have n4_ : Aside0 (w.heap.size ≤ gb504) := ⟨h4_⟩
           have n5_ : Aside0 (w.heap.size ≤ gb504) := ⟨h5_⟩
           have n6_ : Aside0 (gb488 ≠ gb504) := ⟨h6_⟩
           have n7_ : Aside0 (gb504 ≠ gb488) := ⟨h7_⟩
           have n8_ : Aside0 (gb489 ≠ gb504) := ⟨h8_⟩
           have n9_ : Aside0 (gb504 ≠ gb489) := ⟨h9_⟩
           have n10_ : Aside0 (gb505 ≠ gb504) := ⟨h10_⟩
           have n11_ : Aside0 (gb504 ≠ gb505) := ⟨h11_⟩
           have n12_ : Aside0 (w.heap.size ≤ gb505) := ⟨h12_⟩
           have n13_ : Aside0 (w.heap.size ≤ gb505) := ⟨h13_⟩
           have n14_ : Aside0 (gb488 ≠ gb505) := ⟨h14_⟩
           have n15_ : Aside0 (gb505 ≠ gb488) := ⟨h15_⟩
           have n16_ : Aside0 (gb489 ≠ gb505) := ⟨h16_⟩
           have n17_ : Aside0 (gb505 ≠ gb489) := ⟨h17_⟩
           have n18_ : Aside0 (Below w.heap.size w w39) := ⟨h18_⟩
           clear BK488
           clear BK489
           clear HB
           clear h0_ h1_ h2_ h3_ h4_ h5_ h6_ h7_ h8_ h9_ h10_ h11_ h12_ h13_ h14_ h15_ h16_ h17_ h18_
           have BK488 := n0_
           have BK489 := n1_
           have BK504 := n2_
           have BK505 := n3_
           have GW504 := n4_
           have GE504 := n5_
           have NB488_504 := n6_
           have NB504_488 := n7_
           have NB489_504 := n8_
           have NB504_489 := n9_
           have NB505_504 := n10_
           have NB504_505 := n11_
           have GW505 := n12_
           have GE505 := n13_
           have NB488_505 := n14_
           have NB505_488 := n15_
           have NB489_505 := n16_
           have NB505_489 := n17_
           have HB := n18_
           clear n0_ n1_ n2_ n3_ n4_ n5_ n6_ n7_ n8_ n9_ n10_ n11_ n12_ n13_ n14_ n15_ n16_ n17_ n18_
           have hHeld : w39.cell? ⟨gb488, 0, none⟩ = some (.int .i64 a0_0) ∧ w39.cell? ⟨gb488, 1, none⟩ = some (.string a0_1) ∧ w39.cell? ⟨gb488, 2, none⟩ = some (.slice A0_2 l0_2.length c0_2) ∧ w39.cell? ⟨gb488, 3, none⟩ = some (.string a0_3) ∧ w39.cell? ⟨gb489, 0, none⟩ = some (.int .i64 a1_0) ∧ w39.cell? ⟨gb489, 1, none⟩ = some (.slice A1_1 l1_1.length c1_1) ∧ w39.cell? ⟨gb489, 2, none⟩ = some (.string a1_2) := hS_
           refine norm_ (a' := ?_) ?_ ?_
           rotate_left
           ·simp only [putAll, Act.put, List.setIfInBounds_toArray, List.set_cons_zero, List.set_cons_succ]
            rfl
           refine og 2 27 [5, 1, 2, 2] Tryz.func27 #[.slice A0_2 l0_2.length c0_2] (fun K hK => ?_)
           with_reducible refine (spec_CcOf.calls kj2 _ _ l0_2 t492 t493 t494 t495 t496 t497 _ ?side1 ?side2 A33.out).mono ?_
           (case side1 => exact cb HR0_2)
           (case side2 => exact HC0_2.out)
           rintro e w40 ⟨rfl, hb⟩
           refine ⟨_, rfl, ?_⟩
           replace BK488 := kb BK488 hb
           replace BK489 := kb BK489 hb
           replace BK504 := kb BK504 hb
           replace BK505 := kb BK505 hb
           replace HB := am (below_step bl hb)
           clear hb
           refine hK.out _ _ ⟨bc BK488, bc BK488, bc BK488, bc BK488, bc BK489, bc BK489, bc BK489⟩ (fun hHeld => ?_)
           clear hK K
           refine nm 27 ?_
           exact norm_ (by first | (simp only [putAll, Act.put, List.setIfInBounds_toArray, List.set_cons_zero, List.set_cons_succ]; done) | (simp only [putAll, Act.put, List.setIfInBounds_toArray, List.set_cons_zero, List.set_cons_succ]; rfl)) (hJ2_6_7 (gb504, gb505) _ ⟨hHeld, (bk BK488), (bk BK489), (bk BK504), (bk BK505), GW504.out, GE504.out, NB488_504.out, NB504_488.out, NB489_504.out, NB504_489.out, NB505_504.out, NB504_505.out, GW505.out, GE505.out, NB488_505.out, NB505_488.out, NB489_505.out, NB505_489.out, bl⟩)
         ·skip
          rintro gb505 w39 ⟨hS_, h0_, h1_, h2_, h3_, h4_, h5_, h6_, h7_, h8_, h9_⟩
          have n0_ : Aside0 (w39.heap[gb488]? = some (.cells #[.int .i64 a0_0, .string a0_1, .slice A0_2 l0_2.length c0_2, .string a0_3] 50 (0, 0))) := ⟨h0_⟩
          have n1_ : Aside0 (w39.heap[gb489]? = some (.cells #[.int .i64 a1_0, .slice A1_1 l1_1.length c1_1, .string a1_2] 29 (0, 0))) := ⟨h1_⟩
          have n2_ : Aside0 (w39.heap[gb505]? = some (.cells #[.bool false, .bool false, .bool false, .bool false, .bool false, .int .i64 0] 42 (0, 0))) := ⟨h2_⟩
          have n3_ : Aside0 (w.heap.size ≤ gb505) := ⟨h3_⟩
          have n4_ : Aside0 (w.heap.size ≤ gb505) := ⟨h4_⟩
          have n5_ : Aside0 (gb488 ≠ gb505) := ⟨h5_⟩
          have n6_ : Aside0 (gb505 ≠ gb488) := ⟨h6_⟩
          have n7_ : Aside0 (gb489 ≠ gb505) := ⟨h7_⟩
          have n8_ : Aside0 (gb505 ≠ gb489) := ⟨h8_⟩
          have n9_ : Aside0 (Below w.heap.size w w39) := ⟨h9_⟩
          clear BK488
          clear BK489
          clear HB
          clear h0_ h1_ h2_ h3_ h4_ h5_ h6_ h7_ h8_ h9_
          have BK488 := n0_
          have BK489 := n1_
          have BK505 := n2_
          have GW505 := n3_
          have GE505 := n4_
          have NB488_505 := n5_
          have NB505_488 := n6_
          have NB489_505 := n7_
          have NB505_489 := n8_
          have HB := n9_
          clear n0_ n1_ n2_ n3_ n4_ n5_ n6_ n7_ n8_ n9_
          have hHeld : w39.cell? ⟨gb488, 0, none⟩ = some (.int .i64 a0_0) ∧ w39.cell? ⟨gb488, 1, none⟩ = some (.string a0_1) ∧ w39.cell? ⟨gb488, 2, none⟩ = some (.slice A0_2 l0_2.length c0_2) ∧ w39.cell? ⟨gb488, 3, none⟩ = some (.string a0_3) ∧ w39.cell? ⟨gb489, 0, none⟩ = some (.int .i64 a1_0) ∧ w39.cell? ⟨gb489, 1, none⟩ = some (.slice A1_1 l1_1.length c1_1) ∧ w39.cell? ⟨gb489, 2, none⟩ = some (.string a1_2) := hS_
          refine norm_ (a' := ?_) ?_ ?_
          rotate_left
          ·simp only [putAll, Act.put, List.setIfInBounds_toArray, List.set_cons_zero, List.set_cons_succ]
           rfl
          refine two_ (i := 5) (j := 6) (Ni := some 30) (Nj := some 5) #[true, true, true, true, true, true, false, true, false, false] #[true, true, true, true, true, false, true, true, false, false] rfl rfl rfl rfl (two_of HT_.out (by kernel_rfl)) (by decide) (by decide) (fun K hK => ?_) (fun K hK => ?_)
          ·skip
           refine goes_ Tryz.func27 (by kernel_rfl) rfl #[.slice A1_1 l1_1.length c1_1] (by rfl) rfl rfl ma ?_
           with_reducible refine (spec_CcOf.calls kj2 _ _ l1_1 t498 t499 t500 t501 t502 t503 _ ?side1 ?side2 A34.out).mono ?_
           (case side1 => exact cb HR1_1)
           (case side2 => exact HC1_1.out)
           rintro e w40 ⟨rfl, hb⟩
           refine ⟨_, rfl, ?_⟩
           replace BK488 := kb BK488 hb
           replace BK489 := kb BK489 hb
           replace BK505 := kb BK505 hb
           replace HB := am (below_step bl hb)
           clear hb
           refine hK.out _ _ ⟨bc BK488, bc BK488, bc BK488, bc BK488, bc BK489, bc BK489, bc BK489⟩ (fun hHeld => ?_)
           clear hK K
           refine nm 30 ?_
           exact norm_ (by first | (simp only [putAll, Act.put, List.setIfInBounds_toArray, List.set_cons_zero, List.set_cons_succ]; done) | (simp only [putAll, Act.put, List.setIfInBounds_toArray, List.set_cons_zero, List.set_cons_succ]; rfl)) (hJ2_5_7 (gb505) _ ⟨hHeld, (bk BK488), (bk BK489), (bk BK505), GW505.out, GE505.out, NB488_505.out, NB505_488.out, NB489_505.out, NB505_489.out, bl⟩)
          ·skip
           refine box_step ?hg (N := 5) ?hd (cs := #[.bool false, .bool false, .bool false, .bool false, .bool false, .int .i64 0]) (t := 42) ?hr ?_; (case hd => rfl); (case hg => rfl); (case hr => first | (go_simp; done) | (go_simp; rfl))
           intro gb504 hg w40 hbox hb
           have BK504 := am (hbox)
           have GW504 := am (sz hg : w.heap.size ≤ gb504)
           have GE504 := am (sz hg : w.heap.size ≤ gb504)
           replace HB := am (below_step bl hb)
           have NB488_504 := am (nl hg BK488 : gb488 ≠ gb504)
           have NB504_488 := am (ng hg BK488 : gb504 ≠ gb488)
           replace BK488 := kb BK488 hb
           have NB489_504 := am (nl hg BK489 : gb489 ≠ gb504)
           have NB504_489 := am (ng hg BK489 : gb504 ≠ gb489)
           replace BK489 := kb BK489 hb
           have NB505_504 := am (nl hg BK505 : gb505 ≠ gb504)
           have NB504_505 := am (ng hg BK505 : gb504 ≠ gb505)
           replace BK505 := kb BK505 hb
           clear hb hbox hg
           refine hK.out _ _ ⟨bc BK488, bc BK488, bc BK488, bc BK488, bc BK489, bc BK489, bc BK489⟩ (fun hHeld => ?_)
           clear hK K
           refine nm 5 ?_
           exact norm_ (by first | (simp only [putAll, Act.put, List.setIfInBounds_toArray, List.set_cons_zero, List.set_cons_succ]; done) | (simp only [putAll, Act.put, List.setIfInBounds_toArray, List.set_cons_zero, List.set_cons_succ]; rfl)) (hJ2_6_7 (gb504, gb505) _ ⟨hHeld, (bk BK488), (bk BK489), (bk BK504), (bk BK505), GW504.out, GE504.out, NB488_504.out, NB504_488.out, NB489_504.out, NB504_489.out, NB505_504.out, NB504_505.out, GW505.out, GE505.out, NB488_505.out, NB505_488.out, NB489_505.out, NB505_489.out, bl⟩)
        ·skip
         rintro gb504 w39 ⟨hS_, h0_, h1_, h2_, h3_, h4_, h5_, h6_, h7_, h8_, h9_⟩
         have n0_ : Aside0 (w39.heap[gb488]? = some (.cells #[.int .i64 a0_0, .string a0_1, .slice A0_2 l0_2.length c0_2, .string a0_3] 50 (0, 0))) := ⟨h0_⟩
         have n1_ : Aside0 (w39.heap[gb489]? = some (.cells #[.int .i64 a1_0, .slice A1_1 l1_1.length c1_1, .string a1_2] 29 (0, 0))) := ⟨h1_⟩
         have n2_ : Aside0 (w39.heap[gb504]? = some (.cells #[.bool false, .bool false, .bool false, .bool false, .bool false, .int .i64 0] 42 (0, 0))) := ⟨h2_⟩
         have n3_ : Aside0 (w.heap.size ≤ gb504) := ⟨h3_⟩
         have n4_ : Aside0 (w.heap.size ≤ gb504) := ⟨h4_⟩
         have n5_ : Aside0 (gb488 ≠ gb504) := ⟨h5_⟩
         have n6_ : Aside0 (gb504 ≠ gb488) := ⟨h6_⟩
         have n7_ : Aside0 (gb489 ≠ gb504) := ⟨h7_⟩
         have n8_ : Aside0 (gb504 ≠ gb489) := ⟨h8_⟩
         have n9_ : Aside0 (Below w.heap.size w w39) := ⟨h9_⟩
         clear BK488
         clear BK489
         clear HB
         clear h0_ h1_ h2_ h3_ h4_ h5_ h6_ h7_ h8_ h9_
         have BK488 := n0_
         have BK489 := n1_
         have BK504 := n2_
         have GW504 := n3_
         have GE504 := n4_
         have NB488_504 := n5_
         have NB504_488 := n6_
         have NB489_504 := n7_
         have NB504_489 := n8_
         have HB := n9_
         clear n0_ n1_ n2_ n3_ n4_ n5_ n6_ n7_ n8_ n9_
         have hHeld : w39.cell? ⟨gb488, 0, none⟩ = some (.int .i64 a0_0) ∧ w39.cell? ⟨gb488, 1, none⟩ = some (.string a0_1) ∧ w39.cell? ⟨gb488, 2, none⟩ = some (.slice A0_2 l0_2.length c0_2) ∧ w39.cell? ⟨gb488, 3, none⟩ = some (.string a0_3) ∧ w39.cell? ⟨gb489, 0, none⟩ = some (.int .i64 a1_0) ∧ w39.cell? ⟨gb489, 1, none⟩ = some (.slice A1_1 l1_1.length c1_1) ∧ w39.cell? ⟨gb489, 2, none⟩ = some (.string a1_2) := hS_
         refine norm_ (a' := ?_) ?_ ?_
         rotate_left
         ·simp only [putAll, Act.put, List.setIfInBounds_toArray, List.set_cons_zero, List.set_cons_succ]
          rfl
         refine two_ (i := 5) (j := 7) (Ni := some 30) (Nj := some 6) #[true, true, true, true, true, true, true, false, false, false] #[true, true, true, true, true, false, true, true, false, false] rfl rfl rfl rfl (two_of HT_.out (by kernel_rfl)) (by decide) (by decide) (fun K hK => ?_) (fun K hK => ?_)
         ·skip
          refine goes_ Tryz.func27 (by kernel_rfl) rfl #[.slice A1_1 l1_1.length c1_1] (by rfl) rfl rfl ma ?_
          with_reducible refine (spec_CcOf.calls kj2 _ _ l1_1 t498 t499 t500 t501 t502 t503 _ ?side1 ?side2 A34.out).mono ?_
          (case side1 => exact cb HR1_1)
          (case side2 => exact HC1_1.out)
          rintro e w40 ⟨rfl, hb⟩
          refine ⟨_, rfl, ?_⟩
          replace BK488 := kb BK488 hb
          replace BK489 := kb BK489 hb
          replace BK504 := kb BK504 hb
          replace HB := am (below_step bl hb)
          clear hb
          refine hK.out _ _ ⟨bc BK488, bc BK488, bc BK488, bc BK488, bc BK489, bc BK489, bc BK489⟩ (fun hHeld => ?_)
          clear hK K
          refine nm 30 ?_
          exact norm_ (by first | (simp only [putAll, Act.put, List.setIfInBounds_toArray, List.set_cons_zero, List.set_cons_succ]; done) | (simp only [putAll, Act.put, List.setIfInBounds_toArray, List.set_cons_zero, List.set_cons_succ]; rfl)) (hJ2_5_6 (gb504) _ ⟨hHeld, (bk BK488), (bk BK489), (bk BK504), GW504.out, GE504.out, NB488_504.out, NB504_488.out, NB489_504.out, NB504_489.out, bl⟩)
         ·skip
          refine box_step ?hg (N := 6) ?hd (cs := #[.bool false, .bool false, .bool false, .bool false, .bool false, .int .i64 0]) (t := 42) ?hr ?_; (case hd => rfl); (case hg => rfl); (case hr => first | (go_simp; done) | (go_simp; rfl))
          intro gb505 hg w40 hbox hb
          have BK505 := am (hbox)
          have GW505 := am (sz hg : w.heap.size ≤ gb505)
          have GE505 := am (sz hg : w.heap.size ≤ gb505)
          replace HB := am (below_step bl hb)
          have NB488_505 := am (nl hg BK488 : gb488 ≠ gb505)
          have NB505_488 := am (ng hg BK488 : gb505 ≠ gb488)
          replace BK488 := kb BK488 hb
          have NB489_505 := am (nl hg BK489 : gb489 ≠ gb505)
          have NB505_489 := am (ng hg BK489 : gb505 ≠ gb489)
          replace BK489 := kb BK489 hb
          have NB504_505 := am (nl hg BK504 : gb504 ≠ gb505)
          have NB505_504 := am (ng hg BK504 : gb505 ≠ gb504)
          replace BK504 := kb BK504 hb
          clear hb hbox hg
          refine hK.out _ _ ⟨bc BK488, bc BK488, bc BK488, bc BK488, bc BK489, bc BK489, bc BK489⟩ (fun hHeld => ?_)
          clear hK K
          refine nm 6 ?_
          exact norm_ (by first | (simp only [putAll, Act.put, List.setIfInBounds_toArray, List.set_cons_zero, List.set_cons_succ]; done) | (simp only [putAll, Act.put, List.setIfInBounds_toArray, List.set_cons_zero, List.set_cons_succ]; rfl)) (hJ2_6_7 (gb504, gb505) _ ⟨hHeld, (bk BK488), (bk BK489), (bk BK504), (bk BK505), GW504.out, GE504.out, NB488_504.out, NB504_488.out, NB489_504.out, NB504_489.out, NB505_504.out, NB504_505.out, GW505.out, GE505.out, NB488_505.out, NB505_488.out, NB489_505.out, NB505_489.out, bl⟩)
       ·skip
        rintro _ w39 ⟨hS_, h0_, h1_, h2_⟩
        have n0_ : Aside0 (w39.heap[gb488]? = some (.cells #[.int .i64 a0_0, .string a0_1, .slice A0_2 l0_2.length c0_2, .string a0_3] 50 (0, 0))) := ⟨h0_⟩
        have n1_ : Aside0 (w39.heap[gb489]? = some (.cells #[.int .i64 a1_0, .slice A1_1 l1_1.length c1_1, .string a1_2] 29 (0, 0))) := ⟨h1_⟩
        have n2_ : Aside0 (Below w.heap.size w w39) := ⟨h2_⟩
        clear BK488
        clear BK489
        clear HB
        clear h0_ h1_ h2_
        have BK488 := n0_
        have BK489 := n1_
        have HB := n2_
        clear n0_ n1_ n2_
        have hHeld : w39.cell? ⟨gb488, 0, none⟩ = some (.int .i64 a0_0) ∧ w39.cell? ⟨gb488, 1, none⟩ = some (.string a0_1) ∧ w39.cell? ⟨gb488, 2, none⟩ = some (.slice A0_2 l0_2.length c0_2) ∧ w39.cell? ⟨gb488, 3, none⟩ = some (.string a0_3) ∧ w39.cell? ⟨gb489, 0, none⟩ = some (.int .i64 a1_0) ∧ w39.cell? ⟨gb489, 1, none⟩ = some (.slice A1_1 l1_1.length c1_1) ∧ w39.cell? ⟨gb489, 2, none⟩ = some (.string a1_2) := hS_
        refine norm_ (a' := ?_) ?_ ?_
        rotate_left
        ·simp only [putAll, Act.put, List.setIfInBounds_toArray, List.set_cons_zero, List.set_cons_succ]
         rfl
        refine two_ (i := 6) (j := 7) (Ni := some 5) (Nj := some 6) #[true, true, true, true, true, true, true, false, false, false] #[true, true, true, true, true, true, false, true, false, false] rfl rfl rfl rfl (two_of HT_.out (by kernel_rfl)) (by decide) (by decide) (fun K hK => ?_) (fun K hK => ?_)
        ·skip
         refine box_step ?hg (N := 5) ?hd (cs := #[.bool false, .bool false, .bool false, .bool false, .bool false, .int .i64 0]) (t := 42) ?hr ?_; (case hd => rfl); (case hg => rfl); (case hr => first | (go_simp; done) | (go_simp; rfl))
         intro gb504 hg w40 hbox hb
         have BK504 := am (hbox)
         have GW504 := am (sz hg : w.heap.size ≤ gb504)
         have GE504 := am (sz hg : w.heap.size ≤ gb504)
         replace HB := am (below_step bl hb)
         have NB488_504 := am (nl hg BK488 : gb488 ≠ gb504)
         have NB504_488 := am (ng hg BK488 : gb504 ≠ gb488)
         replace BK488 := kb BK488 hb
         have NB489_504 := am (nl hg BK489 : gb489 ≠ gb504)
         have NB504_489 := am (ng hg BK489 : gb504 ≠ gb489)
         replace BK489 := kb BK489 hb
         clear hb hbox hg
         refine hK.out _ _ ⟨bc BK488, bc BK488, bc BK488, bc BK488, bc BK489, bc BK489, bc BK489⟩ (fun hHeld => ?_)
         clear hK K
         refine nm 5 ?_
         exact norm_ (by first | (simp only [putAll, Act.put, List.setIfInBounds_toArray, List.set_cons_zero, List.set_cons_succ]; done) | (simp only [putAll, Act.put, List.setIfInBounds_toArray, List.set_cons_zero, List.set_cons_succ]; rfl)) (hJ2_5_6 (gb504) _ ⟨hHeld, (bk BK488), (bk BK489), (bk BK504), GW504.out, GE504.out, NB488_504.out, NB504_488.out, NB489_504.out, NB504_489.out, bl⟩)
        ·skip
         refine box_step ?hg (N := 6) ?hd (cs := #[.bool false, .bool false, .bool false, .bool false, .bool false, .int .i64 0]) (t := 42) ?hr ?_; (case hd => rfl); (case hg => rfl); (case hr => first | (go_simp; done) | (go_simp; rfl))
         intro gb505 hg w40 hbox hb
         have BK505 := am (hbox)
         have GW505 := am (sz hg : w.heap.size ≤ gb505)
         have GE505 := am (sz hg : w.heap.size ≤ gb505)
         replace HB := am (below_step bl hb)
         have NB488_505 := am (nl hg BK488 : gb488 ≠ gb505)
         have NB505_488 := am (ng hg BK488 : gb505 ≠ gb488)
         replace BK488 := kb BK488 hb
         have NB489_505 := am (nl hg BK489 : gb489 ≠ gb505)
         have NB505_489 := am (ng hg BK489 : gb505 ≠ gb489)
         replace BK489 := kb BK489 hb
         clear hb hbox hg
         refine hK.out _ _ ⟨bc BK488, bc BK488, bc BK488, bc BK488, bc BK489, bc BK489, bc BK489⟩ (fun hHeld => ?_)
         clear hK K
         refine nm 6 ?_
         exact norm_ (by first | (simp only [putAll, Act.put, List.setIfInBounds_toArray, List.set_cons_zero, List.set_cons_succ]; done) | (simp only [putAll, Act.put, List.setIfInBounds_toArray, List.set_cons_zero, List.set_cons_succ]; rfl)) (hJ2_5_7 (gb505) _ ⟨hHeld, (bk BK488), (bk BK489), (bk BK505), GW505.out, GE505.out, NB488_505.out, NB505_488.out, NB489_505.out, NB505_489.out, bl⟩)
      ·skip
       rintro ⟨gb504, gb505⟩ w40 ⟨hS_, h0_, h1_, h2_, h3_, h4_, h5_, h6_, h7_, h8_, h9_, h10_, h11_, h12_, h13_, h14_, h15_, h16_, h17_, h18_⟩
       have n0_ : Aside0 (w40.heap[gb488]? = some (.cells #[.int .i64 a0_0, .string a0_1, .slice A0_2 l0_2.length c0_2, .string a0_3] 50 (0, 0))) := ⟨h0_⟩
       have n1_ : Aside0 (w40.heap[gb489]? = some (.cells #[.int .i64 a1_0, .slice A1_1 l1_1.length c1_1, .string a1_2] 29 (0, 0))) := ⟨h1_⟩
       have n2_ : Aside0 (w40.heap[gb504]? = some (.cells #[.bool false, .bool false, .bool false, .bool false, .bool false, .int .i64 0] 42 (0, 0))) := ⟨h2_⟩
       have n3_ : Aside0 (w40.heap[gb505]? = some (.cells #[.bool false, .bool false, .bool false, .bool false, .bool false, .int .i64 0] 42 (0, 0))) := ⟨h3_⟩
       have n4_ : Aside0 (w.heap.size ≤ gb504) := ⟨h4_⟩
       have n5_ : Aside0 (w.heap.size ≤ gb504) := ⟨h5_⟩
       have n6_ : Aside0 (gb488 ≠ gb504) := ⟨h6_⟩
       have n7_ : Aside0 (gb504 ≠ gb488) := ⟨h7_⟩
       have n8_ : Aside0 (gb489 ≠ gb504) := ⟨h8_⟩
       have n9_ : Aside0 (gb504 ≠ gb489) := ⟨h9_⟩
       have n10_ : Aside0 (gb505 ≠ gb504) := ⟨h10_⟩
       have n11_ : Aside0 (gb504 ≠ gb505) := ⟨h11_⟩
       have n12_ : Aside0 (w.heap.size ≤ gb505) := ⟨h12_⟩
       have n13_ : Aside0 (w.heap.size ≤ gb505) := ⟨h13_⟩
       have n14_ : Aside0 (gb488 ≠ gb505) := ⟨h14_⟩
       have n15_ : Aside0 (gb505 ≠ gb488) := ⟨h15_⟩
       have n16_ : Aside0 (gb489 ≠ gb505) := ⟨h16_⟩
       have n17_ : Aside0 (gb505 ≠ gb489) := ⟨h17_⟩
       have n18_ : Aside0 (Below w.heap.size w w40) := ⟨h18_⟩
       clear BK488
       clear BK489
       clear HB
       clear h0_ h1_ h2_ h3_ h4_ h5_ h6_ h7_ h8_ h9_ h10_ h11_ h12_ h13_ h14_ h15_ h16_ h17_ h18_
       have BK488 := n0_
       have BK489 := n1_
       have BK504 := n2_
       have BK505 := n3_
       have GW504 := n4_
       have GE504 := n5_
       have NB488_504 := n6_
       have NB504_488 := n7_
       have NB489_504 := n8_
       have NB504_489 := n9_
       have NB505_504 := n10_
       have NB504_505 := n11_
       have GW505 := n12_
       have GE505 := n13_
       have NB488_505 := n14_
       have NB505_488 := n15_
       have NB489_505 := n16_
       have NB505_489 := n17_
       have HB := n18_
       clear n0_ n1_ n2_ n3_ n4_ n5_ n6_ n7_ n8_ n9_ n10_ n11_ n12_ n13_ n14_ n15_ n16_ n17_ n18_
       have hHeld : w40.cell? ⟨gb488, 0, none⟩ = some (.int .i64 a0_0) ∧ w40.cell? ⟨gb488, 1, none⟩ = some (.string a0_1) ∧ w40.cell? ⟨gb488, 2, none⟩ = some (.slice A0_2 l0_2.length c0_2) ∧ w40.cell? ⟨gb488, 3, none⟩ = some (.string a0_3) ∧ w40.cell? ⟨gb489, 0, none⟩ = some (.int .i64 a1_0) ∧ w40.cell? ⟨gb489, 1, none⟩ = some (.slice A1_1 l1_1.length c1_1) ∧ w40.cell? ⟨gb489, 2, none⟩ = some (.string a1_2) := hS_
       refine norm_ (a' := ?_) ?_ ?_
       rotate_left
       ·simp only [putAll, Act.put, List.setIfInBounds_toArray, List.set_cons_zero, List.set_cons_succ]
        rfl
       refine og 5 30 [8, 2] Tryz.func27 #[.slice A1_1 l1_1.length c1_1] (fun K hK => ?_)
       with_reducible refine (spec_CcOf.calls kj2 _ _ l1_1 t498 t499 t500 t501 t502 t503 _ ?side1 ?side2 A34.out).mono ?_
       (case side1 => exact cb HR1_1)
       (case side2 => exact HC1_1.out)
       rintro e w41 ⟨rfl, hb⟩
       refine ⟨_, rfl, ?_⟩
       replace BK488 := kb BK488 hb
       replace BK489 := kb BK489 hb
       replace BK504 := kb BK504 hb
       replace BK505 := kb BK505 hb
       replace HB := am (below_step bl hb)
       clear hb
       refine hK.out _ _ ⟨bc BK488, bc BK488, bc BK488, bc BK488, bc BK489, bc BK489, bc BK489⟩ (fun hHeld => ?_)
       clear hK K
       refine nm 30 ?_
       exact norm_ (by first | (simp only [putAll, Act.put, List.setIfInBounds_toArray, List.set_cons_zero, List.set_cons_succ]; done) | (simp only [putAll, Act.put, List.setIfInBounds_toArray, List.set_cons_zero, List.set_cons_succ]; rfl)) (hJ2_5_6_7 (gb504, gb505) _ ⟨hHeld, (bk BK488), (bk BK489), (bk BK504), (bk BK505), GW504.out, GE504.out, NB488_504.out, NB504_488.out, NB489_504.out, NB504_489.out, NB505_504.out, NB504_505.out, GW505.out, GE505.out, NB488_505.out, NB505_488.out, NB489_505.out, NB505_489.out, bl⟩)
     ·skip
      rintro gb505 w40 ⟨hS_, h0_, h1_, h2_, h3_, h4_, h5_, h6_, h7_, h8_, h9_⟩
      have n0_ : Aside0 (w40.heap[gb488]? = some (.cells #[.int .i64 a0_0, .string a0_1, .slice A0_2 l0_2.length c0_2, .string a0_3] 50 (0, 0))) := ⟨h0_⟩
      have n1_ : Aside0 (w40.heap[gb489]? = some (.cells #[.int .i64 a1_0, .slice A1_1 l1_1.length c1_1, .string a1_2] 29 (0, 0))) := ⟨h1_⟩
      have n2_ : Aside0 (w40.heap[gb505]? = some (.cells #[.bool false, .bool false, .bool false, .bool false, .bool false, .int .i64 0] 42 (0, 0))) := ⟨h2_⟩
      have n3_ : Aside0 (w.heap.size ≤ gb505) := ⟨h3_⟩
      have n4_ : Aside0 (w.heap.size ≤ gb505) := ⟨h4_⟩
      have n5_ : Aside0 (gb488 ≠ gb505) := ⟨h5_⟩
      have n6_ : Aside0 (gb505 ≠ gb488) := ⟨h6_⟩
      have n7_ : Aside0 (gb489 ≠ gb505) := ⟨h7_⟩
      have n8_ : Aside0 (gb505 ≠ gb489) := ⟨h8_⟩
      have n9_ : Aside0 (Below w.heap.size w w40) := ⟨h9_⟩
      clear BK488
      clear BK489
      clear HB
      clear h0_ h1_ h2_ h3_ h4_ h5_ h6_ h7_ h8_ h9_
      have BK488 := n0_
      have BK489 := n1_
      have BK505 := n2_
      have GW505 := n3_
      have GE505 := n4_
      have NB488_505 := n5_
      have NB505_488 := n6_
      have NB489_505 := n7_
      have NB505_489 := n8_
      have HB := n9_
      clear n0_ n1_ n2_ n3_ n4_ n5_ n6_ n7_ n8_ n9_
      have hHeld : w40.cell? ⟨gb488, 0, none⟩ = some (.int .i64 a0_0) ∧ w40.cell? ⟨gb488, 1, none⟩ = some (.string a0_1) ∧ w40.cell? ⟨gb488, 2, none⟩ = some (.slice A0_2 l0_2.length c0_2) ∧ w40.cell? ⟨gb488, 3, none⟩ = some (.string a0_3) ∧ w40.cell? ⟨gb489, 0, none⟩ = some (.int .i64 a1_0) ∧ w40.cell? ⟨gb489, 1, none⟩ = some (.slice A1_1 l1_1.length c1_1) ∧ w40.cell? ⟨gb489, 2, none⟩ = some (.string a1_2) := hS_
      refine norm_ (a' := ?_) ?_ ?_
      rotate_left
      ·simp only [putAll, Act.put, List.setIfInBounds_toArray, List.set_cons_zero, List.set_cons_succ]
       rfl
      refine one_ (i := 6) (N := some 5) #[true, true, true, true, true, true, true, true, false, false] rfl rfl (one_of HT_.out (by kernel_rfl)) (by decide) (fun K hK => ?_)
      refine box_step ?hg (N := 5) ?hd (cs := #[.bool false, .bool false, .bool false, .bool false, .bool false, .int .i64 0]) (t := 42) ?hr ?_; (case hd => rfl); (case hg => rfl); (case hr => first | (go_simp; done) | (go_simp; rfl))
      intro gb504 hg w41 hbox hb
      have BK504 := am (hbox)
      have GW504 := am (sz hg : w.heap.size ≤ gb504)
      have GE504 := am (sz hg : w.heap.size ≤ gb504)
      replace HB := am (below_step bl hb)
      have NB488_504 := am (nl hg BK488 : gb488 ≠ gb504)
      have NB504_488 := am (ng hg BK488 : gb504 ≠ gb488)
      replace BK488 := kb BK488 hb
      have NB489_504 := am (nl hg BK489 : gb489 ≠ gb504)
      have NB504_489 := am (ng hg BK489 : gb504 ≠ gb489)
      replace BK489 := kb BK489 hb
      have NB505_504 := am (nl hg BK505 : gb505 ≠ gb504)
      have NB504_505 := am (ng hg BK505 : gb504 ≠ gb505)
      replace BK505 := kb BK505 hb
      clear hb hbox hg
      refine hK.out _ _ ⟨bc BK488, bc BK488, bc BK488, bc BK488, bc BK489, bc BK489, bc BK489⟩ (fun hHeld => ?_)
      clear hK K
      refine nm 5 ?_
      exact norm_ (by first | (simp only [putAll, Act.put, List.setIfInBounds_toArray, List.set_cons_zero, List.set_cons_succ]; done) | (simp only [putAll, Act.put, List.setIfInBounds_toArray, List.set_cons_zero, List.set_cons_succ]; rfl)) (hJ2_5_6_7 (gb504, gb505) _ ⟨hHeld, (bk BK488), (bk BK489), (bk BK504), (bk BK505), GW504.out, GE504.out, NB488_504.out, NB504_488.out, NB489_504.out, NB504_489.out, NB505_504.out, NB504_505.out, GW505.out, GE505.out, NB488_505.out, NB505_488.out, NB489_505.out, NB505_489.out, bl⟩)
    ·skip
     rintro gb504 w40 ⟨hS_, h0_, h1_, h2_, h3_, h4_, h5_, h6_, h7_, h8_, h9_⟩
     have n0_ : Aside0 (w40.heap[gb488]? = some (.cells #[.int .i64 a0_0, .string a0_1, .slice A0_2 l0_2.length c0_2, .string a0_3] 50 (0, 0))) := ⟨h0_⟩
     have n1_ : Aside0 (w40.heap[gb489]? = some (.cells #[.int .i64 a1_0, .slice A1_1 l1_1.length c1_1, .string a1_2] 29 (0, 0))) := ⟨h1_⟩
     have n2_ : Aside0 (w40.heap[gb504]? = some (.cells #[.bool false, .bool false, .bool false, .bool false, .bool false, .int .i64 0] 42 (0, 0))) := ⟨h2_⟩
     have n3_ : Aside0 (w.heap.size ≤ gb504) := ⟨h3_⟩
     have n4_ : Aside0 (w.heap.size ≤ gb504) := ⟨h4_⟩
     have n5_ : Aside0 (gb488 ≠ gb504) := ⟨h5_⟩
     have n6_ : Aside0 (gb504 ≠ gb488) := ⟨h6_⟩
     have n7_ : Aside0 (gb489 ≠ gb504) := ⟨h7_⟩
     have n8_ : Aside0 (gb504 ≠ gb489) := ⟨h8_⟩
     have n9_ : Aside0 (Below w.heap.size w w40) := ⟨h9_⟩
     clear BK488
     clear BK489
     clear HB
     clear h0_ h1_ h2_ h3_ h4_ h5_ h6_ h7_ h8_ h9_
     have BK488 := n0_
     have BK489 := n1_
     have BK504 := n2_
     have GW504 := n3_
     have GE504 := n4_
     have NB488_504 := n5_
     have NB504_488 := n6_
     have NB489_504 := n7_
     have NB504_489 := n8_
     have HB := n9_
     clear n0_ n1_ n2_ n3_ n4_ n5_ n6_ n7_ n8_ n9_
     have hHeld : w40.cell? ⟨gb488, 0, none⟩ = some (.int .i64 a0_0) ∧ w40.cell? ⟨gb488, 1, none⟩ = some (.string a0_1) ∧ w40.cell? ⟨gb488, 2, none⟩ = some (.slice A0_2 l0_2.length c0_2) ∧ w40.cell? ⟨gb488, 3, none⟩ = some (.string a0_3) ∧ w40.cell? ⟨gb489, 0, none⟩ = some (.int .i64 a1_0) ∧ w40.cell? ⟨gb489, 1, none⟩ = some (.slice A1_1 l1_1.length c1_1) ∧ w40.cell? ⟨gb489, 2, none⟩ = some (.string a1_2) := hS_
     refine norm_ (a' := ?_) ?_ ?_
     rotate_left
     ·simp only [putAll, Act.put, List.setIfInBounds_toArray, List.set_cons_zero, List.set_cons_succ]
      rfl
     refine one_ (i := 7) (N := some 6) #[true, true, true, true, true, true, true, true, false, false] rfl rfl (one_of HT_.out (by kernel_rfl)) (by decide) (fun K hK => ?_)
     refine box_step ?hg (N := 6) ?hd (cs := #[.bool false, .bool false, .bool false, .bool false, .bool false, .int .i64 0]) (t := 42) ?hr ?_; (case hd => rfl); (case hg => rfl); (case hr => first | (go_simp; done) | (go_simp; rfl))
     intro gb505 hg w41 hbox hb
     have BK505 := am (hbox)
     have GW505 := am (sz hg : w.heap.size ≤ gb505)
     have GE505 := am (sz hg : w.heap.size ≤ gb505)
     replace HB := am (below_step bl hb)
     have NB488_505 := am (nl hg BK488 : gb488 ≠ gb505)
     have NB505_488 := am (ng hg BK488 : gb505 ≠ gb488)
     replace BK488 := kb BK488 hb
     have NB489_505 := am (nl hg BK489 : gb489 ≠ gb505)
     have NB505_489 := am (ng hg BK489 : gb505 ≠ gb489)
     replace BK489 := kb BK489 hb
     have NB504_505 := am (nl hg BK504 : gb504 ≠ gb505)
     have NB505_504 := am (ng hg BK504 : gb505 ≠ gb504)
     replace BK504 := kb BK504 hb
     clear hb hbox hg
     refine hK.out _ _ ⟨bc BK488, bc BK488, bc BK488, bc BK488, bc BK489, bc BK489, bc BK489⟩ (fun hHeld => ?_)
     clear hK K
     refine nm 6 ?_
     exact norm_ (by first | (simp only [putAll, Act.put, List.setIfInBounds_toArray, List.set_cons_zero, List.set_cons_succ]; done) | (simp only [putAll, Act.put, List.setIfInBounds_toArray, List.set_cons_zero, List.set_cons_succ]; rfl)) (hJ2_5_6_7 (gb504, gb505) _ ⟨hHeld, (bk BK488), (bk BK489), (bk BK504), (bk BK505), GW504.out, GE504.out, NB488_504.out, NB504_488.out, NB489_504.out, NB504_489.out, NB505_504.out, NB504_505.out, GW505.out, GE505.out, NB488_505.out, NB505_488.out, NB489_505.out, NB505_489.out, bl⟩)
   rintro ⟨gb504, gb505⟩ w41 ⟨hS_, h0_, h1_, h2_, h3_, h4_, h5_, h6_, h7_, h8_, h9_, h10_, h11_, h12_, h13_, h14_, h15_, h16_, h17_, h18_⟩
   have n0_ : Aside0 (w41.heap[gb488]? = some (.cells #[.int .i64 a0_0, .string a0_1, .slice A0_2 l0_2.length c0_2, .string a0_3] 50 (0, 0))) := ⟨h0_⟩
   have n1_ : Aside0 (w41.heap[gb489]? = some (.cells #[.int .i64 a1_0, .slice A1_1 l1_1.length c1_1, .string a1_2] 29 (0, 0))) := ⟨h1_⟩
   have n2_ : Aside0 (w41.heap[gb504]? = some (.cells #[.bool false, .bool false, .bool false, .bool false, .bool false, .int .i64 0] 42 (0, 0))) := ⟨h2_⟩
   have n3_ : Aside0 (w41.heap[gb505]? = some (.cells #[.bool false, .bool false, .bool false, .bool false, .bool false, .int .i64 0] 42 (0, 0))) := ⟨h3_⟩
   have n4_ : Aside0 (w.heap.size ≤ gb504) := ⟨h4_⟩
   have n5_ : Aside0 (w.heap.size ≤ gb504) := ⟨h5_⟩
   have n6_ : Aside0 (gb488 ≠ gb504) := ⟨h6_⟩
   have n7_ : Aside0 (gb504 ≠ gb488) := ⟨h7_⟩
   have n8_ : Aside0 (gb489 ≠ gb504) := ⟨h8_⟩
   have n9_ : Aside0 (gb504 ≠ gb489) := ⟨h9_⟩
   have n10_ : Aside0 (gb505 ≠ gb504) := ⟨h10_⟩
   have n11_ : Aside0 (gb504 ≠ gb505) := ⟨h11_⟩
   have n12_ : Aside0 (w.heap.size ≤ gb505) := ⟨h12_⟩
   have n13_ : Aside0 (w.heap.size ≤ gb505) := ⟨h13_⟩
   have n14_ : Aside0 (gb488 ≠ gb505) := ⟨h14_⟩
   have n15_ : Aside0 (gb505 ≠ gb488) := ⟨h15_⟩
   have n16_ : Aside0 (gb489 ≠ gb505) := ⟨h16_⟩
   have n17_ : Aside0 (gb505 ≠ gb489) := ⟨h17_⟩
   have n18_ : Aside0 (Below w.heap.size w w41) := ⟨h18_⟩
   clear BK488
   clear BK489
   clear HB
   clear h0_ h1_ h2_ h3_ h4_ h5_ h6_ h7_ h8_ h9_ h10_ h11_ h12_ h13_ h14_ h15_ h16_ h17_ h18_
   have BK488 := n0_
   have BK489 := n1_
   have BK504 := n2_
   have BK505 := n3_
   have GW504 := n4_
   have GE504 := n5_
   have NB488_504 := n6_
   have NB504_488 := n7_
   have NB489_504 := n8_
   have NB504_489 := n9_
   have NB505_504 := n10_
   have NB504_505 := n11_
   have GW505 := n12_
   have GE505 := n13_
   have NB488_505 := n14_
   have NB505_488 := n15_
   have NB489_505 := n16_
   have NB505_489 := n17_
   have HB := n18_
   clear n0_ n1_ n2_ n3_ n4_ n5_ n6_ n7_ n8_ n9_ n10_ n11_ n12_ n13_ n14_ n15_ n16_ n17_ n18_
   have hHeld : w41.cell? ⟨gb488, 0, none⟩ = some (.int .i64 a0_0) ∧ w41.cell? ⟨gb488, 1, none⟩ = some (.string a0_1) ∧ w41.cell? ⟨gb488, 2, none⟩ = some (.slice A0_2 l0_2.length c0_2) ∧ w41.cell? ⟨gb488, 3, none⟩ = some (.string a0_3) ∧ w41.cell? ⟨gb489, 0, none⟩ = some (.int .i64 a1_0) ∧ w41.cell? ⟨gb489, 1, none⟩ = some (.slice A1_1 l1_1.length c1_1) ∧ w41.cell? ⟨gb489, 2, none⟩ = some (.string a1_2) := hS_
   refine norm_ (a' := ?_) ?_ ?_
   rotate_left
   ·simp only [putAll, Act.put, List.setIfInBounds_toArray, List.set_cons_zero, List.set_cons_succ]
    rfl
   refine one_ (i := 8) (N := none) #[true, true, true, true, true, true, true, true, true, false] rfl rfl (one_of HT_.out (by kernel_rfl)) (by decide) (fun K hK => ?_)
   have hs42 : w41.cell? ⟨gb504, 0, none⟩ = some (.bool false) := bc BK504
   have hfs42 := blk_frozen BK504.out 0
   have hns42_0 := NB488_504.out
   have hns42_1 := NB489_504.out
   have hns42_3 := NB505_504.out
   have hms42_0 := NB504_488.out
   have hms42_1 := NB504_489.out
   have hms42_3 := NB504_505.out
   have hs43 : w41.cell? ⟨gb504, 1, none⟩ = some (.bool false) := bc BK504
   have hfs43 := blk_frozen BK504.out 1
   have hns43_0 := NB488_504.out
   have hns43_1 := NB489_504.out
   have hns43_3 := NB505_504.out
   have hms43_0 := NB504_488.out
   have hms43_1 := NB504_489.out
   have hms43_3 := NB504_505.out
   have hs44 : w41.cell? ⟨gb504, 2, none⟩ = some (.bool false) := bc BK504
   have hfs44 := blk_frozen BK504.out 2
   have hns44_0 := NB488_504.out
   have hns44_1 := NB489_504.out
   have hns44_3 := NB505_504.out
   have hms44_0 := NB504_488.out
   have hms44_1 := NB504_489.out
   have hms44_3 := NB504_505.out
   have hs45 : w41.cell? ⟨gb504, 3, none⟩ = some (.bool false) := bc BK504
   have hfs45 := blk_frozen BK504.out 3
   have hns45_0 := NB488_504.out
   have hns45_1 := NB489_504.out
   have hns45_3 := NB505_504.out
   have hms45_0 := NB504_488.out
   have hms45_1 := NB504_489.out
   have hms45_3 := NB504_505.out
   have hs46 : w41.cell? ⟨gb504, 4, none⟩ = some (.bool false) := bc BK504
   have hfs46 := blk_frozen BK504.out 4
   have hns46_0 := NB488_504.out
   have hns46_1 := NB489_504.out
   have hns46_3 := NB505_504.out
   have hms46_0 := NB504_488.out
   have hms46_1 := NB504_489.out
   have hms46_3 := NB504_505.out
   have hs47 : w41.cell? ⟨gb504, 5, none⟩ = some (.int .i64 0) := bc BK504
   have hfs47 := blk_frozen BK504.out 5
   have hns47_0 := NB488_504.out
   have hns47_1 := NB489_504.out
   have hns47_3 := NB505_504.out
   have hms47_0 := NB504_488.out
   have hms47_1 := NB504_489.out
   have hms47_3 := NB504_505.out
   refine skip_ (w1 := ?_) (by rfl) rfl ?_ ?_
   rotate_left
   ·go_simp
    rfl
   refine hK.out _ _ ⟨((cell_far (p := ⟨gb504, _, none⟩) NB488_504.out _).trans (((cell_far (p := ⟨gb504, _, none⟩) NB488_504.out _).trans (((cell_far (p := ⟨gb504, _, none⟩) NB488_504.out _).trans (((cell_far (p := ⟨gb504, _, none⟩) NB488_504.out _).trans (((cell_far (p := ⟨gb504, _, none⟩) NB488_504.out _).trans (((cell_far (p := ⟨gb504, _, none⟩) NB488_504.out _).trans (hHeld.1)))))))))))), ((cell_far (p := ⟨gb504, _, none⟩) NB488_504.out _).trans (((cell_far (p := ⟨gb504, _, none⟩) NB488_504.out _).trans (((cell_far (p := ⟨gb504, _, none⟩) NB488_504.out _).trans (((cell_far (p := ⟨gb504, _, none⟩) NB488_504.out _).trans (((cell_far (p := ⟨gb504, _, none⟩) NB488_504.out _).trans (((cell_far (p := ⟨gb504, _, none⟩) NB488_504.out _).trans (hHeld.2.1)))))))))))), ((cell_far (p := ⟨gb504, _, none⟩) NB488_504.out _).trans (((cell_far (p := ⟨gb504, _, none⟩) NB488_504.out _).trans (((cell_far (p := ⟨gb504, _, none⟩) NB488_504.out _).trans (((cell_far (p := ⟨gb504, _, none⟩) NB488_504.out _).trans (((cell_far (p := ⟨gb504, _, none⟩) NB488_504.out _).trans (((cell_far (p := ⟨gb504, _, none⟩) NB488_504.out _).trans (hHeld.2.2.1)))))))))))), ((cell_far (p := ⟨gb504, _, none⟩) NB488_504.out _).trans (((cell_far (p := ⟨gb504, _, none⟩) NB488_504.out _).trans (((cell_far (p := ⟨gb504, _, none⟩) NB488_504.out _).trans (((cell_far (p := ⟨gb504, _, none⟩) NB488_504.out _).trans (((cell_far (p := ⟨gb504, _, none⟩) NB488_504.out _).trans (((cell_far (p := ⟨gb504, _, none⟩) NB488_504.out _).trans (hHeld.2.2.2.1)))))))))))), ((cell_far (p := ⟨gb504, _, none⟩) NB489_504.out _).trans (((cell_far (p := ⟨gb504, _, none⟩) NB489_504.out _).trans (((cell_far (p := ⟨gb504, _, none⟩) NB489_504.out _).trans (((cell_far (p := ⟨gb504, _, none⟩) NB489_504.out _).trans (((cell_far (p := ⟨gb504, _, none⟩) NB489_504.out _).trans (((cell_far (p := ⟨gb504, _, none⟩) NB489_504.out _).trans (hHeld.2.2.2.2.1)))))))))))), ((cell_far (p := ⟨gb504, _, none⟩) NB489_504.out _).trans (((cell_far (p := ⟨gb504, _, none⟩) NB489_504.out _).trans (((cell_far (p := ⟨gb504, _, none⟩) NB489_504.out _).trans (((cell_far (p := ⟨gb504, _, none⟩) NB489_504.out _).trans (((cell_far (p := ⟨gb504, _, none⟩) NB489_504.out _).trans (((cell_far (p := ⟨gb504, _, none⟩) NB489_504.out _).trans (hHeld.2.2.2.2.2.1)))))))))))), ((cell_far (p := ⟨gb504, _, none⟩) NB489_504.out _).trans (((cell_far (p := ⟨gb504, _, none⟩) NB489_504.out _).trans (((cell_far (p := ⟨gb504, _, none⟩) NB489_504.out _).trans (((cell_far (p := ⟨gb504, _, none⟩) NB489_504.out _).trans (((cell_far (p := ⟨gb504, _, none⟩) NB489_504.out _).trans (((cell_far (p := ⟨gb504, _, none⟩) NB489_504.out _).trans (hHeld.2.2.2.2.2.2))))))))))))⟩ (fun hHeld => ?_)
   clear hK K
   refine one_ (i := 9) (N := none) #[true, true, true, true, true, true, true, true, true, true] rfl rfl (one_of HT_.out (by kernel_rfl)) (by decide) (fun K hK => ?_)
   have hs48 : w41.cell? ⟨gb505, 0, none⟩ = some (.bool false) := bc BK505
   have hfs48 := blk_frozen BK505.out 0
   have hns48_0 := NB488_505.out
   have hns48_1 := NB489_505.out
   have hns48_2 := NB504_505.out
   have hms48_0 := NB505_488.out
   have hms48_1 := NB505_489.out
   have hms48_2 := NB505_504.out
   have hs49 : w41.cell? ⟨gb505, 1, none⟩ = some (.bool false) := bc BK505
   have hfs49 := blk_frozen BK505.out 1
   have hns49_0 := NB488_505.out
   have hns49_1 := NB489_505.out
   have hns49_2 := NB504_505.out
   have hms49_0 := NB505_488.out
   have hms49_1 := NB505_489.out
   have hms49_2 := NB505_504.out
   have hs50 : w41.cell? ⟨gb505, 2, none⟩ = some (.bool false) := bc BK505
   have hfs50 := blk_frozen BK505.out 2
   have hns50_0 := NB488_505.out
   have hns50_1 := NB489_505.out
   have hns50_2 := NB504_505.out
   have hms50_0 := NB505_488.out
   have hms50_1 := NB505_489.out
   have hms50_2 := NB505_504.out
   have hs51 : w41.cell? ⟨gb505, 3, none⟩ = some (.bool false) := bc BK505
   have hfs51 := blk_frozen BK505.out 3
   have hns51_0 := NB488_505.out
   have hns51_1 := NB489_505.out
   have hns51_2 := NB504_505.out
   have hms51_0 := NB505_488.out
   have hms51_1 := NB505_489.out
   have hms51_2 := NB505_504.out
   have hs52 : w41.cell? ⟨gb505, 4, none⟩ = some (.bool false) := bc BK505
   have hfs52 := blk_frozen BK505.out 4
   have hns52_0 := NB488_505.out
   have hns52_1 := NB489_505.out
   have hns52_2 := NB504_505.out
   have hms52_0 := NB505_488.out
   have hms52_1 := NB505_489.out
   have hms52_2 := NB505_504.out
   have hs53 : w41.cell? ⟨gb505, 5, none⟩ = some (.int .i64 0) := bc BK505
   have hfs53 := blk_frozen BK505.out 5
   have hns53_0 := NB488_505.out
   have hns53_1 := NB489_505.out
   have hns53_2 := NB504_505.out
   have hms53_0 := NB505_488.out
   have hms53_1 := NB505_489.out
   have hms53_2 := NB505_504.out
   refine skip_ (w1 := ?_) (by rfl) rfl ?_ ?_
   rotate_left
   ·go_simp
    rfl
   refine hK.out _ _ ⟨((cell_far (p := ⟨gb505, _, none⟩) NB488_505.out _).trans (((cell_far (p := ⟨gb505, _, none⟩) NB488_505.out _).trans (((cell_far (p := ⟨gb505, _, none⟩) NB488_505.out _).trans (((cell_far (p := ⟨gb505, _, none⟩) NB488_505.out _).trans (((cell_far (p := ⟨gb505, _, none⟩) NB488_505.out _).trans (((cell_far (p := ⟨gb505, _, none⟩) NB488_505.out _).trans (hHeld.1)))))))))))), ((cell_far (p := ⟨gb505, _, none⟩) NB488_505.out _).trans (((cell_far (p := ⟨gb505, _, none⟩) NB488_505.out _).trans (((cell_far (p := ⟨gb505, _, none⟩) NB488_505.out _).trans (((cell_far (p := ⟨gb505, _, none⟩) NB488_505.out _).trans (((cell_far (p := ⟨gb505, _, none⟩) NB488_505.out _).trans (((cell_far (p := ⟨gb505, _, none⟩) NB488_505.out _).trans (hHeld.2.1)))))))))))), ((cell_far (p := ⟨gb505, _, none⟩) NB488_505.out _).trans (((cell_far (p := ⟨gb505, _, none⟩) NB488_505.out _).trans (((cell_far (p := ⟨gb505, _, none⟩) NB488_505.out _).trans (((cell_far (p := ⟨gb505, _, none⟩) NB488_505.out _).trans (((cell_far (p := ⟨gb505, _, none⟩) NB488_505.out _).trans (((cell_far (p := ⟨gb505, _, none⟩) NB488_505.out _).trans (hHeld.2.2.1)))))))))))), ((cell_far (p := ⟨gb505, _, none⟩) NB488_505.out _).trans (((cell_far (p := ⟨gb505, _, none⟩) NB488_505.out _).trans (((cell_far (p := ⟨gb505, _, none⟩) NB488_505.out _).trans (((cell_far (p := ⟨gb505, _, none⟩) NB488_505.out _).trans (((cell_far (p := ⟨gb505, _, none⟩) NB488_505.out _).trans (((cell_far (p := ⟨gb505, _, none⟩) NB488_505.out _).trans (hHeld.2.2.2.1)))))))))))), ((cell_far (p := ⟨gb505, _, none⟩) NB489_505.out _).trans (((cell_far (p := ⟨gb505, _, none⟩) NB489_505.out _).trans (((cell_far (p := ⟨gb505, _, none⟩) NB489_505.out _).trans (((cell_far (p := ⟨gb505, _, none⟩) NB489_505.out _).trans (((cell_far (p := ⟨gb505, _, none⟩) NB489_505.out _).trans (((cell_far (p := ⟨gb505, _, none⟩) NB489_505.out _).trans (hHeld.2.2.2.2.1)))))))))))), ((cell_far (p := ⟨gb505, _, none⟩) NB489_505.out _).trans (((cell_far (p := ⟨gb505, _, none⟩) NB489_505.out _).trans (((cell_far (p := ⟨gb505, _, none⟩) NB489_505.out _).trans (((cell_far (p := ⟨gb505, _, none⟩) NB489_505.out _).trans (((cell_far (p := ⟨gb505, _, none⟩) NB489_505.out _).trans (((cell_far (p := ⟨gb505, _, none⟩) NB489_505.out _).trans (hHeld.2.2.2.2.2.1)))))))))))), ((cell_far (p := ⟨gb505, _, none⟩) NB489_505.out _).trans (((cell_far (p := ⟨gb505, _, none⟩) NB489_505.out _).trans (((cell_far (p := ⟨gb505, _, none⟩) NB489_505.out _).trans (((cell_far (p := ⟨gb505, _, none⟩) NB489_505.out _).trans (((cell_far (p := ⟨gb505, _, none⟩) NB489_505.out _).trans (((cell_far (p := ⟨gb505, _, none⟩) NB489_505.out _).trans (hHeld.2.2.2.2.2.2))))))))))))⟩ (fun hHeld => ?_)
   clear hK K
   refine done_ (done_of HT_.out (by kernel_rfl)) ?_
   have H := HH_.out
   clear HH_
   by_cases c35 : t492 = true
   ·subst c35
    rw [if_pos rfl] at H
    obtain rfl := Option.some.inj H
    have hnb54 := NB504_488.out
    have hnc54 := NB488_504.out
    have hnb55 := NB504_489.out
    have hnc55 := NB489_504.out
    have hnb56 := NB504_505.out
    have hnc56 := NB505_504.out
    obtain ⟨z57_0, y57_0, z57_1, y57_1, z57_2, y57_2, z57_3, y57_3, z57_4, y57_4, z57_5, y57_5⟩ := cl6 BK504
    try go_wp2
    go_ret
    exact ⟨rf, bl⟩
   replace c35 := Bool.eq_false_iff.mpr c35
   subst c35
   rw [if_neg (show ¬ (false = true) by decide)] at H
   by_cases c58 : t498 = true
   ·subst c58
    rw [if_pos rfl] at H
    obtain rfl := Option.some.inj H
    have hnb77 := NB504_488.out
    have hnc77 := NB488_504.out
    have hnb78 := NB504_489.out
    have hnc78 := NB489_504.out
    have hnb79 := NB504_505.out
    have hnc79 := NB505_504.out
    obtain ⟨z80_0, y80_0, z80_1, y80_1, z80_2, y80_2, z80_3, y80_3, z80_4, y80_4, z80_5, y80_5⟩ := cl6 BK504
    have hnb81 := NB505_488.out
    have hnc81 := NB488_505.out
    have hnb82 := NB505_489.out
    have hnc82 := NB489_505.out
    obtain ⟨z83_0, y83_0, z83_1, y83_1, z83_2, y83_2, z83_3, y83_3, z83_4, y83_4, z83_5, y83_5⟩ := cl6 BK505
    try go_wp2
    go_ret
    exact ⟨rf, bl⟩
   replace c58 := Bool.eq_false_iff.mpr c58
   subst c58
   rw [if_neg (show ¬ (false = true) by decide)] at H
   by_cases c84 : t500 = true
   ·subst c84
    rw [if_pos rfl] at H
    obtain rfl := Option.some.inj H
    have hnb103 := NB504_488.out
    have hnc103 := NB488_504.out
    have hnb104 := NB504_489.out
    have hnc104 := NB489_504.out
    have hnb105 := NB504_505.out
    have hnc105 := NB505_504.out
    obtain ⟨z106_0, y106_0, z106_1, y106_1, z106_2, y106_2, z106_3, y106_3, z106_4, y106_4, z106_5, y106_5⟩ := cl6 BK504
    have hnb107 := NB505_488.out
    have hnc107 := NB488_505.out
    have hnb108 := NB505_489.out
    have hnc108 := NB489_505.out
    obtain ⟨z109_0, y109_0, z109_1, y109_1, z109_2, y109_2, z109_3, y109_3, z109_4, y109_4, z109_5, y109_5⟩ := cl6 BK505
    try go_wp2
    go_ret
    exact ⟨rf, bl⟩
   replace c84 := Bool.eq_false_iff.mpr c84
   subst c84
   rw [if_neg (show ¬ (false = true) by decide)] at H
   by_cases c110 : t502 = true
   rotate_left
   ·replace c110 := Bool.eq_false_iff.mpr c110
    subst c110
    rw [if_neg (show ¬ (false = true) by decide)] at H
    obtain rfl := Option.some.inj H
    have hnb160 := NB504_488.out
    have hnc160 := NB488_504.out
    have hnb161 := NB504_489.out
    have hnc161 := NB489_504.out
    have hnb162 := NB504_505.out
    have hnc162 := NB505_504.out
    obtain ⟨z163_0, y163_0, z163_1, y163_1, z163_2, y163_2, z163_3, y163_3, z163_4, y163_4, z163_5, y163_5⟩ := cl6 BK504
    have hnb164 := NB505_488.out
    have hnc164 := NB488_505.out
    have hnb165 := NB505_489.out
    have hnc165 := NB489_505.out
    obtain ⟨z166_0, y166_0, z166_1, y166_1, z166_2, y166_2, z166_3, y166_3, z166_4, y166_4, z166_5, y166_5⟩ := cl6 BK505
    try go_wp2
    go_ret
    exact ⟨rf, bl⟩
   subst c110
   rw [if_pos rfl] at H
   revert H
   refine ok1 fun t506 A111 H => ?_
   revert H
   refine ok1 fun t509 A112 H => ?_
   obtain rfl := Option.some.inj H
   have hnb131 := NB504_488.out
   have hnc131 := NB488_504.out
   have hnb132 := NB504_489.out
   have hnc132 := NB489_504.out
   have hnb133 := NB504_505.out
   have hnc133 := NB505_504.out
   obtain ⟨z134_0, y134_0, z134_1, y134_1, z134_2, y134_2, z134_3, y134_3, z134_4, y134_4, z134_5, y134_5⟩ := cl6 BK504
   have hnb135 := NB505_488.out
   have hnc135 := NB488_505.out
   have hnb136 := NB505_489.out
   have hnc136 := NB489_505.out
   obtain ⟨z137_0, y137_0, z137_1, y137_1, z137_2, y137_2, z137_3, y137_3, z137_4, y137_4, z137_5, y137_5⟩ := cl6 BK505
   have hnb138 := NB489_488.out
   have hnc138 := NB488_489.out
   obtain ⟨z139_0, y139_0, z139_1, y139_1, z139_2, y139_2⟩ := cl3 BK489
   try go_wp2_with (first | (go_at_call 94; (with_reducible refine (spec_VaryOf.calls kj2 _ _ l1_1 t506 _ ?side1 ?side2 A111.out).mono ?_); (case side1 => exact Kd.C_below HR1_1.out bl); (case side2 => exact HC1_1.out); rintro e w140 ⟨v507, rfl, ho0, hb⟩; have HO508 := am (Kd.R_lower ho0 (below_size bl)); replace BK488 := kg2 BK488 NB488_505 NB488_504 hb; replace BK489 := kg2 BK489 NB489_505 NB489_504 hb; replace BK504 := am (blk_below (g := gb504) (o := .cells #[.bool false, .bool t493, .bool t494, .bool t495, .bool t496, .int .i64 t497] 42 (0, 0)) (pt1 BK504 NB504_505) hb); replace BK505 := am (blk_below (g := gb505) (o := .cells #[.bool false, .bool t499, .bool false, .bool t501, .bool true, .int .i64 t503] 42 (0, 0)) (pt1 BK505 NB505_504) hb); replace HB := am (below_step bl hb); clear hb ho0; obtain ⟨Ao141, co141, eo141⟩ := Kd.R_slice HO508.out; subst eo141) | (go_at_call 93; (with_reducible refine (spec_l9Names.calls kj2 _ _ t506 t509 _ ?side1 ?side2 A112.out).mono ?_); (case side1 => exact rc HO508); (case side2 => exact (Kd.R_reads' HO508.out).2.1); rintro e w' ⟨rfl, ⟨nd, rfl⟩⟩))
   go_ret
   exact ⟨rf, bl⟩

end Go.Proofs.YtjlpjbkpmmpojaaGreatDoor.All
