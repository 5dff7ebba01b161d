-- Written by a program of this session (wip/tools/hprint.py) out of the translation. Lean checks it.
import Derived.Test.YtkgdcfaogdmcgaaDoorAllx0
import Derived.Test.YtkgdcfaogdmcgaaDoorAllx3
import Derived.Test.YtkgdcfaogdmcgaaDoorAllx29
import Derived.Test.YtkgdcfaogdmcgaaDoorAllx30
import Derived.Test.YtkgdcfaogdmcgaaDoorAllx31
import Derived.Test.YtkgdcfaogdmcgaaDoorAllx33
namespace Go.Proofs.YtkgdcfaogdmcgaaDoor.All
open Go.RowKit Go.Proofs.YtkgdcfaogdmcgaaDoorW.PrintWords Go.Proofs.YtkgdcfaogdmcgaaDoorW.PrintLast Go.Proofs.YtkgdcfaogdmcgaaDoorW.PrintMore
attribute [local go_sem] max2_int min2_int max_two min_two max_three min_three max_four min_four   -- for this text's walks alone
set_option linter.unusedVariables false
set_option linter.unusedSimpArgs false

/-! ### impl_Hits: function 90 -/
def impl_Hits.j0 : Nat → Bool → Int → ByteArray → ByteArray → Int → ByteArray → List ByteArray → List ByteArray → Int → List (S84) → ByteArray → Int → Option (Bool)
 | 0, _, _, _, _, _, _, _, _, _, _, _, _ => none
 | k + 1, x21, x979000, x979001, x979002, x979003, x980000, x980001, x980002, x980003, x980004, x980005, x980006 => if x21 = true then (some false) else (if x979000 = 1 then (some (x980000.toList == x979001.toList)) else (if x979000 = 2 then ((strings_HasPrefix.f x980000 x979001).bind fun t982 => (some t982)) else ((impl_Get.f x980004 x979001).bind fun bt983 => (if bt983.2 = true then (some (bt983.1.toList == x979002.toList)) else (some false)))))
def impl_Hits.f (k : Nat) (a0_0 : Int) (a0_1 : ByteArray) (a0_2 : ByteArray) (a0_3 : Int) (a1_0 : ByteArray) (l1_1 : List ByteArray) (l1_2 : List ByteArray) (a1_3 : Int) (l1_4 : List (S84)) (a1_5 : ByteArray) (a1_6 : Int) : Option (Bool) := if a1_6 > a0_3 then (impl_Hits.j0 k true a0_0 a0_1 a0_2 a0_3 a1_0 l1_1 l1_2 a1_3 l1_4 a1_5 a1_6) else ((impl_BanOk.f k a0_0 a0_1 a0_2 a0_3).bind fun t980 => (if t980 = true then ((impl_ObjOk.f k a1_0 l1_1 l1_2 a1_3 l1_4 a1_5 a1_6).bind fun t981 => (impl_Hits.j0 k (!t981) a0_0 a0_1 a0_2 a0_3 a1_0 l1_1 l1_2 a1_3 l1_4 a1_5 a1_6)) else (impl_Hits.j0 k true a0_0 a0_1 a0_2 a0_3 a1_0 l1_1 l1_2 a1_3 l1_4 a1_5 a1_6)))
theorem impl_Hits.mono_l : ∀ k, (∀ y0 y1 y2 y3 y4 y5 y6 y7 y8 y9 y10 y11, LeO (impl_Hits.j0 k y0 y1 y2 y3 y4 y5 y6 y7 y8 y9 y10 y11) (impl_Hits.j0 (k + 1) y0 y1 y2 y3 y4 y5 y6 y7 y8 y9 y10 y11))
 | 0 => fun _ _ _ _ _ _ _ _ _ _ _ _ r h => by simp [impl_Hits.j0] at h
 | k + 1 => by
  have ih0 := impl_Hits.mono_l k
  ·intro y0 y1 y2 y3 y4 y5 y6 y7 y8 y9 y10 y11
   unfold impl_Hits.j0
   have m0 := @impl_BanOk.mono
   have m1 := @impl_ObjOk.mono
   exact mo
theorem impl_Hits.mono : ∀ a0 a1 a2 a3 a4 a5 a6 a7 a8 a9 a10 k, LeO (impl_Hits.f k a0 a1 a2 a3 a4 a5 a6 a7 a8 a9 a10) (impl_Hits.f (k + 1) a0 a1 a2 a3 a4 a5 a6 a7 a8 a9 a10) := by
 intro a0 a1 a2 a3 a4 a5 a6 a7 a8 a9 a10 k
 have ih0 := impl_Hits.mono_l k
 unfold impl_Hits.f
 have m0 := @impl_BanOk.mono
 have m1 := @impl_ObjOk.mono
 exact mo
set_option maxHeartbeats 8000000 in
set_option maxRecDepth 100000 in
theorem impl_Hits.calls (k : Nat) (a0_0 : Int) (a0_1 : ByteArray) (a0_2 : ByteArray) (a0_3 : Int) (a1_0 : ByteArray) (A1_1 : Option Addr) (c1_1 : Nat) (l1_1 : List ByteArray) (A1_2 : Option Addr) (c1_2 : Nat) (l1_2 : List ByteArray) (a1_3 : Int) (A1_4 : Option Addr) (c1_4 : Nat) (l1_4 : List (S84)) (a1_5 : ByteArray) (a1_6 : Int) (r : Bool) (w : World) (hGM : GLOBM w) (hr1_1 : Kd.C Kd.string w A1_1 l1_1.length l1_1) (hc1_1 : l1_1.length ≤ c1_1) (hr1_2 : Kd.C Kd.string w A1_2 l1_2.length l1_2) (hc1_2 : l1_2.length ≤ c1_2) (hr1_4 : Kd.C k84 w A1_4 l1_4.length l1_4) (hc1_4 : l1_4.length ≤ c1_4) (h : impl_Hits.f k a0_0 a0_1 a0_2 a0_3 a1_0 l1_1 l1_2 a1_3 l1_4 a1_5 a1_6 = some r) :
  Calls Tryd.prog 90 #[.agg #[.int .i64 a0_0, .string a0_1, .string a0_2, .int .i64 a0_3], .agg #[.string a1_0, .slice A1_1 l1_1.length c1_1, .slice A1_2 l1_2.length c1_2, .int .i64 a1_3, .slice A1_4 l1_4.length c1_4, .string a1_5, .int .i64 a1_6]] w fun e w' => e = .returned (.bool r) ∧ Below w.heap.size w w' := by
 have hu109 := Tryd.underlying109
 have hu55 := Tryd.underlying55
 have HR1_1 := am hr1_1
 have HC1_1 := am hc1_1
 clear hr1_1 hc1_1
 have HR1_2 := am hr1_2
 have HC1_2 := am hc1_2
 clear hr1_2 hc1_2
 have HR1_4 := am hr1_4
 have HC1_4 := am hc1_4
 clear hr1_4 hc1_4
 have HGM := am hGM
 clear hGM
 have HB := am (Below.refl w.heap.size w)
 unfold impl_Hits.f at h
 have H := h
 clear h
 have HC3 := am H
 clear H
 go_enter Tryd.func90, Tryd.ntmps90
 go_upto_region 1 with (first | (refine bx 2 #[.int .i64 a0_0, .string a0_1, .string a0_2, .int .i64 a0_3] 109 ?_; intro gb978 hg w4 hbox hb; have BK978 := am (hbox); have GW978 := am (sz hg : w.heap.size ≤ gb978); have GE978 := am (sz hg : w.heap.size ≤ gb978); replace HB := am (below_step bl hb); clear hb hbox hg) | (refine bx 3 #[.string a1_0, .slice A1_1 l1_1.length c1_1, .slice A1_2 l1_2.length c1_2, .int .i64 a1_3, .slice A1_4 l1_4.length c1_4, .string a1_5, .int .i64 a1_6] 55 ?_; intro gb979 hg w5 hbox hb; have BK979 := am (hbox); have GW979 := am (sz hg : w.heap.size ≤ gb979); have GE979 := am (sz hg : w.heap.size ≤ gb979); replace HB := am (below_step bl hb); have NB978_979 := am (nl hg BK978 : gb978 ≠ gb979); have NB979_978 := am (ng hg BK978 : gb979 ≠ gb978); replace BK978 := kb BK978 hb; clear hb hbox hg))
 (try simp only [Act.put, List.setIfInBounds_toArray, List.set_cons_zero, List.set_cons_succ])
 go_cut [21] (fun v21 wc => ∃ (kq : Nat) (x21_2 : Bool), v21 = .bool x21_2 ∧ Aside0 (impl_Hits.j0 kq x21_2 a0_0 a0_1 a0_2 a0_3 a1_0 l1_1 l1_2 a1_3 l1_4 a1_5 a1_6 = some r) ∧ Aside0 (kq ≤ k) ∧ Aside0 (wc.heap[gb978]? = some (.cells #[.int .i64 a0_0, .string a0_1, .string a0_2, .int .i64 a0_3] 109 (0, 0))) ∧ Aside0 (wc.heap[gb979]? = some (.cells #[.string a1_0, (.slice A1_1 l1_1.length c1_1), (.slice A1_2 l1_2.length c1_2), .int .i64 a1_3, (.slice A1_4 l1_4.length c1_4), .string a1_5, .int .i64 a1_6] 55 (0, 0))) ∧ Aside0 (Below w.heap.size w wc))
 case first =>
  have H := HC3.out
  clear HC3
  by_cases c6 : a1_6 > a0_3
  ·rw [if_pos c6] at H
   have c6b0 := decide_eq_true c6
   clear c6
   (first | rw [c6b0] | (simp only [i64_w, i32_w]; rw [c6b0]) | skip)
   have H' := am H
   clear H
   have hnb7 := NB979_978.out
   have hnc7 := NB978_979.out
   obtain ⟨z8_0, y8_0, z8_1, y8_1, z8_2, y8_2, z8_3, y8_3, z8_4, y8_4, z8_5, y8_5, z8_6, y8_6⟩ := cl7 BK979
   obtain ⟨z9_0, y9_0, z9_1, y9_1, z9_2, y9_2, z9_3, y9_3⟩ := cl4 BK978
   go_wp2
   go_meet
   case rel => exact ⟨_, (true), rs, H', ⟨by first | omega | exact Nat.le_refl _⟩, ⟨by (with_reducible repeat (first | refine blk_drewN ?_ _ | refine blk_drew ?_ | refine blk_alloc ?_ _)); exact BK978.out⟩, ⟨by (with_reducible repeat (first | refine blk_drewN ?_ _ | refine blk_drew ?_ | refine blk_alloc ?_ _)); exact BK979.out⟩, ⟨by repeat (first | (with_reducible first | exact HB.out | apply below_alloc | apply pw_below_drewN | apply below_drew1 | refine below_set ?_ GE978.out | refine below_set ?_ GE979.out) | exact HB.out)⟩⟩
  rw [if_neg c6] at H
  have c6b0 := decide_eq_false c6
  clear c6
  (first | rw [c6b0] | (simp only [i64_w, i32_w]; rw [c6b0]) | skip)
  revert H
  refine ok1 fun t980 A10 H => ?_
  by_cases c11 : t980 = true
  rotate_left
  ·replace c11 := Bool.eq_false_iff.mpr c11
   subst c11
   rw [if_neg (show ¬ (false = true) by decide)] at H
   have H' := am H
   clear H
   have hnb19 := NB979_978.out
   have hnc19 := NB978_979.out
   obtain ⟨z20_0, y20_0, z20_1, y20_1, z20_2, y20_2, z20_3, y20_3, z20_4, y20_4, z20_5, y20_5, z20_6, y20_6⟩ := cl7 BK979
   obtain ⟨z21_0, y21_0, z21_1, y21_1, z21_2, y21_2, z21_3, y21_3⟩ := cl4 BK978
   go_wp2_with (first | (go_at_call 128; (with_reducible refine (impl_BanOk.calls k a0_0 a0_1 a0_2 a0_3 false _ A10.out).mono ?_); rintro e w22 ⟨rfl, hb⟩; replace BK978 := kb BK978 hb; replace BK979 := kb BK979 hb; replace HB := am (below_step bl hb); clear hb))
   go_meet
   case rel => exact ⟨_, (true), rs, H', ⟨by first | omega | exact Nat.le_refl _⟩, ⟨by (with_reducible repeat (first | refine blk_drewN ?_ _ | refine blk_drew ?_ | refine blk_alloc ?_ _)); exact BK978.out⟩, ⟨by (with_reducible repeat (first | refine blk_drewN ?_ _ | refine blk_drew ?_ | refine blk_alloc ?_ _)); exact BK979.out⟩, ⟨by repeat (first | (with_reducible first | exact HB.out | apply below_alloc | apply pw_below_drewN | apply below_drew1 | refine below_set ?_ GE978.out | refine below_set ?_ GE979.out) | exact HB.out)⟩⟩
  subst c11
  rw [if_pos rfl] at H
  revert H
  refine ok1 fun t981 A12 H => ?_
  have H' := am H
  clear H
  have hnb13 := NB979_978.out
  have hnc13 := NB978_979.out
  obtain ⟨z14_0, y14_0, z14_1, y14_1, z14_2, y14_2, z14_3, y14_3, z14_4, y14_4, z14_5, y14_5, z14_6, y14_6⟩ := cl7 BK979
  obtain ⟨z15_0, y15_0, z15_1, y15_1, z15_2, y15_2, z15_3, y15_3⟩ := cl4 BK978
  go_wp2_with (first | (go_at_call 128; (with_reducible refine (impl_BanOk.calls k a0_0 a0_1 a0_2 a0_3 true _ A10.out).mono ?_); rintro e w16 ⟨rfl, hb⟩; replace BK978 := kb BK978 hb; replace BK979 := kb BK979 hb; replace HB := am (below_step bl hb); clear hb; obtain ⟨z17_0, y17_0, z17_1, y17_1, z17_2, y17_2, z17_3, y17_3, z17_4, y17_4, z17_5, y17_5, z17_6, y17_6⟩ := cl7 BK979) | (go_at_call 30; (with_reducible refine (impl_ObjOk.calls k a1_0 _ _ l1_1 _ _ l1_2 a1_3 _ _ l1_4 a1_5 a1_6 t981 _ ?side1 ?side2 ?side3 ?side4 ?side5 ?side6 ?side7 A12.out).mono ?_); (case side1 => exact GLOBM.below HGM.out bl); (case side2 => exact cb HR1_1); (case side3 => exact HC1_1.out); (case side4 => exact cb HR1_2); (case side5 => exact HC1_2.out); (case side6 => exact cb HR1_4); (case side7 => exact HC1_4.out); rintro e w18 ⟨rfl, hb⟩; replace BK978 := kb BK978 hb; replace BK979 := kb BK979 hb; replace HB := am (below_step bl hb); clear hb))
  go_meet
  case rel => exact ⟨_, (!t981), rs, H', ⟨by first | omega | exact Nat.le_refl _⟩, ⟨by (with_reducible repeat (first | refine blk_drewN ?_ _ | refine blk_drew ?_ | refine blk_alloc ?_ _)); exact BK978.out⟩, ⟨by (with_reducible repeat (first | refine blk_drewN ?_ _ | refine blk_drew ?_ | refine blk_alloc ?_ _)); exact BK979.out⟩, ⟨by repeat (first | (with_reducible first | exact HB.out | apply below_alloc | apply pw_below_drewN | apply below_drew1 | refine below_set ?_ GE978.out | refine below_set ?_ GE979.out) | exact HB.out)⟩⟩
 case rest =>
  clear HC3
  try clear c1
  try clear p2
  try clear c6
  try clear c6b0
  try clear c7
  try clear c9
  try clear c11
  try clear c13
  try clear c19
  try clear z14_0
  try clear z14_1
  try clear z14_2
  try clear z14_3
  try clear z14_4
  try clear z14_5
  try clear z14_6
  try clear z15_0
  try clear z15_1
  try clear z15_2
  try clear z15_3
  try clear z17_0
  try clear z17_1
  try clear z17_2
  try clear z17_3
  try clear z17_4
  try clear z17_5
  try clear z17_6
  try clear z20_0
  try clear z20_1
  try clear z20_2
  try clear z20_3
  try clear z20_4
  try clear z20_5
  try clear z20_6
  try clear z21_0
  try clear z21_1
  try clear z21_2
  try clear z21_3
  try clear z8_0
  try clear z8_1
  try clear z8_2
  try clear z8_3
  try clear z8_4
  try clear z8_5
  try clear z8_6
  try clear z9_0
  try clear z9_1
  try clear z9_2
  try clear z9_3
  try clear y14_0
  try clear y14_1
  try clear y14_2
  try clear y14_3
  try clear y14_4
  try clear y14_5
  try clear y14_6
  try clear y15_0
  try clear y15_1
  try clear y15_2
  try clear y15_3
  try clear y17_0
  try clear y17_1
  try clear y17_2
  try clear y17_3
  try clear y17_4
  try clear y17_5
  try clear y17_6
  try clear y20_0
  try clear y20_1
  try clear y20_2
  try clear y20_3
  try clear y20_4
  try clear y20_5
  try clear y20_6
  try clear y21_0
  try clear y21_1
  try clear y21_2
  try clear y21_3
  try clear y8_0
  try clear y8_1
  try clear y8_2
  try clear y8_3
  try clear y8_4
  try clear y8_5
  try clear y8_6
  try clear y9_0
  try clear y9_1
  try clear y9_2
  try clear y9_3
  obtain ⟨kq, x21_2, rfl, HA, HJ2, BK978, BK979, HB⟩ := hcut
  cases kq with
  | zero => exact absurd HA.out (by simp [impl_Hits.j0])
  | succ kj2 =>
   have H := HA.out
   clear HA
   simp only [impl_Hits.j0] at H
   by_cases c23 : x21_2 = true
   ·subst c23
    rw [if_pos rfl] at H
    obtain rfl := Option.some.inj H
    go_wp2
    go_ret
    exact ⟨rf, bl⟩
   replace c23 := Bool.eq_false_iff.mpr c23
   subst c23
   rw [if_neg (show ¬ (false = true) by decide)] at H
   by_cases c24 : a0_0 = 1
   ·rw [if_pos c24] at H
    have c24b0 : (a0_0 == 1) = true := beq_iff_eq.mpr c24
    have c24b1 : (a0_0 != 1) = false := bne_eq_false_iff_eq.mpr c24
    clear c24
    obtain rfl := Option.some.inj H
    have hnb25 := NB978_979.out
    have hnc25 := NB979_978.out
    obtain ⟨z26_0, y26_0, z26_1, y26_1, z26_2, y26_2, z26_3, y26_3⟩ := cl4 BK978
    obtain ⟨z27_0, y27_0, z27_1, y27_1, z27_2, y27_2, z27_3, y27_3, z27_4, y27_4, z27_5, y27_5, z27_6, y27_6⟩ := cl7 BK979
    go_wp2
    go_ret
    exact ⟨rf, bl⟩
   rw [if_neg c24] at H
   have c24b0 : (a0_0 == 1) = false := beq_eq_false_iff_ne.mpr c24
   have c24b1 : (a0_0 != 1) = true := bne_iff_ne.mpr c24
   by_cases c28 : a0_0 = 2
   ·rw [if_pos c28] at H
    have c28b0 : (a0_0 == 2) = true := beq_iff_eq.mpr c28
    have c28b1 : (a0_0 != 2) = false := bne_eq_false_iff_eq.mpr c28
    clear c28
    revert H
    refine ok1 fun t982 A29 H => ?_
    obtain rfl := Option.some.inj H
    have hnb30 := NB978_979.out
    have hnc30 := NB979_978.out
    obtain ⟨z31_0, y31_0, z31_1, y31_1, z31_2, y31_2, z31_3, y31_3⟩ := cl4 BK978
    obtain ⟨z32_0, y32_0, z32_1, y32_1, z32_2, y32_2, z32_3, y32_3, z32_4, y32_4, z32_5, y32_5, z32_6, y32_6⟩ := cl7 BK979
    go_wp2_with (first | (refine gl 37 Tryd.func129 #[.string a1_0, .string a0_1] ?_; (with_reducible refine (strings_HasPrefix.calls a1_0 a0_1 t982 _ A29.out).mono ?_); rintro e w' ⟨rfl, ⟨nd, rfl⟩⟩; refine ⟨_, rfl, ?_⟩))
    go_ret
    exact ⟨rf, bl⟩
   rw [if_neg c28] at H
   have c28b0 : (a0_0 == 2) = false := beq_eq_false_iff_ne.mpr c28
   have c28b1 : (a0_0 != 2) = true := bne_iff_ne.mpr c28
   revert H
   refine ok2 fun t983 t984 A33 H => ?_
   (try dsimp only at H)
   by_cases c34 : t984 = true
   rotate_left
   ·replace c34 := Bool.eq_false_iff.mpr c34
    subst c34
    rw [if_neg (show ¬ (false = true) by decide)] at H
    obtain rfl := Option.some.inj H
    have hnb40 := NB978_979.out
    have hnc40 := NB979_978.out
    obtain ⟨z41_0, y41_0, z41_1, y41_1, z41_2, y41_2, z41_3, y41_3⟩ := cl4 BK978
    obtain ⟨z42_0, y42_0, z42_1, y42_1, z42_2, y42_2, z42_3, y42_3, z42_4, y42_4, z42_5, y42_5, z42_6, y42_6⟩ := cl7 BK979
    go_wp2_with (first | (refine gl 44 Tryd.func20 #[.slice A1_4 l1_4.length c1_4, .string a0_1] ?_; (with_reducible refine (impl_Get.calls _ _ l1_4 a0_1 t983 false _ ?side1 ?side2 A33.out).mono ?_); (case side1 => exact cb HR1_4); (case side2 => exact HC1_4.out); rintro e w43 ⟨rfl, hb⟩; refine ⟨_, rfl, ?_⟩; replace BK978 := kb BK978 hb; replace BK979 := kb BK979 hb; replace HB := am (below_step bl hb); clear hb))
    go_ret
    exact ⟨rf, bl⟩
   subst c34
   rw [if_pos rfl] at H
   obtain rfl := Option.some.inj H
   have hnb35 := NB978_979.out
   have hnc35 := NB979_978.out
   obtain ⟨z36_0, y36_0, z36_1, y36_1, z36_2, y36_2, z36_3, y36_3⟩ := cl4 BK978
   obtain ⟨z37_0, y37_0, z37_1, y37_1, z37_2, y37_2, z37_3, y37_3, z37_4, y37_4, z37_5, y37_5, z37_6, y37_6⟩ := cl7 BK979
   go_wp2_with (first | (refine gl 44 Tryd.func20 #[.slice A1_4 l1_4.length c1_4, .string a0_1] ?_; (with_reducible refine (impl_Get.calls _ _ l1_4 a0_1 t983 true _ ?side1 ?side2 A33.out).mono ?_); (case side1 => exact cb HR1_4); (case side2 => exact HC1_4.out); rintro e w38 ⟨rfl, hb⟩; refine ⟨_, rfl, ?_⟩; replace BK978 := kb BK978 hb; replace BK979 := kb BK979 hb; replace HB := am (below_step bl hb); clear hb; obtain ⟨z39_0, y39_0, z39_1, y39_1, z39_2, y39_2, z39_3, y39_3⟩ := cl4 BK978))
   go_ret
   exact ⟨rf, bl⟩

/-! ### impl_HitsAny: function 35 -/
def impl_HitsAny.l0 : Nat → List (S109) → Int → Int → ByteArray → List ByteArray → List ByteArray → Int → List (S84) → ByteArray → Int → Option (Bool)
 | 0, _, _, _, _, _, _, _, _, _, _ => none
 | k + 1, x7, x8, x9, x986000, x986001, x986002, x986003, x986004, x986005, x986006 => if x9 < x8 then (if 0 ≤ x9 then (if x9 < (x7.length : Int) then ((impl_Hits.f k ((rd_T109 x7 x9).f0) ((rd_T109 x7 x9).f1) ((rd_T109 x7 x9).f2) ((rd_T109 x7 x9).f3) x986000 x986001 x986002 x986003 x986004 x986005 x986006).bind fun t988 => (if t988 = true then (some true) else (impl_HitsAny.l0 k x7 x8 (wrap64 (x9 + 1)) x986000 x986001 x986002 x986003 x986004 x986005 x986006))) else (none)) else (none)) else (some false)
def impl_HitsAny.f (k : Nat) (l0 : List (S109)) (a1_0 : ByteArray) (l1_1 : List ByteArray) (l1_2 : List ByteArray) (a1_3 : Int) (l1_4 : List (S84)) (a1_5 : ByteArray) (a1_6 : Int) : Option (Bool) := impl_HitsAny.l0 k l0 (l0.length : Int) 0 a1_0 l1_1 l1_2 a1_3 l1_4 a1_5 a1_6
theorem impl_HitsAny.mono_l : ∀ k, (∀ y0 y1 y2 y3 y4 y5 y6 y7 y8 y9, LeO (impl_HitsAny.l0 k y0 y1 y2 y3 y4 y5 y6 y7 y8 y9) (impl_HitsAny.l0 (k + 1) y0 y1 y2 y3 y4 y5 y6 y7 y8 y9))
 | 0 => fun _ _ _ _ _ _ _ _ _ _ r h => by simp [impl_HitsAny.l0] at h
 | k + 1 => by
  have ih0 := impl_HitsAny.mono_l k
  ·intro y0 y1 y2 y3 y4 y5 y6 y7 y8 y9
   unfold impl_HitsAny.l0
   have m0 := @impl_Hits.mono
   exact mo
theorem impl_HitsAny.mono : ∀ a0 a1 a2 a3 a4 a5 a6 a7 k, LeO (impl_HitsAny.f k a0 a1 a2 a3 a4 a5 a6 a7) (impl_HitsAny.f (k + 1) a0 a1 a2 a3 a4 a5 a6 a7) := by
 intro a0 a1 a2 a3 a4 a5 a6 a7 k
 have ih0 := impl_HitsAny.mono_l k
 unfold impl_HitsAny.f
 have m0 := @impl_Hits.mono
 exact mo
set_option maxHeartbeats 8000000 in
set_option maxRecDepth 100000 in
theorem impl_HitsAny.calls (k : Nat) (A0 : Option Addr) (c0 : Nat) (l0 : List (S109)) (a1_0 : ByteArray) (A1_1 : Option Addr) (c1_1 : Nat) (l1_1 : List ByteArray) (A1_2 : Option Addr) (c1_2 : Nat) (l1_2 : List ByteArray) (a1_3 : Int) (A1_4 : Option Addr) (c1_4 : Nat) (l1_4 : List (S84)) (a1_5 : ByteArray) (a1_6 : Int) (r : Bool) (w : World) (hGM : GLOBM w) (hr0 : Kd.C k109 w A0 l0.length l0) (hc0 : l0.length ≤ c0) (hr1_1 : Kd.C Kd.string w A1_1 l1_1.length l1_1) (hc1_1 : l1_1.length ≤ c1_1) (hr1_2 : Kd.C Kd.string w A1_2 l1_2.length l1_2) (hc1_2 : l1_2.length ≤ c1_2) (hr1_4 : Kd.C k84 w A1_4 l1_4.length l1_4) (hc1_4 : l1_4.length ≤ c1_4) (h : impl_HitsAny.f k l0 a1_0 l1_1 l1_2 a1_3 l1_4 a1_5 a1_6 = some r) :
  Calls Tryd.prog 35 #[.slice A0 l0.length c0, .agg #[.string a1_0, .slice A1_1 l1_1.length c1_1, .slice A1_2 l1_2.length c1_2, .int .i64 a1_3, .slice A1_4 l1_4.length c1_4, .string a1_5, .int .i64 a1_6]] w fun e w' => e = .returned (.bool r) ∧ Below w.heap.size w w' := by
 have hu55 := Tryd.underlying55
 have hu109 := Tryd.underlying109
 have HR0 := am hr0
 have HC0 := am hc0
 clear hr0 hc0
 have HR1_1 := am hr1_1
 have HC1_1 := am hc1_1
 clear hr1_1 hc1_1
 have HR1_2 := am hr1_2
 have HC1_2 := am hc1_2
 clear hr1_2 hc1_2
 have HR1_4 := am hr1_4
 have HC1_4 := am hc1_4
 clear hr1_4 hc1_4
 have HGM := am hGM
 clear hGM
 have HB := am (Below.refl w.heap.size w)
 unfold impl_HitsAny.f at h
 have H := h
 clear h
 have H' := am H
 clear H
 go_enter Tryd.func35, Tryd.ntmps35
 go_wp2_with (first | (refine bx 3 #[.string a1_0, .slice A1_1 l1_1.length c1_1, .slice A1_2 l1_2.length c1_2, .int .i64 a1_3, .slice A1_4 l1_4.length c1_4, .string a1_5, .int .i64 a1_6] 55 ?_; intro gb985 hg w3 hbox hb; have BK985 := am (hbox); have GW985 := am (sz hg : w.heap.size ≤ gb985); have GE985 := am (sz hg : w.heap.size ≤ gb985); replace HB := am (below_step bl hb); clear hb hbox hg))
 (try simp only [Act.put, List.setIfInBounds_toArray, List.set_cons_zero, List.set_cons_succ])
 go_loopg [9] k (fun kq v9 w' => ∃ (x9_1 : Int), v9 = .int .i64 x9_1 ∧ Aside0 (impl_HitsAny.l0 kq l0 (l0.length : Int) x9_1 a1_0 l1_1 l1_2 a1_3 l1_4 a1_5 a1_6 = some r) ∧ Aside0 (kq ≤ k) ∧ Aside0 (w'.heap[gb985]? = some (.cells #[.string a1_0, (.slice A1_1 l1_1.length c1_1), (.slice A1_2 l1_2.length c1_2), .int .i64 a1_3, (.slice A1_4 l1_4.length c1_4), .string a1_5, .int .i64 a1_6] 55 (0, 0))) ∧ Aside0 (Below w.heap.size w w'))
 case atStart => exact ⟨(0), rs, H', ⟨Nat.le_refl _⟩, ⟨by (with_reducible repeat (first | refine blk_drewN ?_ _ | refine blk_drew ?_ | refine blk_alloc ?_ _)); exact BK985.out⟩, ⟨by repeat (first | (with_reducible first | exact HB.out | apply below_alloc | apply pw_below_drewN | apply below_drew1 | refine below_set ?_ GE985.out) | exact HB.out)⟩⟩
 case round =>
  clear H'
  try clear c1
  try clear p2
  try clear c3
  obtain ⟨x9_1, rfl, HA, HK1, BK985, HB⟩ := hrel
  cases gk with
  | zero => exact absurd HA.out (by simp [impl_HitsAny.l0])
  | succ k1 =>
   have H := HA.out
   clear HA
   simp only [impl_HitsAny.l0] at H
   by_cases c4 : x9_1 < (l0.length : Int)
   rotate_left
   ·rw [if_neg c4] at H
    have c4b0 := decide_eq_false c4
    clear c4
    obtain rfl := Option.some.inj H
    go_wp2
    go_ret
    exact ⟨rf, bl⟩
   rw [if_pos c4] at H
   have c4b0 := decide_eq_true c4
   clear c4
   revert H
   refine ifn fun c5 H => ?_
   have c5b0 := decide_eq_true c5
   clear c5
   revert H
   refine ifn fun c6 H => ?_
   have c6b0 := decide_eq_true c6
   clear c6
   revert H
   refine ok1 fun t988 A7 H => ?_
   by_cases c8 : t988 = true
   ·subst c8
    rw [if_pos rfl] at H
    obtain rfl := Option.some.inj H
    have p986 : 0 ≤ (x9_1 : Int) := od
    have q986 : x9_1 < (l0.length : Int) := od
    obtain ⟨ad986, e986, hx986_0, hx986_1, hx986_2, hx986_3⟩ := at_T109 HR0.out x9_1 p986 q986
    cases e986
    replace hx986_0 := hcw hx986_0
    replace hx986_1 := hcw hx986_1
    replace hx986_2 := hcw hx986_2
    replace hx986_3 := hcw hx986_3
    replace p986 := eq_true p986
    replace q986 := eq_true q986
    go_wp2_with (first | (refine bx 6 #[.int .i64 0, .string (⟨#[]⟩ : ByteArray), .string (⟨#[]⟩ : ByteArray), .int .i64 0] 109 ?_; intro gb987 hg w9 hbox hb; have BK987 := am (hbox); have GW987 := am (sz hg : w.heap.size ≤ gb987); have GE987 := am (sz hg : w.heap.size ≤ gb987); replace HB := am (below_step bl hb); have NB985_987 := am (nl hg BK985 : gb985 ≠ gb987); have NB987_985 := am (ng hg BK985 : gb987 ≠ gb985); replace BK985 := kb BK985 hb; clear hb hbox hg; have hnb10 := NB987_985.out; have hnc10 := NB985_987.out; obtain ⟨z11_0, y11_0, z11_1, y11_1, z11_2, y11_2, z11_3, y11_3⟩ := cl4 BK987; obtain ⟨z12_0, y12_0, z12_1, y12_1, z12_2, y12_2, z12_3, y12_3, z12_4, y12_4, z12_5, y12_5, z12_6, y12_6⟩ := cl7 BK985) | (refine gl 15 Tryd.func90 #[.agg #[.int .i64 ((rd_T109 l0 x9_1).f0), .string ((rd_T109 l0 x9_1).f1), .string ((rd_T109 l0 x9_1).f2), .int .i64 ((rd_T109 l0 x9_1).f3)], .agg #[.string a1_0, .slice A1_1 l1_1.length c1_1, .slice A1_2 l1_2.length c1_2, .int .i64 a1_3, .slice A1_4 l1_4.length c1_4, .string a1_5, .int .i64 a1_6]] ?_; (with_reducible refine (impl_Hits.calls k1 ((rd_T109 l0 x9_1).f0) ((rd_T109 l0 x9_1).f1) ((rd_T109 l0 x9_1).f2) ((rd_T109 l0 x9_1).f3) a1_0 _ _ l1_1 _ _ l1_2 a1_3 _ _ l1_4 a1_5 a1_6 true _ ?side1 ?side2 ?side3 ?side4 ?side5 ?side6 ?side7 A7.out).mono ?_); (case side1 => exact GLOBM.below HGM.out bl); (case side2 => exact Kd.C_below HR1_1.out bl); (case side3 => exact HC1_1.out); (case side4 => exact Kd.C_below HR1_2.out bl); (case side5 => exact HC1_2.out); (case side6 => exact Kd.C_below HR1_4.out bl); (case side7 => exact HC1_4.out); rintro e w13 ⟨rfl, hb⟩; refine ⟨_, rfl, ?_⟩; have n0_ := kg1 BK985 NB985_987 hb; have n1_ := am (blk_below (g := gb987) (o := .cells #[.int .i64 ((rd_T109 l0 x9_1).f0), .string ((rd_T109 l0 x9_1).f1), .string ((rd_T109 l0 x9_1).f2), .int .i64 ((rd_T109 l0 x9_1).f3)] 109 (0, 0)) (by (with_reducible repeat (first | refine blk_drewN ?_ _ | refine blk_drew ?_ | refine blk_alloc ?_ _)); refine blk_put (cs := #[.int .i64 ((rd_T109 l0 x9_1).f0), .string ((rd_T109 l0 x9_1).f1), .string ((rd_T109 l0 x9_1).f2), .int .i64 0]) ?_ 3 _ rfl; (with_reducible repeat (first | refine blk_drewN ?_ _ | refine blk_drew ?_ | refine blk_alloc ?_ _)); refine blk_put (cs := #[.int .i64 ((rd_T109 l0 x9_1).f0), .string ((rd_T109 l0 x9_1).f1), .string (⟨#[]⟩ : ByteArray), .int .i64 0]) ?_ 2 _ rfl; (with_reducible repeat (first | refine blk_drewN ?_ _ | refine blk_drew ?_ | refine blk_alloc ?_ _)); refine blk_put (cs := #[.int .i64 ((rd_T109 l0 x9_1).f0), .string (⟨#[]⟩ : ByteArray), .string (⟨#[]⟩ : ByteArray), .int .i64 0]) ?_ 1 _ rfl; (with_reducible repeat (first | refine blk_drewN ?_ _ | refine blk_drew ?_ | refine blk_alloc ?_ _)); refine blk_put (cs := #[.int .i64 0, .string (⟨#[]⟩ : ByteArray), .string (⟨#[]⟩ : ByteArray), .int .i64 0]) ?_ 0 _ rfl; (with_reducible repeat (first | refine blk_drewN ?_ _ | refine blk_drew ?_ | refine blk_alloc ?_ _)); exact BK987.out) hb); have n2_ := am (below_step bl hb); clear BK985; clear BK987; clear HB; have BK985 := n0_; have BK987 := n1_; have HB := n2_; clear n0_ n1_ n2_; clear hb))
    go_ret
    exact ⟨rf, bl⟩
   replace c8 := Bool.eq_false_iff.mpr c8
   subst c8
   rw [if_neg (show ¬ (false = true) by decide)] at H
   have H' := am H
   clear H
   have p986 : 0 ≤ (x9_1 : Int) := od
   have q986 : x9_1 < (l0.length : Int) := od
   obtain ⟨ad986, e986, hx986_0, hx986_1, hx986_2, hx986_3⟩ := at_T109 HR0.out x9_1 p986 q986
   cases e986
   replace hx986_0 := hcw hx986_0
   replace hx986_1 := hcw hx986_1
   replace hx986_2 := hcw hx986_2
   replace hx986_3 := hcw hx986_3
   replace p986 := eq_true p986
   replace q986 := eq_true q986
   go_wp2_with (first | (refine bx 6 #[.int .i64 0, .string (⟨#[]⟩ : ByteArray), .string (⟨#[]⟩ : ByteArray), .int .i64 0] 109 ?_; intro gb987 hg w14 hbox hb; have BK987 := am (hbox); have GW987 := am (sz hg : w.heap.size ≤ gb987); have GE987 := am (sz hg : w.heap.size ≤ gb987); replace HB := am (below_step bl hb); have NB985_987 := am (nl hg BK985 : gb985 ≠ gb987); have NB987_985 := am (ng hg BK985 : gb987 ≠ gb985); replace BK985 := kb BK985 hb; clear hb hbox hg; have hnb15 := NB987_985.out; have hnc15 := NB985_987.out; obtain ⟨z16_0, y16_0, z16_1, y16_1, z16_2, y16_2, z16_3, y16_3⟩ := cl4 BK987; obtain ⟨z17_0, y17_0, z17_1, y17_1, z17_2, y17_2, z17_3, y17_3, z17_4, y17_4, z17_5, y17_5, z17_6, y17_6⟩ := cl7 BK985) | (refine gl 15 Tryd.func90 #[.agg #[.int .i64 ((rd_T109 l0 x9_1).f0), .string ((rd_T109 l0 x9_1).f1), .string ((rd_T109 l0 x9_1).f2), .int .i64 ((rd_T109 l0 x9_1).f3)], .agg #[.string a1_0, .slice A1_1 l1_1.length c1_1, .slice A1_2 l1_2.length c1_2, .int .i64 a1_3, .slice A1_4 l1_4.length c1_4, .string a1_5, .int .i64 a1_6]] ?_; (with_reducible refine (impl_Hits.calls k1 ((rd_T109 l0 x9_1).f0) ((rd_T109 l0 x9_1).f1) ((rd_T109 l0 x9_1).f2) ((rd_T109 l0 x9_1).f3) a1_0 _ _ l1_1 _ _ l1_2 a1_3 _ _ l1_4 a1_5 a1_6 false _ ?side1 ?side2 ?side3 ?side4 ?side5 ?side6 ?side7 A7.out).mono ?_); (case side1 => exact GLOBM.below HGM.out bl); (case side2 => exact Kd.C_below HR1_1.out bl); (case side3 => exact HC1_1.out); (case side4 => exact Kd.C_below HR1_2.out bl); (case side5 => exact HC1_2.out); (case side6 => exact Kd.C_below HR1_4.out bl); (case side7 => exact HC1_4.out); rintro e w18 ⟨rfl, hb⟩; refine ⟨_, rfl, ?_⟩; have n0_ := kg1 BK985 NB985_987 hb; have n1_ := am (blk_below (g := gb987) (o := .cells #[.int .i64 ((rd_T109 l0 x9_1).f0), .string ((rd_T109 l0 x9_1).f1), .string ((rd_T109 l0 x9_1).f2), .int .i64 ((rd_T109 l0 x9_1).f3)] 109 (0, 0)) (by (with_reducible repeat (first | refine blk_drewN ?_ _ | refine blk_drew ?_ | refine blk_alloc ?_ _)); refine blk_put (cs := #[.int .i64 ((rd_T109 l0 x9_1).f0), .string ((rd_T109 l0 x9_1).f1), .string ((rd_T109 l0 x9_1).f2), .int .i64 0]) ?_ 3 _ rfl; (with_reducible repeat (first | refine blk_drewN ?_ _ | refine blk_drew ?_ | refine blk_alloc ?_ _)); refine blk_put (cs := #[.int .i64 ((rd_T109 l0 x9_1).f0), .string ((rd_T109 l0 x9_1).f1), .string (⟨#[]⟩ : ByteArray), .int .i64 0]) ?_ 2 _ rfl; (with_reducible repeat (first | refine blk_drewN ?_ _ | refine blk_drew ?_ | refine blk_alloc ?_ _)); refine blk_put (cs := #[.int .i64 ((rd_T109 l0 x9_1).f0), .string (⟨#[]⟩ : ByteArray), .string (⟨#[]⟩ : ByteArray), .int .i64 0]) ?_ 1 _ rfl; (with_reducible repeat (first | refine blk_drewN ?_ _ | refine blk_drew ?_ | refine blk_alloc ?_ _)); refine blk_put (cs := #[.int .i64 0, .string (⟨#[]⟩ : ByteArray), .string (⟨#[]⟩ : ByteArray), .int .i64 0]) ?_ 0 _ rfl; (with_reducible repeat (first | refine blk_drewN ?_ _ | refine blk_drew ?_ | refine blk_alloc ?_ _)); exact BK987.out) hb); have n2_ := am (below_step bl hb); clear BK985; clear BK987; clear HB; have BK985 := n0_; have BK987 := n1_; have HB := n2_; clear n0_ n1_ n2_; clear hb))
   go_roundg k1
   case measure => have := HK1.out; omega
   case rel => exact ⟨(wrap64 (x9_1 + 1)), rs, H', ⟨by have := HK1.out; omega⟩, ⟨by (with_reducible repeat (first | refine blk_drewN ?_ _ | refine blk_drew ?_ | refine blk_alloc ?_ _)); exact BK985.out⟩, ⟨by repeat (first | (with_reducible first | exact HB.out | apply below_alloc | apply pw_below_drewN | apply below_drew1 | refine below_set ?_ GE985.out | refine below_set ?_ GE987.out) | exact HB.out)⟩⟩

/-! ### laws_eqBan: function 91 -/
def laws_eqBan.f (a0_0 : Int) (a0_1 : ByteArray) (a0_2 : ByteArray) (a0_3 : Int) (a1_0 : Int) (a1_1 : ByteArray) (a1_2 : ByteArray) (a1_3 : Int) : Option (Bool) := if a0_0 = a1_0 then (if a0_1.toList = a1_1.toList then (if a0_2.toList = a1_2.toList then (if a0_3 = a1_3 then (some true) else (some false)) else (some false)) else (some false)) else (some false)
set_option maxHeartbeats 8000000 in
set_option maxRecDepth 100000 in
theorem laws_eqBan.calls (a0_0 : Int) (a0_1 : ByteArray) (a0_2 : ByteArray) (a0_3 : Int) (a1_0 : Int) (a1_1 : ByteArray) (a1_2 : ByteArray) (a1_3 : Int) (r : Bool) (w : World) (h : laws_eqBan.f a0_0 a0_1 a0_2 a0_3 a1_0 a1_1 a1_2 a1_3 = some r) :
  Calls Tryd.prog 91 #[.agg #[.int .i64 a0_0, .string a0_1, .string a0_2, .int .i64 a0_3], .agg #[.int .i64 a1_0, .string a1_1, .string a1_2, .int .i64 a1_3]] w fun e w' => e = .returned (.bool r) ∧ Below w.heap.size w w' := by
 have hu109 := Tryd.underlying109
 have HB := am (Below.refl w.heap.size w)
 unfold laws_eqBan.f at h
 have H := h
 clear h
 by_cases c3 : a0_0 = a1_0
 rotate_left
 ·rw [if_neg c3] at H
  have c3b0 : (a0_0 == a1_0) = false := beq_eq_false_iff_ne.mpr c3
  have c3b1 : (a0_0 != a1_0) = true := bne_iff_ne.mpr c3
  obtain rfl := Option.some.inj H
  go_enter Tryd.func91, Tryd.ntmps91
  go_wp2_with (first | (refine bx 2 #[.int .i64 a0_0, .string a0_1, .string a0_2, .int .i64 a0_3] 109 ?_; intro gb989 hg w27 hbox hb; have BK989 := am (hbox); have GW989 := am (sz hg : w.heap.size ≤ gb989); have GE989 := am (sz hg : w.heap.size ≤ gb989); replace HB := am (below_step bl hb); clear hb hbox hg) | (refine bx 3 #[.int .i64 a1_0, .string a1_1, .string a1_2, .int .i64 a1_3] 109 ?_; intro gb990 hg w28 hbox hb; have BK990 := am (hbox); have GW990 := am (sz hg : w.heap.size ≤ gb990); have GE990 := am (sz hg : w.heap.size ≤ gb990); replace HB := am (below_step bl hb); have NB989_990 := am (nl hg BK989 : gb989 ≠ gb990); have NB990_989 := am (ng hg BK989 : gb990 ≠ gb989); replace BK989 := kb BK989 hb; clear hb hbox hg; have hnb29 := NB989_990.out; have hnc29 := NB990_989.out; obtain ⟨z30_0, y30_0, z30_1, y30_1, z30_2, y30_2, z30_3, y30_3⟩ := cl4 BK989; obtain ⟨z31_0, y31_0, z31_1, y31_1, z31_2, y31_2, z31_3, y31_3⟩ := cl4 BK990))
  go_ret
  exact ⟨rf, bl⟩
 rw [if_pos c3] at H
 have c3b0 : (a0_0 == a1_0) = true := beq_iff_eq.mpr c3
 have c3b1 : (a0_0 != a1_0) = false := bne_eq_false_iff_eq.mpr c3
 clear c3
 by_cases c4 : a0_1.toList = a1_1.toList
 rotate_left
 ·rw [if_neg c4] at H
  have c4b0 : (a0_1.toList == a1_1.toList) = false := beq_eq_false_iff_ne.mpr c4
  have c4b1 : (a0_1.toList != a1_1.toList) = true := bne_iff_ne.mpr c4
  obtain rfl := Option.some.inj H
  go_enter Tryd.func91, Tryd.ntmps91
  go_wp2_with (first | (refine bx 2 #[.int .i64 a0_0, .string a0_1, .string a0_2, .int .i64 a0_3] 109 ?_; intro gb989 hg w22 hbox hb; have BK989 := am (hbox); have GW989 := am (sz hg : w.heap.size ≤ gb989); have GE989 := am (sz hg : w.heap.size ≤ gb989); replace HB := am (below_step bl hb); clear hb hbox hg) | (refine bx 3 #[.int .i64 a1_0, .string a1_1, .string a1_2, .int .i64 a1_3] 109 ?_; intro gb990 hg w23 hbox hb; have BK990 := am (hbox); have GW990 := am (sz hg : w.heap.size ≤ gb990); have GE990 := am (sz hg : w.heap.size ≤ gb990); replace HB := am (below_step bl hb); have NB989_990 := am (nl hg BK989 : gb989 ≠ gb990); have NB990_989 := am (ng hg BK989 : gb990 ≠ gb989); replace BK989 := kb BK989 hb; clear hb hbox hg; have hnb24 := NB989_990.out; have hnc24 := NB990_989.out; obtain ⟨z25_0, y25_0, z25_1, y25_1, z25_2, y25_2, z25_3, y25_3⟩ := cl4 BK989; obtain ⟨z26_0, y26_0, z26_1, y26_1, z26_2, y26_2, z26_3, y26_3⟩ := cl4 BK990))
  go_ret
  exact ⟨rf, bl⟩
 rw [if_pos c4] at H
 have c4b0 : (a0_1.toList == a1_1.toList) = true := beq_iff_eq.mpr c4
 have c4b1 : (a0_1.toList != a1_1.toList) = false := bne_eq_false_iff_eq.mpr c4
 clear c4
 by_cases c5 : a0_2.toList = a1_2.toList
 rotate_left
 ·rw [if_neg c5] at H
  have c5b0 : (a0_2.toList == a1_2.toList) = false := beq_eq_false_iff_ne.mpr c5
  have c5b1 : (a0_2.toList != a1_2.toList) = true := bne_iff_ne.mpr c5
  obtain rfl := Option.some.inj H
  go_enter Tryd.func91, Tryd.ntmps91
  go_wp2_with (first | (refine bx 2 #[.int .i64 a0_0, .string a0_1, .string a0_2, .int .i64 a0_3] 109 ?_; intro gb989 hg w17 hbox hb; have BK989 := am (hbox); have GW989 := am (sz hg : w.heap.size ≤ gb989); have GE989 := am (sz hg : w.heap.size ≤ gb989); replace HB := am (below_step bl hb); clear hb hbox hg) | (refine bx 3 #[.int .i64 a1_0, .string a1_1, .string a1_2, .int .i64 a1_3] 109 ?_; intro gb990 hg w18 hbox hb; have BK990 := am (hbox); have GW990 := am (sz hg : w.heap.size ≤ gb990); have GE990 := am (sz hg : w.heap.size ≤ gb990); replace HB := am (below_step bl hb); have NB989_990 := am (nl hg BK989 : gb989 ≠ gb990); have NB990_989 := am (ng hg BK989 : gb990 ≠ gb989); replace BK989 := kb BK989 hb; clear hb hbox hg; have hnb19 := NB989_990.out; have hnc19 := NB990_989.out; obtain ⟨z20_0, y20_0, z20_1, y20_1, z20_2, y20_2, z20_3, y20_3⟩ := cl4 BK989; obtain ⟨z21_0, y21_0, z21_1, y21_1, z21_2, y21_2, z21_3, y21_3⟩ := cl4 BK990))
  go_ret
  exact ⟨rf, bl⟩
 rw [if_pos c5] at H
 have c5b0 : (a0_2.toList == a1_2.toList) = true := beq_iff_eq.mpr c5
 have c5b1 : (a0_2.toList != a1_2.toList) = false := bne_eq_false_iff_eq.mpr c5
 clear c5
 by_cases c6 : a0_3 = a1_3
 rotate_left
 ·rw [if_neg c6] at H
  have c6b0 : (a0_3 == a1_3) = false := beq_eq_false_iff_ne.mpr c6
  have c6b1 : (a0_3 != a1_3) = true := bne_iff_ne.mpr c6
  obtain rfl := Option.some.inj H
  go_enter Tryd.func91, Tryd.ntmps91
  go_wp2_with (first | (refine bx 2 #[.int .i64 a0_0, .string a0_1, .string a0_2, .int .i64 a0_3] 109 ?_; intro gb989 hg w12 hbox hb; have BK989 := am (hbox); have GW989 := am (sz hg : w.heap.size ≤ gb989); have GE989 := am (sz hg : w.heap.size ≤ gb989); replace HB := am (below_step bl hb); clear hb hbox hg) | (refine bx 3 #[.int .i64 a1_0, .string a1_1, .string a1_2, .int .i64 a1_3] 109 ?_; intro gb990 hg w13 hbox hb; have BK990 := am (hbox); have GW990 := am (sz hg : w.heap.size ≤ gb990); have GE990 := am (sz hg : w.heap.size ≤ gb990); replace HB := am (below_step bl hb); have NB989_990 := am (nl hg BK989 : gb989 ≠ gb990); have NB990_989 := am (ng hg BK989 : gb990 ≠ gb989); replace BK989 := kb BK989 hb; clear hb hbox hg; have hnb14 := NB989_990.out; have hnc14 := NB990_989.out; obtain ⟨z15_0, y15_0, z15_1, y15_1, z15_2, y15_2, z15_3, y15_3⟩ := cl4 BK989; obtain ⟨z16_0, y16_0, z16_1, y16_1, z16_2, y16_2, z16_3, y16_3⟩ := cl4 BK990))
  go_ret
  exact ⟨rf, bl⟩
 rw [if_pos c6] at H
 have c6b0 : (a0_3 == a1_3) = true := beq_iff_eq.mpr c6
 have c6b1 : (a0_3 != a1_3) = false := bne_eq_false_iff_eq.mpr c6
 clear c6
 obtain rfl := Option.some.inj H
 go_enter Tryd.func91, Tryd.ntmps91
 go_wp2_with (first | (refine bx 2 #[.int .i64 a0_0, .string a0_1, .string a0_2, .int .i64 a0_3] 109 ?_; intro gb989 hg w7 hbox hb; have BK989 := am (hbox); have GW989 := am (sz hg : w.heap.size ≤ gb989); have GE989 := am (sz hg : w.heap.size ≤ gb989); replace HB := am (below_step bl hb); clear hb hbox hg) | (refine bx 3 #[.int .i64 a1_0, .string a1_1, .string a1_2, .int .i64 a1_3] 109 ?_; intro gb990 hg w8 hbox hb; have BK990 := am (hbox); have GW990 := am (sz hg : w.heap.size ≤ gb990); have GE990 := am (sz hg : w.heap.size ≤ gb990); replace HB := am (below_step bl hb); have NB989_990 := am (nl hg BK989 : gb989 ≠ gb990); have NB990_989 := am (ng hg BK989 : gb990 ≠ gb989); replace BK989 := kb BK989 hb; clear hb hbox hg; have hnb9 := NB989_990.out; have hnc9 := NB990_989.out; obtain ⟨z10_0, y10_0, z10_1, y10_1, z10_2, y10_2, z10_3, y10_3⟩ := cl4 BK989; obtain ⟨z11_0, y11_0, z11_1, y11_1, z11_2, y11_2, z11_3, y11_3⟩ := cl4 BK990))
 go_ret
 exact ⟨rf, bl⟩

/-! ### laws_eqBanS: function 36 -/
def laws_eqBanS.l0 : Nat → List (S109) → List (S109) → Int → Option (Bool)
 | 0, _, _, _ => none
 | k + 1, x0, x1, x5 => if x5 < (x0.length : Int) then (if 0 ≤ x5 then (if x5 < (x1.length : Int) then ((laws_eqBan.f ((rd_T109 x0 x5).f0) ((rd_T109 x0 x5).f1) ((rd_T109 x0 x5).f2) ((rd_T109 x0 x5).f3) ((rd_T109 x1 x5).f0) ((rd_T109 x1 x5).f1) ((rd_T109 x1 x5).f2) ((rd_T109 x1 x5).f3)).bind fun t993 => (if t993 = true then (laws_eqBanS.l0 k x0 x1 (wrap64 (x5 + 1))) else (some false))) else (none)) else (none)) else (some true)
def laws_eqBanS.f (k : Nat) (l0 : List (S109)) (l1 : List (S109)) : Option (Bool) := if (l0.length : Int) = (l1.length : Int) then (laws_eqBanS.l0 k l0 l1 0) else (some false)
theorem laws_eqBanS.mono_l : ∀ k, (∀ y0 y1 y2, LeO (laws_eqBanS.l0 k y0 y1 y2) (laws_eqBanS.l0 (k + 1) y0 y1 y2))
 | 0 => fun _ _ _ r h => by simp [laws_eqBanS.l0] at h
 | k + 1 => by
  have ih0 := laws_eqBanS.mono_l k
  ·intro y0 y1 y2
   unfold laws_eqBanS.l0
   exact mo
theorem laws_eqBanS.mono : ∀ a0 a1 k, LeO (laws_eqBanS.f k a0 a1) (laws_eqBanS.f (k + 1) a0 a1) := by
 intro a0 a1 k
 have ih0 := laws_eqBanS.mono_l k
 unfold laws_eqBanS.f
 exact mo
def laws_eqBanS.T6 : Bool × List (List Nat × List Nat) := (true, [([], []), ([], []), ([0, 1], [0, 1]), ([2], [2]), ([], []), ([], []), ([4, 5], [4, 5]), ([6], [6]), ([3, 7], [3, 7]), ([8], [8])])
def laws_eqBanS.B6 : List Nat := [0, 0, 3, 7, 0, 0, 48, 112, 255, 511]
theorem laws_eqBanS.tab6 : rtab .any (opsOf Tryd.f36 6) = laws_eqBanS.T6 := by kernel_rfl
theorem laws_eqBanS.bits6 : waitsOk laws_eqBanS.T6.2 laws_eqBanS.B6 = true := by kernel_rfl
set_option maxHeartbeats 8000000 in
set_option maxRecDepth 100000 in
theorem laws_eqBanS.calls (k : Nat) (A0 : Option Addr) (c0 : Nat) (l0 : List (S109)) (A1 : Option Addr) (c1 : Nat) (l1 : List (S109)) (r : Bool) (w : World) (hr0 : Kd.C k109 w A0 l0.length l0) (hc0 : l0.length ≤ c0) (hr1 : Kd.C k109 w A1 l1.length l1) (hc1 : l1.length ≤ c1) (h : laws_eqBanS.f k l0 l1 = some r) :
  Calls Tryd.prog 36 #[.slice A0 l0.length c0, .slice A1 l1.length c1] w fun e w' => e = .returned (.bool r) ∧ Below w.heap.size w w' := by
 have hu109 := Tryd.underlying109
 have HR0 := am hr0
 have HC0 := am hc0
 clear hr0 hc0
 have HR1 := am hr1
 have HC1 := am hc1
 clear hr1 hc1
 have HB := am (Below.refl w.heap.size w)
 unfold laws_eqBanS.f at h
 have H := h
 clear h
 by_cases c3 : (l0.length : Int) = (l1.length : Int)
 rotate_left
 ·rw [if_neg c3] at H
  have c3b0 : ((l0.length : Int) == (l1.length : Int)) = false := beq_eq_false_iff_ne.mpr c3
  have c3b1 : ((l0.length : Int) != (l1.length : Int)) = true := bne_iff_ne.mpr c3
  have c3b2 : (l0.length == l1.length) = false := by first | simpa using c3 | (simp at c3 ⊢; omega)
  obtain rfl := Option.some.inj H
  go_enter Tryd.func36, Tryd.ntmps36
  go_wp2
  go_ret
  exact ⟨rf, bl⟩
 rw [if_pos c3] at H
 have c3b0 : ((l0.length : Int) == (l1.length : Int)) = true := beq_iff_eq.mpr c3
 have c3b1 : ((l0.length : Int) != (l1.length : Int)) = false := bne_eq_false_iff_eq.mpr c3
 have c3b2 : (l0.length == l1.length) = true := by first | simpa using c3 | (simp at c3 ⊢; omega)
 clear c3
 have H' := am H
 clear H
 go_enter Tryd.func36, Tryd.ntmps36
 go_wp2
 (try simp only [Act.put, List.setIfInBounds_toArray, List.set_cons_zero, List.set_cons_succ])
 go_loopg [5] k (fun kq v5 w' => ∃ (x5_1 : Int), v5 = .int .i64 x5_1 ∧ Aside0 (laws_eqBanS.l0 kq l0 l1 x5_1 = some r) ∧ Aside0 (kq ≤ k) ∧ Aside0 (Below w.heap.size w w'))
 case atStart => exact ⟨(0), rs, H', ⟨Nat.le_refl _⟩, ⟨by repeat (first | (with_reducible first | exact HB.out | apply below_alloc | apply pw_below_drewN | apply below_drew1) | exact HB.out)⟩⟩
 case round =>
  clear H'
  try clear c1
  try clear p2
  try clear c3
  try clear c3b0
  try clear c3b1
  try clear c3b2
  obtain ⟨x5_1, rfl, HA, HK1, HB⟩ := hrel
  cases gk with
  | zero => exact absurd HA.out (by simp [laws_eqBanS.l0])
  | succ k1 =>
   have H := HA.out
   clear HA
   simp only [laws_eqBanS.l0] at H
   by_cases c4 : x5_1 < (l0.length : Int)
   rotate_left
   ·rw [if_neg c4] at H
    have c4b0 := decide_eq_false c4
    clear c4
    obtain rfl := Option.some.inj H
    go_wp2
    go_ret
    exact ⟨rf, bl⟩
   rw [if_pos c4] at H
   have c4b0 := decide_eq_true c4
   clear c4
   revert H
   refine ifn fun c5 H => ?_
   have c5b0 := decide_eq_true c5
   clear c5
   revert H
   refine ifn fun c6 H => ?_
   have c6b0 := decide_eq_true c6
   clear c6
   revert H
   refine ok1 fun t993 A7 H => ?_
   by_cases c8 : t993 = true
   rotate_left
   ·replace c8 := Bool.eq_false_iff.mpr c8
    subst c8
    rw [if_neg (show ¬ (false = true) by decide)] at H
    obtain rfl := Option.some.inj H
    try go_wp2
    replace HB := am (below_drew1 HB.out)
    have p991 : 0 ≤ (x5_1 : Int) := od
    have q991 : x5_1 < (l0.length : Int) := od
    obtain ⟨ad991, e991, hx991_0, hx991_1, hx991_2, hx991_3⟩ := at_T109 HR0.out x5_1 p991 q991
    have hw991_3 := hx991_3
    have hw991_2 := hx991_2
    have hw991_1 := hx991_1
    have hw991_0 := hx991_0
    cases e991
    replace hx991_0 := hcw hx991_0
    replace hx991_1 := hcw hx991_1
    replace hx991_2 := hcw hx991_2
    replace hx991_3 := hcw hx991_3
    replace p991 := eq_true p991
    replace q991 := eq_true q991
    have p992 : 0 ≤ (x5_1 : Int) := od
    have q992 : x5_1 < (l1.length : Int) := od
    obtain ⟨ad992, e992, hx992_0, hx992_1, hx992_2, hx992_3⟩ := at_T109 HR1.out x5_1 p992 q992
    have hw992_3 := hx992_3
    have hw992_2 := hx992_2
    have hw992_1 := hx992_1
    have hw992_0 := hx992_0
    cases e992
    replace hx992_0 := hcw hx992_0
    replace hx992_1 := hcw hx992_1
    replace hx992_2 := hcw hx992_2
    replace hx992_3 := hcw hx992_3
    replace p992 := eq_true p992
    replace q992 := eq_true q992
    refine start_ (n := 10) (S := fun w' => w'.cell? (ad991.add ((x5_1).toNat * 4)) = some (.int .i64 ((rd_T109 l0 x5_1).f0)) ∧ w'.cell? ⟨(ad991.add ((x5_1).toNat * 4)).block, (ad991.add ((x5_1).toNat * 4)).off + 1, none⟩ = some (.string ((rd_T109 l0 x5_1).f1)) ∧ w'.cell? ⟨(ad991.add ((x5_1).toNat * 4)).block, (ad991.add ((x5_1).toNat * 4)).off + 2, none⟩ = some (.string ((rd_T109 l0 x5_1).f2)) ∧ w'.cell? ⟨(ad991.add ((x5_1).toNat * 4)).block, (ad991.add ((x5_1).toNat * 4)).off + 3, none⟩ = some (.int .i64 ((rd_T109 l0 x5_1).f3)) ∧ w'.cell? (ad992.add ((x5_1).toNat * 4)) = some (.int .i64 ((rd_T109 l1 x5_1).f0)) ∧ w'.cell? ⟨(ad992.add ((x5_1).toNat * 4)).block, (ad992.add ((x5_1).toNat * 4)).off + 1, none⟩ = some (.string ((rd_T109 l1 x5_1).f1)) ∧ w'.cell? ⟨(ad992.add ((x5_1).toNat * 4)).block, (ad992.add ((x5_1).toNat * 4)).off + 2, none⟩ = some (.string ((rd_T109 l1 x5_1).f2)) ∧ w'.cell? ⟨(ad992.add ((x5_1).toNat * 4)).block, (ad992.add ((x5_1).toNat * 4)).off + 3, none⟩ = some (.int .i64 ((rd_T109 l1 x5_1).f3))) (ds := []) ⟨br true [0, 10]⟩ (by kernel_rfl) rfl (by kernel_rfl) ⟨(hcw hw991_0), (hcw hw991_1), (hcw hw991_2), (hcw hw991_3), (hcw hw992_0), (hcw hw992_1), (hcw hw992_2), (hcw hw992_3)⟩ (fun hHeld => ?_); refine with_tabW laws_eqBanS.tab6 laws_eqBanS.bits6 (fun HT_ HW_ => ?_)
    generalize wr.drew = w11 at HB hx991_0 hx991_1 hx991_2 hx991_3 hx992_0 hx992_1 hx992_2 hx992_3 hHeld ⊢
    refine pu 0 17 [1, 9] ?_
    refine pu 1 18 [2, 8] ?_
    refine pu 2 19 [3, 7] ?_
    refine pu 4 21 [3, 1, 1, 5] ?_
    refine pu 5 22 [3, 1, 2, 4] ?_
    refine pu 6 23 [3, 1, 3, 3] ?_
    refine tk 3 20 [7, 3] ?_
    refine tk 7 24 [8, 2] ?_
    refine og 8 25 [9, 1] Tryd.func91 #[.agg #[.int .i64 ((rd_T109 l0 x5_1).f0), .string ((rd_T109 l0 x5_1).f1), .string ((rd_T109 l0 x5_1).f2), .int .i64 ((rd_T109 l0 x5_1).f3)], .agg #[.int .i64 ((rd_T109 l1 x5_1).f0), .string ((rd_T109 l1 x5_1).f1), .string ((rd_T109 l1 x5_1).f2), .int .i64 ((rd_T109 l1 x5_1).f3)]] (fun K hK => ?_)
    with_reducible refine (laws_eqBan.calls ((rd_T109 l0 x5_1).f0) ((rd_T109 l0 x5_1).f1) ((rd_T109 l0 x5_1).f2) ((rd_T109 l0 x5_1).f3) ((rd_T109 l1 x5_1).f0) ((rd_T109 l1 x5_1).f1) ((rd_T109 l1 x5_1).f2) ((rd_T109 l1 x5_1).f3) false _ A7.out).mono ?_
    rintro e w12 ⟨rfl, hb⟩
    refine ⟨_, rfl, ?_⟩
    replace HB := am (below_step bl hb)
    clear hb
    refine hK.out _ _ ⟨(hcw hw991_0), (hcw hw991_1), (hcw hw991_2), (hcw hw991_3), (hcw hw992_0), (hcw hw992_1), (hcw hw992_2), (hcw hw992_3)⟩ (fun hHeld => ?_)
    clear hK K
    refine nm 25 ?_
    refine pu 9 26 [10] ?_
    refine done_ (done_of HT_.out (by kernel_rfl)) ?_
    try go_wp2
    go_ret
    exact ⟨rf, bl⟩
   subst c8
   rw [if_pos rfl] at H
   have H' := am H
   clear H
   try go_wp2
   replace HB := am (below_drew1 HB.out)
   have p991 : 0 ≤ (x5_1 : Int) := od
   have q991 : x5_1 < (l0.length : Int) := od
   obtain ⟨ad991, e991, hx991_0, hx991_1, hx991_2, hx991_3⟩ := at_T109 HR0.out x5_1 p991 q991
   have hw991_3 := hx991_3
   have hw991_2 := hx991_2
   have hw991_1 := hx991_1
   have hw991_0 := hx991_0
   cases e991
   replace hx991_0 := hcw hx991_0
   replace hx991_1 := hcw hx991_1
   replace hx991_2 := hcw hx991_2
   replace hx991_3 := hcw hx991_3
   replace p991 := eq_true p991
   replace q991 := eq_true q991
   have p992 : 0 ≤ (x5_1 : Int) := od
   have q992 : x5_1 < (l1.length : Int) := od
   obtain ⟨ad992, e992, hx992_0, hx992_1, hx992_2, hx992_3⟩ := at_T109 HR1.out x5_1 p992 q992
   have hw992_3 := hx992_3
   have hw992_2 := hx992_2
   have hw992_1 := hx992_1
   have hw992_0 := hx992_0
   cases e992
   replace hx992_0 := hcw hx992_0
   replace hx992_1 := hcw hx992_1
   replace hx992_2 := hcw hx992_2
   replace hx992_3 := hcw hx992_3
   replace p992 := eq_true p992
   replace q992 := eq_true q992
   refine start_ (n := 10) (S := fun w' => w'.cell? (ad991.add ((x5_1).toNat * 4)) = some (.int .i64 ((rd_T109 l0 x5_1).f0)) ∧ w'.cell? ⟨(ad991.add ((x5_1).toNat * 4)).block, (ad991.add ((x5_1).toNat * 4)).off + 1, none⟩ = some (.string ((rd_T109 l0 x5_1).f1)) ∧ w'.cell? ⟨(ad991.add ((x5_1).toNat * 4)).block, (ad991.add ((x5_1).toNat * 4)).off + 2, none⟩ = some (.string ((rd_T109 l0 x5_1).f2)) ∧ w'.cell? ⟨(ad991.add ((x5_1).toNat * 4)).block, (ad991.add ((x5_1).toNat * 4)).off + 3, none⟩ = some (.int .i64 ((rd_T109 l0 x5_1).f3)) ∧ w'.cell? (ad992.add ((x5_1).toNat * 4)) = some (.int .i64 ((rd_T109 l1 x5_1).f0)) ∧ w'.cell? ⟨(ad992.add ((x5_1).toNat * 4)).block, (ad992.add ((x5_1).toNat * 4)).off + 1, none⟩ = some (.string ((rd_T109 l1 x5_1).f1)) ∧ w'.cell? ⟨(ad992.add ((x5_1).toNat * 4)).block, (ad992.add ((x5_1).toNat * 4)).off + 2, none⟩ = some (.string ((rd_T109 l1 x5_1).f2)) ∧ w'.cell? ⟨(ad992.add ((x5_1).toNat * 4)).block, (ad992.add ((x5_1).toNat * 4)).off + 3, none⟩ = some (.int .i64 ((rd_T109 l1 x5_1).f3))) (ds := []) ⟨br true [0, 10]⟩ (by kernel_rfl) rfl (by kernel_rfl) ⟨(hcw hw991_0), (hcw hw991_1), (hcw hw991_2), (hcw hw991_3), (hcw hw992_0), (hcw hw992_1), (hcw hw992_2), (hcw hw992_3)⟩ (fun hHeld => ?_); refine with_tabW laws_eqBanS.tab6 laws_eqBanS.bits6 (fun HT_ HW_ => ?_)
   generalize wr.drew = w9 at HB hx991_0 hx991_1 hx991_2 hx991_3 hx992_0 hx992_1 hx992_2 hx992_3 hHeld ⊢
   refine pu 0 17 [1, 9] ?_
   refine pu 1 18 [2, 8] ?_
   refine pu 2 19 [3, 7] ?_
   refine pu 4 21 [3, 1, 1, 5] ?_
   refine pu 5 22 [3, 1, 2, 4] ?_
   refine pu 6 23 [3, 1, 3, 3] ?_
   refine tk 3 20 [7, 3] ?_
   refine tk 7 24 [8, 2] ?_
   refine og 8 25 [9, 1] Tryd.func91 #[.agg #[.int .i64 ((rd_T109 l0 x5_1).f0), .string ((rd_T109 l0 x5_1).f1), .string ((rd_T109 l0 x5_1).f2), .int .i64 ((rd_T109 l0 x5_1).f3)], .agg #[.int .i64 ((rd_T109 l1 x5_1).f0), .string ((rd_T109 l1 x5_1).f1), .string ((rd_T109 l1 x5_1).f2), .int .i64 ((rd_T109 l1 x5_1).f3)]] (fun K hK => ?_)
   with_reducible refine (laws_eqBan.calls ((rd_T109 l0 x5_1).f0) ((rd_T109 l0 x5_1).f1) ((rd_T109 l0 x5_1).f2) ((rd_T109 l0 x5_1).f3) ((rd_T109 l1 x5_1).f0) ((rd_T109 l1 x5_1).f1) ((rd_T109 l1 x5_1).f2) ((rd_T109 l1 x5_1).f3) true _ A7.out).mono ?_
   rintro e w10 ⟨rfl, hb⟩
   refine ⟨_, rfl, ?_⟩
   replace HB := am (below_step bl hb)
   clear hb
   refine hK.out _ _ ⟨(hcw hw991_0), (hcw hw991_1), (hcw hw991_2), (hcw hw991_3), (hcw hw992_0), (hcw hw992_1), (hcw hw992_2), (hcw hw992_3)⟩ (fun hHeld => ?_)
   clear hK K
   refine nm 25 ?_
   refine pu 9 26 [10] ?_
   refine done_ (done_of HT_.out (by kernel_rfl)) ?_
   try go_wp2
   go_roundg k1
   case measure => have := HK1.out; omega
   case rel => exact ⟨(wrap64 (x5_1 + 1)), rs, H', ⟨by have := HK1.out; omega⟩, ⟨by repeat (first | (with_reducible first | exact HB.out | apply below_alloc | apply pw_below_drewN | apply below_drew1) | exact HB.out)⟩⟩

/-! ### laws_FnExactHitsAny: function 6 -/
def laws_FnExactHitsAny.f (k : Nat) (l0 : List (S107)) (a1_0 : ByteArray) (l1_1 : List ByteArray) (l1_2 : List ByteArray) (a1_3 : Int) (l1_4 : List (S121)) (a1_5 : ByteArray) (a1_6 : Int) : Option (Bool) := (laws_szBanS.f k l0 1048576).bind fun t995 => (if t995 < 0 then (some true) else ((laws_szObj.f k a1_0 l1_1 l1_2 a1_3 l1_4 a1_5 a1_6 t995).bind fun t996 => (if t996 < 0 then (some true) else ((laws_toBanS.f k l0).bind fun t997 => ((laws_toObj.f k a1_0 l1_1 l1_2 a1_3 l1_4 a1_5 a1_6).bind fun bt1000 => ((spec_HitsAny.f k t997 bt1000.1 bt1000.2.1 bt1000.2.2.1 bt1000.2.2.2.1 bt1000.2.2.2.2.1 bt1000.2.2.2.2.2.1 bt1000.2.2.2.2.2.2).bind fun t1013 => ((laws_toBanS.f k l0).bind fun t1014 => ((laws_toObj.f k a1_0 l1_1 l1_2 a1_3 l1_4 a1_5 a1_6).bind fun bt1017 => ((impl_HitsAny.f k t1014 bt1017.1 bt1017.2.1 bt1017.2.2.1 bt1017.2.2.2.1 bt1017.2.2.2.2.1 bt1017.2.2.2.2.2.1 bt1017.2.2.2.2.2.2).bind fun t1031 => (if (t1031 != t1013) = true then (some false) else ((laws_toBanS.f k l0).bind fun t1032 => ((laws_eqBanS.f k t1014 t1032).bind fun t1035 => (if t1035 = true then ((laws_toObj.f k a1_0 l1_1 l1_2 a1_3 l1_4 a1_5 a1_6).bind fun bt1036 => ((laws_eqObj.f k bt1017.1 bt1017.2.1 bt1017.2.2.1 bt1017.2.2.2.1 bt1017.2.2.2.2.1 bt1017.2.2.2.2.2.1 bt1017.2.2.2.2.2.2 bt1036.1 bt1036.2.1 bt1036.2.2.1 bt1036.2.2.2.1 bt1036.2.2.2.2.1 bt1036.2.2.2.2.2.1 bt1036.2.2.2.2.2.2).bind fun t1049 => (if t1049 = true then (some true) else (some false)))) else (some false))))))))))))))
theorem laws_FnExactHitsAny.mono : ∀ a0 a1 a2 a3 a4 a5 a6 a7 k, LeO (laws_FnExactHitsAny.f k a0 a1 a2 a3 a4 a5 a6 a7) (laws_FnExactHitsAny.f (k + 1) a0 a1 a2 a3 a4 a5 a6 a7) := by
 intro a0 a1 a2 a3 a4 a5 a6 a7 k
 unfold laws_FnExactHitsAny.f
 have m0 := @impl_HitsAny.mono
 have m1 := @laws_eqBanS.mono
 have m2 := @laws_eqObj.mono
 have m3 := @laws_szBanS.mono
 have m4 := @laws_szObj.mono
 have m5 := @laws_toBanS.mono
 have m6 := @laws_toObj.mono
 have m7 := @spec_HitsAny.mono
 exact mo
set_option maxHeartbeats 8000000 in
set_option maxRecDepth 100000 in
theorem laws_FnExactHitsAny.calls (k : Nat) (A0 : Option Addr) (c0 : Nat) (l0 : List (S107)) (a1_0 : ByteArray) (A1_1 : Option Addr) (c1_1 : Nat) (l1_1 : List ByteArray) (A1_2 : Option Addr) (c1_2 : Nat) (l1_2 : List ByteArray) (a1_3 : Int) (A1_4 : Option Addr) (c1_4 : Nat) (l1_4 : List (S121)) (a1_5 : ByteArray) (a1_6 : Int) (r : Bool) (w : World) (hGM : GLOBM w) (hr0 : Kd.C k107 w A0 l0.length l0) (hc0 : l0.length ≤ c0) (hr1_1 : Kd.C Kd.string w A1_1 l1_1.length l1_1) (hc1_1 : l1_1.length ≤ c1_1) (hr1_2 : Kd.C Kd.string w A1_2 l1_2.length l1_2) (hc1_2 : l1_2.length ≤ c1_2) (hr1_4 : Kd.C k121 w A1_4 l1_4.length l1_4) (hc1_4 : l1_4.length ≤ c1_4) (ht_ : r = true) (h : laws_FnExactHitsAny.f k l0 a1_0 l1_1 l1_2 a1_3 l1_4 a1_5 a1_6 = some r) :
  Calls Tryd.prog 6 #[.slice A0 l0.length c0, .agg #[.string a1_0, .slice A1_1 l1_1.length c1_1, .slice A1_2 l1_2.length c1_2, .int .i64 a1_3, .slice A1_4 l1_4.length c1_4, .string a1_5, .int .i64 a1_6]] w fun e w' => e = .returned (.bool r) ∧ Below w.heap.size w w' := by
 have hu51 := Tryd.underlying51
 have hu55 := Tryd.underlying55
 have HR0 := am hr0
 have HC0 := am hc0
 clear hr0 hc0
 have HR1_1 := am hr1_1
 have HC1_1 := am hc1_1
 clear hr1_1 hc1_1
 have HR1_2 := am hr1_2
 have HC1_2 := am hc1_2
 clear hr1_2 hc1_2
 have HR1_4 := am hr1_4
 have HC1_4 := am hc1_4
 clear hr1_4 hc1_4
 have HGM := am hGM
 clear hGM
 have HB := am (Below.refl w.heap.size w)
 unfold laws_FnExactHitsAny.f at h
 have H := h
 clear h
 revert H
 refine ok1 fun t995 A3 H => ?_
 by_cases c4 : t995 < 0
 ·rw [if_pos c4] at H
  have c4b0 := decide_eq_true c4
  clear c4
  obtain rfl := Option.some.inj H
  go_enter Tryd.func6, Tryd.ntmps6
  go_wp2_with (first | (refine bx 3 #[.string a1_0, .slice A1_1 l1_1.length c1_1, .slice A1_2 l1_2.length c1_2, .int .i64 a1_3, .slice A1_4 l1_4.length c1_4, .string a1_5, .int .i64 a1_6] 51 ?_; intro gb994 hg w5 hbox hb; have BK994 := am (hbox); have GW994 := am (sz hg : w.heap.size ≤ gb994); have GE994 := am (sz hg : w.heap.size ≤ gb994); replace HB := am (below_step bl hb); clear hb hbox hg) | (refine gl 12 Tryd.func32 #[.slice A0 l0.length c0, .int .i64 1048576] ?_; (with_reducible refine (laws_szBanS.calls k _ _ l0 1048576 t995 _ ?side1 ?side2 A3.out).mono ?_); (case side1 => exact cb HR0); (case side2 => exact HC0.out); rintro e w6 ⟨rfl, hb⟩; refine ⟨_, rfl, ?_⟩; replace BK994 := kb BK994 hb; replace HB := am (below_step bl hb); clear hb))
  go_ret
  exact ⟨rf, bl⟩
 rw [if_neg c4] at H
 have c4b0 := decide_eq_false c4
 clear c4
 revert H
 refine ok1 fun t996 A7 H => ?_
 by_cases c8 : t996 < 0
 ·rw [if_pos c8] at H
  have c8b0 := decide_eq_true c8
  clear c8
  obtain rfl := Option.some.inj H
  go_enter Tryd.func6, Tryd.ntmps6
  go_wp2_with (first | (refine bx 3 #[.string a1_0, .slice A1_1 l1_1.length c1_1, .slice A1_2 l1_2.length c1_2, .int .i64 a1_3, .slice A1_4 l1_4.length c1_4, .string a1_5, .int .i64 a1_6] 51 ?_; intro gb994 hg w9 hbox hb; have BK994 := am (hbox); have GW994 := am (sz hg : w.heap.size ≤ gb994); have GE994 := am (sz hg : w.heap.size ≤ gb994); replace HB := am (below_step bl hb); clear hb hbox hg) | (refine gl 12 Tryd.func32 #[.slice A0 l0.length c0, .int .i64 1048576] ?_; (with_reducible refine (laws_szBanS.calls k _ _ l0 1048576 t995 _ ?side1 ?side2 A3.out).mono ?_); (case side1 => exact cb HR0); (case side2 => exact HC0.out); rintro e w10 ⟨rfl, hb⟩; refine ⟨_, rfl, ?_⟩; replace BK994 := kb BK994 hb; replace HB := am (below_step bl hb); clear hb; obtain ⟨z11_0, y11_0, z11_1, y11_1, z11_2, y11_2, z11_3, y11_3, z11_4, y11_4, z11_5, y11_5, z11_6, y11_6⟩ := cl7 BK994) | (refine gl 17 Tryd.func27 #[.agg #[.string a1_0, .slice A1_1 l1_1.length c1_1, .slice A1_2 l1_2.length c1_2, .int .i64 a1_3, .slice A1_4 l1_4.length c1_4, .string a1_5, .int .i64 a1_6], .int .i64 t995] ?_; (with_reducible refine (laws_szObj.calls k a1_0 _ _ l1_1 _ _ l1_2 a1_3 _ _ l1_4 a1_5 a1_6 t995 t996 _ ?side1 ?side2 ?side3 ?side4 ?side5 ?side6 A7.out).mono ?_); (case side1 => exact cb HR1_1); (case side2 => exact HC1_1.out); (case side3 => exact cb HR1_2); (case side4 => exact HC1_2.out); (case side5 => exact cb HR1_4); (case side6 => exact HC1_4.out); rintro e w12 ⟨rfl, hb⟩; refine ⟨_, rfl, ?_⟩; replace BK994 := kb BK994 hb; replace HB := am (below_step bl hb); clear hb))
  go_ret
  exact ⟨rf, bl⟩
 rw [if_neg c8] at H
 have c8b0 := decide_eq_false c8
 clear c8
 revert H
 refine ok1 fun t997 A13 H => ?_
 revert H
 refine ok7 fun t1000 t1001 t1004 t1007 t1008 t1011 t1012 A14 H => ?_
 (try dsimp only at H)
 revert H
 refine ok1 fun t1013 A15 H => ?_
 revert H
 refine ok1 fun t1014 A16 H => ?_
 revert H
 refine ok7 fun t1017 t1018 t1021 t1024 t1025 t1028 t1029 A17 H => ?_
 (try dsimp only at H)
 revert H
 refine ok1 fun t1031 A18 H => ?_
 by_cases c19 : (t1031 != t1013) = true
 ·rw [if_pos c19] at H
  have c19b0 : (t1031 != t1013) = true := c19
  (try (have c19b1 : decide (t1031 = t1013) = false := by simpa using c19))
  (try (have c19b2 : (t1031 == t1013) = false := by simpa using c19))
  (try (have c19b3 : ¬ (t1031 = t1013) := by simpa using c19))
  clear c19
  exact absurd (Option.some.inj H) (by rw [ht_]; decide)
 rw [if_neg c19] at H
 have c19b0 : (t1031 != t1013) = false := by simpa using c19
 (try (have c19b1 : decide (t1031 = t1013) = true := by simpa using c19))
 (try (have c19b2 : (t1031 == t1013) = true := by simpa using c19))
 clear c19
 revert H
 refine ok1 fun t1032 A20 H => ?_
 revert H
 refine ok1 fun t1035 A21 H => ?_
 by_cases c22 : t1035 = true
 rotate_left
 ·replace c22 := Bool.eq_false_iff.mpr c22
  subst c22
  rw [if_neg (show ¬ (false = true) by decide)] at H
  exact absurd (Option.some.inj H) (by rw [ht_]; decide)
 subst c22
 rw [if_pos rfl] at H
 revert H
 refine ok7 fun t1036 t1037 t1040 t1043 t1044 t1047 t1048 A23 H => ?_
 (try dsimp only at H)
 revert H
 refine ok1 fun t1049 A24 H => ?_
 by_cases c25 : t1049 = true
 rotate_left
 ·replace c25 := Bool.eq_false_iff.mpr c25
  subst c25
  rw [if_neg (show ¬ (false = true) by decide)] at H
  exact absurd (Option.some.inj H) (by rw [ht_]; decide)
 subst c25
 rw [if_pos rfl] at H
 obtain rfl := Option.some.inj H
 go_enter Tryd.func6, Tryd.ntmps6
 try go_wp2_with (first | (refine bx 3 #[.string a1_0, .slice A1_1 l1_1.length c1_1, .slice A1_2 l1_2.length c1_2, .int .i64 a1_3, .slice A1_4 l1_4.length c1_4, .string a1_5, .int .i64 a1_6] 51 ?_; intro gb994 hg w26 hbox hb; have BK994 := am (hbox); have GW994 := am (sz hg : w.heap.size ≤ gb994); have GE994 := am (sz hg : w.heap.size ≤ gb994); replace HB := am (below_step bl hb); clear hb hbox hg) | (refine gl 12 Tryd.func32 #[.slice A0 l0.length c0, .int .i64 1048576] ?_; (with_reducible refine (laws_szBanS.calls k _ _ l0 1048576 t995 _ ?side1 ?side2 A3.out).mono ?_); (case side1 => exact cb HR0); (case side2 => exact HC0.out); rintro e w27 ⟨rfl, hb⟩; refine ⟨_, rfl, ?_⟩; replace BK994 := kb BK994 hb; replace HB := am (below_step bl hb); clear hb; obtain ⟨z28_0, y28_0, z28_1, y28_1, z28_2, y28_2, z28_3, y28_3, z28_4, y28_4, z28_5, y28_5, z28_6, y28_6⟩ := cl7 BK994) | (refine gl 17 Tryd.func27 #[.agg #[.string a1_0, .slice A1_1 l1_1.length c1_1, .slice A1_2 l1_2.length c1_2, .int .i64 a1_3, .slice A1_4 l1_4.length c1_4, .string a1_5, .int .i64 a1_6], .int .i64 t995] ?_; (with_reducible refine (laws_szObj.calls k a1_0 _ _ l1_1 _ _ l1_2 a1_3 _ _ l1_4 a1_5 a1_6 t995 t996 _ ?side1 ?side2 ?side3 ?side4 ?side5 ?side6 A7.out).mono ?_); (case side1 => exact cb HR1_1); (case side2 => exact HC1_1.out); (case side3 => exact cb HR1_2); (case side4 => exact HC1_2.out); (case side5 => exact cb HR1_4); (case side6 => exact HC1_4.out); rintro e w29 ⟨rfl, hb⟩; refine ⟨_, rfl, ?_⟩; replace BK994 := kb BK994 hb; replace HB := am (below_step bl hb); clear hb))
 replace BK994 := am (blk_drew BK994.out)
 replace HB := am (below_drew1 HB.out)
 refine start_ (n := 6) (S := fun w' => w'.cell? ⟨gb994, 0, none⟩ = some (.string a1_0) ∧ w'.cell? ⟨gb994, 1, none⟩ = some (.slice A1_1 l1_1.length c1_1) ∧ w'.cell? ⟨gb994, 2, none⟩ = some (.slice A1_2 l1_2.length c1_2) ∧ w'.cell? ⟨gb994, 3, none⟩ = some (.int .i64 a1_3) ∧ w'.cell? ⟨gb994, 4, none⟩ = some (.slice A1_4 l1_4.length c1_4) ∧ w'.cell? ⟨gb994, 5, none⟩ = some (.string a1_5) ∧ w'.cell? ⟨gb994, 6, none⟩ = some (.int .i64 a1_6)) (ds := []) ⟨br true [0, 6]⟩ (by kernel_rfl) rfl (by kernel_rfl) ⟨bc BK994, bc BK994, bc BK994, bc BK994, bc BK994, bc BK994, bc BK994⟩ (fun hHeld => ?_)
 generalize w29.drew = w30 at BK994 HB hHeld ⊢
 refine pu 0 20 [1, 5] ?_
 refine tk 2 22 [1, 1, 1, 3] ?_
 refine og 1 21 [3, 3] Tryd.func34 #[.slice A0 l0.length c0] (fun K hK => ?_)
 with_reducible refine (laws_toBanS.calls k _ _ l0 t997 _ ?side1 ?side2 A13.out).mono ?_
 (case side1 => exact cb HR0)
 (case side2 => exact HC0.out)
 rintro e w31 ⟨v998, rfl, ho0, hb⟩
 refine ⟨_, rfl, ?_⟩
 have HO999 := am (Kd.R_lower ho0 (below_size bl))
 replace BK994 := kb BK994 hb
 replace HB := am (below_step bl hb)
 clear hb ho0
 refine hK.out _ _ ⟨bc BK994, bc BK994, bc BK994, bc BK994, bc BK994, bc BK994, bc BK994⟩ (fun hHeld => ?_)
 clear hK K
 refine nm 21 ?_
 refine og 3 23 [4, 2] Tryd.func29 #[.agg #[.string a1_0, .slice A1_1 l1_1.length c1_1, .slice A1_2 l1_2.length c1_2, .int .i64 a1_3, .slice A1_4 l1_4.length c1_4, .string a1_5, .int .i64 a1_6]] (fun K hK => ?_)
 with_reducible refine (laws_toObj.calls k a1_0 _ _ l1_1 _ _ l1_2 a1_3 _ _ l1_4 a1_5 a1_6 t1000 t1001 t1004 t1007 t1008 t1011 t1012 _ ?side1 ?side2 ?side3 ?side4 ?side5 ?side6 A14.out).mono ?_
 (case side1 => exact cb HR1_1)
 (case side2 => exact HC1_1.out)
 (case side3 => exact cb HR1_2)
 (case side4 => exact HC1_2.out)
 (case side5 => exact cb HR1_4)
 (case side6 => exact HC1_4.out)
 rintro e w32 ⟨v1002, v1005, v1009, rfl, ho0, ho1, ho2, hb⟩
 refine ⟨_, rfl, ?_⟩
 replace HO999 := kr HO999 hb
 have HO1003 := am (Kd.R_lower ho0 (below_size bl))
 have HO1006 := am (Kd.R_lower ho1 (below_size bl))
 have HO1010 := am (Kd.R_lower ho2 (below_size bl))
 replace BK994 := kb BK994 hb
 replace HB := am (below_step bl hb)
 clear hb ho0 ho1 ho2
 obtain ⟨Ao33, co33, eo33⟩ := Kd.R_slice HO999.out
 (first | subst eo33 | (injection eo33 with f1_ f2_ f3_; have f4_ := f1_.symm; have f5_ := f3_.symm; clear f1_ f2_ f3_; subst f4_; subst f5_))
 obtain ⟨Ao34, co34, eo34⟩ := Kd.R_slice HO1003.out
 (first | subst eo34 | (injection eo34 with f1_ f2_ f3_; have f4_ := f1_.symm; have f5_ := f3_.symm; clear f1_ f2_ f3_; subst f4_; subst f5_))
 obtain ⟨Ao35, co35, eo35⟩ := Kd.R_slice HO1006.out
 (first | subst eo35 | (injection eo35 with f1_ f2_ f3_; have f4_ := f1_.symm; have f5_ := f3_.symm; clear f1_ f2_ f3_; subst f4_; subst f5_))
 obtain ⟨Ao36, co36, eo36⟩ := Kd.R_slice HO1010.out
 (first | subst eo36 | (injection eo36 with f1_ f2_ f3_; have f4_ := f1_.symm; have f5_ := f3_.symm; clear f1_ f2_ f3_; subst f4_; subst f5_))
 refine hK.out _ _ ⟨bc BK994, bc BK994, bc BK994, bc BK994, bc BK994, bc BK994, bc BK994⟩ (fun hHeld => ?_)
 clear hK K
 refine nm 23 ?_
 refine og 4 24 [5, 1] Tryd.func33 #[.slice Ao33 t997.length co33, .agg #[.string t1000, .slice Ao34 t1001.length co34, .slice Ao35 t1004.length co35, .int .i64 t1007, .slice Ao36 t1008.length co36, .string t1011, .int .i64 t1012]] (fun K hK => ?_)
 with_reducible refine (spec_HitsAny.calls k _ _ t997 t1000 _ _ t1001 _ _ t1004 t1007 _ _ t1008 t1011 t1012 t1013 _ ?side1 ?side2 ?side3 ?side4 ?side5 ?side6 ?side7 ?side8 A15.out).mono ?_
 (case side1 => exact rc HO999)
 (case side2 => exact (Kd.R_reads' HO999.out).2.1)
 (case side3 => exact rc HO1003)
 (case side4 => exact (Kd.R_reads' HO1003.out).2.1)
 (case side5 => exact rc HO1006)
 (case side6 => exact (Kd.R_reads' HO1006.out).2.1)
 (case side7 => exact rc HO1010)
 (case side8 => exact (Kd.R_reads' HO1010.out).2.1)
 rintro e w37 ⟨rfl, hb⟩
 refine ⟨_, rfl, ?_⟩
 replace HO999 := kr HO999 hb
 replace HO1003 := kr HO1003 hb
 replace HO1006 := kr HO1006 hb
 replace HO1010 := kr HO1010 hb
 replace BK994 := kb BK994 hb
 replace HB := am (below_step bl hb)
 clear hb
 refine hK.out _ _ ⟨bc BK994, bc BK994, bc BK994, bc BK994, bc BK994, bc BK994, bc BK994⟩ (fun hHeld => ?_)
 clear hK K
 refine nm 24 ?_
 refine pu 5 6 [6] ?_
 refine done_ (by kernel_rfl) ?_
 try go_wp2_with (first | (refine gl 26 Tryd.func34 #[.slice A0 l0.length c0] ?_; (with_reducible refine (laws_toBanS.calls k _ _ l0 t1014 _ ?side1 ?side2 A16.out).mono ?_); (case side1 => exact cb HR0); (case side2 => exact HC0.out); rintro e w38 ⟨v1015, rfl, ho0, hb⟩; refine ⟨_, rfl, ?_⟩; replace HO1003 := kr HO1003 hb; replace HO1006 := kr HO1006 hb; replace HO1010 := kr HO1010 hb; have HO1016 := am (Kd.R_lower (Kd.R_new' ho0 (Kd.R_lt (ro HO999))) (below_size bl)); replace HO999 := am (Kd.R_elder' (ro HO999) (Kd.R_base ho0) hb); replace BK994 := kb BK994 hb; replace HB := am (below_step bl hb); clear hb ho0; obtain ⟨z39_0, y39_0, z39_1, y39_1, z39_2, y39_2, z39_3, y39_3, z39_4, y39_4, z39_5, y39_5, z39_6, y39_6⟩ := cl7 BK994) | (refine gl 28 Tryd.func29 #[.agg #[.string a1_0, .slice A1_1 l1_1.length c1_1, .slice A1_2 l1_2.length c1_2, .int .i64 a1_3, .slice A1_4 l1_4.length c1_4, .string a1_5, .int .i64 a1_6]] ?_; (with_reducible refine (laws_toObj.calls k a1_0 _ _ l1_1 _ _ l1_2 a1_3 _ _ l1_4 a1_5 a1_6 t1017 t1018 t1021 t1024 t1025 t1028 t1029 _ ?side1 ?side2 ?side3 ?side4 ?side5 ?side6 A17.out).mono ?_); (case side1 => exact cb HR1_1); (case side2 => exact HC1_1.out); (case side3 => exact cb HR1_2); (case side4 => exact HC1_2.out); (case side5 => exact cb HR1_4); (case side6 => exact HC1_4.out); rintro e w40 ⟨v1019, v1022, v1026, rfl, ho0, ho1, ho2, hb⟩; refine ⟨_, rfl, ?_⟩; replace HO999 := kr HO999 hb; replace HO1016 := kr HO1016 hb; have HO1020 := am (Kd.R_lower (Kd.R_new' (Kd.R_new' ho0 (Kd.R_lt (ro HO1003))) (Kd.R_lt (ro HO1006))) (below_size bl)); have HO1023 := am (Kd.R_lower (Kd.R_new' (Kd.R_new' ho1 (Kd.R_lt (ro HO1003))) (Kd.R_lt (ro HO1006))) (below_size bl)); replace HO1003 := am (Kd.R_mono (Kd.R_told (Kd.R_told (Kd.R_old (ro HO1003) hb) (Kd.R_base ho0)) (Kd.R_base ho1)) (fun _ h_ => h_.1)); replace HO1006 := am (Kd.R_mono (Kd.R_told (Kd.R_told (Kd.R_old (ro HO1006) hb) (Kd.R_base ho0)) (Kd.R_base ho1)) (fun _ h_ => h_.1)); have HO1027 := am (Kd.R_lower (Kd.R_new' ho2 (Kd.R_lt (ro HO1010))) (below_size bl)); replace HO1010 := am (Kd.R_elder' (ro HO1010) (Kd.R_base ho2) hb); replace BK994 := kb BK994 hb; replace HB := am (below_step bl hb); clear hb ho0 ho1 ho2) | (refine bx 8 #[.string (⟨#[]⟩ : ByteArray), .slice none 0 0, .slice none 0 0, .int .i64 0, .slice none 0 0, .string (⟨#[]⟩ : ByteArray), .int .i64 0] 55 ?_; intro gb1030 hg w41 hbox hb; replace HO999 := am (Kd.R_below (ro HO999) hb); replace HO1003 := am (Kd.R_below (ro HO1003) hb); replace HO1006 := am (Kd.R_below (ro HO1006) hb); replace HO1010 := am (Kd.R_below (ro HO1010) hb); replace HO1016 := am (Kd.R_below (ro HO1016) hb); replace HO1020 := am (Kd.R_below (ro HO1020) hb); replace HO1023 := am (Kd.R_below (ro HO1023) hb); replace HO1027 := am (Kd.R_below (ro HO1027) hb); have BK1030 := am (hbox); have GW1030 := am (sz hg : w.heap.size ≤ gb1030); have GE1030 := am (sz hg : w.heap.size ≤ gb1030); replace HB := am (below_step bl hb); have NB994_1030 := am (nl hg BK994 : gb994 ≠ gb1030); have NB1030_994 := am (ng hg BK994 : gb1030 ≠ gb994); replace BK994 := kb BK994 hb; clear hb hbox hg; have hnb42 := NB1030_994.out; have hnc42 := NB994_1030.out; obtain ⟨z43_0, y43_0, z43_1, y43_1, z43_2, y43_2, z43_3, y43_3, z43_4, y43_4, z43_5, y43_5, z43_6, y43_6⟩ := cl7 BK1030; obtain ⟨Ao44, co44, eo44⟩ := Kd.R_slice HO1020.out; subst eo44; obtain ⟨Ao45, co45, eo45⟩ := Kd.R_slice HO1023.out; subst eo45; obtain ⟨Ao46, co46, eo46⟩ := Kd.R_slice HO1027.out; subst eo46; obtain ⟨Ao47, co47, eo47⟩ := Kd.R_slice HO1016.out; subst eo47) | (refine gl 31 Tryd.func35 #[.slice Ao47 t1014.length co47, .agg #[.string t1017, .slice Ao44 t1018.length co44, .slice Ao45 t1021.length co45, .int .i64 t1024, .slice Ao46 t1025.length co46, .string t1028, .int .i64 t1029]] ?_; (with_reducible refine (impl_HitsAny.calls k _ _ t1014 t1017 _ _ t1018 _ _ t1021 t1024 _ _ t1025 t1028 t1029 t1031 _ ?side1 ?side2 ?side3 ?side4 ?side5 ?side6 ?side7 ?side8 ?side9 A18.out).mono ?_); (case side1 => exact GLOBM.below HGM.out bl); (case side2 => refine (Kd.R_reads' (e := 109) (base := w.heap.size) (ok := fun k_ => (True ∧ some k_ ≠ (.slice Ao33 t997.length co33 : Value).ownBlock)) (n := t1014.length) (c := co47) ?_).2.2; exact (by (with_reducible repeat (first | apply Kd.R_alloc | apply Kd.R_drewN | apply Kd.R_drew)); exact (Kd.R_mono (Kd.R_far (p := ⟨gb1030, 6, none⟩) (Kd.R_far (p := ⟨gb1030, 5, none⟩) (Kd.R_far (p := ⟨gb1030, 4, none⟩) (Kd.R_far (p := ⟨gb1030, 3, none⟩) (Kd.R_far (p := ⟨gb1030, 2, none⟩) (Kd.R_far (p := ⟨gb1030, 1, none⟩) (Kd.R_far (p := ⟨gb1030, 0, none⟩) (Kd.R_types HO1016.out BK1030.out (by decide)) (fun _ hk => hk.2) (.string t1017)) (fun _ hk => hk.2) (.slice Ao44 t1018.length co44)) (fun _ hk => hk.2) (.slice Ao45 t1021.length co45)) (fun _ hk => hk.2) (.int .i64 t1024)) (fun _ hk => hk.2) (.slice Ao46 t1025.length co46)) (fun _ hk => hk.2) (.string t1028)) (fun _ hk => hk.2) (.int .i64 t1029)) (fun _ h_ => h_.1)))); (case side3 => exact (Kd.R_reads' HO1016.out).2.1); (case side4 => refine (Kd.R_reads' (e := 9) (base := w.heap.size) (ok := fun k_ => ((some k_ ≠ (.slice Ao45 t1021.length co45 : Value).ownBlock ∧ some k_ ≠ (.slice Ao34 t1001.length co34 : Value).ownBlock) ∧ some k_ ≠ (.slice Ao35 t1004.length co35 : Value).ownBlock)) (n := t1018.length) (c := co44) ?_).2.2; exact (by (with_reducible repeat (first | apply Kd.R_alloc | apply Kd.R_drewN | apply Kd.R_drew)); exact (Kd.R_mono (Kd.R_far (p := ⟨gb1030, 6, none⟩) (Kd.R_far (p := ⟨gb1030, 5, none⟩) (Kd.R_far (p := ⟨gb1030, 4, none⟩) (Kd.R_far (p := ⟨gb1030, 3, none⟩) (Kd.R_far (p := ⟨gb1030, 2, none⟩) (Kd.R_far (p := ⟨gb1030, 1, none⟩) (Kd.R_far (p := ⟨gb1030, 0, none⟩) (Kd.R_types HO1020.out BK1030.out (by decide)) (fun _ hk => hk.2) (.string t1017)) (fun _ hk => hk.2) (.slice Ao44 t1018.length co44)) (fun _ hk => hk.2) (.slice Ao45 t1021.length co45)) (fun _ hk => hk.2) (.int .i64 t1024)) (fun _ hk => hk.2) (.slice Ao46 t1025.length co46)) (fun _ hk => hk.2) (.string t1028)) (fun _ hk => hk.2) (.int .i64 t1029)) (fun _ h_ => h_.1)))); (case side5 => exact (Kd.R_reads' HO1020.out).2.1); (case side6 => refine (Kd.R_reads' (e := 9) (base := w.heap.size) (ok := fun k_ => ((some k_ ≠ (.slice Ao44 t1018.length co44 : Value).ownBlock ∧ some k_ ≠ (.slice Ao34 t1001.length co34 : Value).ownBlock) ∧ some k_ ≠ (.slice Ao35 t1004.length co35 : Value).ownBlock)) (n := t1021.length) (c := co45) ?_).2.2; exact (by (with_reducible repeat (first | apply Kd.R_alloc | apply Kd.R_drewN | apply Kd.R_drew)); exact (Kd.R_mono (Kd.R_far (p := ⟨gb1030, 6, none⟩) (Kd.R_far (p := ⟨gb1030, 5, none⟩) (Kd.R_far (p := ⟨gb1030, 4, none⟩) (Kd.R_far (p := ⟨gb1030, 3, none⟩) (Kd.R_far (p := ⟨gb1030, 2, none⟩) (Kd.R_far (p := ⟨gb1030, 1, none⟩) (Kd.R_far (p := ⟨gb1030, 0, none⟩) (Kd.R_types HO1023.out BK1030.out (by decide)) (fun _ hk => hk.2) (.string t1017)) (fun _ hk => hk.2) (.slice Ao44 t1018.length co44)) (fun _ hk => hk.2) (.slice Ao45 t1021.length co45)) (fun _ hk => hk.2) (.int .i64 t1024)) (fun _ hk => hk.2) (.slice Ao46 t1025.length co46)) (fun _ hk => hk.2) (.string t1028)) (fun _ hk => hk.2) (.int .i64 t1029)) (fun _ h_ => h_.1)))); (case side7 => exact (Kd.R_reads' HO1023.out).2.1); (case side8 => refine (Kd.R_reads' (e := 84) (base := w.heap.size) (ok := fun k_ => (True ∧ some k_ ≠ (.slice Ao36 t1008.length co36 : Value).ownBlock)) (n := t1025.length) (c := co46) ?_).2.2; exact (by (with_reducible repeat (first | apply Kd.R_alloc | apply Kd.R_drewN | apply Kd.R_drew)); exact (Kd.R_mono (Kd.R_far (p := ⟨gb1030, 6, none⟩) (Kd.R_far (p := ⟨gb1030, 5, none⟩) (Kd.R_far (p := ⟨gb1030, 4, none⟩) (Kd.R_far (p := ⟨gb1030, 3, none⟩) (Kd.R_far (p := ⟨gb1030, 2, none⟩) (Kd.R_far (p := ⟨gb1030, 1, none⟩) (Kd.R_far (p := ⟨gb1030, 0, none⟩) (Kd.R_types HO1027.out BK1030.out (by decide)) (fun _ hk => hk.2) (.string t1017)) (fun _ hk => hk.2) (.slice Ao44 t1018.length co44)) (fun _ hk => hk.2) (.slice Ao45 t1021.length co45)) (fun _ hk => hk.2) (.int .i64 t1024)) (fun _ hk => hk.2) (.slice Ao46 t1025.length co46)) (fun _ hk => hk.2) (.string t1028)) (fun _ hk => hk.2) (.int .i64 t1029)) (fun _ h_ => h_.1)))); (case side9 => exact (Kd.R_reads' HO1027.out).2.1); rintro e w48 ⟨rfl, hb⟩; refine ⟨_, rfl, ?_⟩; have n0_ := am (Kd.R_below (by (with_reducible repeat (first | apply Kd.R_alloc | apply Kd.R_drewN | apply Kd.R_drew)); exact (Kd.R_mono (Kd.R_far (p := ⟨gb1030, 6, none⟩) (Kd.R_far (p := ⟨gb1030, 5, none⟩) (Kd.R_far (p := ⟨gb1030, 4, none⟩) (Kd.R_far (p := ⟨gb1030, 3, none⟩) (Kd.R_far (p := ⟨gb1030, 2, none⟩) (Kd.R_far (p := ⟨gb1030, 1, none⟩) (Kd.R_far (p := ⟨gb1030, 0, none⟩) (Kd.R_types HO999.out BK1030.out (by decide)) (fun _ hk => hk.2) (.string t1017)) (fun _ hk => hk.2) (.slice Ao44 t1018.length co44)) (fun _ hk => hk.2) (.slice Ao45 t1021.length co45)) (fun _ hk => hk.2) (.int .i64 t1024)) (fun _ hk => hk.2) (.slice Ao46 t1025.length co46)) (fun _ hk => hk.2) (.string t1028)) (fun _ hk => hk.2) (.int .i64 t1029)) (fun _ h_ => h_.1))) hb); have n1_ := am (Kd.R_below (by (with_reducible repeat (first | apply Kd.R_alloc | apply Kd.R_drewN | apply Kd.R_drew)); exact (Kd.R_mono (Kd.R_far (p := ⟨gb1030, 6, none⟩) (Kd.R_far (p := ⟨gb1030, 5, none⟩) (Kd.R_far (p := ⟨gb1030, 4, none⟩) (Kd.R_far (p := ⟨gb1030, 3, none⟩) (Kd.R_far (p := ⟨gb1030, 2, none⟩) (Kd.R_far (p := ⟨gb1030, 1, none⟩) (Kd.R_far (p := ⟨gb1030, 0, none⟩) (Kd.R_types HO1003.out BK1030.out (by decide)) (fun _ hk => hk.2) (.string t1017)) (fun _ hk => hk.2) (.slice Ao44 t1018.length co44)) (fun _ hk => hk.2) (.slice Ao45 t1021.length co45)) (fun _ hk => hk.2) (.int .i64 t1024)) (fun _ hk => hk.2) (.slice Ao46 t1025.length co46)) (fun _ hk => hk.2) (.string t1028)) (fun _ hk => hk.2) (.int .i64 t1029)) (fun _ h_ => h_.1))) hb); have n2_ := am (Kd.R_below (by (with_reducible repeat (first | apply Kd.R_alloc | apply Kd.R_drewN | apply Kd.R_drew)); exact (Kd.R_mono (Kd.R_far (p := ⟨gb1030, 6, none⟩) (Kd.R_far (p := ⟨gb1030, 5, none⟩) (Kd.R_far (p := ⟨gb1030, 4, none⟩) (Kd.R_far (p := ⟨gb1030, 3, none⟩) (Kd.R_far (p := ⟨gb1030, 2, none⟩) (Kd.R_far (p := ⟨gb1030, 1, none⟩) (Kd.R_far (p := ⟨gb1030, 0, none⟩) (Kd.R_types HO1006.out BK1030.out (by decide)) (fun _ hk => hk.2) (.string t1017)) (fun _ hk => hk.2) (.slice Ao44 t1018.length co44)) (fun _ hk => hk.2) (.slice Ao45 t1021.length co45)) (fun _ hk => hk.2) (.int .i64 t1024)) (fun _ hk => hk.2) (.slice Ao46 t1025.length co46)) (fun _ hk => hk.2) (.string t1028)) (fun _ hk => hk.2) (.int .i64 t1029)) (fun _ h_ => h_.1))) hb); have n3_ := am (Kd.R_below (by (with_reducible repeat (first | apply Kd.R_alloc | apply Kd.R_drewN | apply Kd.R_drew)); exact (Kd.R_mono (Kd.R_far (p := ⟨gb1030, 6, none⟩) (Kd.R_far (p := ⟨gb1030, 5, none⟩) (Kd.R_far (p := ⟨gb1030, 4, none⟩) (Kd.R_far (p := ⟨gb1030, 3, none⟩) (Kd.R_far (p := ⟨gb1030, 2, none⟩) (Kd.R_far (p := ⟨gb1030, 1, none⟩) (Kd.R_far (p := ⟨gb1030, 0, none⟩) (Kd.R_types HO1010.out BK1030.out (by decide)) (fun _ hk => hk.2) (.string t1017)) (fun _ hk => hk.2) (.slice Ao44 t1018.length co44)) (fun _ hk => hk.2) (.slice Ao45 t1021.length co45)) (fun _ hk => hk.2) (.int .i64 t1024)) (fun _ hk => hk.2) (.slice Ao46 t1025.length co46)) (fun _ hk => hk.2) (.string t1028)) (fun _ hk => hk.2) (.int .i64 t1029)) (fun _ h_ => h_.1))) hb); have n4_ := am (Kd.R_below (by (with_reducible repeat (first | apply Kd.R_alloc | apply Kd.R_drewN | apply Kd.R_drew)); exact (Kd.R_mono (Kd.R_far (p := ⟨gb1030, 6, none⟩) (Kd.R_far (p := ⟨gb1030, 5, none⟩) (Kd.R_far (p := ⟨gb1030, 4, none⟩) (Kd.R_far (p := ⟨gb1030, 3, none⟩) (Kd.R_far (p := ⟨gb1030, 2, none⟩) (Kd.R_far (p := ⟨gb1030, 1, none⟩) (Kd.R_far (p := ⟨gb1030, 0, none⟩) (Kd.R_types HO1016.out BK1030.out (by decide)) (fun _ hk => hk.2) (.string t1017)) (fun _ hk => hk.2) (.slice Ao44 t1018.length co44)) (fun _ hk => hk.2) (.slice Ao45 t1021.length co45)) (fun _ hk => hk.2) (.int .i64 t1024)) (fun _ hk => hk.2) (.slice Ao46 t1025.length co46)) (fun _ hk => hk.2) (.string t1028)) (fun _ hk => hk.2) (.int .i64 t1029)) (fun _ h_ => h_.1))) hb); have n5_ := am (Kd.R_below (by (with_reducible repeat (first | apply Kd.R_alloc | apply Kd.R_drewN | apply Kd.R_drew)); exact (Kd.R_mono (Kd.R_far (p := ⟨gb1030, 6, none⟩) (Kd.R_far (p := ⟨gb1030, 5, none⟩) (Kd.R_far (p := ⟨gb1030, 4, none⟩) (Kd.R_far (p := ⟨gb1030, 3, none⟩) (Kd.R_far (p := ⟨gb1030, 2, none⟩) (Kd.R_far (p := ⟨gb1030, 1, none⟩) (Kd.R_far (p := ⟨gb1030, 0, none⟩) (Kd.R_types HO1020.out BK1030.out (by decide)) (fun _ hk => hk.2) (.string t1017)) (fun _ hk => hk.2) (.slice Ao44 t1018.length co44)) (fun _ hk => hk.2) (.slice Ao45 t1021.length co45)) (fun _ hk => hk.2) (.int .i64 t1024)) (fun _ hk => hk.2) (.slice Ao46 t1025.length co46)) (fun _ hk => hk.2) (.string t1028)) (fun _ hk => hk.2) (.int .i64 t1029)) (fun _ h_ => h_.1))) hb); have n6_ := am (Kd.R_below (by (with_reducible repeat (first | apply Kd.R_alloc | apply Kd.R_drewN | apply Kd.R_drew)); exact (Kd.R_mono (Kd.R_far (p := ⟨gb1030, 6, none⟩) (Kd.R_far (p := ⟨gb1030, 5, none⟩) (Kd.R_far (p := ⟨gb1030, 4, none⟩) (Kd.R_far (p := ⟨gb1030, 3, none⟩) (Kd.R_far (p := ⟨gb1030, 2, none⟩) (Kd.R_far (p := ⟨gb1030, 1, none⟩) (Kd.R_far (p := ⟨gb1030, 0, none⟩) (Kd.R_types HO1023.out BK1030.out (by decide)) (fun _ hk => hk.2) (.string t1017)) (fun _ hk => hk.2) (.slice Ao44 t1018.length co44)) (fun _ hk => hk.2) (.slice Ao45 t1021.length co45)) (fun _ hk => hk.2) (.int .i64 t1024)) (fun _ hk => hk.2) (.slice Ao46 t1025.length co46)) (fun _ hk => hk.2) (.string t1028)) (fun _ hk => hk.2) (.int .i64 t1029)) (fun _ h_ => h_.1))) hb); have n7_ := am (Kd.R_below (by (with_reducible repeat (first | apply Kd.R_alloc | apply Kd.R_drewN | apply Kd.R_drew)); exact (Kd.R_mono (Kd.R_far (p := ⟨gb1030, 6, none⟩) (Kd.R_far (p := ⟨gb1030, 5, none⟩) (Kd.R_far (p := ⟨gb1030, 4, none⟩) (Kd.R_far (p := ⟨gb1030, 3, none⟩) (Kd.R_far (p := ⟨gb1030, 2, none⟩) (Kd.R_far (p := ⟨gb1030, 1, none⟩) (Kd.R_far (p := ⟨gb1030, 0, none⟩) (Kd.R_types HO1027.out BK1030.out (by decide)) (fun _ hk => hk.2) (.string t1017)) (fun _ hk => hk.2) (.slice Ao44 t1018.length co44)) (fun _ hk => hk.2) (.slice Ao45 t1021.length co45)) (fun _ hk => hk.2) (.int .i64 t1024)) (fun _ hk => hk.2) (.slice Ao46 t1025.length co46)) (fun _ hk => hk.2) (.string t1028)) (fun _ hk => hk.2) (.int .i64 t1029)) (fun _ h_ => h_.1))) hb); have n8_ := kg1 BK994 NB994_1030 hb; have n9_ := am (blk_below (g := gb1030) (o := .cells #[.string t1017, .slice Ao44 t1018.length co44, .slice Ao45 t1021.length co45, .int .i64 t1024, .slice Ao46 t1025.length co46, .string t1028, .int .i64 t1029] 55 (0, 0)) (by (with_reducible repeat (first | refine blk_drewN ?_ _ | refine blk_drew ?_ | refine blk_alloc ?_ _)); refine blk_put (cs := #[.string t1017, .slice Ao44 t1018.length co44, .slice Ao45 t1021.length co45, .int .i64 t1024, .slice Ao46 t1025.length co46, .string t1028, .int .i64 0]) ?_ 6 _ rfl; (with_reducible repeat (first | refine blk_drewN ?_ _ | refine blk_drew ?_ | refine blk_alloc ?_ _)); refine blk_put (cs := #[.string t1017, .slice Ao44 t1018.length co44, .slice Ao45 t1021.length co45, .int .i64 t1024, .slice Ao46 t1025.length co46, .string (⟨#[]⟩ : ByteArray), .int .i64 0]) ?_ 5 _ rfl; (with_reducible repeat (first | refine blk_drewN ?_ _ | refine blk_drew ?_ | refine blk_alloc ?_ _)); refine blk_put (cs := #[.string t1017, .slice Ao44 t1018.length co44, .slice Ao45 t1021.length co45, .int .i64 t1024, .slice none 0 0, .string (⟨#[]⟩ : ByteArray), .int .i64 0]) ?_ 4 _ rfl; (with_reducible repeat (first | refine blk_drewN ?_ _ | refine blk_drew ?_ | refine blk_alloc ?_ _)); refine blk_put (cs := #[.string t1017, .slice Ao44 t1018.length co44, .slice Ao45 t1021.length co45, .int .i64 0, .slice none 0 0, .string (⟨#[]⟩ : ByteArray), .int .i64 0]) ?_ 3 _ rfl; (with_reducible repeat (first | refine blk_drewN ?_ _ | refine blk_drew ?_ | refine blk_alloc ?_ _)); refine blk_put (cs := #[.string t1017, .slice Ao44 t1018.length co44, .slice none 0 0, .int .i64 0, .slice none 0 0, .string (⟨#[]⟩ : ByteArray), .int .i64 0]) ?_ 2 _ rfl; (with_reducible repeat (first | refine blk_drewN ?_ _ | refine blk_drew ?_ | refine blk_alloc ?_ _)); refine blk_put (cs := #[.string t1017, .slice none 0 0, .slice none 0 0, .int .i64 0, .slice none 0 0, .string (⟨#[]⟩ : ByteArray), .int .i64 0]) ?_ 1 _ rfl; (with_reducible repeat (first | refine blk_drewN ?_ _ | refine blk_drew ?_ | refine blk_alloc ?_ _)); refine blk_put (cs := #[.string (⟨#[]⟩ : ByteArray), .slice none 0 0, .slice none 0 0, .int .i64 0, .slice none 0 0, .string (⟨#[]⟩ : ByteArray), .int .i64 0]) ?_ 0 _ rfl; (with_reducible repeat (first | refine blk_drewN ?_ _ | refine blk_drew ?_ | refine blk_alloc ?_ _)); exact BK1030.out) hb); have n10_ := am (below_step bl hb); clear HO999; clear HO1003; clear HO1006; clear HO1010; clear HO1016; clear HO1020; clear HO1023; clear HO1027; clear BK994; clear BK1030; clear HB; have HO999 := n0_; have HO1003 := n1_; have HO1006 := n2_; have HO1010 := n3_; have HO1016 := n4_; have HO1020 := n5_; have HO1023 := n6_; have HO1027 := n7_; have BK994 := n8_; have BK1030 := n9_; have HB := n10_; clear n0_ n1_ n2_ n3_ n4_ n5_ n6_ n7_ n8_ n9_ n10_; clear hb) | (refine gl 37 Tryd.func34 #[.slice A0 l0.length c0] ?_; (with_reducible refine (laws_toBanS.calls k _ _ l0 t1032 _ ?side1 ?side2 A20.out).mono ?_); (case side1 => exact cb HR0); (case side2 => exact HC0.out); rintro e w49 ⟨v1033, rfl, ho0, hb⟩; refine ⟨_, rfl, ?_⟩; replace HO1003 := kr HO1003 hb; replace HO1006 := kr HO1006 hb; replace HO1010 := kr HO1010 hb; replace HO1020 := kr HO1020 hb; replace HO1023 := kr HO1023 hb; replace HO1027 := kr HO1027 hb; have HO1034 := am (Kd.R_lower (Kd.R_new' (Kd.R_new' ho0 (Kd.R_lt (ro HO999))) (Kd.R_lt (ro HO1016))) (below_size bl)); replace HO999 := am (Kd.R_elder' (ro HO999) (Kd.R_base ho0) hb); replace HO1016 := am (Kd.R_elder' (ro HO1016) (Kd.R_base ho0) hb); replace BK994 := kb BK994 hb; replace BK1030 := kb BK1030 hb; replace HB := am (below_step bl hb); clear hb ho0; obtain ⟨Ao50, co50, eo50⟩ := Kd.R_slice HO1034.out; subst eo50) | (refine gl 38 Tryd.func36 #[.slice Ao47 t1014.length co47, .slice Ao50 t1032.length co50] ?_; (with_reducible refine (laws_eqBanS.calls k _ _ t1014 _ _ t1032 true _ ?side1 ?side2 ?side3 ?side4 A21.out).mono ?_); (case side1 => exact rc HO1016); (case side2 => exact (Kd.R_reads' HO1016.out).2.1); (case side3 => exact rc HO1034); (case side4 => exact (Kd.R_reads' HO1034.out).2.1); rintro e w51 ⟨rfl, hb⟩; refine ⟨_, rfl, ?_⟩; replace HO999 := kr HO999 hb; replace HO1003 := kr HO1003 hb; replace HO1006 := kr HO1006 hb; replace HO1010 := kr HO1010 hb; replace HO1016 := kr HO1016 hb; replace HO1020 := kr HO1020 hb; replace HO1023 := kr HO1023 hb; replace HO1027 := kr HO1027 hb; replace HO1034 := kr HO1034 hb; replace BK994 := kb BK994 hb; replace BK1030 := kb BK1030 hb; replace HB := am (below_step bl hb); clear hb))
 replace HO999 := am (Kd.R_drew HO999.out)
 replace HO1003 := am (Kd.R_drew HO1003.out)
 replace HO1006 := am (Kd.R_drew HO1006.out)
 replace HO1010 := am (Kd.R_drew HO1010.out)
 replace HO1016 := am (Kd.R_drew HO1016.out)
 replace HO1020 := am (Kd.R_drew HO1020.out)
 replace HO1023 := am (Kd.R_drew HO1023.out)
 replace HO1027 := am (Kd.R_drew HO1027.out)
 replace HO1034 := am (Kd.R_drew HO1034.out)
 replace BK994 := am (blk_drew BK994.out)
 replace BK1030 := am (blk_drew BK1030.out)
 replace HB := am (below_drew1 HB.out)
 refine start_ (n := 5) (S := fun w' => w'.cell? ⟨gb1030, 0, none⟩ = some (.string t1017) ∧ w'.cell? ⟨gb1030, 1, none⟩ = some (.slice Ao44 t1018.length co44) ∧ w'.cell? ⟨gb1030, 2, none⟩ = some (.slice Ao45 t1021.length co45) ∧ w'.cell? ⟨gb1030, 3, none⟩ = some (.int .i64 t1024) ∧ w'.cell? ⟨gb1030, 4, none⟩ = some (.slice Ao46 t1025.length co46) ∧ w'.cell? ⟨gb1030, 5, none⟩ = some (.string t1028) ∧ w'.cell? ⟨gb1030, 6, none⟩ = some (.int .i64 t1029) ∧ w'.cell? ⟨gb994, 0, none⟩ = some (.string a1_0) ∧ w'.cell? ⟨gb994, 1, none⟩ = some (.slice A1_1 l1_1.length c1_1) ∧ w'.cell? ⟨gb994, 2, none⟩ = some (.slice A1_2 l1_2.length c1_2) ∧ w'.cell? ⟨gb994, 3, none⟩ = some (.int .i64 a1_3) ∧ w'.cell? ⟨gb994, 4, none⟩ = some (.slice A1_4 l1_4.length c1_4) ∧ w'.cell? ⟨gb994, 5, none⟩ = some (.string a1_5) ∧ w'.cell? ⟨gb994, 6, none⟩ = some (.int .i64 a1_6)) (ds := []) ⟨br true [0, 5]⟩ (by kernel_rfl) rfl (by kernel_rfl) ⟨bc BK1030, bc BK1030, bc BK1030, bc BK1030, bc BK1030, bc BK1030, bc BK1030, bc BK994, bc BK994, bc BK994, bc BK994, bc BK994, bc BK994, bc BK994⟩ (fun hHeld => ?_)
 generalize w51.drew = w52 at HO999 HO1003 HO1006 HO1010 HO1016 HO1020 HO1023 HO1027 HO1034 BK994 BK1030 HB hHeld ⊢
 refine tk 0 40 [1, 4] ?_
 refine tk 1 41 [2, 3] ?_
 refine og 2 42 [3, 2] Tryd.func29 #[.agg #[.string a1_0, .slice A1_1 l1_1.length c1_1, .slice A1_2 l1_2.length c1_2, .int .i64 a1_3, .slice A1_4 l1_4.length c1_4, .string a1_5, .int .i64 a1_6]] (fun K hK => ?_)
 with_reducible refine (laws_toObj.calls k a1_0 _ _ l1_1 _ _ l1_2 a1_3 _ _ l1_4 a1_5 a1_6 t1036 t1037 t1040 t1043 t1044 t1047 t1048 _ ?side1 ?side2 ?side3 ?side4 ?side5 ?side6 A23.out).mono ?_
 (case side1 => exact cb HR1_1)
 (case side2 => exact HC1_1.out)
 (case side3 => exact cb HR1_2)
 (case side4 => exact HC1_2.out)
 (case side5 => exact cb HR1_4)
 (case side6 => exact HC1_4.out)
 rintro e w53 ⟨v1038, v1041, v1045, rfl, ho0, ho1, ho2, hb⟩
 refine ⟨_, rfl, ?_⟩
 replace HO999 := kr HO999 hb
 replace HO1016 := kr HO1016 hb
 replace HO1034 := kr HO1034 hb
 have HO1039 := am (Kd.R_lower (Kd.R_new' (Kd.R_new' (Kd.R_new' (Kd.R_new' ho0 (Kd.R_lt (ro HO1003))) (Kd.R_lt (ro HO1006))) (Kd.R_lt (ro HO1020))) (Kd.R_lt (ro HO1023))) (below_size bl))
 have HO1042 := am (Kd.R_lower (Kd.R_new' (Kd.R_new' (Kd.R_new' (Kd.R_new' ho1 (Kd.R_lt (ro HO1003))) (Kd.R_lt (ro HO1006))) (Kd.R_lt (ro HO1020))) (Kd.R_lt (ro HO1023))) (below_size bl))
 replace HO1003 := am (Kd.R_mono (Kd.R_told (Kd.R_told (Kd.R_old (ro HO1003) hb) (Kd.R_base ho0)) (Kd.R_base ho1)) (fun _ h_ => h_.1))
 replace HO1006 := am (Kd.R_mono (Kd.R_told (Kd.R_told (Kd.R_old (ro HO1006) hb) (Kd.R_base ho0)) (Kd.R_base ho1)) (fun _ h_ => h_.1))
 replace HO1020 := am (Kd.R_mono (Kd.R_told (Kd.R_told (Kd.R_old (ro HO1020) hb) (Kd.R_base ho0)) (Kd.R_base ho1)) (fun _ h_ => h_.1))
 replace HO1023 := am (Kd.R_mono (Kd.R_told (Kd.R_told (Kd.R_old (ro HO1023) hb) (Kd.R_base ho0)) (Kd.R_base ho1)) (fun _ h_ => h_.1))
 have HO1046 := am (Kd.R_lower (Kd.R_new' (Kd.R_new' ho2 (Kd.R_lt (ro HO1010))) (Kd.R_lt (ro HO1027))) (below_size bl))
 replace HO1010 := am (Kd.R_elder' (ro HO1010) (Kd.R_base ho2) hb)
 replace HO1027 := am (Kd.R_elder' (ro HO1027) (Kd.R_base ho2) hb)
 replace BK994 := kb BK994 hb
 replace BK1030 := kb BK1030 hb
 replace HB := am (below_step bl hb)
 clear hb ho0 ho1 ho2
 obtain ⟨Ao54, co54, eo54⟩ := Kd.R_slice HO1039.out
 (first | subst eo54 | (injection eo54 with f1_ f2_ f3_; have f4_ := f1_.symm; have f5_ := f3_.symm; clear f1_ f2_ f3_; subst f4_; subst f5_))
 obtain ⟨Ao55, co55, eo55⟩ := Kd.R_slice HO1042.out
 (first | subst eo55 | (injection eo55 with f1_ f2_ f3_; have f4_ := f1_.symm; have f5_ := f3_.symm; clear f1_ f2_ f3_; subst f4_; subst f5_))
 obtain ⟨Ao56, co56, eo56⟩ := Kd.R_slice HO1046.out
 (first | subst eo56 | (injection eo56 with f1_ f2_ f3_; have f4_ := f1_.symm; have f5_ := f3_.symm; clear f1_ f2_ f3_; subst f4_; subst f5_))
 refine hK.out _ _ ⟨bc BK1030, bc BK1030, bc BK1030, bc BK1030, bc BK1030, bc BK1030, bc BK1030, bc BK994, bc BK994, bc BK994, bc BK994, bc BK994, bc BK994, bc BK994⟩ (fun hHeld => ?_)
 clear hK K
 refine nm 42 ?_
 refine og 3 43 [4, 1] Tryd.func31 #[.agg #[.string t1017, .slice Ao44 t1018.length co44, .slice Ao45 t1021.length co45, .int .i64 t1024, .slice Ao46 t1025.length co46, .string t1028, .int .i64 t1029], .agg #[.string t1036, .slice Ao54 t1037.length co54, .slice Ao55 t1040.length co55, .int .i64 t1043, .slice Ao56 t1044.length co56, .string t1047, .int .i64 t1048]] (fun K hK => ?_)
 with_reducible refine (laws_eqObj.calls k t1017 _ _ t1018 _ _ t1021 t1024 _ _ t1025 t1028 t1029 t1036 _ _ t1037 _ _ t1040 t1043 _ _ t1044 t1047 t1048 true _ ?side1 ?side2 ?side3 ?side4 ?side5 ?side6 ?side7 ?side8 ?side9 ?side10 ?side11 ?side12 A24.out).mono ?_
 (case side1 => exact rc HO1020)
 (case side2 => exact (Kd.R_reads' HO1020.out).2.1)
 (case side3 => exact rc HO1023)
 (case side4 => exact (Kd.R_reads' HO1023.out).2.1)
 (case side5 => exact rc HO1027)
 (case side6 => exact (Kd.R_reads' HO1027.out).2.1)
 (case side7 => exact rc HO1039)
 (case side8 => exact (Kd.R_reads' HO1039.out).2.1)
 (case side9 => exact rc HO1042)
 (case side10 => exact (Kd.R_reads' HO1042.out).2.1)
 (case side11 => exact rc HO1046)
 (case side12 => exact (Kd.R_reads' HO1046.out).2.1)
 rintro e w57 ⟨rfl, hb⟩
 refine ⟨_, rfl, ?_⟩
 replace HO999 := kr HO999 hb
 replace HO1003 := kr HO1003 hb
 replace HO1006 := kr HO1006 hb
 replace HO1010 := kr HO1010 hb
 replace HO1016 := kr HO1016 hb
 replace HO1020 := kr HO1020 hb
 replace HO1023 := kr HO1023 hb
 replace HO1027 := kr HO1027 hb
 replace HO1034 := kr HO1034 hb
 replace HO1039 := kr HO1039 hb
 replace HO1042 := kr HO1042 hb
 replace HO1046 := kr HO1046 hb
 replace BK994 := kb BK994 hb
 replace BK1030 := kb BK1030 hb
 replace HB := am (below_step bl hb)
 clear hb
 refine hK.out _ _ ⟨bc BK1030, bc BK1030, bc BK1030, bc BK1030, bc BK1030, bc BK1030, bc BK1030, bc BK994, bc BK994, bc BK994, bc BK994, bc BK994, bc BK994, bc BK994⟩ (fun hHeld => ?_)
 clear hK K
 refine nm 43 ?_
 refine pu 4 44 [5] ?_
 refine done_ (by kernel_rfl) ?_
 try go_wp2
 go_ret
 exact ⟨rf, bl⟩

end Go.Proofs.YtkgdcfaogdmcgaaDoor.All
