-- Written by a program of this session (wip/tools/hprint.py) out of the translation. Lean checks it.
import Derived.Test.YtjlpjbkpmmpojaaGreatDoorAllx0
import Derived.Test.YtjlpjbkpmmpojaaGreatDoorAllx33
namespace Go.Proofs.YtjlpjbkpmmpojaaGreatDoor.All
open Go.RowKit Go.Proofs.YtjlpjbkpmmpojaaGreatDoorW.PrintWords Go.Proofs.YtjlpjbkpmmpojaaGreatDoorW.PrintLast Go.Proofs.YtjlpjbkpmmpojaaGreatDoorW.PrintMore
attribute [local go_sem] max2_int min2_int max_two min_two max_three min_three max_four min_four   -- for this text's walks alone
set_option linter.unusedVariables false
set_option linter.unusedSimpArgs false

/-! ### laws_heldObj: function 41 -/
def laws_heldObj.f (k : Nat) (a0_0 : ByteArray) (l0_1 : List ByteArray) (l0_2 : List ByteArray) (a0_3 : Int) (l0_4 : List (S116)) (a0_5 : ByteArray) (a0_6 : Int) (a1 : Int) : Option (Int) := (laws_heldStringS.f k l0_1 a1).bind fun t1505 => (if t1505 < 0 then (some (-1)) else ((laws_heldStringS.f k l0_2 t1505).bind fun t1506 => (if t1506 < 0 then (some (-1)) else ((laws_heldResp.f k a0_3 l0_4 a0_5 t1506).bind fun t1507 => (if t1507 < 0 then (some (-1)) else (some t1507))))))
theorem laws_heldObj.mono : ∀ a0 a1 a2 a3 a4 a5 a6 a7 k, LeO (laws_heldObj.f k a0 a1 a2 a3 a4 a5 a6 a7) (laws_heldObj.f (k + 1) a0 a1 a2 a3 a4 a5 a6 a7) := by
 intro a0 a1 a2 a3 a4 a5 a6 a7 k
 unfold laws_heldObj.f
 have m0 := @laws_heldResp.mono
 have m1 := @laws_heldStringS.mono
 exact mo
set_option maxHeartbeats 8000000 in
set_option maxRecDepth 100000 in
theorem laws_heldObj.calls (k : Nat) (a0_0 : ByteArray) (A0_1 : Option Addr) (c0_1 : Nat) (l0_1 : List ByteArray) (A0_2 : Option Addr) (c0_2 : Nat) (l0_2 : List ByteArray) (a0_3 : Int) (A0_4 : Option Addr) (c0_4 : Nat) (l0_4 : List (S116)) (a0_5 : ByteArray) (a0_6 : Int) (a1 : Int) (r : Int) (w : World) (hr0_1 : Kd.C Kd.string w A0_1 l0_1.length l0_1) (hc0_1 : l0_1.length ≤ c0_1) (hr0_2 : Kd.C Kd.string w A0_2 l0_2.length l0_2) (hc0_2 : l0_2.length ≤ c0_2) (hr0_4 : Kd.C k116 w A0_4 l0_4.length l0_4) (hc0_4 : l0_4.length ≤ c0_4) (h : laws_heldObj.f k a0_0 l0_1 l0_2 a0_3 l0_4 a0_5 a0_6 a1 = some r) :
  Calls Tryz.prog 41 #[.agg #[.string a0_0, .slice A0_1 l0_1.length c0_1, .slice A0_2 l0_2.length c0_2, .int .i64 a0_3, .slice A0_4 l0_4.length c0_4, .string a0_5, .int .i64 a0_6], .int .i64 a1] w fun e w' => e = .returned (.int .i64 r) ∧ Below w.heap.size w w' := by
 have hu31 := Tryz.underlying31
 have hu29 := Tryz.underlying29
 have HR0_1 := am hr0_1
 have HC0_1 := am hc0_1
 clear hr0_1 hc0_1
 have HR0_2 := am hr0_2
 have HC0_2 := am hc0_2
 clear hr0_2 hc0_2
 have HR0_4 := am hr0_4
 have HC0_4 := am hc0_4
 clear hr0_4 hc0_4
 have HB := am (Below.refl w.heap.size w)
 unfold laws_heldObj.f at h
 have H := h
 clear h
 revert H
 refine ok1 fun t1505 A3 H => ?_
 have HH4 := am H
 clear H
 go_enter Tryz.func41, Tryz.ntmps41
 go_upto_if 10 with ((with_reducible refine gw ?_); first | (refine bx 2 #[.string a0_0, .slice A0_1 l0_1.length c0_1, .slice A0_2 l0_2.length c0_2, .int .i64 a0_3, .slice A0_4 l0_4.length c0_4, .string a0_5, .int .i64 a0_6] 31 ?_; intro gb1504 hg w5 hbox hb; have BK1504 := am (hbox); have GW1504 := am (sz hg : w.heap.size ≤ gb1504); have GE1504 := am (sz hg : w.heap.size ≤ gb1504); replace HB := am (below_step bl hb); clear hb hbox hg; obtain ⟨z6_0, y6_0, z6_1, y6_1, z6_2, y6_2, z6_3, y6_3, z6_4, y6_4, z6_5, y6_5, z6_6, y6_6⟩ := cl7 BK1504) | (refine gl 8 Tryz.func114 #[.slice A0_1 l0_1.length c0_1, .int .i64 a1] ?_; (with_reducible refine (laws_heldStringS.calls k _ _ l0_1 a1 t1505 _ ?side1 ?side2 A3.out).mono ?_); (case side1 => exact cb HR0_1); (case side2 => exact HC0_1.out); rintro e w7 ⟨rfl, hb⟩; refine ⟨_, rfl, ?_⟩; replace BK1504 := kb BK1504 hb; replace HB := am (below_step bl hb); clear hb))
 have H := HH4.out
 clear HH4
 by_cases c8 : t1505 < 0
 ·rw [if_pos c8] at H
  have c8b0 := decide_eq_true c8
  clear c8
  (first | rw [c8b0] | (simp only [i64_w, i32_w]; rw [c8b0]) | skip)
  obtain rfl := Option.some.inj H
  go_wp2
  go_ret
  exact ⟨rf, bl⟩
 rw [if_neg c8] at H
 have c8b0 := decide_eq_false c8
 clear c8
 (first | rw [c8b0] | (simp only [i64_w, i32_w]; rw [c8b0]) | skip)
 revert H
 refine ok1 fun t1506 A9 H => ?_
 have HH10 := am H
 clear H
 obtain ⟨z11_0, y11_0, z11_1, y11_1, z11_2, y11_2, z11_3, y11_3, z11_4, y11_4, z11_5, y11_5, z11_6, y11_6⟩ := cl7 BK1504
 go_upto_if 16 with ((with_reducible refine gw ?_); first | (refine gl 14 Tryz.func114 #[.slice A0_2 l0_2.length c0_2, .int .i64 t1505] ?_; (with_reducible refine (laws_heldStringS.calls k _ _ l0_2 t1505 t1506 _ ?side1 ?side2 A9.out).mono ?_); (case side1 => exact cb HR0_2); (case side2 => exact HC0_2.out); rintro e w12 ⟨rfl, hb⟩; refine ⟨_, rfl, ?_⟩; replace BK1504 := kb BK1504 hb; replace HB := am (below_step bl hb); clear hb))
 have H := HH10.out
 clear HH10
 by_cases c13 : t1506 < 0
 ·rw [if_pos c13] at H
  have c13b0 := decide_eq_true c13
  clear c13
  (first | rw [c13b0] | (simp only [i64_w, i32_w]; rw [c13b0]) | skip)
  obtain rfl := Option.some.inj H
  go_wp2
  go_ret
  exact ⟨rf, bl⟩
 rw [if_neg c13] at H
 have c13b0 := decide_eq_false c13
 clear c13
 (first | rw [c13b0] | (simp only [i64_w, i32_w]; rw [c13b0]) | skip)
 revert H
 refine ok1 fun t1507 A14 H => ?_
 by_cases c15 : t1507 < 0
 ·rw [if_pos c15] at H
  have c15b0 := decide_eq_true c15
  clear c15
  obtain rfl := Option.some.inj H
  obtain ⟨z16_0, y16_0, z16_1, y16_1, z16_2, y16_2, z16_3, y16_3, z16_4, y16_4, z16_5, y16_5, z16_6, y16_6⟩ := cl7 BK1504
  go_wp2_with ((with_reducible refine gw ?_); first | (refine gl 20 Tryz.func115 #[.agg #[.int .i64 a0_3, .slice A0_4 l0_4.length c0_4, .string a0_5], .int .i64 t1506] ?_; (with_reducible refine (laws_heldResp.calls k a0_3 _ _ l0_4 a0_5 t1506 t1507 _ ?side1 ?side2 A14.out).mono ?_); (case side1 => exact cb HR0_4); (case side2 => exact HC0_4.out); rintro e w17 ⟨rfl, hb⟩; refine ⟨_, rfl, ?_⟩; replace BK1504 := kb BK1504 hb; replace HB := am (below_step bl hb); clear hb))
  go_ret
  exact ⟨rf, bl⟩
 rw [if_neg c15] at H
 have c15b0 := decide_eq_false c15
 clear c15
 obtain rfl := Option.some.inj H
 obtain ⟨z18_0, y18_0, z18_1, y18_1, z18_2, y18_2, z18_3, y18_3, z18_4, y18_4, z18_5, y18_5, z18_6, y18_6⟩ := cl7 BK1504
 go_wp2_with ((with_reducible refine gw ?_); first | (refine gl 20 Tryz.func115 #[.agg #[.int .i64 a0_3, .slice A0_4 l0_4.length c0_4, .string a0_5], .int .i64 t1506] ?_; (with_reducible refine (laws_heldResp.calls k a0_3 _ _ l0_4 a0_5 t1506 t1507 _ ?side1 ?side2 A14.out).mono ?_); (case side1 => exact cb HR0_4); (case side2 => exact HC0_4.out); rintro e w19 ⟨rfl, hb⟩; refine ⟨_, rfl, ?_⟩; replace BK1504 := kb BK1504 hb; replace HB := am (below_step bl hb); clear hb))
 go_ret
 exact ⟨rf, bl⟩

end Go.Proofs.YtjlpjbkpmmpojaaGreatDoor.All
