-- Written by a program of this session (wip/tools/hprint.py) out of the translation. Lean checks it.
import Derived.Test.YtkgdcfaogdmcgaaDoorAllx0
import Derived.Test.YtkgdcfaogdmcgaaDoorAllx1
import Derived.Test.YtkgdcfaogdmcgaaDoorAllx3
import Derived.Test.YtkgdcfaogdmcgaaDoorAllx4
import Derived.Test.YtkgdcfaogdmcgaaDoorAllx16
import Derived.Test.YtkgdcfaogdmcgaaDoorAllx24
namespace Go.Proofs.YtkgdcfaogdmcgaaDoor.All
open Go.RowKit Go.Proofs.YtkgdcfaogdmcgaaDoorW.PrintWords Go.Proofs.YtkgdcfaogdmcgaaDoorW.PrintLast Go.Proofs.YtkgdcfaogdmcgaaDoorW.PrintMore
attribute [local go_sem] max2_int min2_int max_two min_two max_three min_three max_four min_four   -- for this text's walks alone
set_option linter.unusedVariables false
set_option linter.unusedSimpArgs false

/-! ### laws_szStringS: function 68 -/
def laws_szStringS.l0 : Nat → List ByteArray → Int → Int → Option (Int)
 | 0, _, _, _ => none
 | k + 1, x0, x1, x5 => if x5 < (x0.length : Int) then (if 0 ≤ x5 then (if (wrap64 (x1 - ((rdOf ByteArray.empty x0 x5).size : Int))) < 0 then (some (-1)) else (laws_szStringS.l0 k x0 (wrap64 (x1 - ((rdOf ByteArray.empty x0 x5).size : Int))) (wrap64 (x5 + 1)))) else (none)) else (some x1)
def laws_szStringS.f (k : Nat) (l0 : List ByteArray) (a1 : Int) : Option (Int) := if (wrap64 (a1 - (l0.length : Int))) < 0 then (some (-1)) else (laws_szStringS.l0 k l0 (wrap64 (a1 - (l0.length : Int))) 0)
theorem laws_szStringS.mono_l : ∀ k, (∀ y0 y1 y2, LeO (laws_szStringS.l0 k y0 y1 y2) (laws_szStringS.l0 (k + 1) y0 y1 y2))
 | 0 => fun _ _ _ r h => by simp [laws_szStringS.l0] at h
 | k + 1 => by
  have ih0 := laws_szStringS.mono_l k
  ·intro y0 y1 y2
   unfold laws_szStringS.l0
   exact mo
theorem laws_szStringS.mono : ∀ a0 a1 k, LeO (laws_szStringS.f k a0 a1) (laws_szStringS.f (k + 1) a0 a1) := by
 intro a0 a1 k
 have ih0 := laws_szStringS.mono_l k
 unfold laws_szStringS.f
 exact mo
set_option maxHeartbeats 8000000 in
set_option maxRecDepth 100000 in
theorem laws_szStringS.calls (k : Nat) (A0 : Option Addr) (c0 : Nat) (l0 : List ByteArray) (a1 : Int) (r : Int) (w : World) (hr0 : Kd.C Kd.string w A0 l0.length l0) (hc0 : l0.length ≤ c0) (h : laws_szStringS.f k l0 a1 = some r) :
  Calls Tryd.prog 68 #[.slice A0 l0.length c0, .int .i64 a1] w fun e w' => e = .returned (.int .i64 r) ∧ Drawn0 w w' := by
 have HR0 := am hr0
 have HC0 := am hc0
 clear hr0 hc0
 unfold laws_szStringS.f at h
 have H := h
 clear h
 by_cases c3 : (wrap64 (a1 - (l0.length : Int))) < 0
 ·rw [if_pos c3] at H
  have c3b0 := decide_eq_true c3
  clear c3
  obtain rfl := Option.some.inj H
  go_enter Tryd.func68, Tryd.ntmps68
  go_wp2
  go_ret
  exact ⟨rs, dr⟩
 rw [if_neg c3] at H
 have c3b0 := decide_eq_false c3
 clear c3
 have H' := am H
 clear H
 go_enter Tryd.func68, Tryd.ntmps68
 go_wp2
 (try simp only [Act.put, List.setIfInBounds_toArray, List.set_cons_zero, List.set_cons_succ])
 go_loopg [1, 5] k (fun kq v1 v5 w' => ∃ (x1_1 : Int) (x5_1 : Int), v1 = .int .i64 x1_1 ∧ v5 = .int .i64 x5_1 ∧ Aside0 (laws_szStringS.l0 kq l0 x1_1 x5_1 = some r) ∧ Aside0 (kq ≤ k) ∧ Drawn0 w w')
 case atStart => exact ⟨(wrap64 (a1 - (l0.length : Int))), (0), rs, rs, H', ⟨Nat.le_refl _⟩, dr⟩
 case round =>
  clear H'
  try clear p2
  try clear c3
  try clear c3b0
  obtain ⟨x1_1, x5_1, rfl, rfl, HA, HK1, ⟨m1, rfl⟩⟩ := hrel
  cases gk with
  | zero => exact absurd HA.out (by simp [laws_szStringS.l0])
  | succ k1 =>
   have H := HA.out
   clear HA
   simp only [laws_szStringS.l0] at H
   by_cases c4 : x5_1 < (l0.length : Int)
   rotate_left
   ·rw [if_neg c4] at H
    have c4b0 := decide_eq_false c4
    clear c4
    obtain rfl := Option.some.inj H
    go_wp2
    go_ret
    exact ⟨rs, dr⟩
   rw [if_pos c4] at H
   have c4b0 := decide_eq_true c4
   clear c4
   revert H
   refine ifn fun c5 H => ?_
   have c5b0 := decide_eq_true c5
   clear c5
   by_cases c6 : (wrap64 (x1_1 - ((rdOf ByteArray.empty l0 x5_1).size : Int))) < 0
   ·rw [if_pos c6] at H
    have c6b0 := decide_eq_true c6
    clear c6
    obtain rfl := Option.some.inj H
    have p774 : 0 ≤ (x5_1 : Int) := od
    have q774 : x5_1 < (l0.length : Int) := od
    obtain ⟨ad774, e774, hx774_0⟩ := Kd.at_string HR0.out x5_1 p774 q774
    cases e774
    replace p774 := eq_true p774
    replace q774 := eq_true q774
    go_wp2
    go_ret
    exact ⟨rs, dr⟩
   rw [if_neg c6] at H
   have c6b0 := decide_eq_false c6
   clear c6
   have H' := am H
   clear H
   have p774 : 0 ≤ (x5_1 : Int) := od
   have q774 : x5_1 < (l0.length : Int) := od
   obtain ⟨ad774, e774, hx774_0⟩ := Kd.at_string HR0.out x5_1 p774 q774
   cases e774
   replace p774 := eq_true p774
   replace q774 := eq_true q774
   go_wp2
   go_roundg k1
   case measure => have := HK1.out; omega
   case rel => exact ⟨(wrap64 (x1_1 - ((rdOf ByteArray.empty l0 x5_1).size : Int))), (wrap64 (x5_1 + 1)), rs, rs, H', ⟨by have := HK1.out; omega⟩, dr⟩

/-! ### laws_szResp: function 69 -/
def laws_szResp.f (k : Nat) (a0_0 : Int) (l0_1 : List (S121)) (a0_2 : ByteArray) (a1 : Int) : Option (Int) := (laws_szFieldS.f k l0_1 a1).bind fun t776 => (if t776 < 0 then (some (-1)) else (if (wrap64 (t776 - (a0_2.size : Int))) < 0 then (some (-1)) else (some (wrap64 (t776 - (a0_2.size : Int))))))
theorem laws_szResp.mono : ∀ a0 a1 a2 a3 k, LeO (laws_szResp.f k a0 a1 a2 a3) (laws_szResp.f (k + 1) a0 a1 a2 a3) := by
 intro a0 a1 a2 a3 k
 unfold laws_szResp.f
 have m0 := @laws_szFieldS.mono
 exact mo
set_option maxHeartbeats 8000000 in
set_option maxRecDepth 100000 in
theorem laws_szResp.calls (k : Nat) (a0_0 : Int) (A0_1 : Option Addr) (c0_1 : Nat) (l0_1 : List (S121)) (a0_2 : ByteArray) (a1 : Int) (r : Int) (w : World) (hr0_1 : Kd.C k121 w A0_1 l0_1.length l0_1) (hc0_1 : l0_1.length ≤ c0_1) (h : laws_szResp.f k a0_0 l0_1 a0_2 a1 = some r) :
  Calls Tryd.prog 69 #[.agg #[.int .i64 a0_0, .slice A0_1 l0_1.length c0_1, .string a0_2], .int .i64 a1] w fun e w' => e = .returned (.int .i64 r) ∧ Below w.heap.size w w' := by
 have hu49 := Tryd.underlying49
 have HR0_1 := am hr0_1
 have HC0_1 := am hc0_1
 clear hr0_1 hc0_1
 have HB := am (Below.refl w.heap.size w)
 unfold laws_szResp.f at h
 have H := h
 clear h
 revert H
 refine ok1 fun t776 A3 H => ?_
 by_cases c4 : t776 < 0
 ·rw [if_pos c4] at H
  have c4b0 := decide_eq_true c4
  clear c4
  obtain rfl := Option.some.inj H
  go_enter Tryd.func69, Tryd.ntmps69
  go_wp2_with (first | (refine bx 2 #[.int .i64 a0_0, .slice A0_1 l0_1.length c0_1, .string a0_2] 49 ?_; intro gb775 hg w5 hbox hb; have BK775 := am (hbox); have GW775 := am (sz hg : w.heap.size ≤ gb775); have GE775 := am (sz hg : w.heap.size ≤ gb775); replace HB := am (below_step bl hb); clear hb hbox hg; obtain ⟨z6_0, y6_0, z6_1, y6_1, z6_2, y6_2⟩ := cl3 BK775) | (refine gl 8 Tryd.func41 #[.slice A0_1 l0_1.length c0_1, .int .i64 a1] ?_; (with_reducible refine (laws_szFieldS.calls k _ _ l0_1 a1 t776 _ ?side1 ?side2 A3.out).mono ?_); (case side1 => exact cb HR0_1); (case side2 => exact HC0_1.out); rintro e w7 ⟨rfl, hb⟩; refine ⟨_, rfl, ?_⟩; replace BK775 := kb BK775 hb; replace HB := am (below_step bl hb); clear hb))
  go_ret
  exact ⟨rf, bl⟩
 rw [if_neg c4] at H
 have c4b0 := decide_eq_false c4
 clear c4
 by_cases c8 : (wrap64 (t776 - (a0_2.size : Int))) < 0
 ·rw [if_pos c8] at H
  have c8b0 := decide_eq_true c8
  clear c8
  obtain rfl := Option.some.inj H
  go_enter Tryd.func69, Tryd.ntmps69
  go_wp2_with (first | (refine bx 2 #[.int .i64 a0_0, .slice A0_1 l0_1.length c0_1, .string a0_2] 49 ?_; intro gb775 hg w9 hbox hb; have BK775 := am (hbox); have GW775 := am (sz hg : w.heap.size ≤ gb775); have GE775 := am (sz hg : w.heap.size ≤ gb775); replace HB := am (below_step bl hb); clear hb hbox hg; obtain ⟨z10_0, y10_0, z10_1, y10_1, z10_2, y10_2⟩ := cl3 BK775) | (refine gl 8 Tryd.func41 #[.slice A0_1 l0_1.length c0_1, .int .i64 a1] ?_; (with_reducible refine (laws_szFieldS.calls k _ _ l0_1 a1 t776 _ ?side1 ?side2 A3.out).mono ?_); (case side1 => exact cb HR0_1); (case side2 => exact HC0_1.out); rintro e w11 ⟨rfl, hb⟩; refine ⟨_, rfl, ?_⟩; replace BK775 := kb BK775 hb; replace HB := am (below_step bl hb); clear hb; obtain ⟨z12_0, y12_0, z12_1, y12_1, z12_2, y12_2⟩ := cl3 BK775))
  go_ret
  exact ⟨rf, bl⟩
 rw [if_neg c8] at H
 have c8b0 := decide_eq_false c8
 clear c8
 obtain rfl := Option.some.inj H
 go_enter Tryd.func69, Tryd.ntmps69
 go_wp2_with (first | (refine bx 2 #[.int .i64 a0_0, .slice A0_1 l0_1.length c0_1, .string a0_2] 49 ?_; intro gb775 hg w13 hbox hb; have BK775 := am (hbox); have GW775 := am (sz hg : w.heap.size ≤ gb775); have GE775 := am (sz hg : w.heap.size ≤ gb775); replace HB := am (below_step bl hb); clear hb hbox hg; obtain ⟨z14_0, y14_0, z14_1, y14_1, z14_2, y14_2⟩ := cl3 BK775) | (refine gl 8 Tryd.func41 #[.slice A0_1 l0_1.length c0_1, .int .i64 a1] ?_; (with_reducible refine (laws_szFieldS.calls k _ _ l0_1 a1 t776 _ ?side1 ?side2 A3.out).mono ?_); (case side1 => exact cb HR0_1); (case side2 => exact HC0_1.out); rintro e w15 ⟨rfl, hb⟩; refine ⟨_, rfl, ?_⟩; replace BK775 := kb BK775 hb; replace HB := am (below_step bl hb); clear hb; obtain ⟨z16_0, y16_0, z16_1, y16_1, z16_2, y16_2⟩ := cl3 BK775))
 go_ret
 exact ⟨rf, bl⟩

/-! ### laws_szObj: function 27 -/
def laws_szObj.f (k : Nat) (a0_0 : ByteArray) (l0_1 : List ByteArray) (l0_2 : List ByteArray) (a0_3 : Int) (l0_4 : List (S121)) (a0_5 : ByteArray) (a0_6 : Int) (a1 : Int) : Option (Int) := if (wrap64 (a1 - (a0_0.size : Int))) < 0 then (some (-1)) else ((laws_szStringS.f k l0_1 (wrap64 (a1 - (a0_0.size : Int)))).bind fun t778 => (if t778 < 0 then (some (-1)) else ((laws_szStringS.f k l0_2 t778).bind fun t779 => (if t779 < 0 then (some (-1)) else ((laws_szResp.f k a0_3 l0_4 a0_5 t779).bind fun t780 => (if t780 < 0 then (some (-1)) else (some t780)))))))
theorem laws_szObj.mono : ∀ a0 a1 a2 a3 a4 a5 a6 a7 k, LeO (laws_szObj.f k a0 a1 a2 a3 a4 a5 a6 a7) (laws_szObj.f (k + 1) a0 a1 a2 a3 a4 a5 a6 a7) := by
 intro a0 a1 a2 a3 a4 a5 a6 a7 k
 unfold laws_szObj.f
 have m0 := @laws_szResp.mono
 have m1 := @laws_szStringS.mono
 exact mo
set_option maxHeartbeats 8000000 in
set_option maxRecDepth 100000 in
theorem laws_szObj.calls (k : Nat) (a0_0 : ByteArray) (A0_1 : Option Addr) (c0_1 : Nat) (l0_1 : List ByteArray) (A0_2 : Option Addr) (c0_2 : Nat) (l0_2 : List ByteArray) (a0_3 : Int) (A0_4 : Option Addr) (c0_4 : Nat) (l0_4 : List (S121)) (a0_5 : ByteArray) (a0_6 : Int) (a1 : Int) (r : Int) (w : World) (hr0_1 : Kd.C Kd.string w A0_1 l0_1.length l0_1) (hc0_1 : l0_1.length ≤ c0_1) (hr0_2 : Kd.C Kd.string w A0_2 l0_2.length l0_2) (hc0_2 : l0_2.length ≤ c0_2) (hr0_4 : Kd.C k121 w A0_4 l0_4.length l0_4) (hc0_4 : l0_4.length ≤ c0_4) (h : laws_szObj.f k a0_0 l0_1 l0_2 a0_3 l0_4 a0_5 a0_6 a1 = some r) :
  Calls Tryd.prog 27 #[.agg #[.string a0_0, .slice A0_1 l0_1.length c0_1, .slice A0_2 l0_2.length c0_2, .int .i64 a0_3, .slice A0_4 l0_4.length c0_4, .string a0_5, .int .i64 a0_6], .int .i64 a1] w fun e w' => e = .returned (.int .i64 r) ∧ Below w.heap.size w w' := by
 have hu51 := Tryd.underlying51
 have hu49 := Tryd.underlying49
 have HR0_1 := am hr0_1
 have HC0_1 := am hc0_1
 clear hr0_1 hc0_1
 have HR0_2 := am hr0_2
 have HC0_2 := am hc0_2
 clear hr0_2 hc0_2
 have HR0_4 := am hr0_4
 have HC0_4 := am hc0_4
 clear hr0_4 hc0_4
 have HB := am (Below.refl w.heap.size w)
 unfold laws_szObj.f at h
 have H := h
 clear h
 by_cases c3 : (wrap64 (a1 - (a0_0.size : Int))) < 0
 ·rw [if_pos c3] at H
  have c3b0 := decide_eq_true c3
  clear c3
  obtain rfl := Option.some.inj H
  go_enter Tryd.func27, Tryd.ntmps27
  go_wp2_with (first | (refine bx 2 #[.string a0_0, .slice A0_1 l0_1.length c0_1, .slice A0_2 l0_2.length c0_2, .int .i64 a0_3, .slice A0_4 l0_4.length c0_4, .string a0_5, .int .i64 a0_6] 51 ?_; intro gb777 hg w4 hbox hb; have BK777 := am (hbox); have GW777 := am (sz hg : w.heap.size ≤ gb777); have GE777 := am (sz hg : w.heap.size ≤ gb777); replace HB := am (below_step bl hb); clear hb hbox hg; obtain ⟨z5_0, y5_0, z5_1, y5_1, z5_2, y5_2, z5_3, y5_3, z5_4, y5_4, z5_5, y5_5, z5_6, y5_6⟩ := cl7 BK777))
  go_ret
  exact ⟨rf, bl⟩
 rw [if_neg c3] at H
 have c3b0 := decide_eq_false c3
 clear c3
 revert H
 refine ok1 fun t778 A6 H => ?_
 by_cases c7 : t778 < 0
 ·rw [if_pos c7] at H
  have c7b0 := decide_eq_true c7
  clear c7
  obtain rfl := Option.some.inj H
  go_enter Tryd.func27, Tryd.ntmps27
  go_wp2_with (first | (refine bx 2 #[.string a0_0, .slice A0_1 l0_1.length c0_1, .slice A0_2 l0_2.length c0_2, .int .i64 a0_3, .slice A0_4 l0_4.length c0_4, .string a0_5, .int .i64 a0_6] 51 ?_; intro gb777 hg w8 hbox hb; have BK777 := am (hbox); have GW777 := am (sz hg : w.heap.size ≤ gb777); have GE777 := am (sz hg : w.heap.size ≤ gb777); replace HB := am (below_step bl hb); clear hb hbox hg; obtain ⟨z9_0, y9_0, z9_1, y9_1, z9_2, y9_2, z9_3, y9_3, z9_4, y9_4, z9_5, y9_5, z9_6, y9_6⟩ := cl7 BK777) | (refine gl 15 Tryd.func68 #[.slice A0_1 l0_1.length c0_1, .int .i64 (wrap64 (a1 - (a0_0.size : Int)))] ?_; (with_reducible refine (laws_szStringS.calls k _ _ l0_1 (wrap64 (a1 - (a0_0.size : Int))) t778 _ ?side1 ?side2 A6.out).mono ?_); (case side1 => exact cb HR0_1); (case side2 => exact HC0_1.out); rintro e w' ⟨rfl, ⟨nd, rfl⟩⟩; refine ⟨_, rfl, ?_⟩))
  go_ret
  exact ⟨rf, bl⟩
 rw [if_neg c7] at H
 have c7b0 := decide_eq_false c7
 clear c7
 revert H
 refine ok1 fun t779 A10 H => ?_
 by_cases c11 : t779 < 0
 ·rw [if_pos c11] at H
  have c11b0 := decide_eq_true c11
  clear c11
  obtain rfl := Option.some.inj H
  go_enter Tryd.func27, Tryd.ntmps27
  go_wp2_with (first | (refine bx 2 #[.string a0_0, .slice A0_1 l0_1.length c0_1, .slice A0_2 l0_2.length c0_2, .int .i64 a0_3, .slice A0_4 l0_4.length c0_4, .string a0_5, .int .i64 a0_6] 51 ?_; intro gb777 hg w12 hbox hb; have BK777 := am (hbox); have GW777 := am (sz hg : w.heap.size ≤ gb777); have GE777 := am (sz hg : w.heap.size ≤ gb777); replace HB := am (below_step bl hb); clear hb hbox hg; obtain ⟨z13_0, y13_0, z13_1, y13_1, z13_2, y13_2, z13_3, y13_3, z13_4, y13_4, z13_5, y13_5, z13_6, y13_6⟩ := cl7 BK777) | (refine gl 15 Tryd.func68 #[.slice A0_1 l0_1.length c0_1, .int .i64 (wrap64 (a1 - (a0_0.size : Int)))] ?_; (with_reducible refine (laws_szStringS.calls k _ _ l0_1 (wrap64 (a1 - (a0_0.size : Int))) t778 _ ?side1 ?side2 A6.out).mono ?_); (case side1 => exact cb HR0_1); (case side2 => exact HC0_1.out); rintro e w' ⟨rfl, ⟨nd, rfl⟩⟩; refine ⟨_, rfl, ?_⟩) | (refine gl 21 Tryd.func68 #[.slice A0_2 l0_2.length c0_2, .int .i64 t778] ?_; (with_reducible refine (laws_szStringS.calls k _ _ l0_2 t778 t779 _ ?side1 ?side2 A10.out).mono ?_); (case side1 => repeat (first | exact (Kd.C_below HR0_2.out bl) | (with_reducible refine Kd.C_alloc ?_ _) | (with_reducible refine Kd.C_drewN ?_ _) | (with_reducible refine Kd.C_drew ?_))); (case side2 => exact HC0_2.out); rintro e w' ⟨rfl, ⟨nd, rfl⟩⟩; refine ⟨_, rfl, ?_⟩))
  go_ret
  exact ⟨rf, bl⟩
 rw [if_neg c11] at H
 have c11b0 := decide_eq_false c11
 clear c11
 revert H
 refine ok1 fun t780 A14 H => ?_
 by_cases c15 : t780 < 0
 ·rw [if_pos c15] at H
  have c15b0 := decide_eq_true c15
  clear c15
  obtain rfl := Option.some.inj H
  go_enter Tryd.func27, Tryd.ntmps27
  go_wp2_with (first | (refine bx 2 #[.string a0_0, .slice A0_1 l0_1.length c0_1, .slice A0_2 l0_2.length c0_2, .int .i64 a0_3, .slice A0_4 l0_4.length c0_4, .string a0_5, .int .i64 a0_6] 51 ?_; intro gb777 hg w16 hbox hb; have BK777 := am (hbox); have GW777 := am (sz hg : w.heap.size ≤ gb777); have GE777 := am (sz hg : w.heap.size ≤ gb777); replace HB := am (below_step bl hb); clear hb hbox hg; obtain ⟨z17_0, y17_0, z17_1, y17_1, z17_2, y17_2, z17_3, y17_3, z17_4, y17_4, z17_5, y17_5, z17_6, y17_6⟩ := cl7 BK777) | (refine gl 15 Tryd.func68 #[.slice A0_1 l0_1.length c0_1, .int .i64 (wrap64 (a1 - (a0_0.size : Int)))] ?_; (with_reducible refine (laws_szStringS.calls k _ _ l0_1 (wrap64 (a1 - (a0_0.size : Int))) t778 _ ?side1 ?side2 A6.out).mono ?_); (case side1 => exact cb HR0_1); (case side2 => exact HC0_1.out); rintro e w' ⟨rfl, ⟨nd, rfl⟩⟩; refine ⟨_, rfl, ?_⟩) | (refine gl 21 Tryd.func68 #[.slice A0_2 l0_2.length c0_2, .int .i64 t778] ?_; (with_reducible refine (laws_szStringS.calls k _ _ l0_2 t778 t779 _ ?side1 ?side2 A10.out).mono ?_); (case side1 => repeat (first | exact (Kd.C_below HR0_2.out bl) | (with_reducible refine Kd.C_alloc ?_ _) | (with_reducible refine Kd.C_drewN ?_ _) | (with_reducible refine Kd.C_drew ?_))); (case side2 => exact HC0_2.out); rintro e w' ⟨rfl, ⟨nd, rfl⟩⟩; refine ⟨_, rfl, ?_⟩) | (refine gl 27 Tryd.func69 #[.agg #[.int .i64 a0_3, .slice A0_4 l0_4.length c0_4, .string a0_5], .int .i64 t779] ?_; (with_reducible refine (laws_szResp.calls k a0_3 _ _ l0_4 a0_5 t779 t780 _ ?side1 ?side2 A14.out).mono ?_); (case side1 => repeat (first | exact (Kd.C_below HR0_4.out bl) | (with_reducible refine Kd.C_alloc ?_ _) | (with_reducible refine Kd.C_drewN ?_ _) | (with_reducible refine Kd.C_drew ?_))); (case side2 => exact HC0_4.out); rintro e w18 ⟨rfl, hb⟩; refine ⟨_, rfl, ?_⟩; replace BK777 := kb BK777 hb; replace HB := am (below_step bl hb); clear hb))
  go_ret
  exact ⟨rf, bl⟩
 rw [if_neg c15] at H
 have c15b0 := decide_eq_false c15
 clear c15
 obtain rfl := Option.some.inj H
 go_enter Tryd.func27, Tryd.ntmps27
 go_wp2_with (first | (refine bx 2 #[.string a0_0, .slice A0_1 l0_1.length c0_1, .slice A0_2 l0_2.length c0_2, .int .i64 a0_3, .slice A0_4 l0_4.length c0_4, .string a0_5, .int .i64 a0_6] 51 ?_; intro gb777 hg w19 hbox hb; have BK777 := am (hbox); have GW777 := am (sz hg : w.heap.size ≤ gb777); have GE777 := am (sz hg : w.heap.size ≤ gb777); replace HB := am (below_step bl hb); clear hb hbox hg; obtain ⟨z20_0, y20_0, z20_1, y20_1, z20_2, y20_2, z20_3, y20_3, z20_4, y20_4, z20_5, y20_5, z20_6, y20_6⟩ := cl7 BK777) | (refine gl 15 Tryd.func68 #[.slice A0_1 l0_1.length c0_1, .int .i64 (wrap64 (a1 - (a0_0.size : Int)))] ?_; (with_reducible refine (laws_szStringS.calls k _ _ l0_1 (wrap64 (a1 - (a0_0.size : Int))) t778 _ ?side1 ?side2 A6.out).mono ?_); (case side1 => exact cb HR0_1); (case side2 => exact HC0_1.out); rintro e w' ⟨rfl, ⟨nd, rfl⟩⟩; refine ⟨_, rfl, ?_⟩) | (refine gl 21 Tryd.func68 #[.slice A0_2 l0_2.length c0_2, .int .i64 t778] ?_; (with_reducible refine (laws_szStringS.calls k _ _ l0_2 t778 t779 _ ?side1 ?side2 A10.out).mono ?_); (case side1 => repeat (first | exact (Kd.C_below HR0_2.out bl) | (with_reducible refine Kd.C_alloc ?_ _) | (with_reducible refine Kd.C_drewN ?_ _) | (with_reducible refine Kd.C_drew ?_))); (case side2 => exact HC0_2.out); rintro e w' ⟨rfl, ⟨nd, rfl⟩⟩; refine ⟨_, rfl, ?_⟩) | (refine gl 27 Tryd.func69 #[.agg #[.int .i64 a0_3, .slice A0_4 l0_4.length c0_4, .string a0_5], .int .i64 t779] ?_; (with_reducible refine (laws_szResp.calls k a0_3 _ _ l0_4 a0_5 t779 t780 _ ?side1 ?side2 A14.out).mono ?_); (case side1 => repeat (first | exact (Kd.C_below HR0_4.out bl) | (with_reducible refine Kd.C_alloc ?_ _) | (with_reducible refine Kd.C_drewN ?_ _) | (with_reducible refine Kd.C_drew ?_))); (case side2 => exact HC0_4.out); rintro e w21 ⟨rfl, hb⟩; refine ⟨_, rfl, ?_⟩; replace BK777 := kb BK777 hb; replace HB := am (below_step bl hb); clear hb))
 go_ret
 exact ⟨rf, bl⟩

/-! ### spec_RespOk: function 70 -/
def spec_RespOk.f (k : Nat) (a0_0 : Int) (l0_1 : List (S84)) (a0_2 : ByteArray) : Option (Bool) := (spec_l1In.f a0_0 100 599).bind fun t782 => (if t782 = true then ((spec_FieldsOk.f k l0_1).bind fun t783 => (if t783 = true then (some (decide ((a0_2.size : Int) ≤ 120))) else (some false))) else (some false))
theorem spec_RespOk.mono : ∀ a0 a1 a2 k, LeO (spec_RespOk.f k a0 a1 a2) (spec_RespOk.f (k + 1) a0 a1 a2) := by
 intro a0 a1 a2 k
 unfold spec_RespOk.f
 have m0 := @spec_FieldsOk.mono
 exact mo
set_option maxHeartbeats 8000000 in
set_option maxRecDepth 100000 in
theorem spec_RespOk.calls (k : Nat) (a0_0 : Int) (A0_1 : Option Addr) (c0_1 : Nat) (l0_1 : List (S84)) (a0_2 : ByteArray) (r : Bool) (w : World) (hr0_1 : Kd.C k84 w A0_1 l0_1.length l0_1) (hc0_1 : l0_1.length ≤ c0_1) (h : spec_RespOk.f k a0_0 l0_1 a0_2 = some r) :
  Calls Tryd.prog 70 #[.agg #[.int .i64 a0_0, .slice A0_1 l0_1.length c0_1, .string a0_2]] w fun e w' => e = .returned (.bool r) ∧ Below w.heap.size w w' := by
 have hu32 := Tryd.underlying32
 have HR0_1 := am hr0_1
 have HC0_1 := am hc0_1
 clear hr0_1 hc0_1
 have HB := am (Below.refl w.heap.size w)
 unfold spec_RespOk.f at h
 have H := h
 clear h
 revert H
 refine ok1 fun t782 A2 H => ?_
 by_cases c3 : t782 = true
 rotate_left
 ·replace c3 := Bool.eq_false_iff.mpr c3
  subst c3
  rw [if_neg (show ¬ (false = true) by decide)] at H
  obtain rfl := Option.some.inj H
  go_enter Tryd.func70, Tryd.ntmps70
  go_wp2_with (first | ((with_reducible refine gate_dst (N := 1) rfl ?_); (try (refine gate_guard (by rfl) ?_; dsimp only)); refine box_event ?hg (N := 1) ?hd (cs := #[.int .i64 a0_0, .slice A0_1 l0_1.length c0_1, .string a0_2]) (t := 32) ?hr ?_; (case hd => rfl); (case hg => rfl); (case hr => first | (go_simp; done) | (go_simp; rfl)); intro gb781 hg w10 hbox hb; have BK781 := am (hbox); have GW781 := am (sz hg : w.heap.size ≤ gb781); have GE781 := am (sz hg : w.heap.size ≤ gb781); replace HB := am (below_step bl hb); clear hb hbox hg; obtain ⟨z11_0, y11_0, z11_1, y11_1, z11_2, y11_2⟩ := cl3 BK781) | (refine gl 5 Tryd.func72 #[.int .i64 a0_0, .int .i64 100, .int .i64 599] ?_; (with_reducible refine (spec_l1In.calls a0_0 100 599 false _ A2.out).mono ?_); rintro e w' ⟨rfl, ⟨nd, rfl⟩⟩; refine ⟨_, rfl, ?_⟩))
  go_ret
  exact ⟨rf, bl⟩
 subst c3
 rw [if_pos rfl] at H
 revert H
 refine ok1 fun t783 A4 H => ?_
 by_cases c5 : t783 = true
 ·subst c5
  rw [if_pos rfl] at H
  obtain rfl := Option.some.inj H
  go_enter Tryd.func70, Tryd.ntmps70
  go_wp2_with (first | ((with_reducible refine gate_dst (N := 1) rfl ?_); (try (refine gate_guard (by rfl) ?_; dsimp only)); refine box_event ?hg (N := 1) ?hd (cs := #[.int .i64 a0_0, .slice A0_1 l0_1.length c0_1, .string a0_2]) (t := 32) ?hr ?_; (case hd => rfl); (case hg => rfl); (case hr => first | (go_simp; done) | (go_simp; rfl)); intro gb781 hg w6 hbox hb; have BK781 := am (hbox); have GW781 := am (sz hg : w.heap.size ≤ gb781); have GE781 := am (sz hg : w.heap.size ≤ gb781); replace HB := am (below_step bl hb); clear hb hbox hg; obtain ⟨z7_0, y7_0, z7_1, y7_1, z7_2, y7_2⟩ := cl3 BK781) | (refine gl 5 Tryd.func72 #[.int .i64 a0_0, .int .i64 100, .int .i64 599] ?_; (with_reducible refine (spec_l1In.calls a0_0 100 599 true _ A2.out).mono ?_); rintro e w' ⟨rfl, ⟨nd, rfl⟩⟩; refine ⟨_, rfl, ?_⟩) | (go_at_call 109; (with_reducible refine (spec_FieldsOk.calls k _ _ l0_1 true _ ?side1 ?side2 A4.out).mono ?_); (case side1 => repeat (first | exact (Kd.C_below HR0_1.out bl) | (with_reducible refine Kd.C_alloc ?_ _) | (with_reducible refine Kd.C_drewN ?_ _) | (with_reducible refine Kd.C_drew ?_))); (case side2 => exact HC0_1.out); rintro e w' ⟨rfl, ⟨nd, rfl⟩⟩))
  go_ret
  exact ⟨rf, bl⟩
 replace c5 := Bool.eq_false_iff.mpr c5
 subst c5
 rw [if_neg (show ¬ (false = true) by decide)] at H
 obtain rfl := Option.some.inj H
 go_enter Tryd.func70, Tryd.ntmps70
 go_wp2_with (first | ((with_reducible refine gate_dst (N := 1) rfl ?_); (try (refine gate_guard (by rfl) ?_; dsimp only)); refine box_event ?hg (N := 1) ?hd (cs := #[.int .i64 a0_0, .slice A0_1 l0_1.length c0_1, .string a0_2]) (t := 32) ?hr ?_; (case hd => rfl); (case hg => rfl); (case hr => first | (go_simp; done) | (go_simp; rfl)); intro gb781 hg w8 hbox hb; have BK781 := am (hbox); have GW781 := am (sz hg : w.heap.size ≤ gb781); have GE781 := am (sz hg : w.heap.size ≤ gb781); replace HB := am (below_step bl hb); clear hb hbox hg; obtain ⟨z9_0, y9_0, z9_1, y9_1, z9_2, y9_2⟩ := cl3 BK781) | (refine gl 5 Tryd.func72 #[.int .i64 a0_0, .int .i64 100, .int .i64 599] ?_; (with_reducible refine (spec_l1In.calls a0_0 100 599 true _ A2.out).mono ?_); rintro e w' ⟨rfl, ⟨nd, rfl⟩⟩; refine ⟨_, rfl, ?_⟩) | (go_at_call 109; (with_reducible refine (spec_FieldsOk.calls k _ _ l0_1 false _ ?side1 ?side2 A4.out).mono ?_); (case side1 => repeat (first | exact (Kd.C_below HR0_1.out bl) | (with_reducible refine Kd.C_alloc ?_ _) | (with_reducible refine Kd.C_drewN ?_ _) | (with_reducible refine Kd.C_drew ?_))); (case side2 => exact HC0_1.out); rintro e w' ⟨rfl, ⟨nd, rfl⟩⟩))
 go_ret
 exact ⟨rf, bl⟩

/-! ### spec_l9Names: function 73 -/
def spec_l9Names.l0 : Nat → List ByteArray → Int → Option (Bool)
 | 0, _, _ => none
 | k + 1, x0, x3 => if x3 < (x0.length : Int) then (if 0 ≤ x3 then ((spec_TokenOk.f k (rdOf ByteArray.empty x0 x3)).bind fun t785 => (if t785 = true then (spec_l9Names.l0 k x0 (wrap64 (x3 + 1))) else (some false))) else (none)) else (some (decide ((x0.length : Int) ≤ 4)))
def spec_l9Names.f (k : Nat) (l0 : List ByteArray) : Option (Bool) := spec_l9Names.l0 k l0 0
theorem spec_l9Names.mono_l : ∀ k, (∀ y0 y1, LeO (spec_l9Names.l0 k y0 y1) (spec_l9Names.l0 (k + 1) y0 y1))
 | 0 => fun _ _ r h => by simp [spec_l9Names.l0] at h
 | k + 1 => by
  have ih0 := spec_l9Names.mono_l k
  ·intro y0 y1
   unfold spec_l9Names.l0
   have m0 := @spec_TokenOk.mono
   exact mo
theorem spec_l9Names.mono : ∀ a0 k, LeO (spec_l9Names.f k a0) (spec_l9Names.f (k + 1) a0) := by
 intro a0 k
 have ih0 := spec_l9Names.mono_l k
 unfold spec_l9Names.f
 have m0 := @spec_TokenOk.mono
 exact mo
set_option maxHeartbeats 8000000 in
set_option maxRecDepth 100000 in
theorem spec_l9Names.calls (k : Nat) (A0 : Option Addr) (c0 : Nat) (l0 : List ByteArray) (r : Bool) (w : World) (hr0 : Kd.C Kd.string w A0 l0.length l0) (hc0 : l0.length ≤ c0) (h : spec_l9Names.f k l0 = some r) :
  Calls Tryd.prog 73 #[.slice A0 l0.length c0] w fun e w' => e = .returned (.bool r) ∧ Drawn0 w w' := by
 have HR0 := am hr0
 have HC0 := am hc0
 clear hr0 hc0
 unfold spec_l9Names.f at h
 have H := h
 clear h
 have H' := am H
 clear H
 go_enter Tryd.func73, Tryd.ntmps73
 go_wp2
 (try simp only [Act.put, List.setIfInBounds_toArray, List.set_cons_zero, List.set_cons_succ])
 go_loopg [3] k (fun kq v3 w' => ∃ (x3_1 : Int), v3 = .int .i64 x3_1 ∧ Aside0 (spec_l9Names.l0 kq l0 x3_1 = some r) ∧ Aside0 (kq ≤ k) ∧ Drawn0 w w')
 case atStart => exact ⟨(0), rs, H', ⟨Nat.le_refl _⟩, dr⟩
 case round =>
  clear H'
  obtain ⟨x3_1, rfl, HA, HK1, ⟨m1, rfl⟩⟩ := hrel
  cases gk with
  | zero => exact absurd HA.out (by simp [spec_l9Names.l0])
  | succ k1 =>
   have H := HA.out
   clear HA
   simp only [spec_l9Names.l0] at H
   by_cases c2 : x3_1 < (l0.length : Int)
   rotate_left
   ·rw [if_neg c2] at H
    have c2b0 := decide_eq_false c2
    clear c2
    obtain rfl := Option.some.inj H
    go_wp2
    go_ret
    exact ⟨rs, dr⟩
   rw [if_pos c2] at H
   have c2b0 := decide_eq_true c2
   clear c2
   revert H
   refine ifn fun c3 H => ?_
   have c3b0 := decide_eq_true c3
   clear c3
   revert H
   refine ok1 fun t785 A4 H => ?_
   by_cases c5 : t785 = true
   rotate_left
   ·replace c5 := Bool.eq_false_iff.mpr c5
    subst c5
    rw [if_neg (show ¬ (false = true) by decide)] at H
    obtain rfl := Option.some.inj H
    have p784 : 0 ≤ (x3_1 : Int) := od
    have q784 : x3_1 < (l0.length : Int) := od
    obtain ⟨ad784, e784, hx784_0⟩ := Kd.at_string HR0.out x3_1 p784 q784
    cases e784
    replace p784 := eq_true p784
    replace q784 := eq_true q784
    go_wp2_with (first | (refine gl 14 Tryd.func120 #[.string (rdOf ByteArray.empty l0 x3_1)] ?_; (with_reducible refine (spec_TokenOk.calls k1 (rdOf ByteArray.empty l0 x3_1) false _ A4.out).mono ?_); rintro e w' ⟨rfl, ⟨nd, rfl⟩⟩; refine ⟨_, rfl, ?_⟩))
    go_ret
    exact ⟨rs, dr⟩
   subst c5
   rw [if_pos rfl] at H
   have H' := am H
   clear H
   have p784 : 0 ≤ (x3_1 : Int) := od
   have q784 : x3_1 < (l0.length : Int) := od
   obtain ⟨ad784, e784, hx784_0⟩ := Kd.at_string HR0.out x3_1 p784 q784
   cases e784
   replace p784 := eq_true p784
   replace q784 := eq_true q784
   go_wp2_with (first | (refine gl 14 Tryd.func120 #[.string (rdOf ByteArray.empty l0 x3_1)] ?_; (with_reducible refine (spec_TokenOk.calls k1 (rdOf ByteArray.empty l0 x3_1) true _ A4.out).mono ?_); rintro e w' ⟨rfl, ⟨nd, rfl⟩⟩; refine ⟨_, rfl, ?_⟩))
   go_roundg k1
   case measure => have := HK1.out; omega
   case rel => exact ⟨(wrap64 (x3_1 + 1)), rs, H', ⟨by have := HK1.out; omega⟩, dr⟩

/-! ### spec_l8Texts: function 74 -/
mutual
def spec_l8Texts.l0 : Nat → List ByteArray → List ByteArray → Int → Option (Bool)
 | 0, _, _, _ => none
 | k + 1, x0, x1, x5 => if x5 < (x0.length : Int) then (spec_l8Texts.j1 k x0 x1 x5 (decide (x5 < (x1.length : Int)))) else (spec_l8Texts.j1 k x0 x1 x5 false)
def spec_l8Texts.j1 : Nat → List ByteArray → List ByteArray → Int → Bool → Option (Bool)
 | 0, _, _, _, _ => none
 | k + 1, x0, x1, x5, x15 => if x15 = true then (if 0 ≤ x5 then (if x5 < (x0.length : Int) then (if x5 < (x1.length : Int) then (if (rdOf ByteArray.empty x0 x5).toList = (rdOf ByteArray.empty x1 x5).toList then (spec_l8Texts.l0 k x0 x1 (wrap64 (x5 + 1))) else (some false)) else (none)) else (none)) else (none)) else (some ((x0.length : Int) == (x1.length : Int)))
end
def spec_l8Texts.f (k : Nat) (l0 : List ByteArray) (l1 : List ByteArray) : Option (Bool) := spec_l8Texts.l0 k l0 l1 0
theorem spec_l8Texts.mono_l : ∀ k, (∀ y0 y1 y2, LeO (spec_l8Texts.l0 k y0 y1 y2) (spec_l8Texts.l0 (k + 1) y0 y1 y2)) ∧ (∀ y0 y1 y2 y3, LeO (spec_l8Texts.j1 k y0 y1 y2 y3) (spec_l8Texts.j1 (k + 1) y0 y1 y2 y3))
 | 0 => ⟨fun _ _ _ r h => by simp [spec_l8Texts.l0] at h, fun _ _ _ _ r h => by simp [spec_l8Texts.j1] at h⟩
 | k + 1 => by
  obtain ⟨ih0, ih1⟩ := spec_l8Texts.mono_l k
  refine ⟨?_, ?_⟩
  ·intro y0 y1 y2
   unfold spec_l8Texts.l0
   exact mo
  ·intro y0 y1 y2 y3
   unfold spec_l8Texts.j1
   exact mo
theorem spec_l8Texts.mono : ∀ a0 a1 k, LeO (spec_l8Texts.f k a0 a1) (spec_l8Texts.f (k + 1) a0 a1) := by
 intro a0 a1 k
 obtain ⟨ih0, ih1⟩ := spec_l8Texts.mono_l k
 unfold spec_l8Texts.f
 exact mo
set_option maxHeartbeats 8000000 in
set_option maxRecDepth 100000 in
theorem spec_l8Texts.calls (k : Nat) (A0 : Option Addr) (c0 : Nat) (l0 : List ByteArray) (A1 : Option Addr) (c1 : Nat) (l1 : List ByteArray) (r : Bool) (w : World) (hr0 : Kd.C Kd.string w A0 l0.length l0) (hc0 : l0.length ≤ c0) (hr1 : Kd.C Kd.string w A1 l1.length l1) (hc1 : l1.length ≤ c1) (h : spec_l8Texts.f k l0 l1 = some r) :
  Calls Tryd.prog 74 #[.slice A0 l0.length c0, .slice A1 l1.length c1] w fun e w' => e = .returned (.bool r) ∧ Drawn0 w w' := by
 have HR0 := am hr0
 have HC0 := am hc0
 clear hr0 hc0
 have HR1 := am hr1
 have HC1 := am hc1
 clear hr1 hc1
 unfold spec_l8Texts.f at h
 have H := h
 clear h
 have H' := am H
 clear H
 go_enter Tryd.func74, Tryd.ntmps74
 go_wp2
 repeat (go_quiet (fail); try go_wp2)
 (try simp only [Act.put, List.setIfInBounds_toArray, List.set_cons_zero, List.set_cons_succ])
 go_loopg [5] k (fun kq v5 w' => ∃ (x5_1 : Int), v5 = .int .i64 x5_1 ∧ Aside0 (spec_l8Texts.l0 kq l0 l1 x5_1 = some r) ∧ Aside0 (kq ≤ k) ∧ Drawn0 w w')
 case atStart => exact ⟨(0), rs, H', ⟨Nat.le_refl _⟩, dr⟩
 case round =>
  clear H'
  try clear c1
  try clear p2
  obtain ⟨x5_1, rfl, HA, HK1, ⟨m1, rfl⟩⟩ := hrel
  cases gk with
  | zero => exact absurd HA.out (by simp [spec_l8Texts.l0])
  | succ k1 =>
   have H := HA.out
   clear HA
   simp only [spec_l8Texts.l0] at H
   have HC3 := am H
   clear H
   go_upto_region 2 with (fail)
   repeat (go_quiet (fail); go_upto_region 2 with (fail))
   go_cut [15] (fun v15 wc => ∃ (kq : Nat) (x15_2 : Bool), v15 = .bool x15_2 ∧ Aside0 (spec_l8Texts.j1 kq l0 l1 x5_1 x15_2 = some r) ∧ Aside0 (kq ≤ k1) ∧ Drawn0 w wc)
   case first =>
    have H := HC3.out
    clear HC3
    by_cases c4 : x5_1 < (l0.length : Int)
    rotate_left
    ·rw [if_neg c4] at H
     have c4b0 := decide_eq_false c4
     clear c4
     (first | rw [c4b0] | (simp only [i64_w, i32_w]; rw [c4b0]) | skip)
     have H' := am H
     clear H
     go_wp2
     repeat (go_quiet (fail); try go_wp2)
     go_meet
     case rel => exact ⟨_, (false), rs, H', ⟨by have := HK1.out; first | omega | exact Nat.le_refl _⟩, dr⟩
    rw [if_pos c4] at H
    have c4b0 := decide_eq_true c4
    clear c4
    (first | rw [c4b0] | (simp only [i64_w, i32_w]; rw [c4b0]) | skip)
    have H' := am H
    clear H
    go_wp2
    repeat (go_quiet (fail); try go_wp2)
    go_meet
    case rel => exact ⟨_, (decide (x5_1 < (l1.length : Int))), rs, H', ⟨by have := HK1.out; first | omega | exact Nat.le_refl _⟩, dr⟩
   case rest =>
    clear HC3
    try clear c1
    try clear p2
    try clear c4
    try clear c4b0
    try clear p2
    obtain ⟨kq, x15_2, rfl, HA, HJ2, ⟨mc2, rfl⟩⟩ := hcut
    cases kq with
    | zero => exact absurd HA.out (by simp [spec_l8Texts.j1])
    | succ kj2 =>
     have H := HA.out
     clear HA
     simp only [spec_l8Texts.j1] at H
     by_cases c5 : x15_2 = true
     rotate_left
     ·replace c5 := Bool.eq_false_iff.mpr c5
      subst c5
      rw [if_neg (show ¬ (false = true) by decide)] at H
      obtain rfl := Option.some.inj H
      go_wp2
      repeat (go_quiet (fail); try go_wp2)
      go_ret
      exact ⟨rs, dr⟩
     subst c5
     rw [if_pos rfl] at H
     revert H
     refine ifn fun c6 H => ?_
     have c6b0 := decide_eq_true c6
     clear c6
     revert H
     refine ifn fun c7 H => ?_
     have c7b0 := decide_eq_true c7
     clear c7
     revert H
     refine ifn fun c8 H => ?_
     have c8b0 := decide_eq_true c8
     clear c8
     by_cases c9 : (rdOf ByteArray.empty l0 x5_1).toList = (rdOf ByteArray.empty l1 x5_1).toList
     rotate_left
     ·rw [if_neg c9] at H
      have c9b0 : ((rdOf ByteArray.empty l0 x5_1).toList == (rdOf ByteArray.empty l1 x5_1).toList) = false := beq_eq_false_iff_ne.mpr c9
      have c9b1 : ((rdOf ByteArray.empty l0 x5_1).toList != (rdOf ByteArray.empty l1 x5_1).toList) = true := bne_iff_ne.mpr c9
      obtain rfl := Option.some.inj H
      have p786 : 0 ≤ (x5_1 : Int) := od
      have q786 : x5_1 < (l0.length : Int) := od
      obtain ⟨ad786, e786, hx786_0⟩ := Kd.at_string HR0.out x5_1 p786 q786
      cases e786
      replace p786 := eq_true p786
      replace q786 := eq_true q786
      have p787 : 0 ≤ (x5_1 : Int) := od
      have q787 : x5_1 < (l1.length : Int) := od
      obtain ⟨ad787, e787, hx787_0⟩ := Kd.at_string HR1.out x5_1 p787 q787
      cases e787
      replace p787 := eq_true p787
      replace q787 := eq_true q787
      go_wp2
      repeat (go_quiet (fail); try go_wp2)
      go_ret
      exact ⟨rs, dr⟩
     rw [if_pos c9] at H
     have c9b0 : ((rdOf ByteArray.empty l0 x5_1).toList == (rdOf ByteArray.empty l1 x5_1).toList) = true := beq_iff_eq.mpr c9
     have c9b1 : ((rdOf ByteArray.empty l0 x5_1).toList != (rdOf ByteArray.empty l1 x5_1).toList) = false := bne_eq_false_iff_eq.mpr c9
     clear c9
     have H' := am H
     clear H
     have p786 : 0 ≤ (x5_1 : Int) := od
     have q786 : x5_1 < (l0.length : Int) := od
     obtain ⟨ad786, e786, hx786_0⟩ := Kd.at_string HR0.out x5_1 p786 q786
     cases e786
     replace p786 := eq_true p786
     replace q786 := eq_true q786
     have p787 : 0 ≤ (x5_1 : Int) := od
     have q787 : x5_1 < (l1.length : Int) := od
     obtain ⟨ad787, e787, hx787_0⟩ := Kd.at_string HR1.out x5_1 p787 q787
     cases e787
     replace p787 := eq_true p787
     replace q787 := eq_true q787
     go_wp2
     repeat (go_quiet (fail); try go_wp2)
     go_roundg kj2
     case measure => have := HK1.out; have := HJ2.out; omega
     case rel => exact ⟨(wrap64 (x5_1 + 1)), rs, H', ⟨by have := HK1.out; have := HJ2.out; omega⟩, dr⟩

/-! ### spec_VaryOf: function 75 -/
theorem u75HB {p : Prop} (h : p := by repeat (first | (with_reducible first | exact HB.out | apply below_alloc | apply pw_below_drewN | apply below_drew1) | exact HB.out)) : p := h
def spec_VaryOf.l0 : Nat → List ByteArray → Int → Option (List ByteArray)
 | 0, _, _ => none
 | k + 1, x5, x6 => if x6 < (x5.length : Int) then (if 0 ≤ x6 then ((spec_Lower.f k (rdOf ByteArray.empty x5 x6)).bind fun t813 => (spec_VaryOf.l0 k (x5.set (x6 : Int).toNat t813) (wrap64 (x6 + 1)))) else (none)) else (some x5)
def spec_VaryOf.f (k : Nat) (l0 : List (S84)) : Option (List ByteArray) := (spec_Get.f k l0 (⟨#[118, 97, 114, 121]⟩ : ByteArray)).bind fun bt807 => ((spec_Split.f k bt807.1).bind fun t809 => (spec_VaryOf.l0 k t809 0))
theorem spec_VaryOf.mono_l : ∀ k, (∀ y0 y1, LeO (spec_VaryOf.l0 k y0 y1) (spec_VaryOf.l0 (k + 1) y0 y1))
 | 0 => fun _ _ r h => by simp [spec_VaryOf.l0] at h
 | k + 1 => by
  have ih0 := spec_VaryOf.mono_l k
  ·intro y0 y1
   unfold spec_VaryOf.l0
   have m0 := @spec_Get.mono
   have m1 := @spec_Lower.mono
   have m2 := @spec_Split.mono
   exact mo
theorem spec_VaryOf.mono : ∀ a0 k, LeO (spec_VaryOf.f k a0) (spec_VaryOf.f (k + 1) a0) := by
 intro a0 k
 have ih0 := spec_VaryOf.mono_l k
 unfold spec_VaryOf.f
 have m0 := @spec_Get.mono
 have m1 := @spec_Lower.mono
 have m2 := @spec_Split.mono
 exact mo
set_option maxHeartbeats 8000000 in
set_option maxRecDepth 100000 in
theorem spec_VaryOf.calls (k : Nat) (A0 : Option Addr) (c0 : Nat) (l0 : List (S84)) (r : List ByteArray) (w : World) (hr0 : Kd.C k84 w A0 l0.length l0) (hc0 : l0.length ≤ c0) (h : spec_VaryOf.f k l0 = some r) :
  Calls Tryd.prog 75 #[.slice A0 l0.length c0] w fun e w' => ∃ v0_ : Value, e = .returned (v0_) ∧ Kd.R Kd.string 9 w' w.heap.size (fun _ => True) v0_ r ∧ Below w.heap.size w w' := by
 have HR0 := am hr0
 have HC0 := am hc0
 clear hr0 hc0
 have HB := am (Below.refl w.heap.size w)
 unfold spec_VaryOf.f at h
 have H := h
 clear h
 revert H
 refine ok2 fun t807 t808 A2 H => ?_
 (try dsimp only at H)
 revert H
 refine ok1 fun t809 A3 H => ?_
 have H' := am H
 clear H
 go_enter Tryd.func75, Tryd.ntmps75
 go_wp2_with (first | (refine gl 9 Tryd.func55 #[.slice A0 l0.length c0, .string (⟨#[118, 97, 114, 121]⟩ : ByteArray)] ?_; (with_reducible refine (spec_Get.calls k _ _ l0 (⟨#[118, 97, 114, 121]⟩ : ByteArray) t807 t808 _ ?side1 ?side2 A2.out).mono ?_); (case side1 => exact cc HR0); (case side2 => exact HC0.out); rintro e w' ⟨rfl, ⟨nd, rfl⟩⟩; refine ⟨_, rfl, ?_⟩) | (refine gl 13 Tryd.func121 #[.string t807] ?_; (with_reducible refine (spec_Split.calls k t807 t809 _ A3.out).mono ?_); rintro e w4 ⟨v810, rfl, ho0, hb⟩; refine ⟨_, rfl, ?_⟩; have HO811 := am (Kd.R_lower ho0 (below_size bl)); replace HB := am (below_step bl hb); clear hb ho0))
 (try simp only [Act.put, List.setIfInBounds_toArray, List.set_cons_zero, List.set_cons_succ])
 go_loopg [6] k (fun kq v6 w' => ∃ (x5_1 : List ByteArray) (x6_1 : Int), v6 = .int .i64 x6_1 ∧ Aside0 (spec_VaryOf.l0 kq x5_1 x6_1 = some r) ∧ Aside0 (kq ≤ k) ∧ Aside0 (Kd.R Kd.string 9 w' w.heap.size (fun _ => True) v810 x5_1) ∧ Aside0 (Below w.heap.size w w'))
 case atStart => exact ⟨(t809), (0), rs, H', ⟨Nat.le_refl _⟩, ⟨by (with_reducible repeat (first | apply Kd.R_alloc | apply Kd.R_drewN | apply Kd.R_drew)); exact HO811.out⟩, ⟨u75HB⟩⟩
 case round =>
  clear H'
  try clear c1
  try clear p2
  obtain ⟨x5_1, x6_1, rfl, HA, HK1, HO_5, HB⟩ := hrel
  cases gk with
  | zero => exact absurd HA.out (by simp [spec_VaryOf.l0])
  | succ k1 =>
   have H := HA.out
   clear HA
   simp only [spec_VaryOf.l0] at H
   by_cases c5 : x6_1 < (x5_1.length : Int)
   rotate_left
   ·rw [if_neg c5] at H
    have c5b0 := decide_eq_false c5
    clear c5
    obtain rfl := Option.some.inj H
    obtain ⟨Ao13, co13, eo13⟩ := Kd.R_slice HO_5.out
    subst eo13
    go_wp2
    go_ret
    exact ⟨_, rf, by (with_reducible repeat (first | apply Kd.R_alloc | apply Kd.R_drewN | apply Kd.R_drew)); exact HO_5.out, bl⟩
   rw [if_pos c5] at H
   have c5b0 := decide_eq_true c5
   clear c5
   revert H
   refine ifn fun c6 H => ?_
   have c6b0 := decide_eq_true c6
   clear c6
   revert H
   refine ok1 fun t813 A7 H => ?_
   obtain ⟨y814, hy814⟩ : ∃ y_ : List ByteArray, y_ = (x5_1.set (x6_1 : Int).toNat t813) := ⟨_, rfl⟩
   replace H : (spec_VaryOf.l0 k1 y814 (wrap64 (x6_1 + 1))) = some r := by first | (rw [hy814]; with_reducible exact H) | (have H2_ := (Option.bind_some _ _).symm.trans H; rw [hy814]; with_reducible exact H2_) | (have H2_ := (Option.bind_some _ _).symm.trans H; with_reducible exact H2_) | with_reducible exact H | (rw [hy814]; exact H) | exact H
   have Ny814 := am hy814
   clear hy814
   have H' := am H
   clear H
   obtain ⟨Ao9, co9, eo9⟩ := Kd.R_slice HO_5.out
   subst eo9
   have p812 : 0 ≤ (x6_1 : Int) := od
   have q812 : x6_1 < (x5_1.length : Int) := od
   obtain ⟨ad812, e812, hx812_0⟩ := Kd.at_string (Kd.R_reads' HO_5.out).2.2 x6_1 p812 q812
   cases e812
   replace p812 := eq_true p812
   replace q812 := eq_true q812
   go_wp2_with (first | (refine gl 26 Tryd.func122 #[.string (rdOf ByteArray.empty x5_1 x6_1)] ?_; (with_reducible refine (spec_Lower.calls k1 (rdOf ByteArray.empty x5_1 x6_1) t813 _ A7.out).mono ?_); rintro e w10 ⟨rfl, hb⟩; refine ⟨_, rfl, ?_⟩; replace HO_5 := kr HO_5 hb; replace HB := am (below_step bl hb); clear hb; have p8 : 0 ≤ (x6_1 : Int) := od; have q8 : (x6_1 : Int) < ((x5_1.length : Int) : Int) := od; obtain ⟨go8, co8, eo8, gb8, gl8, cl8, HG8⟩ := Kd.R_form HO_5.out (by omega); (first | cases eo8 | (injection eo8 with ea_ en_ ec_; (first | subst ea_ | (injection ea_ with ea_; subst ea_)); subst ec_; clear en_)); have GB8 := am gb8; have GG8 := am HG8; clear gb8 gl8 HG8; (first | simp only [add_plain] at hx812_0 | skip); obtain ⟨hx8_0, hf8_0⟩ := Kd.R_celln (⟨#[]⟩ : ByteArray) HO_5.out (x6_1 : Int) p8 q8; replace p8 := eq_true p8; replace q8 := eq_true q8; obtain ⟨hy11_, hz11_⟩ := Kd.R_celln (⟨#[]⟩ : ByteArray) HO_5.out (x6_1 : Int) (od) (od); have HP11 := Kd.R_putg HO_5.out (x6_1 : Int) t813) | ((with_reducible refine gate_store (t := 9) (p := 27) rfl ?_); refine store_event (t := 9) (p := 27) (v := ?vo_w12) (w1 := (w10.setCell ⟨go8, (x6_1 : Int).toNat, none⟩ (.string t813))) ?hg ?ho ?hn ?hr ?_; (case ho => rfl); (case hg => rfl); (case hn => rfl); (case hr => first | (go_simp; done) | (go_simp; rfl)); intro w12 hw; have hg : w10.grownBy w12 (some go8) := (by rw [hw]; exact HP11.2); have hp_ : Kd.R Kd.string 9 w12 w.heap.size (fun _ => True) (.slice (some ⟨go8, 0, none⟩) x5_1.length co9) y814 := (by rw [hw, Ny814.out]; exact HP11.1); clear HP11; have n0_ := am (hp_); have n1_ := am ((by rw [hw]; exact below_set (HB.out) GB8.out : Below w.heap.size w w12)); clear HO_5; clear HB; have HO_5 := n0_; have HB := n1_; clear n0_ n1_; clear hg hw hp_))
   go_roundg k1
   case measure => have := HK1.out; omega
   case rel => exact ⟨(y814), (wrap64 (x6_1 + 1)), rs, H', ⟨by have := HK1.out; omega⟩, ⟨by (with_reducible repeat (first | apply Kd.R_alloc | apply Kd.R_drewN | apply Kd.R_drew)); exact HO_5.out⟩, ⟨u75HB⟩⟩

/-! ### spec_ObjOk: function 28 -/
theorem u28HB {p : Prop} (h : p := by repeat (first | (with_reducible first | exact HB.out | apply below_alloc | apply pw_below_drewN | apply below_drew1 | refine below_set ?_ GE815.out) | exact HB.out)) : p := h
mutual
def spec_ObjOk.j0 : Nat → Bool → ByteArray → List ByteArray → List ByteArray → Int → List (S84) → ByteArray → Int → Option (Bool)
 | 0, _, _, _, _, _, _, _, _ => none
 | k + 1, x44, x816000, x816001, x816002, x816003, x816004, x816005, x816006 => if x44 = true then (some false) else (spec_ObjOk.l0 k 0 x816000 x816001 x816002 x816003 x816004 x816005 x816006)
def spec_ObjOk.l0 : Nat → Int → ByteArray → List ByteArray → List ByteArray → Int → List (S84) → ByteArray → Int → Option (Bool)
 | 0, _, _, _, _, _, _, _, _ => none
 | k + 1, x3, x816000, x816001, x816002, x816003, x816004, x816005, x816006 => if x3 < (x816002.length : Int) then (if 0 ≤ x3 then ((spec_ValueOk.f k (rdOf ByteArray.empty x816002 x3)).bind fun t825 => (if t825 = true then (spec_ObjOk.l0 k (wrap64 (x3 + 1)) x816000 x816001 x816002 x816003 x816004 x816005 x816006) else (some false))) else (none)) else (some true)
end
def spec_ObjOk.f (k : Nat) (a0_0 : ByteArray) (l0_1 : List ByteArray) (l0_2 : List ByteArray) (a0_3 : Int) (l0_4 : List (S84)) (a0_5 : ByteArray) (a0_6 : Int) : Option (Bool) := (spec_RespOk.f k a0_3 l0_4 a0_5).bind fun t816 => (if t816 = true then ((spec_l3Path.f k a0_0).bind fun t817 => (if t817 = true then ((spec_l1In.f a0_6 0 1000000).bind fun t818 => (if t818 = true then ((spec_l9Names.f k l0_1).bind fun t819 => (if t819 = true then ((spec_VaryOf.f k l0_4).bind fun t820 => ((spec_l8Texts.f k l0_1 t820).bind fun t823 => (if t823 = true then (spec_ObjOk.j0 k ((l0_2.length : Int) != (l0_1.length : Int)) a0_0 l0_1 l0_2 a0_3 l0_4 a0_5 a0_6) else (spec_ObjOk.j0 k true a0_0 l0_1 l0_2 a0_3 l0_4 a0_5 a0_6)))) else (spec_ObjOk.j0 k true a0_0 l0_1 l0_2 a0_3 l0_4 a0_5 a0_6))) else (spec_ObjOk.j0 k true a0_0 l0_1 l0_2 a0_3 l0_4 a0_5 a0_6))) else (spec_ObjOk.j0 k true a0_0 l0_1 l0_2 a0_3 l0_4 a0_5 a0_6))) else (spec_ObjOk.j0 k true a0_0 l0_1 l0_2 a0_3 l0_4 a0_5 a0_6))
theorem spec_ObjOk.mono_l : ∀ k, (∀ y0 y1 y2 y3 y4 y5 y6 y7, LeO (spec_ObjOk.j0 k y0 y1 y2 y3 y4 y5 y6 y7) (spec_ObjOk.j0 (k + 1) y0 y1 y2 y3 y4 y5 y6 y7)) ∧ (∀ y0 y1 y2 y3 y4 y5 y6 y7, LeO (spec_ObjOk.l0 k y0 y1 y2 y3 y4 y5 y6 y7) (spec_ObjOk.l0 (k + 1) y0 y1 y2 y3 y4 y5 y6 y7))
 | 0 => ⟨fun _ _ _ _ _ _ _ _ r h => by simp [spec_ObjOk.j0] at h, fun _ _ _ _ _ _ _ _ r h => by simp [spec_ObjOk.l0] at h⟩
 | k + 1 => by
  obtain ⟨ih0, ih1⟩ := spec_ObjOk.mono_l k
  refine ⟨?_, ?_⟩
  ·intro y0 y1 y2 y3 y4 y5 y6 y7
   unfold spec_ObjOk.j0
   have m0 := @spec_RespOk.mono
   have m1 := @spec_ValueOk.mono
   have m2 := @spec_VaryOf.mono
   have m3 := @spec_l3Path.mono
   have m4 := @spec_l8Texts.mono
   have m5 := @spec_l9Names.mono
   exact mo
  ·intro y0 y1 y2 y3 y4 y5 y6 y7
   unfold spec_ObjOk.l0
   have m0 := @spec_RespOk.mono
   have m1 := @spec_ValueOk.mono
   have m2 := @spec_VaryOf.mono
   have m3 := @spec_l3Path.mono
   have m4 := @spec_l8Texts.mono
   have m5 := @spec_l9Names.mono
   exact mo
theorem spec_ObjOk.mono : ∀ a0 a1 a2 a3 a4 a5 a6 k, LeO (spec_ObjOk.f k a0 a1 a2 a3 a4 a5 a6) (spec_ObjOk.f (k + 1) a0 a1 a2 a3 a4 a5 a6) := by
 intro a0 a1 a2 a3 a4 a5 a6 k
 obtain ⟨ih0, ih1⟩ := spec_ObjOk.mono_l k
 unfold spec_ObjOk.f
 have m0 := @spec_RespOk.mono
 have m1 := @spec_ValueOk.mono
 have m2 := @spec_VaryOf.mono
 have m3 := @spec_l3Path.mono
 have m4 := @spec_l8Texts.mono
 have m5 := @spec_l9Names.mono
 exact mo
def spec_ObjOk.T1 : Bool × List (List Nat × List Nat) := (true, [([], []), ([0], [0]), ([1], [1]), ([2], [2]), ([3, 2], [3]), ([4], [4]), ([5, 4], [4, 5]), ([6, 4, 4], [4, 6]), ([7, 4], [4, 7]), ([4, 8], [4, 8]), ([9, 7], [9]), ([10], [10]), ([11, 10], [10, 11]), ([12, 10, 10], [10, 12]), ([13, 10], [10, 13]), ([10, 14], [10, 14]), ([15, 13], [15]), ([16], [16]), ([17, 16], [16, 17]), ([18, 16, 16], [16, 18]), ([19, 16], [16, 19]), ([16, 20], [16, 20]), ([21, 19], [21]), ([22], [22]), ([23, 22], [22, 23]), ([22], [22]), ([25, 22], [22, 25]), ([26, 22], [22, 26]), ([27, 22, 22], [22, 27]), ([24, 28, 28, 22], [22, 24, 28]), ([29, 22], [22, 29]), ([22, 30], [22, 30]), ([31, 29], [31]), ([32], [32]), ([33, 32], [32, 33]), ([34, 32], [32, 34]), ([32], [32]), ([36, 32], [32, 36]), ([37, 32], [32, 37]), ([35, 38, 32], [32, 35, 38]), ([32, 39], [32, 39])])
def spec_ObjOk.B1 : List Nat := [0, 1, 3, 7, 15, 31, 63, 127, 255, 511, 1023, 2047, 4095, 8191, 16383, 32767, 65535, 131071, 262143, 524287, 1048575, 2097151, 4194303, 8388607, 16777215, 8388607, 41943039, 109051903, 243269631, 536870911, 1073741823, 2147483647, 4294967295, 8589934591, 17179869183, 34359738367, 8589934591, 77309411327, 214748364799, 549755813887, 1099511627775]
theorem spec_ObjOk.tab1 : rtab .any (opsOf Tryd.f28 1) = spec_ObjOk.T1 := by kernel_rfl
theorem spec_ObjOk.bits1 : waitsOk spec_ObjOk.T1.2 spec_ObjOk.B1 = true := by kernel_rfl
set_option maxHeartbeats 8000000 in
set_option maxRecDepth 100000 in
theorem spec_ObjOk.calls (k : Nat) (a0_0 : ByteArray) (A0_1 : Option Addr) (c0_1 : Nat) (l0_1 : List ByteArray) (A0_2 : Option Addr) (c0_2 : Nat) (l0_2 : List ByteArray) (a0_3 : Int) (A0_4 : Option Addr) (c0_4 : Nat) (l0_4 : List (S84)) (a0_5 : ByteArray) (a0_6 : Int) (r : Bool) (w : World) (hr0_1 : Kd.C Kd.string w A0_1 l0_1.length l0_1) (hc0_1 : l0_1.length ≤ c0_1) (hr0_2 : Kd.C Kd.string w A0_2 l0_2.length l0_2) (hc0_2 : l0_2.length ≤ c0_2) (hr0_4 : Kd.C k84 w A0_4 l0_4.length l0_4) (hc0_4 : l0_4.length ≤ c0_4) (h : spec_ObjOk.f k a0_0 l0_1 l0_2 a0_3 l0_4 a0_5 a0_6 = some r) :
  Calls Tryd.prog 28 #[.agg #[.string a0_0, .slice A0_1 l0_1.length c0_1, .slice A0_2 l0_2.length c0_2, .int .i64 a0_3, .slice A0_4 l0_4.length c0_4, .string a0_5, .int .i64 a0_6]] w fun e w' => e = .returned (.bool r) ∧ Below w.heap.size w w' := by
 have hu55 := Tryd.underlying55
 have hu32 := Tryd.underlying32
 have HR0_1 := am hr0_1
 have HC0_1 := am hc0_1
 clear hr0_1 hc0_1
 have HR0_2 := am hr0_2
 have HC0_2 := am hc0_2
 clear hr0_2 hc0_2
 have HR0_4 := am hr0_4
 have HC0_4 := am hc0_4
 clear hr0_4 hc0_4
 have HB := am (Below.refl w.heap.size w)
 unfold spec_ObjOk.f at h
 have H := h
 clear h
 have HC2 := am H
 clear H
 go_enter Tryd.func28, Tryd.ntmps28
 go_upto_region 1 with (first | ((with_reducible refine gate_dst (N := 1) rfl ?_); (try (refine gate_guard (by rfl) ?_; dsimp only)); refine box_event ?hg (N := 1) ?hd (cs := #[.string a0_0, .slice A0_1 l0_1.length c0_1, .slice A0_2 l0_2.length c0_2, .int .i64 a0_3, .slice A0_4 l0_4.length c0_4, .string a0_5, .int .i64 a0_6]) (t := 55) ?hr ?_; (case hd => rfl); (case hg => rfl); (case hr => first | (go_simp; done) | (go_simp; rfl)); intro gb815 hg w3 hbox hb; have BK815 := am (hbox); have GW815 := am (sz hg : w.heap.size ≤ gb815); have GE815 := am (sz hg : w.heap.size ≤ gb815); replace HB := am (below_step bl hb); clear hb hbox hg))
 (try simp only [Act.put, List.setIfInBounds_toArray, List.set_cons_zero, List.set_cons_succ])
 go_cut [44] (fun v44 wc => ∃ (kq : Nat) (x44_1 : Bool), v44 = .bool x44_1 ∧ Aside0 (spec_ObjOk.j0 kq x44_1 a0_0 l0_1 l0_2 a0_3 l0_4 a0_5 a0_6 = some r) ∧ Aside0 (kq ≤ k) ∧ Aside0 (wc.heap[gb815]? = some (.cells #[.string a0_0, (.slice A0_1 l0_1.length c0_1), (.slice A0_2 l0_2.length c0_2), .int .i64 a0_3, (.slice A0_4 l0_4.length c0_4), .string a0_5, .int .i64 a0_6] 55 (0, 0))) ∧ Aside0 (Below w.heap.size w wc))
 case first =>
  have H := HC2.out
  clear HC2
  revert H
  refine ok1 fun t816 A4 H => ?_
  by_cases c5 : t816 = true
  rotate_left
  ·replace c5 := Bool.eq_false_iff.mpr c5
   subst c5
   rw [if_neg (show ¬ (false = true) by decide)] at H
   have H' := am H
   clear H
   try go_wp2
   replace BK815 := am (blk_drew BK815.out)
   replace HB := am (below_drew1 HB.out)
   refine start_ (n := 41) (S := fun w' => w'.cell? ⟨gb815, 0, none⟩ = some (.string a0_0) ∧ w'.cell? ⟨gb815, 1, none⟩ = some (.slice A0_1 l0_1.length c0_1) ∧ w'.cell? ⟨gb815, 2, none⟩ = some (.slice A0_2 l0_2.length c0_2) ∧ w'.cell? ⟨gb815, 3, none⟩ = some (.int .i64 a0_3) ∧ w'.cell? ⟨gb815, 4, none⟩ = some (.slice A0_4 l0_4.length c0_4) ∧ w'.cell? ⟨gb815, 5, none⟩ = some (.string a0_5) ∧ w'.cell? ⟨gb815, 6, none⟩ = some (.int .i64 a0_6)) (ds := []) ⟨br true [0, 41]⟩ (by kernel_rfl) rfl (by kernel_rfl) ⟨bc BK815, bc BK815, bc BK815, bc BK815, bc BK815, bc BK815, bc BK815⟩ (fun hHeld => ?_); refine with_tabW spec_ObjOk.tab1 spec_ObjOk.bits1 (fun HT_ HW_ => ?_)
   generalize w3.drew = w29 at BK815 HB hHeld ⊢
   refine pu 0 4 [1, 40] ?_
   refine tk 1 5 [2, 39] ?_
   refine og 2 6 [3, 38] Tryd.func70 #[.agg #[.int .i64 a0_3, .slice A0_4 l0_4.length c0_4, .string a0_5]] (fun K hK => ?_)
   with_reducible refine (spec_RespOk.calls k a0_3 _ _ l0_4 a0_5 false _ ?side1 ?side2 A4.out).mono ?_
   (case side1 => exact cb HR0_4)
   (case side2 => exact HC0_4.out)
   rintro e w30 ⟨rfl, hb⟩
   refine ⟨_, rfl, ?_⟩
   replace BK815 := kb BK815 hb
   replace HB := am (below_step bl hb)
   clear hb
   refine hK.out _ _ ⟨bc BK815, bc BK815, bc BK815, bc BK815, bc BK815, bc BK815, bc BK815⟩ (fun hHeld => ?_)
   clear hK K
   refine nm 6 ?_
   refine pu 3 7 [4, 37] ?_
   refine pu 4 8 [5, 36] ?_
   refine pd 5 9 [6, 35] ?_
   refine pd 6 10 [7, 34] ?_
   refine pd 7 11 [8, 33] ?_
   refine pd 8 12 [9, 32] ?_
   refine pu 9 13 [10, 31] ?_
   refine pu 10 14 [11, 30] ?_
   refine pd 11 15 [12, 29] ?_
   refine pd 12 16 [13, 28] ?_
   refine pd 13 17 [14, 27] ?_
   refine pd 14 18 [15, 26] ?_
   refine pu 15 19 [16, 25] ?_
   refine pu 16 20 [17, 24] ?_
   refine pd 17 21 [18, 23] ?_
   refine pd 18 22 [19, 22] ?_
   refine pd 19 23 [20, 21] ?_
   refine pd 20 24 [21, 20] ?_
   refine pu 21 25 [22, 19] ?_
   refine pu 22 26 [23, 18] ?_
   refine pd 23 27 [24, 17] ?_
   refine pd 24 28 [25, 16] ?_
   refine pd 25 29 [26, 15] ?_
   refine pd 26 30 [27, 14] ?_
   refine pd 27 31 [28, 13] ?_
   refine pd 28 32 [29, 12] ?_
   refine pd 29 33 [30, 11] ?_
   refine pd 30 34 [31, 10] ?_
   refine pu 31 35 [32, 9] ?_
   refine pu 32 36 [33, 8] ?_
   refine pd 33 37 [34, 7] ?_
   refine pd 34 38 [35, 6] ?_
   refine pd 35 39 [36, 5] ?_
   refine pd 36 40 [37, 4] ?_
   refine pd 37 41 [38, 3] ?_
   refine pd 38 42 [39, 2] ?_
   refine pd 39 43 [40, 1] ?_
   refine pu 40 44 [41] ?_
   refine done_ (done_of HT_.out (by kernel_rfl)) ?_
   try go_wp2
   go_meet
   case rel => exact ⟨_, (true), rs, H', ⟨by first | omega | exact Nat.le_refl _⟩, ⟨by (with_reducible repeat (first | refine blk_drewN ?_ _ | refine blk_drew ?_ | refine blk_alloc ?_ _)); exact BK815.out⟩, ⟨u28HB⟩⟩
  subst c5
  rw [if_pos rfl] at H
  revert H
  refine ok1 fun t817 A6 H => ?_
  by_cases c7 : t817 = true
  rotate_left
  ·replace c7 := Bool.eq_false_iff.mpr c7
   subst c7
   rw [if_neg (show ¬ (false = true) by decide)] at H
   have H' := am H
   clear H
   try go_wp2
   replace BK815 := am (blk_drew BK815.out)
   replace HB := am (below_drew1 HB.out)
   refine start_ (n := 41) (S := fun w' => w'.cell? ⟨gb815, 0, none⟩ = some (.string a0_0) ∧ w'.cell? ⟨gb815, 1, none⟩ = some (.slice A0_1 l0_1.length c0_1) ∧ w'.cell? ⟨gb815, 2, none⟩ = some (.slice A0_2 l0_2.length c0_2) ∧ w'.cell? ⟨gb815, 3, none⟩ = some (.int .i64 a0_3) ∧ w'.cell? ⟨gb815, 4, none⟩ = some (.slice A0_4 l0_4.length c0_4) ∧ w'.cell? ⟨gb815, 5, none⟩ = some (.string a0_5) ∧ w'.cell? ⟨gb815, 6, none⟩ = some (.int .i64 a0_6)) (ds := []) ⟨br true [0, 41]⟩ (by kernel_rfl) rfl (by kernel_rfl) ⟨bc BK815, bc BK815, bc BK815, bc BK815, bc BK815, bc BK815, bc BK815⟩ (fun hHeld => ?_); refine with_tabW spec_ObjOk.tab1 spec_ObjOk.bits1 (fun HT_ HW_ => ?_)
   generalize w3.drew = w27 at BK815 HB hHeld ⊢
   refine pu 0 4 [1, 40] ?_
   refine tk 1 5 [2, 39] ?_
   refine og 2 6 [3, 38] Tryd.func70 #[.agg #[.int .i64 a0_3, .slice A0_4 l0_4.length c0_4, .string a0_5]] (fun K hK => ?_)
   with_reducible refine (spec_RespOk.calls k a0_3 _ _ l0_4 a0_5 true _ ?side1 ?side2 A4.out).mono ?_
   (case side1 => exact cb HR0_4)
   (case side2 => exact HC0_4.out)
   rintro e w28 ⟨rfl, hb⟩
   refine ⟨_, rfl, ?_⟩
   replace BK815 := kb BK815 hb
   replace HB := am (below_step bl hb)
   clear hb
   refine hK.out _ _ ⟨bc BK815, bc BK815, bc BK815, bc BK815, bc BK815, bc BK815, bc BK815⟩ (fun hHeld => ?_)
   clear hK K
   refine nm 6 ?_
   refine pu 3 7 [4, 37] ?_
   refine pu 4 8 [5, 36] ?_
   refine pu 5 9 [6, 35] ?_
   refine tk 6 10 [7, 34] ?_
   refine og 7 11 [8, 33] Tryd.func71 #[.string a0_0] (fun K hK => ?_)
   with_reducible refine (spec_l3Path.calls k a0_0 false _ A6.out).mono ?_
   rintro e w' ⟨rfl, ⟨nd, rfl⟩⟩
   refine ⟨_, rfl, ?_⟩
   refine hK.out _ _ ⟨bc BK815, bc BK815, bc BK815, bc BK815, bc BK815, bc BK815, bc BK815⟩ (fun hHeld => ?_)
   clear hK K
   refine nm 11 ?_
   refine pu 8 12 [9, 32] ?_
   refine pu 9 13 [10, 31] ?_
   refine pu 10 14 [11, 30] ?_
   refine pd 11 15 [12, 29] ?_
   refine pd 12 16 [13, 28] ?_
   refine pd 13 17 [14, 27] ?_
   refine pd 14 18 [15, 26] ?_
   refine pu 15 19 [16, 25] ?_
   refine pu 16 20 [17, 24] ?_
   refine pd 17 21 [18, 23] ?_
   refine pd 18 22 [19, 22] ?_
   refine pd 19 23 [20, 21] ?_
   refine pd 20 24 [21, 20] ?_
   refine pu 21 25 [22, 19] ?_
   refine pu 22 26 [23, 18] ?_
   refine pd 23 27 [24, 17] ?_
   refine pd 24 28 [25, 16] ?_
   refine pd 25 29 [26, 15] ?_
   refine pd 26 30 [27, 14] ?_
   refine pd 27 31 [28, 13] ?_
   refine pd 28 32 [29, 12] ?_
   refine pd 29 33 [30, 11] ?_
   refine pd 30 34 [31, 10] ?_
   refine pu 31 35 [32, 9] ?_
   refine pu 32 36 [33, 8] ?_
   refine pd 33 37 [34, 7] ?_
   refine pd 34 38 [35, 6] ?_
   refine pd 35 39 [36, 5] ?_
   refine pd 36 40 [37, 4] ?_
   refine pd 37 41 [38, 3] ?_
   refine pd 38 42 [39, 2] ?_
   refine pd 39 43 [40, 1] ?_
   refine pu 40 44 [41] ?_
   refine done_ (done_of HT_.out (by kernel_rfl)) ?_
   try go_wp2
   go_meet
   case rel => exact ⟨_, (true), rs, H', ⟨by first | omega | exact Nat.le_refl _⟩, ⟨by (with_reducible repeat (first | refine blk_drewN ?_ _ | refine blk_drew ?_ | refine blk_alloc ?_ _)); exact BK815.out⟩, ⟨u28HB⟩⟩
  subst c7
  rw [if_pos rfl] at H
  revert H
  refine ok1 fun t818 A8 H => ?_
  by_cases c9 : t818 = true
  rotate_left
  ·replace c9 := Bool.eq_false_iff.mpr c9
   subst c9
   rw [if_neg (show ¬ (false = true) by decide)] at H
   have H' := am H
   clear H
   try go_wp2
   replace BK815 := am (blk_drew BK815.out)
   replace HB := am (below_drew1 HB.out)
   refine start_ (n := 41) (S := fun w' => w'.cell? ⟨gb815, 0, none⟩ = some (.string a0_0) ∧ w'.cell? ⟨gb815, 1, none⟩ = some (.slice A0_1 l0_1.length c0_1) ∧ w'.cell? ⟨gb815, 2, none⟩ = some (.slice A0_2 l0_2.length c0_2) ∧ w'.cell? ⟨gb815, 3, none⟩ = some (.int .i64 a0_3) ∧ w'.cell? ⟨gb815, 4, none⟩ = some (.slice A0_4 l0_4.length c0_4) ∧ w'.cell? ⟨gb815, 5, none⟩ = some (.string a0_5) ∧ w'.cell? ⟨gb815, 6, none⟩ = some (.int .i64 a0_6)) (ds := []) ⟨br true [0, 41]⟩ (by kernel_rfl) rfl (by kernel_rfl) ⟨bc BK815, bc BK815, bc BK815, bc BK815, bc BK815, bc BK815, bc BK815⟩ (fun hHeld => ?_); refine with_tabW spec_ObjOk.tab1 spec_ObjOk.bits1 (fun HT_ HW_ => ?_)
   generalize w3.drew = w25 at BK815 HB hHeld ⊢
   refine pu 0 4 [1, 40] ?_
   refine tk 1 5 [2, 39] ?_
   refine og 2 6 [3, 38] Tryd.func70 #[.agg #[.int .i64 a0_3, .slice A0_4 l0_4.length c0_4, .string a0_5]] (fun K hK => ?_)
   with_reducible refine (spec_RespOk.calls k a0_3 _ _ l0_4 a0_5 true _ ?side1 ?side2 A4.out).mono ?_
   (case side1 => exact cb HR0_4)
   (case side2 => exact HC0_4.out)
   rintro e w26 ⟨rfl, hb⟩
   refine ⟨_, rfl, ?_⟩
   replace BK815 := kb BK815 hb
   replace HB := am (below_step bl hb)
   clear hb
   refine hK.out _ _ ⟨bc BK815, bc BK815, bc BK815, bc BK815, bc BK815, bc BK815, bc BK815⟩ (fun hHeld => ?_)
   clear hK K
   refine nm 6 ?_
   refine pu 3 7 [4, 37] ?_
   refine pu 4 8 [5, 36] ?_
   refine pu 5 9 [6, 35] ?_
   refine tk 6 10 [7, 34] ?_
   refine og 7 11 [8, 33] Tryd.func71 #[.string a0_0] (fun K hK => ?_)
   with_reducible refine (spec_l3Path.calls k a0_0 true _ A6.out).mono ?_
   rintro e w' ⟨rfl, ⟨nd, rfl⟩⟩
   refine ⟨_, rfl, ?_⟩
   refine hK.out _ _ ⟨bc BK815, bc BK815, bc BK815, bc BK815, bc BK815, bc BK815, bc BK815⟩ (fun hHeld => ?_)
   clear hK K
   refine nm 11 ?_
   refine pu 8 12 [9, 32] ?_
   refine pu 9 13 [10, 31] ?_
   refine pu 10 14 [11, 30] ?_
   refine pu 11 15 [12, 29] ?_
   refine tk 12 16 [13, 28] ?_
   refine og 13 17 [14, 27] Tryd.func72 #[.int .i64 a0_6, .int .i64 0, .int .i64 1000000] (fun K hK => ?_)
   with_reducible refine (spec_l1In.calls a0_6 0 1000000 false _ A8.out).mono ?_
   rintro e w' ⟨rfl, ⟨nd, rfl⟩⟩
   refine ⟨_, rfl, ?_⟩
   refine hK.out _ _ ⟨bc BK815, bc BK815, bc BK815, bc BK815, bc BK815, bc BK815, bc BK815⟩ (fun hHeld => ?_)
   clear hK K
   refine nm 17 ?_
   refine pu 14 18 [15, 26] ?_
   refine pu 15 19 [16, 25] ?_
   refine pu 16 20 [17, 24] ?_
   refine pd 17 21 [18, 23] ?_
   refine pd 18 22 [19, 22] ?_
   refine pd 19 23 [20, 21] ?_
   refine pd 20 24 [21, 20] ?_
   refine pu 21 25 [22, 19] ?_
   refine pu 22 26 [23, 18] ?_
   refine pd 23 27 [24, 17] ?_
   refine pd 24 28 [25, 16] ?_
   refine pd 25 29 [26, 15] ?_
   refine pd 26 30 [27, 14] ?_
   refine pd 27 31 [28, 13] ?_
   refine pd 28 32 [29, 12] ?_
   refine pd 29 33 [30, 11] ?_
   refine pd 30 34 [31, 10] ?_
   refine pu 31 35 [32, 9] ?_
   refine pu 32 36 [33, 8] ?_
   refine pd 33 37 [34, 7] ?_
   refine pd 34 38 [35, 6] ?_
   refine pd 35 39 [36, 5] ?_
   refine pd 36 40 [37, 4] ?_
   refine pd 37 41 [38, 3] ?_
   refine pd 38 42 [39, 2] ?_
   refine pd 39 43 [40, 1] ?_
   refine pu 40 44 [41] ?_
   refine done_ (done_of HT_.out (by kernel_rfl)) ?_
   try go_wp2
   go_meet
   case rel => exact ⟨_, (true), rs, H', ⟨by first | omega | exact Nat.le_refl _⟩, ⟨by (with_reducible repeat (first | refine blk_drewN ?_ _ | refine blk_drew ?_ | refine blk_alloc ?_ _)); exact BK815.out⟩, ⟨u28HB⟩⟩
  subst c9
  rw [if_pos rfl] at H
  revert H
  refine ok1 fun t819 A10 H => ?_
  by_cases c11 : t819 = true
  rotate_left
  ·replace c11 := Bool.eq_false_iff.mpr c11
   subst c11
   rw [if_neg (show ¬ (false = true) by decide)] at H
   have H' := am H
   clear H
   try go_wp2
   replace BK815 := am (blk_drew BK815.out)
   replace HB := am (below_drew1 HB.out)
   refine start_ (n := 41) (S := fun w' => w'.cell? ⟨gb815, 0, none⟩ = some (.string a0_0) ∧ w'.cell? ⟨gb815, 1, none⟩ = some (.slice A0_1 l0_1.length c0_1) ∧ w'.cell? ⟨gb815, 2, none⟩ = some (.slice A0_2 l0_2.length c0_2) ∧ w'.cell? ⟨gb815, 3, none⟩ = some (.int .i64 a0_3) ∧ w'.cell? ⟨gb815, 4, none⟩ = some (.slice A0_4 l0_4.length c0_4) ∧ w'.cell? ⟨gb815, 5, none⟩ = some (.string a0_5) ∧ w'.cell? ⟨gb815, 6, none⟩ = some (.int .i64 a0_6)) (ds := []) ⟨br true [0, 41]⟩ (by kernel_rfl) rfl (by kernel_rfl) ⟨bc BK815, bc BK815, bc BK815, bc BK815, bc BK815, bc BK815, bc BK815⟩ (fun hHeld => ?_); refine with_tabW spec_ObjOk.tab1 spec_ObjOk.bits1 (fun HT_ HW_ => ?_)
   generalize w3.drew = w23 at BK815 HB hHeld ⊢
   refine pu 0 4 [1, 40] ?_
   refine tk 1 5 [2, 39] ?_
   refine og 2 6 [3, 38] Tryd.func70 #[.agg #[.int .i64 a0_3, .slice A0_4 l0_4.length c0_4, .string a0_5]] (fun K hK => ?_)
   with_reducible refine (spec_RespOk.calls k a0_3 _ _ l0_4 a0_5 true _ ?side1 ?side2 A4.out).mono ?_
   (case side1 => exact cb HR0_4)
   (case side2 => exact HC0_4.out)
   rintro e w24 ⟨rfl, hb⟩
   refine ⟨_, rfl, ?_⟩
   replace BK815 := kb BK815 hb
   replace HB := am (below_step bl hb)
   clear hb
   refine hK.out _ _ ⟨bc BK815, bc BK815, bc BK815, bc BK815, bc BK815, bc BK815, bc BK815⟩ (fun hHeld => ?_)
   clear hK K
   refine nm 6 ?_
   refine pu 3 7 [4, 37] ?_
   refine pu 4 8 [5, 36] ?_
   refine pu 5 9 [6, 35] ?_
   refine tk 6 10 [7, 34] ?_
   refine og 7 11 [8, 33] Tryd.func71 #[.string a0_0] (fun K hK => ?_)
   with_reducible refine (spec_l3Path.calls k a0_0 true _ A6.out).mono ?_
   rintro e w' ⟨rfl, ⟨nd, rfl⟩⟩
   refine ⟨_, rfl, ?_⟩
   refine hK.out _ _ ⟨bc BK815, bc BK815, bc BK815, bc BK815, bc BK815, bc BK815, bc BK815⟩ (fun hHeld => ?_)
   clear hK K
   refine nm 11 ?_
   refine pu 8 12 [9, 32] ?_
   refine pu 9 13 [10, 31] ?_
   refine pu 10 14 [11, 30] ?_
   refine pu 11 15 [12, 29] ?_
   refine tk 12 16 [13, 28] ?_
   refine og 13 17 [14, 27] Tryd.func72 #[.int .i64 a0_6, .int .i64 0, .int .i64 1000000] (fun K hK => ?_)
   with_reducible refine (spec_l1In.calls a0_6 0 1000000 true _ A8.out).mono ?_
   rintro e w' ⟨rfl, ⟨nd, rfl⟩⟩
   refine ⟨_, rfl, ?_⟩
   refine hK.out _ _ ⟨bc BK815, bc BK815, bc BK815, bc BK815, bc BK815, bc BK815, bc BK815⟩ (fun hHeld => ?_)
   clear hK K
   refine nm 17 ?_
   refine pu 14 18 [15, 26] ?_
   refine pu 15 19 [16, 25] ?_
   refine pu 16 20 [17, 24] ?_
   refine pu 17 21 [18, 23] ?_
   refine tk 18 22 [19, 22] ?_
   refine og 19 23 [20, 21] Tryd.func73 #[.slice A0_1 l0_1.length c0_1] (fun K hK => ?_)
   with_reducible refine (spec_l9Names.calls k _ _ l0_1 false _ ?side1 ?side2 A10.out).mono ?_
   (case side1 => repeat (first | exact (Kd.C_below HR0_1.out bl) | (with_reducible refine Kd.C_alloc ?_ _) | (with_reducible refine Kd.C_drewN ?_ _) | (with_reducible refine Kd.C_drew ?_)))
   (case side2 => exact HC0_1.out)
   rintro e w' ⟨rfl, ⟨nd, rfl⟩⟩
   refine ⟨_, rfl, ?_⟩
   refine hK.out _ _ ⟨bc BK815, bc BK815, bc BK815, bc BK815, bc BK815, bc BK815, bc BK815⟩ (fun hHeld => ?_)
   clear hK K
   refine nm 23 ?_
   refine pu 20 24 [21, 20] ?_
   refine pu 21 25 [22, 19] ?_
   refine pu 22 26 [23, 18] ?_
   refine pd 23 27 [24, 17] ?_
   refine pd 24 28 [25, 16] ?_
   refine pd 25 29 [26, 15] ?_
   refine pd 26 30 [27, 14] ?_
   refine pd 27 31 [28, 13] ?_
   refine pd 28 32 [29, 12] ?_
   refine pd 29 33 [30, 11] ?_
   refine pd 30 34 [31, 10] ?_
   refine pu 31 35 [32, 9] ?_
   refine pu 32 36 [33, 8] ?_
   refine pd 33 37 [34, 7] ?_
   refine pd 34 38 [35, 6] ?_
   refine pd 35 39 [36, 5] ?_
   refine pd 36 40 [37, 4] ?_
   refine pd 37 41 [38, 3] ?_
   refine pd 38 42 [39, 2] ?_
   refine pd 39 43 [40, 1] ?_
   refine pu 40 44 [41] ?_
   refine done_ (done_of HT_.out (by kernel_rfl)) ?_
   try go_wp2
   go_meet
   case rel => exact ⟨_, (true), rs, H', ⟨by first | omega | exact Nat.le_refl _⟩, ⟨by (with_reducible repeat (first | refine blk_drewN ?_ _ | refine blk_drew ?_ | refine blk_alloc ?_ _)); exact BK815.out⟩, ⟨u28HB⟩⟩
  subst c11
  rw [if_pos rfl] at H
  revert H
  refine ok1 fun t820 A12 H => ?_
  revert H
  refine ok1 fun t823 A13 H => ?_
  by_cases c14 : t823 = true
  ·subst c14
   rw [if_pos rfl] at H
   have H' := am H
   clear H
   try go_wp2
   replace BK815 := am (blk_drew BK815.out)
   replace HB := am (below_drew1 HB.out)
   refine start_ (n := 41) (S := fun w' => w'.cell? ⟨gb815, 0, none⟩ = some (.string a0_0) ∧ w'.cell? ⟨gb815, 1, none⟩ = some (.slice A0_1 l0_1.length c0_1) ∧ w'.cell? ⟨gb815, 2, none⟩ = some (.slice A0_2 l0_2.length c0_2) ∧ w'.cell? ⟨gb815, 3, none⟩ = some (.int .i64 a0_3) ∧ w'.cell? ⟨gb815, 4, none⟩ = some (.slice A0_4 l0_4.length c0_4) ∧ w'.cell? ⟨gb815, 5, none⟩ = some (.string a0_5) ∧ w'.cell? ⟨gb815, 6, none⟩ = some (.int .i64 a0_6)) (ds := []) ⟨br true [0, 41]⟩ (by kernel_rfl) rfl (by kernel_rfl) ⟨bc BK815, bc BK815, bc BK815, bc BK815, bc BK815, bc BK815, bc BK815⟩ (fun hHeld => ?_); refine with_tabW spec_ObjOk.tab1 spec_ObjOk.bits1 (fun HT_ HW_ => ?_)
   generalize w3.drew = w15 at BK815 HB hHeld ⊢
   refine pu 0 4 [1, 40] ?_
   refine tk 1 5 [2, 39] ?_
   refine og 2 6 [3, 38] Tryd.func70 #[.agg #[.int .i64 a0_3, .slice A0_4 l0_4.length c0_4, .string a0_5]] (fun K hK => ?_)
   with_reducible refine (spec_RespOk.calls k a0_3 _ _ l0_4 a0_5 true _ ?side1 ?side2 A4.out).mono ?_
   (case side1 => exact cb HR0_4)
   (case side2 => exact HC0_4.out)
   rintro e w16 ⟨rfl, hb⟩
   refine ⟨_, rfl, ?_⟩
   replace BK815 := kb BK815 hb
   replace HB := am (below_step bl hb)
   clear hb
   refine hK.out _ _ ⟨bc BK815, bc BK815, bc BK815, bc BK815, bc BK815, bc BK815, bc BK815⟩ (fun hHeld => ?_)
   clear hK K
   refine nm 6 ?_
   refine pu 3 7 [4, 37] ?_
   refine pu 4 8 [5, 36] ?_
   refine pu 5 9 [6, 35] ?_
   refine tk 6 10 [7, 34] ?_
   refine og 7 11 [8, 33] Tryd.func71 #[.string a0_0] (fun K hK => ?_)
   with_reducible refine (spec_l3Path.calls k a0_0 true _ A6.out).mono ?_
   rintro e w' ⟨rfl, ⟨nd, rfl⟩⟩
   refine ⟨_, rfl, ?_⟩
   refine hK.out _ _ ⟨bc BK815, bc BK815, bc BK815, bc BK815, bc BK815, bc BK815, bc BK815⟩ (fun hHeld => ?_)
   clear hK K
   refine nm 11 ?_
   refine pu 8 12 [9, 32] ?_
   refine pu 9 13 [10, 31] ?_
   refine pu 10 14 [11, 30] ?_
   refine pu 11 15 [12, 29] ?_
   refine tk 12 16 [13, 28] ?_
   refine og 13 17 [14, 27] Tryd.func72 #[.int .i64 a0_6, .int .i64 0, .int .i64 1000000] (fun K hK => ?_)
   with_reducible refine (spec_l1In.calls a0_6 0 1000000 true _ A8.out).mono ?_
   rintro e w' ⟨rfl, ⟨nd, rfl⟩⟩
   refine ⟨_, rfl, ?_⟩
   refine hK.out _ _ ⟨bc BK815, bc BK815, bc BK815, bc BK815, bc BK815, bc BK815, bc BK815⟩ (fun hHeld => ?_)
   clear hK K
   refine nm 17 ?_
   refine pu 14 18 [15, 26] ?_
   refine pu 15 19 [16, 25] ?_
   refine pu 16 20 [17, 24] ?_
   refine pu 17 21 [18, 23] ?_
   refine tk 18 22 [19, 22] ?_
   refine og 19 23 [20, 21] Tryd.func73 #[.slice A0_1 l0_1.length c0_1] (fun K hK => ?_)
   with_reducible refine (spec_l9Names.calls k _ _ l0_1 true _ ?side1 ?side2 A10.out).mono ?_
   (case side1 => repeat (first | exact (Kd.C_below HR0_1.out bl) | (with_reducible refine Kd.C_alloc ?_ _) | (with_reducible refine Kd.C_drewN ?_ _) | (with_reducible refine Kd.C_drew ?_)))
   (case side2 => exact HC0_1.out)
   rintro e w' ⟨rfl, ⟨nd, rfl⟩⟩
   refine ⟨_, rfl, ?_⟩
   refine hK.out _ _ ⟨bc BK815, bc BK815, bc BK815, bc BK815, bc BK815, bc BK815, bc BK815⟩ (fun hHeld => ?_)
   clear hK K
   refine nm 23 ?_
   refine pu 20 24 [21, 20] ?_
   refine pu 21 25 [22, 19] ?_
   refine pu 22 26 [23, 18] ?_
   refine pu 23 27 [24, 17] ?_
   refine pu 25 29 [24, 1, 1, 15] ?_
   refine pu 26 30 [24, 1, 2, 14] ?_
   refine tk 24 28 [27, 14] ?_
   refine tk 27 31 [28, 13] ?_
   refine og 28 32 [29, 12] Tryd.func75 #[.slice A0_4 l0_4.length c0_4] (fun K hK => ?_)
   with_reducible refine (spec_VaryOf.calls k _ _ l0_4 t820 _ ?side1 ?side2 A12.out).mono ?_
   (case side1 => repeat (first | exact (Kd.C_below HR0_4.out bl) | (with_reducible refine Kd.C_alloc ?_ _) | (with_reducible refine Kd.C_drewN ?_ _) | (with_reducible refine Kd.C_drew ?_)))
   (case side2 => exact HC0_4.out)
   rintro e w17 ⟨v821, rfl, ho0, hb⟩
   refine ⟨_, rfl, ?_⟩
   have HO822 := am (Kd.R_lower ho0 (below_size bl))
   replace BK815 := kb BK815 hb
   replace HB := am (below_step bl hb)
   clear hb ho0
   obtain ⟨Ao18, co18, eo18⟩ := Kd.R_slice HO822.out
   (first | subst eo18 | (injection eo18 with f1_ f2_ f3_; have f4_ := f1_.symm; have f5_ := f3_.symm; clear f1_ f2_ f3_; subst f4_; subst f5_))
   refine hK.out _ _ ⟨bc BK815, bc BK815, bc BK815, bc BK815, bc BK815, bc BK815, bc BK815⟩ (fun hHeld => ?_)
   clear hK K
   refine nm 32 ?_
   refine og 29 33 [30, 11] Tryd.func74 #[.slice A0_1 l0_1.length c0_1, .slice Ao18 t820.length co18] (fun K hK => ?_)
   with_reducible refine (spec_l8Texts.calls k _ _ l0_1 _ _ t820 true _ ?side1 ?side2 ?side3 ?side4 A13.out).mono ?_
   (case side1 => exact cb HR0_1)
   (case side2 => exact HC0_1.out)
   (case side3 => exact rc HO822)
   (case side4 => exact (Kd.R_reads' HO822.out).2.1)
   rintro e w' ⟨rfl, ⟨nd, rfl⟩⟩
   refine ⟨_, rfl, ?_⟩
   refine hK.out _ _ ⟨bc BK815, bc BK815, bc BK815, bc BK815, bc BK815, bc BK815, bc BK815⟩ (fun hHeld => ?_)
   clear hK K
   refine nm 33 ?_
   refine pu 30 34 [31, 10] ?_
   refine pu 31 35 [32, 9] ?_
   refine pu 32 36 [33, 8] ?_
   refine pu 33 37 [34, 7] ?_
   refine pu 36 40 [34, 2, 1, 4] ?_
   refine tk 34 38 [35, 1, 1, 4] ?_
   refine pu 35 39 [37, 4] ?_
   refine tk 37 41 [38, 3] ?_
   refine pu 38 42 [39, 2] ?_
   refine pu 39 43 [40, 1] ?_
   refine pu 40 44 [41] ?_
   refine done_ (done_of HT_.out (by kernel_rfl)) ?_
   try go_wp2
   go_meet
   case rel => exact ⟨_, (((l0_2.length : Int) != (l0_1.length : Int))), rs, H', ⟨by first | omega | exact Nat.le_refl _⟩, ⟨by (with_reducible repeat (first | refine blk_drewN ?_ _ | refine blk_drew ?_ | refine blk_alloc ?_ _)); exact BK815.out⟩, ⟨u28HB⟩⟩
  replace c14 := Bool.eq_false_iff.mpr c14
  subst c14
  rw [if_neg (show ¬ (false = true) by decide)] at H
  have H' := am H
  clear H
  try go_wp2
  replace BK815 := am (blk_drew BK815.out)
  replace HB := am (below_drew1 HB.out)
  refine start_ (n := 41) (S := fun w' => w'.cell? ⟨gb815, 0, none⟩ = some (.string a0_0) ∧ w'.cell? ⟨gb815, 1, none⟩ = some (.slice A0_1 l0_1.length c0_1) ∧ w'.cell? ⟨gb815, 2, none⟩ = some (.slice A0_2 l0_2.length c0_2) ∧ w'.cell? ⟨gb815, 3, none⟩ = some (.int .i64 a0_3) ∧ w'.cell? ⟨gb815, 4, none⟩ = some (.slice A0_4 l0_4.length c0_4) ∧ w'.cell? ⟨gb815, 5, none⟩ = some (.string a0_5) ∧ w'.cell? ⟨gb815, 6, none⟩ = some (.int .i64 a0_6)) (ds := []) ⟨br true [0, 41]⟩ (by kernel_rfl) rfl (by kernel_rfl) ⟨bc BK815, bc BK815, bc BK815, bc BK815, bc BK815, bc BK815, bc BK815⟩ (fun hHeld => ?_); refine with_tabW spec_ObjOk.tab1 spec_ObjOk.bits1 (fun HT_ HW_ => ?_)
  generalize w3.drew = w19 at BK815 HB hHeld ⊢
  refine pu 0 4 [1, 40] ?_
  refine tk 1 5 [2, 39] ?_
  refine og 2 6 [3, 38] Tryd.func70 #[.agg #[.int .i64 a0_3, .slice A0_4 l0_4.length c0_4, .string a0_5]] (fun K hK => ?_)
  with_reducible refine (spec_RespOk.calls k a0_3 _ _ l0_4 a0_5 true _ ?side1 ?side2 A4.out).mono ?_
  (case side1 => exact cb HR0_4)
  (case side2 => exact HC0_4.out)
  rintro e w20 ⟨rfl, hb⟩
  refine ⟨_, rfl, ?_⟩
  replace BK815 := kb BK815 hb
  replace HB := am (below_step bl hb)
  clear hb
  refine hK.out _ _ ⟨bc BK815, bc BK815, bc BK815, bc BK815, bc BK815, bc BK815, bc BK815⟩ (fun hHeld => ?_)
  clear hK K
  refine nm 6 ?_
  refine pu 3 7 [4, 37] ?_
  refine pu 4 8 [5, 36] ?_
  refine pu 5 9 [6, 35] ?_
  refine tk 6 10 [7, 34] ?_
  refine og 7 11 [8, 33] Tryd.func71 #[.string a0_0] (fun K hK => ?_)
  with_reducible refine (spec_l3Path.calls k a0_0 true _ A6.out).mono ?_
  rintro e w' ⟨rfl, ⟨nd, rfl⟩⟩
  refine ⟨_, rfl, ?_⟩
  refine hK.out _ _ ⟨bc BK815, bc BK815, bc BK815, bc BK815, bc BK815, bc BK815, bc BK815⟩ (fun hHeld => ?_)
  clear hK K
  refine nm 11 ?_
  refine pu 8 12 [9, 32] ?_
  refine pu 9 13 [10, 31] ?_
  refine pu 10 14 [11, 30] ?_
  refine pu 11 15 [12, 29] ?_
  refine tk 12 16 [13, 28] ?_
  refine og 13 17 [14, 27] Tryd.func72 #[.int .i64 a0_6, .int .i64 0, .int .i64 1000000] (fun K hK => ?_)
  with_reducible refine (spec_l1In.calls a0_6 0 1000000 true _ A8.out).mono ?_
  rintro e w' ⟨rfl, ⟨nd, rfl⟩⟩
  refine ⟨_, rfl, ?_⟩
  refine hK.out _ _ ⟨bc BK815, bc BK815, bc BK815, bc BK815, bc BK815, bc BK815, bc BK815⟩ (fun hHeld => ?_)
  clear hK K
  refine nm 17 ?_
  refine pu 14 18 [15, 26] ?_
  refine pu 15 19 [16, 25] ?_
  refine pu 16 20 [17, 24] ?_
  refine pu 17 21 [18, 23] ?_
  refine tk 18 22 [19, 22] ?_
  refine og 19 23 [20, 21] Tryd.func73 #[.slice A0_1 l0_1.length c0_1] (fun K hK => ?_)
  with_reducible refine (spec_l9Names.calls k _ _ l0_1 true _ ?side1 ?side2 A10.out).mono ?_
  (case side1 => repeat (first | exact (Kd.C_below HR0_1.out bl) | (with_reducible refine Kd.C_alloc ?_ _) | (with_reducible refine Kd.C_drewN ?_ _) | (with_reducible refine Kd.C_drew ?_)))
  (case side2 => exact HC0_1.out)
  rintro e w' ⟨rfl, ⟨nd, rfl⟩⟩
  refine ⟨_, rfl, ?_⟩
  refine hK.out _ _ ⟨bc BK815, bc BK815, bc BK815, bc BK815, bc BK815, bc BK815, bc BK815⟩ (fun hHeld => ?_)
  clear hK K
  refine nm 23 ?_
  refine pu 20 24 [21, 20] ?_
  refine pu 21 25 [22, 19] ?_
  refine pu 22 26 [23, 18] ?_
  refine pu 23 27 [24, 17] ?_
  refine pu 25 29 [24, 1, 1, 15] ?_
  refine pu 26 30 [24, 1, 2, 14] ?_
  refine tk 24 28 [27, 14] ?_
  refine tk 27 31 [28, 13] ?_
  refine og 28 32 [29, 12] Tryd.func75 #[.slice A0_4 l0_4.length c0_4] (fun K hK => ?_)
  with_reducible refine (spec_VaryOf.calls k _ _ l0_4 t820 _ ?side1 ?side2 A12.out).mono ?_
  (case side1 => repeat (first | exact (Kd.C_below HR0_4.out bl) | (with_reducible refine Kd.C_alloc ?_ _) | (with_reducible refine Kd.C_drewN ?_ _) | (with_reducible refine Kd.C_drew ?_)))
  (case side2 => exact HC0_4.out)
  rintro e w21 ⟨v821, rfl, ho0, hb⟩
  refine ⟨_, rfl, ?_⟩
  have HO822 := am (Kd.R_lower ho0 (below_size bl))
  replace BK815 := kb BK815 hb
  replace HB := am (below_step bl hb)
  clear hb ho0
  obtain ⟨Ao22, co22, eo22⟩ := Kd.R_slice HO822.out
  (first | subst eo22 | (injection eo22 with f1_ f2_ f3_; have f4_ := f1_.symm; have f5_ := f3_.symm; clear f1_ f2_ f3_; subst f4_; subst f5_))
  refine hK.out _ _ ⟨bc BK815, bc BK815, bc BK815, bc BK815, bc BK815, bc BK815, bc BK815⟩ (fun hHeld => ?_)
  clear hK K
  refine nm 32 ?_
  refine og 29 33 [30, 11] Tryd.func74 #[.slice A0_1 l0_1.length c0_1, .slice Ao22 t820.length co22] (fun K hK => ?_)
  with_reducible refine (spec_l8Texts.calls k _ _ l0_1 _ _ t820 false _ ?side1 ?side2 ?side3 ?side4 A13.out).mono ?_
  (case side1 => exact cb HR0_1)
  (case side2 => exact HC0_1.out)
  (case side3 => exact rc HO822)
  (case side4 => exact (Kd.R_reads' HO822.out).2.1)
  rintro e w' ⟨rfl, ⟨nd, rfl⟩⟩
  refine ⟨_, rfl, ?_⟩
  refine hK.out _ _ ⟨bc BK815, bc BK815, bc BK815, bc BK815, bc BK815, bc BK815, bc BK815⟩ (fun hHeld => ?_)
  clear hK K
  refine nm 33 ?_
  refine pu 30 34 [31, 10] ?_
  refine pu 31 35 [32, 9] ?_
  refine pu 32 36 [33, 8] ?_
  refine pd 33 37 [34, 7] ?_
  refine pd 34 38 [35, 6] ?_
  refine pd 35 39 [36, 5] ?_
  refine pd 36 40 [37, 4] ?_
  refine pd 37 41 [38, 3] ?_
  refine pd 38 42 [39, 2] ?_
  refine pd 39 43 [40, 1] ?_
  refine pu 40 44 [41] ?_
  refine done_ (done_of HT_.out (by kernel_rfl)) ?_
  try go_wp2
  go_meet
  case rel => exact ⟨_, (true), rs, H', ⟨by first | omega | exact Nat.le_refl _⟩, ⟨by (with_reducible repeat (first | refine blk_drewN ?_ _ | refine blk_drew ?_ | refine blk_alloc ?_ _)); exact BK815.out⟩, ⟨u28HB⟩⟩
 case rest =>
  clear HC2
  try clear p2
  try clear c5
  try clear c7
  obtain ⟨kq, x44_1, rfl, HA, HJ1, BK815, HB⟩ := hcut
  cases kq with
  | zero => exact absurd HA.out (by simp [spec_ObjOk.j0])
  | succ kj1 =>
   have H := HA.out
   clear HA
   simp only [spec_ObjOk.j0] at H
   by_cases c31 : x44_1 = true
   ·subst c31
    rw [if_pos rfl] at H
    obtain rfl := Option.some.inj H
    go_wp2
    go_ret
    exact ⟨rf, bl⟩
   replace c31 := Bool.eq_false_iff.mpr c31
   subst c31
   rw [if_neg (show ¬ (false = true) by decide)] at H
   have H' := am H
   clear H
   go_wp2
   (try simp only [Act.put, List.setIfInBounds_toArray, List.set_cons_zero, List.set_cons_succ])
   go_loopg [3] kj1 (fun kq v3 w' => ∃ (x3_2 : Int), v3 = .int .i64 x3_2 ∧ Aside0 (spec_ObjOk.l0 kq x3_2 a0_0 l0_1 l0_2 a0_3 l0_4 a0_5 a0_6 = some r) ∧ Aside0 (kq ≤ kj1) ∧ Aside0 (w'.heap[gb815]? = some (.cells #[.string a0_0, (.slice A0_1 l0_1.length c0_1), (.slice A0_2 l0_2.length c0_2), .int .i64 a0_3, (.slice A0_4 l0_4.length c0_4), .string a0_5, .int .i64 a0_6] 55 (0, 0))) ∧ Aside0 (Below w.heap.size w w'))
   case atStart => exact ⟨(0), rs, H', ⟨Nat.le_refl _⟩, ⟨by (with_reducible repeat (first | refine blk_drewN ?_ _ | refine blk_drew ?_ | refine blk_alloc ?_ _)); exact BK815.out⟩, ⟨u28HB⟩⟩
   case round =>
    clear H'
    try clear p2
    try clear c3
    try clear c5
    try clear c7
    try clear c31
    try clear p2
    obtain ⟨x3_2, rfl, HA, HK2, BK815, HB⟩ := hrel
    cases gk with
    | zero => exact absurd HA.out (by simp [spec_ObjOk.l0])
    | succ k2 =>
     have H := HA.out
     clear HA
     simp only [spec_ObjOk.l0] at H
     by_cases c32 : x3_2 < (l0_2.length : Int)
     rotate_left
     ·rw [if_neg c32] at H
      have c32b0 := decide_eq_false c32
      clear c32
      obtain rfl := Option.some.inj H
      obtain ⟨z38_0, y38_0, z38_1, y38_1, z38_2, y38_2, z38_3, y38_3, z38_4, y38_4, z38_5, y38_5, z38_6, y38_6⟩ := cl7 BK815
      go_wp2
      go_ret
      exact ⟨rf, bl⟩
     rw [if_pos c32] at H
     have c32b0 := decide_eq_true c32
     clear c32
     revert H
     refine ifn fun c33 H => ?_
     have c33b0 := decide_eq_true c33
     clear c33
     revert H
     refine ok1 fun t825 A34 H => ?_
     by_cases c35 : t825 = true
     rotate_left
     ·replace c35 := Bool.eq_false_iff.mpr c35
      subst c35
      rw [if_neg (show ¬ (false = true) by decide)] at H
      obtain rfl := Option.some.inj H
      obtain ⟨z37_0, y37_0, z37_1, y37_1, z37_2, y37_2, z37_3, y37_3, z37_4, y37_4, z37_5, y37_5, z37_6, y37_6⟩ := cl7 BK815
      have p824 : 0 ≤ (x3_2 : Int) := od
      have q824 : x3_2 < (l0_2.length : Int) := od
      obtain ⟨ad824, e824, hx824_0⟩ := Kd.at_string HR0_2.out x3_2 p824 q824
      cases e824
      replace hx824_0 := hcw hx824_0
      replace p824 := eq_true p824
      replace q824 := eq_true q824
      go_wp2_with (first | (refine gl 57 Tryd.func76 #[.string (rdOf ByteArray.empty l0_2 x3_2)] ?_; (with_reducible refine (spec_ValueOk.calls k2 (rdOf ByteArray.empty l0_2 x3_2) false _ A34.out).mono ?_); rintro e w' ⟨rfl, ⟨nd, rfl⟩⟩; refine ⟨_, rfl, ?_⟩))
      go_ret
      exact ⟨rf, bl⟩
     subst c35
     rw [if_pos rfl] at H
     have H' := am H
     clear H
     obtain ⟨z36_0, y36_0, z36_1, y36_1, z36_2, y36_2, z36_3, y36_3, z36_4, y36_4, z36_5, y36_5, z36_6, y36_6⟩ := cl7 BK815
     have p824 : 0 ≤ (x3_2 : Int) := od
     have q824 : x3_2 < (l0_2.length : Int) := od
     obtain ⟨ad824, e824, hx824_0⟩ := Kd.at_string HR0_2.out x3_2 p824 q824
     cases e824
     replace hx824_0 := hcw hx824_0
     replace p824 := eq_true p824
     replace q824 := eq_true q824
     go_wp2_with (first | (refine gl 57 Tryd.func76 #[.string (rdOf ByteArray.empty l0_2 x3_2)] ?_; (with_reducible refine (spec_ValueOk.calls k2 (rdOf ByteArray.empty l0_2 x3_2) true _ A34.out).mono ?_); rintro e w' ⟨rfl, ⟨nd, rfl⟩⟩; refine ⟨_, rfl, ?_⟩))
     go_roundg k2
     case measure => have := HJ1.out; have := HK2.out; omega
     case rel => exact ⟨(wrap64 (x3_2 + 1)), rs, H', ⟨by have := HJ1.out; have := HK2.out; omega⟩, ⟨by (with_reducible repeat (first | refine blk_drewN ?_ _ | refine blk_drew ?_ | refine blk_alloc ?_ _)); exact BK815.out⟩, ⟨u28HB⟩⟩

/-! ### laws_toStringS: function 77 -/
theorem u77HB {p : Prop} (h : p := by repeat (first | (with_reducible first | exact HB.out | apply below_alloc | apply pw_below_drewN | apply below_drew1) | exact HB.out)) : p := h
def laws_toStringS.l0 : Nat → List ByteArray → List ByteArray → Int → Option (List ByteArray)
 | 0, _, _, _ => none
 | k + 1, x0, x3, x4 => if x4 < (x0.length : Int) then (if 0 ≤ x4 then (if x4 < (x3.length : Int) then (laws_toStringS.l0 k x0 (x3.set (x4 : Int).toNat (rdOf ByteArray.empty x0 x4)) (wrap64 (x4 + 1))) else (none)) else (none)) else (some x3)
def laws_toStringS.f (k : Nat) (l0 : List ByteArray) : Option (List ByteArray) := if 0 ≤ (l0.length : Int) then (if ((l0.length : Int) : Int).toNat ≤ 17592186044416 then (laws_toStringS.l0 k l0 (List.replicate ((l0.length : Int) : Int).toNat (⟨#[]⟩ : ByteArray)) 0) else (none)) else (none)
theorem laws_toStringS.mono_l : ∀ k, (∀ y0 y1 y2, LeO (laws_toStringS.l0 k y0 y1 y2) (laws_toStringS.l0 (k + 1) y0 y1 y2))
 | 0 => fun _ _ _ r h => by simp [laws_toStringS.l0] at h
 | k + 1 => by
  have ih0 := laws_toStringS.mono_l k
  ·intro y0 y1 y2
   unfold laws_toStringS.l0
   exact mo
theorem laws_toStringS.mono : ∀ a0 k, LeO (laws_toStringS.f k a0) (laws_toStringS.f (k + 1) a0) := by
 intro a0 k
 have ih0 := laws_toStringS.mono_l k
 unfold laws_toStringS.f
 exact mo
set_option maxHeartbeats 8000000 in
set_option maxRecDepth 100000 in
theorem laws_toStringS.calls (k : Nat) (A0 : Option Addr) (c0 : Nat) (l0 : List ByteArray) (r : List ByteArray) (w : World) (hr0 : Kd.C Kd.string w A0 l0.length l0) (hc0 : l0.length ≤ c0) (h : laws_toStringS.f k l0 = some r) :
  Calls Tryd.prog 77 #[.slice A0 l0.length c0] w fun e w' => ∃ v0_ : Value, e = .returned (v0_) ∧ Kd.R Kd.string 9 w' w.heap.size (fun _ => True) v0_ r ∧ Below w.heap.size w w' := by
 have HR0 := am hr0
 have HC0 := am hc0
 clear hr0 hc0
 have HB := am (Below.refl w.heap.size w)
 unfold laws_toStringS.f at h
 have H := h
 clear h
 revert H
 refine ifn fun c2 H => ?_
 have c2b0 := eq_true c2
 have c2b1 := decide_eq_true c2
 clear c2
 revert H
 refine ifn fun c3 H => ?_
 have c3b0 := eq_true c3
 have c3b1 := decide_eq_true c3
 clear c3
 obtain ⟨y826, hy826⟩ : ∃ y_ : List ByteArray, y_ = (List.replicate ((l0.length : Int) : Int).toNat (⟨#[]⟩ : ByteArray)) := ⟨_, rfl⟩
 replace H : (laws_toStringS.l0 k l0 y826 0) = some r := by first | (rw [hy826]; with_reducible exact H) | (have H2_ := (Option.bind_some _ _).symm.trans H; rw [hy826]; with_reducible exact H2_) | (have H2_ := (Option.bind_some _ _).symm.trans H; with_reducible exact H2_) | with_reducible exact H | (rw [hy826]; exact H) | exact H
 have Ny826 := am hy826
 clear hy826
 have H' := am H
 clear H
 go_enter Tryd.func77, Tryd.ntmps77
 go_wp2_with (first | ((with_reducible refine gate_dst (N := 7) rfl ?_); refine Kd.R_make Kd.string _ 9 rfl (N := 7) rfl 47 _ _ rfl (l0.length : Int) rfl rfl Tryd.underlying47 (.string ⟨#[]⟩) 16 info9 rfl (by decide) (by omega) (⟨#[]⟩ : ByteArray) (ok := fun _ => True) (okp := fun _ => True) rfl (fun _ hk => hk) trivial (od) (Nat.le_trans (Nat.mul_le_mul_right _ (od : (l0.length : Int).toNat ≤ 17592186044416)) (by omega)) (Below.refl _ _) (Nat.le_refl _) ?_; intro v827 w4 ho5 hb hg_ hnew_; clear hg_ hnew_; (first | rw [← Ny826.out] at ho5 | (simp only [Int.reduceToNat] at ho5; rw [← Ny826.out] at ho5)); have HO828 := am (Kd.R_lower ho5 (below_size bl)); replace HB := am (below_step bl hb); clear hb ho5))
 (try simp only [Act.put, List.setIfInBounds_toArray, List.set_cons_zero, List.set_cons_succ])
 go_loopg [4] k (fun kq v4 w' => ∃ (x3_1 : List ByteArray) (x4_1 : Int), v4 = .int .i64 x4_1 ∧ Aside0 (laws_toStringS.l0 kq l0 x3_1 x4_1 = some r) ∧ Aside0 (kq ≤ k) ∧ Aside0 (Kd.R Kd.string 9 w' w.heap.size (fun _ => True) v827 x3_1) ∧ Aside0 (Below w.heap.size w w'))
 case atStart => exact ⟨(y826), (0), rs, H', ⟨Nat.le_refl _⟩, ⟨by (with_reducible repeat (first | apply Kd.R_alloc | apply Kd.R_drewN | apply Kd.R_drew)); exact HO828.out⟩, ⟨u77HB⟩⟩
 case round =>
  clear H'
  try clear c2
  try clear c2b0
  try clear c2b1
  try clear p2
  try clear c3
  try clear c3b0
  try clear c3b1
  obtain ⟨x3_1, x4_1, rfl, HA, HK1, HO_3, HB⟩ := hrel
  cases gk with
  | zero => exact absurd HA.out (by simp [laws_toStringS.l0])
  | succ k1 =>
   have H := HA.out
   clear HA
   simp only [laws_toStringS.l0] at H
   by_cases c6 : x4_1 < (l0.length : Int)
   rotate_left
   ·rw [if_neg c6] at H
    have c6b0 := decide_eq_false c6
    clear c6
    obtain rfl := Option.some.inj H
    go_wp2
    go_ret
    exact ⟨_, rf, by (with_reducible repeat (first | apply Kd.R_alloc | apply Kd.R_drewN | apply Kd.R_drew)); exact HO_3.out, bl⟩
   rw [if_pos c6] at H
   have c6b0 := decide_eq_true c6
   clear c6
   revert H
   refine ifn fun c7 H => ?_
   have c7b0 := decide_eq_true c7
   clear c7
   revert H
   refine ifn fun c8 H => ?_
   have c8b0 := decide_eq_true c8
   clear c8
   obtain ⟨y830, hy830⟩ : ∃ y_ : List ByteArray, y_ = (x3_1.set (x4_1 : Int).toNat (rdOf ByteArray.empty l0 x4_1)) := ⟨_, rfl⟩
   replace H : (laws_toStringS.l0 k1 l0 y830 (wrap64 (x4_1 + 1))) = some r := by first | (rw [hy830]; with_reducible exact H) | (have H2_ := (Option.bind_some _ _).symm.trans H; rw [hy830]; with_reducible exact H2_) | (have H2_ := (Option.bind_some _ _).symm.trans H; with_reducible exact H2_) | with_reducible exact H | (rw [hy830]; exact H) | exact H
   have Ny830 := am hy830
   clear hy830
   have H' := am H
   clear H
   have p829 : 0 ≤ (x4_1 : Int) := od
   have q829 : x4_1 < (l0.length : Int) := od
   obtain ⟨ad829, e829, hx829_0⟩ := Kd.at_string HR0.out x4_1 p829 q829
   cases e829
   replace hx829_0 := hcw hx829_0
   replace p829 := eq_true p829
   replace q829 := eq_true q829
   have p9 : 0 ≤ (x4_1 : Int) := od
   have q9 : (x4_1 : Int) < ((x3_1.length : Int) : Int) := od
   obtain ⟨go9, co9, eo9, gb9, gl9, cl9, HG9⟩ := Kd.R_form HO_3.out (by omega)
   (first | cases eo9 | (injection eo9 with ea_ en_ ec_; (first | subst ea_ | (injection ea_ with ea_; subst ea_)); subst ec_; clear en_))
   have GB9 := am gb9
   have GG9 := am HG9
   clear gb9 gl9 HG9
   obtain ⟨hx9_0, hf9_0⟩ := Kd.R_celln (⟨#[]⟩ : ByteArray) HO_3.out (x4_1 : Int) p9 q9
   replace p9 := eq_true p9
   replace q9 := eq_true q9
   have HP10 := Kd.R_putg HO_3.out (x4_1 : Int) (rdOf ByteArray.empty l0 x4_1)
   go_wp2_with (first | ((with_reducible refine gate_store (t := 9) (p := 20) rfl ?_); refine store_event (t := 9) (p := 20) (v := ?vo_w11) (w1 := (wr.setCell ⟨go9, (x4_1 : Int).toNat, none⟩ (.string (rdOf ByteArray.empty l0 x4_1)))) ?hg ?ho ?hn ?hr ?_; (case ho => rfl); (case hg => rfl); (case hn => rfl); (case hr => first | (go_simp; done) | (go_simp; rfl)); intro w11 hw; have hg : wr.grownBy w11 (some go9) := (by rw [hw]; exact HP10.2); have hp_ : Kd.R Kd.string 9 w11 w.heap.size (fun _ => True) (.slice (some ⟨go9, 0, none⟩) x3_1.length co9) y830 := (by rw [hw, Ny830.out]; exact HP10.1); clear HP10; have n0_ := am (hp_); have n1_ := am ((by rw [hw]; exact below_set (HB.out) GB9.out : Below w.heap.size w w11)); clear HO_3; clear HB; have HO_3 := n0_; have HB := n1_; clear n0_ n1_; clear hg hw hp_))
   go_roundg k1
   case measure => have := HK1.out; omega
   case rel => exact ⟨(y830), (wrap64 (x4_1 + 1)), rs, H', ⟨by have := HK1.out; omega⟩, ⟨by (with_reducible repeat (first | apply Kd.R_alloc | apply Kd.R_drewN | apply Kd.R_drew)); exact HO_3.out⟩, ⟨u77HB⟩⟩

end Go.Proofs.YtkgdcfaogdmcgaaDoor.All
