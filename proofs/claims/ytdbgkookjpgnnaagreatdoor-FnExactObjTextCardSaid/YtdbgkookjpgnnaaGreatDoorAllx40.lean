-- Written by a program of this session (wip/tools/hprint.py) out of the translation. Lean checks it.
import Derived.Test.YtdbgkookjpgnnaaGreatDoorAllx0
import Derived.Test.YtdbgkookjpgnnaaGreatDoorAllx1
import Derived.Test.YtdbgkookjpgnnaaGreatDoorAllx9
import Derived.Test.YtdbgkookjpgnnaaGreatDoorAllx13
import Derived.Test.YtdbgkookjpgnnaaGreatDoorAllx27
import Derived.Test.YtdbgkookjpgnnaaGreatDoorAllx32
import Derived.Test.YtdbgkookjpgnnaaGreatDoorAllx35
namespace Go.Proofs.YtdbgkookjpgnnaaGreatDoor.All
open Go.RowKit Go.Proofs.YtdbgkookjpgnnaaGreatDoorW.PrintWords Go.Proofs.YtdbgkookjpgnnaaGreatDoorW.PrintLast Go.Proofs.YtdbgkookjpgnnaaGreatDoorW.PrintMore
attribute [local go_sem] max2_int min2_int max_two min_two max_three min_three max_four min_four   -- for this text's walks alone
set_option linter.unusedVariables false
set_option linter.unusedSimpArgs false

/-! ### laws_szStringS: function 127 -/
def laws_szStringS.l0 : Nat → List ByteArray → Int → Int → Option (Int)
 | 0, _, _, _ => none
 | k + 1, x0, x1, x5 => if x5 < (x0.length : Int) then (if 0 ≤ x5 then (if (wrap64 (x1 - ((rdOf ByteArray.empty x0 x5).size : Int))) < 0 then (some (-1)) else (laws_szStringS.l0 k x0 (wrap64 (x1 - ((rdOf ByteArray.empty x0 x5).size : Int))) (wrap64 (x5 + 1)))) else (none)) else (some x1)
def laws_szStringS.f (k : Nat) (l0 : List ByteArray) (a1 : Int) : Option (Int) := if (wrap64 (a1 - (l0.length : Int))) < 0 then (some (-1)) else (laws_szStringS.l0 k l0 (wrap64 (a1 - (l0.length : Int))) 0)
theorem laws_szStringS.mono_l : ∀ k, (∀ y0 y1 y2, LeO (laws_szStringS.l0 k y0 y1 y2) (laws_szStringS.l0 (k + 1) y0 y1 y2))
 | 0 => fun _ _ _ r h => by simp [laws_szStringS.l0] at h
 | k + 1 => by
  have ih0 := laws_szStringS.mono_l k
  ·intro y0 y1 y2
   unfold laws_szStringS.l0
   exact mo
theorem laws_szStringS.mono : ∀ a0 a1 k, LeO (laws_szStringS.f k a0 a1) (laws_szStringS.f (k + 1) a0 a1) := by
 intro a0 a1 k
 have ih0 := laws_szStringS.mono_l k
 unfold laws_szStringS.f
 exact mo
set_option maxHeartbeats 8000000 in
set_option maxRecDepth 100000 in
theorem laws_szStringS.calls (k : Nat) (A0 : Option Addr) (c0 : Nat) (l0 : List ByteArray) (a1 : Int) (r : Int) (w : World) (hr0 : Kd.C Kd.string w A0 l0.length l0) (hc0 : l0.length ≤ c0) (h : laws_szStringS.f k l0 a1 = some r) :
  Calls Tryz.prog 127 #[.slice A0 l0.length c0, .int .i64 a1] w fun e w' => e = .returned (.int .i64 r) ∧ Drawn0 w w' := by
 have HR0 := am hr0
 have HC0 := am hc0
 clear hr0 hc0
 unfold laws_szStringS.f at h
 have H := h
 clear h
 by_cases c3 : (wrap64 (a1 - (l0.length : Int))) < 0
 ·rw [if_pos c3] at H
  have c3b0 := decide_eq_true c3
  clear c3
  obtain rfl := Option.some.inj H
  go_enter Tryz.func127, Tryz.ntmps127
  go_wp2
  go_ret
  exact ⟨rs, dr⟩
 rw [if_neg c3] at H
 have c3b0 := decide_eq_false c3
 clear c3
 have H' := am H
 clear H
 go_enter Tryz.func127, Tryz.ntmps127
 go_wp2
 (try simp only [Act.put, List.setIfInBounds_toArray, List.set_cons_zero, List.set_cons_succ])
 go_loopg [1, 5] k (fun kq v1 v5 w' => ∃ (x1_1 : Int) (x5_1 : Int), v1 = .int .i64 x1_1 ∧ v5 = .int .i64 x5_1 ∧ Aside0 (laws_szStringS.l0 kq l0 x1_1 x5_1 = some r) ∧ Aside0 (kq ≤ k) ∧ Drawn0 w w')
 case atStart => exact ⟨(wrap64 (a1 - (l0.length : Int))), (0), rs, rs, H', ⟨Nat.le_refl _⟩, dr⟩
 case round =>
  clear H'
  try clear c1
  try clear p2
  try clear c3
  try clear c3b0
  obtain ⟨x1_1, x5_1, rfl, rfl, HA, HK1, ⟨m1, rfl⟩⟩ := hrel
  cases gk with
  | zero => exact absurd HA.out (by simp [laws_szStringS.l0])
  | succ k1 =>
   have H := HA.out
   clear HA
   simp only [laws_szStringS.l0] at H
   by_cases c4 : x5_1 < (l0.length : Int)
   rotate_left
   ·rw [if_neg c4] at H
    have c4b0 := decide_eq_false c4
    clear c4
    obtain rfl := Option.some.inj H
    go_wp2
    go_ret
    exact ⟨rs, dr⟩
   rw [if_pos c4] at H
   have c4b0 := decide_eq_true c4
   clear c4
   revert H
   refine ifn fun c5 H => ?_
   have c5b0 := decide_eq_true c5
   clear c5
   by_cases c6 : (wrap64 (x1_1 - ((rdOf ByteArray.empty l0 x5_1).size : Int))) < 0
   ·rw [if_pos c6] at H
    have c6b0 := decide_eq_true c6
    clear c6
    obtain rfl := Option.some.inj H
    have p1518 : 0 ≤ (x5_1 : Int) := od
    have q1518 : x5_1 < (l0.length : Int) := od
    obtain ⟨ad1518, e1518, hx1518_0⟩ := Kd.at_string HR0.out x5_1 p1518 q1518
    cases e1518
    replace p1518 := eq_true p1518
    replace q1518 := eq_true q1518
    go_wp2
    go_ret
    exact ⟨rs, dr⟩
   rw [if_neg c6] at H
   have c6b0 := decide_eq_false c6
   clear c6
   have H' := am H
   clear H
   have p1518 : 0 ≤ (x5_1 : Int) := od
   have q1518 : x5_1 < (l0.length : Int) := od
   obtain ⟨ad1518, e1518, hx1518_0⟩ := Kd.at_string HR0.out x5_1 p1518 q1518
   cases e1518
   replace p1518 := eq_true p1518
   replace q1518 := eq_true q1518
   go_wp2
   go_roundg k1
   case measure => have := HK1.out; omega
   case rel => exact ⟨(wrap64 (x1_1 - ((rdOf ByteArray.empty l0 x5_1).size : Int))), (wrap64 (x5_1 + 1)), rs, rs, H', ⟨by have := HK1.out; omega⟩, dr⟩

/-! ### laws_szObj: function 58 -/
def laws_szObj.f (k : Nat) (a0_0 : ByteArray) (l0_1 : List ByteArray) (l0_2 : List ByteArray) (a0_3 : Int) (l0_4 : List (S115)) (a0_5 : ByteArray) (a0_6 : Int) (a1 : Int) : Option (Int) := if (wrap64 (a1 - (a0_0.size : Int))) < 0 then (some (-1)) else ((laws_szStringS.f k l0_1 (wrap64 (a1 - (a0_0.size : Int)))).bind fun t1520 => (if t1520 < 0 then (some (-1)) else ((laws_szStringS.f k l0_2 t1520).bind fun t1521 => (if t1521 < 0 then (some (-1)) else ((laws_szResp.f k a0_3 l0_4 a0_5 t1521).bind fun t1522 => (if t1522 < 0 then (some (-1)) else (some t1522)))))))
theorem laws_szObj.mono : ∀ a0 a1 a2 a3 a4 a5 a6 a7 k, LeO (laws_szObj.f k a0 a1 a2 a3 a4 a5 a6 a7) (laws_szObj.f (k + 1) a0 a1 a2 a3 a4 a5 a6 a7) := by
 intro a0 a1 a2 a3 a4 a5 a6 a7 k
 unfold laws_szObj.f
 have m0 := @laws_szResp.mono
 have m1 := @laws_szStringS.mono
 exact mo
set_option maxHeartbeats 8000000 in
set_option maxRecDepth 100000 in
theorem laws_szObj.calls (k : Nat) (a0_0 : ByteArray) (A0_1 : Option Addr) (c0_1 : Nat) (l0_1 : List ByteArray) (A0_2 : Option Addr) (c0_2 : Nat) (l0_2 : List ByteArray) (a0_3 : Int) (A0_4 : Option Addr) (c0_4 : Nat) (l0_4 : List (S115)) (a0_5 : ByteArray) (a0_6 : Int) (a1 : Int) (r : Int) (w : World) (hr0_1 : Kd.C Kd.string w A0_1 l0_1.length l0_1) (hc0_1 : l0_1.length ≤ c0_1) (hr0_2 : Kd.C Kd.string w A0_2 l0_2.length l0_2) (hc0_2 : l0_2.length ≤ c0_2) (hr0_4 : Kd.C k115 w A0_4 l0_4.length l0_4) (hc0_4 : l0_4.length ≤ c0_4) (h : laws_szObj.f k a0_0 l0_1 l0_2 a0_3 l0_4 a0_5 a0_6 a1 = some r) :
  Calls Tryz.prog 58 #[.agg #[.string a0_0, .slice A0_1 l0_1.length c0_1, .slice A0_2 l0_2.length c0_2, .int .i64 a0_3, .slice A0_4 l0_4.length c0_4, .string a0_5, .int .i64 a0_6], .int .i64 a1] w fun e w' => e = .returned (.int .i64 r) ∧ Below w.heap.size w w' := by
 have hu85 := Tryz.underlying85
 have hu65 := Tryz.underlying65
 have HR0_1 := am hr0_1
 have HC0_1 := am hc0_1
 clear hr0_1 hc0_1
 have HR0_2 := am hr0_2
 have HC0_2 := am hc0_2
 clear hr0_2 hc0_2
 have HR0_4 := am hr0_4
 have HC0_4 := am hc0_4
 clear hr0_4 hc0_4
 have HB := am (Below.refl w.heap.size w)
 unfold laws_szObj.f at h
 have H := h
 clear h
 by_cases c3 : (wrap64 (a1 - (a0_0.size : Int))) < 0
 ·rw [if_pos c3] at H
  have c3b0 := decide_eq_true c3
  clear c3
  obtain rfl := Option.some.inj H
  go_enter Tryz.func58, Tryz.ntmps58
  go_wp2_with (first | (refine bx 2 #[.string a0_0, .slice A0_1 l0_1.length c0_1, .slice A0_2 l0_2.length c0_2, .int .i64 a0_3, .slice A0_4 l0_4.length c0_4, .string a0_5, .int .i64 a0_6] 85 ?_; intro gb1519 hg w4 hbox hb; have BK1519 := am (hbox); have GW1519 := am (sz hg : w.heap.size ≤ gb1519); have GE1519 := am (sz hg : w.heap.size ≤ gb1519); replace HB := am (below_step bl hb); clear hb hbox hg; obtain ⟨z5_0, y5_0, z5_1, y5_1, z5_2, y5_2, z5_3, y5_3, z5_4, y5_4, z5_5, y5_5, z5_6, y5_6⟩ := cl7 BK1519))
  go_ret
  exact ⟨rf, bl⟩
 rw [if_neg c3] at H
 have c3b0 := decide_eq_false c3
 clear c3
 revert H
 refine ok1 fun t1520 A6 H => ?_
 by_cases c7 : t1520 < 0
 ·rw [if_pos c7] at H
  have c7b0 := decide_eq_true c7
  clear c7
  obtain rfl := Option.some.inj H
  go_enter Tryz.func58, Tryz.ntmps58
  go_wp2_with (first | (refine bx 2 #[.string a0_0, .slice A0_1 l0_1.length c0_1, .slice A0_2 l0_2.length c0_2, .int .i64 a0_3, .slice A0_4 l0_4.length c0_4, .string a0_5, .int .i64 a0_6] 85 ?_; intro gb1519 hg w8 hbox hb; have BK1519 := am (hbox); have GW1519 := am (sz hg : w.heap.size ≤ gb1519); have GE1519 := am (sz hg : w.heap.size ≤ gb1519); replace HB := am (below_step bl hb); clear hb hbox hg; obtain ⟨z9_0, y9_0, z9_1, y9_1, z9_2, y9_2, z9_3, y9_3, z9_4, y9_4, z9_5, y9_5, z9_6, y9_6⟩ := cl7 BK1519) | (refine gl 15 Tryz.func127 #[.slice A0_1 l0_1.length c0_1, .int .i64 (wrap64 (a1 - (a0_0.size : Int)))] ?_; (with_reducible refine (laws_szStringS.calls k _ _ l0_1 (wrap64 (a1 - (a0_0.size : Int))) t1520 _ ?side1 ?side2 A6.out).mono ?_); (case side1 => exact cb HR0_1); (case side2 => exact HC0_1.out); rintro e w' ⟨rfl, ⟨nd, rfl⟩⟩; refine ⟨_, rfl, ?_⟩))
  go_ret
  exact ⟨rf, bl⟩
 rw [if_neg c7] at H
 have c7b0 := decide_eq_false c7
 clear c7
 revert H
 refine ok1 fun t1521 A10 H => ?_
 by_cases c11 : t1521 < 0
 ·rw [if_pos c11] at H
  have c11b0 := decide_eq_true c11
  clear c11
  obtain rfl := Option.some.inj H
  go_enter Tryz.func58, Tryz.ntmps58
  go_wp2_with (first | (refine bx 2 #[.string a0_0, .slice A0_1 l0_1.length c0_1, .slice A0_2 l0_2.length c0_2, .int .i64 a0_3, .slice A0_4 l0_4.length c0_4, .string a0_5, .int .i64 a0_6] 85 ?_; intro gb1519 hg w12 hbox hb; have BK1519 := am (hbox); have GW1519 := am (sz hg : w.heap.size ≤ gb1519); have GE1519 := am (sz hg : w.heap.size ≤ gb1519); replace HB := am (below_step bl hb); clear hb hbox hg; obtain ⟨z13_0, y13_0, z13_1, y13_1, z13_2, y13_2, z13_3, y13_3, z13_4, y13_4, z13_5, y13_5, z13_6, y13_6⟩ := cl7 BK1519) | (refine gl 15 Tryz.func127 #[.slice A0_1 l0_1.length c0_1, .int .i64 (wrap64 (a1 - (a0_0.size : Int)))] ?_; (with_reducible refine (laws_szStringS.calls k _ _ l0_1 (wrap64 (a1 - (a0_0.size : Int))) t1520 _ ?side1 ?side2 A6.out).mono ?_); (case side1 => exact cb HR0_1); (case side2 => exact HC0_1.out); rintro e w' ⟨rfl, ⟨nd, rfl⟩⟩; refine ⟨_, rfl, ?_⟩) | (refine gl 21 Tryz.func127 #[.slice A0_2 l0_2.length c0_2, .int .i64 t1520] ?_; (with_reducible refine (laws_szStringS.calls k _ _ l0_2 t1520 t1521 _ ?side1 ?side2 A10.out).mono ?_); (case side1 => repeat (first | exact (Kd.C_below HR0_2.out bl) | (with_reducible refine Kd.C_alloc ?_ _) | (with_reducible refine Kd.C_drewN ?_ _) | (with_reducible refine Kd.C_drew ?_))); (case side2 => exact HC0_2.out); rintro e w' ⟨rfl, ⟨nd, rfl⟩⟩; refine ⟨_, rfl, ?_⟩))
  go_ret
  exact ⟨rf, bl⟩
 rw [if_neg c11] at H
 have c11b0 := decide_eq_false c11
 clear c11
 revert H
 refine ok1 fun t1522 A14 H => ?_
 by_cases c15 : t1522 < 0
 ·rw [if_pos c15] at H
  have c15b0 := decide_eq_true c15
  clear c15
  obtain rfl := Option.some.inj H
  go_enter Tryz.func58, Tryz.ntmps58
  go_wp2_with (first | (refine bx 2 #[.string a0_0, .slice A0_1 l0_1.length c0_1, .slice A0_2 l0_2.length c0_2, .int .i64 a0_3, .slice A0_4 l0_4.length c0_4, .string a0_5, .int .i64 a0_6] 85 ?_; intro gb1519 hg w16 hbox hb; have BK1519 := am (hbox); have GW1519 := am (sz hg : w.heap.size ≤ gb1519); have GE1519 := am (sz hg : w.heap.size ≤ gb1519); replace HB := am (below_step bl hb); clear hb hbox hg; obtain ⟨z17_0, y17_0, z17_1, y17_1, z17_2, y17_2, z17_3, y17_3, z17_4, y17_4, z17_5, y17_5, z17_6, y17_6⟩ := cl7 BK1519) | (refine gl 15 Tryz.func127 #[.slice A0_1 l0_1.length c0_1, .int .i64 (wrap64 (a1 - (a0_0.size : Int)))] ?_; (with_reducible refine (laws_szStringS.calls k _ _ l0_1 (wrap64 (a1 - (a0_0.size : Int))) t1520 _ ?side1 ?side2 A6.out).mono ?_); (case side1 => exact cb HR0_1); (case side2 => exact HC0_1.out); rintro e w' ⟨rfl, ⟨nd, rfl⟩⟩; refine ⟨_, rfl, ?_⟩) | (refine gl 21 Tryz.func127 #[.slice A0_2 l0_2.length c0_2, .int .i64 t1520] ?_; (with_reducible refine (laws_szStringS.calls k _ _ l0_2 t1520 t1521 _ ?side1 ?side2 A10.out).mono ?_); (case side1 => repeat (first | exact (Kd.C_below HR0_2.out bl) | (with_reducible refine Kd.C_alloc ?_ _) | (with_reducible refine Kd.C_drewN ?_ _) | (with_reducible refine Kd.C_drew ?_))); (case side2 => exact HC0_2.out); rintro e w' ⟨rfl, ⟨nd, rfl⟩⟩; refine ⟨_, rfl, ?_⟩) | (refine gl 27 Tryz.func44 #[.agg #[.int .i64 a0_3, .slice A0_4 l0_4.length c0_4, .string a0_5], .int .i64 t1521] ?_; (with_reducible refine (laws_szResp.calls k a0_3 _ _ l0_4 a0_5 t1521 t1522 _ ?side1 ?side2 A14.out).mono ?_); (case side1 => repeat (first | exact (Kd.C_below HR0_4.out bl) | (with_reducible refine Kd.C_alloc ?_ _) | (with_reducible refine Kd.C_drewN ?_ _) | (with_reducible refine Kd.C_drew ?_))); (case side2 => exact HC0_4.out); rintro e w18 ⟨rfl, hb⟩; refine ⟨_, rfl, ?_⟩; replace BK1519 := kb BK1519 hb; replace HB := am (below_step bl hb); clear hb))
  go_ret
  exact ⟨rf, bl⟩
 rw [if_neg c15] at H
 have c15b0 := decide_eq_false c15
 clear c15
 obtain rfl := Option.some.inj H
 go_enter Tryz.func58, Tryz.ntmps58
 go_wp2_with (first | (refine bx 2 #[.string a0_0, .slice A0_1 l0_1.length c0_1, .slice A0_2 l0_2.length c0_2, .int .i64 a0_3, .slice A0_4 l0_4.length c0_4, .string a0_5, .int .i64 a0_6] 85 ?_; intro gb1519 hg w19 hbox hb; have BK1519 := am (hbox); have GW1519 := am (sz hg : w.heap.size ≤ gb1519); have GE1519 := am (sz hg : w.heap.size ≤ gb1519); replace HB := am (below_step bl hb); clear hb hbox hg; obtain ⟨z20_0, y20_0, z20_1, y20_1, z20_2, y20_2, z20_3, y20_3, z20_4, y20_4, z20_5, y20_5, z20_6, y20_6⟩ := cl7 BK1519) | (refine gl 15 Tryz.func127 #[.slice A0_1 l0_1.length c0_1, .int .i64 (wrap64 (a1 - (a0_0.size : Int)))] ?_; (with_reducible refine (laws_szStringS.calls k _ _ l0_1 (wrap64 (a1 - (a0_0.size : Int))) t1520 _ ?side1 ?side2 A6.out).mono ?_); (case side1 => exact cb HR0_1); (case side2 => exact HC0_1.out); rintro e w' ⟨rfl, ⟨nd, rfl⟩⟩; refine ⟨_, rfl, ?_⟩) | (refine gl 21 Tryz.func127 #[.slice A0_2 l0_2.length c0_2, .int .i64 t1520] ?_; (with_reducible refine (laws_szStringS.calls k _ _ l0_2 t1520 t1521 _ ?side1 ?side2 A10.out).mono ?_); (case side1 => repeat (first | exact (Kd.C_below HR0_2.out bl) | (with_reducible refine Kd.C_alloc ?_ _) | (with_reducible refine Kd.C_drewN ?_ _) | (with_reducible refine Kd.C_drew ?_))); (case side2 => exact HC0_2.out); rintro e w' ⟨rfl, ⟨nd, rfl⟩⟩; refine ⟨_, rfl, ?_⟩) | (refine gl 27 Tryz.func44 #[.agg #[.int .i64 a0_3, .slice A0_4 l0_4.length c0_4, .string a0_5], .int .i64 t1521] ?_; (with_reducible refine (laws_szResp.calls k a0_3 _ _ l0_4 a0_5 t1521 t1522 _ ?side1 ?side2 A14.out).mono ?_); (case side1 => repeat (first | exact (Kd.C_below HR0_4.out bl) | (with_reducible refine Kd.C_alloc ?_ _) | (with_reducible refine Kd.C_drewN ?_ _) | (with_reducible refine Kd.C_drew ?_))); (case side2 => exact HC0_4.out); rintro e w21 ⟨rfl, hb⟩; refine ⟨_, rfl, ?_⟩; replace BK1519 := kb BK1519 hb; replace HB := am (below_step bl hb); clear hb))
 go_ret
 exact ⟨rf, bl⟩

/-! ### spec_FieldsText: function 168 -/
def spec_FieldsText.l0 : Nat → List (S116) → ByteArray → Int → Option (ByteArray)
 | 0, _, _, _ => none
 | k + 1, x0, x3, x4 => if x4 < (x0.length : Int) then (if 0 ≤ x4 then (if x3.size + ((rd_T116 x0 x4).f0).size ≤ 9223372036854775807 then (if (x3 ++ ((rd_T116 x0 x4).f0)).size + 2 ≤ 9223372036854775807 then (if ((x3 ++ ((rd_T116 x0 x4).f0)) ++ (⟨#[58, 32]⟩ : ByteArray)).size + ((rd_T116 x0 x4).f1).size ≤ 9223372036854775807 then (if (((x3 ++ ((rd_T116 x0 x4).f0)) ++ (⟨#[58, 32]⟩ : ByteArray)) ++ ((rd_T116 x0 x4).f1)).size + 2 ≤ 9223372036854775807 then (spec_FieldsText.l0 k x0 ((((x3 ++ ((rd_T116 x0 x4).f0)) ++ (⟨#[58, 32]⟩ : ByteArray)) ++ ((rd_T116 x0 x4).f1)) ++ (⟨#[13, 10]⟩ : ByteArray)) (wrap64 (x4 + 1))) else (none)) else (none)) else (none)) else (none)) else (none)) else (some x3)
def spec_FieldsText.f (k : Nat) (l0 : List (S116)) : Option (ByteArray) := spec_FieldsText.l0 k l0 (⟨#[]⟩ : ByteArray) 0
theorem spec_FieldsText.mono_l : ∀ k, (∀ y0 y1 y2, LeO (spec_FieldsText.l0 k y0 y1 y2) (spec_FieldsText.l0 (k + 1) y0 y1 y2))
 | 0 => fun _ _ _ r h => by simp [spec_FieldsText.l0] at h
 | k + 1 => by
  have ih0 := spec_FieldsText.mono_l k
  ·intro y0 y1 y2
   unfold spec_FieldsText.l0
   exact mo
theorem spec_FieldsText.mono : ∀ a0 k, LeO (spec_FieldsText.f k a0) (spec_FieldsText.f (k + 1) a0) := by
 intro a0 k
 have ih0 := spec_FieldsText.mono_l k
 unfold spec_FieldsText.f
 exact mo
set_option maxHeartbeats 8000000 in
set_option maxRecDepth 100000 in
theorem spec_FieldsText.calls (k : Nat) (A0 : Option Addr) (c0 : Nat) (l0 : List (S116)) (r : ByteArray) (w : World) (hr0 : Kd.C k116 w A0 l0.length l0) (hc0 : l0.length ≤ c0) (h : spec_FieldsText.f k l0 = some r) :
  Calls Tryz.prog 168 #[.slice A0 l0.length c0] w fun e w' => e = .returned (.string r) ∧ Drawn0 w w' := by
 have HR0 := am hr0
 have HC0 := am hc0
 clear hr0 hc0
 unfold spec_FieldsText.f at h
 have H := h
 clear h
 have H' := am H
 clear H
 go_enter Tryz.func168, Tryz.ntmps168
 go_wp2
 repeat (go_quiet (fail); try go_wp2)
 (try simp only [Act.put, List.setIfInBounds_toArray, List.set_cons_zero, List.set_cons_succ])
 go_loopg [3, 4] k (fun kq v3 v4 w' => ∃ (x3_1 : ByteArray) (x4_1 : Int), v3 = .string x3_1 ∧ v4 = .int .i64 x4_1 ∧ Aside0 (spec_FieldsText.l0 kq l0 x3_1 x4_1 = some r) ∧ Aside0 (kq ≤ k) ∧ Drawn0 w w')
 case atStart => exact ⟨((⟨#[]⟩ : ByteArray)), (0), rs, rs, H', ⟨Nat.le_refl _⟩, dr⟩
 case round =>
  clear H'
  try clear c1
  obtain ⟨x3_1, x4_1, rfl, rfl, HA, HK1, ⟨m1, rfl⟩⟩ := hrel
  cases gk with
  | zero => exact absurd HA.out (by simp [spec_FieldsText.l0])
  | succ k1 =>
   have H := HA.out
   clear HA
   simp only [spec_FieldsText.l0] at H
   by_cases c2 : x4_1 < (l0.length : Int)
   rotate_left
   ·rw [if_neg c2] at H
    have c2b0 := decide_eq_false c2
    clear c2
    obtain rfl := Option.some.inj H
    go_wp2
    repeat (go_quiet (fail); try go_wp2)
    go_ret
    exact ⟨rs, dr⟩
   rw [if_pos c2] at H
   have c2b0 := decide_eq_true c2
   clear c2
   revert H
   refine ifn fun c3 H => ?_
   have c3b0 := decide_eq_true c3
   clear c3
   revert H
   refine ifn fun c4 H => ?_
   have c4b0 := eq_true c4
   have c4b1 := decide_eq_true c4
   try have c4b2 := eq_false (Nat.not_lt.2 c4)
   revert H
   refine ifn fun c5 H => ?_
   have c5b0 := eq_true c5
   have c5b1 := decide_eq_true c5
   try have c5b2 := eq_false (Nat.not_lt.2 c5)
   have c5b3 : (9223372036854775807 < (x3_1).size + ((rd_T116 l0 x4_1).f0).size + 2) = False := b3 c5
   revert H
   refine ifn fun c6 H => ?_
   have c6b0 := eq_true c6
   have c6b1 := decide_eq_true c6
   try have c6b2 := eq_false (Nat.not_lt.2 c6)
   have c6b3 : (9223372036854775807 < (x3_1).size + ((rd_T116 l0 x4_1).f0).size + 2 + ((rd_T116 l0 x4_1).f1).size) = False := b3 c6
   revert H
   refine ifn fun c7 H => ?_
   have c7b0 := eq_true c7
   have c7b1 := decide_eq_true c7
   try have c7b2 := eq_false (Nat.not_lt.2 c7)
   have c7b3 : (9223372036854775807 < (x3_1).size + ((rd_T116 l0 x4_1).f0).size + 2 + ((rd_T116 l0 x4_1).f1).size + 2) = False := b3 c7
   have H' := am H
   clear H
   have p1523 : 0 ≤ (x4_1 : Int) := od
   have q1523 : x4_1 < (l0.length : Int) := od
   obtain ⟨ad1523, e1523, hx1523_0, hx1523_1⟩ := at_T116 HR0.out x4_1 p1523 q1523
   cases e1523
   replace p1523 := eq_true p1523
   replace q1523 := eq_true q1523
   have p1524 : 0 ≤ (x4_1 : Int) := od
   have q1524 : x4_1 < (l0.length : Int) := od
   obtain ⟨ad1524, e1524, hx1524_0, hx1524_1⟩ := at_T116 HR0.out x4_1 p1524 q1524
   obtain rfl : ad1523 = ad1524 := (by injection e1524)
   replace p1524 := eq_true p1524
   replace q1524 := eq_true q1524
   go_wp2
   repeat (go_quiet (fail); try go_wp2)
   go_roundg k1
   case measure => have := HK1.out; omega
   case rel => exact ⟨((((x3_1 ++ ((rd_T116 l0 x4_1).f0)) ++ (⟨#[58, 32]⟩ : ByteArray)) ++ ((rd_T116 l0 x4_1).f1)) ++ (⟨#[13, 10]⟩ : ByteArray)), (wrap64 (x4_1 + 1)), rs, rs, H', ⟨by have := HK1.out; omega⟩, dr⟩

/-! ### spec_RespText: function 128 -/
def spec_RespText.f (k : Nat) (a0_0 : Int) (l0_1 : List (S116)) (a0_2 : ByteArray) : Option (ByteArray) := (spec_RespOk.f k a0_0 l0_1 a0_2).bind fun t1526 => (if t1526 = true then ((spec_NumText.f k a0_0).bind fun t1527 => (if 9 + t1527.size ≤ 9223372036854775807 then (if ((⟨#[72, 84, 84, 80, 47, 49, 46, 49, 32]⟩ : ByteArray) ++ t1527).size + 4 ≤ 9223372036854775807 then ((spec_FieldsText.f k l0_1).bind fun t1528 => (if (((⟨#[72, 84, 84, 80, 47, 49, 46, 49, 32]⟩ : ByteArray) ++ t1527) ++ (⟨#[32, 46, 13, 10]⟩ : ByteArray)).size + t1528.size ≤ 9223372036854775807 then (if ((((⟨#[72, 84, 84, 80, 47, 49, 46, 49, 32]⟩ : ByteArray) ++ t1527) ++ (⟨#[32, 46, 13, 10]⟩ : ByteArray)) ++ t1528).size + 16 ≤ 9223372036854775807 then ((spec_NumText.f k (a0_2.size : Int)).bind fun t1529 => (if (((((⟨#[72, 84, 84, 80, 47, 49, 46, 49, 32]⟩ : ByteArray) ++ t1527) ++ (⟨#[32, 46, 13, 10]⟩ : ByteArray)) ++ t1528) ++ (⟨#[99, 111, 110, 116, 101, 110, 116, 45, 108, 101, 110, 103, 116, 104, 58, 32]⟩ : ByteArray)).size + t1529.size ≤ 9223372036854775807 then (if ((((((⟨#[72, 84, 84, 80, 47, 49, 46, 49, 32]⟩ : ByteArray) ++ t1527) ++ (⟨#[32, 46, 13, 10]⟩ : ByteArray)) ++ t1528) ++ (⟨#[99, 111, 110, 116, 101, 110, 116, 45, 108, 101, 110, 103, 116, 104, 58, 32]⟩ : ByteArray)) ++ t1529).size + 4 ≤ 9223372036854775807 then (if (((((((⟨#[72, 84, 84, 80, 47, 49, 46, 49, 32]⟩ : ByteArray) ++ t1527) ++ (⟨#[32, 46, 13, 10]⟩ : ByteArray)) ++ t1528) ++ (⟨#[99, 111, 110, 116, 101, 110, 116, 45, 108, 101, 110, 103, 116, 104, 58, 32]⟩ : ByteArray)) ++ t1529) ++ (⟨#[13, 10, 13, 10]⟩ : ByteArray)).size + a0_2.size ≤ 9223372036854775807 then (some ((((((((⟨#[72, 84, 84, 80, 47, 49, 46, 49, 32]⟩ : ByteArray) ++ t1527) ++ (⟨#[32, 46, 13, 10]⟩ : ByteArray)) ++ t1528) ++ (⟨#[99, 111, 110, 116, 101, 110, 116, 45, 108, 101, 110, 103, 116, 104, 58, 32]⟩ : ByteArray)) ++ t1529) ++ (⟨#[13, 10, 13, 10]⟩ : ByteArray)) ++ a0_2)) else (none)) else (none)) else (none))) else (none)) else (none))) else (none)) else (none))) else (some (⟨#[]⟩ : ByteArray)))
theorem spec_RespText.mono : ∀ a0 a1 a2 k, LeO (spec_RespText.f k a0 a1 a2) (spec_RespText.f (k + 1) a0 a1 a2) := by
 intro a0 a1 a2 k
 unfold spec_RespText.f
 have m0 := @spec_FieldsText.mono
 have m1 := @spec_NumText.mono
 have m2 := @spec_RespOk.mono
 exact mo
def spec_RespText.T3 : Bool × List (List Nat × List Nat) := (true, [([], []), ([0], [0]), ([1], [1]), ([2], [2]), ([3], [3]), ([], []), ([5], [5]), ([6, 2], [6]), ([4, 7], [4, 7]), ([8], [8]), ([], []), ([10], [10]), ([11], [11]), ([12, 7], [12]), ([9, 13], [9, 13]), ([14], [14]), ([], []), ([16], [16]), ([15, 17], [15, 17]), ([18, 13, 0, 1, 2, 3, 4, 5, 6, 7, 8, 9, 10, 11, 12, 13, 14, 15, 16, 17, 18], [18])])
def spec_RespText.B3 : List Nat := [0, 1, 3, 7, 15, 0, 32, 103, 255, 511, 0, 1024, 3072, 7399, 16383, 32767, 0, 65536, 262143, 524287]
theorem spec_RespText.tab3 : rtab .any (opsOf Tryz.f128 3) = spec_RespText.T3 := by kernel_rfl
theorem spec_RespText.bits3 : waitsOk spec_RespText.T3.2 spec_RespText.B3 = true := by kernel_rfl
set_option maxHeartbeats 8000000 in
set_option maxRecDepth 100000 in
theorem spec_RespText.calls (k : Nat) (a0_0 : Int) (A0_1 : Option Addr) (c0_1 : Nat) (l0_1 : List (S116)) (a0_2 : ByteArray) (r : ByteArray) (w : World) (hr0_1 : Kd.C k116 w A0_1 l0_1.length l0_1) (hc0_1 : l0_1.length ≤ c0_1) (h : spec_RespText.f k a0_0 l0_1 a0_2 = some r) :
  Calls Tryz.prog 128 #[.agg #[.int .i64 a0_0, .slice A0_1 l0_1.length c0_1, .string a0_2]] w fun e w' => e = .returned (.string r) ∧ Below w.heap.size w w' := by
 have hu29 := Tryz.underlying29
 have HR0_1 := am hr0_1
 have HC0_1 := am hc0_1
 clear hr0_1 hc0_1
 have HB := am (Below.refl w.heap.size w)
 unfold spec_RespText.f at h
 have H := h
 clear h
 revert H
 refine ok1 fun t1526 A2 H => ?_
 by_cases c3 : t1526 = true
 rotate_left
 ·replace c3 := Bool.eq_false_iff.mpr c3
  subst c3
  rw [if_neg (show ¬ (false = true) by decide)] at H
  obtain rfl := Option.some.inj H
  go_enter Tryz.func128, Tryz.ntmps128
  go_wp2_with (first | (refine bx 1 #[.int .i64 a0_0, .slice A0_1 l0_1.length c0_1, .string a0_2] 29 ?_; intro gb1525 hg w20 hbox hb; have BK1525 := am (hbox); have GW1525 := am (sz hg : w.heap.size ≤ gb1525); have GE1525 := am (sz hg : w.heap.size ≤ gb1525); replace HB := am (below_step bl hb); clear hb hbox hg; obtain ⟨z21_0, y21_0, z21_1, y21_1, z21_2, y21_2⟩ := cl3 BK1525) | (refine gl 4 Tryz.func114 #[.agg #[.int .i64 a0_0, .slice A0_1 l0_1.length c0_1, .string a0_2]] ?_; (with_reducible refine (spec_RespOk.calls k a0_0 _ _ l0_1 a0_2 false _ ?side1 ?side2 A2.out).mono ?_); (case side1 => exact cb HR0_1); (case side2 => exact HC0_1.out); rintro e w22 ⟨rfl, hb⟩; refine ⟨_, rfl, ?_⟩; replace BK1525 := kb BK1525 hb; replace HB := am (below_step bl hb); clear hb))
  go_ret
  exact ⟨rf, bl⟩
 subst c3
 rw [if_pos rfl] at H
 revert H
 refine ok1 fun t1527 A4 H => ?_
 revert H
 refine ifn fun c5 H => ?_
 have c5b0 := eq_true c5
 have c5b1 := decide_eq_true c5
 try have c5b2 := eq_false (Nat.not_lt.2 c5)
 revert H
 refine ifn fun c6 H => ?_
 have c6b0 := eq_true c6
 have c6b1 := decide_eq_true c6
 try have c6b2 := eq_false (Nat.not_lt.2 c6)
 have c6b3 : (9223372036854775807 < 9 + (t1527).size + 4) = False := b3 c6
 revert H
 refine ok1 fun t1528 A7 H => ?_
 revert H
 refine ifn fun c8 H => ?_
 have c8b0 := eq_true c8
 have c8b1 := decide_eq_true c8
 try have c8b2 := eq_false (Nat.not_lt.2 c8)
 have c8b3 : (9223372036854775807 < 9 + (t1527).size + 4 + (t1528).size) = False := b3 c8
 revert H
 refine ifn fun c9 H => ?_
 have c9b0 := eq_true c9
 have c9b1 := decide_eq_true c9
 try have c9b2 := eq_false (Nat.not_lt.2 c9)
 have c9b3 : (9223372036854775807 < 9 + (t1527).size + 4 + (t1528).size + 16) = False := b3 c9
 revert H
 refine ok1 fun t1529 A10 H => ?_
 revert H
 refine ifn fun c11 H => ?_
 have c11b0 := eq_true c11
 have c11b1 := decide_eq_true c11
 try have c11b2 := eq_false (Nat.not_lt.2 c11)
 have c11b3 : (9223372036854775807 < 9 + (t1527).size + 4 + (t1528).size + 16 + (t1529).size) = False := b3 c11
 revert H
 refine ifn fun c12 H => ?_
 have c12b0 := eq_true c12
 have c12b1 := decide_eq_true c12
 try have c12b2 := eq_false (Nat.not_lt.2 c12)
 have c12b3 : (9223372036854775807 < 9 + (t1527).size + 4 + (t1528).size + 16 + (t1529).size + 4) = False := b3 c12
 revert H
 refine ifn fun c13 H => ?_
 have c13b0 := eq_true c13
 have c13b1 := decide_eq_true c13
 try have c13b2 := eq_false (Nat.not_lt.2 c13)
 have c13b3 : (9223372036854775807 < 9 + (t1527).size + 4 + (t1528).size + 16 + (t1529).size + 4 + (a0_2).size) = False := b3 c13
 obtain rfl := Option.some.inj H
 go_enter Tryz.func128, Tryz.ntmps128
 try go_wp2_with (first | (refine bx 1 #[.int .i64 a0_0, .slice A0_1 l0_1.length c0_1, .string a0_2] 29 ?_; intro gb1525 hg w14 hbox hb; have BK1525 := am (hbox); have GW1525 := am (sz hg : w.heap.size ≤ gb1525); have GE1525 := am (sz hg : w.heap.size ≤ gb1525); replace HB := am (below_step bl hb); clear hb hbox hg; obtain ⟨z15_0, y15_0, z15_1, y15_1, z15_2, y15_2⟩ := cl3 BK1525) | (refine gl 4 Tryz.func114 #[.agg #[.int .i64 a0_0, .slice A0_1 l0_1.length c0_1, .string a0_2]] ?_; (with_reducible refine (spec_RespOk.calls k a0_0 _ _ l0_1 a0_2 true _ ?side1 ?side2 A2.out).mono ?_); (case side1 => exact cb HR0_1); (case side2 => exact HC0_1.out); rintro e w16 ⟨rfl, hb⟩; refine ⟨_, rfl, ?_⟩; replace BK1525 := kb BK1525 hb; replace HB := am (below_step bl hb); clear hb))
 replace BK1525 := am (blk_drew BK1525.out)
 replace HB := am (below_drew1 HB.out)
 refine start_ (n := 20) (S := fun w' => w'.cell? ⟨gb1525, 0, none⟩ = some (.int .i64 a0_0) ∧ w'.cell? ⟨gb1525, 1, none⟩ = some (.slice A0_1 l0_1.length c0_1) ∧ w'.cell? ⟨gb1525, 2, none⟩ = some (.string a0_2)) (ds := []) ⟨br true [0, 20]⟩ (by kernel_rfl) rfl (by kernel_rfl) ⟨bc BK1525, bc BK1525, bc BK1525⟩ (fun hHeld => ?_); refine with_tabW spec_RespText.tab3 spec_RespText.bits3 (fun HT_ HW_ => ?_)
 generalize w16.drew = w17 at BK1525 HB hHeld ⊢
 refine pu 0 6 [1, 19] ?_
 refine pu 5 11 [1, 4, 1, 14] ?_
 refine pu 10 16 [1, 4, 1, 4, 1, 9] ?_
 refine pu 16 22 [1, 4, 1, 4, 1, 5, 1, 3] ?_
 refine tk 1 7 [2, 3, 1, 4, 1, 5, 1, 3] ?_
 refine tk 6 12 [2, 3, 2, 3, 1, 5, 1, 3] ?_
 refine tk 11 17 [2, 3, 2, 3, 2, 4, 1, 3] ?_
 refine pu 12 18 [2, 3, 2, 3, 3, 3, 1, 3] ?_
 refine tk 17 23 [2, 3, 2, 3, 3, 3, 2, 2] ?_
 refine og 2 8 [3, 2, 2, 3, 3, 3, 2, 2] Tryz.func104 #[.int .i64 a0_0] (fun K hK => ?_)
 with_reducible refine (spec_NumText.calls k a0_0 t1527 _ A4.out).mono ?_
 rintro e w18 ⟨rfl, hb⟩
 refine ⟨_, rfl, ?_⟩
 replace BK1525 := kb BK1525 hb
 replace HB := am (below_step bl hb)
 clear hb
 refine hK.out _ _ ⟨bc BK1525, bc BK1525, bc BK1525⟩ (fun hHeld => ?_)
 clear hK K
 refine nm 8 ?_
 refine pu 3 9 [4, 1, 2, 3, 3, 3, 2, 2] ?_
 refine pu 4 10 [7, 3, 3, 3, 2, 2] ?_
 refine og 7 13 [8, 2, 3, 3, 2, 2] Tryz.func168 #[.slice A0_1 l0_1.length c0_1] (fun K hK => ?_)
 with_reducible refine (spec_FieldsText.calls k _ _ l0_1 t1528 _ ?side1 ?side2 A7.out).mono ?_
 (case side1 => exact cb HR0_1)
 (case side2 => exact HC0_1.out)
 rintro e w' ⟨rfl, ⟨nd, rfl⟩⟩
 refine ⟨_, rfl, ?_⟩
 refine hK.out _ _ ⟨bc BK1525, bc BK1525, bc BK1525⟩ (fun hHeld => ?_)
 clear hK K
 refine nm 13 ?_
 refine pu 8 14 [9, 1, 3, 3, 2, 2] ?_
 refine pu 9 15 [13, 3, 2, 2] ?_
 refine og 13 19 [14, 2, 2, 2] Tryz.func104 #[.int .i64 (a0_2.size : Int)] (fun K hK => ?_)
 with_reducible refine (spec_NumText.calls k (a0_2.size : Int) t1529 _ A10.out).mono ?_
 rintro e w19 ⟨rfl, hb⟩
 refine ⟨_, rfl, ?_⟩
 replace BK1525 := kb BK1525 hb
 replace HB := am (below_step bl hb)
 clear hb
 refine hK.out _ _ ⟨bc BK1525, bc BK1525, bc BK1525⟩ (fun hHeld => ?_)
 clear hK K
 refine nm 19 ?_
 refine pu 14 20 [15, 1, 2, 2] ?_
 refine pu 15 21 [18, 2] ?_
 refine pu 18 24 [19, 1] ?_
 refine pu 19 2 [20] ?_
 refine done_ (done_of HT_.out (by kernel_rfl)) ?_
 try go_wp2
 go_ret
 exact ⟨rf, bl⟩

/-! ### spec_ObjText: function 59 -/
theorem u59HB {p : Prop} (h : p := by repeat (first | (with_reducible first | exact HB.out | apply below_alloc | apply pw_below_drewN | apply below_drew1 | refine below_set ?_ GE1530.out) | exact HB.out)) : p := h
def spec_ObjText.l0 : Nat → ByteArray → Int → ByteArray → List ByteArray → List ByteArray → Int → List (S116) → ByteArray → Int → Option (ByteArray)
 | 0, _, _, _, _, _, _, _, _, _ => none
 | k + 1, x3, x4, x1531000, x1531001, x1531002, x1531003, x1531004, x1531005, x1531006 => if x4 < (x1531002.length : Int) then (if 0 ≤ x4 then (if x3.size + (rdOf ByteArray.empty x1531002 x4).size ≤ 9223372036854775807 then (if (x3 ++ (rdOf ByteArray.empty x1531002 x4)).size + 1 ≤ 9223372036854775807 then (spec_ObjText.l0 k ((x3 ++ (rdOf ByteArray.empty x1531002 x4)) ++ (⟨#[10]⟩ : ByteArray)) (wrap64 (x4 + 1)) x1531000 x1531001 x1531002 x1531003 x1531004 x1531005 x1531006) else (none)) else (none)) else (none)) else ((spec_RespText.f k x1531003 x1531004 x1531005).bind fun t1535 => (if x3.size + t1535.size ≤ 9223372036854775807 then (some (x3 ++ t1535)) else (none)))
def spec_ObjText.f (k : Nat) (a0_0 : ByteArray) (l0_1 : List ByteArray) (l0_2 : List ByteArray) (a0_3 : Int) (l0_4 : List (S116)) (a0_5 : ByteArray) (a0_6 : Int) : Option (ByteArray) := (spec_ObjOk.f k a0_0 l0_1 l0_2 a0_3 l0_4 a0_5 a0_6).bind fun t1531 => (if t1531 = true then (if 4 + a0_0.size ≤ 9223372036854775807 then (if ((⟨#[111, 98, 106, 32]⟩ : ByteArray) ++ a0_0).size + 1 ≤ 9223372036854775807 then ((spec_NumText.f k a0_6).bind fun t1532 => (if (((⟨#[111, 98, 106, 32]⟩ : ByteArray) ++ a0_0) ++ (⟨#[32]⟩ : ByteArray)).size + t1532.size ≤ 9223372036854775807 then (if ((((⟨#[111, 98, 106, 32]⟩ : ByteArray) ++ a0_0) ++ (⟨#[32]⟩ : ByteArray)) ++ t1532).size + 1 ≤ 9223372036854775807 then ((spec_NumText.f k (l0_2.length : Int)).bind fun t1533 => (if (((((⟨#[111, 98, 106, 32]⟩ : ByteArray) ++ a0_0) ++ (⟨#[32]⟩ : ByteArray)) ++ t1532) ++ (⟨#[32]⟩ : ByteArray)).size + t1533.size ≤ 9223372036854775807 then (if ((((((⟨#[111, 98, 106, 32]⟩ : ByteArray) ++ a0_0) ++ (⟨#[32]⟩ : ByteArray)) ++ t1532) ++ (⟨#[32]⟩ : ByteArray)) ++ t1533).size + 1 ≤ 9223372036854775807 then (spec_ObjText.l0 k (((((((⟨#[111, 98, 106, 32]⟩ : ByteArray) ++ a0_0) ++ (⟨#[32]⟩ : ByteArray)) ++ t1532) ++ (⟨#[32]⟩ : ByteArray)) ++ t1533) ++ (⟨#[10]⟩ : ByteArray)) 0 a0_0 l0_1 l0_2 a0_3 l0_4 a0_5 a0_6) else (none)) else (none))) else (none)) else (none))) else (none)) else (none)) else (some (⟨#[]⟩ : ByteArray)))
theorem spec_ObjText.mono_l : ∀ k, (∀ y0 y1 y2 y3 y4 y5 y6 y7 y8, LeO (spec_ObjText.l0 k y0 y1 y2 y3 y4 y5 y6 y7 y8) (spec_ObjText.l0 (k + 1) y0 y1 y2 y3 y4 y5 y6 y7 y8))
 | 0 => fun _ _ _ _ _ _ _ _ _ r h => by simp [spec_ObjText.l0] at h
 | k + 1 => by
  have ih0 := spec_ObjText.mono_l k
  ·intro y0 y1 y2 y3 y4 y5 y6 y7 y8
   unfold spec_ObjText.l0
   have m0 := @spec_NumText.mono
   have m1 := @spec_ObjOk.mono
   have m2 := @spec_RespText.mono
   exact mo
theorem spec_ObjText.mono : ∀ a0 a1 a2 a3 a4 a5 a6 k, LeO (spec_ObjText.f k a0 a1 a2 a3 a4 a5 a6) (spec_ObjText.f (k + 1) a0 a1 a2 a3 a4 a5 a6) := by
 intro a0 a1 a2 a3 a4 a5 a6 k
 have ih0 := spec_ObjText.mono_l k
 unfold spec_ObjText.f
 have m0 := @spec_NumText.mono
 have m1 := @spec_ObjOk.mono
 have m2 := @spec_RespText.mono
 exact mo
def spec_ObjText.T3 : Bool × List (List Nat × List Nat) := (true, [([], []), ([0], [0]), ([1], [1]), ([2], [2]), ([], []), ([4], [4]), ([5], [5]), ([3, 6], [3, 6]), ([7], [7]), ([], []), ([9], [9]), ([10], [10]), ([11, 6], [11]), ([8, 12], [8, 12]), ([13], [13]), ([14, 12, 0, 1, 2, 3, 4, 5, 6, 7, 8, 9, 10, 11, 12, 13, 14], [14])])
def spec_ObjText.B3 : List Nat := [0, 1, 3, 7, 0, 16, 48, 127, 255, 0, 512, 1536, 3696, 8191, 16383, 32767]
theorem spec_ObjText.tab3 : rtab .any (opsOf Tryz.f59 3) = spec_ObjText.T3 := by kernel_rfl
theorem spec_ObjText.bits3 : waitsOk spec_ObjText.T3.2 spec_ObjText.B3 = true := by kernel_rfl
set_option maxHeartbeats 8000000 in
set_option maxRecDepth 100000 in
theorem spec_ObjText.calls (k : Nat) (a0_0 : ByteArray) (A0_1 : Option Addr) (c0_1 : Nat) (l0_1 : List ByteArray) (A0_2 : Option Addr) (c0_2 : Nat) (l0_2 : List ByteArray) (a0_3 : Int) (A0_4 : Option Addr) (c0_4 : Nat) (l0_4 : List (S116)) (a0_5 : ByteArray) (a0_6 : Int) (r : ByteArray) (w : World) (hr0_1 : Kd.C Kd.string w A0_1 l0_1.length l0_1) (hc0_1 : l0_1.length ≤ c0_1) (hr0_2 : Kd.C Kd.string w A0_2 l0_2.length l0_2) (hc0_2 : l0_2.length ≤ c0_2) (hr0_4 : Kd.C k116 w A0_4 l0_4.length l0_4) (hc0_4 : l0_4.length ≤ c0_4) (h : spec_ObjText.f k a0_0 l0_1 l0_2 a0_3 l0_4 a0_5 a0_6 = some r) :
  Calls Tryz.prog 59 #[.agg #[.string a0_0, .slice A0_1 l0_1.length c0_1, .slice A0_2 l0_2.length c0_2, .int .i64 a0_3, .slice A0_4 l0_4.length c0_4, .string a0_5, .int .i64 a0_6]] w fun e w' => e = .returned (.string r) ∧ Below w.heap.size w w' := by
 have hu31 := Tryz.underlying31
 have hu29 := Tryz.underlying29
 have HR0_1 := am hr0_1
 have HC0_1 := am hc0_1
 clear hr0_1 hc0_1
 have HR0_2 := am hr0_2
 have HC0_2 := am hc0_2
 clear hr0_2 hc0_2
 have HR0_4 := am hr0_4
 have HC0_4 := am hc0_4
 clear hr0_4 hc0_4
 have HB := am (Below.refl w.heap.size w)
 unfold spec_ObjText.f at h
 have H := h
 clear h
 revert H
 refine ok1 fun t1531 A2 H => ?_
 by_cases c3 : t1531 = true
 rotate_left
 ·replace c3 := Bool.eq_false_iff.mpr c3
  subst c3
  rw [if_neg (show ¬ (false = true) by decide)] at H
  obtain rfl := Option.some.inj H
  go_enter Tryz.func59, Tryz.ntmps59
  go_wp2_with (first | (refine bx 1 #[.string a0_0, .slice A0_1 l0_1.length c0_1, .slice A0_2 l0_2.length c0_2, .int .i64 a0_3, .slice A0_4 l0_4.length c0_4, .string a0_5, .int .i64 a0_6] 31 ?_; intro gb1530 hg w27 hbox hb; have BK1530 := am (hbox); have GW1530 := am (sz hg : w.heap.size ≤ gb1530); have GE1530 := am (sz hg : w.heap.size ≤ gb1530); replace HB := am (below_step bl hb); clear hb hbox hg; obtain ⟨z28_0, y28_0, z28_1, y28_1, z28_2, y28_2, z28_3, y28_3, z28_4, y28_4, z28_5, y28_5, z28_6, y28_6⟩ := cl7 BK1530) | (refine gl 6 Tryz.func77 #[.agg #[.string a0_0, .slice A0_1 l0_1.length c0_1, .slice A0_2 l0_2.length c0_2, .int .i64 a0_3, .slice A0_4 l0_4.length c0_4, .string a0_5, .int .i64 a0_6]] ?_; (with_reducible refine (spec_ObjOk.calls k a0_0 _ _ l0_1 _ _ l0_2 a0_3 _ _ l0_4 a0_5 a0_6 false _ ?side1 ?side2 ?side3 ?side4 ?side5 ?side6 A2.out).mono ?_); (case side1 => exact cb HR0_1); (case side2 => exact HC0_1.out); (case side3 => exact cb HR0_2); (case side4 => exact HC0_2.out); (case side5 => exact cb HR0_4); (case side6 => exact HC0_4.out); rintro e w29 ⟨rfl, hb⟩; refine ⟨_, rfl, ?_⟩; replace BK1530 := kb BK1530 hb; replace HB := am (below_step bl hb); clear hb))
  go_ret
  exact ⟨rf, bl⟩
 subst c3
 rw [if_pos rfl] at H
 revert H
 refine ifn fun c4 H => ?_
 have c4b0 := eq_true c4
 have c4b1 := decide_eq_true c4
 try have c4b2 := eq_false (Nat.not_lt.2 c4)
 revert H
 refine ifn fun c5 H => ?_
 have c5b0 := eq_true c5
 have c5b1 := decide_eq_true c5
 try have c5b2 := eq_false (Nat.not_lt.2 c5)
 have c5b3 : (9223372036854775807 < 4 + (a0_0).size + 1) = False := b3 c5
 revert H
 refine ok1 fun t1532 A6 H => ?_
 revert H
 refine ifn fun c7 H => ?_
 have c7b0 := eq_true c7
 have c7b1 := decide_eq_true c7
 try have c7b2 := eq_false (Nat.not_lt.2 c7)
 have c7b3 : (9223372036854775807 < 4 + (a0_0).size + 1 + (t1532).size) = False := b3 c7
 revert H
 refine ifn fun c8 H => ?_
 have c8b0 := eq_true c8
 have c8b1 := decide_eq_true c8
 try have c8b2 := eq_false (Nat.not_lt.2 c8)
 have c8b3 : (9223372036854775807 < 4 + (a0_0).size + 1 + (t1532).size + 1) = False := b3 c8
 revert H
 refine ok1 fun t1533 A9 H => ?_
 revert H
 refine ifn fun c10 H => ?_
 have c10b0 := eq_true c10
 have c10b1 := decide_eq_true c10
 try have c10b2 := eq_false (Nat.not_lt.2 c10)
 have c10b3 : (9223372036854775807 < 4 + (a0_0).size + 1 + (t1532).size + 1 + (t1533).size) = False := b3 c10
 revert H
 refine ifn fun c11 H => ?_
 have c11b0 := eq_true c11
 have c11b1 := decide_eq_true c11
 try have c11b2 := eq_false (Nat.not_lt.2 c11)
 have c11b3 : (9223372036854775807 < 4 + (a0_0).size + 1 + (t1532).size + 1 + (t1533).size + 1) = False := b3 c11
 have H' := am H
 clear H
 go_enter Tryz.func59, Tryz.ntmps59
 try go_wp2_with (first | (refine bx 1 #[.string a0_0, .slice A0_1 l0_1.length c0_1, .slice A0_2 l0_2.length c0_2, .int .i64 a0_3, .slice A0_4 l0_4.length c0_4, .string a0_5, .int .i64 a0_6] 31 ?_; intro gb1530 hg w12 hbox hb; have BK1530 := am (hbox); have GW1530 := am (sz hg : w.heap.size ≤ gb1530); have GE1530 := am (sz hg : w.heap.size ≤ gb1530); replace HB := am (below_step bl hb); clear hb hbox hg; obtain ⟨z13_0, y13_0, z13_1, y13_1, z13_2, y13_2, z13_3, y13_3, z13_4, y13_4, z13_5, y13_5, z13_6, y13_6⟩ := cl7 BK1530) | (refine gl 6 Tryz.func77 #[.agg #[.string a0_0, .slice A0_1 l0_1.length c0_1, .slice A0_2 l0_2.length c0_2, .int .i64 a0_3, .slice A0_4 l0_4.length c0_4, .string a0_5, .int .i64 a0_6]] ?_; (with_reducible refine (spec_ObjOk.calls k a0_0 _ _ l0_1 _ _ l0_2 a0_3 _ _ l0_4 a0_5 a0_6 true _ ?side1 ?side2 ?side3 ?side4 ?side5 ?side6 A2.out).mono ?_); (case side1 => exact cb HR0_1); (case side2 => exact HC0_1.out); (case side3 => exact cb HR0_2); (case side4 => exact HC0_2.out); (case side5 => exact cb HR0_4); (case side6 => exact HC0_4.out); rintro e w14 ⟨rfl, hb⟩; refine ⟨_, rfl, ?_⟩; replace BK1530 := kb BK1530 hb; replace HB := am (below_step bl hb); clear hb))
 replace BK1530 := am (blk_drew BK1530.out)
 replace HB := am (below_drew1 HB.out)
 refine start_ (n := 16) (S := fun w' => w'.cell? ⟨gb1530, 0, none⟩ = some (.string a0_0) ∧ w'.cell? ⟨gb1530, 1, none⟩ = some (.slice A0_1 l0_1.length c0_1) ∧ w'.cell? ⟨gb1530, 2, none⟩ = some (.slice A0_2 l0_2.length c0_2) ∧ w'.cell? ⟨gb1530, 3, none⟩ = some (.int .i64 a0_3) ∧ w'.cell? ⟨gb1530, 4, none⟩ = some (.slice A0_4 l0_4.length c0_4) ∧ w'.cell? ⟨gb1530, 5, none⟩ = some (.string a0_5) ∧ w'.cell? ⟨gb1530, 6, none⟩ = some (.int .i64 a0_6)) (ds := []) ⟨br true [0, 16]⟩ (by kernel_rfl) rfl (by kernel_rfl) ⟨bc BK1530, bc BK1530, bc BK1530, bc BK1530, bc BK1530, bc BK1530, bc BK1530⟩ (fun hHeld => ?_); refine with_tabW spec_ObjText.tab3 spec_ObjText.bits3 (fun HT_ HW_ => ?_)
 generalize w14.drew = w15 at BK1530 HB hHeld ⊢
 refine pu 0 8 [1, 15] ?_
 refine pu 4 12 [1, 3, 1, 11] ?_
 refine pu 9 17 [1, 3, 1, 4, 1, 6] ?_
 refine tk 1 9 [2, 2, 1, 4, 1, 6] ?_
 refine pu 2 10 [3, 1, 1, 4, 1, 6] ?_
 refine pu 3 11 [5, 4, 1, 6] ?_
 refine tk 5 13 [6, 3, 1, 6] ?_
 refine tk 10 18 [6, 3, 2, 5] ?_
 refine pu 11 19 [6, 3, 3, 4] ?_
 refine og 6 14 [7, 2, 3, 4] Tryz.func104 #[.int .i64 a0_6] (fun K hK => ?_)
 with_reducible refine (spec_NumText.calls k a0_6 t1532 _ A6.out).mono ?_
 rintro e w16 ⟨rfl, hb⟩
 refine ⟨_, rfl, ?_⟩
 replace BK1530 := kb BK1530 hb
 replace HB := am (below_step bl hb)
 clear hb
 refine hK.out _ _ ⟨bc BK1530, bc BK1530, bc BK1530, bc BK1530, bc BK1530, bc BK1530, bc BK1530⟩ (fun hHeld => ?_)
 clear hK K
 refine nm 14 ?_
 refine pu 7 15 [8, 1, 3, 4] ?_
 refine pu 8 16 [12, 4] ?_
 refine og 12 20 [13, 3] Tryz.func104 #[.int .i64 (l0_2.length : Int)] (fun K hK => ?_)
 with_reducible refine (spec_NumText.calls k (l0_2.length : Int) t1533 _ A9.out).mono ?_
 rintro e w17 ⟨rfl, hb⟩
 refine ⟨_, rfl, ?_⟩
 replace BK1530 := kb BK1530 hb
 replace HB := am (below_step bl hb)
 clear hb
 refine hK.out _ _ ⟨bc BK1530, bc BK1530, bc BK1530, bc BK1530, bc BK1530, bc BK1530, bc BK1530⟩ (fun hHeld => ?_)
 clear hK K
 refine nm 20 ?_
 refine pu 13 21 [14, 2] ?_
 refine pu 14 22 [15, 1] ?_
 refine pu 15 3 [16] ?_
 refine done_ (done_of HT_.out (by kernel_rfl)) ?_
 try go_wp2
 (try simp only [Act.put, List.setIfInBounds_toArray, List.set_cons_zero, List.set_cons_succ])
 go_loopg [3, 4] k (fun kq v3 v4 w' => ∃ (x3_1 : ByteArray) (x4_1 : Int), v3 = .string x3_1 ∧ v4 = .int .i64 x4_1 ∧ Aside0 (spec_ObjText.l0 kq x3_1 x4_1 a0_0 l0_1 l0_2 a0_3 l0_4 a0_5 a0_6 = some r) ∧ Aside0 (kq ≤ k) ∧ Aside0 (w'.heap[gb1530]? = some (.cells #[.string a0_0, (.slice A0_1 l0_1.length c0_1), (.slice A0_2 l0_2.length c0_2), .int .i64 a0_3, (.slice A0_4 l0_4.length c0_4), .string a0_5, .int .i64 a0_6] 31 (0, 0))) ∧ Aside0 (Below w.heap.size w w'))
 case atStart => exact ⟨(((((((⟨#[111, 98, 106, 32]⟩ : ByteArray) ++ a0_0) ++ (⟨#[32]⟩ : ByteArray)) ++ t1532) ++ (⟨#[32]⟩ : ByteArray)) ++ t1533) ++ (⟨#[10]⟩ : ByteArray)), (0), rs, rs, H', ⟨Nat.le_refl _⟩, ⟨by (with_reducible repeat (first | refine blk_drewN ?_ _ | refine blk_drew ?_ | refine blk_alloc ?_ _)); exact BK1530.out⟩, ⟨u59HB⟩⟩
 case round =>
  clear H'
  try clear c1
  try clear p2
  try clear c3
  try clear c4
  try clear c4b0
  try clear c4b1
  try clear c4b2
  try clear c5
  try clear c5b0
  try clear c5b1
  try clear c5b2
  try clear c7
  try clear c7b0
  try clear c7b1
  try clear c7b2
  try clear c8
  try clear c8b0
  try clear c8b1
  try clear c8b2
  try clear c10
  try clear c10b0
  try clear c10b1
  try clear c10b2
  try clear c11
  try clear c11b0
  try clear c11b1
  try clear c11b2
  try clear z13_0
  try clear z13_1
  try clear z13_2
  try clear z13_3
  try clear z13_4
  try clear z13_5
  try clear z13_6
  try clear y13_0
  try clear y13_1
  try clear y13_2
  try clear y13_3
  try clear y13_4
  try clear y13_5
  try clear y13_6
  obtain ⟨x3_1, x4_1, rfl, rfl, HA, HK1, BK1530, HB⟩ := hrel
  cases gk with
  | zero => exact absurd HA.out (by simp [spec_ObjText.l0])
  | succ k1 =>
   have H := HA.out
   clear HA
   simp only [spec_ObjText.l0] at H
   by_cases c18 : x4_1 < (l0_2.length : Int)
   rotate_left
   ·rw [if_neg c18] at H
    have c18b0 := decide_eq_false c18
    clear c18
    revert H
    refine ok1 fun t1535 A23 H => ?_
    revert H
    refine ifn fun c24 H => ?_
    have c24b0 := eq_true c24
    have c24b1 := decide_eq_true c24
    try have c24b2 := eq_false (Nat.not_lt.2 c24)
    obtain rfl := Option.some.inj H
    obtain ⟨z25_0, y25_0, z25_1, y25_1, z25_2, y25_2, z25_3, y25_3, z25_4, y25_4, z25_5, y25_5, z25_6, y25_6⟩ := cl7 BK1530
    go_wp2_with (first | (refine gl 41 Tryz.func128 #[.agg #[.int .i64 a0_3, .slice A0_4 l0_4.length c0_4, .string a0_5]] ?_; (with_reducible refine (spec_RespText.calls k1 a0_3 _ _ l0_4 a0_5 t1535 _ ?side1 ?side2 A23.out).mono ?_); (case side1 => exact cb HR0_4); (case side2 => exact HC0_4.out); rintro e w26 ⟨rfl, hb⟩; refine ⟨_, rfl, ?_⟩; replace BK1530 := kb BK1530 hb; replace HB := am (below_step bl hb); clear hb))
    go_ret
    exact ⟨rf, bl⟩
   rw [if_pos c18] at H
   have c18b0 := decide_eq_true c18
   clear c18
   revert H
   refine ifn fun c19 H => ?_
   have c19b0 := decide_eq_true c19
   clear c19
   revert H
   refine ifn fun c20 H => ?_
   have c20b0 := eq_true c20
   have c20b1 := decide_eq_true c20
   try have c20b2 := eq_false (Nat.not_lt.2 c20)
   revert H
   refine ifn fun c21 H => ?_
   have c21b0 := eq_true c21
   have c21b1 := decide_eq_true c21
   try have c21b2 := eq_false (Nat.not_lt.2 c21)
   have c21b3 : (9223372036854775807 < (x3_1).size + (rdOf ByteArray.empty l0_2 x4_1).size + 1) = False := b3 c21
   have H' := am H
   clear H
   obtain ⟨z22_0, y22_0, z22_1, y22_1, z22_2, y22_2, z22_3, y22_3, z22_4, y22_4, z22_5, y22_5, z22_6, y22_6⟩ := cl7 BK1530
   have p1534 : 0 ≤ (x4_1 : Int) := od
   have q1534 : x4_1 < (l0_2.length : Int) := od
   obtain ⟨ad1534, e1534, hx1534_0⟩ := Kd.at_string HR0_2.out x4_1 p1534 q1534
   cases e1534
   replace hx1534_0 := hcw hx1534_0
   replace p1534 := eq_true p1534
   replace q1534 := eq_true q1534
   go_wp2
   go_roundg k1
   case measure => have := HK1.out; omega
   case rel => exact ⟨((x3_1 ++ (rdOf ByteArray.empty l0_2 x4_1)) ++ (⟨#[10]⟩ : ByteArray)), (wrap64 (x4_1 + 1)), rs, rs, H', ⟨by have := HK1.out; omega⟩, ⟨by (with_reducible repeat (first | refine blk_drewN ?_ _ | refine blk_drew ?_ | refine blk_alloc ?_ _)); exact BK1530.out⟩, ⟨u59HB⟩⟩

/-! ### laws_toStringS: function 129 -/
theorem u129HB {p : Prop} (h : p := by repeat (first | (with_reducible first | exact HB.out | apply below_alloc | apply pw_below_drewN | apply below_drew1) | exact HB.out)) : p := h
def laws_toStringS.l0 : Nat → List ByteArray → List ByteArray → Int → Option (List ByteArray)
 | 0, _, _, _ => none
 | k + 1, x0, x3, x4 => if x4 < (x0.length : Int) then (if 0 ≤ x4 then (if x4 < (x3.length : Int) then (laws_toStringS.l0 k x0 (x3.set (x4 : Int).toNat (rdOf ByteArray.empty x0 x4)) (wrap64 (x4 + 1))) else (none)) else (none)) else (some x3)
def laws_toStringS.f (k : Nat) (l0 : List ByteArray) : Option (List ByteArray) := if 0 ≤ (l0.length : Int) then (if ((l0.length : Int) : Int).toNat ≤ 17592186044416 then (laws_toStringS.l0 k l0 (List.replicate ((l0.length : Int) : Int).toNat (⟨#[]⟩ : ByteArray)) 0) else (none)) else (none)
theorem laws_toStringS.mono_l : ∀ k, (∀ y0 y1 y2, LeO (laws_toStringS.l0 k y0 y1 y2) (laws_toStringS.l0 (k + 1) y0 y1 y2))
 | 0 => fun _ _ _ r h => by simp [laws_toStringS.l0] at h
 | k + 1 => by
  have ih0 := laws_toStringS.mono_l k
  ·intro y0 y1 y2
   unfold laws_toStringS.l0
   exact mo
theorem laws_toStringS.mono : ∀ a0 k, LeO (laws_toStringS.f k a0) (laws_toStringS.f (k + 1) a0) := by
 intro a0 k
 have ih0 := laws_toStringS.mono_l k
 unfold laws_toStringS.f
 exact mo
set_option maxHeartbeats 8000000 in
set_option maxRecDepth 100000 in
theorem laws_toStringS.calls (k : Nat) (A0 : Option Addr) (c0 : Nat) (l0 : List ByteArray) (r : List ByteArray) (w : World) (hr0 : Kd.C Kd.string w A0 l0.length l0) (hc0 : l0.length ≤ c0) (h : laws_toStringS.f k l0 = some r) :
  Calls Tryz.prog 129 #[.slice A0 l0.length c0] w fun e w' => ∃ v0_ : Value, e = .returned (v0_) ∧ Kd.R Kd.string 9 w' w.heap.size (fun _ => True) v0_ r ∧ Below w.heap.size w w' := by
 have HR0 := am hr0
 have HC0 := am hc0
 clear hr0 hc0
 have HB := am (Below.refl w.heap.size w)
 unfold laws_toStringS.f at h
 have H := h
 clear h
 revert H
 refine ifn fun c2 H => ?_
 have c2b0 := eq_true c2
 have c2b1 := decide_eq_true c2
 clear c2
 revert H
 refine ifn fun c3 H => ?_
 have c3b0 := eq_true c3
 have c3b1 := decide_eq_true c3
 clear c3
 obtain ⟨y1536, hy1536⟩ : ∃ y_ : List ByteArray, y_ = (List.replicate ((l0.length : Int) : Int).toNat (⟨#[]⟩ : ByteArray)) := ⟨_, rfl⟩
 replace H : (laws_toStringS.l0 k l0 y1536 0) = some r := by first | (rw [hy1536]; with_reducible exact H) | (have H2_ := (Option.bind_some _ _).symm.trans H; rw [hy1536]; with_reducible exact H2_) | (have H2_ := (Option.bind_some _ _).symm.trans H; with_reducible exact H2_) | with_reducible exact H | (rw [hy1536]; exact H) | exact H
 have Ny1536 := am hy1536
 clear hy1536
 have H' := am H
 clear H
 go_enter Tryz.func129, Tryz.ntmps129
 go_wp2_with (first | ((with_reducible refine gate_dst (N := 7) rfl ?_); refine Kd.R_make Kd.string _ 9 rfl (N := 7) rfl 26 _ _ rfl (l0.length : Int) rfl rfl Tryz.underlying26 (.string ⟨#[]⟩) 16 info9 rfl (by decide) (by omega) (⟨#[]⟩ : ByteArray) (ok := fun _ => True) (okp := fun _ => True) rfl (fun _ hk => hk) trivial (od) (Nat.le_trans (Nat.mul_le_mul_right _ (od : (l0.length : Int).toNat ≤ 17592186044416)) (by omega)) (Below.refl _ _) (Nat.le_refl _) ?_; intro v1537 w4 ho5 hb hg_ hnew_; clear hg_ hnew_; (first | rw [← Ny1536.out] at ho5 | (simp only [Int.reduceToNat] at ho5; rw [← Ny1536.out] at ho5)); have HO1538 := am (Kd.R_lower ho5 (below_size bl)); replace HB := am (below_step bl hb); clear hb ho5))
 (try simp only [Act.put, List.setIfInBounds_toArray, List.set_cons_zero, List.set_cons_succ])
 go_loopg [4] k (fun kq v4 w' => ∃ (x3_1 : List ByteArray) (x4_1 : Int), v4 = .int .i64 x4_1 ∧ Aside0 (laws_toStringS.l0 kq l0 x3_1 x4_1 = some r) ∧ Aside0 (kq ≤ k) ∧ Aside0 (Kd.R Kd.string 9 w' w.heap.size (fun _ => True) v1537 x3_1) ∧ Aside0 (Below w.heap.size w w'))
 case atStart => exact ⟨(y1536), (0), rs, H', ⟨Nat.le_refl _⟩, ⟨by (with_reducible repeat (first | apply Kd.R_alloc | apply Kd.R_drewN | apply Kd.R_drew)); exact HO1538.out⟩, ⟨u129HB⟩⟩
 case round =>
  clear H'
  try clear c1
  try clear c2
  try clear c2b0
  try clear c2b1
  try clear p2
  try clear c3
  try clear c3b0
  try clear c3b1
  obtain ⟨x3_1, x4_1, rfl, HA, HK1, HO_3, HB⟩ := hrel
  cases gk with
  | zero => exact absurd HA.out (by simp [laws_toStringS.l0])
  | succ k1 =>
   have H := HA.out
   clear HA
   simp only [laws_toStringS.l0] at H
   by_cases c6 : x4_1 < (l0.length : Int)
   rotate_left
   ·rw [if_neg c6] at H
    have c6b0 := decide_eq_false c6
    clear c6
    obtain rfl := Option.some.inj H
    go_wp2
    go_ret
    exact ⟨_, rf, by (with_reducible repeat (first | apply Kd.R_alloc | apply Kd.R_drewN | apply Kd.R_drew)); exact HO_3.out, bl⟩
   rw [if_pos c6] at H
   have c6b0 := decide_eq_true c6
   clear c6
   revert H
   refine ifn fun c7 H => ?_
   have c7b0 := decide_eq_true c7
   clear c7
   revert H
   refine ifn fun c8 H => ?_
   have c8b0 := decide_eq_true c8
   clear c8
   obtain ⟨y1540, hy1540⟩ : ∃ y_ : List ByteArray, y_ = (x3_1.set (x4_1 : Int).toNat (rdOf ByteArray.empty l0 x4_1)) := ⟨_, rfl⟩
   replace H : (laws_toStringS.l0 k1 l0 y1540 (wrap64 (x4_1 + 1))) = some r := by first | (rw [hy1540]; with_reducible exact H) | (have H2_ := (Option.bind_some _ _).symm.trans H; rw [hy1540]; with_reducible exact H2_) | (have H2_ := (Option.bind_some _ _).symm.trans H; with_reducible exact H2_) | with_reducible exact H | (rw [hy1540]; exact H) | exact H
   have Ny1540 := am hy1540
   clear hy1540
   have H' := am H
   clear H
   have p1539 : 0 ≤ (x4_1 : Int) := od
   have q1539 : x4_1 < (l0.length : Int) := od
   obtain ⟨ad1539, e1539, hx1539_0⟩ := Kd.at_string HR0.out x4_1 p1539 q1539
   cases e1539
   replace hx1539_0 := hcw hx1539_0
   replace p1539 := eq_true p1539
   replace q1539 := eq_true q1539
   have p9 : 0 ≤ (x4_1 : Int) := od
   have q9 : (x4_1 : Int) < ((x3_1.length : Int) : Int) := od
   obtain ⟨go9, co9, eo9, gb9, gl9, cl9, HG9⟩ := Kd.R_form HO_3.out (by omega)
   (first | cases eo9 | (injection eo9 with ea_ en_ ec_; (first | subst ea_ | (injection ea_ with ea_; subst ea_)); subst ec_; clear en_))
   have GB9 := am gb9
   have GG9 := am HG9
   clear gb9 gl9 HG9
   obtain ⟨hx9_0, hf9_0⟩ := Kd.R_celln (⟨#[]⟩ : ByteArray) HO_3.out (x4_1 : Int) p9 q9
   replace p9 := eq_true p9
   replace q9 := eq_true q9
   have HP10 := Kd.R_putg HO_3.out (x4_1 : Int) (rdOf ByteArray.empty l0 x4_1)
   go_wp2_with (first | ((with_reducible refine gate_store (t := 9) (p := 20) rfl ?_); refine store_event (t := 9) (p := 20) (v := ?vo_w11) (w1 := (wr.setCell ⟨go9, (x4_1 : Int).toNat, none⟩ (.string (rdOf ByteArray.empty l0 x4_1)))) ?hg ?ho ?hn ?hr ?_; (case ho => rfl); (case hg => rfl); (case hn => rfl); (case hr => first | (go_simp; done) | (go_simp; rfl)); intro w11 hw; have hg : wr.grownBy w11 (some go9) := (by rw [hw]; exact HP10.2); have hp_ : Kd.R Kd.string 9 w11 w.heap.size (fun _ => True) (.slice (some ⟨go9, 0, none⟩) x3_1.length co9) y1540 := (by rw [hw, Ny1540.out]; exact HP10.1); clear HP10; have n0_ := am (hp_); have n1_ := am ((by rw [hw]; exact below_set (HB.out) GB9.out : Below w.heap.size w w11)); clear HO_3; clear HB; have HO_3 := n0_; have HB := n1_; clear n0_ n1_; clear hg hw hp_))
   go_roundg k1
   case measure => have := HK1.out; omega
   case rel => exact ⟨(y1540), (wrap64 (x4_1 + 1)), rs, H', ⟨by have := HK1.out; omega⟩, ⟨by (with_reducible repeat (first | apply Kd.R_alloc | apply Kd.R_drewN | apply Kd.R_drew)); exact HO_3.out⟩, ⟨u129HB⟩⟩

/-! ### laws_toObj: function 60 -/
def laws_toObj.f (k : Nat) (a0_0 : ByteArray) (l0_1 : List ByteArray) (l0_2 : List ByteArray) (a0_3 : Int) (l0_4 : List (S115)) (a0_5 : ByteArray) (a0_6 : Int) : Option (ByteArray × List ByteArray × List ByteArray × Int × (List (S116)) × ByteArray × Int) := (laws_toStringS.f k l0_1).bind fun t1544 => ((laws_toStringS.f k l0_2).bind fun t1547 => ((laws_toResp.f k a0_3 l0_4 a0_5).bind fun bt1550 => (some (a0_0, t1544, t1547, bt1550.1, bt1550.2.1, bt1550.2.2, a0_6))))
theorem laws_toObj.mono : ∀ a0 a1 a2 a3 a4 a5 a6 k, LeO (laws_toObj.f k a0 a1 a2 a3 a4 a5 a6) (laws_toObj.f (k + 1) a0 a1 a2 a3 a4 a5 a6) := by
 intro a0 a1 a2 a3 a4 a5 a6 k
 unfold laws_toObj.f
 have m0 := @laws_toResp.mono
 have m1 := @laws_toStringS.mono
 exact mo
set_option maxHeartbeats 8000000 in
set_option maxRecDepth 100000 in
theorem laws_toObj.calls (k : Nat) (a0_0 : ByteArray) (A0_1 : Option Addr) (c0_1 : Nat) (l0_1 : List ByteArray) (A0_2 : Option Addr) (c0_2 : Nat) (l0_2 : List ByteArray) (a0_3 : Int) (A0_4 : Option Addr) (c0_4 : Nat) (l0_4 : List (S115)) (a0_5 : ByteArray) (a0_6 : Int) (r1 : ByteArray) (r2 : List ByteArray) (r3 : List ByteArray) (r4 : Int) (r5 : List (S116)) (r6 : ByteArray) (r7 : Int) (w : World) (hr0_1 : Kd.C Kd.string w A0_1 l0_1.length l0_1) (hc0_1 : l0_1.length ≤ c0_1) (hr0_2 : Kd.C Kd.string w A0_2 l0_2.length l0_2) (hc0_2 : l0_2.length ≤ c0_2) (hr0_4 : Kd.C k115 w A0_4 l0_4.length l0_4) (hc0_4 : l0_4.length ≤ c0_4) (h : laws_toObj.f k a0_0 l0_1 l0_2 a0_3 l0_4 a0_5 a0_6 = some (r1, r2, r3, r4, r5, r6, r7)) :
  Calls Tryz.prog 60 #[.agg #[.string a0_0, .slice A0_1 l0_1.length c0_1, .slice A0_2 l0_2.length c0_2, .int .i64 a0_3, .slice A0_4 l0_4.length c0_4, .string a0_5, .int .i64 a0_6]] w fun e w' => ∃ v1_ v2_ v4_ : Value, e = .returned (.agg #[.string r1, v1_, v2_, .int .i64 r4, v4_, .string r6, .int .i64 r7]) ∧ Kd.R Kd.string 9 w' w.heap.size (fun k_ => some k_ ≠ (v2_ : Value).ownBlock) v1_ r2 ∧ Kd.R Kd.string 9 w' w.heap.size (fun k_ => some k_ ≠ (v1_ : Value).ownBlock) v2_ r3 ∧ Kd.R k116 116 w' w.heap.size (fun _ => True) v4_ r5 ∧ Below w.heap.size w w' := by
 have hu85 := Tryz.underlying85
 have hu31 := Tryz.underlying31
 have hu65 := Tryz.underlying65
 have hu29 := Tryz.underlying29
 have HR0_1 := am hr0_1
 have HC0_1 := am hc0_1
 clear hr0_1 hc0_1
 have HR0_2 := am hr0_2
 have HC0_2 := am hc0_2
 clear hr0_2 hc0_2
 have HR0_4 := am hr0_4
 have HC0_4 := am hc0_4
 clear hr0_4 hc0_4
 have HB := am (Below.refl w.heap.size w)
 unfold laws_toObj.f at h
 have H := h
 clear h
 revert H
 refine ok1 fun t1544 A2 H => ?_
 revert H
 refine ok1 fun t1547 A3 H => ?_
 revert H
 refine ok3 fun t1550 t1551 t1554 A4 H => ?_
 (try dsimp only at H)
 simp only [Option.some.injEq, Prod.mk.injEq] at H
 obtain ⟨rfl, rfl, rfl, rfl, rfl, rfl, rfl⟩ := H
 go_enter Tryz.func60, Tryz.ntmps60
 go_wp2_with (first | (refine bx 1 #[.string a0_0, .slice A0_1 l0_1.length c0_1, .slice A0_2 l0_2.length c0_2, .int .i64 a0_3, .slice A0_4 l0_4.length c0_4, .string a0_5, .int .i64 a0_6] 85 ?_; intro gb1541 hg w5 hbox hb; have BK1541 := am (hbox); have GW1541 := am (sz hg : w.heap.size ≤ gb1541); have GE1541 := am (sz hg : w.heap.size ≤ gb1541); replace HB := am (below_step bl hb); clear hb hbox hg) | (refine bx 2 #[.string (⟨#[]⟩ : ByteArray), .slice none 0 0, .slice none 0 0, .int .i64 0, .slice none 0 0, .string (⟨#[]⟩ : ByteArray), .int .i64 0] 31 ?_; intro gb1542 hg w6 hbox hb; have BK1542 := am (hbox); have GW1542 := am (sz hg : w.heap.size ≤ gb1542); have GE1542 := am (sz hg : w.heap.size ≤ gb1542); replace HB := am (below_step bl hb); have NB1541_1542 := am (nl hg BK1541 : gb1541 ≠ gb1542); have NB1542_1541 := am (ng hg BK1541 : gb1542 ≠ gb1541); replace BK1541 := kb BK1541 hb; clear hb hbox hg) | (refine bx 3 #[.string (⟨#[]⟩ : ByteArray), .slice none 0 0, .slice none 0 0, .int .i64 0, .slice none 0 0, .string (⟨#[]⟩ : ByteArray), .int .i64 0] 31 ?_; intro gb1543 hg w7 hbox hb; have BK1543 := am (hbox); have GW1543 := am (sz hg : w.heap.size ≤ gb1543); have GE1543 := am (sz hg : w.heap.size ≤ gb1543); replace HB := am (below_step bl hb); have NB1541_1543 := am (nl hg BK1541 : gb1541 ≠ gb1543); have NB1543_1541 := am (ng hg BK1541 : gb1543 ≠ gb1541); replace BK1541 := kb BK1541 hb; have NB1542_1543 := am (nl hg BK1542 : gb1542 ≠ gb1543); have NB1543_1542 := am (ng hg BK1542 : gb1543 ≠ gb1542); replace BK1542 := kb BK1542 hb; clear hb hbox hg; have hnb8 := NB1541_1542.out; have hnc8 := NB1542_1541.out; have hnb9 := NB1541_1543.out; have hnc9 := NB1543_1541.out; obtain ⟨z10_0, y10_0, z10_1, y10_1, z10_2, y10_2, z10_3, y10_3, z10_4, y10_4, z10_5, y10_5, z10_6, y10_6⟩ := cl7 BK1541; have hnb11 := NB1543_1542.out; have hnc11 := NB1542_1543.out; obtain ⟨z12_0, y12_0, z12_1, y12_1, z12_2, y12_2, z12_3, y12_3, z12_4, y12_4, z12_5, y12_5, z12_6, y12_6⟩ := cl7 BK1543) | (refine gl 9 Tryz.func129 #[.slice A0_1 l0_1.length c0_1] ?_; (with_reducible refine (laws_toStringS.calls k _ _ l0_1 t1544 _ ?side1 ?side2 A2.out).mono ?_); (case side1 => exact Kd.C_below HR0_1.out bl); (case side2 => exact HC0_1.out); rintro e w13 ⟨v1545, rfl, ho0, hb⟩; refine ⟨_, rfl, ?_⟩; have HO1546 := am (Kd.R_lower ho0 (below_size bl)); replace BK1541 := kg1 BK1541 NB1541_1543 hb; replace BK1542 := kg1 BK1542 NB1542_1543 hb; replace BK1543 := am (blk_below (g := gb1543) (o := .cells #[.string a0_0, .slice none 0 0, .slice none 0 0, .int .i64 0, .slice none 0 0, .string (⟨#[]⟩ : ByteArray), .int .i64 0] 31 (0, 0)) (pt0 BK1543) hb); replace HB := am (below_step bl hb); clear hb ho0; obtain ⟨Ao14, co14, eo14⟩ := Kd.R_slice HO1546.out; subst eo14; obtain ⟨z15_0, y15_0, z15_1, y15_1, z15_2, y15_2, z15_3, y15_3, z15_4, y15_4, z15_5, y15_5, z15_6, y15_6⟩ := cl7 BK1543; obtain ⟨z16_0, y16_0, z16_1, y16_1, z16_2, y16_2, z16_3, y16_3, z16_4, y16_4, z16_5, y16_5, z16_6, y16_6⟩ := cl7 BK1541) | (refine gl 13 Tryz.func129 #[.slice A0_2 l0_2.length c0_2] ?_; (with_reducible refine (laws_toStringS.calls k _ _ l0_2 t1547 _ ?side1 ?side2 A3.out).mono ?_); (case side1 => exact Kd.C_below HR0_2.out bl); (case side2 => exact HC0_2.out); rintro e w17 ⟨v1548, rfl, ho0, hb⟩; refine ⟨_, rfl, ?_⟩; have n0_ := am (Kd.R_elder' (by (with_reducible repeat (first | apply Kd.R_alloc | apply Kd.R_drewN | apply Kd.R_drew)); exact (Kd.R_mono (Kd.R_far (p := ⟨gb1543, 1, none⟩) (Kd.R_types HO1546.out BK1543.out (by decide)) (fun _ hk => hk.2) (.slice Ao14 t1544.length co14)) (fun _ h_ => h_.1))) (Kd.R_base ho0) hb); have n1_ := am (Kd.R_lower (Kd.R_new' ho0 (Kd.R_lt (by (with_reducible repeat (first | apply Kd.R_alloc | apply Kd.R_drewN | apply Kd.R_drew)); exact (Kd.R_mono (Kd.R_far (p := ⟨gb1543, 1, none⟩) (Kd.R_types HO1546.out BK1543.out (by decide)) (fun _ hk => hk.2) (.slice Ao14 t1544.length co14)) (fun _ h_ => h_.1))))) (below_size bl)); have n2_ := kg1 BK1541 NB1541_1543 hb; have n3_ := kg1 BK1542 NB1542_1543 hb; have n4_ := am (blk_below (g := gb1543) (o := .cells #[.string a0_0, .slice Ao14 t1544.length co14, .slice none 0 0, .int .i64 0, .slice none 0 0, .string (⟨#[]⟩ : ByteArray), .int .i64 0] 31 (0, 0)) (pt0 BK1543) hb); have n5_ := am (below_step bl hb); clear HO1546; clear BK1541; clear BK1542; clear BK1543; clear HB; have HO1546 := n0_; have HO1549 := n1_; have BK1541 := n2_; have BK1542 := n3_; have BK1543 := n4_; have HB := n5_; clear n0_ n1_ n2_ n3_ n4_ n5_; clear hb ho0; obtain ⟨Ao18, co18, eo18⟩ := Kd.R_slice HO1549.out; subst eo18; obtain ⟨z19_0, y19_0, z19_1, y19_1, z19_2, y19_2, z19_3, y19_3, z19_4, y19_4, z19_5, y19_5, z19_6, y19_6⟩ := cl7 BK1543; obtain ⟨z20_0, y20_0, z20_1, y20_1, z20_2, y20_2, z20_3, y20_3, z20_4, y20_4, z20_5, y20_5, z20_6, y20_6⟩ := cl7 BK1541) | (refine gl 17 Tryz.func47 #[.agg #[.int .i64 a0_3, .slice A0_4 l0_4.length c0_4, .string a0_5]] ?_; (with_reducible refine (laws_toResp.calls k a0_3 _ _ l0_4 a0_5 t1550 t1551 t1554 _ ?side1 ?side2 A4.out).mono ?_); (case side1 => exact Kd.C_below HR0_4.out bl); (case side2 => exact HC0_4.out); rintro e w21 ⟨v1552, rfl, ho0, hb⟩; refine ⟨_, rfl, ?_⟩; have n0_ := am (Kd.R_below (by (with_reducible repeat (first | apply Kd.R_alloc | apply Kd.R_drewN | apply Kd.R_drew)); exact (Kd.R_mono (Kd.R_far (p := ⟨gb1543, 2, none⟩) (Kd.R_types HO1546.out BK1543.out (by decide)) (fun _ hk => hk.2) (.slice Ao18 t1547.length co18)) (fun _ h_ => h_.1))) hb); have n1_ := am (Kd.R_below (by (with_reducible repeat (first | apply Kd.R_alloc | apply Kd.R_drewN | apply Kd.R_drew)); exact (Kd.R_mono (Kd.R_far (p := ⟨gb1543, 2, none⟩) (Kd.R_types HO1549.out BK1543.out (by decide)) (fun _ hk => hk.2) (.slice Ao18 t1547.length co18)) (fun _ h_ => h_.1))) hb); have n2_ := am (Kd.R_lower ho0 (below_size bl)); have n3_ := kg1 BK1541 NB1541_1543 hb; have n4_ := kg1 BK1542 NB1542_1543 hb; have n5_ := am (blk_below (g := gb1543) (o := .cells #[.string a0_0, .slice Ao14 t1544.length co14, .slice Ao18 t1547.length co18, .int .i64 0, .slice none 0 0, .string (⟨#[]⟩ : ByteArray), .int .i64 0] 31 (0, 0)) (pt0 BK1543) hb); have n6_ := am (below_step bl hb); clear HO1546; clear HO1549; clear BK1541; clear BK1542; clear BK1543; clear HB; have HO1546 := n0_; have HO1549 := n1_; have HO1553 := n2_; have BK1541 := n3_; have BK1542 := n4_; have BK1543 := n5_; have HB := n6_; clear n0_ n1_ n2_ n3_ n4_ n5_ n6_; clear hb ho0; obtain ⟨z22_0, y22_0, z22_1, y22_1, z22_2, y22_2, z22_3, y22_3, z22_4, y22_4, z22_5, y22_5, z22_6, y22_6⟩ := cl7 BK1543; obtain ⟨Ao23, co23, eo23⟩ := Kd.R_slice HO1553.out; subst eo23; obtain ⟨z24_0, y24_0, z24_1, y24_1, z24_2, y24_2, z24_3, y24_3, z24_4, y24_4, z24_5, y24_5, z24_6, y24_6⟩ := cl7 BK1541; obtain ⟨z25_0, y25_0, z25_1, y25_1, z25_2, y25_2, z25_3, y25_3, z25_4, y25_4, z25_5, y25_5, z25_6, y25_6⟩ := cl7 BK1542))
 refine bodyPost_ret (results_cell_row rfl _ _ gb1542 31 #[.string a0_0, .slice Ao14 t1544.length co14, .slice Ao18 t1547.length co18, .int .i64 t1550, .slice Ao23 t1551.length co23, .string t1554, .int .i64 a0_6] (0, 0) _ rfl (pt1 BK1542 NB1542_1543) Tryz.underlying31 rfl (by kernel_rfl)) rfl ?_
 exact ⟨_, _, _, rf, rg (Kd.R_types (Kd.R_types HO1546.out BK1543.out (by decide)) BK1542.out (by decide)), rg (Kd.R_types (Kd.R_types HO1549.out BK1543.out (by decide)) BK1542.out (by decide)), rg (Kd.R_types (Kd.R_types HO1553.out BK1543.out (by decide)) BK1542.out (by decide)), bl⟩

/-! ### impl_ObjText: function 61 -/
theorem u61HB {p : Prop} (h : p := by repeat (first | (with_reducible first | exact HB.out | apply below_alloc | apply pw_below_drewN | apply below_drew1 | refine below_set ?_ GE1555.out) | exact HB.out)) : p := h
def impl_ObjText.l0 : Nat → ByteArray → List ByteArray → Int → Int → ByteArray → List ByteArray → List ByteArray → Int → List (S116) → ByteArray → Int → Option (ByteArray)
 | 0, _, _, _, _, _, _, _, _, _, _, _ => none
 | k + 1, x3, x25, x26, x27, x1556000, x1556001, x1556002, x1556003, x1556004, x1556005, x1556006 => if x27 < x26 then (if 0 ≤ x27 then (if x27 < (x25.length : Int) then (if (rdOf ByteArray.empty x25 x27).size + 1 ≤ 9223372036854775807 then (if x3.size + ((rdOf ByteArray.empty x25 x27) ++ (⟨#[10]⟩ : ByteArray)).size ≤ 9223372036854775807 then (impl_ObjText.l0 k (x3 ++ ((rdOf ByteArray.empty x25 x27) ++ (⟨#[10]⟩ : ByteArray))) x25 x26 (wrap64 (x27 + 1)) x1556000 x1556001 x1556002 x1556003 x1556004 x1556005 x1556006) else (none)) else (none)) else (none)) else (none)) else ((impl_RespText.f k x1556003 x1556004 x1556005).bind fun t1560 => (if x3.size + t1560.size ≤ 9223372036854775807 then (some (x3 ++ t1560)) else (none)))
def impl_ObjText.f (k : Nat) (a0_0 : ByteArray) (l0_1 : List ByteArray) (l0_2 : List ByteArray) (a0_3 : Int) (l0_4 : List (S116)) (a0_5 : ByteArray) (a0_6 : Int) : Option (ByteArray) := (impl_ObjOk.f k a0_0 l0_1 l0_2 a0_3 l0_4 a0_5 a0_6).bind fun t1556 => (if t1556 = true then (if 4 + a0_0.size ≤ 9223372036854775807 then (if ((⟨#[111, 98, 106, 32]⟩ : ByteArray) ++ a0_0).size + 1 ≤ 9223372036854775807 then ((impl_NumText.f a0_6).bind fun t1557 => (if (((⟨#[111, 98, 106, 32]⟩ : ByteArray) ++ a0_0) ++ (⟨#[32]⟩ : ByteArray)).size + t1557.size ≤ 9223372036854775807 then (if ((((⟨#[111, 98, 106, 32]⟩ : ByteArray) ++ a0_0) ++ (⟨#[32]⟩ : ByteArray)) ++ t1557).size + 1 ≤ 9223372036854775807 then ((strconv_Itoa.f (l0_2.length : Int)).bind fun t1558 => (if (((((⟨#[111, 98, 106, 32]⟩ : ByteArray) ++ a0_0) ++ (⟨#[32]⟩ : ByteArray)) ++ t1557) ++ (⟨#[32]⟩ : ByteArray)).size + t1558.size ≤ 9223372036854775807 then (if ((((((⟨#[111, 98, 106, 32]⟩ : ByteArray) ++ a0_0) ++ (⟨#[32]⟩ : ByteArray)) ++ t1557) ++ (⟨#[32]⟩ : ByteArray)) ++ t1558).size + 1 ≤ 9223372036854775807 then (impl_ObjText.l0 k (((((((⟨#[111, 98, 106, 32]⟩ : ByteArray) ++ a0_0) ++ (⟨#[32]⟩ : ByteArray)) ++ t1557) ++ (⟨#[32]⟩ : ByteArray)) ++ t1558) ++ (⟨#[10]⟩ : ByteArray)) l0_2 (l0_2.length : Int) 0 a0_0 l0_1 l0_2 a0_3 l0_4 a0_5 a0_6) else (none)) else (none))) else (none)) else (none))) else (none)) else (none)) else (some (⟨#[]⟩ : ByteArray)))
theorem impl_ObjText.mono_l : ∀ k, (∀ y0 y1 y2 y3 y4 y5 y6 y7 y8 y9 y10, LeO (impl_ObjText.l0 k y0 y1 y2 y3 y4 y5 y6 y7 y8 y9 y10) (impl_ObjText.l0 (k + 1) y0 y1 y2 y3 y4 y5 y6 y7 y8 y9 y10))
 | 0 => fun _ _ _ _ _ _ _ _ _ _ _ r h => by simp [impl_ObjText.l0] at h
 | k + 1 => by
  have ih0 := impl_ObjText.mono_l k
  ·intro y0 y1 y2 y3 y4 y5 y6 y7 y8 y9 y10
   unfold impl_ObjText.l0
   have m0 := @impl_ObjOk.mono
   have m1 := @impl_RespText.mono
   exact mo
theorem impl_ObjText.mono : ∀ a0 a1 a2 a3 a4 a5 a6 k, LeO (impl_ObjText.f k a0 a1 a2 a3 a4 a5 a6) (impl_ObjText.f (k + 1) a0 a1 a2 a3 a4 a5 a6) := by
 intro a0 a1 a2 a3 a4 a5 a6 k
 have ih0 := impl_ObjText.mono_l k
 unfold impl_ObjText.f
 have m0 := @impl_ObjOk.mono
 have m1 := @impl_RespText.mono
 exact mo
def impl_ObjText.T3 : Bool × List (List Nat × List Nat) := (true, [([], []), ([0], [0]), ([1], [1]), ([2], [2]), ([], []), ([4], [4]), ([5], [5]), ([3, 6], [3, 6]), ([7], [7]), ([], []), ([9], [9]), ([10], [10]), ([11, 6], [11]), ([8, 12], [8, 12]), ([13], [13]), ([14, 12, 0, 1, 2, 3, 4, 5, 6, 7, 8, 9, 10, 11, 12, 13, 14], [14])])
def impl_ObjText.B3 : List Nat := [0, 1, 3, 7, 0, 16, 48, 127, 255, 0, 512, 1536, 3696, 8191, 16383, 32767]
theorem impl_ObjText.tab3 : rtab .any (opsOf Tryz.f61 3) = impl_ObjText.T3 := by kernel_rfl
theorem impl_ObjText.bits3 : waitsOk impl_ObjText.T3.2 impl_ObjText.B3 = true := by kernel_rfl
set_option maxHeartbeats 8000000 in
set_option maxRecDepth 100000 in
theorem impl_ObjText.calls (k : Nat) (a0_0 : ByteArray) (A0_1 : Option Addr) (c0_1 : Nat) (l0_1 : List ByteArray) (A0_2 : Option Addr) (c0_2 : Nat) (l0_2 : List ByteArray) (a0_3 : Int) (A0_4 : Option Addr) (c0_4 : Nat) (l0_4 : List (S116)) (a0_5 : ByteArray) (a0_6 : Int) (r : ByteArray) (w : World) (hGM : GLOBM w) (hGT : GLOBT w) (hr0_1 : Kd.C Kd.string w A0_1 l0_1.length l0_1) (hc0_1 : l0_1.length ≤ c0_1) (hr0_2 : Kd.C Kd.string w A0_2 l0_2.length l0_2) (hc0_2 : l0_2.length ≤ c0_2) (hr0_4 : Kd.C k116 w A0_4 l0_4.length l0_4) (hc0_4 : l0_4.length ≤ c0_4) (h : impl_ObjText.f k a0_0 l0_1 l0_2 a0_3 l0_4 a0_5 a0_6 = some r) :
  Calls Tryz.prog 61 #[.agg #[.string a0_0, .slice A0_1 l0_1.length c0_1, .slice A0_2 l0_2.length c0_2, .int .i64 a0_3, .slice A0_4 l0_4.length c0_4, .string a0_5, .int .i64 a0_6]] w fun e w' => e = .returned (.string r) ∧ Below w.heap.size w w' := by
 have hu31 := Tryz.underlying31
 have hu29 := Tryz.underlying29
 have HR0_1 := am hr0_1
 have HC0_1 := am hc0_1
 clear hr0_1 hc0_1
 have HR0_2 := am hr0_2
 have HC0_2 := am hc0_2
 clear hr0_2 hc0_2
 have HR0_4 := am hr0_4
 have HC0_4 := am hc0_4
 clear hr0_4 hc0_4
 have HGM := am hGM
 clear hGM
 have HGT := am hGT
 clear hGT
 have HB := am (Below.refl w.heap.size w)
 unfold impl_ObjText.f at h
 have H := h
 clear h
 revert H
 refine ok1 fun t1556 A2 H => ?_
 by_cases c3 : t1556 = true
 rotate_left
 ·replace c3 := Bool.eq_false_iff.mpr c3
  subst c3
  rw [if_neg (show ¬ (false = true) by decide)] at H
  obtain rfl := Option.some.inj H
  go_enter Tryz.func61, Tryz.ntmps61
  go_wp2_with (first | (refine bx 1 #[.string a0_0, .slice A0_1 l0_1.length c0_1, .slice A0_2 l0_2.length c0_2, .int .i64 a0_3, .slice A0_4 l0_4.length c0_4, .string a0_5, .int .i64 a0_6] 31 ?_; intro gb1555 hg w28 hbox hb; have BK1555 := am (hbox); have GW1555 := am (sz hg : w.heap.size ≤ gb1555); have GE1555 := am (sz hg : w.heap.size ≤ gb1555); replace HB := am (below_step bl hb); clear hb hbox hg; obtain ⟨z29_0, y29_0, z29_1, y29_1, z29_2, y29_2, z29_3, y29_3, z29_4, y29_4, z29_5, y29_5, z29_6, y29_6⟩ := cl7 BK1555) | (refine gl 7 Tryz.func17 #[.agg #[.string a0_0, .slice A0_1 l0_1.length c0_1, .slice A0_2 l0_2.length c0_2, .int .i64 a0_3, .slice A0_4 l0_4.length c0_4, .string a0_5, .int .i64 a0_6]] ?_; (with_reducible refine (impl_ObjOk.calls k a0_0 _ _ l0_1 _ _ l0_2 a0_3 _ _ l0_4 a0_5 a0_6 false _ ?side1 ?side2 ?side3 ?side4 ?side5 ?side6 ?side7 A2.out).mono ?_); (case side1 => exact GLOBM.below HGM.out bl); (case side2 => exact cb HR0_1); (case side3 => exact HC0_1.out); (case side4 => exact cb HR0_2); (case side5 => exact HC0_2.out); (case side6 => exact cb HR0_4); (case side7 => exact HC0_4.out); rintro e w30 ⟨rfl, hb⟩; refine ⟨_, rfl, ?_⟩; replace BK1555 := kb BK1555 hb; replace HB := am (below_step bl hb); clear hb))
  go_ret
  exact ⟨rf, bl⟩
 subst c3
 rw [if_pos rfl] at H
 revert H
 refine ifn fun c4 H => ?_
 have c4b0 := eq_true c4
 have c4b1 := decide_eq_true c4
 try have c4b2 := eq_false (Nat.not_lt.2 c4)
 revert H
 refine ifn fun c5 H => ?_
 have c5b0 := eq_true c5
 have c5b1 := decide_eq_true c5
 try have c5b2 := eq_false (Nat.not_lt.2 c5)
 have c5b3 : (9223372036854775807 < 4 + (a0_0).size + 1) = False := b3 c5
 revert H
 refine ok1 fun t1557 A6 H => ?_
 revert H
 refine ifn fun c7 H => ?_
 have c7b0 := eq_true c7
 have c7b1 := decide_eq_true c7
 try have c7b2 := eq_false (Nat.not_lt.2 c7)
 have c7b3 : (9223372036854775807 < 4 + (a0_0).size + 1 + (t1557).size) = False := b3 c7
 revert H
 refine ifn fun c8 H => ?_
 have c8b0 := eq_true c8
 have c8b1 := decide_eq_true c8
 try have c8b2 := eq_false (Nat.not_lt.2 c8)
 have c8b3 : (9223372036854775807 < 4 + (a0_0).size + 1 + (t1557).size + 1) = False := b3 c8
 revert H
 refine ok1 fun t1558 A9 H => ?_
 revert H
 refine ifn fun c10 H => ?_
 have c10b0 := eq_true c10
 have c10b1 := decide_eq_true c10
 try have c10b2 := eq_false (Nat.not_lt.2 c10)
 have c10b3 : (9223372036854775807 < 4 + (a0_0).size + 1 + (t1557).size + 1 + (t1558).size) = False := b3 c10
 revert H
 refine ifn fun c11 H => ?_
 have c11b0 := eq_true c11
 have c11b1 := decide_eq_true c11
 try have c11b2 := eq_false (Nat.not_lt.2 c11)
 have c11b3 : (9223372036854775807 < 4 + (a0_0).size + 1 + (t1557).size + 1 + (t1558).size + 1) = False := b3 c11
 have H' := am H
 clear H
 go_enter Tryz.func61, Tryz.ntmps61
 try go_wp2_with (first | (refine bx 1 #[.string a0_0, .slice A0_1 l0_1.length c0_1, .slice A0_2 l0_2.length c0_2, .int .i64 a0_3, .slice A0_4 l0_4.length c0_4, .string a0_5, .int .i64 a0_6] 31 ?_; intro gb1555 hg w12 hbox hb; have BK1555 := am (hbox); have GW1555 := am (sz hg : w.heap.size ≤ gb1555); have GE1555 := am (sz hg : w.heap.size ≤ gb1555); replace HB := am (below_step bl hb); clear hb hbox hg; obtain ⟨z13_0, y13_0, z13_1, y13_1, z13_2, y13_2, z13_3, y13_3, z13_4, y13_4, z13_5, y13_5, z13_6, y13_6⟩ := cl7 BK1555) | (refine gl 7 Tryz.func17 #[.agg #[.string a0_0, .slice A0_1 l0_1.length c0_1, .slice A0_2 l0_2.length c0_2, .int .i64 a0_3, .slice A0_4 l0_4.length c0_4, .string a0_5, .int .i64 a0_6]] ?_; (with_reducible refine (impl_ObjOk.calls k a0_0 _ _ l0_1 _ _ l0_2 a0_3 _ _ l0_4 a0_5 a0_6 true _ ?side1 ?side2 ?side3 ?side4 ?side5 ?side6 ?side7 A2.out).mono ?_); (case side1 => exact GLOBM.below HGM.out bl); (case side2 => exact cb HR0_1); (case side3 => exact HC0_1.out); (case side4 => exact cb HR0_2); (case side5 => exact HC0_2.out); (case side6 => exact cb HR0_4); (case side7 => exact HC0_4.out); rintro e w14 ⟨rfl, hb⟩; refine ⟨_, rfl, ?_⟩; replace BK1555 := kb BK1555 hb; replace HB := am (below_step bl hb); clear hb))
 replace BK1555 := am (blk_drew BK1555.out)
 replace HB := am (below_drew1 HB.out)
 refine start_ (n := 16) (S := fun w' => w'.cell? ⟨gb1555, 0, none⟩ = some (.string a0_0) ∧ w'.cell? ⟨gb1555, 1, none⟩ = some (.slice A0_1 l0_1.length c0_1) ∧ w'.cell? ⟨gb1555, 2, none⟩ = some (.slice A0_2 l0_2.length c0_2) ∧ w'.cell? ⟨gb1555, 3, none⟩ = some (.int .i64 a0_3) ∧ w'.cell? ⟨gb1555, 4, none⟩ = some (.slice A0_4 l0_4.length c0_4) ∧ w'.cell? ⟨gb1555, 5, none⟩ = some (.string a0_5) ∧ w'.cell? ⟨gb1555, 6, none⟩ = some (.int .i64 a0_6)) (ds := []) ⟨br true [0, 16]⟩ (by kernel_rfl) rfl (by kernel_rfl) ⟨bc BK1555, bc BK1555, bc BK1555, bc BK1555, bc BK1555, bc BK1555, bc BK1555⟩ (fun hHeld => ?_); refine with_tabW impl_ObjText.tab3 impl_ObjText.bits3 (fun HT_ HW_ => ?_)
 generalize w14.drew = w15 at BK1555 HB hHeld ⊢
 refine pu 0 9 [1, 15] ?_
 refine pu 4 13 [1, 3, 1, 11] ?_
 refine pu 9 18 [1, 3, 1, 4, 1, 6] ?_
 refine tk 1 10 [2, 2, 1, 4, 1, 6] ?_
 refine pu 2 11 [3, 1, 1, 4, 1, 6] ?_
 refine pu 3 12 [5, 4, 1, 6] ?_
 refine tk 5 14 [6, 3, 1, 6] ?_
 refine tk 10 19 [6, 3, 2, 5] ?_
 refine pu 11 20 [6, 3, 3, 4] ?_
 refine og 6 15 [7, 2, 3, 4] Tryz.func101 #[.int .i64 a0_6] (fun K hK => ?_)
 with_reducible refine (impl_NumText.calls a0_6 t1557 _ ?side1 A6.out).mono ?_
 (case side1 => exact GLOBT.below HGT.out bl)
 rintro e w16 ⟨rfl, hb⟩
 refine ⟨_, rfl, ?_⟩
 replace BK1555 := kb BK1555 hb
 replace HB := am (below_step bl hb)
 clear hb
 refine hK.out _ _ ⟨bc BK1555, bc BK1555, bc BK1555, bc BK1555, bc BK1555, bc BK1555, bc BK1555⟩ (fun hHeld => ?_)
 clear hK K
 refine nm 15 ?_
 refine pu 7 16 [8, 1, 3, 4] ?_
 refine pu 8 17 [12, 4] ?_
 refine og 12 21 [13, 3] Tryz.func122 #[.int .i64 (l0_2.length : Int)] (fun K hK => ?_)
 with_reducible refine (strconv_Itoa.calls (l0_2.length : Int) t1558 _ ?side1 A9.out).mono ?_
 (case side1 => exact GLOBT.below HGT.out bl)
 rintro e w17 ⟨rfl, hb⟩
 refine ⟨_, rfl, ?_⟩
 replace BK1555 := kb BK1555 hb
 replace HB := am (below_step bl hb)
 clear hb
 refine hK.out _ _ ⟨bc BK1555, bc BK1555, bc BK1555, bc BK1555, bc BK1555, bc BK1555, bc BK1555⟩ (fun hHeld => ?_)
 clear hK K
 refine nm 21 ?_
 refine pu 13 22 [14, 2] ?_
 refine pu 14 23 [15, 1] ?_
 refine pu 15 3 [16] ?_
 refine done_ (done_of HT_.out (by kernel_rfl)) ?_
 obtain ⟨z18_0, y18_0, z18_1, y18_1, z18_2, y18_2, z18_3, y18_3, z18_4, y18_4, z18_5, y18_5, z18_6, y18_6⟩ := cl7 BK1555
 try go_wp2
 (try simp only [Act.put, List.setIfInBounds_toArray, List.set_cons_zero, List.set_cons_succ])
 go_loopg [3, 27] k (fun kq v3 v27 w' => ∃ (x3_1 : ByteArray) (x27_1 : Int), v3 = .string x3_1 ∧ v27 = .int .i64 x27_1 ∧ Aside0 (impl_ObjText.l0 kq x3_1 l0_2 (l0_2.length : Int) x27_1 a0_0 l0_1 l0_2 a0_3 l0_4 a0_5 a0_6 = some r) ∧ Aside0 (kq ≤ k) ∧ Aside0 (w'.heap[gb1555]? = some (.cells #[.string a0_0, (.slice A0_1 l0_1.length c0_1), (.slice A0_2 l0_2.length c0_2), .int .i64 a0_3, (.slice A0_4 l0_4.length c0_4), .string a0_5, .int .i64 a0_6] 31 (0, 0))) ∧ Aside0 (Below w.heap.size w w'))
 case atStart => exact ⟨(((((((⟨#[111, 98, 106, 32]⟩ : ByteArray) ++ a0_0) ++ (⟨#[32]⟩ : ByteArray)) ++ t1557) ++ (⟨#[32]⟩ : ByteArray)) ++ t1558) ++ (⟨#[10]⟩ : ByteArray)), (0), rs, rs, H', ⟨Nat.le_refl _⟩, ⟨by (with_reducible repeat (first | refine blk_drewN ?_ _ | refine blk_drew ?_ | refine blk_alloc ?_ _)); exact BK1555.out⟩, ⟨u61HB⟩⟩
 case round =>
  clear H'
  try clear c1
  try clear p2
  try clear c3
  try clear c4
  try clear c4b0
  try clear c4b1
  try clear c4b2
  try clear c5
  try clear c5b0
  try clear c5b1
  try clear c5b2
  try clear c6
  try clear c7
  try clear c7b0
  try clear c7b1
  try clear c7b2
  try clear c8
  try clear c8b0
  try clear c8b1
  try clear c8b2
  try clear c10
  try clear c10b0
  try clear c10b1
  try clear c10b2
  try clear c11
  try clear c11b0
  try clear c11b1
  try clear c11b2
  try clear c12
  try clear c17
  try clear z13_0
  try clear z13_1
  try clear z13_2
  try clear z13_3
  try clear z13_4
  try clear z13_5
  try clear z13_6
  try clear z18_0
  try clear z18_1
  try clear z18_2
  try clear z18_3
  try clear z18_4
  try clear z18_5
  try clear z18_6
  try clear y13_0
  try clear y13_1
  try clear y13_2
  try clear y13_3
  try clear y13_4
  try clear y13_5
  try clear y13_6
  try clear y18_0
  try clear y18_1
  try clear y18_2
  try clear y18_3
  try clear y18_4
  try clear y18_5
  try clear y18_6
  obtain ⟨x3_1, x27_1, rfl, rfl, HA, HK1, BK1555, HB⟩ := hrel
  cases gk with
  | zero => exact absurd HA.out (by simp [impl_ObjText.l0])
  | succ k1 =>
   have H := HA.out
   clear HA
   simp only [impl_ObjText.l0] at H
   by_cases c19 : x27_1 < (l0_2.length : Int)
   rotate_left
   ·rw [if_neg c19] at H
    have c19b0 := decide_eq_false c19
    clear c19
    revert H
    refine ok1 fun t1560 A24 H => ?_
    revert H
    refine ifn fun c25 H => ?_
    have c25b0 := eq_true c25
    have c25b1 := decide_eq_true c25
    try have c25b2 := eq_false (Nat.not_lt.2 c25)
    obtain rfl := Option.some.inj H
    obtain ⟨z26_0, y26_0, z26_1, y26_1, z26_2, y26_2, z26_3, y26_3, z26_4, y26_4, z26_5, y26_5, z26_6, y26_6⟩ := cl7 BK1555
    go_wp2_with (first | (refine gl 39 Tryz.func56 #[.agg #[.int .i64 a0_3, .slice A0_4 l0_4.length c0_4, .string a0_5]] ?_; (with_reducible refine (impl_RespText.calls k1 a0_3 _ _ l0_4 a0_5 t1560 _ ?side1 ?side2 ?side3 A24.out).mono ?_); (case side1 => exact GLOBT.below HGT.out bl); (case side2 => exact cb HR0_4); (case side3 => exact HC0_4.out); rintro e w27 ⟨rfl, hb⟩; refine ⟨_, rfl, ?_⟩; replace BK1555 := kb BK1555 hb; replace HB := am (below_step bl hb); clear hb))
    go_ret
    exact ⟨rf, bl⟩
   rw [if_pos c19] at H
   have c19b0 := decide_eq_true c19
   clear c19
   revert H
   refine ifn fun c20 H => ?_
   have c20b0 := decide_eq_true c20
   clear c20
   revert H
   refine ifn fun c21 H => ?_
   have c21b0 := decide_eq_true c21
   clear c21
   revert H
   refine ifn fun c22 H => ?_
   have c22b0 := eq_true c22
   have c22b1 := decide_eq_true c22
   try have c22b2 := eq_false (Nat.not_lt.2 c22)
   revert H
   refine ifn fun c23 H => ?_
   have c23b0 := eq_true c23
   have c23b1 := decide_eq_true c23
   try have c23b2 := eq_false (Nat.not_lt.2 c23)
   have c23b3 : (9223372036854775807 < (x3_1).size + ((rdOf ByteArray.empty l0_2 x27_1).size + 1)) = False := b3 c23
   have H' := am H
   clear H
   have p1559 : 0 ≤ (x27_1 : Int) := od
   have q1559 : x27_1 < (l0_2.length : Int) := od
   obtain ⟨ad1559, e1559, hx1559_0⟩ := Kd.at_string HR0_2.out x27_1 p1559 q1559
   cases e1559
   replace hx1559_0 := hcw hx1559_0
   replace p1559 := eq_true p1559
   replace q1559 := eq_true q1559
   go_wp2
   go_roundg k1
   case measure => have := HK1.out; omega
   case rel => exact ⟨(x3_1 ++ ((rdOf ByteArray.empty l0_2 x27_1) ++ (⟨#[10]⟩ : ByteArray))), (wrap64 (x27_1 + 1)), rs, rs, H', ⟨by have := HK1.out; omega⟩, ⟨by (with_reducible repeat (first | refine blk_drewN ?_ _ | refine blk_drew ?_ | refine blk_alloc ?_ _)); exact BK1555.out⟩, ⟨u61HB⟩⟩

end Go.Proofs.YtdbgkookjpgnnaaGreatDoor.All
