-- Written by a program of this session (wip/tools/hprint.py) out of the translation. Lean checks it.
import Derived.Test.YtdbgkookjpgnnaaGreatDoorAllx0
import Derived.Test.YtdbgkookjpgnnaaGreatDoorAllx32
namespace Go.Proofs.YtdbgkookjpgnnaaGreatDoor.All
open Go.RowKit Go.Proofs.YtdbgkookjpgnnaaGreatDoorW.PrintWords Go.Proofs.YtdbgkookjpgnnaaGreatDoorW.PrintLast Go.Proofs.YtdbgkookjpgnnaaGreatDoorW.PrintMore
attribute [local go_sem] max2_int min2_int max_two min_two max_three min_three max_four min_four   -- for this text's walks alone
set_option linter.unusedVariables false
set_option linter.unusedSimpArgs false

/-! ### laws_eqStringS: function 130 -/
def laws_eqStringS.l0 : Nat → List ByteArray → List ByteArray → Int → Option (Bool)
 | 0, _, _, _ => none
 | k + 1, x0, x1, x5 => if x5 < (x0.length : Int) then (if 0 ≤ x5 then (if x5 < (x1.length : Int) then (if (rdOf ByteArray.empty x0 x5).toList = (rdOf ByteArray.empty x1 x5).toList then (laws_eqStringS.l0 k x0 x1 (wrap64 (x5 + 1))) else (some false)) else (none)) else (none)) else (some true)
def laws_eqStringS.f (k : Nat) (l0 : List ByteArray) (l1 : List ByteArray) : Option (Bool) := if (l0.length : Int) = (l1.length : Int) then (laws_eqStringS.l0 k l0 l1 0) else (some false)
theorem laws_eqStringS.mono_l : ∀ k, (∀ y0 y1 y2, LeO (laws_eqStringS.l0 k y0 y1 y2) (laws_eqStringS.l0 (k + 1) y0 y1 y2))
 | 0 => fun _ _ _ r h => by simp [laws_eqStringS.l0] at h
 | k + 1 => by
  have ih0 := laws_eqStringS.mono_l k
  ·intro y0 y1 y2
   unfold laws_eqStringS.l0
   exact mo
theorem laws_eqStringS.mono : ∀ a0 a1 k, LeO (laws_eqStringS.f k a0 a1) (laws_eqStringS.f (k + 1) a0 a1) := by
 intro a0 a1 k
 have ih0 := laws_eqStringS.mono_l k
 unfold laws_eqStringS.f
 exact mo
set_option maxHeartbeats 8000000 in
set_option maxRecDepth 100000 in
theorem laws_eqStringS.calls (k : Nat) (A0 : Option Addr) (c0 : Nat) (l0 : List ByteArray) (A1 : Option Addr) (c1 : Nat) (l1 : List ByteArray) (r : Bool) (w : World) (hr0 : Kd.C Kd.string w A0 l0.length l0) (hc0 : l0.length ≤ c0) (hr1 : Kd.C Kd.string w A1 l1.length l1) (hc1 : l1.length ≤ c1) (h : laws_eqStringS.f k l0 l1 = some r) :
  Calls Tryz.prog 130 #[.slice A0 l0.length c0, .slice A1 l1.length c1] w fun e w' => e = .returned (.bool r) ∧ Drawn0 w w' := by
 have HR0 := am hr0
 have HC0 := am hc0
 clear hr0 hc0
 have HR1 := am hr1
 have HC1 := am hc1
 clear hr1 hc1
 unfold laws_eqStringS.f at h
 have H := h
 clear h
 by_cases c3 : (l0.length : Int) = (l1.length : Int)
 rotate_left
 ·rw [if_neg c3] at H
  have c3b0 : ((l0.length : Int) == (l1.length : Int)) = false := beq_eq_false_iff_ne.mpr c3
  have c3b1 : ((l0.length : Int) != (l1.length : Int)) = true := bne_iff_ne.mpr c3
  have c3b2 : (l0.length == l1.length) = false := by first | simpa using c3 | (simp at c3 ⊢; omega)
  obtain rfl := Option.some.inj H
  go_enter Tryz.func130, Tryz.ntmps130
  go_wp2
  repeat (go_quiet (fail); try go_wp2)
  go_ret
  exact ⟨rs, dr⟩
 rw [if_pos c3] at H
 have c3b0 : ((l0.length : Int) == (l1.length : Int)) = true := beq_iff_eq.mpr c3
 have c3b1 : ((l0.length : Int) != (l1.length : Int)) = false := bne_eq_false_iff_eq.mpr c3
 have c3b2 : (l0.length == l1.length) = true := by first | simpa using c3 | (simp at c3 ⊢; omega)
 clear c3
 have H' := am H
 clear H
 go_enter Tryz.func130, Tryz.ntmps130
 go_wp2
 repeat (go_quiet (fail); try go_wp2)
 (try simp only [Act.put, List.setIfInBounds_toArray, List.set_cons_zero, List.set_cons_succ])
 go_loopg [5] k (fun kq v5 w' => ∃ (x5_1 : Int), v5 = .int .i64 x5_1 ∧ Aside0 (laws_eqStringS.l0 kq l0 l1 x5_1 = some r) ∧ Aside0 (kq ≤ k) ∧ Drawn0 w w')
 case atStart => exact ⟨(0), rs, H', ⟨Nat.le_refl _⟩, dr⟩
 case round =>
  clear H'
  try clear c1
  try clear p2
  try clear c3
  try clear c3b0
  try clear c3b1
  try clear c3b2
  obtain ⟨x5_1, rfl, HA, HK1, ⟨m1, rfl⟩⟩ := hrel
  cases gk with
  | zero => exact absurd HA.out (by simp [laws_eqStringS.l0])
  | succ k1 =>
   have H := HA.out
   clear HA
   simp only [laws_eqStringS.l0] at H
   by_cases c4 : x5_1 < (l0.length : Int)
   rotate_left
   ·rw [if_neg c4] at H
    have c4b0 := decide_eq_false c4
    clear c4
    obtain rfl := Option.some.inj H
    go_wp2
    repeat (go_quiet (fail); try go_wp2)
    go_ret
    exact ⟨rs, dr⟩
   rw [if_pos c4] at H
   have c4b0 := decide_eq_true c4
   clear c4
   revert H
   refine ifn fun c5 H => ?_
   have c5b0 := decide_eq_true c5
   clear c5
   revert H
   refine ifn fun c6 H => ?_
   have c6b0 := decide_eq_true c6
   clear c6
   by_cases c7 : (rdOf ByteArray.empty l0 x5_1).toList = (rdOf ByteArray.empty l1 x5_1).toList
   rotate_left
   ·rw [if_neg c7] at H
    have c7b0 : ((rdOf ByteArray.empty l0 x5_1).toList == (rdOf ByteArray.empty l1 x5_1).toList) = false := beq_eq_false_iff_ne.mpr c7
    have c7b1 : ((rdOf ByteArray.empty l0 x5_1).toList != (rdOf ByteArray.empty l1 x5_1).toList) = true := bne_iff_ne.mpr c7
    obtain rfl := Option.some.inj H
    have p1561 : 0 ≤ (x5_1 : Int) := od
    have q1561 : x5_1 < (l0.length : Int) := od
    obtain ⟨ad1561, e1561, hx1561_0⟩ := Kd.at_string HR0.out x5_1 p1561 q1561
    cases e1561
    replace p1561 := eq_true p1561
    replace q1561 := eq_true q1561
    have p1562 : 0 ≤ (x5_1 : Int) := od
    have q1562 : x5_1 < (l1.length : Int) := od
    obtain ⟨ad1562, e1562, hx1562_0⟩ := Kd.at_string HR1.out x5_1 p1562 q1562
    cases e1562
    replace p1562 := eq_true p1562
    replace q1562 := eq_true q1562
    go_wp2
    repeat (go_quiet (fail); try go_wp2)
    go_ret
    exact ⟨rs, dr⟩
   rw [if_pos c7] at H
   have c7b0 : ((rdOf ByteArray.empty l0 x5_1).toList == (rdOf ByteArray.empty l1 x5_1).toList) = true := beq_iff_eq.mpr c7
   have c7b1 : ((rdOf ByteArray.empty l0 x5_1).toList != (rdOf ByteArray.empty l1 x5_1).toList) = false := bne_eq_false_iff_eq.mpr c7
   clear c7
   have H' := am H
   clear H
   have p1561 : 0 ≤ (x5_1 : Int) := od
   have q1561 : x5_1 < (l0.length : Int) := od
   obtain ⟨ad1561, e1561, hx1561_0⟩ := Kd.at_string HR0.out x5_1 p1561 q1561
   cases e1561
   replace p1561 := eq_true p1561
   replace q1561 := eq_true q1561
   have p1562 : 0 ≤ (x5_1 : Int) := od
   have q1562 : x5_1 < (l1.length : Int) := od
   obtain ⟨ad1562, e1562, hx1562_0⟩ := Kd.at_string HR1.out x5_1 p1562 q1562
   cases e1562
   replace p1562 := eq_true p1562
   replace q1562 := eq_true q1562
   go_wp2
   repeat (go_quiet (fail); try go_wp2)
   go_roundg k1
   case measure => have := HK1.out; omega
   case rel => exact ⟨(wrap64 (x5_1 + 1)), rs, H', ⟨by have := HK1.out; omega⟩, dr⟩

/-! ### laws_eqObj: function 62 -/
def laws_eqObj.f (k : Nat) (a0_0 : ByteArray) (l0_1 : List ByteArray) (l0_2 : List ByteArray) (a0_3 : Int) (l0_4 : List (S116)) (a0_5 : ByteArray) (a0_6 : Int) (a1_0 : ByteArray) (l1_1 : List ByteArray) (l1_2 : List ByteArray) (a1_3 : Int) (l1_4 : List (S116)) (a1_5 : ByteArray) (a1_6 : Int) : Option (Bool) := if a0_0.toList = a1_0.toList then ((laws_eqStringS.f k l0_1 l1_1).bind fun t1565 => (if t1565 = true then ((laws_eqStringS.f k l0_2 l1_2).bind fun t1566 => (if t1566 = true then ((laws_eqResp.f k a0_3 l0_4 a0_5 a1_3 l1_4 a1_5).bind fun t1567 => (if t1567 = true then (if a0_6 = a1_6 then (some true) else (some false)) else (some false))) else (some false))) else (some false))) else (some false)
theorem laws_eqObj.mono : ∀ a0 a1 a2 a3 a4 a5 a6 a7 a8 a9 a10 a11 a12 a13 k, LeO (laws_eqObj.f k a0 a1 a2 a3 a4 a5 a6 a7 a8 a9 a10 a11 a12 a13) (laws_eqObj.f (k + 1) a0 a1 a2 a3 a4 a5 a6 a7 a8 a9 a10 a11 a12 a13) := by
 intro a0 a1 a2 a3 a4 a5 a6 a7 a8 a9 a10 a11 a12 a13 k
 unfold laws_eqObj.f
 have m0 := @laws_eqResp.mono
 have m1 := @laws_eqStringS.mono
 exact mo
set_option maxHeartbeats 8000000 in
set_option maxRecDepth 100000 in
theorem laws_eqObj.calls (k : Nat) (a0_0 : ByteArray) (A0_1 : Option Addr) (c0_1 : Nat) (l0_1 : List ByteArray) (A0_2 : Option Addr) (c0_2 : Nat) (l0_2 : List ByteArray) (a0_3 : Int) (A0_4 : Option Addr) (c0_4 : Nat) (l0_4 : List (S116)) (a0_5 : ByteArray) (a0_6 : Int) (a1_0 : ByteArray) (A1_1 : Option Addr) (c1_1 : Nat) (l1_1 : List ByteArray) (A1_2 : Option Addr) (c1_2 : Nat) (l1_2 : List ByteArray) (a1_3 : Int) (A1_4 : Option Addr) (c1_4 : Nat) (l1_4 : List (S116)) (a1_5 : ByteArray) (a1_6 : Int) (r : Bool) (w : World) (hr0_1 : Kd.C Kd.string w A0_1 l0_1.length l0_1) (hc0_1 : l0_1.length ≤ c0_1) (hr0_2 : Kd.C Kd.string w A0_2 l0_2.length l0_2) (hc0_2 : l0_2.length ≤ c0_2) (hr0_4 : Kd.C k116 w A0_4 l0_4.length l0_4) (hc0_4 : l0_4.length ≤ c0_4) (hr1_1 : Kd.C Kd.string w A1_1 l1_1.length l1_1) (hc1_1 : l1_1.length ≤ c1_1) (hr1_2 : Kd.C Kd.string w A1_2 l1_2.length l1_2) (hc1_2 : l1_2.length ≤ c1_2) (hr1_4 : Kd.C k116 w A1_4 l1_4.length l1_4) (hc1_4 : l1_4.length ≤ c1_4) (h : laws_eqObj.f k a0_0 l0_1 l0_2 a0_3 l0_4 a0_5 a0_6 a1_0 l1_1 l1_2 a1_3 l1_4 a1_5 a1_6 = some r) :
  Calls Tryz.prog 62 #[.agg #[.string a0_0, .slice A0_1 l0_1.length c0_1, .slice A0_2 l0_2.length c0_2, .int .i64 a0_3, .slice A0_4 l0_4.length c0_4, .string a0_5, .int .i64 a0_6], .agg #[.string a1_0, .slice A1_1 l1_1.length c1_1, .slice A1_2 l1_2.length c1_2, .int .i64 a1_3, .slice A1_4 l1_4.length c1_4, .string a1_5, .int .i64 a1_6]] w fun e w' => e = .returned (.bool r) ∧ Below w.heap.size w w' := by
 have hu31 := Tryz.underlying31
 have hu29 := Tryz.underlying29
 have HR0_1 := am hr0_1
 have HC0_1 := am hc0_1
 clear hr0_1 hc0_1
 have HR0_2 := am hr0_2
 have HC0_2 := am hc0_2
 clear hr0_2 hc0_2
 have HR0_4 := am hr0_4
 have HC0_4 := am hc0_4
 clear hr0_4 hc0_4
 have HR1_1 := am hr1_1
 have HC1_1 := am hc1_1
 clear hr1_1 hc1_1
 have HR1_2 := am hr1_2
 have HC1_2 := am hc1_2
 clear hr1_2 hc1_2
 have HR1_4 := am hr1_4
 have HC1_4 := am hc1_4
 clear hr1_4 hc1_4
 have HB := am (Below.refl w.heap.size w)
 unfold laws_eqObj.f at h
 have H := h
 clear h
 by_cases c3 : a0_0.toList = a1_0.toList
 rotate_left
 ·rw [if_neg c3] at H
  have c3b0 : (a0_0.toList == a1_0.toList) = false := beq_eq_false_iff_ne.mpr c3
  have c3b1 : (a0_0.toList != a1_0.toList) = true := bne_iff_ne.mpr c3
  obtain rfl := Option.some.inj H
  go_enter Tryz.func62, Tryz.ntmps62
  go_wp2_with (first | (refine bx 2 #[.string a0_0, .slice A0_1 l0_1.length c0_1, .slice A0_2 l0_2.length c0_2, .int .i64 a0_3, .slice A0_4 l0_4.length c0_4, .string a0_5, .int .i64 a0_6] 31 ?_; intro gb1563 hg w43 hbox hb; have BK1563 := am (hbox); have GW1563 := am (sz hg : w.heap.size ≤ gb1563); have GE1563 := am (sz hg : w.heap.size ≤ gb1563); replace HB := am (below_step bl hb); clear hb hbox hg) | (refine bx 3 #[.string a1_0, .slice A1_1 l1_1.length c1_1, .slice A1_2 l1_2.length c1_2, .int .i64 a1_3, .slice A1_4 l1_4.length c1_4, .string a1_5, .int .i64 a1_6] 31 ?_; intro gb1564 hg w44 hbox hb; have BK1564 := am (hbox); have GW1564 := am (sz hg : w.heap.size ≤ gb1564); have GE1564 := am (sz hg : w.heap.size ≤ gb1564); replace HB := am (below_step bl hb); have NB1563_1564 := am (nl hg BK1563 : gb1563 ≠ gb1564); have NB1564_1563 := am (ng hg BK1563 : gb1564 ≠ gb1563); replace BK1563 := kb BK1563 hb; clear hb hbox hg; have hnb45 := NB1563_1564.out; have hnc45 := NB1564_1563.out; obtain ⟨z46_0, y46_0, z46_1, y46_1, z46_2, y46_2, z46_3, y46_3, z46_4, y46_4, z46_5, y46_5, z46_6, y46_6⟩ := cl7 BK1563; obtain ⟨z47_0, y47_0, z47_1, y47_1, z47_2, y47_2, z47_3, y47_3, z47_4, y47_4, z47_5, y47_5, z47_6, y47_6⟩ := cl7 BK1564))
  go_ret
  exact ⟨rf, bl⟩
 rw [if_pos c3] at H
 have c3b0 : (a0_0.toList == a1_0.toList) = true := beq_iff_eq.mpr c3
 have c3b1 : (a0_0.toList != a1_0.toList) = false := bne_eq_false_iff_eq.mpr c3
 clear c3
 revert H
 refine ok1 fun t1565 A4 H => ?_
 by_cases c5 : t1565 = true
 rotate_left
 ·replace c5 := Bool.eq_false_iff.mpr c5
  subst c5
  rw [if_neg (show ¬ (false = true) by decide)] at H
  obtain rfl := Option.some.inj H
  go_enter Tryz.func62, Tryz.ntmps62
  go_wp2_with (first | (refine bx 2 #[.string a0_0, .slice A0_1 l0_1.length c0_1, .slice A0_2 l0_2.length c0_2, .int .i64 a0_3, .slice A0_4 l0_4.length c0_4, .string a0_5, .int .i64 a0_6] 31 ?_; intro gb1563 hg w38 hbox hb; have BK1563 := am (hbox); have GW1563 := am (sz hg : w.heap.size ≤ gb1563); have GE1563 := am (sz hg : w.heap.size ≤ gb1563); replace HB := am (below_step bl hb); clear hb hbox hg) | (refine bx 3 #[.string a1_0, .slice A1_1 l1_1.length c1_1, .slice A1_2 l1_2.length c1_2, .int .i64 a1_3, .slice A1_4 l1_4.length c1_4, .string a1_5, .int .i64 a1_6] 31 ?_; intro gb1564 hg w39 hbox hb; have BK1564 := am (hbox); have GW1564 := am (sz hg : w.heap.size ≤ gb1564); have GE1564 := am (sz hg : w.heap.size ≤ gb1564); replace HB := am (below_step bl hb); have NB1563_1564 := am (nl hg BK1563 : gb1563 ≠ gb1564); have NB1564_1563 := am (ng hg BK1563 : gb1564 ≠ gb1563); replace BK1563 := kb BK1563 hb; clear hb hbox hg; have hnb40 := NB1563_1564.out; have hnc40 := NB1564_1563.out; obtain ⟨z41_0, y41_0, z41_1, y41_1, z41_2, y41_2, z41_3, y41_3, z41_4, y41_4, z41_5, y41_5, z41_6, y41_6⟩ := cl7 BK1563; obtain ⟨z42_0, y42_0, z42_1, y42_1, z42_2, y42_2, z42_3, y42_3, z42_4, y42_4, z42_5, y42_5, z42_6, y42_6⟩ := cl7 BK1564) | (refine gl 14 Tryz.func130 #[.slice A0_1 l0_1.length c0_1, .slice A1_1 l1_1.length c1_1] ?_; (with_reducible refine (laws_eqStringS.calls k _ _ l0_1 _ _ l1_1 false _ ?side1 ?side2 ?side3 ?side4 A4.out).mono ?_); (case side1 => exact cb HR0_1); (case side2 => exact HC0_1.out); (case side3 => exact cb HR1_1); (case side4 => exact HC1_1.out); rintro e w' ⟨rfl, ⟨nd, rfl⟩⟩; refine ⟨_, rfl, ?_⟩))
  go_ret
  exact ⟨rf, bl⟩
 subst c5
 rw [if_pos rfl] at H
 revert H
 refine ok1 fun t1566 A6 H => ?_
 by_cases c7 : t1566 = true
 rotate_left
 ·replace c7 := Bool.eq_false_iff.mpr c7
  subst c7
  rw [if_neg (show ¬ (false = true) by decide)] at H
  obtain rfl := Option.some.inj H
  go_enter Tryz.func62, Tryz.ntmps62
  go_wp2_with (first | (refine bx 2 #[.string a0_0, .slice A0_1 l0_1.length c0_1, .slice A0_2 l0_2.length c0_2, .int .i64 a0_3, .slice A0_4 l0_4.length c0_4, .string a0_5, .int .i64 a0_6] 31 ?_; intro gb1563 hg w33 hbox hb; have BK1563 := am (hbox); have GW1563 := am (sz hg : w.heap.size ≤ gb1563); have GE1563 := am (sz hg : w.heap.size ≤ gb1563); replace HB := am (below_step bl hb); clear hb hbox hg) | (refine bx 3 #[.string a1_0, .slice A1_1 l1_1.length c1_1, .slice A1_2 l1_2.length c1_2, .int .i64 a1_3, .slice A1_4 l1_4.length c1_4, .string a1_5, .int .i64 a1_6] 31 ?_; intro gb1564 hg w34 hbox hb; have BK1564 := am (hbox); have GW1564 := am (sz hg : w.heap.size ≤ gb1564); have GE1564 := am (sz hg : w.heap.size ≤ gb1564); replace HB := am (below_step bl hb); have NB1563_1564 := am (nl hg BK1563 : gb1563 ≠ gb1564); have NB1564_1563 := am (ng hg BK1563 : gb1564 ≠ gb1563); replace BK1563 := kb BK1563 hb; clear hb hbox hg; have hnb35 := NB1563_1564.out; have hnc35 := NB1564_1563.out; obtain ⟨z36_0, y36_0, z36_1, y36_1, z36_2, y36_2, z36_3, y36_3, z36_4, y36_4, z36_5, y36_5, z36_6, y36_6⟩ := cl7 BK1563; obtain ⟨z37_0, y37_0, z37_1, y37_1, z37_2, y37_2, z37_3, y37_3, z37_4, y37_4, z37_5, y37_5, z37_6, y37_6⟩ := cl7 BK1564) | (refine gl 14 Tryz.func130 #[.slice A0_1 l0_1.length c0_1, .slice A1_1 l1_1.length c1_1] ?_; (with_reducible refine (laws_eqStringS.calls k _ _ l0_1 _ _ l1_1 true _ ?side1 ?side2 ?side3 ?side4 A4.out).mono ?_); (case side1 => exact cb HR0_1); (case side2 => exact HC0_1.out); (case side3 => exact cb HR1_1); (case side4 => exact HC1_1.out); rintro e w' ⟨rfl, ⟨nd, rfl⟩⟩; refine ⟨_, rfl, ?_⟩) | (refine gl 20 Tryz.func130 #[.slice A0_2 l0_2.length c0_2, .slice A1_2 l1_2.length c1_2] ?_; (with_reducible refine (laws_eqStringS.calls k _ _ l0_2 _ _ l1_2 false _ ?side1 ?side2 ?side3 ?side4 A6.out).mono ?_); (case side1 => repeat (first | exact (Kd.C_below HR0_2.out bl) | (with_reducible refine Kd.C_alloc ?_ _) | (with_reducible refine Kd.C_drewN ?_ _) | (with_reducible refine Kd.C_drew ?_))); (case side2 => exact HC0_2.out); (case side3 => repeat (first | exact (Kd.C_below HR1_2.out bl) | (with_reducible refine Kd.C_alloc ?_ _) | (with_reducible refine Kd.C_drewN ?_ _) | (with_reducible refine Kd.C_drew ?_))); (case side4 => exact HC1_2.out); rintro e w' ⟨rfl, ⟨nd, rfl⟩⟩; refine ⟨_, rfl, ?_⟩))
  go_ret
  exact ⟨rf, bl⟩
 subst c7
 rw [if_pos rfl] at H
 revert H
 refine ok1 fun t1567 A8 H => ?_
 by_cases c9 : t1567 = true
 rotate_left
 ·replace c9 := Bool.eq_false_iff.mpr c9
  subst c9
  rw [if_neg (show ¬ (false = true) by decide)] at H
  obtain rfl := Option.some.inj H
  go_enter Tryz.func62, Tryz.ntmps62
  go_wp2_with (first | (refine bx 2 #[.string a0_0, .slice A0_1 l0_1.length c0_1, .slice A0_2 l0_2.length c0_2, .int .i64 a0_3, .slice A0_4 l0_4.length c0_4, .string a0_5, .int .i64 a0_6] 31 ?_; intro gb1563 hg w27 hbox hb; have BK1563 := am (hbox); have GW1563 := am (sz hg : w.heap.size ≤ gb1563); have GE1563 := am (sz hg : w.heap.size ≤ gb1563); replace HB := am (below_step bl hb); clear hb hbox hg) | (refine bx 3 #[.string a1_0, .slice A1_1 l1_1.length c1_1, .slice A1_2 l1_2.length c1_2, .int .i64 a1_3, .slice A1_4 l1_4.length c1_4, .string a1_5, .int .i64 a1_6] 31 ?_; intro gb1564 hg w28 hbox hb; have BK1564 := am (hbox); have GW1564 := am (sz hg : w.heap.size ≤ gb1564); have GE1564 := am (sz hg : w.heap.size ≤ gb1564); replace HB := am (below_step bl hb); have NB1563_1564 := am (nl hg BK1563 : gb1563 ≠ gb1564); have NB1564_1563 := am (ng hg BK1563 : gb1564 ≠ gb1563); replace BK1563 := kb BK1563 hb; clear hb hbox hg; have hnb29 := NB1563_1564.out; have hnc29 := NB1564_1563.out; obtain ⟨z30_0, y30_0, z30_1, y30_1, z30_2, y30_2, z30_3, y30_3, z30_4, y30_4, z30_5, y30_5, z30_6, y30_6⟩ := cl7 BK1563; obtain ⟨z31_0, y31_0, z31_1, y31_1, z31_2, y31_2, z31_3, y31_3, z31_4, y31_4, z31_5, y31_5, z31_6, y31_6⟩ := cl7 BK1564) | (refine gl 14 Tryz.func130 #[.slice A0_1 l0_1.length c0_1, .slice A1_1 l1_1.length c1_1] ?_; (with_reducible refine (laws_eqStringS.calls k _ _ l0_1 _ _ l1_1 true _ ?side1 ?side2 ?side3 ?side4 A4.out).mono ?_); (case side1 => exact cb HR0_1); (case side2 => exact HC0_1.out); (case side3 => exact cb HR1_1); (case side4 => exact HC1_1.out); rintro e w' ⟨rfl, ⟨nd, rfl⟩⟩; refine ⟨_, rfl, ?_⟩) | (refine gl 20 Tryz.func130 #[.slice A0_2 l0_2.length c0_2, .slice A1_2 l1_2.length c1_2] ?_; (with_reducible refine (laws_eqStringS.calls k _ _ l0_2 _ _ l1_2 true _ ?side1 ?side2 ?side3 ?side4 A6.out).mono ?_); (case side1 => repeat (first | exact (Kd.C_below HR0_2.out bl) | (with_reducible refine Kd.C_alloc ?_ _) | (with_reducible refine Kd.C_drewN ?_ _) | (with_reducible refine Kd.C_drew ?_))); (case side2 => exact HC0_2.out); (case side3 => repeat (first | exact (Kd.C_below HR1_2.out bl) | (with_reducible refine Kd.C_alloc ?_ _) | (with_reducible refine Kd.C_drewN ?_ _) | (with_reducible refine Kd.C_drew ?_))); (case side4 => exact HC1_2.out); rintro e w' ⟨rfl, ⟨nd, rfl⟩⟩; refine ⟨_, rfl, ?_⟩) | (refine gl 26 Tryz.func50 #[.agg #[.int .i64 a0_3, .slice A0_4 l0_4.length c0_4, .string a0_5], .agg #[.int .i64 a1_3, .slice A1_4 l1_4.length c1_4, .string a1_5]] ?_; (with_reducible refine (laws_eqResp.calls k a0_3 _ _ l0_4 a0_5 a1_3 _ _ l1_4 a1_5 false _ ?side1 ?side2 ?side3 ?side4 A8.out).mono ?_); (case side1 => repeat (first | exact (Kd.C_below HR0_4.out bl) | (with_reducible refine Kd.C_alloc ?_ _) | (with_reducible refine Kd.C_drewN ?_ _) | (with_reducible refine Kd.C_drew ?_))); (case side2 => exact HC0_4.out); (case side3 => repeat (first | exact (Kd.C_below HR1_4.out bl) | (with_reducible refine Kd.C_alloc ?_ _) | (with_reducible refine Kd.C_drewN ?_ _) | (with_reducible refine Kd.C_drew ?_))); (case side4 => exact HC1_4.out); rintro e w32 ⟨rfl, hb⟩; refine ⟨_, rfl, ?_⟩; replace BK1563 := kb BK1563 hb; replace BK1564 := kb BK1564 hb; replace HB := am (below_step bl hb); clear hb))
  go_ret
  exact ⟨rf, bl⟩
 subst c9
 rw [if_pos rfl] at H
 by_cases c10 : a0_6 = a1_6
 rotate_left
 ·rw [if_neg c10] at H
  have c10b0 : (a0_6 == a1_6) = false := beq_eq_false_iff_ne.mpr c10
  have c10b1 : (a0_6 != a1_6) = true := bne_iff_ne.mpr c10
  obtain rfl := Option.some.inj H
  go_enter Tryz.func62, Tryz.ntmps62
  go_wp2_with (first | (refine bx 2 #[.string a0_0, .slice A0_1 l0_1.length c0_1, .slice A0_2 l0_2.length c0_2, .int .i64 a0_3, .slice A0_4 l0_4.length c0_4, .string a0_5, .int .i64 a0_6] 31 ?_; intro gb1563 hg w19 hbox hb; have BK1563 := am (hbox); have GW1563 := am (sz hg : w.heap.size ≤ gb1563); have GE1563 := am (sz hg : w.heap.size ≤ gb1563); replace HB := am (below_step bl hb); clear hb hbox hg) | (refine bx 3 #[.string a1_0, .slice A1_1 l1_1.length c1_1, .slice A1_2 l1_2.length c1_2, .int .i64 a1_3, .slice A1_4 l1_4.length c1_4, .string a1_5, .int .i64 a1_6] 31 ?_; intro gb1564 hg w20 hbox hb; have BK1564 := am (hbox); have GW1564 := am (sz hg : w.heap.size ≤ gb1564); have GE1564 := am (sz hg : w.heap.size ≤ gb1564); replace HB := am (below_step bl hb); have NB1563_1564 := am (nl hg BK1563 : gb1563 ≠ gb1564); have NB1564_1563 := am (ng hg BK1563 : gb1564 ≠ gb1563); replace BK1563 := kb BK1563 hb; clear hb hbox hg; have hnb21 := NB1563_1564.out; have hnc21 := NB1564_1563.out; obtain ⟨z22_0, y22_0, z22_1, y22_1, z22_2, y22_2, z22_3, y22_3, z22_4, y22_4, z22_5, y22_5, z22_6, y22_6⟩ := cl7 BK1563; obtain ⟨z23_0, y23_0, z23_1, y23_1, z23_2, y23_2, z23_3, y23_3, z23_4, y23_4, z23_5, y23_5, z23_6, y23_6⟩ := cl7 BK1564) | (refine gl 14 Tryz.func130 #[.slice A0_1 l0_1.length c0_1, .slice A1_1 l1_1.length c1_1] ?_; (with_reducible refine (laws_eqStringS.calls k _ _ l0_1 _ _ l1_1 true _ ?side1 ?side2 ?side3 ?side4 A4.out).mono ?_); (case side1 => exact cb HR0_1); (case side2 => exact HC0_1.out); (case side3 => exact cb HR1_1); (case side4 => exact HC1_1.out); rintro e w' ⟨rfl, ⟨nd, rfl⟩⟩; refine ⟨_, rfl, ?_⟩) | (refine gl 20 Tryz.func130 #[.slice A0_2 l0_2.length c0_2, .slice A1_2 l1_2.length c1_2] ?_; (with_reducible refine (laws_eqStringS.calls k _ _ l0_2 _ _ l1_2 true _ ?side1 ?side2 ?side3 ?side4 A6.out).mono ?_); (case side1 => repeat (first | exact (Kd.C_below HR0_2.out bl) | (with_reducible refine Kd.C_alloc ?_ _) | (with_reducible refine Kd.C_drewN ?_ _) | (with_reducible refine Kd.C_drew ?_))); (case side2 => exact HC0_2.out); (case side3 => repeat (first | exact (Kd.C_below HR1_2.out bl) | (with_reducible refine Kd.C_alloc ?_ _) | (with_reducible refine Kd.C_drewN ?_ _) | (with_reducible refine Kd.C_drew ?_))); (case side4 => exact HC1_2.out); rintro e w' ⟨rfl, ⟨nd, rfl⟩⟩; refine ⟨_, rfl, ?_⟩) | (refine gl 26 Tryz.func50 #[.agg #[.int .i64 a0_3, .slice A0_4 l0_4.length c0_4, .string a0_5], .agg #[.int .i64 a1_3, .slice A1_4 l1_4.length c1_4, .string a1_5]] ?_; (with_reducible refine (laws_eqResp.calls k a0_3 _ _ l0_4 a0_5 a1_3 _ _ l1_4 a1_5 true _ ?side1 ?side2 ?side3 ?side4 A8.out).mono ?_); (case side1 => repeat (first | exact (Kd.C_below HR0_4.out bl) | (with_reducible refine Kd.C_alloc ?_ _) | (with_reducible refine Kd.C_drewN ?_ _) | (with_reducible refine Kd.C_drew ?_))); (case side2 => exact HC0_4.out); (case side3 => repeat (first | exact (Kd.C_below HR1_4.out bl) | (with_reducible refine Kd.C_alloc ?_ _) | (with_reducible refine Kd.C_drewN ?_ _) | (with_reducible refine Kd.C_drew ?_))); (case side4 => exact HC1_4.out); rintro e w24 ⟨rfl, hb⟩; refine ⟨_, rfl, ?_⟩; replace BK1563 := kb BK1563 hb; replace BK1564 := kb BK1564 hb; replace HB := am (below_step bl hb); clear hb; obtain ⟨z25_0, y25_0, z25_1, y25_1, z25_2, y25_2, z25_3, y25_3, z25_4, y25_4, z25_5, y25_5, z25_6, y25_6⟩ := cl7 BK1563; obtain ⟨z26_0, y26_0, z26_1, y26_1, z26_2, y26_2, z26_3, y26_3, z26_4, y26_4, z26_5, y26_5, z26_6, y26_6⟩ := cl7 BK1564))
  go_ret
  exact ⟨rf, bl⟩
 rw [if_pos c10] at H
 have c10b0 : (a0_6 == a1_6) = true := beq_iff_eq.mpr c10
 have c10b1 : (a0_6 != a1_6) = false := bne_eq_false_iff_eq.mpr c10
 clear c10
 obtain rfl := Option.some.inj H
 go_enter Tryz.func62, Tryz.ntmps62
 go_wp2_with (first | (refine bx 2 #[.string a0_0, .slice A0_1 l0_1.length c0_1, .slice A0_2 l0_2.length c0_2, .int .i64 a0_3, .slice A0_4 l0_4.length c0_4, .string a0_5, .int .i64 a0_6] 31 ?_; intro gb1563 hg w11 hbox hb; have BK1563 := am (hbox); have GW1563 := am (sz hg : w.heap.size ≤ gb1563); have GE1563 := am (sz hg : w.heap.size ≤ gb1563); replace HB := am (below_step bl hb); clear hb hbox hg) | (refine bx 3 #[.string a1_0, .slice A1_1 l1_1.length c1_1, .slice A1_2 l1_2.length c1_2, .int .i64 a1_3, .slice A1_4 l1_4.length c1_4, .string a1_5, .int .i64 a1_6] 31 ?_; intro gb1564 hg w12 hbox hb; have BK1564 := am (hbox); have GW1564 := am (sz hg : w.heap.size ≤ gb1564); have GE1564 := am (sz hg : w.heap.size ≤ gb1564); replace HB := am (below_step bl hb); have NB1563_1564 := am (nl hg BK1563 : gb1563 ≠ gb1564); have NB1564_1563 := am (ng hg BK1563 : gb1564 ≠ gb1563); replace BK1563 := kb BK1563 hb; clear hb hbox hg; have hnb13 := NB1563_1564.out; have hnc13 := NB1564_1563.out; obtain ⟨z14_0, y14_0, z14_1, y14_1, z14_2, y14_2, z14_3, y14_3, z14_4, y14_4, z14_5, y14_5, z14_6, y14_6⟩ := cl7 BK1563; obtain ⟨z15_0, y15_0, z15_1, y15_1, z15_2, y15_2, z15_3, y15_3, z15_4, y15_4, z15_5, y15_5, z15_6, y15_6⟩ := cl7 BK1564) | (refine gl 14 Tryz.func130 #[.slice A0_1 l0_1.length c0_1, .slice A1_1 l1_1.length c1_1] ?_; (with_reducible refine (laws_eqStringS.calls k _ _ l0_1 _ _ l1_1 true _ ?side1 ?side2 ?side3 ?side4 A4.out).mono ?_); (case side1 => exact cb HR0_1); (case side2 => exact HC0_1.out); (case side3 => exact cb HR1_1); (case side4 => exact HC1_1.out); rintro e w' ⟨rfl, ⟨nd, rfl⟩⟩; refine ⟨_, rfl, ?_⟩) | (refine gl 20 Tryz.func130 #[.slice A0_2 l0_2.length c0_2, .slice A1_2 l1_2.length c1_2] ?_; (with_reducible refine (laws_eqStringS.calls k _ _ l0_2 _ _ l1_2 true _ ?side1 ?side2 ?side3 ?side4 A6.out).mono ?_); (case side1 => repeat (first | exact (Kd.C_below HR0_2.out bl) | (with_reducible refine Kd.C_alloc ?_ _) | (with_reducible refine Kd.C_drewN ?_ _) | (with_reducible refine Kd.C_drew ?_))); (case side2 => exact HC0_2.out); (case side3 => repeat (first | exact (Kd.C_below HR1_2.out bl) | (with_reducible refine Kd.C_alloc ?_ _) | (with_reducible refine Kd.C_drewN ?_ _) | (with_reducible refine Kd.C_drew ?_))); (case side4 => exact HC1_2.out); rintro e w' ⟨rfl, ⟨nd, rfl⟩⟩; refine ⟨_, rfl, ?_⟩) | (refine gl 26 Tryz.func50 #[.agg #[.int .i64 a0_3, .slice A0_4 l0_4.length c0_4, .string a0_5], .agg #[.int .i64 a1_3, .slice A1_4 l1_4.length c1_4, .string a1_5]] ?_; (with_reducible refine (laws_eqResp.calls k a0_3 _ _ l0_4 a0_5 a1_3 _ _ l1_4 a1_5 true _ ?side1 ?side2 ?side3 ?side4 A8.out).mono ?_); (case side1 => repeat (first | exact (Kd.C_below HR0_4.out bl) | (with_reducible refine Kd.C_alloc ?_ _) | (with_reducible refine Kd.C_drewN ?_ _) | (with_reducible refine Kd.C_drew ?_))); (case side2 => exact HC0_4.out); (case side3 => repeat (first | exact (Kd.C_below HR1_4.out bl) | (with_reducible refine Kd.C_alloc ?_ _) | (with_reducible refine Kd.C_drewN ?_ _) | (with_reducible refine Kd.C_drew ?_))); (case side4 => exact HC1_4.out); rintro e w16 ⟨rfl, hb⟩; refine ⟨_, rfl, ?_⟩; replace BK1563 := kb BK1563 hb; replace BK1564 := kb BK1564 hb; replace HB := am (below_step bl hb); clear hb; obtain ⟨z17_0, y17_0, z17_1, y17_1, z17_2, y17_2, z17_3, y17_3, z17_4, y17_4, z17_5, y17_5, z17_6, y17_6⟩ := cl7 BK1563; obtain ⟨z18_0, y18_0, z18_1, y18_1, z18_2, y18_2, z18_3, y18_3, z18_4, y18_4, z18_5, y18_5, z18_6, y18_6⟩ := cl7 BK1564))
 go_ret
 exact ⟨rf, bl⟩

end Go.Proofs.YtdbgkookjpgnnaaGreatDoor.All
