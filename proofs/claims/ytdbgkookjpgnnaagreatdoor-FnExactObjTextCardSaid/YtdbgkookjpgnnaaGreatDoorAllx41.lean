-- Written by a program of this session (wip/tools/hprint.py) out of the translation. Lean checks it.
import Derived.Test.YtdbgkookjpgnnaaGreatDoorAllx0
import Derived.Test.YtdbgkookjpgnnaaGreatDoorAllx39
import Derived.Test.YtdbgkookjpgnnaaGreatDoorAllx40
namespace Go.Proofs.YtdbgkookjpgnnaaGreatDoor.All
open Go.RowKit Go.Proofs.YtdbgkookjpgnnaaGreatDoorW.PrintWords Go.Proofs.YtdbgkookjpgnnaaGreatDoorW.PrintLast Go.Proofs.YtdbgkookjpgnnaaGreatDoorW.PrintMore
attribute [local go_sem] max2_int min2_int max_two min_two max_three min_three max_four min_four   -- for this text's walks alone
set_option linter.unusedVariables false
set_option linter.unusedSimpArgs false

/-! ### laws_FnExactObjText: function 9 -/
def laws_FnExactObjText.f (k : Nat) (a0_0 : ByteArray) (l0_1 : List ByteArray) (l0_2 : List ByteArray) (a0_3 : Int) (l0_4 : List (S115)) (a0_5 : ByteArray) (a0_6 : Int) : Option (Bool) := (laws_szObj.f k a0_0 l0_1 l0_2 a0_3 l0_4 a0_5 a0_6 1048576).bind fun t1569 => (if t1569 < 0 then (some true) else ((laws_toObj.f k a0_0 l0_1 l0_2 a0_3 l0_4 a0_5 a0_6).bind fun bt1570 => ((spec_ObjText.f k bt1570.1 bt1570.2.1 bt1570.2.2.1 bt1570.2.2.2.1 bt1570.2.2.2.2.1 bt1570.2.2.2.2.2.1 bt1570.2.2.2.2.2.2).bind fun t1583 => ((laws_toObj.f k a0_0 l0_1 l0_2 a0_3 l0_4 a0_5 a0_6).bind fun bt1584 => ((impl_ObjText.f k bt1584.1 bt1584.2.1 bt1584.2.2.1 bt1584.2.2.2.1 bt1584.2.2.2.2.1 bt1584.2.2.2.2.2.1 bt1584.2.2.2.2.2.2).bind fun t1598 => (if t1598.toList = t1583.toList then ((laws_toObj.f k a0_0 l0_1 l0_2 a0_3 l0_4 a0_5 a0_6).bind fun bt1599 => ((laws_eqObj.f k bt1584.1 bt1584.2.1 bt1584.2.2.1 bt1584.2.2.2.1 bt1584.2.2.2.2.1 bt1584.2.2.2.2.2.1 bt1584.2.2.2.2.2.2 bt1599.1 bt1599.2.1 bt1599.2.2.1 bt1599.2.2.2.1 bt1599.2.2.2.2.1 bt1599.2.2.2.2.2.1 bt1599.2.2.2.2.2.2).bind fun t1612 => (if t1612 = true then (some true) else (some false)))) else (some false)))))))
theorem laws_FnExactObjText.mono : ∀ a0 a1 a2 a3 a4 a5 a6 k, LeO (laws_FnExactObjText.f k a0 a1 a2 a3 a4 a5 a6) (laws_FnExactObjText.f (k + 1) a0 a1 a2 a3 a4 a5 a6) := by
 intro a0 a1 a2 a3 a4 a5 a6 k
 unfold laws_FnExactObjText.f
 have m0 := @impl_ObjText.mono
 have m1 := @laws_eqObj.mono
 have m2 := @laws_szObj.mono
 have m3 := @laws_toObj.mono
 have m4 := @spec_ObjText.mono
 exact mo
set_option maxHeartbeats 8000000 in
set_option maxRecDepth 100000 in
theorem laws_FnExactObjText.calls (k : Nat) (a0_0 : ByteArray) (A0_1 : Option Addr) (c0_1 : Nat) (l0_1 : List ByteArray) (A0_2 : Option Addr) (c0_2 : Nat) (l0_2 : List ByteArray) (a0_3 : Int) (A0_4 : Option Addr) (c0_4 : Nat) (l0_4 : List (S115)) (a0_5 : ByteArray) (a0_6 : Int) (r : Bool) (w : World) (hGM : GLOBM w) (hGT : GLOBT w) (hr0_1 : Kd.C Kd.string w A0_1 l0_1.length l0_1) (hc0_1 : l0_1.length ≤ c0_1) (hr0_2 : Kd.C Kd.string w A0_2 l0_2.length l0_2) (hc0_2 : l0_2.length ≤ c0_2) (hr0_4 : Kd.C k115 w A0_4 l0_4.length l0_4) (hc0_4 : l0_4.length ≤ c0_4) (ht_ : r = true) (h : laws_FnExactObjText.f k a0_0 l0_1 l0_2 a0_3 l0_4 a0_5 a0_6 = some r) :
  Calls Tryz.prog 9 #[.agg #[.string a0_0, .slice A0_1 l0_1.length c0_1, .slice A0_2 l0_2.length c0_2, .int .i64 a0_3, .slice A0_4 l0_4.length c0_4, .string a0_5, .int .i64 a0_6]] w fun e w' => e = .returned (.bool r) ∧ Below w.heap.size w w' := by
 have hu85 := Tryz.underlying85
 have hu31 := Tryz.underlying31
 have HR0_1 := am hr0_1
 have HC0_1 := am hc0_1
 clear hr0_1 hc0_1
 have HR0_2 := am hr0_2
 have HC0_2 := am hc0_2
 clear hr0_2 hc0_2
 have HR0_4 := am hr0_4
 have HC0_4 := am hc0_4
 clear hr0_4 hc0_4
 have HGM := am hGM
 clear hGM
 have HGT := am hGT
 clear hGT
 have HB := am (Below.refl w.heap.size w)
 unfold laws_FnExactObjText.f at h
 have H := h
 clear h
 revert H
 refine ok1 fun t1569 A2 H => ?_
 by_cases c3 : t1569 < 0
 ·rw [if_pos c3] at H
  have c3b0 := decide_eq_true c3
  clear c3
  obtain rfl := Option.some.inj H
  go_enter Tryz.func9, Tryz.ntmps9
  go_wp2_with (first | (refine bx 1 #[.string a0_0, .slice A0_1 l0_1.length c0_1, .slice A0_2 l0_2.length c0_2, .int .i64 a0_3, .slice A0_4 l0_4.length c0_4, .string a0_5, .int .i64 a0_6] 85 ?_; intro gb1568 hg w4 hbox hb; have BK1568 := am (hbox); have GW1568 := am (sz hg : w.heap.size ≤ gb1568); have GE1568 := am (sz hg : w.heap.size ≤ gb1568); replace HB := am (below_step bl hb); clear hb hbox hg; obtain ⟨z5_0, y5_0, z5_1, y5_1, z5_2, y5_2, z5_3, y5_3, z5_4, y5_4, z5_5, y5_5, z5_6, y5_6⟩ := cl7 BK1568) | (refine gl 9 Tryz.func58 #[.agg #[.string a0_0, .slice A0_1 l0_1.length c0_1, .slice A0_2 l0_2.length c0_2, .int .i64 a0_3, .slice A0_4 l0_4.length c0_4, .string a0_5, .int .i64 a0_6], .int .i64 1048576] ?_; (with_reducible refine (laws_szObj.calls k a0_0 _ _ l0_1 _ _ l0_2 a0_3 _ _ l0_4 a0_5 a0_6 1048576 t1569 _ ?side1 ?side2 ?side3 ?side4 ?side5 ?side6 A2.out).mono ?_); (case side1 => exact cb HR0_1); (case side2 => exact HC0_1.out); (case side3 => exact cb HR0_2); (case side4 => exact HC0_2.out); (case side5 => exact cb HR0_4); (case side6 => exact HC0_4.out); rintro e w6 ⟨rfl, hb⟩; refine ⟨_, rfl, ?_⟩; replace BK1568 := kb BK1568 hb; replace HB := am (below_step bl hb); clear hb))
  go_ret
  exact ⟨rf, bl⟩
 rw [if_neg c3] at H
 have c3b0 := decide_eq_false c3
 clear c3
 revert H
 refine ok7 fun t1570 t1571 t1574 t1577 t1578 t1581 t1582 A7 H => ?_
 (try dsimp only at H)
 revert H
 refine ok1 fun t1583 A8 H => ?_
 revert H
 refine ok7 fun t1584 t1585 t1588 t1591 t1592 t1595 t1596 A9 H => ?_
 (try dsimp only at H)
 revert H
 refine ok1 fun t1598 A10 H => ?_
 by_cases c11 : t1598.toList = t1583.toList
 rotate_left
 ·rw [if_neg c11] at H
  have c11b0 : (t1598.toList == t1583.toList) = false := beq_eq_false_iff_ne.mpr c11
  have c11b1 : (t1598.toList != t1583.toList) = true := bne_iff_ne.mpr c11
  exact absurd (Option.some.inj H) (by rw [ht_]; decide)
 rw [if_pos c11] at H
 have c11b0 : (t1598.toList == t1583.toList) = true := beq_iff_eq.mpr c11
 have c11b1 : (t1598.toList != t1583.toList) = false := bne_eq_false_iff_eq.mpr c11
 clear c11
 revert H
 refine ok7 fun t1599 t1600 t1603 t1606 t1607 t1610 t1611 A12 H => ?_
 (try dsimp only at H)
 revert H
 refine ok1 fun t1612 A13 H => ?_
 by_cases c14 : t1612 = true
 rotate_left
 ·replace c14 := Bool.eq_false_iff.mpr c14
  subst c14
  rw [if_neg (show ¬ (false = true) by decide)] at H
  exact absurd (Option.some.inj H) (by rw [ht_]; decide)
 subst c14
 rw [if_pos rfl] at H
 obtain rfl := Option.some.inj H
 go_enter Tryz.func9, Tryz.ntmps9
 try go_wp2_with (first | (refine bx 1 #[.string a0_0, .slice A0_1 l0_1.length c0_1, .slice A0_2 l0_2.length c0_2, .int .i64 a0_3, .slice A0_4 l0_4.length c0_4, .string a0_5, .int .i64 a0_6] 85 ?_; intro gb1568 hg w15 hbox hb; have BK1568 := am (hbox); have GW1568 := am (sz hg : w.heap.size ≤ gb1568); have GE1568 := am (sz hg : w.heap.size ≤ gb1568); replace HB := am (below_step bl hb); clear hb hbox hg; obtain ⟨z16_0, y16_0, z16_1, y16_1, z16_2, y16_2, z16_3, y16_3, z16_4, y16_4, z16_5, y16_5, z16_6, y16_6⟩ := cl7 BK1568) | (refine gl 9 Tryz.func58 #[.agg #[.string a0_0, .slice A0_1 l0_1.length c0_1, .slice A0_2 l0_2.length c0_2, .int .i64 a0_3, .slice A0_4 l0_4.length c0_4, .string a0_5, .int .i64 a0_6], .int .i64 1048576] ?_; (with_reducible refine (laws_szObj.calls k a0_0 _ _ l0_1 _ _ l0_2 a0_3 _ _ l0_4 a0_5 a0_6 1048576 t1569 _ ?side1 ?side2 ?side3 ?side4 ?side5 ?side6 A2.out).mono ?_); (case side1 => exact cb HR0_1); (case side2 => exact HC0_1.out); (case side3 => exact cb HR0_2); (case side4 => exact HC0_2.out); (case side5 => exact cb HR0_4); (case side6 => exact HC0_4.out); rintro e w17 ⟨rfl, hb⟩; refine ⟨_, rfl, ?_⟩; replace BK1568 := kb BK1568 hb; replace HB := am (below_step bl hb); clear hb; obtain ⟨z18_0, y18_0, z18_1, y18_1, z18_2, y18_2, z18_3, y18_3, z18_4, y18_4, z18_5, y18_5, z18_6, y18_6⟩ := cl7 BK1568) | (refine gl 13 Tryz.func60 #[.agg #[.string a0_0, .slice A0_1 l0_1.length c0_1, .slice A0_2 l0_2.length c0_2, .int .i64 a0_3, .slice A0_4 l0_4.length c0_4, .string a0_5, .int .i64 a0_6]] ?_; (with_reducible refine (laws_toObj.calls k a0_0 _ _ l0_1 _ _ l0_2 a0_3 _ _ l0_4 a0_5 a0_6 t1570 t1571 t1574 t1577 t1578 t1581 t1582 _ ?side1 ?side2 ?side3 ?side4 ?side5 ?side6 A7.out).mono ?_); (case side1 => exact cb HR0_1); (case side2 => exact HC0_1.out); (case side3 => exact cb HR0_2); (case side4 => exact HC0_2.out); (case side5 => exact cb HR0_4); (case side6 => exact HC0_4.out); rintro e w19 ⟨v1572, v1575, v1579, rfl, ho0, ho1, ho2, hb⟩; refine ⟨_, rfl, ?_⟩; have HO1573 := am (Kd.R_lower ho0 (below_size bl)); have HO1576 := am (Kd.R_lower ho1 (below_size bl)); have HO1580 := am (Kd.R_lower ho2 (below_size bl)); replace BK1568 := kb BK1568 hb; replace HB := am (below_step bl hb); clear hb ho0 ho1 ho2; obtain ⟨Ao20, co20, eo20⟩ := Kd.R_slice HO1573.out; subst eo20; obtain ⟨Ao21, co21, eo21⟩ := Kd.R_slice HO1576.out; subst eo21; obtain ⟨Ao22, co22, eo22⟩ := Kd.R_slice HO1580.out; subst eo22) | (refine gl 14 Tryz.func59 #[.agg #[.string t1570, .slice Ao20 t1571.length co20, .slice Ao21 t1574.length co21, .int .i64 t1577, .slice Ao22 t1578.length co22, .string t1581, .int .i64 t1582]] ?_; (with_reducible refine (spec_ObjText.calls k t1570 _ _ t1571 _ _ t1574 t1577 _ _ t1578 t1581 t1582 t1583 _ ?side1 ?side2 ?side3 ?side4 ?side5 ?side6 A8.out).mono ?_); (case side1 => exact rc HO1573); (case side2 => exact (Kd.R_reads' HO1573.out).2.1); (case side3 => exact rc HO1576); (case side4 => exact (Kd.R_reads' HO1576.out).2.1); (case side5 => exact rc HO1580); (case side6 => exact (Kd.R_reads' HO1580.out).2.1); rintro e w23 ⟨rfl, hb⟩; refine ⟨_, rfl, ?_⟩; replace HO1573 := kr HO1573 hb; replace HO1576 := kr HO1576 hb; replace HO1580 := kr HO1580 hb; replace BK1568 := kb BK1568 hb; replace HB := am (below_step bl hb); clear hb; obtain ⟨z24_0, y24_0, z24_1, y24_1, z24_2, y24_2, z24_3, y24_3, z24_4, y24_4, z24_5, y24_5, z24_6, y24_6⟩ := cl7 BK1568) | (refine gl 16 Tryz.func60 #[.agg #[.string a0_0, .slice A0_1 l0_1.length c0_1, .slice A0_2 l0_2.length c0_2, .int .i64 a0_3, .slice A0_4 l0_4.length c0_4, .string a0_5, .int .i64 a0_6]] ?_; (with_reducible refine (laws_toObj.calls k a0_0 _ _ l0_1 _ _ l0_2 a0_3 _ _ l0_4 a0_5 a0_6 t1584 t1585 t1588 t1591 t1592 t1595 t1596 _ ?side1 ?side2 ?side3 ?side4 ?side5 ?side6 A9.out).mono ?_); (case side1 => exact cb HR0_1); (case side2 => exact HC0_1.out); (case side3 => exact cb HR0_2); (case side4 => exact HC0_2.out); (case side5 => exact cb HR0_4); (case side6 => exact HC0_4.out); rintro e w25 ⟨v1586, v1589, v1593, rfl, ho0, ho1, ho2, hb⟩; refine ⟨_, rfl, ?_⟩; have HO1587 := am (Kd.R_lower (Kd.R_new' (Kd.R_new' ho0 (Kd.R_lt (ro HO1573))) (Kd.R_lt (ro HO1576))) (below_size bl)); have HO1590 := am (Kd.R_lower (Kd.R_new' (Kd.R_new' ho1 (Kd.R_lt (ro HO1573))) (Kd.R_lt (ro HO1576))) (below_size bl)); replace HO1573 := am (Kd.R_mono (Kd.R_told (Kd.R_told (Kd.R_old (ro HO1573) hb) (Kd.R_base ho0)) (Kd.R_base ho1)) (fun _ h_ => h_.1)); replace HO1576 := am (Kd.R_mono (Kd.R_told (Kd.R_told (Kd.R_old (ro HO1576) hb) (Kd.R_base ho0)) (Kd.R_base ho1)) (fun _ h_ => h_.1)); have HO1594 := am (Kd.R_lower (Kd.R_new' ho2 (Kd.R_lt (ro HO1580))) (below_size bl)); replace HO1580 := am (Kd.R_elder' (ro HO1580) (Kd.R_base ho2) hb); replace BK1568 := kb BK1568 hb; replace HB := am (below_step bl hb); clear hb ho0 ho1 ho2) | (refine bx 5 #[.string (⟨#[]⟩ : ByteArray), .slice none 0 0, .slice none 0 0, .int .i64 0, .slice none 0 0, .string (⟨#[]⟩ : ByteArray), .int .i64 0] 31 ?_; intro gb1597 hg w26 hbox hb; replace HO1573 := am (Kd.R_below (ro HO1573) hb); replace HO1576 := am (Kd.R_below (ro HO1576) hb); replace HO1580 := am (Kd.R_below (ro HO1580) hb); replace HO1587 := am (Kd.R_below (ro HO1587) hb); replace HO1590 := am (Kd.R_below (ro HO1590) hb); replace HO1594 := am (Kd.R_below (ro HO1594) hb); have BK1597 := am (hbox); have GW1597 := am (sz hg : w.heap.size ≤ gb1597); have GE1597 := am (sz hg : w.heap.size ≤ gb1597); replace HB := am (below_step bl hb); have NB1568_1597 := am (nl hg BK1568 : gb1568 ≠ gb1597); have NB1597_1568 := am (ng hg BK1568 : gb1597 ≠ gb1568); replace BK1568 := kb BK1568 hb; clear hb hbox hg; have hnb27 := NB1597_1568.out; have hnc27 := NB1568_1597.out; obtain ⟨z28_0, y28_0, z28_1, y28_1, z28_2, y28_2, z28_3, y28_3, z28_4, y28_4, z28_5, y28_5, z28_6, y28_6⟩ := cl7 BK1597; obtain ⟨Ao29, co29, eo29⟩ := Kd.R_slice HO1587.out; subst eo29; obtain ⟨Ao30, co30, eo30⟩ := Kd.R_slice HO1590.out; subst eo30; obtain ⟨Ao31, co31, eo31⟩ := Kd.R_slice HO1594.out; subst eo31) | (refine gl 18 Tryz.func61 #[.agg #[.string t1584, .slice Ao29 t1585.length co29, .slice Ao30 t1588.length co30, .int .i64 t1591, .slice Ao31 t1592.length co31, .string t1595, .int .i64 t1596]] ?_; (with_reducible refine (impl_ObjText.calls k t1584 _ _ t1585 _ _ t1588 t1591 _ _ t1592 t1595 t1596 t1598 _ ?side1 ?side2 ?side3 ?side4 ?side5 ?side6 ?side7 ?side8 A10.out).mono ?_); (case side1 => exact GLOBM.below HGM.out bl); (case side2 => exact GLOBT.below HGT.out bl); (case side3 => refine (Kd.R_reads' (e := 9) (base := w.heap.size) (ok := fun k_ => ((some k_ ≠ (.slice Ao30 t1588.length co30 : Value).ownBlock ∧ some k_ ≠ (.slice Ao20 t1571.length co20 : Value).ownBlock) ∧ some k_ ≠ (.slice Ao21 t1574.length co21 : Value).ownBlock)) (n := t1585.length) (c := co29) ?_).2.2; exact (by (with_reducible repeat (first | apply Kd.R_alloc | apply Kd.R_drewN | apply Kd.R_drew)); exact (Kd.R_mono (Kd.R_far (p := ⟨gb1597, 6, none⟩) (Kd.R_far (p := ⟨gb1597, 5, none⟩) (Kd.R_far (p := ⟨gb1597, 4, none⟩) (Kd.R_far (p := ⟨gb1597, 3, none⟩) (Kd.R_far (p := ⟨gb1597, 2, none⟩) (Kd.R_far (p := ⟨gb1597, 1, none⟩) (Kd.R_far (p := ⟨gb1597, 0, none⟩) (Kd.R_types HO1587.out BK1597.out (by decide)) (fun _ hk => hk.2) (.string t1584)) (fun _ hk => hk.2) (.slice Ao29 t1585.length co29)) (fun _ hk => hk.2) (.slice Ao30 t1588.length co30)) (fun _ hk => hk.2) (.int .i64 t1591)) (fun _ hk => hk.2) (.slice Ao31 t1592.length co31)) (fun _ hk => hk.2) (.string t1595)) (fun _ hk => hk.2) (.int .i64 t1596)) (fun _ h_ => h_.1)))); (case side4 => exact (Kd.R_reads' HO1587.out).2.1); (case side5 => refine (Kd.R_reads' (e := 9) (base := w.heap.size) (ok := fun k_ => ((some k_ ≠ (.slice Ao29 t1585.length co29 : Value).ownBlock ∧ some k_ ≠ (.slice Ao20 t1571.length co20 : Value).ownBlock) ∧ some k_ ≠ (.slice Ao21 t1574.length co21 : Value).ownBlock)) (n := t1588.length) (c := co30) ?_).2.2; exact (by (with_reducible repeat (first | apply Kd.R_alloc | apply Kd.R_drewN | apply Kd.R_drew)); exact (Kd.R_mono (Kd.R_far (p := ⟨gb1597, 6, none⟩) (Kd.R_far (p := ⟨gb1597, 5, none⟩) (Kd.R_far (p := ⟨gb1597, 4, none⟩) (Kd.R_far (p := ⟨gb1597, 3, none⟩) (Kd.R_far (p := ⟨gb1597, 2, none⟩) (Kd.R_far (p := ⟨gb1597, 1, none⟩) (Kd.R_far (p := ⟨gb1597, 0, none⟩) (Kd.R_types HO1590.out BK1597.out (by decide)) (fun _ hk => hk.2) (.string t1584)) (fun _ hk => hk.2) (.slice Ao29 t1585.length co29)) (fun _ hk => hk.2) (.slice Ao30 t1588.length co30)) (fun _ hk => hk.2) (.int .i64 t1591)) (fun _ hk => hk.2) (.slice Ao31 t1592.length co31)) (fun _ hk => hk.2) (.string t1595)) (fun _ hk => hk.2) (.int .i64 t1596)) (fun _ h_ => h_.1)))); (case side6 => exact (Kd.R_reads' HO1590.out).2.1); (case side7 => refine (Kd.R_reads' (e := 116) (base := w.heap.size) (ok := fun k_ => (True ∧ some k_ ≠ (.slice Ao22 t1578.length co22 : Value).ownBlock)) (n := t1592.length) (c := co31) ?_).2.2; exact (by (with_reducible repeat (first | apply Kd.R_alloc | apply Kd.R_drewN | apply Kd.R_drew)); exact (Kd.R_mono (Kd.R_far (p := ⟨gb1597, 6, none⟩) (Kd.R_far (p := ⟨gb1597, 5, none⟩) (Kd.R_far (p := ⟨gb1597, 4, none⟩) (Kd.R_far (p := ⟨gb1597, 3, none⟩) (Kd.R_far (p := ⟨gb1597, 2, none⟩) (Kd.R_far (p := ⟨gb1597, 1, none⟩) (Kd.R_far (p := ⟨gb1597, 0, none⟩) (Kd.R_types HO1594.out BK1597.out (by decide)) (fun _ hk => hk.2) (.string t1584)) (fun _ hk => hk.2) (.slice Ao29 t1585.length co29)) (fun _ hk => hk.2) (.slice Ao30 t1588.length co30)) (fun _ hk => hk.2) (.int .i64 t1591)) (fun _ hk => hk.2) (.slice Ao31 t1592.length co31)) (fun _ hk => hk.2) (.string t1595)) (fun _ hk => hk.2) (.int .i64 t1596)) (fun _ h_ => h_.1)))); (case side8 => exact (Kd.R_reads' HO1594.out).2.1); rintro e w32 ⟨rfl, hb⟩; refine ⟨_, rfl, ?_⟩; have n0_ := am (Kd.R_below (by (with_reducible repeat (first | apply Kd.R_alloc | apply Kd.R_drewN | apply Kd.R_drew)); exact (Kd.R_mono (Kd.R_far (p := ⟨gb1597, 6, none⟩) (Kd.R_far (p := ⟨gb1597, 5, none⟩) (Kd.R_far (p := ⟨gb1597, 4, none⟩) (Kd.R_far (p := ⟨gb1597, 3, none⟩) (Kd.R_far (p := ⟨gb1597, 2, none⟩) (Kd.R_far (p := ⟨gb1597, 1, none⟩) (Kd.R_far (p := ⟨gb1597, 0, none⟩) (Kd.R_types HO1573.out BK1597.out (by decide)) (fun _ hk => hk.2) (.string t1584)) (fun _ hk => hk.2) (.slice Ao29 t1585.length co29)) (fun _ hk => hk.2) (.slice Ao30 t1588.length co30)) (fun _ hk => hk.2) (.int .i64 t1591)) (fun _ hk => hk.2) (.slice Ao31 t1592.length co31)) (fun _ hk => hk.2) (.string t1595)) (fun _ hk => hk.2) (.int .i64 t1596)) (fun _ h_ => h_.1))) hb); have n1_ := am (Kd.R_below (by (with_reducible repeat (first | apply Kd.R_alloc | apply Kd.R_drewN | apply Kd.R_drew)); exact (Kd.R_mono (Kd.R_far (p := ⟨gb1597, 6, none⟩) (Kd.R_far (p := ⟨gb1597, 5, none⟩) (Kd.R_far (p := ⟨gb1597, 4, none⟩) (Kd.R_far (p := ⟨gb1597, 3, none⟩) (Kd.R_far (p := ⟨gb1597, 2, none⟩) (Kd.R_far (p := ⟨gb1597, 1, none⟩) (Kd.R_far (p := ⟨gb1597, 0, none⟩) (Kd.R_types HO1576.out BK1597.out (by decide)) (fun _ hk => hk.2) (.string t1584)) (fun _ hk => hk.2) (.slice Ao29 t1585.length co29)) (fun _ hk => hk.2) (.slice Ao30 t1588.length co30)) (fun _ hk => hk.2) (.int .i64 t1591)) (fun _ hk => hk.2) (.slice Ao31 t1592.length co31)) (fun _ hk => hk.2) (.string t1595)) (fun _ hk => hk.2) (.int .i64 t1596)) (fun _ h_ => h_.1))) hb); have n2_ := am (Kd.R_below (by (with_reducible repeat (first | apply Kd.R_alloc | apply Kd.R_drewN | apply Kd.R_drew)); exact (Kd.R_mono (Kd.R_far (p := ⟨gb1597, 6, none⟩) (Kd.R_far (p := ⟨gb1597, 5, none⟩) (Kd.R_far (p := ⟨gb1597, 4, none⟩) (Kd.R_far (p := ⟨gb1597, 3, none⟩) (Kd.R_far (p := ⟨gb1597, 2, none⟩) (Kd.R_far (p := ⟨gb1597, 1, none⟩) (Kd.R_far (p := ⟨gb1597, 0, none⟩) (Kd.R_types HO1580.out BK1597.out (by decide)) (fun _ hk => hk.2) (.string t1584)) (fun _ hk => hk.2) (.slice Ao29 t1585.length co29)) (fun _ hk => hk.2) (.slice Ao30 t1588.length co30)) (fun _ hk => hk.2) (.int .i64 t1591)) (fun _ hk => hk.2) (.slice Ao31 t1592.length co31)) (fun _ hk => hk.2) (.string t1595)) (fun _ hk => hk.2) (.int .i64 t1596)) (fun _ h_ => h_.1))) hb); have n3_ := am (Kd.R_below (by (with_reducible repeat (first | apply Kd.R_alloc | apply Kd.R_drewN | apply Kd.R_drew)); exact (Kd.R_mono (Kd.R_far (p := ⟨gb1597, 6, none⟩) (Kd.R_far (p := ⟨gb1597, 5, none⟩) (Kd.R_far (p := ⟨gb1597, 4, none⟩) (Kd.R_far (p := ⟨gb1597, 3, none⟩) (Kd.R_far (p := ⟨gb1597, 2, none⟩) (Kd.R_far (p := ⟨gb1597, 1, none⟩) (Kd.R_far (p := ⟨gb1597, 0, none⟩) (Kd.R_types HO1587.out BK1597.out (by decide)) (fun _ hk => hk.2) (.string t1584)) (fun _ hk => hk.2) (.slice Ao29 t1585.length co29)) (fun _ hk => hk.2) (.slice Ao30 t1588.length co30)) (fun _ hk => hk.2) (.int .i64 t1591)) (fun _ hk => hk.2) (.slice Ao31 t1592.length co31)) (fun _ hk => hk.2) (.string t1595)) (fun _ hk => hk.2) (.int .i64 t1596)) (fun _ h_ => h_.1))) hb); have n4_ := am (Kd.R_below (by (with_reducible repeat (first | apply Kd.R_alloc | apply Kd.R_drewN | apply Kd.R_drew)); exact (Kd.R_mono (Kd.R_far (p := ⟨gb1597, 6, none⟩) (Kd.R_far (p := ⟨gb1597, 5, none⟩) (Kd.R_far (p := ⟨gb1597, 4, none⟩) (Kd.R_far (p := ⟨gb1597, 3, none⟩) (Kd.R_far (p := ⟨gb1597, 2, none⟩) (Kd.R_far (p := ⟨gb1597, 1, none⟩) (Kd.R_far (p := ⟨gb1597, 0, none⟩) (Kd.R_types HO1590.out BK1597.out (by decide)) (fun _ hk => hk.2) (.string t1584)) (fun _ hk => hk.2) (.slice Ao29 t1585.length co29)) (fun _ hk => hk.2) (.slice Ao30 t1588.length co30)) (fun _ hk => hk.2) (.int .i64 t1591)) (fun _ hk => hk.2) (.slice Ao31 t1592.length co31)) (fun _ hk => hk.2) (.string t1595)) (fun _ hk => hk.2) (.int .i64 t1596)) (fun _ h_ => h_.1))) hb); have n5_ := am (Kd.R_below (by (with_reducible repeat (first | apply Kd.R_alloc | apply Kd.R_drewN | apply Kd.R_drew)); exact (Kd.R_mono (Kd.R_far (p := ⟨gb1597, 6, none⟩) (Kd.R_far (p := ⟨gb1597, 5, none⟩) (Kd.R_far (p := ⟨gb1597, 4, none⟩) (Kd.R_far (p := ⟨gb1597, 3, none⟩) (Kd.R_far (p := ⟨gb1597, 2, none⟩) (Kd.R_far (p := ⟨gb1597, 1, none⟩) (Kd.R_far (p := ⟨gb1597, 0, none⟩) (Kd.R_types HO1594.out BK1597.out (by decide)) (fun _ hk => hk.2) (.string t1584)) (fun _ hk => hk.2) (.slice Ao29 t1585.length co29)) (fun _ hk => hk.2) (.slice Ao30 t1588.length co30)) (fun _ hk => hk.2) (.int .i64 t1591)) (fun _ hk => hk.2) (.slice Ao31 t1592.length co31)) (fun _ hk => hk.2) (.string t1595)) (fun _ hk => hk.2) (.int .i64 t1596)) (fun _ h_ => h_.1))) hb); have n6_ := kg1 BK1568 NB1568_1597 hb; have n7_ := am (blk_below (g := gb1597) (o := .cells #[.string t1584, .slice Ao29 t1585.length co29, .slice Ao30 t1588.length co30, .int .i64 t1591, .slice Ao31 t1592.length co31, .string t1595, .int .i64 t1596] 31 (0, 0)) (pt0 BK1597) hb); have n8_ := am (below_step bl hb); clear HO1573; clear HO1576; clear HO1580; clear HO1587; clear HO1590; clear HO1594; clear BK1568; clear BK1597; clear HB; have HO1573 := n0_; have HO1576 := n1_; have HO1580 := n2_; have HO1587 := n3_; have HO1590 := n4_; have HO1594 := n5_; have BK1568 := n6_; have BK1597 := n7_; have HB := n8_; clear n0_ n1_ n2_ n3_ n4_ n5_ n6_ n7_ n8_; clear hb))
 replace HO1573 := am (Kd.R_drew HO1573.out)
 replace HO1576 := am (Kd.R_drew HO1576.out)
 replace HO1580 := am (Kd.R_drew HO1580.out)
 replace HO1587 := am (Kd.R_drew HO1587.out)
 replace HO1590 := am (Kd.R_drew HO1590.out)
 replace HO1594 := am (Kd.R_drew HO1594.out)
 replace BK1568 := am (blk_drew BK1568.out)
 replace BK1597 := am (blk_drew BK1597.out)
 replace HB := am (below_drew1 HB.out)
 refine start_ (n := 5) (S := fun w' => w'.cell? ⟨gb1597, 0, none⟩ = some (.string t1584) ∧ w'.cell? ⟨gb1597, 1, none⟩ = some (.slice Ao29 t1585.length co29) ∧ w'.cell? ⟨gb1597, 2, none⟩ = some (.slice Ao30 t1588.length co30) ∧ w'.cell? ⟨gb1597, 3, none⟩ = some (.int .i64 t1591) ∧ w'.cell? ⟨gb1597, 4, none⟩ = some (.slice Ao31 t1592.length co31) ∧ w'.cell? ⟨gb1597, 5, none⟩ = some (.string t1595) ∧ w'.cell? ⟨gb1597, 6, none⟩ = some (.int .i64 t1596) ∧ w'.cell? ⟨gb1568, 0, none⟩ = some (.string a0_0) ∧ w'.cell? ⟨gb1568, 1, none⟩ = some (.slice A0_1 l0_1.length c0_1) ∧ w'.cell? ⟨gb1568, 2, none⟩ = some (.slice A0_2 l0_2.length c0_2) ∧ w'.cell? ⟨gb1568, 3, none⟩ = some (.int .i64 a0_3) ∧ w'.cell? ⟨gb1568, 4, none⟩ = some (.slice A0_4 l0_4.length c0_4) ∧ w'.cell? ⟨gb1568, 5, none⟩ = some (.string a0_5) ∧ w'.cell? ⟨gb1568, 6, none⟩ = some (.int .i64 a0_6)) (ds := []) ⟨br true [0, 5]⟩ (by kernel_rfl) rfl (by kernel_rfl) ⟨bc BK1597, bc BK1597, bc BK1597, bc BK1597, bc BK1597, bc BK1597, bc BK1597, bc BK1568, bc BK1568, bc BK1568, bc BK1568, bc BK1568, bc BK1568, bc BK1568⟩ (fun hHeld => ?_)
 generalize w32.drew = w33 at HO1573 HO1576 HO1580 HO1587 HO1590 HO1594 BK1568 BK1597 HB hHeld ⊢
 refine tk 0 22 [1, 4] ?_
 refine tk 1 23 [2, 3] ?_
 refine og 2 24 [3, 2] Tryz.func60 #[.agg #[.string a0_0, .slice A0_1 l0_1.length c0_1, .slice A0_2 l0_2.length c0_2, .int .i64 a0_3, .slice A0_4 l0_4.length c0_4, .string a0_5, .int .i64 a0_6]] (fun K hK => ?_)
 with_reducible refine (laws_toObj.calls k a0_0 _ _ l0_1 _ _ l0_2 a0_3 _ _ l0_4 a0_5 a0_6 t1599 t1600 t1603 t1606 t1607 t1610 t1611 _ ?side1 ?side2 ?side3 ?side4 ?side5 ?side6 A12.out).mono ?_
 (case side1 => exact cb HR0_1)
 (case side2 => exact HC0_1.out)
 (case side3 => exact cb HR0_2)
 (case side4 => exact HC0_2.out)
 (case side5 => exact cb HR0_4)
 (case side6 => exact HC0_4.out)
 rintro e w34 ⟨v1601, v1604, v1608, rfl, ho0, ho1, ho2, hb⟩
 refine ⟨_, rfl, ?_⟩
 have HO1602 := am (Kd.R_lower (Kd.R_new' (Kd.R_new' (Kd.R_new' (Kd.R_new' ho0 (Kd.R_lt (ro HO1573))) (Kd.R_lt (ro HO1576))) (Kd.R_lt (ro HO1587))) (Kd.R_lt (ro HO1590))) (below_size bl))
 have HO1605 := am (Kd.R_lower (Kd.R_new' (Kd.R_new' (Kd.R_new' (Kd.R_new' ho1 (Kd.R_lt (ro HO1573))) (Kd.R_lt (ro HO1576))) (Kd.R_lt (ro HO1587))) (Kd.R_lt (ro HO1590))) (below_size bl))
 replace HO1573 := am (Kd.R_mono (Kd.R_told (Kd.R_told (Kd.R_old (ro HO1573) hb) (Kd.R_base ho0)) (Kd.R_base ho1)) (fun _ h_ => h_.1))
 replace HO1576 := am (Kd.R_mono (Kd.R_told (Kd.R_told (Kd.R_old (ro HO1576) hb) (Kd.R_base ho0)) (Kd.R_base ho1)) (fun _ h_ => h_.1))
 replace HO1587 := am (Kd.R_mono (Kd.R_told (Kd.R_told (Kd.R_old (ro HO1587) hb) (Kd.R_base ho0)) (Kd.R_base ho1)) (fun _ h_ => h_.1))
 replace HO1590 := am (Kd.R_mono (Kd.R_told (Kd.R_told (Kd.R_old (ro HO1590) hb) (Kd.R_base ho0)) (Kd.R_base ho1)) (fun _ h_ => h_.1))
 have HO1609 := am (Kd.R_lower (Kd.R_new' (Kd.R_new' ho2 (Kd.R_lt (ro HO1580))) (Kd.R_lt (ro HO1594))) (below_size bl))
 replace HO1580 := am (Kd.R_elder' (ro HO1580) (Kd.R_base ho2) hb)
 replace HO1594 := am (Kd.R_elder' (ro HO1594) (Kd.R_base ho2) hb)
 replace BK1568 := kb BK1568 hb
 replace BK1597 := kb BK1597 hb
 replace HB := am (below_step bl hb)
 clear hb ho0 ho1 ho2
 obtain ⟨Ao35, co35, eo35⟩ := Kd.R_slice HO1602.out
 (first | subst eo35 | (injection eo35 with f1_ f2_ f3_; have f4_ := f1_.symm; have f5_ := f3_.symm; clear f1_ f2_ f3_; subst f4_; subst f5_))
 obtain ⟨Ao36, co36, eo36⟩ := Kd.R_slice HO1605.out
 (first | subst eo36 | (injection eo36 with f1_ f2_ f3_; have f4_ := f1_.symm; have f5_ := f3_.symm; clear f1_ f2_ f3_; subst f4_; subst f5_))
 obtain ⟨Ao37, co37, eo37⟩ := Kd.R_slice HO1609.out
 (first | subst eo37 | (injection eo37 with f1_ f2_ f3_; have f4_ := f1_.symm; have f5_ := f3_.symm; clear f1_ f2_ f3_; subst f4_; subst f5_))
 refine hK.out _ _ ⟨bc BK1597, bc BK1597, bc BK1597, bc BK1597, bc BK1597, bc BK1597, bc BK1597, bc BK1568, bc BK1568, bc BK1568, bc BK1568, bc BK1568, bc BK1568, bc BK1568⟩ (fun hHeld => ?_)
 clear hK K
 refine nm 24 ?_
 refine og 3 25 [4, 1] Tryz.func62 #[.agg #[.string t1584, .slice Ao29 t1585.length co29, .slice Ao30 t1588.length co30, .int .i64 t1591, .slice Ao31 t1592.length co31, .string t1595, .int .i64 t1596], .agg #[.string t1599, .slice Ao35 t1600.length co35, .slice Ao36 t1603.length co36, .int .i64 t1606, .slice Ao37 t1607.length co37, .string t1610, .int .i64 t1611]] (fun K hK => ?_)
 with_reducible refine (laws_eqObj.calls k t1584 _ _ t1585 _ _ t1588 t1591 _ _ t1592 t1595 t1596 t1599 _ _ t1600 _ _ t1603 t1606 _ _ t1607 t1610 t1611 true _ ?side1 ?side2 ?side3 ?side4 ?side5 ?side6 ?side7 ?side8 ?side9 ?side10 ?side11 ?side12 A13.out).mono ?_
 (case side1 => exact rc HO1587)
 (case side2 => exact (Kd.R_reads' HO1587.out).2.1)
 (case side3 => exact rc HO1590)
 (case side4 => exact (Kd.R_reads' HO1590.out).2.1)
 (case side5 => exact rc HO1594)
 (case side6 => exact (Kd.R_reads' HO1594.out).2.1)
 (case side7 => exact rc HO1602)
 (case side8 => exact (Kd.R_reads' HO1602.out).2.1)
 (case side9 => exact rc HO1605)
 (case side10 => exact (Kd.R_reads' HO1605.out).2.1)
 (case side11 => exact rc HO1609)
 (case side12 => exact (Kd.R_reads' HO1609.out).2.1)
 rintro e w38 ⟨rfl, hb⟩
 refine ⟨_, rfl, ?_⟩
 replace HO1573 := kr HO1573 hb
 replace HO1576 := kr HO1576 hb
 replace HO1580 := kr HO1580 hb
 replace HO1587 := kr HO1587 hb
 replace HO1590 := kr HO1590 hb
 replace HO1594 := kr HO1594 hb
 replace HO1602 := kr HO1602 hb
 replace HO1605 := kr HO1605 hb
 replace HO1609 := kr HO1609 hb
 replace BK1568 := kb BK1568 hb
 replace BK1597 := kb BK1597 hb
 replace HB := am (below_step bl hb)
 clear hb
 refine hK.out _ _ ⟨bc BK1597, bc BK1597, bc BK1597, bc BK1597, bc BK1597, bc BK1597, bc BK1597, bc BK1568, bc BK1568, bc BK1568, bc BK1568, bc BK1568, bc BK1568, bc BK1568⟩ (fun hHeld => ?_)
 clear hK K
 refine nm 25 ?_
 refine pu 4 26 [5] ?_
 refine done_ (by kernel_rfl) ?_
 try go_wp2
 go_ret
 exact ⟨rf, bl⟩

end Go.Proofs.YtdbgkookjpgnnaaGreatDoor.All
