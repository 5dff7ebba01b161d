-- Written by a program of this session (wip/tools/hprint.py) out of the translation. Lean checks it.
import Derived.Test.YtkgdcfaogdmcgaaDoorAllx0
import Derived.Test.YtkgdcfaogdmcgaaDoorAllx29
import Derived.Test.YtkgdcfaogdmcgaaDoorAllx30
import Derived.Test.YtkgdcfaogdmcgaaDoorAllx31
namespace Go.Proofs.YtkgdcfaogdmcgaaDoor.All
open Go.RowKit Go.Proofs.YtkgdcfaogdmcgaaDoorW.PrintWords Go.Proofs.YtkgdcfaogdmcgaaDoorW.PrintLast Go.Proofs.YtkgdcfaogdmcgaaDoorW.PrintMore
attribute [local go_sem] max2_int min2_int max_two min_two max_three min_three max_four min_four   -- for this text's walks alone
set_option linter.unusedVariables false
set_option linter.unusedSimpArgs false

/-! ### laws_FnExactObjOk: function 5 -/
def laws_FnExactObjOk.f (k : Nat) (a0_0 : ByteArray) (l0_1 : List ByteArray) (l0_2 : List ByteArray) (a0_3 : Int) (l0_4 : List (S121)) (a0_5 : ByteArray) (a0_6 : Int) : Option (Bool) := (laws_szObj.f k a0_0 l0_1 l0_2 a0_3 l0_4 a0_5 a0_6 1048576).bind fun t899 => (if t899 < 0 then (some true) else ((laws_toObj.f k a0_0 l0_1 l0_2 a0_3 l0_4 a0_5 a0_6).bind fun bt900 => ((spec_ObjOk.f k bt900.1 bt900.2.1 bt900.2.2.1 bt900.2.2.2.1 bt900.2.2.2.2.1 bt900.2.2.2.2.2.1 bt900.2.2.2.2.2.2).bind fun t913 => ((laws_toObj.f k a0_0 l0_1 l0_2 a0_3 l0_4 a0_5 a0_6).bind fun bt914 => ((impl_ObjOk.f k bt914.1 bt914.2.1 bt914.2.2.1 bt914.2.2.2.1 bt914.2.2.2.2.1 bt914.2.2.2.2.2.1 bt914.2.2.2.2.2.2).bind fun t928 => (if (t928 != t913) = true then (some false) else ((laws_toObj.f k a0_0 l0_1 l0_2 a0_3 l0_4 a0_5 a0_6).bind fun bt929 => ((laws_eqObj.f k bt914.1 bt914.2.1 bt914.2.2.1 bt914.2.2.2.1 bt914.2.2.2.2.1 bt914.2.2.2.2.2.1 bt914.2.2.2.2.2.2 bt929.1 bt929.2.1 bt929.2.2.1 bt929.2.2.2.1 bt929.2.2.2.2.1 bt929.2.2.2.2.2.1 bt929.2.2.2.2.2.2).bind fun t942 => (if t942 = true then (some true) else (some false))))))))))
theorem laws_FnExactObjOk.mono : ∀ a0 a1 a2 a3 a4 a5 a6 k, LeO (laws_FnExactObjOk.f k a0 a1 a2 a3 a4 a5 a6) (laws_FnExactObjOk.f (k + 1) a0 a1 a2 a3 a4 a5 a6) := by
 intro a0 a1 a2 a3 a4 a5 a6 k
 unfold laws_FnExactObjOk.f
 have m0 := @impl_ObjOk.mono
 have m1 := @laws_eqObj.mono
 have m2 := @laws_szObj.mono
 have m3 := @laws_toObj.mono
 have m4 := @spec_ObjOk.mono
 exact mo
set_option maxHeartbeats 8000000 in
set_option maxRecDepth 100000 in
theorem laws_FnExactObjOk.calls (k : Nat) (a0_0 : ByteArray) (A0_1 : Option Addr) (c0_1 : Nat) (l0_1 : List ByteArray) (A0_2 : Option Addr) (c0_2 : Nat) (l0_2 : List ByteArray) (a0_3 : Int) (A0_4 : Option Addr) (c0_4 : Nat) (l0_4 : List (S121)) (a0_5 : ByteArray) (a0_6 : Int) (r : Bool) (w : World) (hGM : GLOBM w) (hr0_1 : Kd.C Kd.string w A0_1 l0_1.length l0_1) (hc0_1 : l0_1.length ≤ c0_1) (hr0_2 : Kd.C Kd.string w A0_2 l0_2.length l0_2) (hc0_2 : l0_2.length ≤ c0_2) (hr0_4 : Kd.C k121 w A0_4 l0_4.length l0_4) (hc0_4 : l0_4.length ≤ c0_4) (ht_ : r = true) (h : laws_FnExactObjOk.f k a0_0 l0_1 l0_2 a0_3 l0_4 a0_5 a0_6 = some r) :
  Calls Tryd.prog 5 #[.agg #[.string a0_0, .slice A0_1 l0_1.length c0_1, .slice A0_2 l0_2.length c0_2, .int .i64 a0_3, .slice A0_4 l0_4.length c0_4, .string a0_5, .int .i64 a0_6]] w fun e w' => e = .returned (.bool r) ∧ Below w.heap.size w w' := by
 have hu51 := Tryd.underlying51
 have hu55 := Tryd.underlying55
 have HR0_1 := am hr0_1
 have HC0_1 := am hc0_1
 clear hr0_1 hc0_1
 have HR0_2 := am hr0_2
 have HC0_2 := am hc0_2
 clear hr0_2 hc0_2
 have HR0_4 := am hr0_4
 have HC0_4 := am hc0_4
 clear hr0_4 hc0_4
 have HGM := am hGM
 clear hGM
 have HB := am (Below.refl w.heap.size w)
 unfold laws_FnExactObjOk.f at h
 have H := h
 clear h
 revert H
 refine ok1 fun t899 A2 H => ?_
 by_cases c3 : t899 < 0
 ·rw [if_pos c3] at H
  have c3b0 := decide_eq_true c3
  clear c3
  obtain rfl := Option.some.inj H
  go_enter Tryd.func5, Tryd.ntmps5
  go_wp2_with (first | (refine bx 1 #[.string a0_0, .slice A0_1 l0_1.length c0_1, .slice A0_2 l0_2.length c0_2, .int .i64 a0_3, .slice A0_4 l0_4.length c0_4, .string a0_5, .int .i64 a0_6] 51 ?_; intro gb898 hg w4 hbox hb; have BK898 := am (hbox); have GW898 := am (sz hg : w.heap.size ≤ gb898); have GE898 := am (sz hg : w.heap.size ≤ gb898); replace HB := am (below_step bl hb); clear hb hbox hg; obtain ⟨z5_0, y5_0, z5_1, y5_1, z5_2, y5_2, z5_3, y5_3, z5_4, y5_4, z5_5, y5_5, z5_6, y5_6⟩ := cl7 BK898) | (refine gl 9 Tryd.func27 #[.agg #[.string a0_0, .slice A0_1 l0_1.length c0_1, .slice A0_2 l0_2.length c0_2, .int .i64 a0_3, .slice A0_4 l0_4.length c0_4, .string a0_5, .int .i64 a0_6], .int .i64 1048576] ?_; (with_reducible refine (laws_szObj.calls k a0_0 _ _ l0_1 _ _ l0_2 a0_3 _ _ l0_4 a0_5 a0_6 1048576 t899 _ ?side1 ?side2 ?side3 ?side4 ?side5 ?side6 A2.out).mono ?_); (case side1 => exact cb HR0_1); (case side2 => exact HC0_1.out); (case side3 => exact cb HR0_2); (case side4 => exact HC0_2.out); (case side5 => exact cb HR0_4); (case side6 => exact HC0_4.out); rintro e w6 ⟨rfl, hb⟩; refine ⟨_, rfl, ?_⟩; replace BK898 := kb BK898 hb; replace HB := am (below_step bl hb); clear hb))
  go_ret
  exact ⟨rf, bl⟩
 rw [if_neg c3] at H
 have c3b0 := decide_eq_false c3
 clear c3
 revert H
 refine ok7 fun t900 t901 t904 t907 t908 t911 t912 A7 H => ?_
 (try dsimp only at H)
 revert H
 refine ok1 fun t913 A8 H => ?_
 revert H
 refine ok7 fun t914 t915 t918 t921 t922 t925 t926 A9 H => ?_
 (try dsimp only at H)
 revert H
 refine ok1 fun t928 A10 H => ?_
 by_cases c11 : (t928 != t913) = true
 ·rw [if_pos c11] at H
  have c11b0 : (t928 != t913) = true := c11
  (try (have c11b1 : decide (t928 = t913) = false := by simpa using c11))
  (try (have c11b2 : (t928 == t913) = false := by simpa using c11))
  (try (have c11b3 : ¬ (t928 = t913) := by simpa using c11))
  clear c11
  exact absurd (Option.some.inj H) (by rw [ht_]; decide)
 rw [if_neg c11] at H
 have c11b0 : (t928 != t913) = false := by simpa using c11
 (try (have c11b1 : decide (t928 = t913) = true := by simpa using c11))
 (try (have c11b2 : (t928 == t913) = true := by simpa using c11))
 clear c11
 revert H
 refine ok7 fun t929 t930 t933 t936 t937 t940 t941 A12 H => ?_
 (try dsimp only at H)
 revert H
 refine ok1 fun t942 A13 H => ?_
 by_cases c14 : t942 = true
 rotate_left
 ·replace c14 := Bool.eq_false_iff.mpr c14
  subst c14
  rw [if_neg (show ¬ (false = true) by decide)] at H
  exact absurd (Option.some.inj H) (by rw [ht_]; decide)
 subst c14
 rw [if_pos rfl] at H
 obtain rfl := Option.some.inj H
 go_enter Tryd.func5, Tryd.ntmps5
 try go_wp2_with (first | (refine bx 1 #[.string a0_0, .slice A0_1 l0_1.length c0_1, .slice A0_2 l0_2.length c0_2, .int .i64 a0_3, .slice A0_4 l0_4.length c0_4, .string a0_5, .int .i64 a0_6] 51 ?_; intro gb898 hg w15 hbox hb; have BK898 := am (hbox); have GW898 := am (sz hg : w.heap.size ≤ gb898); have GE898 := am (sz hg : w.heap.size ≤ gb898); replace HB := am (below_step bl hb); clear hb hbox hg; obtain ⟨z16_0, y16_0, z16_1, y16_1, z16_2, y16_2, z16_3, y16_3, z16_4, y16_4, z16_5, y16_5, z16_6, y16_6⟩ := cl7 BK898) | (refine gl 9 Tryd.func27 #[.agg #[.string a0_0, .slice A0_1 l0_1.length c0_1, .slice A0_2 l0_2.length c0_2, .int .i64 a0_3, .slice A0_4 l0_4.length c0_4, .string a0_5, .int .i64 a0_6], .int .i64 1048576] ?_; (with_reducible refine (laws_szObj.calls k a0_0 _ _ l0_1 _ _ l0_2 a0_3 _ _ l0_4 a0_5 a0_6 1048576 t899 _ ?side1 ?side2 ?side3 ?side4 ?side5 ?side6 A2.out).mono ?_); (case side1 => exact cb HR0_1); (case side2 => exact HC0_1.out); (case side3 => exact cb HR0_2); (case side4 => exact HC0_2.out); (case side5 => exact cb HR0_4); (case side6 => exact HC0_4.out); rintro e w17 ⟨rfl, hb⟩; refine ⟨_, rfl, ?_⟩; replace BK898 := kb BK898 hb; replace HB := am (below_step bl hb); clear hb; obtain ⟨z18_0, y18_0, z18_1, y18_1, z18_2, y18_2, z18_3, y18_3, z18_4, y18_4, z18_5, y18_5, z18_6, y18_6⟩ := cl7 BK898) | (refine gl 13 Tryd.func29 #[.agg #[.string a0_0, .slice A0_1 l0_1.length c0_1, .slice A0_2 l0_2.length c0_2, .int .i64 a0_3, .slice A0_4 l0_4.length c0_4, .string a0_5, .int .i64 a0_6]] ?_; (with_reducible refine (laws_toObj.calls k a0_0 _ _ l0_1 _ _ l0_2 a0_3 _ _ l0_4 a0_5 a0_6 t900 t901 t904 t907 t908 t911 t912 _ ?side1 ?side2 ?side3 ?side4 ?side5 ?side6 A7.out).mono ?_); (case side1 => exact cb HR0_1); (case side2 => exact HC0_1.out); (case side3 => exact cb HR0_2); (case side4 => exact HC0_2.out); (case side5 => exact cb HR0_4); (case side6 => exact HC0_4.out); rintro e w19 ⟨v902, v905, v909, rfl, ho0, ho1, ho2, hb⟩; refine ⟨_, rfl, ?_⟩; have HO903 := am (Kd.R_lower ho0 (below_size bl)); have HO906 := am (Kd.R_lower ho1 (below_size bl)); have HO910 := am (Kd.R_lower ho2 (below_size bl)); replace BK898 := kb BK898 hb; replace HB := am (below_step bl hb); clear hb ho0 ho1 ho2; obtain ⟨Ao20, co20, eo20⟩ := Kd.R_slice HO903.out; subst eo20; obtain ⟨Ao21, co21, eo21⟩ := Kd.R_slice HO906.out; subst eo21; obtain ⟨Ao22, co22, eo22⟩ := Kd.R_slice HO910.out; subst eo22) | (refine gl 14 Tryd.func28 #[.agg #[.string t900, .slice Ao20 t901.length co20, .slice Ao21 t904.length co21, .int .i64 t907, .slice Ao22 t908.length co22, .string t911, .int .i64 t912]] ?_; (with_reducible refine (spec_ObjOk.calls k t900 _ _ t901 _ _ t904 t907 _ _ t908 t911 t912 t913 _ ?side1 ?side2 ?side3 ?side4 ?side5 ?side6 A8.out).mono ?_); (case side1 => exact rc HO903); (case side2 => exact (Kd.R_reads' HO903.out).2.1); (case side3 => exact rc HO906); (case side4 => exact (Kd.R_reads' HO906.out).2.1); (case side5 => exact rc HO910); (case side6 => exact (Kd.R_reads' HO910.out).2.1); rintro e w23 ⟨rfl, hb⟩; refine ⟨_, rfl, ?_⟩; replace HO903 := kr HO903 hb; replace HO906 := kr HO906 hb; replace HO910 := kr HO910 hb; replace BK898 := kb BK898 hb; replace HB := am (below_step bl hb); clear hb; obtain ⟨z24_0, y24_0, z24_1, y24_1, z24_2, y24_2, z24_3, y24_3, z24_4, y24_4, z24_5, y24_5, z24_6, y24_6⟩ := cl7 BK898) | (refine gl 16 Tryd.func29 #[.agg #[.string a0_0, .slice A0_1 l0_1.length c0_1, .slice A0_2 l0_2.length c0_2, .int .i64 a0_3, .slice A0_4 l0_4.length c0_4, .string a0_5, .int .i64 a0_6]] ?_; (with_reducible refine (laws_toObj.calls k a0_0 _ _ l0_1 _ _ l0_2 a0_3 _ _ l0_4 a0_5 a0_6 t914 t915 t918 t921 t922 t925 t926 _ ?side1 ?side2 ?side3 ?side4 ?side5 ?side6 A9.out).mono ?_); (case side1 => exact cb HR0_1); (case side2 => exact HC0_1.out); (case side3 => exact cb HR0_2); (case side4 => exact HC0_2.out); (case side5 => exact cb HR0_4); (case side6 => exact HC0_4.out); rintro e w25 ⟨v916, v919, v923, rfl, ho0, ho1, ho2, hb⟩; refine ⟨_, rfl, ?_⟩; have HO917 := am (Kd.R_lower (Kd.R_new' (Kd.R_new' ho0 (Kd.R_lt (ro HO903))) (Kd.R_lt (ro HO906))) (below_size bl)); have HO920 := am (Kd.R_lower (Kd.R_new' (Kd.R_new' ho1 (Kd.R_lt (ro HO903))) (Kd.R_lt (ro HO906))) (below_size bl)); replace HO903 := am (Kd.R_mono (Kd.R_told (Kd.R_told (Kd.R_old (ro HO903) hb) (Kd.R_base ho0)) (Kd.R_base ho1)) (fun _ h_ => h_.1)); replace HO906 := am (Kd.R_mono (Kd.R_told (Kd.R_told (Kd.R_old (ro HO906) hb) (Kd.R_base ho0)) (Kd.R_base ho1)) (fun _ h_ => h_.1)); have HO924 := am (Kd.R_lower (Kd.R_new' ho2 (Kd.R_lt (ro HO910))) (below_size bl)); replace HO910 := am (Kd.R_elder' (ro HO910) (Kd.R_base ho2) hb); replace BK898 := kb BK898 hb; replace HB := am (below_step bl hb); clear hb ho0 ho1 ho2) | (refine bx 5 #[.string (⟨#[]⟩ : ByteArray), .slice none 0 0, .slice none 0 0, .int .i64 0, .slice none 0 0, .string (⟨#[]⟩ : ByteArray), .int .i64 0] 55 ?_; intro gb927 hg w26 hbox hb; replace HO903 := am (Kd.R_below (ro HO903) hb); replace HO906 := am (Kd.R_below (ro HO906) hb); replace HO910 := am (Kd.R_below (ro HO910) hb); replace HO917 := am (Kd.R_below (ro HO917) hb); replace HO920 := am (Kd.R_below (ro HO920) hb); replace HO924 := am (Kd.R_below (ro HO924) hb); have BK927 := am (hbox); have GW927 := am (sz hg : w.heap.size ≤ gb927); have GE927 := am (sz hg : w.heap.size ≤ gb927); replace HB := am (below_step bl hb); have NB898_927 := am (nl hg BK898 : gb898 ≠ gb927); have NB927_898 := am (ng hg BK898 : gb927 ≠ gb898); replace BK898 := kb BK898 hb; clear hb hbox hg; have hnb27 := NB927_898.out; have hnc27 := NB898_927.out; obtain ⟨z28_0, y28_0, z28_1, y28_1, z28_2, y28_2, z28_3, y28_3, z28_4, y28_4, z28_5, y28_5, z28_6, y28_6⟩ := cl7 BK927; obtain ⟨Ao29, co29, eo29⟩ := Kd.R_slice HO917.out; subst eo29; obtain ⟨Ao30, co30, eo30⟩ := Kd.R_slice HO920.out; subst eo30; obtain ⟨Ao31, co31, eo31⟩ := Kd.R_slice HO924.out; subst eo31) | (refine gl 18 Tryd.func30 #[.agg #[.string t914, .slice Ao29 t915.length co29, .slice Ao30 t918.length co30, .int .i64 t921, .slice Ao31 t922.length co31, .string t925, .int .i64 t926]] ?_; (with_reducible refine (impl_ObjOk.calls k t914 _ _ t915 _ _ t918 t921 _ _ t922 t925 t926 t928 _ ?side1 ?side2 ?side3 ?side4 ?side5 ?side6 ?side7 A10.out).mono ?_); (case side1 => exact GLOBM.below HGM.out bl); (case side2 => refine (Kd.R_reads' (e := 9) (base := w.heap.size) (ok := fun k_ => ((some k_ ≠ (.slice Ao30 t918.length co30 : Value).ownBlock ∧ some k_ ≠ (.slice Ao20 t901.length co20 : Value).ownBlock) ∧ some k_ ≠ (.slice Ao21 t904.length co21 : Value).ownBlock)) (n := t915.length) (c := co29) ?_).2.2; exact (by (with_reducible repeat (first | apply Kd.R_alloc | apply Kd.R_drewN | apply Kd.R_drew)); exact (Kd.R_mono (Kd.R_far (p := ⟨gb927, 6, none⟩) (Kd.R_far (p := ⟨gb927, 5, none⟩) (Kd.R_far (p := ⟨gb927, 4, none⟩) (Kd.R_far (p := ⟨gb927, 3, none⟩) (Kd.R_far (p := ⟨gb927, 2, none⟩) (Kd.R_far (p := ⟨gb927, 1, none⟩) (Kd.R_far (p := ⟨gb927, 0, none⟩) (Kd.R_types HO917.out BK927.out (by decide)) (fun _ hk => hk.2) (.string t914)) (fun _ hk => hk.2) (.slice Ao29 t915.length co29)) (fun _ hk => hk.2) (.slice Ao30 t918.length co30)) (fun _ hk => hk.2) (.int .i64 t921)) (fun _ hk => hk.2) (.slice Ao31 t922.length co31)) (fun _ hk => hk.2) (.string t925)) (fun _ hk => hk.2) (.int .i64 t926)) (fun _ h_ => h_.1)))); (case side3 => exact (Kd.R_reads' HO917.out).2.1); (case side4 => refine (Kd.R_reads' (e := 9) (base := w.heap.size) (ok := fun k_ => ((some k_ ≠ (.slice Ao29 t915.length co29 : Value).ownBlock ∧ some k_ ≠ (.slice Ao20 t901.length co20 : Value).ownBlock) ∧ some k_ ≠ (.slice Ao21 t904.length co21 : Value).ownBlock)) (n := t918.length) (c := co30) ?_).2.2; exact (by (with_reducible repeat (first | apply Kd.R_alloc | apply Kd.R_drewN | apply Kd.R_drew)); exact (Kd.R_mono (Kd.R_far (p := ⟨gb927, 6, none⟩) (Kd.R_far (p := ⟨gb927, 5, none⟩) (Kd.R_far (p := ⟨gb927, 4, none⟩) (Kd.R_far (p := ⟨gb927, 3, none⟩) (Kd.R_far (p := ⟨gb927, 2, none⟩) (Kd.R_far (p := ⟨gb927, 1, none⟩) (Kd.R_far (p := ⟨gb927, 0, none⟩) (Kd.R_types HO920.out BK927.out (by decide)) (fun _ hk => hk.2) (.string t914)) (fun _ hk => hk.2) (.slice Ao29 t915.length co29)) (fun _ hk => hk.2) (.slice Ao30 t918.length co30)) (fun _ hk => hk.2) (.int .i64 t921)) (fun _ hk => hk.2) (.slice Ao31 t922.length co31)) (fun _ hk => hk.2) (.string t925)) (fun _ hk => hk.2) (.int .i64 t926)) (fun _ h_ => h_.1)))); (case side5 => exact (Kd.R_reads' HO920.out).2.1); (case side6 => refine (Kd.R_reads' (e := 84) (base := w.heap.size) (ok := fun k_ => (True ∧ some k_ ≠ (.slice Ao22 t908.length co22 : Value).ownBlock)) (n := t922.length) (c := co31) ?_).2.2; exact (by (with_reducible repeat (first | apply Kd.R_alloc | apply Kd.R_drewN | apply Kd.R_drew)); exact (Kd.R_mono (Kd.R_far (p := ⟨gb927, 6, none⟩) (Kd.R_far (p := ⟨gb927, 5, none⟩) (Kd.R_far (p := ⟨gb927, 4, none⟩) (Kd.R_far (p := ⟨gb927, 3, none⟩) (Kd.R_far (p := ⟨gb927, 2, none⟩) (Kd.R_far (p := ⟨gb927, 1, none⟩) (Kd.R_far (p := ⟨gb927, 0, none⟩) (Kd.R_types HO924.out BK927.out (by decide)) (fun _ hk => hk.2) (.string t914)) (fun _ hk => hk.2) (.slice Ao29 t915.length co29)) (fun _ hk => hk.2) (.slice Ao30 t918.length co30)) (fun _ hk => hk.2) (.int .i64 t921)) (fun _ hk => hk.2) (.slice Ao31 t922.length co31)) (fun _ hk => hk.2) (.string t925)) (fun _ hk => hk.2) (.int .i64 t926)) (fun _ h_ => h_.1)))); (case side7 => exact (Kd.R_reads' HO924.out).2.1); rintro e w32 ⟨rfl, hb⟩; refine ⟨_, rfl, ?_⟩; have n0_ := am (Kd.R_below (by (with_reducible repeat (first | apply Kd.R_alloc | apply Kd.R_drewN | apply Kd.R_drew)); exact (Kd.R_mono (Kd.R_far (p := ⟨gb927, 6, none⟩) (Kd.R_far (p := ⟨gb927, 5, none⟩) (Kd.R_far (p := ⟨gb927, 4, none⟩) (Kd.R_far (p := ⟨gb927, 3, none⟩) (Kd.R_far (p := ⟨gb927, 2, none⟩) (Kd.R_far (p := ⟨gb927, 1, none⟩) (Kd.R_far (p := ⟨gb927, 0, none⟩) (Kd.R_types HO903.out BK927.out (by decide)) (fun _ hk => hk.2) (.string t914)) (fun _ hk => hk.2) (.slice Ao29 t915.length co29)) (fun _ hk => hk.2) (.slice Ao30 t918.length co30)) (fun _ hk => hk.2) (.int .i64 t921)) (fun _ hk => hk.2) (.slice Ao31 t922.length co31)) (fun _ hk => hk.2) (.string t925)) (fun _ hk => hk.2) (.int .i64 t926)) (fun _ h_ => h_.1))) hb); have n1_ := am (Kd.R_below (by (with_reducible repeat (first | apply Kd.R_alloc | apply Kd.R_drewN | apply Kd.R_drew)); exact (Kd.R_mono (Kd.R_far (p := ⟨gb927, 6, none⟩) (Kd.R_far (p := ⟨gb927, 5, none⟩) (Kd.R_far (p := ⟨gb927, 4, none⟩) (Kd.R_far (p := ⟨gb927, 3, none⟩) (Kd.R_far (p := ⟨gb927, 2, none⟩) (Kd.R_far (p := ⟨gb927, 1, none⟩) (Kd.R_far (p := ⟨gb927, 0, none⟩) (Kd.R_types HO906.out BK927.out (by decide)) (fun _ hk => hk.2) (.string t914)) (fun _ hk => hk.2) (.slice Ao29 t915.length co29)) (fun _ hk => hk.2) (.slice Ao30 t918.length co30)) (fun _ hk => hk.2) (.int .i64 t921)) (fun _ hk => hk.2) (.slice Ao31 t922.length co31)) (fun _ hk => hk.2) (.string t925)) (fun _ hk => hk.2) (.int .i64 t926)) (fun _ h_ => h_.1))) hb); have n2_ := am (Kd.R_below (by (with_reducible repeat (first | apply Kd.R_alloc | apply Kd.R_drewN | apply Kd.R_drew)); exact (Kd.R_mono (Kd.R_far (p := ⟨gb927, 6, none⟩) (Kd.R_far (p := ⟨gb927, 5, none⟩) (Kd.R_far (p := ⟨gb927, 4, none⟩) (Kd.R_far (p := ⟨gb927, 3, none⟩) (Kd.R_far (p := ⟨gb927, 2, none⟩) (Kd.R_far (p := ⟨gb927, 1, none⟩) (Kd.R_far (p := ⟨gb927, 0, none⟩) (Kd.R_types HO910.out BK927.out (by decide)) (fun _ hk => hk.2) (.string t914)) (fun _ hk => hk.2) (.slice Ao29 t915.length co29)) (fun _ hk => hk.2) (.slice Ao30 t918.length co30)) (fun _ hk => hk.2) (.int .i64 t921)) (fun _ hk => hk.2) (.slice Ao31 t922.length co31)) (fun _ hk => hk.2) (.string t925)) (fun _ hk => hk.2) (.int .i64 t926)) (fun _ h_ => h_.1))) hb); have n3_ := am (Kd.R_below (by (with_reducible repeat (first | apply Kd.R_alloc | apply Kd.R_drewN | apply Kd.R_drew)); exact (Kd.R_mono (Kd.R_far (p := ⟨gb927, 6, none⟩) (Kd.R_far (p := ⟨gb927, 5, none⟩) (Kd.R_far (p := ⟨gb927, 4, none⟩) (Kd.R_far (p := ⟨gb927, 3, none⟩) (Kd.R_far (p := ⟨gb927, 2, none⟩) (Kd.R_far (p := ⟨gb927, 1, none⟩) (Kd.R_far (p := ⟨gb927, 0, none⟩) (Kd.R_types HO917.out BK927.out (by decide)) (fun _ hk => hk.2) (.string t914)) (fun _ hk => hk.2) (.slice Ao29 t915.length co29)) (fun _ hk => hk.2) (.slice Ao30 t918.length co30)) (fun _ hk => hk.2) (.int .i64 t921)) (fun _ hk => hk.2) (.slice Ao31 t922.length co31)) (fun _ hk => hk.2) (.string t925)) (fun _ hk => hk.2) (.int .i64 t926)) (fun _ h_ => h_.1))) hb); have n4_ := am (Kd.R_below (by (with_reducible repeat (first | apply Kd.R_alloc | apply Kd.R_drewN | apply Kd.R_drew)); exact (Kd.R_mono (Kd.R_far (p := ⟨gb927, 6, none⟩) (Kd.R_far (p := ⟨gb927, 5, none⟩) (Kd.R_far (p := ⟨gb927, 4, none⟩) (Kd.R_far (p := ⟨gb927, 3, none⟩) (Kd.R_far (p := ⟨gb927, 2, none⟩) (Kd.R_far (p := ⟨gb927, 1, none⟩) (Kd.R_far (p := ⟨gb927, 0, none⟩) (Kd.R_types HO920.out BK927.out (by decide)) (fun _ hk => hk.2) (.string t914)) (fun _ hk => hk.2) (.slice Ao29 t915.length co29)) (fun _ hk => hk.2) (.slice Ao30 t918.length co30)) (fun _ hk => hk.2) (.int .i64 t921)) (fun _ hk => hk.2) (.slice Ao31 t922.length co31)) (fun _ hk => hk.2) (.string t925)) (fun _ hk => hk.2) (.int .i64 t926)) (fun _ h_ => h_.1))) hb); have n5_ := am (Kd.R_below (by (with_reducible repeat (first | apply Kd.R_alloc | apply Kd.R_drewN | apply Kd.R_drew)); exact (Kd.R_mono (Kd.R_far (p := ⟨gb927, 6, none⟩) (Kd.R_far (p := ⟨gb927, 5, none⟩) (Kd.R_far (p := ⟨gb927, 4, none⟩) (Kd.R_far (p := ⟨gb927, 3, none⟩) (Kd.R_far (p := ⟨gb927, 2, none⟩) (Kd.R_far (p := ⟨gb927, 1, none⟩) (Kd.R_far (p := ⟨gb927, 0, none⟩) (Kd.R_types HO924.out BK927.out (by decide)) (fun _ hk => hk.2) (.string t914)) (fun _ hk => hk.2) (.slice Ao29 t915.length co29)) (fun _ hk => hk.2) (.slice Ao30 t918.length co30)) (fun _ hk => hk.2) (.int .i64 t921)) (fun _ hk => hk.2) (.slice Ao31 t922.length co31)) (fun _ hk => hk.2) (.string t925)) (fun _ hk => hk.2) (.int .i64 t926)) (fun _ h_ => h_.1))) hb); have n6_ := kg1 BK898 NB898_927 hb; have n7_ := am (blk_below (g := gb927) (o := .cells #[.string t914, .slice Ao29 t915.length co29, .slice Ao30 t918.length co30, .int .i64 t921, .slice Ao31 t922.length co31, .string t925, .int .i64 t926] 55 (0, 0)) (by (with_reducible repeat (first | refine blk_drewN ?_ _ | refine blk_drew ?_ | refine blk_alloc ?_ _)); refine blk_put (cs := #[.string t914, .slice Ao29 t915.length co29, .slice Ao30 t918.length co30, .int .i64 t921, .slice Ao31 t922.length co31, .string t925, .int .i64 0]) ?_ 6 _ rfl; (with_reducible repeat (first | refine blk_drewN ?_ _ | refine blk_drew ?_ | refine blk_alloc ?_ _)); refine blk_put (cs := #[.string t914, .slice Ao29 t915.length co29, .slice Ao30 t918.length co30, .int .i64 t921, .slice Ao31 t922.length co31, .string (⟨#[]⟩ : ByteArray), .int .i64 0]) ?_ 5 _ rfl; (with_reducible repeat (first | refine blk_drewN ?_ _ | refine blk_drew ?_ | refine blk_alloc ?_ _)); refine blk_put (cs := #[.string t914, .slice Ao29 t915.length co29, .slice Ao30 t918.length co30, .int .i64 t921, .slice none 0 0, .string (⟨#[]⟩ : ByteArray), .int .i64 0]) ?_ 4 _ rfl; (with_reducible repeat (first | refine blk_drewN ?_ _ | refine blk_drew ?_ | refine blk_alloc ?_ _)); refine blk_put (cs := #[.string t914, .slice Ao29 t915.length co29, .slice Ao30 t918.length co30, .int .i64 0, .slice none 0 0, .string (⟨#[]⟩ : ByteArray), .int .i64 0]) ?_ 3 _ rfl; (with_reducible repeat (first | refine blk_drewN ?_ _ | refine blk_drew ?_ | refine blk_alloc ?_ _)); refine blk_put (cs := #[.string t914, .slice Ao29 t915.length co29, .slice none 0 0, .int .i64 0, .slice none 0 0, .string (⟨#[]⟩ : ByteArray), .int .i64 0]) ?_ 2 _ rfl; (with_reducible repeat (first | refine blk_drewN ?_ _ | refine blk_drew ?_ | refine blk_alloc ?_ _)); refine blk_put (cs := #[.string t914, .slice none 0 0, .slice none 0 0, .int .i64 0, .slice none 0 0, .string (⟨#[]⟩ : ByteArray), .int .i64 0]) ?_ 1 _ rfl; (with_reducible repeat (first | refine blk_drewN ?_ _ | refine blk_drew ?_ | refine blk_alloc ?_ _)); refine blk_put (cs := #[.string (⟨#[]⟩ : ByteArray), .slice none 0 0, .slice none 0 0, .int .i64 0, .slice none 0 0, .string (⟨#[]⟩ : ByteArray), .int .i64 0]) ?_ 0 _ rfl; (with_reducible repeat (first | refine blk_drewN ?_ _ | refine blk_drew ?_ | refine blk_alloc ?_ _)); exact BK927.out) hb); have n8_ := am (below_step bl hb); clear HO903; clear HO906; clear HO910; clear HO917; clear HO920; clear HO924; clear BK898; clear BK927; clear HB; have HO903 := n0_; have HO906 := n1_; have HO910 := n2_; have HO917 := n3_; have HO920 := n4_; have HO924 := n5_; have BK898 := n6_; have BK927 := n7_; have HB := n8_; clear n0_ n1_ n2_ n3_ n4_ n5_ n6_ n7_ n8_; clear hb))
 replace HO903 := am (Kd.R_drew HO903.out)
 replace HO906 := am (Kd.R_drew HO906.out)
 replace HO910 := am (Kd.R_drew HO910.out)
 replace HO917 := am (Kd.R_drew HO917.out)
 replace HO920 := am (Kd.R_drew HO920.out)
 replace HO924 := am (Kd.R_drew HO924.out)
 replace BK898 := am (blk_drew BK898.out)
 replace BK927 := am (blk_drew BK927.out)
 replace HB := am (below_drew1 HB.out)
 refine start_ (n := 5) (S := fun w' => w'.cell? ⟨gb927, 0, none⟩ = some (.string t914) ∧ w'.cell? ⟨gb927, 1, none⟩ = some (.slice Ao29 t915.length co29) ∧ w'.cell? ⟨gb927, 2, none⟩ = some (.slice Ao30 t918.length co30) ∧ w'.cell? ⟨gb927, 3, none⟩ = some (.int .i64 t921) ∧ w'.cell? ⟨gb927, 4, none⟩ = some (.slice Ao31 t922.length co31) ∧ w'.cell? ⟨gb927, 5, none⟩ = some (.string t925) ∧ w'.cell? ⟨gb927, 6, none⟩ = some (.int .i64 t926) ∧ w'.cell? ⟨gb898, 0, none⟩ = some (.string a0_0) ∧ w'.cell? ⟨gb898, 1, none⟩ = some (.slice A0_1 l0_1.length c0_1) ∧ w'.cell? ⟨gb898, 2, none⟩ = some (.slice A0_2 l0_2.length c0_2) ∧ w'.cell? ⟨gb898, 3, none⟩ = some (.int .i64 a0_3) ∧ w'.cell? ⟨gb898, 4, none⟩ = some (.slice A0_4 l0_4.length c0_4) ∧ w'.cell? ⟨gb898, 5, none⟩ = some (.string a0_5) ∧ w'.cell? ⟨gb898, 6, none⟩ = some (.int .i64 a0_6)) (ds := []) ⟨br true [0, 5]⟩ (by kernel_rfl) rfl (by kernel_rfl) ⟨bc BK927, bc BK927, bc BK927, bc BK927, bc BK927, bc BK927, bc BK927, bc BK898, bc BK898, bc BK898, bc BK898, bc BK898, bc BK898, bc BK898⟩ (fun hHeld => ?_)
 generalize w32.drew = w33 at HO903 HO906 HO910 HO917 HO920 HO924 BK898 BK927 HB hHeld ⊢
 refine tk 0 22 [1, 4] ?_
 refine tk 1 23 [2, 3] ?_
 refine og 2 24 [3, 2] Tryd.func29 #[.agg #[.string a0_0, .slice A0_1 l0_1.length c0_1, .slice A0_2 l0_2.length c0_2, .int .i64 a0_3, .slice A0_4 l0_4.length c0_4, .string a0_5, .int .i64 a0_6]] (fun K hK => ?_)
 with_reducible refine (laws_toObj.calls k a0_0 _ _ l0_1 _ _ l0_2 a0_3 _ _ l0_4 a0_5 a0_6 t929 t930 t933 t936 t937 t940 t941 _ ?side1 ?side2 ?side3 ?side4 ?side5 ?side6 A12.out).mono ?_
 (case side1 => exact cb HR0_1)
 (case side2 => exact HC0_1.out)
 (case side3 => exact cb HR0_2)
 (case side4 => exact HC0_2.out)
 (case side5 => exact cb HR0_4)
 (case side6 => exact HC0_4.out)
 rintro e w34 ⟨v931, v934, v938, rfl, ho0, ho1, ho2, hb⟩
 refine ⟨_, rfl, ?_⟩
 have HO932 := am (Kd.R_lower (Kd.R_new' (Kd.R_new' (Kd.R_new' (Kd.R_new' ho0 (Kd.R_lt (ro HO903))) (Kd.R_lt (ro HO906))) (Kd.R_lt (ro HO917))) (Kd.R_lt (ro HO920))) (below_size bl))
 have HO935 := am (Kd.R_lower (Kd.R_new' (Kd.R_new' (Kd.R_new' (Kd.R_new' ho1 (Kd.R_lt (ro HO903))) (Kd.R_lt (ro HO906))) (Kd.R_lt (ro HO917))) (Kd.R_lt (ro HO920))) (below_size bl))
 replace HO903 := am (Kd.R_mono (Kd.R_told (Kd.R_told (Kd.R_old (ro HO903) hb) (Kd.R_base ho0)) (Kd.R_base ho1)) (fun _ h_ => h_.1))
 replace HO906 := am (Kd.R_mono (Kd.R_told (Kd.R_told (Kd.R_old (ro HO906) hb) (Kd.R_base ho0)) (Kd.R_base ho1)) (fun _ h_ => h_.1))
 replace HO917 := am (Kd.R_mono (Kd.R_told (Kd.R_told (Kd.R_old (ro HO917) hb) (Kd.R_base ho0)) (Kd.R_base ho1)) (fun _ h_ => h_.1))
 replace HO920 := am (Kd.R_mono (Kd.R_told (Kd.R_told (Kd.R_old (ro HO920) hb) (Kd.R_base ho0)) (Kd.R_base ho1)) (fun _ h_ => h_.1))
 have HO939 := am (Kd.R_lower (Kd.R_new' (Kd.R_new' ho2 (Kd.R_lt (ro HO910))) (Kd.R_lt (ro HO924))) (below_size bl))
 replace HO910 := am (Kd.R_elder' (ro HO910) (Kd.R_base ho2) hb)
 replace HO924 := am (Kd.R_elder' (ro HO924) (Kd.R_base ho2) hb)
 replace BK898 := kb BK898 hb
 replace BK927 := kb BK927 hb
 replace HB := am (below_step bl hb)
 clear hb ho0 ho1 ho2
 obtain ⟨Ao35, co35, eo35⟩ := Kd.R_slice HO932.out
 (first | subst eo35 | (injection eo35 with f1_ f2_ f3_; have f4_ := f1_.symm; have f5_ := f3_.symm; clear f1_ f2_ f3_; subst f4_; subst f5_))
 obtain ⟨Ao36, co36, eo36⟩ := Kd.R_slice HO935.out
 (first | subst eo36 | (injection eo36 with f1_ f2_ f3_; have f4_ := f1_.symm; have f5_ := f3_.symm; clear f1_ f2_ f3_; subst f4_; subst f5_))
 obtain ⟨Ao37, co37, eo37⟩ := Kd.R_slice HO939.out
 (first | subst eo37 | (injection eo37 with f1_ f2_ f3_; have f4_ := f1_.symm; have f5_ := f3_.symm; clear f1_ f2_ f3_; subst f4_; subst f5_))
 refine hK.out _ _ ⟨bc BK927, bc BK927, bc BK927, bc BK927, bc BK927, bc BK927, bc BK927, bc BK898, bc BK898, bc BK898, bc BK898, bc BK898, bc BK898, bc BK898⟩ (fun hHeld => ?_)
 clear hK K
 refine nm 24 ?_
 refine og 3 25 [4, 1] Tryd.func31 #[.agg #[.string t914, .slice Ao29 t915.length co29, .slice Ao30 t918.length co30, .int .i64 t921, .slice Ao31 t922.length co31, .string t925, .int .i64 t926], .agg #[.string t929, .slice Ao35 t930.length co35, .slice Ao36 t933.length co36, .int .i64 t936, .slice Ao37 t937.length co37, .string t940, .int .i64 t941]] (fun K hK => ?_)
 with_reducible refine (laws_eqObj.calls k t914 _ _ t915 _ _ t918 t921 _ _ t922 t925 t926 t929 _ _ t930 _ _ t933 t936 _ _ t937 t940 t941 true _ ?side1 ?side2 ?side3 ?side4 ?side5 ?side6 ?side7 ?side8 ?side9 ?side10 ?side11 ?side12 A13.out).mono ?_
 (case side1 => exact rc HO917)
 (case side2 => exact (Kd.R_reads' HO917.out).2.1)
 (case side3 => exact rc HO920)
 (case side4 => exact (Kd.R_reads' HO920.out).2.1)
 (case side5 => exact rc HO924)
 (case side6 => exact (Kd.R_reads' HO924.out).2.1)
 (case side7 => exact rc HO932)
 (case side8 => exact (Kd.R_reads' HO932.out).2.1)
 (case side9 => exact rc HO935)
 (case side10 => exact (Kd.R_reads' HO935.out).2.1)
 (case side11 => exact rc HO939)
 (case side12 => exact (Kd.R_reads' HO939.out).2.1)
 rintro e w38 ⟨rfl, hb⟩
 refine ⟨_, rfl, ?_⟩
 replace HO903 := kr HO903 hb
 replace HO906 := kr HO906 hb
 replace HO910 := kr HO910 hb
 replace HO917 := kr HO917 hb
 replace HO920 := kr HO920 hb
 replace HO924 := kr HO924 hb
 replace HO932 := kr HO932 hb
 replace HO935 := kr HO935 hb
 replace HO939 := kr HO939 hb
 replace BK898 := kb BK898 hb
 replace BK927 := kb BK927 hb
 replace HB := am (below_step bl hb)
 clear hb
 refine hK.out _ _ ⟨bc BK927, bc BK927, bc BK927, bc BK927, bc BK927, bc BK927, bc BK927, bc BK898, bc BK898, bc BK898, bc BK898, bc BK898, bc BK898, bc BK898⟩ (fun hHeld => ?_)
 clear hK K
 refine nm 25 ?_
 refine pu 4 26 [5] ?_
 refine done_ (by kernel_rfl) ?_
 try go_wp2
 go_ret
 exact ⟨rf, bl⟩

end Go.Proofs.YtkgdcfaogdmcgaaDoor.All
