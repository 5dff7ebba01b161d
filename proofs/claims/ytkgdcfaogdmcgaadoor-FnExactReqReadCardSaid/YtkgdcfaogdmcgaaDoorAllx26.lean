-- Written by a program of this session (wip/tools/hprint.py) out of the translation. Lean checks it.
import Derived.Test.YtkgdcfaogdmcgaaDoorAllx0
import Derived.Test.YtkgdcfaogdmcgaaDoorAllx1
import Derived.Test.YtkgdcfaogdmcgaaDoorAllx3
import Derived.Test.YtkgdcfaogdmcgaaDoorAllx4
import Derived.Test.YtkgdcfaogdmcgaaDoorAllx16
import Derived.Test.YtkgdcfaogdmcgaaDoorAllx17
import Derived.Test.YtkgdcfaogdmcgaaDoorAllx24
import Derived.Test.YtkgdcfaogdmcgaaDoorAllx25
namespace Go.Proofs.YtkgdcfaogdmcgaaDoor.All
open Go.RowKit Go.Proofs.YtkgdcfaogdmcgaaDoorW.PrintWords Go.Proofs.YtkgdcfaogdmcgaaDoorW.PrintLast Go.Proofs.YtkgdcfaogdmcgaaDoorW.PrintMore
attribute [local go_sem] max2_int min2_int max_two min_two max_three min_three max_four min_four   -- for this text's walks alone
set_option linter.unusedVariables false
set_option linter.unusedSimpArgs false

/-! ### laws_toResp: function 78 -/
def laws_toResp.f (k : Nat) (a0_0 : Int) (l0_1 : List (S121)) (a0_2 : ByteArray) : Option (Int × (List (S84)) × ByteArray) := (laws_toFieldS.f k l0_1).bind fun t834 => (some (a0_0, t834, a0_2))
theorem laws_toResp.mono : ∀ a0 a1 a2 k, LeO (laws_toResp.f k a0 a1 a2) (laws_toResp.f (k + 1) a0 a1 a2) := by
 intro a0 a1 a2 k
 unfold laws_toResp.f
 have m0 := @laws_toFieldS.mono
 exact mo
set_option maxHeartbeats 8000000 in
set_option maxRecDepth 100000 in
theorem laws_toResp.calls (k : Nat) (a0_0 : Int) (A0_1 : Option Addr) (c0_1 : Nat) (l0_1 : List (S121)) (a0_2 : ByteArray) (r1 : Int) (r2 : List (S84)) (r3 : ByteArray) (w : World) (hr0_1 : Kd.C k121 w A0_1 l0_1.length l0_1) (hc0_1 : l0_1.length ≤ c0_1) (h : laws_toResp.f k a0_0 l0_1 a0_2 = some (r1, r2, r3)) :
  Calls Tryd.prog 78 #[.agg #[.int .i64 a0_0, .slice A0_1 l0_1.length c0_1, .string a0_2]] w fun e w' => ∃ v1_ : Value, e = .returned (.agg #[.int .i64 r1, v1_, .string r3]) ∧ Kd.R k84 84 w' w.heap.size (fun _ => True) v1_ r2 ∧ Below w.heap.size w w' := by
 have hu49 := Tryd.underlying49
 have hu32 := Tryd.underlying32
 have HR0_1 := am hr0_1
 have HC0_1 := am hc0_1
 clear hr0_1 hc0_1
 have HB := am (Below.refl w.heap.size w)
 unfold laws_toResp.f at h
 have H := h
 clear h
 revert H
 refine ok1 fun t834 A2 H => ?_
 simp only [Option.some.injEq, Prod.mk.injEq] at H
 obtain ⟨rfl, rfl, rfl⟩ := H
 go_enter Tryd.func78, Tryd.ntmps78
 go_wp2_with (first | (refine bx 1 #[.int .i64 a0_0, .slice A0_1 l0_1.length c0_1, .string a0_2] 49 ?_; intro gb831 hg w3 hbox hb; have BK831 := am (hbox); have GW831 := am (sz hg : w.heap.size ≤ gb831); have GE831 := am (sz hg : w.heap.size ≤ gb831); replace HB := am (below_step bl hb); clear hb hbox hg) | (refine bx 2 #[.int .i64 0, .slice none 0 0, .string (⟨#[]⟩ : ByteArray)] 32 ?_; intro gb832 hg w4 hbox hb; have BK832 := am (hbox); have GW832 := am (sz hg : w.heap.size ≤ gb832); have GE832 := am (sz hg : w.heap.size ≤ gb832); replace HB := am (below_step bl hb); have NB831_832 := am (nl hg BK831 : gb831 ≠ gb832); have NB832_831 := am (ng hg BK831 : gb832 ≠ gb831); replace BK831 := kb BK831 hb; clear hb hbox hg) | (refine bx 3 #[.int .i64 0, .slice none 0 0, .string (⟨#[]⟩ : ByteArray)] 32 ?_; intro gb833 hg w5 hbox hb; have BK833 := am (hbox); have GW833 := am (sz hg : w.heap.size ≤ gb833); have GE833 := am (sz hg : w.heap.size ≤ gb833); replace HB := am (below_step bl hb); have NB831_833 := am (nl hg BK831 : gb831 ≠ gb833); have NB833_831 := am (ng hg BK831 : gb833 ≠ gb831); replace BK831 := kb BK831 hb; have NB832_833 := am (nl hg BK832 : gb832 ≠ gb833); have NB833_832 := am (ng hg BK832 : gb833 ≠ gb832); replace BK832 := kb BK832 hb; clear hb hbox hg; have hnb6 := NB831_832.out; have hnc6 := NB832_831.out; have hnb7 := NB831_833.out; have hnc7 := NB833_831.out; obtain ⟨z8_0, y8_0, z8_1, y8_1, z8_2, y8_2⟩ := cl3 BK831; have hnb9 := NB833_832.out; have hnc9 := NB832_833.out; obtain ⟨z10_0, y10_0, z10_1, y10_1, z10_2, y10_2⟩ := cl3 BK833) | (refine gl 9 Tryd.func43 #[.slice A0_1 l0_1.length c0_1] ?_; (with_reducible refine (laws_toFieldS.calls k _ _ l0_1 t834 _ ?side1 ?side2 A2.out).mono ?_); (case side1 => exact Kd.C_below HR0_1.out bl); (case side2 => exact HC0_1.out); rintro e w11 ⟨v835, rfl, ho0, hb⟩; refine ⟨_, rfl, ?_⟩; have HO836 := am (Kd.R_lower ho0 (below_size bl)); replace BK831 := kg1 BK831 NB831_833 hb; replace BK832 := kg1 BK832 NB832_833 hb; replace BK833 := am (blk_below (g := gb833) (o := .cells #[.int .i64 a0_0, .slice none 0 0, .string (⟨#[]⟩ : ByteArray)] 32 (0, 0)) (pt0 BK833) hb); replace HB := am (below_step bl hb); clear hb ho0; obtain ⟨Ao12, co12, eo12⟩ := Kd.R_slice HO836.out; subst eo12; obtain ⟨z13_0, y13_0, z13_1, y13_1, z13_2, y13_2⟩ := cl3 BK833; obtain ⟨z14_0, y14_0, z14_1, y14_1, z14_2, y14_2⟩ := cl3 BK831; obtain ⟨z15_0, y15_0, z15_1, y15_1, z15_2, y15_2⟩ := cl3 BK832))
 refine bodyPost_ret (results_cell_row rfl _ _ gb832 32 #[.int .i64 a0_0, .slice Ao12 t834.length co12, .string a0_2] (0, 0) _ rfl (pt1 BK832 NB832_833) Tryd.underlying32 rfl (by kernel_rfl)) rfl ?_
 exact ⟨_, rf, rg (Kd.R_types (Kd.R_types HO836.out BK833.out (by decide)) BK832.out (by decide)), bl⟩

/-! ### laws_toObj: function 29 -/
def laws_toObj.f (k : Nat) (a0_0 : ByteArray) (l0_1 : List ByteArray) (l0_2 : List ByteArray) (a0_3 : Int) (l0_4 : List (S121)) (a0_5 : ByteArray) (a0_6 : Int) : Option (ByteArray × List ByteArray × List ByteArray × Int × (List (S84)) × ByteArray × Int) := (laws_toStringS.f k l0_1).bind fun t840 => ((laws_toStringS.f k l0_2).bind fun t843 => ((laws_toResp.f k a0_3 l0_4 a0_5).bind fun bt846 => (some (a0_0, t840, t843, bt846.1, bt846.2.1, bt846.2.2, a0_6))))
theorem laws_toObj.mono : ∀ a0 a1 a2 a3 a4 a5 a6 k, LeO (laws_toObj.f k a0 a1 a2 a3 a4 a5 a6) (laws_toObj.f (k + 1) a0 a1 a2 a3 a4 a5 a6) := by
 intro a0 a1 a2 a3 a4 a5 a6 k
 unfold laws_toObj.f
 have m0 := @laws_toResp.mono
 have m1 := @laws_toStringS.mono
 exact mo
set_option maxHeartbeats 8000000 in
set_option maxRecDepth 100000 in
theorem laws_toObj.calls (k : Nat) (a0_0 : ByteArray) (A0_1 : Option Addr) (c0_1 : Nat) (l0_1 : List ByteArray) (A0_2 : Option Addr) (c0_2 : Nat) (l0_2 : List ByteArray) (a0_3 : Int) (A0_4 : Option Addr) (c0_4 : Nat) (l0_4 : List (S121)) (a0_5 : ByteArray) (a0_6 : Int) (r1 : ByteArray) (r2 : List ByteArray) (r3 : List ByteArray) (r4 : Int) (r5 : List (S84)) (r6 : ByteArray) (r7 : Int) (w : World) (hr0_1 : Kd.C Kd.string w A0_1 l0_1.length l0_1) (hc0_1 : l0_1.length ≤ c0_1) (hr0_2 : Kd.C Kd.string w A0_2 l0_2.length l0_2) (hc0_2 : l0_2.length ≤ c0_2) (hr0_4 : Kd.C k121 w A0_4 l0_4.length l0_4) (hc0_4 : l0_4.length ≤ c0_4) (h : laws_toObj.f k a0_0 l0_1 l0_2 a0_3 l0_4 a0_5 a0_6 = some (r1, r2, r3, r4, r5, r6, r7)) :
  Calls Tryd.prog 29 #[.agg #[.string a0_0, .slice A0_1 l0_1.length c0_1, .slice A0_2 l0_2.length c0_2, .int .i64 a0_3, .slice A0_4 l0_4.length c0_4, .string a0_5, .int .i64 a0_6]] w fun e w' => ∃ v1_ v2_ v4_ : Value, e = .returned (.agg #[.string r1, v1_, v2_, .int .i64 r4, v4_, .string r6, .int .i64 r7]) ∧ Kd.R Kd.string 9 w' w.heap.size (fun k_ => some k_ ≠ (v2_ : Value).ownBlock) v1_ r2 ∧ Kd.R Kd.string 9 w' w.heap.size (fun k_ => some k_ ≠ (v1_ : Value).ownBlock) v2_ r3 ∧ Kd.R k84 84 w' w.heap.size (fun _ => True) v4_ r5 ∧ Below w.heap.size w w' := by
 have hu51 := Tryd.underlying51
 have hu55 := Tryd.underlying55
 have hu49 := Tryd.underlying49
 have hu32 := Tryd.underlying32
 have HR0_1 := am hr0_1
 have HC0_1 := am hc0_1
 clear hr0_1 hc0_1
 have HR0_2 := am hr0_2
 have HC0_2 := am hc0_2
 clear hr0_2 hc0_2
 have HR0_4 := am hr0_4
 have HC0_4 := am hc0_4
 clear hr0_4 hc0_4
 have HB := am (Below.refl w.heap.size w)
 unfold laws_toObj.f at h
 have H := h
 clear h
 revert H
 refine ok1 fun t840 A2 H => ?_
 revert H
 refine ok1 fun t843 A3 H => ?_
 revert H
 refine ok3 fun t846 t847 t850 A4 H => ?_
 (try dsimp only at H)
 simp only [Option.some.injEq, Prod.mk.injEq] at H
 obtain ⟨rfl, rfl, rfl, rfl, rfl, rfl, rfl⟩ := H
 go_enter Tryd.func29, Tryd.ntmps29
 go_wp2_with (first | (refine bx 1 #[.string a0_0, .slice A0_1 l0_1.length c0_1, .slice A0_2 l0_2.length c0_2, .int .i64 a0_3, .slice A0_4 l0_4.length c0_4, .string a0_5, .int .i64 a0_6] 51 ?_; intro gb837 hg w5 hbox hb; have BK837 := am (hbox); have GW837 := am (sz hg : w.heap.size ≤ gb837); have GE837 := am (sz hg : w.heap.size ≤ gb837); replace HB := am (below_step bl hb); clear hb hbox hg) | (refine bx 2 #[.string (⟨#[]⟩ : ByteArray), .slice none 0 0, .slice none 0 0, .int .i64 0, .slice none 0 0, .string (⟨#[]⟩ : ByteArray), .int .i64 0] 55 ?_; intro gb838 hg w6 hbox hb; have BK838 := am (hbox); have GW838 := am (sz hg : w.heap.size ≤ gb838); have GE838 := am (sz hg : w.heap.size ≤ gb838); replace HB := am (below_step bl hb); have NB837_838 := am (nl hg BK837 : gb837 ≠ gb838); have NB838_837 := am (ng hg BK837 : gb838 ≠ gb837); replace BK837 := kb BK837 hb; clear hb hbox hg) | (refine bx 3 #[.string (⟨#[]⟩ : ByteArray), .slice none 0 0, .slice none 0 0, .int .i64 0, .slice none 0 0, .string (⟨#[]⟩ : ByteArray), .int .i64 0] 55 ?_; intro gb839 hg w7 hbox hb; have BK839 := am (hbox); have GW839 := am (sz hg : w.heap.size ≤ gb839); have GE839 := am (sz hg : w.heap.size ≤ gb839); replace HB := am (below_step bl hb); have NB837_839 := am (nl hg BK837 : gb837 ≠ gb839); have NB839_837 := am (ng hg BK837 : gb839 ≠ gb837); replace BK837 := kb BK837 hb; have NB838_839 := am (nl hg BK838 : gb838 ≠ gb839); have NB839_838 := am (ng hg BK838 : gb839 ≠ gb838); replace BK838 := kb BK838 hb; clear hb hbox hg; have hnb8 := NB837_838.out; have hnc8 := NB838_837.out; have hnb9 := NB837_839.out; have hnc9 := NB839_837.out; obtain ⟨z10_0, y10_0, z10_1, y10_1, z10_2, y10_2, z10_3, y10_3, z10_4, y10_4, z10_5, y10_5, z10_6, y10_6⟩ := cl7 BK837; have hnb11 := NB839_838.out; have hnc11 := NB838_839.out; obtain ⟨z12_0, y12_0, z12_1, y12_1, z12_2, y12_2, z12_3, y12_3, z12_4, y12_4, z12_5, y12_5, z12_6, y12_6⟩ := cl7 BK839) | (refine gl 9 Tryd.func77 #[.slice A0_1 l0_1.length c0_1] ?_; (with_reducible refine (laws_toStringS.calls k _ _ l0_1 t840 _ ?side1 ?side2 A2.out).mono ?_); (case side1 => exact Kd.C_below HR0_1.out bl); (case side2 => exact HC0_1.out); rintro e w13 ⟨v841, rfl, ho0, hb⟩; refine ⟨_, rfl, ?_⟩; have HO842 := am (Kd.R_lower ho0 (below_size bl)); replace BK837 := kg1 BK837 NB837_839 hb; replace BK838 := kg1 BK838 NB838_839 hb; replace BK839 := am (blk_below (g := gb839) (o := .cells #[.string a0_0, .slice none 0 0, .slice none 0 0, .int .i64 0, .slice none 0 0, .string (⟨#[]⟩ : ByteArray), .int .i64 0] 55 (0, 0)) (pt0 BK839) hb); replace HB := am (below_step bl hb); clear hb ho0; obtain ⟨Ao14, co14, eo14⟩ := Kd.R_slice HO842.out; subst eo14; obtain ⟨z15_0, y15_0, z15_1, y15_1, z15_2, y15_2, z15_3, y15_3, z15_4, y15_4, z15_5, y15_5, z15_6, y15_6⟩ := cl7 BK839; obtain ⟨z16_0, y16_0, z16_1, y16_1, z16_2, y16_2, z16_3, y16_3, z16_4, y16_4, z16_5, y16_5, z16_6, y16_6⟩ := cl7 BK837) | (refine gl 13 Tryd.func77 #[.slice A0_2 l0_2.length c0_2] ?_; (with_reducible refine (laws_toStringS.calls k _ _ l0_2 t843 _ ?side1 ?side2 A3.out).mono ?_); (case side1 => exact Kd.C_below HR0_2.out bl); (case side2 => exact HC0_2.out); rintro e w17 ⟨v844, rfl, ho0, hb⟩; refine ⟨_, rfl, ?_⟩; have n0_ := am (Kd.R_elder' (by (with_reducible repeat (first | apply Kd.R_alloc | apply Kd.R_drewN | apply Kd.R_drew)); exact (Kd.R_mono (Kd.R_far (p := ⟨gb839, 1, none⟩) (Kd.R_types HO842.out BK839.out (by decide)) (fun _ hk => hk.2) (.slice Ao14 t840.length co14)) (fun _ h_ => h_.1))) (Kd.R_base ho0) hb); have n1_ := am (Kd.R_lower (Kd.R_new' ho0 (Kd.R_lt (by (with_reducible repeat (first | apply Kd.R_alloc | apply Kd.R_drewN | apply Kd.R_drew)); exact (Kd.R_mono (Kd.R_far (p := ⟨gb839, 1, none⟩) (Kd.R_types HO842.out BK839.out (by decide)) (fun _ hk => hk.2) (.slice Ao14 t840.length co14)) (fun _ h_ => h_.1))))) (below_size bl)); have n2_ := kg1 BK837 NB837_839 hb; have n3_ := kg1 BK838 NB838_839 hb; have n4_ := am (blk_below (g := gb839) (o := .cells #[.string a0_0, .slice Ao14 t840.length co14, .slice none 0 0, .int .i64 0, .slice none 0 0, .string (⟨#[]⟩ : ByteArray), .int .i64 0] 55 (0, 0)) (pt0 BK839) hb); have n5_ := am (below_step bl hb); clear HO842; clear BK837; clear BK838; clear BK839; clear HB; have HO842 := n0_; have HO845 := n1_; have BK837 := n2_; have BK838 := n3_; have BK839 := n4_; have HB := n5_; clear n0_ n1_ n2_ n3_ n4_ n5_; clear hb ho0; obtain ⟨Ao18, co18, eo18⟩ := Kd.R_slice HO845.out; subst eo18; obtain ⟨z19_0, y19_0, z19_1, y19_1, z19_2, y19_2, z19_3, y19_3, z19_4, y19_4, z19_5, y19_5, z19_6, y19_6⟩ := cl7 BK839; obtain ⟨z20_0, y20_0, z20_1, y20_1, z20_2, y20_2, z20_3, y20_3, z20_4, y20_4, z20_5, y20_5, z20_6, y20_6⟩ := cl7 BK837) | (refine gl 17 Tryd.func78 #[.agg #[.int .i64 a0_3, .slice A0_4 l0_4.length c0_4, .string a0_5]] ?_; (with_reducible refine (laws_toResp.calls k a0_3 _ _ l0_4 a0_5 t846 t847 t850 _ ?side1 ?side2 A4.out).mono ?_); (case side1 => exact Kd.C_below HR0_4.out bl); (case side2 => exact HC0_4.out); rintro e w21 ⟨v848, rfl, ho0, hb⟩; refine ⟨_, rfl, ?_⟩; have n0_ := am (Kd.R_below (by (with_reducible repeat (first | apply Kd.R_alloc | apply Kd.R_drewN | apply Kd.R_drew)); exact (Kd.R_mono (Kd.R_far (p := ⟨gb839, 2, none⟩) (Kd.R_types HO842.out BK839.out (by decide)) (fun _ hk => hk.2) (.slice Ao18 t843.length co18)) (fun _ h_ => h_.1))) hb); have n1_ := am (Kd.R_below (by (with_reducible repeat (first | apply Kd.R_alloc | apply Kd.R_drewN | apply Kd.R_drew)); exact (Kd.R_mono (Kd.R_far (p := ⟨gb839, 2, none⟩) (Kd.R_types HO845.out BK839.out (by decide)) (fun _ hk => hk.2) (.slice Ao18 t843.length co18)) (fun _ h_ => h_.1))) hb); have n2_ := am (Kd.R_lower ho0 (below_size bl)); have n3_ := kg1 BK837 NB837_839 hb; have n4_ := kg1 BK838 NB838_839 hb; have n5_ := am (blk_below (g := gb839) (o := .cells #[.string a0_0, .slice Ao14 t840.length co14, .slice Ao18 t843.length co18, .int .i64 0, .slice none 0 0, .string (⟨#[]⟩ : ByteArray), .int .i64 0] 55 (0, 0)) (pt0 BK839) hb); have n6_ := am (below_step bl hb); clear HO842; clear HO845; clear BK837; clear BK838; clear BK839; clear HB; have HO842 := n0_; have HO845 := n1_; have HO849 := n2_; have BK837 := n3_; have BK838 := n4_; have BK839 := n5_; have HB := n6_; clear n0_ n1_ n2_ n3_ n4_ n5_ n6_; clear hb ho0; obtain ⟨z22_0, y22_0, z22_1, y22_1, z22_2, y22_2, z22_3, y22_3, z22_4, y22_4, z22_5, y22_5, z22_6, y22_6⟩ := cl7 BK839; obtain ⟨Ao23, co23, eo23⟩ := Kd.R_slice HO849.out; subst eo23; obtain ⟨z24_0, y24_0, z24_1, y24_1, z24_2, y24_2, z24_3, y24_3, z24_4, y24_4, z24_5, y24_5, z24_6, y24_6⟩ := cl7 BK837; obtain ⟨z25_0, y25_0, z25_1, y25_1, z25_2, y25_2, z25_3, y25_3, z25_4, y25_4, z25_5, y25_5, z25_6, y25_6⟩ := cl7 BK838))
 refine bodyPost_ret (results_cell_row rfl _ _ gb838 55 #[.string a0_0, .slice Ao14 t840.length co14, .slice Ao18 t843.length co18, .int .i64 t846, .slice Ao23 t847.length co23, .string t850, .int .i64 a0_6] (0, 0) _ rfl (pt1 BK838 NB838_839) Tryd.underlying55 rfl (by kernel_rfl)) rfl ?_
 exact ⟨_, _, _, rf, rg (Kd.R_types (Kd.R_types HO842.out BK839.out (by decide)) BK838.out (by decide)), rg (Kd.R_types (Kd.R_types HO845.out BK839.out (by decide)) BK838.out (by decide)), rg (Kd.R_types (Kd.R_types HO849.out BK839.out (by decide)) BK838.out (by decide)), bl⟩

/-! ### impl_isTime: function 80 -/
def impl_isTime.f (a0 : Int) : Option (Bool) := (impl_inRange.f a0 0 1000000).bind fun t851 => (some t851)
set_option maxHeartbeats 8000000 in
set_option maxRecDepth 100000 in
theorem impl_isTime.calls (a0 : Int) (r : Bool) (w : World) (h : impl_isTime.f a0 = some r) :
  Calls Tryd.prog 80 #[.int .i64 a0] w fun e w' => e = .returned (.bool r) ∧ Drawn0 w w' := by
 unfold impl_isTime.f at h
 have H := h
 clear h
 revert H
 refine ok1 fun t851 A2 H => ?_
 obtain rfl := Option.some.inj H
 go_enter Tryd.func80, Tryd.ntmps80
 go_wp2_with (first | (refine gl 4 Tryd.func60 #[.int .i64 a0, .int .i64 0, .int .i64 1000000] ?_; (with_reducible refine (impl_inRange.calls a0 0 1000000 t851 _ A2.out).mono ?_); rintro e w' ⟨rfl, ⟨nd, rfl⟩⟩; refine ⟨_, rfl, ?_⟩))
 go_ret
 exact ⟨rs, dr⟩

/-! ### impl_namesOk: function 81 -/
def impl_namesOk.l0 : Nat → List ByteArray → List ByteArray → Int → Int → Option (Bool)
 | 0, _, _, _, _ => none
 | k + 1, x0, x5, x6, x7 => if x7 < x6 then (if 0 ≤ x7 then (if x7 < (x5.length : Int) then ((impl_TokenOk.f k (rdOf ByteArray.empty x5 x7)).bind fun t853 => (if t853 = true then (impl_namesOk.l0 k x0 x5 x6 (wrap64 (x7 + 1))) else (some false))) else (none)) else (none)) else (some (decide ((x0.length : Int) ≤ 4)))
def impl_namesOk.f (k : Nat) (l0 : List ByteArray) : Option (Bool) := impl_namesOk.l0 k l0 l0 (l0.length : Int) 0
theorem impl_namesOk.mono_l : ∀ k, (∀ y0 y1 y2 y3, LeO (impl_namesOk.l0 k y0 y1 y2 y3) (impl_namesOk.l0 (k + 1) y0 y1 y2 y3))
 | 0 => fun _ _ _ _ r h => by simp [impl_namesOk.l0] at h
 | k + 1 => by
  have ih0 := impl_namesOk.mono_l k
  ·intro y0 y1 y2 y3
   unfold impl_namesOk.l0
   have m0 := @impl_TokenOk.mono
   exact mo
theorem impl_namesOk.mono : ∀ a0 k, LeO (impl_namesOk.f k a0) (impl_namesOk.f (k + 1) a0) := by
 intro a0 k
 have ih0 := impl_namesOk.mono_l k
 unfold impl_namesOk.f
 have m0 := @impl_TokenOk.mono
 exact mo
set_option maxHeartbeats 8000000 in
set_option maxRecDepth 100000 in
theorem impl_namesOk.calls (k : Nat) (A0 : Option Addr) (c0 : Nat) (l0 : List ByteArray) (r : Bool) (w : World) (hr0 : Kd.C Kd.string w A0 l0.length l0) (hc0 : l0.length ≤ c0) (h : impl_namesOk.f k l0 = some r) :
  Calls Tryd.prog 81 #[.slice A0 l0.length c0] w fun e w' => e = .returned (.bool r) ∧ Drawn0 w w' := by
 have HR0 := am hr0
 have HC0 := am hc0
 clear hr0 hc0
 unfold impl_namesOk.f at h
 have H := h
 clear h
 have H' := am H
 clear H
 go_enter Tryd.func81, Tryd.ntmps81
 go_wp2
 (try simp only [Act.put, List.setIfInBounds_toArray, List.set_cons_zero, List.set_cons_succ])
 go_loopg [7] k (fun kq v7 w' => ∃ (x7_1 : Int), v7 = .int .i64 x7_1 ∧ Aside0 (impl_namesOk.l0 kq l0 l0 (l0.length : Int) x7_1 = some r) ∧ Aside0 (kq ≤ k) ∧ Drawn0 w w')
 case atStart => exact ⟨(0), rs, H', ⟨Nat.le_refl _⟩, dr⟩
 case round =>
  clear H'
  obtain ⟨x7_1, rfl, HA, HK1, ⟨m1, rfl⟩⟩ := hrel
  cases gk with
  | zero => exact absurd HA.out (by simp [impl_namesOk.l0])
  | succ k1 =>
   have H := HA.out
   clear HA
   simp only [impl_namesOk.l0] at H
   by_cases c2 : x7_1 < (l0.length : Int)
   rotate_left
   ·rw [if_neg c2] at H
    have c2b0 := decide_eq_false c2
    clear c2
    obtain rfl := Option.some.inj H
    go_wp2
    go_ret
    exact ⟨rs, dr⟩
   rw [if_pos c2] at H
   have c2b0 := decide_eq_true c2
   clear c2
   revert H
   refine ifn fun c3 H => ?_
   have c3b0 := decide_eq_true c3
   clear c3
   revert H
   refine ifn fun c4 H => ?_
   have c4b0 := decide_eq_true c4
   clear c4
   revert H
   refine ok1 fun t853 A5 H => ?_
   by_cases c6 : t853 = true
   rotate_left
   ·replace c6 := Bool.eq_false_iff.mpr c6
    subst c6
    rw [if_neg (show ¬ (false = true) by decide)] at H
    obtain rfl := Option.some.inj H
    have p852 : 0 ≤ (x7_1 : Int) := od
    have q852 : x7_1 < (l0.length : Int) := od
    obtain ⟨ad852, e852, hx852_0⟩ := Kd.at_string HR0.out x7_1 p852 q852
    cases e852
    replace p852 := eq_true p852
    replace q852 := eq_true q852
    go_wp2_with (first | (refine gl 12 Tryd.func116 #[.string (rdOf ByteArray.empty l0 x7_1)] ?_; (with_reducible refine (impl_TokenOk.calls k1 (rdOf ByteArray.empty l0 x7_1) false _ A5.out).mono ?_); rintro e w' ⟨rfl, ⟨nd, rfl⟩⟩; refine ⟨_, rfl, ?_⟩))
    go_ret
    exact ⟨rs, dr⟩
   subst c6
   rw [if_pos rfl] at H
   have H' := am H
   clear H
   have p852 : 0 ≤ (x7_1 : Int) := od
   have q852 : x7_1 < (l0.length : Int) := od
   obtain ⟨ad852, e852, hx852_0⟩ := Kd.at_string HR0.out x7_1 p852 q852
   cases e852
   replace p852 := eq_true p852
   replace q852 := eq_true q852
   go_wp2_with (first | (refine gl 12 Tryd.func116 #[.string (rdOf ByteArray.empty l0 x7_1)] ?_; (with_reducible refine (impl_TokenOk.calls k1 (rdOf ByteArray.empty l0 x7_1) true _ A5.out).mono ?_); rintro e w' ⟨rfl, ⟨nd, rfl⟩⟩; refine ⟨_, rfl, ?_⟩))
   go_roundg k1
   case measure => have := HK1.out; omega
   case rel => exact ⟨(wrap64 (x7_1 + 1)), rs, H', ⟨by have := HK1.out; omega⟩, dr⟩

/-! ### impl_RespOk: function 82 -/
def impl_RespOk.f (k : Nat) (a0_0 : Int) (l0_1 : List (S84)) (a0_2 : ByteArray) : Option (Bool) := (impl_inRange.f a0_0 100 599).bind fun t855 => (if t855 = true then (if (a0_2.size : Int) ≤ 120 then ((impl_FieldsOk.f k l0_1).bind fun t856 => (some t856)) else (some false)) else (some false))
theorem impl_RespOk.mono : ∀ a0 a1 a2 k, LeO (impl_RespOk.f k a0 a1 a2) (impl_RespOk.f (k + 1) a0 a1 a2) := by
 intro a0 a1 a2 k
 unfold impl_RespOk.f
 have m0 := @impl_FieldsOk.mono
 exact mo
set_option maxHeartbeats 8000000 in
set_option maxRecDepth 100000 in
theorem impl_RespOk.calls (k : Nat) (a0_0 : Int) (A0_1 : Option Addr) (c0_1 : Nat) (l0_1 : List (S84)) (a0_2 : ByteArray) (r : Bool) (w : World) (hr0_1 : Kd.C k84 w A0_1 l0_1.length l0_1) (hc0_1 : l0_1.length ≤ c0_1) (h : impl_RespOk.f k a0_0 l0_1 a0_2 = some r) :
  Calls Tryd.prog 82 #[.agg #[.int .i64 a0_0, .slice A0_1 l0_1.length c0_1, .string a0_2]] w fun e w' => e = .returned (.bool r) ∧ Below w.heap.size w w' := by
 have hu32 := Tryd.underlying32
 have HR0_1 := am hr0_1
 have HC0_1 := am hc0_1
 clear hr0_1 hc0_1
 have HB := am (Below.refl w.heap.size w)
 unfold impl_RespOk.f at h
 have H := h
 clear h
 revert H
 refine ok1 fun t855 A2 H => ?_
 by_cases c3 : t855 = true
 rotate_left
 ·replace c3 := Bool.eq_false_iff.mpr c3
  subst c3
  rw [if_neg (show ¬ (false = true) by decide)] at H
  obtain rfl := Option.some.inj H
  go_enter Tryd.func82, Tryd.ntmps82
  go_wp2_with (first | ((with_reducible refine gate_dst (N := 1) rfl ?_); (try (refine gate_guard (by rfl) ?_; dsimp only)); refine box_event ?hg (N := 1) ?hd (cs := #[.int .i64 a0_0, .slice A0_1 l0_1.length c0_1, .string a0_2]) (t := 32) ?hr ?_; (case hd => rfl); (case hg => rfl); (case hr => first | (go_simp; done) | (go_simp; rfl)); intro gb854 hg w11 hbox hb; have BK854 := am (hbox); have GW854 := am (sz hg : w.heap.size ≤ gb854); have GE854 := am (sz hg : w.heap.size ≤ gb854); replace HB := am (below_step bl hb); clear hb hbox hg; obtain ⟨z12_0, y12_0, z12_1, y12_1, z12_2, y12_2⟩ := cl3 BK854) | (refine gl 5 Tryd.func60 #[.int .i64 a0_0, .int .i64 100, .int .i64 599] ?_; (with_reducible refine (impl_inRange.calls a0_0 100 599 false _ A2.out).mono ?_); rintro e w' ⟨rfl, ⟨nd, rfl⟩⟩; refine ⟨_, rfl, ?_⟩))
  go_ret
  exact ⟨rf, bl⟩
 subst c3
 rw [if_pos rfl] at H
 by_cases c4 : (a0_2.size : Int) ≤ 120
 rotate_left
 ·rw [if_neg c4] at H
  have c4b0 := decide_eq_false c4
  have c4b1 : decide (a0_2.size ≤ 120) = false := decide_eq_false (by omega)
  clear c4
  obtain rfl := Option.some.inj H
  go_enter Tryd.func82, Tryd.ntmps82
  go_wp2_with (first | ((with_reducible refine gate_dst (N := 1) rfl ?_); (try (refine gate_guard (by rfl) ?_; dsimp only)); refine box_event ?hg (N := 1) ?hd (cs := #[.int .i64 a0_0, .slice A0_1 l0_1.length c0_1, .string a0_2]) (t := 32) ?hr ?_; (case hd => rfl); (case hg => rfl); (case hr => first | (go_simp; done) | (go_simp; rfl)); intro gb854 hg w9 hbox hb; have BK854 := am (hbox); have GW854 := am (sz hg : w.heap.size ≤ gb854); have GE854 := am (sz hg : w.heap.size ≤ gb854); replace HB := am (below_step bl hb); clear hb hbox hg; obtain ⟨z10_0, y10_0, z10_1, y10_1, z10_2, y10_2⟩ := cl3 BK854) | (refine gl 5 Tryd.func60 #[.int .i64 a0_0, .int .i64 100, .int .i64 599] ?_; (with_reducible refine (impl_inRange.calls a0_0 100 599 true _ A2.out).mono ?_); rintro e w' ⟨rfl, ⟨nd, rfl⟩⟩; refine ⟨_, rfl, ?_⟩))
  go_ret
  exact ⟨rf, bl⟩
 rw [if_pos c4] at H
 have c4b0 := decide_eq_true c4
 have c4b1 : decide (a0_2.size ≤ 120) = true := decide_eq_true (by omega)
 clear c4
 revert H
 refine ok1 fun t856 A5 H => ?_
 obtain rfl := Option.some.inj H
 go_enter Tryd.func82, Tryd.ntmps82
 go_wp2_with (first | ((with_reducible refine gate_dst (N := 1) rfl ?_); (try (refine gate_guard (by rfl) ?_; dsimp only)); refine box_event ?hg (N := 1) ?hd (cs := #[.int .i64 a0_0, .slice A0_1 l0_1.length c0_1, .string a0_2]) (t := 32) ?hr ?_; (case hd => rfl); (case hg => rfl); (case hr => first | (go_simp; done) | (go_simp; rfl)); intro gb854 hg w6 hbox hb; have BK854 := am (hbox); have GW854 := am (sz hg : w.heap.size ≤ gb854); have GE854 := am (sz hg : w.heap.size ≤ gb854); replace HB := am (below_step bl hb); clear hb hbox hg; obtain ⟨z7_0, y7_0, z7_1, y7_1, z7_2, y7_2⟩ := cl3 BK854) | (refine gl 5 Tryd.func60 #[.int .i64 a0_0, .int .i64 100, .int .i64 599] ?_; (with_reducible refine (impl_inRange.calls a0_0 100 599 true _ A2.out).mono ?_); rintro e w' ⟨rfl, ⟨nd, rfl⟩⟩; refine ⟨_, rfl, ?_⟩) | (go_at_call 62; (with_reducible refine (impl_FieldsOk.calls k _ _ l0_1 t856 _ ?side1 ?side2 A5.out).mono ?_); (case side1 => repeat (first | exact (Kd.C_below HR0_1.out bl) | (with_reducible refine Kd.C_alloc ?_ _) | (with_reducible refine Kd.C_drewN ?_ _) | (with_reducible refine Kd.C_drew ?_))); (case side2 => exact HC0_1.out); rintro e w8 ⟨rfl, hb⟩; replace BK854 := kb BK854 hb; replace HB := am (below_step bl hb); clear hb))
 go_ret
 exact ⟨rf, bl⟩

/-! ### slices_Equal_string_string: function 83 -/
def slices_Equal_string_string.l0 : Nat → List ByteArray → List ByteArray → Int → Int → Option (Bool)
 | 0, _, _, _, _ => none
 | k + 1, x0, x1, x12, x13 => if x13 < x12 then (if 0 ≤ x13 then (if x13 < (x0.length : Int) then (if x13 < (x1.length : Int) then (if (rdOf ByteArray.empty x0 x13).toList = (rdOf ByteArray.empty x1 x13).toList then (slices_Equal_string_string.l0 k x0 x1 x12 (wrap64 (x13 + 1))) else (some false)) else (none)) else (none)) else (none)) else (some true)
def slices_Equal_string_string.f (k : Nat) (l0 : List ByteArray) (l1 : List ByteArray) : Option (Bool) := if (l0.length : Int) = (l1.length : Int) then (slices_Equal_string_string.l0 k l0 l1 (l0.length : Int) 0) else (some false)
theorem slices_Equal_string_string.mono_l : ∀ k, (∀ y0 y1 y2 y3, LeO (slices_Equal_string_string.l0 k y0 y1 y2 y3) (slices_Equal_string_string.l0 (k + 1) y0 y1 y2 y3))
 | 0 => fun _ _ _ _ r h => by simp [slices_Equal_string_string.l0] at h
 | k + 1 => by
  have ih0 := slices_Equal_string_string.mono_l k
  ·intro y0 y1 y2 y3
   unfold slices_Equal_string_string.l0
   exact mo
theorem slices_Equal_string_string.mono : ∀ a0 a1 k, LeO (slices_Equal_string_string.f k a0 a1) (slices_Equal_string_string.f (k + 1) a0 a1) := by
 intro a0 a1 k
 have ih0 := slices_Equal_string_string.mono_l k
 unfold slices_Equal_string_string.f
 exact mo
set_option maxHeartbeats 8000000 in
set_option maxRecDepth 100000 in
theorem slices_Equal_string_string.calls (k : Nat) (A0 : Option Addr) (c0 : Nat) (l0 : List ByteArray) (A1 : Option Addr) (c1 : Nat) (l1 : List ByteArray) (r : Bool) (w : World) (hr0 : Kd.C Kd.string w A0 l0.length l0) (hc0 : l0.length ≤ c0) (hr1 : Kd.C Kd.string w A1 l1.length l1) (hc1 : l1.length ≤ c1) (h : slices_Equal_string_string.f k l0 l1 = some r) :
  Calls Tryd.prog 83 #[.slice A0 l0.length c0, .slice A1 l1.length c1] w fun e w' => e = .returned (.bool r) ∧ Drawn0 w w' := by
 have HR0 := am hr0
 have HC0 := am hc0
 clear hr0 hc0
 have HR1 := am hr1
 have HC1 := am hc1
 clear hr1 hc1
 unfold slices_Equal_string_string.f at h
 have H := h
 clear h
 by_cases c3 : (l0.length : Int) = (l1.length : Int)
 rotate_left
 ·rw [if_neg c3] at H
  have c3b0 : ((l0.length : Int) == (l1.length : Int)) = false := beq_eq_false_iff_ne.mpr c3
  have c3b1 : ((l0.length : Int) != (l1.length : Int)) = true := bne_iff_ne.mpr c3
  have c3b2 : (l0.length == l1.length) = false := by first | simpa using c3 | (simp at c3 ⊢; omega)
  obtain rfl := Option.some.inj H
  go_enter Tryd.func83, Tryd.ntmps83
  go_wp2
  repeat (go_quiet (fail); try go_wp2)
  go_ret
  exact ⟨rs, dr⟩
 rw [if_pos c3] at H
 have c3b0 : ((l0.length : Int) == (l1.length : Int)) = true := beq_iff_eq.mpr c3
 have c3b1 : ((l0.length : Int) != (l1.length : Int)) = false := bne_eq_false_iff_eq.mpr c3
 have c3b2 : (l0.length == l1.length) = true := by first | simpa using c3 | (simp at c3 ⊢; omega)
 clear c3
 have H' := am H
 clear H
 go_enter Tryd.func83, Tryd.ntmps83
 go_wp2
 repeat (go_quiet (fail); try go_wp2)
 (try simp only [Act.put, List.setIfInBounds_toArray, List.set_cons_zero, List.set_cons_succ])
 go_loopg [13] k (fun kq v13 w' => ∃ (x13_1 : Int), v13 = .int .i64 x13_1 ∧ Aside0 (slices_Equal_string_string.l0 kq l0 l1 (l0.length : Int) x13_1 = some r) ∧ Aside0 (kq ≤ k) ∧ Drawn0 w w')
 case atStart => exact ⟨(0), rs, H', ⟨Nat.le_refl _⟩, dr⟩
 case round =>
  clear H'
  try clear c1
  try clear p2
  try clear c3
  try clear c3b0
  try clear c3b1
  try clear c3b2
  obtain ⟨x13_1, rfl, HA, HK1, ⟨m1, rfl⟩⟩ := hrel
  cases gk with
  | zero => exact absurd HA.out (by simp [slices_Equal_string_string.l0])
  | succ k1 =>
   have H := HA.out
   clear HA
   simp only [slices_Equal_string_string.l0] at H
   by_cases c4 : x13_1 < (l0.length : Int)
   rotate_left
   ·rw [if_neg c4] at H
    have c4b0 := decide_eq_false c4
    clear c4
    obtain rfl := Option.some.inj H
    go_wp2
    repeat (go_quiet (fail); try go_wp2)
    go_ret
    exact ⟨rs, dr⟩
   rw [if_pos c4] at H
   have c4b0 := decide_eq_true c4
   clear c4
   revert H
   refine ifn fun c5 H => ?_
   have c5b0 := decide_eq_true c5
   clear c5
   revert H
   refine ifn fun c6 H => ?_
   have c6b0 := decide_eq_true c6
   clear c6
   revert H
   refine ifn fun c7 H => ?_
   have c7b0 := decide_eq_true c7
   clear c7
   by_cases c8 : (rdOf ByteArray.empty l0 x13_1).toList = (rdOf ByteArray.empty l1 x13_1).toList
   rotate_left
   ·rw [if_neg c8] at H
    have c8b0 : ((rdOf ByteArray.empty l0 x13_1).toList == (rdOf ByteArray.empty l1 x13_1).toList) = false := beq_eq_false_iff_ne.mpr c8
    have c8b1 : ((rdOf ByteArray.empty l0 x13_1).toList != (rdOf ByteArray.empty l1 x13_1).toList) = true := bne_iff_ne.mpr c8
    obtain rfl := Option.some.inj H
    have p857 : 0 ≤ (x13_1 : Int) := od
    have q857 : x13_1 < (l0.length : Int) := od
    obtain ⟨ad857, e857, hx857_0⟩ := Kd.at_string HR0.out x13_1 p857 q857
    cases e857
    replace p857 := eq_true p857
    replace q857 := eq_true q857
    have p858 : 0 ≤ (x13_1 : Int) := od
    have q858 : x13_1 < (l1.length : Int) := od
    obtain ⟨ad858, e858, hx858_0⟩ := Kd.at_string HR1.out x13_1 p858 q858
    cases e858
    replace p858 := eq_true p858
    replace q858 := eq_true q858
    go_wp2
    repeat (go_quiet (fail); try go_wp2)
    go_ret
    exact ⟨rs, dr⟩
   rw [if_pos c8] at H
   have c8b0 : ((rdOf ByteArray.empty l0 x13_1).toList == (rdOf ByteArray.empty l1 x13_1).toList) = true := beq_iff_eq.mpr c8
   have c8b1 : ((rdOf ByteArray.empty l0 x13_1).toList != (rdOf ByteArray.empty l1 x13_1).toList) = false := bne_eq_false_iff_eq.mpr c8
   clear c8
   have H' := am H
   clear H
   have p857 : 0 ≤ (x13_1 : Int) := od
   have q857 : x13_1 < (l0.length : Int) := od
   obtain ⟨ad857, e857, hx857_0⟩ := Kd.at_string HR0.out x13_1 p857 q857
   cases e857
   replace p857 := eq_true p857
   replace q857 := eq_true q857
   have p858 : 0 ≤ (x13_1 : Int) := od
   have q858 : x13_1 < (l1.length : Int) := od
   obtain ⟨ad858, e858, hx858_0⟩ := Kd.at_string HR1.out x13_1 p858 q858
   cases e858
   replace p858 := eq_true p858
   replace q858 := eq_true q858
   go_wp2
   repeat (go_quiet (fail); try go_wp2)
   go_roundg k1
   case measure => have := HK1.out; omega
   case rel => exact ⟨(wrap64 (x13_1 + 1)), rs, H', ⟨by have := HK1.out; omega⟩, dr⟩

/-! ### impl_VaryOf: function 84 -/
theorem u84HB {p : Prop} (h : p := by repeat (first | (with_reducible first | exact HB.out | apply below_alloc | apply pw_below_drewN | apply below_drew1) | exact HB.out)) : p := h
def impl_VaryOf.l0 : Nat → List ByteArray → List ByteArray → Int → Int → Option (List ByteArray)
 | 0, _, _, _, _ => none
 | k + 1, x5, x14, x15, x16 => if x16 < x15 then (if 0 ≤ x16 then (if x16 < (x14.length : Int) then ((impl_Lower.f (rdOf ByteArray.empty x14 x16)).bind fun t873 => (if x5.length < 8796093022208 then (impl_VaryOf.l0 k (x5 ++ [t873]) x14 x15 (wrap64 (x16 + 1))) else (none))) else (none)) else (none)) else (some x5)
def impl_VaryOf.f (k : Nat) (l0 : List (S84)) : Option (List ByteArray) := (impl_Get.f l0 (⟨#[118, 97, 114, 121]⟩ : ByteArray)).bind fun bt867 => ((impl_Split.f k bt867.1).bind fun t869 => (impl_VaryOf.l0 k ([] : List ByteArray) t869 (t869.length : Int) 0))
theorem impl_VaryOf.mono_l : ∀ k, (∀ y0 y1 y2 y3, LeO (impl_VaryOf.l0 k y0 y1 y2 y3) (impl_VaryOf.l0 (k + 1) y0 y1 y2 y3))
 | 0 => fun _ _ _ _ r h => by simp [impl_VaryOf.l0] at h
 | k + 1 => by
  have ih0 := impl_VaryOf.mono_l k
  ·intro y0 y1 y2 y3
   unfold impl_VaryOf.l0
   have m0 := @impl_Split.mono
   exact mo
theorem impl_VaryOf.mono : ∀ a0 k, LeO (impl_VaryOf.f k a0) (impl_VaryOf.f (k + 1) a0) := by
 intro a0 k
 have ih0 := impl_VaryOf.mono_l k
 unfold impl_VaryOf.f
 have m0 := @impl_Split.mono
 exact mo
set_option maxHeartbeats 8000000 in
set_option maxRecDepth 100000 in
theorem impl_VaryOf.calls (k : Nat) (A0 : Option Addr) (c0 : Nat) (l0 : List (S84)) (r : List ByteArray) (w : World) (hGM : GLOBM w) (hr0 : Kd.C k84 w A0 l0.length l0) (hc0 : l0.length ≤ c0) (h : impl_VaryOf.f k l0 = some r) :
  Calls Tryd.prog 84 #[.slice A0 l0.length c0] w fun e w' => ∃ v0_ : Value, e = .returned (v0_) ∧ Kd.R Kd.string 9 w' w.heap.size (fun _ => True) v0_ r ∧ Below w.heap.size w w' := by
 have HR0 := am hr0
 have HC0 := am hc0
 clear hr0 hc0
 have HGM := am hGM
 clear hGM
 have HB := am (Below.refl w.heap.size w)
 unfold impl_VaryOf.f at h
 have H := h
 clear h
 revert H
 refine ok2 fun t867 t868 A2 H => ?_
 (try dsimp only at H)
 revert H
 refine ok1 fun t869 A3 H => ?_
 have H' := am H
 clear H
 go_enter Tryd.func84, Tryd.ntmps84
 go_wp2_with (first | (refine gl 10 Tryd.func20 #[.slice A0 l0.length c0, .string (⟨#[118, 97, 114, 121]⟩ : ByteArray)] ?_; (with_reducible refine (impl_Get.calls _ _ l0 (⟨#[118, 97, 114, 121]⟩ : ByteArray) t867 t868 _ ?side1 ?side2 A2.out).mono ?_); (case side1 => exact cc HR0); (case side2 => exact HC0.out); rintro e w4 ⟨rfl, hb⟩; refine ⟨_, rfl, ?_⟩; replace HB := am (below_step bl hb); clear hb) | (refine gl 14 Tryd.func125 #[.string t867] ?_; (with_reducible refine (impl_Split.calls k t867 t869 _ ?side1 A3.out).mono ?_); (case side1 => exact GLOBM.below HGM.out bl); rintro e w5 ⟨v870, rfl, ho0, hb⟩; refine ⟨_, rfl, ?_⟩; have HO871 := am (Kd.R_lower ho0 (below_size bl)); replace HB := am (below_step bl hb); clear hb ho0; obtain ⟨Ao6, co6, eo6⟩ := Kd.R_slice HO871.out; subst eo6))
 (try simp only [Act.put, List.setIfInBounds_toArray, List.set_cons_zero, List.set_cons_succ])
 go_loopg [5, 16] k (fun kq v5 v16 w' => ∃ (x5_1 : List ByteArray) (x16_1 : Int), v16 = .int .i64 x16_1 ∧ Aside0 (impl_VaryOf.l0 kq x5_1 t869 (t869.length : Int) x16_1 = some r) ∧ Aside0 (kq ≤ k) ∧ Aside0 (Kd.R Kd.string 9 w' w.heap.size (fun k_ => some k_ ≠ ((.slice Ao6 t869.length co6) : Value).ownBlock) v5 x5_1) ∧ Aside0 (Kd.R Kd.string 9 w' w.heap.size (fun k_ => some k_ ≠ (v5 : Value).ownBlock) (.slice Ao6 t869.length co6) t869) ∧ Aside0 (Below w.heap.size w w'))
 case atStart => exact ⟨(([] : List ByteArray)), (0), rs, H', ⟨Nat.le_refl _⟩, ⟨by first | exact Kd.R_nil _ _ _ _ _ | exact Kd.N_nil _ _ _ _ _ | exact Kd.V_nil _ _ _ _ _ | exact Kd.Q_nil _ _ _ _ _ | exact Kd.S_nil _ _ _ _ _⟩, ⟨by (with_reducible repeat (first | apply Kd.R_alloc | apply Kd.R_drewN | apply Kd.R_drew)); exact Kd.R_mono HO871.out (fun _ hk => (by simp [Value.ownBlock]))⟩, ⟨u84HB⟩⟩
 case round =>
  clear H'
  try clear c1
  try clear c2
  try clear p2
  obtain ⟨x5_1, x16_1, rfl, HA, HK1, HO_5, HO_14, HB⟩ := hrel
  cases gk with
  | zero => exact absurd HA.out (by simp [impl_VaryOf.l0])
  | succ k1 =>
   have H := HA.out
   clear HA
   simp only [impl_VaryOf.l0] at H
   by_cases c7 : x16_1 < (t869.length : Int)
   rotate_left
   ·rw [if_neg c7] at H
    have c7b0 := decide_eq_false c7
    clear c7
    obtain rfl := Option.some.inj H
    go_wp2
    go_ret
    exact ⟨_, rf, by (with_reducible repeat (first | apply Kd.R_alloc | apply Kd.R_drewN | apply Kd.R_drew)); exact Kd.R_mono HO_5.out (fun _ hk => trivial), bl⟩
   rw [if_pos c7] at H
   have c7b0 := decide_eq_true c7
   clear c7
   revert H
   refine ifn fun c8 H => ?_
   have c8b0 := decide_eq_true c8
   clear c8
   revert H
   refine ifn fun c9 H => ?_
   have c9b0 := decide_eq_true c9
   clear c9
   revert H
   refine ok1 fun t873 A10 H => ?_
   revert H
   refine ifn fun c11 H => ?_
   have LMc11 := am c11
   clear c11
   obtain ⟨y874, hy874⟩ : ∃ y_ : List ByteArray, y_ = (x5_1 ++ [t873]) := ⟨_, rfl⟩
   replace H : (impl_VaryOf.l0 k1 y874 t869 (t869.length : Int) (wrap64 (x16_1 + 1))) = some r := by first | (rw [hy874]; with_reducible exact H) | (have H2_ := (Option.bind_some _ _).symm.trans H; rw [hy874]; with_reducible exact H2_) | (have H2_ := (Option.bind_some _ _).symm.trans H; with_reducible exact H2_) | with_reducible exact H | (rw [hy874]; exact H) | exact H
   have Ny874 := am hy874
   clear hy874
   have H' := am H
   clear H
   have p872 : 0 ≤ (x16_1 : Int) := od
   have q872 : x16_1 < (t869.length : Int) := od
   obtain ⟨ad872, e872, hx872_0⟩ := Kd.at_string (Kd.R_reads' HO_14.out).2.2 x16_1 p872 q872
   cases e872
   replace p872 := eq_true p872
   replace q872 := eq_true q872
   go_wp2_with (first | (refine gl 22 Tryd.func126 #[.string (rdOf ByteArray.empty t869 x16_1)] ?_; (with_reducible refine (impl_Lower.calls (rdOf ByteArray.empty t869 x16_1) t873 _ A10.out).mono ?_); rintro e w12 ⟨rfl, hb⟩; refine ⟨_, rfl, ?_⟩; replace HO_5 := kr HO_5 hb; replace HO_14 := kr HO_14 hb; replace HB := am (below_step bl hb); clear hb) | ((with_reducible refine gate_builtin (b := .append) (xs := #[.tmp 20, .tmp 23]) rfl ?_); at_builtin; refine Kd.R_append Kd.string (w0 := w) w.heap.size rfl (.tmp 20) (.tmp 23) 47 9 (.string ⟨#[]⟩) 16 rfl Tryd.underlying47 info9 rfl (by decide) (by omega) u5 x5_1 t873 [.string t873] (fun k_ => some k_ ≠ (.slice (some ad872) t869.length co6 : Value).ownBlock) (fun _ => False) rfl rfl ?aP (fun _ hk => hk.elim) ?aF ?aO ?aB ?aS ?aL ?_; (case aP => exact rfl); (case aB => exact bl); (case aF => exact (fun k_ hk => Kd.fresh' (Kd.R_lt (ro HO_14)) k_ hk)); (case aO => exact (ro HO_5)); (case aS => exact (below_size bl)); (case aL => have := LMc11.out; omega); intro v875 w13 ho hb hg hat; rw [← Ny874.out] at ho; have n0_ := am (Kd.R_after (ok := (fun _ => True)) (by (with_reducible repeat (first | apply Kd.R_alloc | apply Kd.R_drewN | apply Kd.R_drew)); exact Kd.R_mono HO_14.out (fun _ hk => ⟨trivial, hk⟩)) hg hat); have n1_ := am (hb); have n2_ := am (ho); clear HO_14; clear HB; clear HO_5; have HO_14 := n0_; have HB := n1_; have HO876 := n2_; clear n0_ n1_ n2_; clear ho hb hg hat))
   go_roundg k1
   case measure => have := HK1.out; omega
   case rel => exact ⟨(y874), (wrap64 (x16_1 + 1)), rs, H', ⟨by have := HK1.out; omega⟩, ⟨by (with_reducible repeat (first | apply Kd.R_alloc | apply Kd.R_drewN | apply Kd.R_drew)); exact HO876.out⟩, ⟨by (with_reducible repeat (first | apply Kd.R_alloc | apply Kd.R_drewN | apply Kd.R_drew)); exact Kd.R_mono HO_14.out (fun _ hk => hk.2)⟩, ⟨u84HB⟩⟩

/-! ### impl_ObjOk: function 30 -/
theorem u30HB {p : Prop} (h : p := by repeat (first | (with_reducible first | exact HB.out | apply below_alloc | apply pw_below_drewN | apply below_drew1 | refine below_set ?_ GE877.out) | exact HB.out)) : p := h
mutual
def impl_ObjOk.l0 : Nat → List ByteArray → Int → Int → ByteArray → List ByteArray → List ByteArray → Int → List (S84) → ByteArray → Int → Option (Bool)
 | 0, _, _, _, _, _, _, _, _, _, _ => none
 | k + 1, x6, x7, x8, x878000, x878001, x878002, x878003, x878004, x878005, x878006 => if x8 < x7 then (if 0 ≤ x8 then (if x8 < (x6.length : Int) then ((impl_ValueOk.f k (rdOf ByteArray.empty x6 x8)).bind fun t879 => (if t879 = true then (impl_ObjOk.l0 k x6 x7 (wrap64 (x8 + 1)) x878000 x878001 x878002 x878003 x878004 x878005 x878006) else (some false))) else (none)) else (none)) else ((impl_pathOk.f k x878000).bind fun t880 => (if t880 = true then ((impl_isTime.f x878006).bind fun t881 => (if t881 = true then (if (x878002.length : Int) = (x878001.length : Int) then ((impl_namesOk.f k x878001).bind fun t882 => (if t882 = true then ((impl_RespOk.f k x878003 x878004 x878005).bind fun t883 => (impl_ObjOk.j1 k (!t883) x878000 x878001 x878002 x878003 x878004 x878005 x878006)) else (impl_ObjOk.j1 k true x878000 x878001 x878002 x878003 x878004 x878005 x878006))) else (impl_ObjOk.j1 k true x878000 x878001 x878002 x878003 x878004 x878005 x878006)) else (impl_ObjOk.j1 k true x878000 x878001 x878002 x878003 x878004 x878005 x878006))) else (impl_ObjOk.j1 k true x878000 x878001 x878002 x878003 x878004 x878005 x878006)))
def impl_ObjOk.j1 : Nat → Bool → ByteArray → List ByteArray → List ByteArray → Int → List (S84) → ByteArray → Int → Option (Bool)
 | 0, _, _, _, _, _, _, _, _ => none
 | k + 1, x46, x878000, x878001, x878002, x878003, x878004, x878005, x878006 => if x46 = true then (some false) else ((impl_VaryOf.f k x878004).bind fun t884 => ((slices_Equal_string_string.f k x878001 t884).bind fun t887 => (some t887)))
end
def impl_ObjOk.f (k : Nat) (a0_0 : ByteArray) (l0_1 : List ByteArray) (l0_2 : List ByteArray) (a0_3 : Int) (l0_4 : List (S84)) (a0_5 : ByteArray) (a0_6 : Int) : Option (Bool) := impl_ObjOk.l0 k l0_2 (l0_2.length : Int) 0 a0_0 l0_1 l0_2 a0_3 l0_4 a0_5 a0_6
theorem impl_ObjOk.mono_l : ∀ k, (∀ y0 y1 y2 y3 y4 y5 y6 y7 y8 y9, LeO (impl_ObjOk.l0 k y0 y1 y2 y3 y4 y5 y6 y7 y8 y9) (impl_ObjOk.l0 (k + 1) y0 y1 y2 y3 y4 y5 y6 y7 y8 y9)) ∧ (∀ y0 y1 y2 y3 y4 y5 y6 y7, LeO (impl_ObjOk.j1 k y0 y1 y2 y3 y4 y5 y6 y7) (impl_ObjOk.j1 (k + 1) y0 y1 y2 y3 y4 y5 y6 y7))
 | 0 => ⟨fun _ _ _ _ _ _ _ _ _ _ r h => by simp [impl_ObjOk.l0] at h, fun _ _ _ _ _ _ _ _ r h => by simp [impl_ObjOk.j1] at h⟩
 | k + 1 => by
  obtain ⟨ih0, ih1⟩ := impl_ObjOk.mono_l k
  refine ⟨?_, ?_⟩
  ·intro y0 y1 y2 y3 y4 y5 y6 y7 y8 y9
   unfold impl_ObjOk.l0
   have m0 := @impl_RespOk.mono
   have m1 := @impl_ValueOk.mono
   have m2 := @impl_VaryOf.mono
   have m3 := @impl_namesOk.mono
   have m4 := @impl_pathOk.mono
   have m5 := @slices_Equal_string_string.mono
   exact mo
  ·intro y0 y1 y2 y3 y4 y5 y6 y7
   unfold impl_ObjOk.j1
   have m0 := @impl_RespOk.mono
   have m1 := @impl_ValueOk.mono
   have m2 := @impl_VaryOf.mono
   have m3 := @impl_namesOk.mono
   have m4 := @impl_pathOk.mono
   have m5 := @slices_Equal_string_string.mono
   exact mo
theorem impl_ObjOk.mono : ∀ a0 a1 a2 a3 a4 a5 a6 k, LeO (impl_ObjOk.f k a0 a1 a2 a3 a4 a5 a6) (impl_ObjOk.f (k + 1) a0 a1 a2 a3 a4 a5 a6) := by
 intro a0 a1 a2 a3 a4 a5 a6 k
 obtain ⟨ih0, ih1⟩ := impl_ObjOk.mono_l k
 unfold impl_ObjOk.f
 have m0 := @impl_RespOk.mono
 have m1 := @impl_ValueOk.mono
 have m2 := @impl_VaryOf.mono
 have m3 := @impl_namesOk.mono
 have m4 := @impl_pathOk.mono
 have m5 := @slices_Equal_string_string.mono
 exact mo
def impl_ObjOk.T9 : Bool × List (List Nat × List Nat) := (true, [([], []), ([0], [0]), ([], []), ([2], [2]), ([3], [3]), ([4], [4]), ([1, 5, 5], [1, 5]), ([6, 6, 0, 1, 2, 3, 4, 5, 6], [6])])
def impl_ObjOk.B9 : List Nat := [0, 1, 0, 4, 12, 28, 63, 127]
theorem impl_ObjOk.tab9 : rtab .any (opsOf Tryd.f30 9) = impl_ObjOk.T9 := by kernel_rfl
theorem impl_ObjOk.bits9 : waitsOk impl_ObjOk.T9.2 impl_ObjOk.B9 = true := by kernel_rfl
set_option maxHeartbeats 8000000 in
set_option maxRecDepth 100000 in
theorem impl_ObjOk.calls (k : Nat) (a0_0 : ByteArray) (A0_1 : Option Addr) (c0_1 : Nat) (l0_1 : List ByteArray) (A0_2 : Option Addr) (c0_2 : Nat) (l0_2 : List ByteArray) (a0_3 : Int) (A0_4 : Option Addr) (c0_4 : Nat) (l0_4 : List (S84)) (a0_5 : ByteArray) (a0_6 : Int) (r : Bool) (w : World) (hGM : GLOBM w) (hr0_1 : Kd.C Kd.string w A0_1 l0_1.length l0_1) (hc0_1 : l0_1.length ≤ c0_1) (hr0_2 : Kd.C Kd.string w A0_2 l0_2.length l0_2) (hc0_2 : l0_2.length ≤ c0_2) (hr0_4 : Kd.C k84 w A0_4 l0_4.length l0_4) (hc0_4 : l0_4.length ≤ c0_4) (h : impl_ObjOk.f k a0_0 l0_1 l0_2 a0_3 l0_4 a0_5 a0_6 = some r) :
  Calls Tryd.prog 30 #[.agg #[.string a0_0, .slice A0_1 l0_1.length c0_1, .slice A0_2 l0_2.length c0_2, .int .i64 a0_3, .slice A0_4 l0_4.length c0_4, .string a0_5, .int .i64 a0_6]] w fun e w' => e = .returned (.bool r) ∧ Below w.heap.size w w' := by
 have hu55 := Tryd.underlying55
 have hu32 := Tryd.underlying32
 have HR0_1 := am hr0_1
 have HC0_1 := am hc0_1
 clear hr0_1 hc0_1
 have HR0_2 := am hr0_2
 have HC0_2 := am hc0_2
 clear hr0_2 hc0_2
 have HR0_4 := am hr0_4
 have HC0_4 := am hc0_4
 clear hr0_4 hc0_4
 have HGM := am hGM
 clear hGM
 have HB := am (Below.refl w.heap.size w)
 unfold impl_ObjOk.f at h
 have H := h
 clear h
 have H' := am H
 clear H
 go_enter Tryd.func30, Tryd.ntmps30
 go_wp2_with (first | ((with_reducible refine gate_dst (N := 1) rfl ?_); (try (refine gate_guard (by rfl) ?_; dsimp only)); refine box_event ?hg (N := 1) ?hd (cs := #[.string a0_0, .slice A0_1 l0_1.length c0_1, .slice A0_2 l0_2.length c0_2, .int .i64 a0_3, .slice A0_4 l0_4.length c0_4, .string a0_5, .int .i64 a0_6]) (t := 55) ?hr ?_; (case hd => rfl); (case hg => rfl); (case hr => first | (go_simp; done) | (go_simp; rfl)); intro gb877 hg w2 hbox hb; have BK877 := am (hbox); have GW877 := am (sz hg : w.heap.size ≤ gb877); have GE877 := am (sz hg : w.heap.size ≤ gb877); replace HB := am (below_step bl hb); clear hb hbox hg; obtain ⟨z3_0, y3_0, z3_1, y3_1, z3_2, y3_2, z3_3, y3_3, z3_4, y3_4, z3_5, y3_5, z3_6, y3_6⟩ := cl7 BK877))
 (try simp only [Act.put, List.setIfInBounds_toArray, List.set_cons_zero, List.set_cons_succ])
 go_loopg [8] k (fun kq v8 w' => ∃ (x8_1 : Int), v8 = .int .i64 x8_1 ∧ Aside0 (impl_ObjOk.l0 kq l0_2 (l0_2.length : Int) x8_1 a0_0 l0_1 l0_2 a0_3 l0_4 a0_5 a0_6 = some r) ∧ Aside0 (kq ≤ k) ∧ Aside0 (w'.heap[gb877]? = some (.cells #[.string a0_0, (.slice A0_1 l0_1.length c0_1), (.slice A0_2 l0_2.length c0_2), .int .i64 a0_3, (.slice A0_4 l0_4.length c0_4), .string a0_5, .int .i64 a0_6] 55 (0, 0))) ∧ Aside0 (Below w.heap.size w w'))
 case atStart => exact ⟨(0), rs, H', ⟨Nat.le_refl _⟩, ⟨by (with_reducible repeat (first | refine blk_drewN ?_ _ | refine blk_drew ?_ | refine blk_alloc ?_ _)); exact BK877.out⟩, ⟨u30HB⟩⟩
 case round =>
  clear H'
  try clear p2
  try clear c3
  try clear z3_0
  try clear z3_1
  try clear z3_2
  try clear z3_3
  try clear z3_4
  try clear z3_5
  try clear z3_6
  try clear y3_0
  try clear y3_1
  try clear y3_2
  try clear y3_3
  try clear y3_4
  try clear y3_5
  try clear y3_6
  obtain ⟨x8_1, rfl, HA, HK1, BK877, HB⟩ := hrel
  cases gk with
  | zero => exact absurd HA.out (by simp [impl_ObjOk.l0])
  | succ k1 =>
   have H := HA.out
   clear HA
   simp only [impl_ObjOk.l0] at H
   by_cases c4 : x8_1 < (l0_2.length : Int)
   ·rw [if_pos c4] at H
    have c4b0 := decide_eq_true c4
    clear c4
    revert H
    refine ifn fun c5 H => ?_
    have c5b0 := decide_eq_true c5
    clear c5
    revert H
    refine ifn fun c6 H => ?_
    have c6b0 := decide_eq_true c6
    clear c6
    revert H
    refine ok1 fun t879 A7 H => ?_
    by_cases c8 : t879 = true
    rotate_left
    ·replace c8 := Bool.eq_false_iff.mpr c8
     subst c8
     rw [if_neg (show ¬ (false = true) by decide)] at H
     obtain rfl := Option.some.inj H
     have p878 : 0 ≤ (x8_1 : Int) := od
     have q878 : x8_1 < (l0_2.length : Int) := od
     obtain ⟨ad878, e878, hx878_0⟩ := Kd.at_string HR0_2.out x8_1 p878 q878
     cases e878
     replace hx878_0 := hcw hx878_0
     replace p878 := eq_true p878
     replace q878 := eq_true q878
     go_wp2_with (first | (refine gl 13 Tryd.func79 #[.string (rdOf ByteArray.empty l0_2 x8_1)] ?_; (with_reducible refine (impl_ValueOk.calls k1 (rdOf ByteArray.empty l0_2 x8_1) false _ A7.out).mono ?_); rintro e w10 ⟨rfl, hb⟩; refine ⟨_, rfl, ?_⟩; replace BK877 := kb BK877 hb; replace HB := am (below_step bl hb); clear hb))
     go_ret
     exact ⟨rf, bl⟩
    subst c8
    rw [if_pos rfl] at H
    have H' := am H
    clear H
    have p878 : 0 ≤ (x8_1 : Int) := od
    have q878 : x8_1 < (l0_2.length : Int) := od
    obtain ⟨ad878, e878, hx878_0⟩ := Kd.at_string HR0_2.out x8_1 p878 q878
    cases e878
    replace hx878_0 := hcw hx878_0
    replace p878 := eq_true p878
    replace q878 := eq_true q878
    go_wp2_with (first | (refine gl 13 Tryd.func79 #[.string (rdOf ByteArray.empty l0_2 x8_1)] ?_; (with_reducible refine (impl_ValueOk.calls k1 (rdOf ByteArray.empty l0_2 x8_1) true _ A7.out).mono ?_); rintro e w9 ⟨rfl, hb⟩; refine ⟨_, rfl, ?_⟩; replace BK877 := kb BK877 hb; replace HB := am (below_step bl hb); clear hb))
    go_roundg k1
    case measure => have := HK1.out; omega
    case rel => exact ⟨(wrap64 (x8_1 + 1)), rs, H', ⟨by have := HK1.out; omega⟩, ⟨by (with_reducible repeat (first | refine blk_drewN ?_ _ | refine blk_drew ?_ | refine blk_alloc ?_ _)); exact BK877.out⟩, ⟨u30HB⟩⟩
   rw [if_neg c4] at H
   have c4b0 := decide_eq_false c4
   clear c4
   have HC11 := am H
   clear H
   go_upto_region 7 with (fail)
   go_cut [46] (fun v46 wc => ∃ (kq : Nat) (x46_10 : Bool), v46 = .bool x46_10 ∧ Aside0 (impl_ObjOk.j1 kq x46_10 a0_0 l0_1 l0_2 a0_3 l0_4 a0_5 a0_6 = some r) ∧ Aside0 (kq ≤ k1) ∧ Aside0 (wc.heap[gb877]? = some (.cells #[.string a0_0, (.slice A0_1 l0_1.length c0_1), (.slice A0_2 l0_2.length c0_2), .int .i64 a0_3, (.slice A0_4 l0_4.length c0_4), .string a0_5, .int .i64 a0_6] 55 (0, 0))) ∧ Aside0 (Below w.heap.size w wc))
   case first =>
    have H := HC11.out
    clear HC11
    revert H
    refine ok1 fun t880 A12 H => ?_
    by_cases c13 : t880 = true
    rotate_left
    ·replace c13 := Bool.eq_false_iff.mpr c13
     subst c13
     rw [if_neg (show ¬ (false = true) by decide)] at H
     have H' := am H
     clear H
     obtain ⟨z25_0, y25_0, z25_1, y25_1, z25_2, y25_2, z25_3, y25_3, z25_4, y25_4, z25_5, y25_5, z25_6, y25_6⟩ := cl7 BK877
     go_wp2_with (first | (refine gl 18 Tryd.func61 #[.string a0_0] ?_; (with_reducible refine (impl_pathOk.calls k1 a0_0 false _ A12.out).mono ?_); rintro e w' ⟨rfl, ⟨nd, rfl⟩⟩; refine ⟨_, rfl, ?_⟩))
     go_meet
     case rel => exact ⟨_, (true), rs, H', ⟨by have := HK1.out; first | omega | exact Nat.le_refl _⟩, ⟨by (with_reducible repeat (first | refine blk_drewN ?_ _ | refine blk_drew ?_ | refine blk_alloc ?_ _)); exact BK877.out⟩, ⟨u30HB⟩⟩
    subst c13
    rw [if_pos rfl] at H
    revert H
    refine ok1 fun t881 A14 H => ?_
    by_cases c15 : t881 = true
    rotate_left
    ·replace c15 := Bool.eq_false_iff.mpr c15
     subst c15
     rw [if_neg (show ¬ (false = true) by decide)] at H
     have H' := am H
     clear H
     obtain ⟨z24_0, y24_0, z24_1, y24_1, z24_2, y24_2, z24_3, y24_3, z24_4, y24_4, z24_5, y24_5, z24_6, y24_6⟩ := cl7 BK877
     go_wp2_with (first | (refine gl 18 Tryd.func61 #[.string a0_0] ?_; (with_reducible refine (impl_pathOk.calls k1 a0_0 true _ A12.out).mono ?_); rintro e w' ⟨rfl, ⟨nd, rfl⟩⟩; refine ⟨_, rfl, ?_⟩) | (go_at_call 80; (with_reducible refine (impl_isTime.calls a0_6 false _ A14.out).mono ?_); rintro e w' ⟨rfl, ⟨nd, rfl⟩⟩))
     go_meet
     case rel => exact ⟨_, (true), rs, H', ⟨by have := HK1.out; first | omega | exact Nat.le_refl _⟩, ⟨by (with_reducible repeat (first | refine blk_drewN ?_ _ | refine blk_drew ?_ | refine blk_alloc ?_ _)); exact BK877.out⟩, ⟨u30HB⟩⟩
    subst c15
    rw [if_pos rfl] at H
    by_cases c16 : (l0_2.length : Int) = (l0_1.length : Int)
    rotate_left
    ·rw [if_neg c16] at H
     have c16b0 : ((l0_2.length : Int) == (l0_1.length : Int)) = false := beq_eq_false_iff_ne.mpr c16
     have c16b1 : ((l0_2.length : Int) != (l0_1.length : Int)) = true := bne_iff_ne.mpr c16
     have c16b2 : (l0_2.length == l0_1.length) = false := by first | simpa using c16 | (simp at c16 ⊢; omega)
     (first | rw [c16b0] | (simp only [i64_w, i32_w]; rw [c16b0]) | skip)
     have H' := am H
     clear H
     obtain ⟨z23_0, y23_0, z23_1, y23_1, z23_2, y23_2, z23_3, y23_3, z23_4, y23_4, z23_5, y23_5, z23_6, y23_6⟩ := cl7 BK877
     go_wp2_with (first | (refine gl 18 Tryd.func61 #[.string a0_0] ?_; (with_reducible refine (impl_pathOk.calls k1 a0_0 true _ A12.out).mono ?_); rintro e w' ⟨rfl, ⟨nd, rfl⟩⟩; refine ⟨_, rfl, ?_⟩) | (go_at_call 80; (with_reducible refine (impl_isTime.calls a0_6 true _ A14.out).mono ?_); rintro e w' ⟨rfl, ⟨nd, rfl⟩⟩))
     go_meet
     case rel => exact ⟨_, (true), rs, H', ⟨by have := HK1.out; first | omega | exact Nat.le_refl _⟩, ⟨by (with_reducible repeat (first | refine blk_drewN ?_ _ | refine blk_drew ?_ | refine blk_alloc ?_ _)); exact BK877.out⟩, ⟨u30HB⟩⟩
    rw [if_pos c16] at H
    have c16b0 : ((l0_2.length : Int) == (l0_1.length : Int)) = true := beq_iff_eq.mpr c16
    have c16b1 : ((l0_2.length : Int) != (l0_1.length : Int)) = false := bne_eq_false_iff_eq.mpr c16
    have c16b2 : (l0_2.length == l0_1.length) = true := by first | simpa using c16 | (simp at c16 ⊢; omega)
    clear c16
    (first | rw [c16b0] | (simp only [i64_w, i32_w]; rw [c16b0]) | skip)
    revert H
    refine ok1 fun t882 A17 H => ?_
    by_cases c18 : t882 = true
    rotate_left
    ·replace c18 := Bool.eq_false_iff.mpr c18
     subst c18
     rw [if_neg (show ¬ (false = true) by decide)] at H
     have H' := am H
     clear H
     obtain ⟨z22_0, y22_0, z22_1, y22_1, z22_2, y22_2, z22_3, y22_3, z22_4, y22_4, z22_5, y22_5, z22_6, y22_6⟩ := cl7 BK877
     go_wp2_with (first | (refine gl 18 Tryd.func61 #[.string a0_0] ?_; (with_reducible refine (impl_pathOk.calls k1 a0_0 true _ A12.out).mono ?_); rintro e w' ⟨rfl, ⟨nd, rfl⟩⟩; refine ⟨_, rfl, ?_⟩) | (go_at_call 80; (with_reducible refine (impl_isTime.calls a0_6 true _ A14.out).mono ?_); rintro e w' ⟨rfl, ⟨nd, rfl⟩⟩) | (go_at_call 81; (with_reducible refine (impl_namesOk.calls k1 _ _ l0_1 false _ ?side1 ?side2 A17.out).mono ?_); (case side1 => repeat (first | exact (Kd.C_below HR0_1.out bl) | (with_reducible refine Kd.C_alloc ?_ _) | (with_reducible refine Kd.C_drewN ?_ _) | (with_reducible refine Kd.C_drew ?_))); (case side2 => exact HC0_1.out); rintro e w' ⟨rfl, ⟨nd, rfl⟩⟩))
     go_meet
     case rel => exact ⟨_, (true), rs, H', ⟨by have := HK1.out; first | omega | exact Nat.le_refl _⟩, ⟨by (with_reducible repeat (first | refine blk_drewN ?_ _ | refine blk_drew ?_ | refine blk_alloc ?_ _)); exact BK877.out⟩, ⟨u30HB⟩⟩
    subst c18
    rw [if_pos rfl] at H
    revert H
    refine ok1 fun t883 A19 H => ?_
    have H' := am H
    clear H
    obtain ⟨z20_0, y20_0, z20_1, y20_1, z20_2, y20_2, z20_3, y20_3, z20_4, y20_4, z20_5, y20_5, z20_6, y20_6⟩ := cl7 BK877
    go_wp2_with (first | (refine gl 18 Tryd.func61 #[.string a0_0] ?_; (with_reducible refine (impl_pathOk.calls k1 a0_0 true _ A12.out).mono ?_); rintro e w' ⟨rfl, ⟨nd, rfl⟩⟩; refine ⟨_, rfl, ?_⟩) | (go_at_call 80; (with_reducible refine (impl_isTime.calls a0_6 true _ A14.out).mono ?_); rintro e w' ⟨rfl, ⟨nd, rfl⟩⟩) | (go_at_call 81; (with_reducible refine (impl_namesOk.calls k1 _ _ l0_1 true _ ?side1 ?side2 A17.out).mono ?_); (case side1 => repeat (first | exact (Kd.C_below HR0_1.out bl) | (with_reducible refine Kd.C_alloc ?_ _) | (with_reducible refine Kd.C_drewN ?_ _) | (with_reducible refine Kd.C_drew ?_))); (case side2 => exact HC0_1.out); rintro e w' ⟨rfl, ⟨nd, rfl⟩⟩) | (go_at_call 82; (with_reducible refine (impl_RespOk.calls k1 a0_3 _ _ l0_4 a0_5 t883 _ ?side1 ?side2 A19.out).mono ?_); (case side1 => repeat (first | exact (Kd.C_below HR0_4.out bl) | (with_reducible refine Kd.C_alloc ?_ _) | (with_reducible refine Kd.C_drewN ?_ _) | (with_reducible refine Kd.C_drew ?_))); (case side2 => exact HC0_4.out); rintro e w21 ⟨rfl, hb⟩; replace BK877 := kb BK877 hb; replace HB := am (below_step bl hb); clear hb))
    go_meet
    case rel => exact ⟨_, (!t883), rs, H', ⟨by have := HK1.out; first | omega | exact Nat.le_refl _⟩, ⟨by (with_reducible repeat (first | refine blk_drewN ?_ _ | refine blk_drew ?_ | refine blk_alloc ?_ _)); exact BK877.out⟩, ⟨u30HB⟩⟩
   case rest =>
    clear HC11
    try clear c1
    try clear p2
    try clear c3
    try clear c4
    try clear c4b0
    try clear c5
    try clear c5b0
    try clear c6
    try clear c6b0
    try clear p6
    try clear c7
    try clear c8
    try clear p8
    try clear q8
    try clear hx8
    try clear c13
    try clear c15
    try clear c16
    try clear c16b0
    try clear c16b1
    try clear c16b2
    try clear c18
    try clear z20_0
    try clear z20_1
    try clear z20_2
    try clear z20_3
    try clear z20_4
    try clear z20_5
    try clear z20_6
    try clear z22_0
    try clear z22_1
    try clear z22_2
    try clear z22_3
    try clear z22_4
    try clear z22_5
    try clear z22_6
    try clear z23_0
    try clear z23_1
    try clear z23_2
    try clear z23_3
    try clear z23_4
    try clear z23_5
    try clear z23_6
    try clear z24_0
    try clear z24_1
    try clear z24_2
    try clear z24_3
    try clear z24_4
    try clear z24_5
    try clear z24_6
    try clear z25_0
    try clear z25_1
    try clear z25_2
    try clear z25_3
    try clear z25_4
    try clear z25_5
    try clear z25_6
    try clear z3_0
    try clear z3_1
    try clear z3_2
    try clear z3_3
    try clear z3_4
    try clear z3_5
    try clear z3_6
    try clear y20_0
    try clear y20_1
    try clear y20_2
    try clear y20_3
    try clear y20_4
    try clear y20_5
    try clear y20_6
    try clear y22_0
    try clear y22_1
    try clear y22_2
    try clear y22_3
    try clear y22_4
    try clear y22_5
    try clear y22_6
    try clear y23_0
    try clear y23_1
    try clear y23_2
    try clear y23_3
    try clear y23_4
    try clear y23_5
    try clear y23_6
    try clear y24_0
    try clear y24_1
    try clear y24_2
    try clear y24_3
    try clear y24_4
    try clear y24_5
    try clear y24_6
    try clear y25_0
    try clear y25_1
    try clear y25_2
    try clear y25_3
    try clear y25_4
    try clear y25_5
    try clear y25_6
    try clear y3_0
    try clear y3_1
    try clear y3_2
    try clear y3_3
    try clear y3_4
    try clear y3_5
    try clear y3_6
    try clear hx878_0
    try clear p2
    try clear p878
    try clear q878
    obtain ⟨kq, x46_10, rfl, HA, HJ10, BK877, HB⟩ := hcut
    cases kq with
    | zero => exact absurd HA.out (by simp [impl_ObjOk.j1])
    | succ kj10 =>
     have H := HA.out
     clear HA
     simp only [impl_ObjOk.j1] at H
     by_cases c26 : x46_10 = true
     ·subst c26
      rw [if_pos rfl] at H
      obtain rfl := Option.some.inj H
      go_wp2
      go_ret
      exact ⟨rf, bl⟩
     replace c26 := Bool.eq_false_iff.mpr c26
     subst c26
     rw [if_neg (show ¬ (false = true) by decide)] at H
     revert H
     refine ok1 fun t884 A27 H => ?_
     revert H
     refine ok1 fun t887 A28 H => ?_
     obtain rfl := Option.some.inj H
     try go_wp2
     replace BK877 := am (blk_drew BK877.out)
     replace HB := am (below_drew1 HB.out)
     refine start_ (n := 8) (S := fun w' => w'.cell? ⟨gb877, 0, none⟩ = some (.string a0_0) ∧ w'.cell? ⟨gb877, 1, none⟩ = some (.slice A0_1 l0_1.length c0_1) ∧ w'.cell? ⟨gb877, 2, none⟩ = some (.slice A0_2 l0_2.length c0_2) ∧ w'.cell? ⟨gb877, 3, none⟩ = some (.int .i64 a0_3) ∧ w'.cell? ⟨gb877, 4, none⟩ = some (.slice A0_4 l0_4.length c0_4) ∧ w'.cell? ⟨gb877, 5, none⟩ = some (.string a0_5) ∧ w'.cell? ⟨gb877, 6, none⟩ = some (.int .i64 a0_6)) (ds := []) ⟨br true [0, 8]⟩ (by kernel_rfl) rfl (by kernel_rfl) ⟨bc BK877, bc BK877, bc BK877, bc BK877, bc BK877, bc BK877, bc BK877⟩ (fun hHeld => ?_); refine with_tabW impl_ObjOk.tab9 impl_ObjOk.bits9 (fun HT_ HW_ => ?_)
     generalize wc.drew = w29 at BK877 HB hHeld ⊢
     refine pu 0 47 [1, 7] ?_
     refine pu 2 49 [1, 1, 1, 5] ?_
     refine pu 3 50 [1, 1, 2, 4] ?_
     refine tk 1 48 [4, 4] ?_
     refine tk 4 51 [5, 3] ?_
     refine og 5 52 [6, 2] Tryd.func84 #[.slice A0_4 l0_4.length c0_4] (fun K hK => ?_)
     with_reducible refine (impl_VaryOf.calls kj10 _ _ l0_4 t884 _ ?side1 ?side2 ?side3 A27.out).mono ?_
     (case side1 => exact GLOBM.below HGM.out bl)
     (case side2 => exact cb HR0_4)
     (case side3 => exact HC0_4.out)
     rintro e w30 ⟨v885, rfl, ho0, hb⟩
     refine ⟨_, rfl, ?_⟩
     have HO886 := am (Kd.R_lower ho0 (below_size bl))
     replace BK877 := kb BK877 hb
     replace HB := am (below_step bl hb)
     clear hb ho0
     obtain ⟨Ao31, co31, eo31⟩ := Kd.R_slice HO886.out
     (first | subst eo31 | (injection eo31 with f1_ f2_ f3_; have f4_ := f1_.symm; have f5_ := f3_.symm; clear f1_ f2_ f3_; subst f4_; subst f5_))
     refine hK.out _ _ ⟨bc BK877, bc BK877, bc BK877, bc BK877, bc BK877, bc BK877, bc BK877⟩ (fun hHeld => ?_)
     clear hK K
     refine nm 52 ?_
     refine og 6 53 [7, 1] Tryd.func83 #[.slice A0_1 l0_1.length c0_1, .slice Ao31 t884.length co31] (fun K hK => ?_)
     with_reducible refine (slices_Equal_string_string.calls kj10 _ _ l0_1 _ _ t884 t887 _ ?side1 ?side2 ?side3 ?side4 A28.out).mono ?_
     (case side1 => exact cb HR0_1)
     (case side2 => exact HC0_1.out)
     (case side3 => exact rc HO886)
     (case side4 => exact (Kd.R_reads' HO886.out).2.1)
     rintro e w' ⟨rfl, ⟨nd, rfl⟩⟩
     refine ⟨_, rfl, ?_⟩
     refine hK.out _ _ ⟨bc BK877, bc BK877, bc BK877, bc BK877, bc BK877, bc BK877, bc BK877⟩ (fun hHeld => ?_)
     clear hK K
     refine nm 53 ?_
     refine pu 7 2 [8] ?_
     refine done_ (done_of HT_.out (by kernel_rfl)) ?_
     try go_wp2
     go_ret
     exact ⟨rf, bl⟩

/-! ### laws_eqStringS: function 85 -/
def laws_eqStringS.l0 : Nat → List ByteArray → List ByteArray → Int → Option (Bool)
 | 0, _, _, _ => none
 | k + 1, x0, x1, x5 => if x5 < (x0.length : Int) then (if 0 ≤ x5 then (if x5 < (x1.length : Int) then (if (rdOf ByteArray.empty x0 x5).toList = (rdOf ByteArray.empty x1 x5).toList then (laws_eqStringS.l0 k x0 x1 (wrap64 (x5 + 1))) else (some false)) else (none)) else (none)) else (some true)
def laws_eqStringS.f (k : Nat) (l0 : List ByteArray) (l1 : List ByteArray) : Option (Bool) := if (l0.length : Int) = (l1.length : Int) then (laws_eqStringS.l0 k l0 l1 0) else (some false)
theorem laws_eqStringS.mono_l : ∀ k, (∀ y0 y1 y2, LeO (laws_eqStringS.l0 k y0 y1 y2) (laws_eqStringS.l0 (k + 1) y0 y1 y2))
 | 0 => fun _ _ _ r h => by simp [laws_eqStringS.l0] at h
 | k + 1 => by
  have ih0 := laws_eqStringS.mono_l k
  ·intro y0 y1 y2
   unfold laws_eqStringS.l0
   exact mo
theorem laws_eqStringS.mono : ∀ a0 a1 k, LeO (laws_eqStringS.f k a0 a1) (laws_eqStringS.f (k + 1) a0 a1) := by
 intro a0 a1 k
 have ih0 := laws_eqStringS.mono_l k
 unfold laws_eqStringS.f
 exact mo
set_option maxHeartbeats 8000000 in
set_option maxRecDepth 100000 in
theorem laws_eqStringS.calls (k : Nat) (A0 : Option Addr) (c0 : Nat) (l0 : List ByteArray) (A1 : Option Addr) (c1 : Nat) (l1 : List ByteArray) (r : Bool) (w : World) (hr0 : Kd.C Kd.string w A0 l0.length l0) (hc0 : l0.length ≤ c0) (hr1 : Kd.C Kd.string w A1 l1.length l1) (hc1 : l1.length ≤ c1) (h : laws_eqStringS.f k l0 l1 = some r) :
  Calls Tryd.prog 85 #[.slice A0 l0.length c0, .slice A1 l1.length c1] w fun e w' => e = .returned (.bool r) ∧ Drawn0 w w' := by
 have HR0 := am hr0
 have HC0 := am hc0
 clear hr0 hc0
 have HR1 := am hr1
 have HC1 := am hc1
 clear hr1 hc1
 unfold laws_eqStringS.f at h
 have H := h
 clear h
 by_cases c3 : (l0.length : Int) = (l1.length : Int)
 rotate_left
 ·rw [if_neg c3] at H
  have c3b0 : ((l0.length : Int) == (l1.length : Int)) = false := beq_eq_false_iff_ne.mpr c3
  have c3b1 : ((l0.length : Int) != (l1.length : Int)) = true := bne_iff_ne.mpr c3
  have c3b2 : (l0.length == l1.length) = false := by first | simpa using c3 | (simp at c3 ⊢; omega)
  obtain rfl := Option.some.inj H
  go_enter Tryd.func85, Tryd.ntmps85
  go_wp2
  repeat (go_quiet (fail); try go_wp2)
  go_ret
  exact ⟨rs, dr⟩
 rw [if_pos c3] at H
 have c3b0 : ((l0.length : Int) == (l1.length : Int)) = true := beq_iff_eq.mpr c3
 have c3b1 : ((l0.length : Int) != (l1.length : Int)) = false := bne_eq_false_iff_eq.mpr c3
 have c3b2 : (l0.length == l1.length) = true := by first | simpa using c3 | (simp at c3 ⊢; omega)
 clear c3
 have H' := am H
 clear H
 go_enter Tryd.func85, Tryd.ntmps85
 go_wp2
 repeat (go_quiet (fail); try go_wp2)
 (try simp only [Act.put, List.setIfInBounds_toArray, List.set_cons_zero, List.set_cons_succ])
 go_loopg [5] k (fun kq v5 w' => ∃ (x5_1 : Int), v5 = .int .i64 x5_1 ∧ Aside0 (laws_eqStringS.l0 kq l0 l1 x5_1 = some r) ∧ Aside0 (kq ≤ k) ∧ Drawn0 w w')
 case atStart => exact ⟨(0), rs, H', ⟨Nat.le_refl _⟩, dr⟩
 case round =>
  clear H'
  try clear c1
  try clear p2
  try clear c3
  try clear c3b0
  try clear c3b1
  try clear c3b2
  obtain ⟨x5_1, rfl, HA, HK1, ⟨m1, rfl⟩⟩ := hrel
  cases gk with
  | zero => exact absurd HA.out (by simp [laws_eqStringS.l0])
  | succ k1 =>
   have H := HA.out
   clear HA
   simp only [laws_eqStringS.l0] at H
   by_cases c4 : x5_1 < (l0.length : Int)
   rotate_left
   ·rw [if_neg c4] at H
    have c4b0 := decide_eq_false c4
    clear c4
    obtain rfl := Option.some.inj H
    go_wp2
    repeat (go_quiet (fail); try go_wp2)
    go_ret
    exact ⟨rs, dr⟩
   rw [if_pos c4] at H
   have c4b0 := decide_eq_true c4
   clear c4
   revert H
   refine ifn fun c5 H => ?_
   have c5b0 := decide_eq_true c5
   clear c5
   revert H
   refine ifn fun c6 H => ?_
   have c6b0 := decide_eq_true c6
   clear c6
   by_cases c7 : (rdOf ByteArray.empty l0 x5_1).toList = (rdOf ByteArray.empty l1 x5_1).toList
   rotate_left
   ·rw [if_neg c7] at H
    have c7b0 : ((rdOf ByteArray.empty l0 x5_1).toList == (rdOf ByteArray.empty l1 x5_1).toList) = false := beq_eq_false_iff_ne.mpr c7
    have c7b1 : ((rdOf ByteArray.empty l0 x5_1).toList != (rdOf ByteArray.empty l1 x5_1).toList) = true := bne_iff_ne.mpr c7
    obtain rfl := Option.some.inj H
    have p888 : 0 ≤ (x5_1 : Int) := od
    have q888 : x5_1 < (l0.length : Int) := od
    obtain ⟨ad888, e888, hx888_0⟩ := Kd.at_string HR0.out x5_1 p888 q888
    cases e888
    replace p888 := eq_true p888
    replace q888 := eq_true q888
    have p889 : 0 ≤ (x5_1 : Int) := od
    have q889 : x5_1 < (l1.length : Int) := od
    obtain ⟨ad889, e889, hx889_0⟩ := Kd.at_string HR1.out x5_1 p889 q889
    cases e889
    replace p889 := eq_true p889
    replace q889 := eq_true q889
    go_wp2
    repeat (go_quiet (fail); try go_wp2)
    go_ret
    exact ⟨rs, dr⟩
   rw [if_pos c7] at H
   have c7b0 : ((rdOf ByteArray.empty l0 x5_1).toList == (rdOf ByteArray.empty l1 x5_1).toList) = true := beq_iff_eq.mpr c7
   have c7b1 : ((rdOf ByteArray.empty l0 x5_1).toList != (rdOf ByteArray.empty l1 x5_1).toList) = false := bne_eq_false_iff_eq.mpr c7
   clear c7
   have H' := am H
   clear H
   have p888 : 0 ≤ (x5_1 : Int) := od
   have q888 : x5_1 < (l0.length : Int) := od
   obtain ⟨ad888, e888, hx888_0⟩ := Kd.at_string HR0.out x5_1 p888 q888
   cases e888
   replace p888 := eq_true p888
   replace q888 := eq_true q888
   have p889 : 0 ≤ (x5_1 : Int) := od
   have q889 : x5_1 < (l1.length : Int) := od
   obtain ⟨ad889, e889, hx889_0⟩ := Kd.at_string HR1.out x5_1 p889 q889
   cases e889
   replace p889 := eq_true p889
   replace q889 := eq_true q889
   go_wp2
   repeat (go_quiet (fail); try go_wp2)
   go_roundg k1
   case measure => have := HK1.out; omega
   case rel => exact ⟨(wrap64 (x5_1 + 1)), rs, H', ⟨by have := HK1.out; omega⟩, dr⟩

/-! ### laws_eqResp: function 86 -/
def laws_eqResp.f (k : Nat) (a0_0 : Int) (l0_1 : List (S84)) (a0_2 : ByteArray) (a1_0 : Int) (l1_1 : List (S84)) (a1_2 : ByteArray) : Option (Bool) := if a0_0 = a1_0 then ((laws_eqFieldS.f k l0_1 l1_1).bind fun t892 => (if t892 = true then (if a0_2.toList = a1_2.toList then (some true) else (some false)) else (some false))) else (some false)
theorem laws_eqResp.mono : ∀ a0 a1 a2 a3 a4 a5 k, LeO (laws_eqResp.f k a0 a1 a2 a3 a4 a5) (laws_eqResp.f (k + 1) a0 a1 a2 a3 a4 a5) := by
 intro a0 a1 a2 a3 a4 a5 k
 unfold laws_eqResp.f
 have m0 := @laws_eqFieldS.mono
 exact mo
set_option maxHeartbeats 8000000 in
set_option maxRecDepth 100000 in
theorem laws_eqResp.calls (k : Nat) (a0_0 : Int) (A0_1 : Option Addr) (c0_1 : Nat) (l0_1 : List (S84)) (a0_2 : ByteArray) (a1_0 : Int) (A1_1 : Option Addr) (c1_1 : Nat) (l1_1 : List (S84)) (a1_2 : ByteArray) (r : Bool) (w : World) (hr0_1 : Kd.C k84 w A0_1 l0_1.length l0_1) (hc0_1 : l0_1.length ≤ c0_1) (hr1_1 : Kd.C k84 w A1_1 l1_1.length l1_1) (hc1_1 : l1_1.length ≤ c1_1) (h : laws_eqResp.f k a0_0 l0_1 a0_2 a1_0 l1_1 a1_2 = some r) :
  Calls Tryd.prog 86 #[.agg #[.int .i64 a0_0, .slice A0_1 l0_1.length c0_1, .string a0_2], .agg #[.int .i64 a1_0, .slice A1_1 l1_1.length c1_1, .string a1_2]] w fun e w' => e = .returned (.bool r) ∧ Below w.heap.size w w' := by
 have hu32 := Tryd.underlying32
 have HR0_1 := am hr0_1
 have HC0_1 := am hc0_1
 clear hr0_1 hc0_1
 have HR1_1 := am hr1_1
 have HC1_1 := am hc1_1
 clear hr1_1 hc1_1
 have HB := am (Below.refl w.heap.size w)
 unfold laws_eqResp.f at h
 have H := h
 clear h
 by_cases c3 : a0_0 = a1_0
 rotate_left
 ·rw [if_neg c3] at H
  have c3b0 : (a0_0 == a1_0) = false := beq_eq_false_iff_ne.mpr c3
  have c3b1 : (a0_0 != a1_0) = true := bne_iff_ne.mpr c3
  obtain rfl := Option.some.inj H
  go_enter Tryd.func86, Tryd.ntmps86
  go_wp2_with (first | (refine bx 2 #[.int .i64 a0_0, .slice A0_1 l0_1.length c0_1, .string a0_2] 32 ?_; intro gb890 hg w29 hbox hb; have BK890 := am (hbox); have GW890 := am (sz hg : w.heap.size ≤ gb890); have GE890 := am (sz hg : w.heap.size ≤ gb890); replace HB := am (below_step bl hb); clear hb hbox hg) | (refine bx 3 #[.int .i64 a1_0, .slice A1_1 l1_1.length c1_1, .string a1_2] 32 ?_; intro gb891 hg w30 hbox hb; have BK891 := am (hbox); have GW891 := am (sz hg : w.heap.size ≤ gb891); have GE891 := am (sz hg : w.heap.size ≤ gb891); replace HB := am (below_step bl hb); have NB890_891 := am (nl hg BK890 : gb890 ≠ gb891); have NB891_890 := am (ng hg BK890 : gb891 ≠ gb890); replace BK890 := kb BK890 hb; clear hb hbox hg; have hnb31 := NB890_891.out; have hnc31 := NB891_890.out; obtain ⟨z32_0, y32_0, z32_1, y32_1, z32_2, y32_2⟩ := cl3 BK890; obtain ⟨z33_0, y33_0, z33_1, y33_1, z33_2, y33_2⟩ := cl3 BK891))
  go_ret
  exact ⟨rf, bl⟩
 rw [if_pos c3] at H
 have c3b0 : (a0_0 == a1_0) = true := beq_iff_eq.mpr c3
 have c3b1 : (a0_0 != a1_0) = false := bne_eq_false_iff_eq.mpr c3
 clear c3
 revert H
 refine ok1 fun t892 A4 H => ?_
 by_cases c5 : t892 = true
 rotate_left
 ·replace c5 := Bool.eq_false_iff.mpr c5
  subst c5
  rw [if_neg (show ¬ (false = true) by decide)] at H
  obtain rfl := Option.some.inj H
  go_enter Tryd.func86, Tryd.ntmps86
  go_wp2_with (first | (refine bx 2 #[.int .i64 a0_0, .slice A0_1 l0_1.length c0_1, .string a0_2] 32 ?_; intro gb890 hg w23 hbox hb; have BK890 := am (hbox); have GW890 := am (sz hg : w.heap.size ≤ gb890); have GE890 := am (sz hg : w.heap.size ≤ gb890); replace HB := am (below_step bl hb); clear hb hbox hg) | (refine bx 3 #[.int .i64 a1_0, .slice A1_1 l1_1.length c1_1, .string a1_2] 32 ?_; intro gb891 hg w24 hbox hb; have BK891 := am (hbox); have GW891 := am (sz hg : w.heap.size ≤ gb891); have GE891 := am (sz hg : w.heap.size ≤ gb891); replace HB := am (below_step bl hb); have NB890_891 := am (nl hg BK890 : gb890 ≠ gb891); have NB891_890 := am (ng hg BK890 : gb891 ≠ gb890); replace BK890 := kb BK890 hb; clear hb hbox hg; have hnb25 := NB890_891.out; have hnc25 := NB891_890.out; obtain ⟨z26_0, y26_0, z26_1, y26_1, z26_2, y26_2⟩ := cl3 BK890; obtain ⟨z27_0, y27_0, z27_1, y27_1, z27_2, y27_2⟩ := cl3 BK891) | (refine gl 14 Tryd.func46 #[.slice A0_1 l0_1.length c0_1, .slice A1_1 l1_1.length c1_1] ?_; (with_reducible refine (laws_eqFieldS.calls k _ _ l0_1 _ _ l1_1 false _ ?side1 ?side2 ?side3 ?side4 A4.out).mono ?_); (case side1 => exact cb HR0_1); (case side2 => exact HC0_1.out); (case side3 => exact cb HR1_1); (case side4 => exact HC1_1.out); rintro e w28 ⟨rfl, hb⟩; refine ⟨_, rfl, ?_⟩; replace BK890 := kb BK890 hb; replace BK891 := kb BK891 hb; replace HB := am (below_step bl hb); clear hb))
  go_ret
  exact ⟨rf, bl⟩
 subst c5
 rw [if_pos rfl] at H
 by_cases c6 : a0_2.toList = a1_2.toList
 rotate_left
 ·rw [if_neg c6] at H
  have c6b0 : (a0_2.toList == a1_2.toList) = false := beq_eq_false_iff_ne.mpr c6
  have c6b1 : (a0_2.toList != a1_2.toList) = true := bne_iff_ne.mpr c6
  obtain rfl := Option.some.inj H
  go_enter Tryd.func86, Tryd.ntmps86
  go_wp2_with (first | (refine bx 2 #[.int .i64 a0_0, .slice A0_1 l0_1.length c0_1, .string a0_2] 32 ?_; intro gb890 hg w15 hbox hb; have BK890 := am (hbox); have GW890 := am (sz hg : w.heap.size ≤ gb890); have GE890 := am (sz hg : w.heap.size ≤ gb890); replace HB := am (below_step bl hb); clear hb hbox hg) | (refine bx 3 #[.int .i64 a1_0, .slice A1_1 l1_1.length c1_1, .string a1_2] 32 ?_; intro gb891 hg w16 hbox hb; have BK891 := am (hbox); have GW891 := am (sz hg : w.heap.size ≤ gb891); have GE891 := am (sz hg : w.heap.size ≤ gb891); replace HB := am (below_step bl hb); have NB890_891 := am (nl hg BK890 : gb890 ≠ gb891); have NB891_890 := am (ng hg BK890 : gb891 ≠ gb890); replace BK890 := kb BK890 hb; clear hb hbox hg; have hnb17 := NB890_891.out; have hnc17 := NB891_890.out; obtain ⟨z18_0, y18_0, z18_1, y18_1, z18_2, y18_2⟩ := cl3 BK890; obtain ⟨z19_0, y19_0, z19_1, y19_1, z19_2, y19_2⟩ := cl3 BK891) | (refine gl 14 Tryd.func46 #[.slice A0_1 l0_1.length c0_1, .slice A1_1 l1_1.length c1_1] ?_; (with_reducible refine (laws_eqFieldS.calls k _ _ l0_1 _ _ l1_1 true _ ?side1 ?side2 ?side3 ?side4 A4.out).mono ?_); (case side1 => exact cb HR0_1); (case side2 => exact HC0_1.out); (case side3 => exact cb HR1_1); (case side4 => exact HC1_1.out); rintro e w20 ⟨rfl, hb⟩; refine ⟨_, rfl, ?_⟩; replace BK890 := kb BK890 hb; replace BK891 := kb BK891 hb; replace HB := am (below_step bl hb); clear hb; obtain ⟨z21_0, y21_0, z21_1, y21_1, z21_2, y21_2⟩ := cl3 BK890; obtain ⟨z22_0, y22_0, z22_1, y22_1, z22_2, y22_2⟩ := cl3 BK891))
  go_ret
  exact ⟨rf, bl⟩
 rw [if_pos c6] at H
 have c6b0 : (a0_2.toList == a1_2.toList) = true := beq_iff_eq.mpr c6
 have c6b1 : (a0_2.toList != a1_2.toList) = false := bne_eq_false_iff_eq.mpr c6
 clear c6
 obtain rfl := Option.some.inj H
 go_enter Tryd.func86, Tryd.ntmps86
 go_wp2_with (first | (refine bx 2 #[.int .i64 a0_0, .slice A0_1 l0_1.length c0_1, .string a0_2] 32 ?_; intro gb890 hg w7 hbox hb; have BK890 := am (hbox); have GW890 := am (sz hg : w.heap.size ≤ gb890); have GE890 := am (sz hg : w.heap.size ≤ gb890); replace HB := am (below_step bl hb); clear hb hbox hg) | (refine bx 3 #[.int .i64 a1_0, .slice A1_1 l1_1.length c1_1, .string a1_2] 32 ?_; intro gb891 hg w8 hbox hb; have BK891 := am (hbox); have GW891 := am (sz hg : w.heap.size ≤ gb891); have GE891 := am (sz hg : w.heap.size ≤ gb891); replace HB := am (below_step bl hb); have NB890_891 := am (nl hg BK890 : gb890 ≠ gb891); have NB891_890 := am (ng hg BK890 : gb891 ≠ gb890); replace BK890 := kb BK890 hb; clear hb hbox hg; have hnb9 := NB890_891.out; have hnc9 := NB891_890.out; obtain ⟨z10_0, y10_0, z10_1, y10_1, z10_2, y10_2⟩ := cl3 BK890; obtain ⟨z11_0, y11_0, z11_1, y11_1, z11_2, y11_2⟩ := cl3 BK891) | (refine gl 14 Tryd.func46 #[.slice A0_1 l0_1.length c0_1, .slice A1_1 l1_1.length c1_1] ?_; (with_reducible refine (laws_eqFieldS.calls k _ _ l0_1 _ _ l1_1 true _ ?side1 ?side2 ?side3 ?side4 A4.out).mono ?_); (case side1 => exact cb HR0_1); (case side2 => exact HC0_1.out); (case side3 => exact cb HR1_1); (case side4 => exact HC1_1.out); rintro e w12 ⟨rfl, hb⟩; refine ⟨_, rfl, ?_⟩; replace BK890 := kb BK890 hb; replace BK891 := kb BK891 hb; replace HB := am (below_step bl hb); clear hb; obtain ⟨z13_0, y13_0, z13_1, y13_1, z13_2, y13_2⟩ := cl3 BK890; obtain ⟨z14_0, y14_0, z14_1, y14_1, z14_2, y14_2⟩ := cl3 BK891))
 go_ret
 exact ⟨rf, bl⟩

end Go.Proofs.YtkgdcfaogdmcgaaDoor.All
