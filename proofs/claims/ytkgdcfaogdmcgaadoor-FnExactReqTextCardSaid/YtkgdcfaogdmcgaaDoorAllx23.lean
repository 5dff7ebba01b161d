-- Written by a program of this session (wip/tools/hprint.py) out of the translation. Lean checks it.
import Derived.Test.YtkgdcfaogdmcgaaDoorAllx0
import Derived.Test.YtkgdcfaogdmcgaaDoorAllx20
import Derived.Test.YtkgdcfaogdmcgaaDoorAllx22
namespace Go.Proofs.YtkgdcfaogdmcgaaDoor.All
open Go.RowKit Go.Proofs.YtkgdcfaogdmcgaaDoorW.PrintWords Go.Proofs.YtkgdcfaogdmcgaaDoorW.PrintLast Go.Proofs.YtkgdcfaogdmcgaaDoorW.PrintMore
attribute [local go_sem] max2_int min2_int max_two min_two max_three min_three max_four min_four   -- for this text's walks alone
set_option linter.unusedVariables false
set_option linter.unusedSimpArgs false

/-! ### laws_szReq: function 22 -/
def laws_szReq.f (k : Nat) (a0_0 : Int) (a0_1 : ByteArray) (l0_2 : List (S121)) (a0_3 : ByteArray) (a1 : Int) : Option (Int) := if (wrap64 (a1 - (a0_1.size : Int))) < 0 then (some (-1)) else ((laws_szFieldS.f k l0_2 (wrap64 (a1 - (a0_1.size : Int)))).bind fun t714 => (if t714 < 0 then (some (-1)) else (if (wrap64 (t714 - (a0_3.size : Int))) < 0 then (some (-1)) else (some (wrap64 (t714 - (a0_3.size : Int)))))))
theorem laws_szReq.mono : ∀ a0 a1 a2 a3 a4 k, LeO (laws_szReq.f k a0 a1 a2 a3 a4) (laws_szReq.f (k + 1) a0 a1 a2 a3 a4) := by
 intro a0 a1 a2 a3 a4 k
 unfold laws_szReq.f
 have m0 := @laws_szFieldS.mono
 exact mo
set_option maxHeartbeats 8000000 in
set_option maxRecDepth 100000 in
theorem laws_szReq.calls (k : Nat) (a0_0 : Int) (a0_1 : ByteArray) (A0_2 : Option Addr) (c0_2 : Nat) (l0_2 : List (S121)) (a0_3 : ByteArray) (a1 : Int) (r : Int) (w : World) (hr0_2 : Kd.C k121 w A0_2 l0_2.length l0_2) (hc0_2 : l0_2.length ≤ c0_2) (h : laws_szReq.f k a0_0 a0_1 l0_2 a0_3 a1 = some r) :
  Calls Tryd.prog 22 #[.agg #[.int .i64 a0_0, .string a0_1, .slice A0_2 l0_2.length c0_2, .string a0_3], .int .i64 a1] w fun e w' => e = .returned (.int .i64 r) ∧ Below w.heap.size w w' := by
 have hu41 := Tryd.underlying41
 have HR0_2 := am hr0_2
 have HC0_2 := am hc0_2
 clear hr0_2 hc0_2
 have HB := am (Below.refl w.heap.size w)
 unfold laws_szReq.f at h
 have H := h
 clear h
 by_cases c3 : (wrap64 (a1 - (a0_1.size : Int))) < 0
 ·rw [if_pos c3] at H
  have c3b0 := decide_eq_true c3
  clear c3
  obtain rfl := Option.some.inj H
  go_enter Tryd.func22, Tryd.ntmps22
  go_wp2_with (first | (refine bx 2 #[.int .i64 a0_0, .string a0_1, .slice A0_2 l0_2.length c0_2, .string a0_3] 41 ?_; intro gb713 hg w4 hbox hb; have BK713 := am (hbox); have GW713 := am (sz hg : w.heap.size ≤ gb713); have GE713 := am (sz hg : w.heap.size ≤ gb713); replace HB := am (below_step bl hb); clear hb hbox hg; obtain ⟨z5_0, y5_0, z5_1, y5_1, z5_2, y5_2, z5_3, y5_3⟩ := cl4 BK713))
  go_ret
  exact ⟨rf, bl⟩
 rw [if_neg c3] at H
 have c3b0 := decide_eq_false c3
 clear c3
 revert H
 refine ok1 fun t714 A6 H => ?_
 by_cases c7 : t714 < 0
 ·rw [if_pos c7] at H
  have c7b0 := decide_eq_true c7
  clear c7
  obtain rfl := Option.some.inj H
  go_enter Tryd.func22, Tryd.ntmps22
  go_wp2_with (first | (refine bx 2 #[.int .i64 a0_0, .string a0_1, .slice A0_2 l0_2.length c0_2, .string a0_3] 41 ?_; intro gb713 hg w8 hbox hb; have BK713 := am (hbox); have GW713 := am (sz hg : w.heap.size ≤ gb713); have GE713 := am (sz hg : w.heap.size ≤ gb713); replace HB := am (below_step bl hb); clear hb hbox hg; obtain ⟨z9_0, y9_0, z9_1, y9_1, z9_2, y9_2, z9_3, y9_3⟩ := cl4 BK713) | (refine gl 15 Tryd.func41 #[.slice A0_2 l0_2.length c0_2, .int .i64 (wrap64 (a1 - (a0_1.size : Int)))] ?_; (with_reducible refine (laws_szFieldS.calls k _ _ l0_2 (wrap64 (a1 - (a0_1.size : Int))) t714 _ ?side1 ?side2 A6.out).mono ?_); (case side1 => exact cb HR0_2); (case side2 => exact HC0_2.out); rintro e w10 ⟨rfl, hb⟩; refine ⟨_, rfl, ?_⟩; replace BK713 := kb BK713 hb; replace HB := am (below_step bl hb); clear hb))
  go_ret
  exact ⟨rf, bl⟩
 rw [if_neg c7] at H
 have c7b0 := decide_eq_false c7
 clear c7
 by_cases c11 : (wrap64 (t714 - (a0_3.size : Int))) < 0
 ·rw [if_pos c11] at H
  have c11b0 := decide_eq_true c11
  clear c11
  obtain rfl := Option.some.inj H
  go_enter Tryd.func22, Tryd.ntmps22
  go_wp2_with (first | (refine bx 2 #[.int .i64 a0_0, .string a0_1, .slice A0_2 l0_2.length c0_2, .string a0_3] 41 ?_; intro gb713 hg w12 hbox hb; have BK713 := am (hbox); have GW713 := am (sz hg : w.heap.size ≤ gb713); have GE713 := am (sz hg : w.heap.size ≤ gb713); replace HB := am (below_step bl hb); clear hb hbox hg; obtain ⟨z13_0, y13_0, z13_1, y13_1, z13_2, y13_2, z13_3, y13_3⟩ := cl4 BK713) | (refine gl 15 Tryd.func41 #[.slice A0_2 l0_2.length c0_2, .int .i64 (wrap64 (a1 - (a0_1.size : Int)))] ?_; (with_reducible refine (laws_szFieldS.calls k _ _ l0_2 (wrap64 (a1 - (a0_1.size : Int))) t714 _ ?side1 ?side2 A6.out).mono ?_); (case side1 => exact cb HR0_2); (case side2 => exact HC0_2.out); rintro e w14 ⟨rfl, hb⟩; refine ⟨_, rfl, ?_⟩; replace BK713 := kb BK713 hb; replace HB := am (below_step bl hb); clear hb; obtain ⟨z15_0, y15_0, z15_1, y15_1, z15_2, y15_2, z15_3, y15_3⟩ := cl4 BK713))
  go_ret
  exact ⟨rf, bl⟩
 rw [if_neg c11] at H
 have c11b0 := decide_eq_false c11
 clear c11
 obtain rfl := Option.some.inj H
 go_enter Tryd.func22, Tryd.ntmps22
 go_wp2_with (first | (refine bx 2 #[.int .i64 a0_0, .string a0_1, .slice A0_2 l0_2.length c0_2, .string a0_3] 41 ?_; intro gb713 hg w16 hbox hb; have BK713 := am (hbox); have GW713 := am (sz hg : w.heap.size ≤ gb713); have GE713 := am (sz hg : w.heap.size ≤ gb713); replace HB := am (below_step bl hb); clear hb hbox hg; obtain ⟨z17_0, y17_0, z17_1, y17_1, z17_2, y17_2, z17_3, y17_3⟩ := cl4 BK713) | (refine gl 15 Tryd.func41 #[.slice A0_2 l0_2.length c0_2, .int .i64 (wrap64 (a1 - (a0_1.size : Int)))] ?_; (with_reducible refine (laws_szFieldS.calls k _ _ l0_2 (wrap64 (a1 - (a0_1.size : Int))) t714 _ ?side1 ?side2 A6.out).mono ?_); (case side1 => exact cb HR0_2); (case side2 => exact HC0_2.out); rintro e w18 ⟨rfl, hb⟩; refine ⟨_, rfl, ?_⟩; replace BK713 := kb BK713 hb; replace HB := am (below_step bl hb); clear hb; obtain ⟨z19_0, y19_0, z19_1, y19_1, z19_2, y19_2, z19_3, y19_3⟩ := cl4 BK713))
 go_ret
 exact ⟨rf, bl⟩

/-! ### laws_toReq: function 24 -/
def laws_toReq.f (k : Nat) (a0_0 : Int) (a0_1 : ByteArray) (l0_2 : List (S121)) (a0_3 : ByteArray) : Option (Int × ByteArray × (List (S84)) × ByteArray) := (laws_toFieldS.f k l0_2).bind fun t733 => (some (a0_0, a0_1, t733, a0_3))
theorem laws_toReq.mono : ∀ a0 a1 a2 a3 k, LeO (laws_toReq.f k a0 a1 a2 a3) (laws_toReq.f (k + 1) a0 a1 a2 a3) := by
 intro a0 a1 a2 a3 k
 unfold laws_toReq.f
 have m0 := @laws_toFieldS.mono
 exact mo
set_option maxHeartbeats 8000000 in
set_option maxRecDepth 100000 in
theorem laws_toReq.calls (k : Nat) (a0_0 : Int) (a0_1 : ByteArray) (A0_2 : Option Addr) (c0_2 : Nat) (l0_2 : List (S121)) (a0_3 : ByteArray) (r1 : Int) (r2 : ByteArray) (r3 : List (S84)) (r4 : ByteArray) (w : World) (hr0_2 : Kd.C k121 w A0_2 l0_2.length l0_2) (hc0_2 : l0_2.length ≤ c0_2) (h : laws_toReq.f k a0_0 a0_1 l0_2 a0_3 = some (r1, r2, r3, r4)) :
  Calls Tryd.prog 24 #[.agg #[.int .i64 a0_0, .string a0_1, .slice A0_2 l0_2.length c0_2, .string a0_3]] w fun e w' => ∃ v2_ : Value, e = .returned (.agg #[.int .i64 r1, .string r2, v2_, .string r4]) ∧ Kd.R k84 84 w' w.heap.size (fun _ => True) v2_ r3 ∧ Below w.heap.size w w' := by
 have hu41 := Tryd.underlying41
 have hu26 := Tryd.underlying26
 have HR0_2 := am hr0_2
 have HC0_2 := am hc0_2
 clear hr0_2 hc0_2
 have HB := am (Below.refl w.heap.size w)
 unfold laws_toReq.f at h
 have H := h
 clear h
 revert H
 refine ok1 fun t733 A2 H => ?_
 simp only [Option.some.injEq, Prod.mk.injEq] at H
 obtain ⟨rfl, rfl, rfl, rfl⟩ := H
 go_enter Tryd.func24, Tryd.ntmps24
 go_wp2_with (first | (refine bx 1 #[.int .i64 a0_0, .string a0_1, .slice A0_2 l0_2.length c0_2, .string a0_3] 41 ?_; intro gb730 hg w3 hbox hb; have BK730 := am (hbox); have GW730 := am (sz hg : w.heap.size ≤ gb730); have GE730 := am (sz hg : w.heap.size ≤ gb730); replace HB := am (below_step bl hb); clear hb hbox hg) | (refine bx 2 #[.int .i64 0, .string (⟨#[]⟩ : ByteArray), .slice none 0 0, .string (⟨#[]⟩ : ByteArray)] 26 ?_; intro gb731 hg w4 hbox hb; have BK731 := am (hbox); have GW731 := am (sz hg : w.heap.size ≤ gb731); have GE731 := am (sz hg : w.heap.size ≤ gb731); replace HB := am (below_step bl hb); have NB730_731 := am (nl hg BK730 : gb730 ≠ gb731); have NB731_730 := am (ng hg BK730 : gb731 ≠ gb730); replace BK730 := kb BK730 hb; clear hb hbox hg) | (refine bx 3 #[.int .i64 0, .string (⟨#[]⟩ : ByteArray), .slice none 0 0, .string (⟨#[]⟩ : ByteArray)] 26 ?_; intro gb732 hg w5 hbox hb; have BK732 := am (hbox); have GW732 := am (sz hg : w.heap.size ≤ gb732); have GE732 := am (sz hg : w.heap.size ≤ gb732); replace HB := am (below_step bl hb); have NB730_732 := am (nl hg BK730 : gb730 ≠ gb732); have NB732_730 := am (ng hg BK730 : gb732 ≠ gb730); replace BK730 := kb BK730 hb; have NB731_732 := am (nl hg BK731 : gb731 ≠ gb732); have NB732_731 := am (ng hg BK731 : gb732 ≠ gb731); replace BK731 := kb BK731 hb; clear hb hbox hg; have hnb6 := NB730_731.out; have hnc6 := NB731_730.out; have hnb7 := NB730_732.out; have hnc7 := NB732_730.out; obtain ⟨z8_0, y8_0, z8_1, y8_1, z8_2, y8_2, z8_3, y8_3⟩ := cl4 BK730; have hnb9 := NB732_731.out; have hnc9 := NB731_732.out; obtain ⟨z10_0, y10_0, z10_1, y10_1, z10_2, y10_2, z10_3, y10_3⟩ := cl4 BK732) | (refine gl 12 Tryd.func43 #[.slice A0_2 l0_2.length c0_2] ?_; (with_reducible refine (laws_toFieldS.calls k _ _ l0_2 t733 _ ?side1 ?side2 A2.out).mono ?_); (case side1 => exact Kd.C_below HR0_2.out bl); (case side2 => exact HC0_2.out); rintro e w11 ⟨v734, rfl, ho0, hb⟩; refine ⟨_, rfl, ?_⟩; have n0_ := am (Kd.R_lower ho0 (below_size bl)); have n1_ := kg1 BK730 NB730_732 hb; have n2_ := kg1 BK731 NB731_732 hb; have n3_ := am (blk_below (g := gb732) (o := .cells #[.int .i64 a0_0, .string a0_1, .slice none 0 0, .string (⟨#[]⟩ : ByteArray)] 26 (0, 0)) (by (with_reducible repeat (first | refine blk_drewN ?_ _ | refine blk_drew ?_ | refine blk_alloc ?_ _)); refine blk_put (cs := #[.int .i64 a0_0, .string (⟨#[]⟩ : ByteArray), .slice none 0 0, .string (⟨#[]⟩ : ByteArray)]) ?_ 1 _ rfl; (with_reducible repeat (first | refine blk_drewN ?_ _ | refine blk_drew ?_ | refine blk_alloc ?_ _)); refine blk_put (cs := #[.int .i64 0, .string (⟨#[]⟩ : ByteArray), .slice none 0 0, .string (⟨#[]⟩ : ByteArray)]) ?_ 0 _ rfl; (with_reducible repeat (first | refine blk_drewN ?_ _ | refine blk_drew ?_ | refine blk_alloc ?_ _)); exact BK732.out) hb); have n4_ := am (below_step bl hb); clear BK730; clear BK731; clear BK732; clear HB; have HO735 := n0_; have BK730 := n1_; have BK731 := n2_; have BK732 := n3_; have HB := n4_; clear n0_ n1_ n2_ n3_ n4_; clear hb ho0; obtain ⟨Ao12, co12, eo12⟩ := Kd.R_slice HO735.out; subst eo12; obtain ⟨z13_0, y13_0, z13_1, y13_1, z13_2, y13_2, z13_3, y13_3⟩ := cl4 BK732; obtain ⟨z14_0, y14_0, z14_1, y14_1, z14_2, y14_2, z14_3, y14_3⟩ := cl4 BK730; obtain ⟨z15_0, y15_0, z15_1, y15_1, z15_2, y15_2, z15_3, y15_3⟩ := cl4 BK731))
 refine bodyPost_ret (results_cell_row rfl _ _ gb731 26 #[.int .i64 a0_0, .string a0_1, .slice Ao12 t733.length co12, .string a0_3] (0, 0) _ rfl (by (with_reducible repeat (first | refine blk_drewN ?_ _ | refine blk_drew ?_ | refine blk_alloc ?_ _)); refine blk_put (cs := #[.int .i64 a0_0, .string a0_1, .slice Ao12 t733.length co12, .string (⟨#[]⟩ : ByteArray)]) ?_ 3 _ rfl; (with_reducible repeat (first | refine blk_drewN ?_ _ | refine blk_drew ?_ | refine blk_alloc ?_ _)); refine blk_put (cs := #[.int .i64 a0_0, .string a0_1, .slice none 0 0, .string (⟨#[]⟩ : ByteArray)]) ?_ 2 _ rfl; (with_reducible repeat (first | refine blk_drewN ?_ _ | refine blk_drew ?_ | refine blk_alloc ?_ _)); refine blk_put (cs := #[.int .i64 a0_0, .string (⟨#[]⟩ : ByteArray), .slice none 0 0, .string (⟨#[]⟩ : ByteArray)]) ?_ 1 _ rfl; (with_reducible repeat (first | refine blk_drewN ?_ _ | refine blk_drew ?_ | refine blk_alloc ?_ _)); refine blk_put (cs := #[.int .i64 0, .string (⟨#[]⟩ : ByteArray), .slice none 0 0, .string (⟨#[]⟩ : ByteArray)]) ?_ 0 _ rfl; (with_reducible repeat (first | refine blk_drewN ?_ _ | refine blk_drew ?_ | refine blk_alloc ?_ _)); refine blk_far ?_ NB731_732.out _; (with_reducible repeat (first | refine blk_drewN ?_ _ | refine blk_drew ?_ | refine blk_alloc ?_ _)); refine blk_far ?_ NB731_732.out _; (with_reducible repeat (first | refine blk_drewN ?_ _ | refine blk_drew ?_ | refine blk_alloc ?_ _)); exact BK731.out) Tryd.underlying26 rfl (by kernel_rfl)) rfl ?_
 exact ⟨_, rf, by (with_reducible repeat (first | apply Kd.R_alloc | apply Kd.R_drewN | apply Kd.R_drew)); exact Kd.R_mono (Kd.R_far (p := ⟨gb731, 3, none⟩) (Kd.R_far (p := ⟨gb731, 2, none⟩) (Kd.R_far (p := ⟨gb731, 1, none⟩) (Kd.R_far (p := ⟨gb731, 0, none⟩) (Kd.R_far (p := ⟨gb732, 3, none⟩) (Kd.R_far (p := ⟨gb732, 2, none⟩) (Kd.R_types (Kd.R_types HO735.out BK732.out (by decide)) BK731.out (by decide)) (fun _ hk => hk.1.2) (.slice Ao12 t733.length co12)) (fun _ hk => hk.1.2) (.string a0_3)) (fun _ hk => hk.2) (.int .i64 a0_0)) (fun _ hk => hk.2) (.string a0_1)) (fun _ hk => hk.2) (.slice Ao12 t733.length co12)) (fun _ hk => hk.2) (.string a0_3)) (fun _ hk => trivial), bl⟩

/-! ### laws_FnExactReqText: function 4 -/
def laws_FnExactReqText.f (k : Nat) (a0_0 : Int) (a0_1 : ByteArray) (l0_2 : List (S121)) (a0_3 : ByteArray) : Option (Bool) := (laws_szReq.f k a0_0 a0_1 l0_2 a0_3 1048576).bind fun t751 => (if t751 < 0 then (some true) else ((laws_toReq.f k a0_0 a0_1 l0_2 a0_3).bind fun bt752 => ((spec_ReqText.f k bt752.1 bt752.2.1 bt752.2.2.1 bt752.2.2.2).bind fun t758 => ((laws_toReq.f k a0_0 a0_1 l0_2 a0_3).bind fun bt759 => ((impl_ReqText.f k bt759.1 bt759.2.1 bt759.2.2.1 bt759.2.2.2).bind fun t766 => (if t766.toList = t758.toList then ((laws_toReq.f k a0_0 a0_1 l0_2 a0_3).bind fun bt767 => ((laws_eqReq.f k bt759.1 bt759.2.1 bt759.2.2.1 bt759.2.2.2 bt767.1 bt767.2.1 bt767.2.2.1 bt767.2.2.2).bind fun t773 => (if t773 = true then (some true) else (some false)))) else (some false)))))))
theorem laws_FnExactReqText.mono : ∀ a0 a1 a2 a3 k, LeO (laws_FnExactReqText.f k a0 a1 a2 a3) (laws_FnExactReqText.f (k + 1) a0 a1 a2 a3) := by
 intro a0 a1 a2 a3 k
 unfold laws_FnExactReqText.f
 have m0 := @impl_ReqText.mono
 have m1 := @laws_eqReq.mono
 have m2 := @laws_szReq.mono
 have m3 := @laws_toReq.mono
 have m4 := @spec_ReqText.mono
 exact mo
set_option maxHeartbeats 8000000 in
set_option maxRecDepth 100000 in
theorem laws_FnExactReqText.calls (k : Nat) (a0_0 : Int) (a0_1 : ByteArray) (A0_2 : Option Addr) (c0_2 : Nat) (l0_2 : List (S121)) (a0_3 : ByteArray) (r : Bool) (w : World) (hGT : GLOBT w) (hr0_2 : Kd.C k121 w A0_2 l0_2.length l0_2) (hc0_2 : l0_2.length ≤ c0_2) (ht_ : r = true) (h : laws_FnExactReqText.f k a0_0 a0_1 l0_2 a0_3 = some r) :
  Calls Tryd.prog 4 #[.agg #[.int .i64 a0_0, .string a0_1, .slice A0_2 l0_2.length c0_2, .string a0_3]] w fun e w' => e = .returned (.bool r) ∧ Below w.heap.size w w' := by
 have hu41 := Tryd.underlying41
 have hu26 := Tryd.underlying26
 have HR0_2 := am hr0_2
 have HC0_2 := am hc0_2
 clear hr0_2 hc0_2
 have HGT := am hGT
 clear hGT
 have HB := am (Below.refl w.heap.size w)
 unfold laws_FnExactReqText.f at h
 have H := h
 clear h
 revert H
 refine ok1 fun t751 A2 H => ?_
 by_cases c3 : t751 < 0
 ·rw [if_pos c3] at H
  have c3b0 := decide_eq_true c3
  clear c3
  obtain rfl := Option.some.inj H
  go_enter Tryd.func4, Tryd.ntmps4
  go_wp2_with (first | (refine bx 1 #[.int .i64 a0_0, .string a0_1, .slice A0_2 l0_2.length c0_2, .string a0_3] 41 ?_; intro gb750 hg w4 hbox hb; have BK750 := am (hbox); have GW750 := am (sz hg : w.heap.size ≤ gb750); have GE750 := am (sz hg : w.heap.size ≤ gb750); replace HB := am (below_step bl hb); clear hb hbox hg; obtain ⟨z5_0, y5_0, z5_1, y5_1, z5_2, y5_2, z5_3, y5_3⟩ := cl4 BK750) | (refine gl 9 Tryd.func22 #[.agg #[.int .i64 a0_0, .string a0_1, .slice A0_2 l0_2.length c0_2, .string a0_3], .int .i64 1048576] ?_; (with_reducible refine (laws_szReq.calls k a0_0 a0_1 _ _ l0_2 a0_3 1048576 t751 _ ?side1 ?side2 A2.out).mono ?_); (case side1 => exact cb HR0_2); (case side2 => exact HC0_2.out); rintro e w6 ⟨rfl, hb⟩; refine ⟨_, rfl, ?_⟩; replace BK750 := kb BK750 hb; replace HB := am (below_step bl hb); clear hb))
  go_ret
  exact ⟨rf, bl⟩
 rw [if_neg c3] at H
 have c3b0 := decide_eq_false c3
 clear c3
 revert H
 refine ok4 fun t752 t753 t754 t757 A7 H => ?_
 (try dsimp only at H)
 revert H
 refine ok1 fun t758 A8 H => ?_
 revert H
 refine ok4 fun t759 t760 t761 t764 A9 H => ?_
 (try dsimp only at H)
 revert H
 refine ok1 fun t766 A10 H => ?_
 by_cases c11 : t766.toList = t758.toList
 rotate_left
 ·rw [if_neg c11] at H
  have c11b0 : (t766.toList == t758.toList) = false := beq_eq_false_iff_ne.mpr c11
  have c11b1 : (t766.toList != t758.toList) = true := bne_iff_ne.mpr c11
  exact absurd (Option.some.inj H) (by rw [ht_]; decide)
 rw [if_pos c11] at H
 have c11b0 : (t766.toList == t758.toList) = true := beq_iff_eq.mpr c11
 have c11b1 : (t766.toList != t758.toList) = false := bne_eq_false_iff_eq.mpr c11
 clear c11
 revert H
 refine ok4 fun t767 t768 t769 t772 A12 H => ?_
 (try dsimp only at H)
 revert H
 refine ok1 fun t773 A13 H => ?_
 by_cases c14 : t773 = true
 rotate_left
 ·replace c14 := Bool.eq_false_iff.mpr c14
  subst c14
  rw [if_neg (show ¬ (false = true) by decide)] at H
  exact absurd (Option.some.inj H) (by rw [ht_]; decide)
 subst c14
 rw [if_pos rfl] at H
 obtain rfl := Option.some.inj H
 go_enter Tryd.func4, Tryd.ntmps4
 try go_wp2_with (first | (refine bx 1 #[.int .i64 a0_0, .string a0_1, .slice A0_2 l0_2.length c0_2, .string a0_3] 41 ?_; intro gb750 hg w15 hbox hb; have BK750 := am (hbox); have GW750 := am (sz hg : w.heap.size ≤ gb750); have GE750 := am (sz hg : w.heap.size ≤ gb750); replace HB := am (below_step bl hb); clear hb hbox hg; obtain ⟨z16_0, y16_0, z16_1, y16_1, z16_2, y16_2, z16_3, y16_3⟩ := cl4 BK750) | (refine gl 9 Tryd.func22 #[.agg #[.int .i64 a0_0, .string a0_1, .slice A0_2 l0_2.length c0_2, .string a0_3], .int .i64 1048576] ?_; (with_reducible refine (laws_szReq.calls k a0_0 a0_1 _ _ l0_2 a0_3 1048576 t751 _ ?side1 ?side2 A2.out).mono ?_); (case side1 => exact cb HR0_2); (case side2 => exact HC0_2.out); rintro e w17 ⟨rfl, hb⟩; refine ⟨_, rfl, ?_⟩; replace BK750 := kb BK750 hb; replace HB := am (below_step bl hb); clear hb; obtain ⟨z18_0, y18_0, z18_1, y18_1, z18_2, y18_2, z18_3, y18_3⟩ := cl4 BK750) | (refine gl 13 Tryd.func24 #[.agg #[.int .i64 a0_0, .string a0_1, .slice A0_2 l0_2.length c0_2, .string a0_3]] ?_; (with_reducible refine (laws_toReq.calls k a0_0 a0_1 _ _ l0_2 a0_3 t752 t753 t754 t757 _ ?side1 ?side2 A7.out).mono ?_); (case side1 => exact cb HR0_2); (case side2 => exact HC0_2.out); rintro e w19 ⟨v755, rfl, ho0, hb⟩; refine ⟨_, rfl, ?_⟩; have HO756 := am (Kd.R_lower ho0 (below_size bl)); replace BK750 := kb BK750 hb; replace HB := am (below_step bl hb); clear hb ho0; obtain ⟨Ao20, co20, eo20⟩ := Kd.R_slice HO756.out; subst eo20) | (refine gl 14 Tryd.func23 #[.agg #[.int .i64 t752, .string t753, .slice Ao20 t754.length co20, .string t757]] ?_; (with_reducible refine (spec_ReqText.calls k t752 t753 _ _ t754 t757 t758 _ ?side1 ?side2 A8.out).mono ?_); (case side1 => exact rc HO756); (case side2 => exact (Kd.R_reads' HO756.out).2.1); rintro e w21 ⟨rfl, hb⟩; refine ⟨_, rfl, ?_⟩; replace HO756 := kr HO756 hb; replace BK750 := kb BK750 hb; replace HB := am (below_step bl hb); clear hb; obtain ⟨z22_0, y22_0, z22_1, y22_1, z22_2, y22_2, z22_3, y22_3⟩ := cl4 BK750) | (refine gl 16 Tryd.func24 #[.agg #[.int .i64 a0_0, .string a0_1, .slice A0_2 l0_2.length c0_2, .string a0_3]] ?_; (with_reducible refine (laws_toReq.calls k a0_0 a0_1 _ _ l0_2 a0_3 t759 t760 t761 t764 _ ?side1 ?side2 A9.out).mono ?_); (case side1 => exact cb HR0_2); (case side2 => exact HC0_2.out); rintro e w23 ⟨v762, rfl, ho0, hb⟩; refine ⟨_, rfl, ?_⟩; have HO763 := am (Kd.R_lower (Kd.R_new' ho0 (Kd.R_lt (ro HO756))) (below_size bl)); replace HO756 := am (Kd.R_elder' (ro HO756) (Kd.R_base ho0) hb); replace BK750 := kb BK750 hb; replace HB := am (below_step bl hb); clear hb ho0) | (refine bx 5 #[.int .i64 0, .string (⟨#[]⟩ : ByteArray), .slice none 0 0, .string (⟨#[]⟩ : ByteArray)] 26 ?_; intro gb765 hg w24 hbox hb; replace HO756 := am (Kd.R_below (ro HO756) hb); replace HO763 := am (Kd.R_below (ro HO763) hb); have BK765 := am (hbox); have GW765 := am (sz hg : w.heap.size ≤ gb765); have GE765 := am (sz hg : w.heap.size ≤ gb765); replace HB := am (below_step bl hb); have NB750_765 := am (nl hg BK750 : gb750 ≠ gb765); have NB765_750 := am (ng hg BK750 : gb765 ≠ gb750); replace BK750 := kb BK750 hb; clear hb hbox hg; have hnb25 := NB765_750.out; have hnc25 := NB750_765.out; obtain ⟨z26_0, y26_0, z26_1, y26_1, z26_2, y26_2, z26_3, y26_3⟩ := cl4 BK765; obtain ⟨Ao27, co27, eo27⟩ := Kd.R_slice HO763.out; subst eo27) | (refine gl 18 Tryd.func25 #[.agg #[.int .i64 t759, .string t760, .slice Ao27 t761.length co27, .string t764]] ?_; (with_reducible refine (impl_ReqText.calls k t759 t760 _ _ t761 t764 t766 _ ?side1 ?side2 ?side3 A10.out).mono ?_); (case side1 => exact GLOBT.below HGT.out bl); (case side2 => refine (Kd.R_reads' (e := 84) (base := w.heap.size) (ok := fun k_ => (True ∧ some k_ ≠ (.slice Ao20 t754.length co20 : Value).ownBlock)) (n := t761.length) (c := co27) ?_).2.2; exact (by (with_reducible repeat (first | apply Kd.R_alloc | apply Kd.R_drewN | apply Kd.R_drew)); exact (Kd.R_mono (Kd.R_far (p := ⟨gb765, 3, none⟩) (Kd.R_far (p := ⟨gb765, 2, none⟩) (Kd.R_far (p := ⟨gb765, 1, none⟩) (Kd.R_far (p := ⟨gb765, 0, none⟩) (Kd.R_types HO763.out BK765.out (by decide)) (fun _ hk => hk.2) (.int .i64 t759)) (fun _ hk => hk.2) (.string t760)) (fun _ hk => hk.2) (.slice Ao27 t761.length co27)) (fun _ hk => hk.2) (.string t764)) (fun _ h_ => h_.1)))); (case side3 => exact (Kd.R_reads' HO763.out).2.1); rintro e w28 ⟨rfl, hb⟩; refine ⟨_, rfl, ?_⟩; have n0_ := am (Kd.R_below (by (with_reducible repeat (first | apply Kd.R_alloc | apply Kd.R_drewN | apply Kd.R_drew)); exact (Kd.R_mono (Kd.R_far (p := ⟨gb765, 3, none⟩) (Kd.R_far (p := ⟨gb765, 2, none⟩) (Kd.R_far (p := ⟨gb765, 1, none⟩) (Kd.R_far (p := ⟨gb765, 0, none⟩) (Kd.R_types HO756.out BK765.out (by decide)) (fun _ hk => hk.2) (.int .i64 t759)) (fun _ hk => hk.2) (.string t760)) (fun _ hk => hk.2) (.slice Ao27 t761.length co27)) (fun _ hk => hk.2) (.string t764)) (fun _ h_ => h_.1))) hb); have n1_ := am (Kd.R_below (by (with_reducible repeat (first | apply Kd.R_alloc | apply Kd.R_drewN | apply Kd.R_drew)); exact (Kd.R_mono (Kd.R_far (p := ⟨gb765, 3, none⟩) (Kd.R_far (p := ⟨gb765, 2, none⟩) (Kd.R_far (p := ⟨gb765, 1, none⟩) (Kd.R_far (p := ⟨gb765, 0, none⟩) (Kd.R_types HO763.out BK765.out (by decide)) (fun _ hk => hk.2) (.int .i64 t759)) (fun _ hk => hk.2) (.string t760)) (fun _ hk => hk.2) (.slice Ao27 t761.length co27)) (fun _ hk => hk.2) (.string t764)) (fun _ h_ => h_.1))) hb); have n2_ := kg1 BK750 NB750_765 hb; have n3_ := am (blk_below (g := gb765) (o := .cells #[.int .i64 t759, .string t760, .slice Ao27 t761.length co27, .string t764] 26 (0, 0)) (by (with_reducible repeat (first | refine blk_drewN ?_ _ | refine blk_drew ?_ | refine blk_alloc ?_ _)); refine blk_put (cs := #[.int .i64 t759, .string t760, .slice Ao27 t761.length co27, .string (⟨#[]⟩ : ByteArray)]) ?_ 3 _ rfl; (with_reducible repeat (first | refine blk_drewN ?_ _ | refine blk_drew ?_ | refine blk_alloc ?_ _)); refine blk_put (cs := #[.int .i64 t759, .string t760, .slice none 0 0, .string (⟨#[]⟩ : ByteArray)]) ?_ 2 _ rfl; (with_reducible repeat (first | refine blk_drewN ?_ _ | refine blk_drew ?_ | refine blk_alloc ?_ _)); refine blk_put (cs := #[.int .i64 t759, .string (⟨#[]⟩ : ByteArray), .slice none 0 0, .string (⟨#[]⟩ : ByteArray)]) ?_ 1 _ rfl; (with_reducible repeat (first | refine blk_drewN ?_ _ | refine blk_drew ?_ | refine blk_alloc ?_ _)); refine blk_put (cs := #[.int .i64 0, .string (⟨#[]⟩ : ByteArray), .slice none 0 0, .string (⟨#[]⟩ : ByteArray)]) ?_ 0 _ rfl; (with_reducible repeat (first | refine blk_drewN ?_ _ | refine blk_drew ?_ | refine blk_alloc ?_ _)); exact BK765.out) hb); have n4_ := am (below_step bl hb); clear HO756; clear HO763; clear BK750; clear BK765; clear HB; have HO756 := n0_; have HO763 := n1_; have BK750 := n2_; have BK765 := n3_; have HB := n4_; clear n0_ n1_ n2_ n3_ n4_; clear hb))
 replace HO756 := am (Kd.R_drew HO756.out)
 replace HO763 := am (Kd.R_drew HO763.out)
 replace BK750 := am (blk_drew BK750.out)
 replace BK765 := am (blk_drew BK765.out)
 replace HB := am (below_drew1 HB.out)
 refine start_ (n := 5) (S := fun w' => w'.cell? ⟨gb765, 0, none⟩ = some (.int .i64 t759) ∧ w'.cell? ⟨gb765, 1, none⟩ = some (.string t760) ∧ w'.cell? ⟨gb765, 2, none⟩ = some (.slice Ao27 t761.length co27) ∧ w'.cell? ⟨gb765, 3, none⟩ = some (.string t764) ∧ w'.cell? ⟨gb750, 0, none⟩ = some (.int .i64 a0_0) ∧ w'.cell? ⟨gb750, 1, none⟩ = some (.string a0_1) ∧ w'.cell? ⟨gb750, 2, none⟩ = some (.slice A0_2 l0_2.length c0_2) ∧ w'.cell? ⟨gb750, 3, none⟩ = some (.string a0_3)) (ds := []) ⟨br true [0, 5]⟩ (by kernel_rfl) rfl (by kernel_rfl) ⟨bc BK765, bc BK765, bc BK765, bc BK765, bc BK750, bc BK750, bc BK750, bc BK750⟩ (fun hHeld => ?_)
 generalize w28.drew = w29 at HO756 HO763 BK750 BK765 HB hHeld ⊢
 refine tk 0 22 [1, 4] ?_
 refine tk 1 23 [2, 3] ?_
 refine og 2 24 [3, 2] Tryd.func24 #[.agg #[.int .i64 a0_0, .string a0_1, .slice A0_2 l0_2.length c0_2, .string a0_3]] (fun K hK => ?_)
 with_reducible refine (laws_toReq.calls k a0_0 a0_1 _ _ l0_2 a0_3 t767 t768 t769 t772 _ ?side1 ?side2 A12.out).mono ?_
 (case side1 => exact cb HR0_2)
 (case side2 => exact HC0_2.out)
 rintro e w30 ⟨v770, rfl, ho0, hb⟩
 refine ⟨_, rfl, ?_⟩
 have HO771 := am (Kd.R_lower (Kd.R_new' (Kd.R_new' ho0 (Kd.R_lt (ro HO756))) (Kd.R_lt (ro HO763))) (below_size bl))
 replace HO756 := am (Kd.R_elder' (ro HO756) (Kd.R_base ho0) hb)
 replace HO763 := am (Kd.R_elder' (ro HO763) (Kd.R_base ho0) hb)
 replace BK750 := kb BK750 hb
 replace BK765 := kb BK765 hb
 replace HB := am (below_step bl hb)
 clear hb ho0
 obtain ⟨Ao31, co31, eo31⟩ := Kd.R_slice HO771.out
 (first | subst eo31 | (injection eo31 with f1_ f2_ f3_; have f4_ := f1_.symm; have f5_ := f3_.symm; clear f1_ f2_ f3_; subst f4_; subst f5_))
 refine hK.out _ _ ⟨bc BK765, bc BK765, bc BK765, bc BK765, bc BK750, bc BK750, bc BK750, bc BK750⟩ (fun hHeld => ?_)
 clear hK K
 refine nm 24 ?_
 refine og 3 25 [4, 1] Tryd.func26 #[.agg #[.int .i64 t759, .string t760, .slice Ao27 t761.length co27, .string t764], .agg #[.int .i64 t767, .string t768, .slice Ao31 t769.length co31, .string t772]] (fun K hK => ?_)
 with_reducible refine (laws_eqReq.calls k t759 t760 _ _ t761 t764 t767 t768 _ _ t769 t772 true _ ?side1 ?side2 ?side3 ?side4 A13.out).mono ?_
 (case side1 => exact rc HO763)
 (case side2 => exact (Kd.R_reads' HO763.out).2.1)
 (case side3 => exact rc HO771)
 (case side4 => exact (Kd.R_reads' HO771.out).2.1)
 rintro e w32 ⟨rfl, hb⟩
 refine ⟨_, rfl, ?_⟩
 replace HO756 := kr HO756 hb
 replace HO763 := kr HO763 hb
 replace HO771 := kr HO771 hb
 replace BK750 := kb BK750 hb
 replace BK765 := kb BK765 hb
 replace HB := am (below_step bl hb)
 clear hb
 refine hK.out _ _ ⟨bc BK765, bc BK765, bc BK765, bc BK765, bc BK750, bc BK750, bc BK750, bc BK750⟩ (fun hHeld => ?_)
 clear hK K
 refine nm 25 ?_
 refine pu 4 26 [5] ?_
 refine done_ (by kernel_rfl) ?_
 try go_wp2
 go_ret
 exact ⟨rf, bl⟩

end Go.Proofs.YtkgdcfaogdmcgaaDoor.All
