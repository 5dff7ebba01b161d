-- Written by a program of this session (wip/tools/hprint.py) out of the translation. Lean checks it.
import Derived.Test.YtdbgkookjpgnnaaGreatDoorAllx0
import Derived.Test.YtdbgkookjpgnnaaGreatDoorAllx22
namespace Go.Proofs.YtdbgkookjpgnnaaGreatDoor.All
open Go.RowKit Go.Proofs.YtdbgkookjpgnnaaGreatDoorW.PrintWords Go.Proofs.YtdbgkookjpgnnaaGreatDoorW.PrintLast Go.Proofs.YtdbgkookjpgnnaaGreatDoorW.PrintMore
attribute [local go_sem] max2_int min2_int max_two min_two max_three min_three max_four min_four   -- for this text's walks alone
set_option linter.unusedVariables false
set_option linter.unusedSimpArgs false

/-! ### laws_szResp: function 44 -/
def laws_szResp.f (k : Nat) (a0_0 : Int) (l0_1 : List (S115)) (a0_2 : ByteArray) (a1 : Int) : Option (Int) := (laws_szFieldS.f k l0_1 a1).bind fun t1225 => (if t1225 < 0 then (some (-1)) else (if (wrap64 (t1225 - (a0_2.size : Int))) < 0 then (some (-1)) else (some (wrap64 (t1225 - (a0_2.size : Int))))))
theorem laws_szResp.mono : ∀ a0 a1 a2 a3 k, LeO (laws_szResp.f k a0 a1 a2 a3) (laws_szResp.f (k + 1) a0 a1 a2 a3) := by
 intro a0 a1 a2 a3 k
 unfold laws_szResp.f
 have m0 := @laws_szFieldS.mono
 exact mo
set_option maxHeartbeats 8000000 in
set_option maxRecDepth 100000 in
theorem laws_szResp.calls (k : Nat) (a0_0 : Int) (A0_1 : Option Addr) (c0_1 : Nat) (l0_1 : List (S115)) (a0_2 : ByteArray) (a1 : Int) (r : Int) (w : World) (hr0_1 : Kd.C k115 w A0_1 l0_1.length l0_1) (hc0_1 : l0_1.length ≤ c0_1) (h : laws_szResp.f k a0_0 l0_1 a0_2 a1 = some r) :
  Calls Tryz.prog 44 #[.agg #[.int .i64 a0_0, .slice A0_1 l0_1.length c0_1, .string a0_2], .int .i64 a1] w fun e w' => e = .returned (.int .i64 r) ∧ Below w.heap.size w w' := by
 have hu65 := Tryz.underlying65
 have HR0_1 := am hr0_1
 have HC0_1 := am hc0_1
 clear hr0_1 hc0_1
 have HB := am (Below.refl w.heap.size w)
 unfold laws_szResp.f at h
 have H := h
 clear h
 revert H
 refine ok1 fun t1225 A3 H => ?_
 by_cases c4 : t1225 < 0
 ·rw [if_pos c4] at H
  have c4b0 := decide_eq_true c4
  clear c4
  obtain rfl := Option.some.inj H
  go_enter Tryz.func44, Tryz.ntmps44
  go_wp2_with (first | (refine bx 2 #[.int .i64 a0_0, .slice A0_1 l0_1.length c0_1, .string a0_2] 65 ?_; intro gb1224 hg w5 hbox hb; have BK1224 := am (hbox); have GW1224 := am (sz hg : w.heap.size ≤ gb1224); have GE1224 := am (sz hg : w.heap.size ≤ gb1224); replace HB := am (below_step bl hb); clear hb hbox hg; obtain ⟨z6_0, y6_0, z6_1, y6_1, z6_2, y6_2⟩ := cl3 BK1224) | (refine gl 8 Tryz.func21 #[.slice A0_1 l0_1.length c0_1, .int .i64 a1] ?_; (with_reducible refine (laws_szFieldS.calls k _ _ l0_1 a1 t1225 _ ?side1 ?side2 A3.out).mono ?_); (case side1 => exact cb HR0_1); (case side2 => exact HC0_1.out); rintro e w7 ⟨rfl, hb⟩; refine ⟨_, rfl, ?_⟩; replace BK1224 := kb BK1224 hb; replace HB := am (below_step bl hb); clear hb))
  go_ret
  exact ⟨rf, bl⟩
 rw [if_neg c4] at H
 have c4b0 := decide_eq_false c4
 clear c4
 by_cases c8 : (wrap64 (t1225 - (a0_2.size : Int))) < 0
 ·rw [if_pos c8] at H
  have c8b0 := decide_eq_true c8
  clear c8
  obtain rfl := Option.some.inj H
  go_enter Tryz.func44, Tryz.ntmps44
  go_wp2_with (first | (refine bx 2 #[.int .i64 a0_0, .slice A0_1 l0_1.length c0_1, .string a0_2] 65 ?_; intro gb1224 hg w9 hbox hb; have BK1224 := am (hbox); have GW1224 := am (sz hg : w.heap.size ≤ gb1224); have GE1224 := am (sz hg : w.heap.size ≤ gb1224); replace HB := am (below_step bl hb); clear hb hbox hg; obtain ⟨z10_0, y10_0, z10_1, y10_1, z10_2, y10_2⟩ := cl3 BK1224) | (refine gl 8 Tryz.func21 #[.slice A0_1 l0_1.length c0_1, .int .i64 a1] ?_; (with_reducible refine (laws_szFieldS.calls k _ _ l0_1 a1 t1225 _ ?side1 ?side2 A3.out).mono ?_); (case side1 => exact cb HR0_1); (case side2 => exact HC0_1.out); rintro e w11 ⟨rfl, hb⟩; refine ⟨_, rfl, ?_⟩; replace BK1224 := kb BK1224 hb; replace HB := am (below_step bl hb); clear hb; obtain ⟨z12_0, y12_0, z12_1, y12_1, z12_2, y12_2⟩ := cl3 BK1224))
  go_ret
  exact ⟨rf, bl⟩
 rw [if_neg c8] at H
 have c8b0 := decide_eq_false c8
 clear c8
 obtain rfl := Option.some.inj H
 go_enter Tryz.func44, Tryz.ntmps44
 go_wp2_with (first | (refine bx 2 #[.int .i64 a0_0, .slice A0_1 l0_1.length c0_1, .string a0_2] 65 ?_; intro gb1224 hg w13 hbox hb; have BK1224 := am (hbox); have GW1224 := am (sz hg : w.heap.size ≤ gb1224); have GE1224 := am (sz hg : w.heap.size ≤ gb1224); replace HB := am (below_step bl hb); clear hb hbox hg; obtain ⟨z14_0, y14_0, z14_1, y14_1, z14_2, y14_2⟩ := cl3 BK1224) | (refine gl 8 Tryz.func21 #[.slice A0_1 l0_1.length c0_1, .int .i64 a1] ?_; (with_reducible refine (laws_szFieldS.calls k _ _ l0_1 a1 t1225 _ ?side1 ?side2 A3.out).mono ?_); (case side1 => exact cb HR0_1); (case side2 => exact HC0_1.out); rintro e w15 ⟨rfl, hb⟩; refine ⟨_, rfl, ?_⟩; replace BK1224 := kb BK1224 hb; replace HB := am (below_step bl hb); clear hb; obtain ⟨z16_0, y16_0, z16_1, y16_1, z16_2, y16_2⟩ := cl3 BK1224))
 go_ret
 exact ⟨rf, bl⟩

/-! ### laws_toResp: function 47 -/
def laws_toResp.f (k : Nat) (a0_0 : Int) (l0_1 : List (S115)) (a0_2 : ByteArray) : Option (Int × (List (S116)) × ByteArray) := (laws_toFieldS.f k l0_1).bind fun t1235 => (some (a0_0, t1235, a0_2))
theorem laws_toResp.mono : ∀ a0 a1 a2 k, LeO (laws_toResp.f k a0 a1 a2) (laws_toResp.f (k + 1) a0 a1 a2) := by
 intro a0 a1 a2 k
 unfold laws_toResp.f
 have m0 := @laws_toFieldS.mono
 exact mo
set_option maxHeartbeats 8000000 in
set_option maxRecDepth 100000 in
theorem laws_toResp.calls (k : Nat) (a0_0 : Int) (A0_1 : Option Addr) (c0_1 : Nat) (l0_1 : List (S115)) (a0_2 : ByteArray) (r1 : Int) (r2 : List (S116)) (r3 : ByteArray) (w : World) (hr0_1 : Kd.C k115 w A0_1 l0_1.length l0_1) (hc0_1 : l0_1.length ≤ c0_1) (h : laws_toResp.f k a0_0 l0_1 a0_2 = some (r1, r2, r3)) :
  Calls Tryz.prog 47 #[.agg #[.int .i64 a0_0, .slice A0_1 l0_1.length c0_1, .string a0_2]] w fun e w' => ∃ v1_ : Value, e = .returned (.agg #[.int .i64 r1, v1_, .string r3]) ∧ Kd.R k116 116 w' w.heap.size (fun _ => True) v1_ r2 ∧ Below w.heap.size w w' := by
 have hu65 := Tryz.underlying65
 have hu29 := Tryz.underlying29
 have HR0_1 := am hr0_1
 have HC0_1 := am hc0_1
 clear hr0_1 hc0_1
 have HB := am (Below.refl w.heap.size w)
 unfold laws_toResp.f at h
 have H := h
 clear h
 revert H
 refine ok1 fun t1235 A2 H => ?_
 simp only [Option.some.injEq, Prod.mk.injEq] at H
 obtain ⟨rfl, rfl, rfl⟩ := H
 go_enter Tryz.func47, Tryz.ntmps47
 go_wp2_with (first | (refine bx 1 #[.int .i64 a0_0, .slice A0_1 l0_1.length c0_1, .string a0_2] 65 ?_; intro gb1232 hg w3 hbox hb; have BK1232 := am (hbox); have GW1232 := am (sz hg : w.heap.size ≤ gb1232); have GE1232 := am (sz hg : w.heap.size ≤ gb1232); replace HB := am (below_step bl hb); clear hb hbox hg) | (refine bx 2 #[.int .i64 0, .slice none 0 0, .string (⟨#[]⟩ : ByteArray)] 29 ?_; intro gb1233 hg w4 hbox hb; have BK1233 := am (hbox); have GW1233 := am (sz hg : w.heap.size ≤ gb1233); have GE1233 := am (sz hg : w.heap.size ≤ gb1233); replace HB := am (below_step bl hb); have NB1232_1233 := am (nl hg BK1232 : gb1232 ≠ gb1233); have NB1233_1232 := am (ng hg BK1232 : gb1233 ≠ gb1232); replace BK1232 := kb BK1232 hb; clear hb hbox hg) | (refine bx 3 #[.int .i64 0, .slice none 0 0, .string (⟨#[]⟩ : ByteArray)] 29 ?_; intro gb1234 hg w5 hbox hb; have BK1234 := am (hbox); have GW1234 := am (sz hg : w.heap.size ≤ gb1234); have GE1234 := am (sz hg : w.heap.size ≤ gb1234); replace HB := am (below_step bl hb); have NB1232_1234 := am (nl hg BK1232 : gb1232 ≠ gb1234); have NB1234_1232 := am (ng hg BK1232 : gb1234 ≠ gb1232); replace BK1232 := kb BK1232 hb; have NB1233_1234 := am (nl hg BK1233 : gb1233 ≠ gb1234); have NB1234_1233 := am (ng hg BK1233 : gb1234 ≠ gb1233); replace BK1233 := kb BK1233 hb; clear hb hbox hg; have hnb6 := NB1232_1233.out; have hnc6 := NB1233_1232.out; have hnb7 := NB1232_1234.out; have hnc7 := NB1234_1232.out; obtain ⟨z8_0, y8_0, z8_1, y8_1, z8_2, y8_2⟩ := cl3 BK1232; have hnb9 := NB1234_1233.out; have hnc9 := NB1233_1234.out; obtain ⟨z10_0, y10_0, z10_1, y10_1, z10_2, y10_2⟩ := cl3 BK1234) | (refine gl 9 Tryz.func23 #[.slice A0_1 l0_1.length c0_1] ?_; (with_reducible refine (laws_toFieldS.calls k _ _ l0_1 t1235 _ ?side1 ?side2 A2.out).mono ?_); (case side1 => exact Kd.C_below HR0_1.out bl); (case side2 => exact HC0_1.out); rintro e w11 ⟨v1236, rfl, ho0, hb⟩; refine ⟨_, rfl, ?_⟩; have HO1237 := am (Kd.R_lower ho0 (below_size bl)); replace BK1232 := kg1 BK1232 NB1232_1234 hb; replace BK1233 := kg1 BK1233 NB1233_1234 hb; replace BK1234 := am (blk_below (g := gb1234) (o := .cells #[.int .i64 a0_0, .slice none 0 0, .string (⟨#[]⟩ : ByteArray)] 29 (0, 0)) (pt0 BK1234) hb); replace HB := am (below_step bl hb); clear hb ho0; obtain ⟨Ao12, co12, eo12⟩ := Kd.R_slice HO1237.out; subst eo12; obtain ⟨z13_0, y13_0, z13_1, y13_1, z13_2, y13_2⟩ := cl3 BK1234; obtain ⟨z14_0, y14_0, z14_1, y14_1, z14_2, y14_2⟩ := cl3 BK1232; obtain ⟨z15_0, y15_0, z15_1, y15_1, z15_2, y15_2⟩ := cl3 BK1233))
 refine bodyPost_ret (results_cell_row rfl _ _ gb1233 29 #[.int .i64 a0_0, .slice Ao12 t1235.length co12, .string a0_2] (0, 0) _ rfl (pt1 BK1233 NB1233_1234) Tryz.underlying29 rfl (by kernel_rfl)) rfl ?_
 exact ⟨_, rf, rg (Kd.R_types (Kd.R_types HO1237.out BK1234.out (by decide)) BK1233.out (by decide)), bl⟩

/-! ### laws_eqResp: function 50 -/
def laws_eqResp.f (k : Nat) (a0_0 : Int) (l0_1 : List (S116)) (a0_2 : ByteArray) (a1_0 : Int) (l1_1 : List (S116)) (a1_2 : ByteArray) : Option (Bool) := if a0_0 = a1_0 then ((laws_eqFieldS.f k l0_1 l1_1).bind fun t1268 => (if t1268 = true then (if a0_2.toList = a1_2.toList then (some true) else (some false)) else (some false))) else (some false)
theorem laws_eqResp.mono : ∀ a0 a1 a2 a3 a4 a5 k, LeO (laws_eqResp.f k a0 a1 a2 a3 a4 a5) (laws_eqResp.f (k + 1) a0 a1 a2 a3 a4 a5) := by
 intro a0 a1 a2 a3 a4 a5 k
 unfold laws_eqResp.f
 have m0 := @laws_eqFieldS.mono
 exact mo
set_option maxHeartbeats 8000000 in
set_option maxRecDepth 100000 in
theorem laws_eqResp.calls (k : Nat) (a0_0 : Int) (A0_1 : Option Addr) (c0_1 : Nat) (l0_1 : List (S116)) (a0_2 : ByteArray) (a1_0 : Int) (A1_1 : Option Addr) (c1_1 : Nat) (l1_1 : List (S116)) (a1_2 : ByteArray) (r : Bool) (w : World) (hr0_1 : Kd.C k116 w A0_1 l0_1.length l0_1) (hc0_1 : l0_1.length ≤ c0_1) (hr1_1 : Kd.C k116 w A1_1 l1_1.length l1_1) (hc1_1 : l1_1.length ≤ c1_1) (h : laws_eqResp.f k a0_0 l0_1 a0_2 a1_0 l1_1 a1_2 = some r) :
  Calls Tryz.prog 50 #[.agg #[.int .i64 a0_0, .slice A0_1 l0_1.length c0_1, .string a0_2], .agg #[.int .i64 a1_0, .slice A1_1 l1_1.length c1_1, .string a1_2]] w fun e w' => e = .returned (.bool r) ∧ Below w.heap.size w w' := by
 have hu29 := Tryz.underlying29
 have HR0_1 := am hr0_1
 have HC0_1 := am hc0_1
 clear hr0_1 hc0_1
 have HR1_1 := am hr1_1
 have HC1_1 := am hc1_1
 clear hr1_1 hc1_1
 have HB := am (Below.refl w.heap.size w)
 unfold laws_eqResp.f at h
 have H := h
 clear h
 by_cases c3 : a0_0 = a1_0
 rotate_left
 ·rw [if_neg c3] at H
  have c3b0 : (a0_0 == a1_0) = false := beq_eq_false_iff_ne.mpr c3
  have c3b1 : (a0_0 != a1_0) = true := bne_iff_ne.mpr c3
  obtain rfl := Option.some.inj H
  go_enter Tryz.func50, Tryz.ntmps50
  go_wp2_with (first | (refine bx 2 #[.int .i64 a0_0, .slice A0_1 l0_1.length c0_1, .string a0_2] 29 ?_; intro gb1266 hg w29 hbox hb; have BK1266 := am (hbox); have GW1266 := am (sz hg : w.heap.size ≤ gb1266); have GE1266 := am (sz hg : w.heap.size ≤ gb1266); replace HB := am (below_step bl hb); clear hb hbox hg) | (refine bx 3 #[.int .i64 a1_0, .slice A1_1 l1_1.length c1_1, .string a1_2] 29 ?_; intro gb1267 hg w30 hbox hb; have BK1267 := am (hbox); have GW1267 := am (sz hg : w.heap.size ≤ gb1267); have GE1267 := am (sz hg : w.heap.size ≤ gb1267); replace HB := am (below_step bl hb); have NB1266_1267 := am (nl hg BK1266 : gb1266 ≠ gb1267); have NB1267_1266 := am (ng hg BK1266 : gb1267 ≠ gb1266); replace BK1266 := kb BK1266 hb; clear hb hbox hg; have hnb31 := NB1266_1267.out; have hnc31 := NB1267_1266.out; obtain ⟨z32_0, y32_0, z32_1, y32_1, z32_2, y32_2⟩ := cl3 BK1266; obtain ⟨z33_0, y33_0, z33_1, y33_1, z33_2, y33_2⟩ := cl3 BK1267))
  go_ret
  exact ⟨rf, bl⟩
 rw [if_pos c3] at H
 have c3b0 : (a0_0 == a1_0) = true := beq_iff_eq.mpr c3
 have c3b1 : (a0_0 != a1_0) = false := bne_eq_false_iff_eq.mpr c3
 clear c3
 revert H
 refine ok1 fun t1268 A4 H => ?_
 by_cases c5 : t1268 = true
 rotate_left
 ·replace c5 := Bool.eq_false_iff.mpr c5
  subst c5
  rw [if_neg (show ¬ (false = true) by decide)] at H
  obtain rfl := Option.some.inj H
  go_enter Tryz.func50, Tryz.ntmps50
  go_wp2_with (first | (refine bx 2 #[.int .i64 a0_0, .slice A0_1 l0_1.length c0_1, .string a0_2] 29 ?_; intro gb1266 hg w23 hbox hb; have BK1266 := am (hbox); have GW1266 := am (sz hg : w.heap.size ≤ gb1266); have GE1266 := am (sz hg : w.heap.size ≤ gb1266); replace HB := am (below_step bl hb); clear hb hbox hg) | (refine bx 3 #[.int .i64 a1_0, .slice A1_1 l1_1.length c1_1, .string a1_2] 29 ?_; intro gb1267 hg w24 hbox hb; have BK1267 := am (hbox); have GW1267 := am (sz hg : w.heap.size ≤ gb1267); have GE1267 := am (sz hg : w.heap.size ≤ gb1267); replace HB := am (below_step bl hb); have NB1266_1267 := am (nl hg BK1266 : gb1266 ≠ gb1267); have NB1267_1266 := am (ng hg BK1266 : gb1267 ≠ gb1266); replace BK1266 := kb BK1266 hb; clear hb hbox hg; have hnb25 := NB1266_1267.out; have hnc25 := NB1267_1266.out; obtain ⟨z26_0, y26_0, z26_1, y26_1, z26_2, y26_2⟩ := cl3 BK1266; obtain ⟨z27_0, y27_0, z27_1, y27_1, z27_2, y27_2⟩ := cl3 BK1267) | (refine gl 14 Tryz.func25 #[.slice A0_1 l0_1.length c0_1, .slice A1_1 l1_1.length c1_1] ?_; (with_reducible refine (laws_eqFieldS.calls k _ _ l0_1 _ _ l1_1 false _ ?side1 ?side2 ?side3 ?side4 A4.out).mono ?_); (case side1 => exact cb HR0_1); (case side2 => exact HC0_1.out); (case side3 => exact cb HR1_1); (case side4 => exact HC1_1.out); rintro e w28 ⟨rfl, hb⟩; refine ⟨_, rfl, ?_⟩; replace BK1266 := kb BK1266 hb; replace BK1267 := kb BK1267 hb; replace HB := am (below_step bl hb); clear hb))
  go_ret
  exact ⟨rf, bl⟩
 subst c5
 rw [if_pos rfl] at H
 by_cases c6 : a0_2.toList = a1_2.toList
 rotate_left
 ·rw [if_neg c6] at H
  have c6b0 : (a0_2.toList == a1_2.toList) = false := beq_eq_false_iff_ne.mpr c6
  have c6b1 : (a0_2.toList != a1_2.toList) = true := bne_iff_ne.mpr c6
  obtain rfl := Option.some.inj H
  go_enter Tryz.func50, Tryz.ntmps50
  go_wp2_with (first | (refine bx 2 #[.int .i64 a0_0, .slice A0_1 l0_1.length c0_1, .string a0_2] 29 ?_; intro gb1266 hg w15 hbox hb; have BK1266 := am (hbox); have GW1266 := am (sz hg : w.heap.size ≤ gb1266); have GE1266 := am (sz hg : w.heap.size ≤ gb1266); replace HB := am (below_step bl hb); clear hb hbox hg) | (refine bx 3 #[.int .i64 a1_0, .slice A1_1 l1_1.length c1_1, .string a1_2] 29 ?_; intro gb1267 hg w16 hbox hb; have BK1267 := am (hbox); have GW1267 := am (sz hg : w.heap.size ≤ gb1267); have GE1267 := am (sz hg : w.heap.size ≤ gb1267); replace HB := am (below_step bl hb); have NB1266_1267 := am (nl hg BK1266 : gb1266 ≠ gb1267); have NB1267_1266 := am (ng hg BK1266 : gb1267 ≠ gb1266); replace BK1266 := kb BK1266 hb; clear hb hbox hg; have hnb17 := NB1266_1267.out; have hnc17 := NB1267_1266.out; obtain ⟨z18_0, y18_0, z18_1, y18_1, z18_2, y18_2⟩ := cl3 BK1266; obtain ⟨z19_0, y19_0, z19_1, y19_1, z19_2, y19_2⟩ := cl3 BK1267) | (refine gl 14 Tryz.func25 #[.slice A0_1 l0_1.length c0_1, .slice A1_1 l1_1.length c1_1] ?_; (with_reducible refine (laws_eqFieldS.calls k _ _ l0_1 _ _ l1_1 true _ ?side1 ?side2 ?side3 ?side4 A4.out).mono ?_); (case side1 => exact cb HR0_1); (case side2 => exact HC0_1.out); (case side3 => exact cb HR1_1); (case side4 => exact HC1_1.out); rintro e w20 ⟨rfl, hb⟩; refine ⟨_, rfl, ?_⟩; replace BK1266 := kb BK1266 hb; replace BK1267 := kb BK1267 hb; replace HB := am (below_step bl hb); clear hb; obtain ⟨z21_0, y21_0, z21_1, y21_1, z21_2, y21_2⟩ := cl3 BK1266; obtain ⟨z22_0, y22_0, z22_1, y22_1, z22_2, y22_2⟩ := cl3 BK1267))
  go_ret
  exact ⟨rf, bl⟩
 rw [if_pos c6] at H
 have c6b0 : (a0_2.toList == a1_2.toList) = true := beq_iff_eq.mpr c6
 have c6b1 : (a0_2.toList != a1_2.toList) = false := bne_eq_false_iff_eq.mpr c6
 clear c6
 obtain rfl := Option.some.inj H
 go_enter Tryz.func50, Tryz.ntmps50
 go_wp2_with (first | (refine bx 2 #[.int .i64 a0_0, .slice A0_1 l0_1.length c0_1, .string a0_2] 29 ?_; intro gb1266 hg w7 hbox hb; have BK1266 := am (hbox); have GW1266 := am (sz hg : w.heap.size ≤ gb1266); have GE1266 := am (sz hg : w.heap.size ≤ gb1266); replace HB := am (below_step bl hb); clear hb hbox hg) | (refine bx 3 #[.int .i64 a1_0, .slice A1_1 l1_1.length c1_1, .string a1_2] 29 ?_; intro gb1267 hg w8 hbox hb; have BK1267 := am (hbox); have GW1267 := am (sz hg : w.heap.size ≤ gb1267); have GE1267 := am (sz hg : w.heap.size ≤ gb1267); replace HB := am (below_step bl hb); have NB1266_1267 := am (nl hg BK1266 : gb1266 ≠ gb1267); have NB1267_1266 := am (ng hg BK1266 : gb1267 ≠ gb1266); replace BK1266 := kb BK1266 hb; clear hb hbox hg; have hnb9 := NB1266_1267.out; have hnc9 := NB1267_1266.out; obtain ⟨z10_0, y10_0, z10_1, y10_1, z10_2, y10_2⟩ := cl3 BK1266; obtain ⟨z11_0, y11_0, z11_1, y11_1, z11_2, y11_2⟩ := cl3 BK1267) | (refine gl 14 Tryz.func25 #[.slice A0_1 l0_1.length c0_1, .slice A1_1 l1_1.length c1_1] ?_; (with_reducible refine (laws_eqFieldS.calls k _ _ l0_1 _ _ l1_1 true _ ?side1 ?side2 ?side3 ?side4 A4.out).mono ?_); (case side1 => exact cb HR0_1); (case side2 => exact HC0_1.out); (case side3 => exact cb HR1_1); (case side4 => exact HC1_1.out); rintro e w12 ⟨rfl, hb⟩; refine ⟨_, rfl, ?_⟩; replace BK1266 := kb BK1266 hb; replace BK1267 := kb BK1267 hb; replace HB := am (below_step bl hb); clear hb; obtain ⟨z13_0, y13_0, z13_1, y13_1, z13_2, y13_2⟩ := cl3 BK1266; obtain ⟨z14_0, y14_0, z14_1, y14_1, z14_2, y14_2⟩ := cl3 BK1267))
 go_ret
 exact ⟨rf, bl⟩

end Go.Proofs.YtdbgkookjpgnnaaGreatDoor.All
