-- Written by a program of this session (wip/tools/hprint.py) out of the translation. Lean checks it.
import Derived.Test.YtdbgkookjpgnnaaGreatDoorAllx0
import Derived.Test.YtdbgkookjpgnnaaGreatDoorAllx22
namespace Go.Proofs.YtdbgkookjpgnnaaGreatDoor.All
open Go.RowKit Go.Proofs.YtdbgkookjpgnnaaGreatDoorW.PrintWords Go.Proofs.YtdbgkookjpgnnaaGreatDoorW.PrintLast Go.Proofs.YtdbgkookjpgnnaaGreatDoorW.PrintMore
attribute [local go_sem] max2_int min2_int max_two min_two max_three min_three max_four min_four   -- for this text's walks alone
set_option linter.unusedVariables false
set_option linter.unusedSimpArgs false

/-! ### laws_szReq: function 43 -/
def laws_szReq.f (k : Nat) (a0_0 : Int) (a0_1 : ByteArray) (l0_2 : List (S115)) (a0_3 : ByteArray) (a1 : Int) : Option (Int) := if (wrap64 (a1 - (a0_1.size : Int))) < 0 then (some (-1)) else ((laws_szFieldS.f k l0_2 (wrap64 (a1 - (a0_1.size : Int)))).bind fun t1223 => (if t1223 < 0 then (some (-1)) else (if (wrap64 (t1223 - (a0_3.size : Int))) < 0 then (some (-1)) else (some (wrap64 (t1223 - (a0_3.size : Int)))))))
theorem laws_szReq.mono : ∀ a0 a1 a2 a3 a4 k, LeO (laws_szReq.f k a0 a1 a2 a3 a4) (laws_szReq.f (k + 1) a0 a1 a2 a3 a4) := by
 intro a0 a1 a2 a3 a4 k
 unfold laws_szReq.f
 have m0 := @laws_szFieldS.mono
 exact mo
set_option maxHeartbeats 8000000 in
set_option maxRecDepth 100000 in
theorem laws_szReq.calls (k : Nat) (a0_0 : Int) (a0_1 : ByteArray) (A0_2 : Option Addr) (c0_2 : Nat) (l0_2 : List (S115)) (a0_3 : ByteArray) (a1 : Int) (r : Int) (w : World) (hr0_2 : Kd.C k115 w A0_2 l0_2.length l0_2) (hc0_2 : l0_2.length ≤ c0_2) (h : laws_szReq.f k a0_0 a0_1 l0_2 a0_3 a1 = some r) :
  Calls Tryz.prog 43 #[.agg #[.int .i64 a0_0, .string a0_1, .slice A0_2 l0_2.length c0_2, .string a0_3], .int .i64 a1] w fun e w' => e = .returned (.int .i64 r) ∧ Below w.heap.size w w' := by
 have hu63 := Tryz.underlying63
 have HR0_2 := am hr0_2
 have HC0_2 := am hc0_2
 clear hr0_2 hc0_2
 have HB := am (Below.refl w.heap.size w)
 unfold laws_szReq.f at h
 have H := h
 clear h
 by_cases c3 : (wrap64 (a1 - (a0_1.size : Int))) < 0
 ·rw [if_pos c3] at H
  have c3b0 := decide_eq_true c3
  clear c3
  obtain rfl := Option.some.inj H
  go_enter Tryz.func43, Tryz.ntmps43
  go_wp2_with (first | (refine bx 2 #[.int .i64 a0_0, .string a0_1, .slice A0_2 l0_2.length c0_2, .string a0_3] 63 ?_; intro gb1222 hg w4 hbox hb; have BK1222 := am (hbox); have GW1222 := am (sz hg : w.heap.size ≤ gb1222); have GE1222 := am (sz hg : w.heap.size ≤ gb1222); replace HB := am (below_step bl hb); clear hb hbox hg; obtain ⟨z5_0, y5_0, z5_1, y5_1, z5_2, y5_2, z5_3, y5_3⟩ := cl4 BK1222))
  go_ret
  exact ⟨rf, bl⟩
 rw [if_neg c3] at H
 have c3b0 := decide_eq_false c3
 clear c3
 revert H
 refine ok1 fun t1223 A6 H => ?_
 by_cases c7 : t1223 < 0
 ·rw [if_pos c7] at H
  have c7b0 := decide_eq_true c7
  clear c7
  obtain rfl := Option.some.inj H
  go_enter Tryz.func43, Tryz.ntmps43
  go_wp2_with (first | (refine bx 2 #[.int .i64 a0_0, .string a0_1, .slice A0_2 l0_2.length c0_2, .string a0_3] 63 ?_; intro gb1222 hg w8 hbox hb; have BK1222 := am (hbox); have GW1222 := am (sz hg : w.heap.size ≤ gb1222); have GE1222 := am (sz hg : w.heap.size ≤ gb1222); replace HB := am (below_step bl hb); clear hb hbox hg; obtain ⟨z9_0, y9_0, z9_1, y9_1, z9_2, y9_2, z9_3, y9_3⟩ := cl4 BK1222) | (refine gl 15 Tryz.func21 #[.slice A0_2 l0_2.length c0_2, .int .i64 (wrap64 (a1 - (a0_1.size : Int)))] ?_; (with_reducible refine (laws_szFieldS.calls k _ _ l0_2 (wrap64 (a1 - (a0_1.size : Int))) t1223 _ ?side1 ?side2 A6.out).mono ?_); (case side1 => exact cb HR0_2); (case side2 => exact HC0_2.out); rintro e w10 ⟨rfl, hb⟩; refine ⟨_, rfl, ?_⟩; replace BK1222 := kb BK1222 hb; replace HB := am (below_step bl hb); clear hb))
  go_ret
  exact ⟨rf, bl⟩
 rw [if_neg c7] at H
 have c7b0 := decide_eq_false c7
 clear c7
 by_cases c11 : (wrap64 (t1223 - (a0_3.size : Int))) < 0
 ·rw [if_pos c11] at H
  have c11b0 := decide_eq_true c11
  clear c11
  obtain rfl := Option.some.inj H
  go_enter Tryz.func43, Tryz.ntmps43
  go_wp2_with (first | (refine bx 2 #[.int .i64 a0_0, .string a0_1, .slice A0_2 l0_2.length c0_2, .string a0_3] 63 ?_; intro gb1222 hg w12 hbox hb; have BK1222 := am (hbox); have GW1222 := am (sz hg : w.heap.size ≤ gb1222); have GE1222 := am (sz hg : w.heap.size ≤ gb1222); replace HB := am (below_step bl hb); clear hb hbox hg; obtain ⟨z13_0, y13_0, z13_1, y13_1, z13_2, y13_2, z13_3, y13_3⟩ := cl4 BK1222) | (refine gl 15 Tryz.func21 #[.slice A0_2 l0_2.length c0_2, .int .i64 (wrap64 (a1 - (a0_1.size : Int)))] ?_; (with_reducible refine (laws_szFieldS.calls k _ _ l0_2 (wrap64 (a1 - (a0_1.size : Int))) t1223 _ ?side1 ?side2 A6.out).mono ?_); (case side1 => exact cb HR0_2); (case side2 => exact HC0_2.out); rintro e w14 ⟨rfl, hb⟩; refine ⟨_, rfl, ?_⟩; replace BK1222 := kb BK1222 hb; replace HB := am (below_step bl hb); clear hb; obtain ⟨z15_0, y15_0, z15_1, y15_1, z15_2, y15_2, z15_3, y15_3⟩ := cl4 BK1222))
  go_ret
  exact ⟨rf, bl⟩
 rw [if_neg c11] at H
 have c11b0 := decide_eq_false c11
 clear c11
 obtain rfl := Option.some.inj H
 go_enter Tryz.func43, Tryz.ntmps43
 go_wp2_with (first | (refine bx 2 #[.int .i64 a0_0, .string a0_1, .slice A0_2 l0_2.length c0_2, .string a0_3] 63 ?_; intro gb1222 hg w16 hbox hb; have BK1222 := am (hbox); have GW1222 := am (sz hg : w.heap.size ≤ gb1222); have GE1222 := am (sz hg : w.heap.size ≤ gb1222); replace HB := am (below_step bl hb); clear hb hbox hg; obtain ⟨z17_0, y17_0, z17_1, y17_1, z17_2, y17_2, z17_3, y17_3⟩ := cl4 BK1222) | (refine gl 15 Tryz.func21 #[.slice A0_2 l0_2.length c0_2, .int .i64 (wrap64 (a1 - (a0_1.size : Int)))] ?_; (with_reducible refine (laws_szFieldS.calls k _ _ l0_2 (wrap64 (a1 - (a0_1.size : Int))) t1223 _ ?side1 ?side2 A6.out).mono ?_); (case side1 => exact cb HR0_2); (case side2 => exact HC0_2.out); rintro e w18 ⟨rfl, hb⟩; refine ⟨_, rfl, ?_⟩; replace BK1222 := kb BK1222 hb; replace HB := am (below_step bl hb); clear hb; obtain ⟨z19_0, y19_0, z19_1, y19_1, z19_2, y19_2, z19_3, y19_3⟩ := cl4 BK1222))
 go_ret
 exact ⟨rf, bl⟩

/-! ### laws_toReq: function 46 -/
def laws_toReq.f (k : Nat) (a0_0 : Int) (a0_1 : ByteArray) (l0_2 : List (S115)) (a0_3 : ByteArray) : Option (Int × ByteArray × (List (S116)) × ByteArray) := (laws_toFieldS.f k l0_2).bind fun t1229 => (some (a0_0, a0_1, t1229, a0_3))
theorem laws_toReq.mono : ∀ a0 a1 a2 a3 k, LeO (laws_toReq.f k a0 a1 a2 a3) (laws_toReq.f (k + 1) a0 a1 a2 a3) := by
 intro a0 a1 a2 a3 k
 unfold laws_toReq.f
 have m0 := @laws_toFieldS.mono
 exact mo
set_option maxHeartbeats 8000000 in
set_option maxRecDepth 100000 in
theorem laws_toReq.calls (k : Nat) (a0_0 : Int) (a0_1 : ByteArray) (A0_2 : Option Addr) (c0_2 : Nat) (l0_2 : List (S115)) (a0_3 : ByteArray) (r1 : Int) (r2 : ByteArray) (r3 : List (S116)) (r4 : ByteArray) (w : World) (hr0_2 : Kd.C k115 w A0_2 l0_2.length l0_2) (hc0_2 : l0_2.length ≤ c0_2) (h : laws_toReq.f k a0_0 a0_1 l0_2 a0_3 = some (r1, r2, r3, r4)) :
  Calls Tryz.prog 46 #[.agg #[.int .i64 a0_0, .string a0_1, .slice A0_2 l0_2.length c0_2, .string a0_3]] w fun e w' => ∃ v2_ : Value, e = .returned (.agg #[.int .i64 r1, .string r2, v2_, .string r4]) ∧ Kd.R k116 116 w' w.heap.size (fun _ => True) v2_ r3 ∧ Below w.heap.size w w' := by
 have hu63 := Tryz.underlying63
 have hu70 := Tryz.underlying70
 have HR0_2 := am hr0_2
 have HC0_2 := am hc0_2
 clear hr0_2 hc0_2
 have HB := am (Below.refl w.heap.size w)
 unfold laws_toReq.f at h
 have H := h
 clear h
 revert H
 refine ok1 fun t1229 A2 H => ?_
 simp only [Option.some.injEq, Prod.mk.injEq] at H
 obtain ⟨rfl, rfl, rfl, rfl⟩ := H
 go_enter Tryz.func46, Tryz.ntmps46
 go_wp2_with (first | (refine bx 1 #[.int .i64 a0_0, .string a0_1, .slice A0_2 l0_2.length c0_2, .string a0_3] 63 ?_; intro gb1226 hg w3 hbox hb; have BK1226 := am (hbox); have GW1226 := am (sz hg : w.heap.size ≤ gb1226); have GE1226 := am (sz hg : w.heap.size ≤ gb1226); replace HB := am (below_step bl hb); clear hb hbox hg) | (refine bx 2 #[.int .i64 0, .string (⟨#[]⟩ : ByteArray), .slice none 0 0, .string (⟨#[]⟩ : ByteArray)] 70 ?_; intro gb1227 hg w4 hbox hb; have BK1227 := am (hbox); have GW1227 := am (sz hg : w.heap.size ≤ gb1227); have GE1227 := am (sz hg : w.heap.size ≤ gb1227); replace HB := am (below_step bl hb); have NB1226_1227 := am (nl hg BK1226 : gb1226 ≠ gb1227); have NB1227_1226 := am (ng hg BK1226 : gb1227 ≠ gb1226); replace BK1226 := kb BK1226 hb; clear hb hbox hg) | (refine bx 3 #[.int .i64 0, .string (⟨#[]⟩ : ByteArray), .slice none 0 0, .string (⟨#[]⟩ : ByteArray)] 70 ?_; intro gb1228 hg w5 hbox hb; have BK1228 := am (hbox); have GW1228 := am (sz hg : w.heap.size ≤ gb1228); have GE1228 := am (sz hg : w.heap.size ≤ gb1228); replace HB := am (below_step bl hb); have NB1226_1228 := am (nl hg BK1226 : gb1226 ≠ gb1228); have NB1228_1226 := am (ng hg BK1226 : gb1228 ≠ gb1226); replace BK1226 := kb BK1226 hb; have NB1227_1228 := am (nl hg BK1227 : gb1227 ≠ gb1228); have NB1228_1227 := am (ng hg BK1227 : gb1228 ≠ gb1227); replace BK1227 := kb BK1227 hb; clear hb hbox hg; have hnb6 := NB1226_1227.out; have hnc6 := NB1227_1226.out; have hnb7 := NB1226_1228.out; have hnc7 := NB1228_1226.out; obtain ⟨z8_0, y8_0, z8_1, y8_1, z8_2, y8_2, z8_3, y8_3⟩ := cl4 BK1226; have hnb9 := NB1228_1227.out; have hnc9 := NB1227_1228.out; obtain ⟨z10_0, y10_0, z10_1, y10_1, z10_2, y10_2, z10_3, y10_3⟩ := cl4 BK1228) | (refine gl 12 Tryz.func23 #[.slice A0_2 l0_2.length c0_2] ?_; (with_reducible refine (laws_toFieldS.calls k _ _ l0_2 t1229 _ ?side1 ?side2 A2.out).mono ?_); (case side1 => exact Kd.C_below HR0_2.out bl); (case side2 => exact HC0_2.out); rintro e w11 ⟨v1230, rfl, ho0, hb⟩; refine ⟨_, rfl, ?_⟩; have HO1231 := am (Kd.R_lower ho0 (below_size bl)); replace BK1226 := kg1 BK1226 NB1226_1228 hb; replace BK1227 := kg1 BK1227 NB1227_1228 hb; replace BK1228 := am (blk_below (g := gb1228) (o := .cells #[.int .i64 a0_0, .string a0_1, .slice none 0 0, .string (⟨#[]⟩ : ByteArray)] 70 (0, 0)) (pt0 BK1228) hb); replace HB := am (below_step bl hb); clear hb ho0; obtain ⟨Ao12, co12, eo12⟩ := Kd.R_slice HO1231.out; subst eo12; obtain ⟨z13_0, y13_0, z13_1, y13_1, z13_2, y13_2, z13_3, y13_3⟩ := cl4 BK1228; obtain ⟨z14_0, y14_0, z14_1, y14_1, z14_2, y14_2, z14_3, y14_3⟩ := cl4 BK1226; obtain ⟨z15_0, y15_0, z15_1, y15_1, z15_2, y15_2, z15_3, y15_3⟩ := cl4 BK1227))
 refine bodyPost_ret (results_cell_row rfl _ _ gb1227 70 #[.int .i64 a0_0, .string a0_1, .slice Ao12 t1229.length co12, .string a0_3] (0, 0) _ rfl (pt1 BK1227 NB1227_1228) Tryz.underlying70 rfl (by kernel_rfl)) rfl ?_
 exact ⟨_, rf, rg (Kd.R_types (Kd.R_types HO1231.out BK1228.out (by decide)) BK1227.out (by decide)), bl⟩

/-! ### laws_eqReq: function 49 -/
def laws_eqReq.f (k : Nat) (a0_0 : Int) (a0_1 : ByteArray) (l0_2 : List (S116)) (a0_3 : ByteArray) (a1_0 : Int) (a1_1 : ByteArray) (l1_2 : List (S116)) (a1_3 : ByteArray) : Option (Bool) := if a0_0 = a1_0 then (if a0_1.toList = a1_1.toList then ((laws_eqFieldS.f k l0_2 l1_2).bind fun t1265 => (if t1265 = true then (if a0_3.toList = a1_3.toList then (some true) else (some false)) else (some false))) else (some false)) else (some false)
theorem laws_eqReq.mono : ∀ a0 a1 a2 a3 a4 a5 a6 a7 k, LeO (laws_eqReq.f k a0 a1 a2 a3 a4 a5 a6 a7) (laws_eqReq.f (k + 1) a0 a1 a2 a3 a4 a5 a6 a7) := by
 intro a0 a1 a2 a3 a4 a5 a6 a7 k
 unfold laws_eqReq.f
 have m0 := @laws_eqFieldS.mono
 exact mo
set_option maxHeartbeats 8000000 in
set_option maxRecDepth 100000 in
theorem laws_eqReq.calls (k : Nat) (a0_0 : Int) (a0_1 : ByteArray) (A0_2 : Option Addr) (c0_2 : Nat) (l0_2 : List (S116)) (a0_3 : ByteArray) (a1_0 : Int) (a1_1 : ByteArray) (A1_2 : Option Addr) (c1_2 : Nat) (l1_2 : List (S116)) (a1_3 : ByteArray) (r : Bool) (w : World) (hr0_2 : Kd.C k116 w A0_2 l0_2.length l0_2) (hc0_2 : l0_2.length ≤ c0_2) (hr1_2 : Kd.C k116 w A1_2 l1_2.length l1_2) (hc1_2 : l1_2.length ≤ c1_2) (h : laws_eqReq.f k a0_0 a0_1 l0_2 a0_3 a1_0 a1_1 l1_2 a1_3 = some r) :
  Calls Tryz.prog 49 #[.agg #[.int .i64 a0_0, .string a0_1, .slice A0_2 l0_2.length c0_2, .string a0_3], .agg #[.int .i64 a1_0, .string a1_1, .slice A1_2 l1_2.length c1_2, .string a1_3]] w fun e w' => e = .returned (.bool r) ∧ Below w.heap.size w w' := by
 have hu70 := Tryz.underlying70
 have HR0_2 := am hr0_2
 have HC0_2 := am hc0_2
 clear hr0_2 hc0_2
 have HR1_2 := am hr1_2
 have HC1_2 := am hc1_2
 clear hr1_2 hc1_2
 have HB := am (Below.refl w.heap.size w)
 unfold laws_eqReq.f at h
 have H := h
 clear h
 by_cases c3 : a0_0 = a1_0
 rotate_left
 ·rw [if_neg c3] at H
  have c3b0 : (a0_0 == a1_0) = false := beq_eq_false_iff_ne.mpr c3
  have c3b1 : (a0_0 != a1_0) = true := bne_iff_ne.mpr c3
  obtain rfl := Option.some.inj H
  go_enter Tryz.func49, Tryz.ntmps49
  go_wp2_with (first | (refine bx 2 #[.int .i64 a0_0, .string a0_1, .slice A0_2 l0_2.length c0_2, .string a0_3] 70 ?_; intro gb1263 hg w35 hbox hb; have BK1263 := am (hbox); have GW1263 := am (sz hg : w.heap.size ≤ gb1263); have GE1263 := am (sz hg : w.heap.size ≤ gb1263); replace HB := am (below_step bl hb); clear hb hbox hg) | (refine bx 3 #[.int .i64 a1_0, .string a1_1, .slice A1_2 l1_2.length c1_2, .string a1_3] 70 ?_; intro gb1264 hg w36 hbox hb; have BK1264 := am (hbox); have GW1264 := am (sz hg : w.heap.size ≤ gb1264); have GE1264 := am (sz hg : w.heap.size ≤ gb1264); replace HB := am (below_step bl hb); have NB1263_1264 := am (nl hg BK1263 : gb1263 ≠ gb1264); have NB1264_1263 := am (ng hg BK1263 : gb1264 ≠ gb1263); replace BK1263 := kb BK1263 hb; clear hb hbox hg; have hnb37 := NB1263_1264.out; have hnc37 := NB1264_1263.out; obtain ⟨z38_0, y38_0, z38_1, y38_1, z38_2, y38_2, z38_3, y38_3⟩ := cl4 BK1263; obtain ⟨z39_0, y39_0, z39_1, y39_1, z39_2, y39_2, z39_3, y39_3⟩ := cl4 BK1264))
  go_ret
  exact ⟨rf, bl⟩
 rw [if_pos c3] at H
 have c3b0 : (a0_0 == a1_0) = true := beq_iff_eq.mpr c3
 have c3b1 : (a0_0 != a1_0) = false := bne_eq_false_iff_eq.mpr c3
 clear c3
 by_cases c4 : a0_1.toList = a1_1.toList
 rotate_left
 ·rw [if_neg c4] at H
  have c4b0 : (a0_1.toList == a1_1.toList) = false := beq_eq_false_iff_ne.mpr c4
  have c4b1 : (a0_1.toList != a1_1.toList) = true := bne_iff_ne.mpr c4
  obtain rfl := Option.some.inj H
  go_enter Tryz.func49, Tryz.ntmps49
  go_wp2_with (first | (refine bx 2 #[.int .i64 a0_0, .string a0_1, .slice A0_2 l0_2.length c0_2, .string a0_3] 70 ?_; intro gb1263 hg w30 hbox hb; have BK1263 := am (hbox); have GW1263 := am (sz hg : w.heap.size ≤ gb1263); have GE1263 := am (sz hg : w.heap.size ≤ gb1263); replace HB := am (below_step bl hb); clear hb hbox hg) | (refine bx 3 #[.int .i64 a1_0, .string a1_1, .slice A1_2 l1_2.length c1_2, .string a1_3] 70 ?_; intro gb1264 hg w31 hbox hb; have BK1264 := am (hbox); have GW1264 := am (sz hg : w.heap.size ≤ gb1264); have GE1264 := am (sz hg : w.heap.size ≤ gb1264); replace HB := am (below_step bl hb); have NB1263_1264 := am (nl hg BK1263 : gb1263 ≠ gb1264); have NB1264_1263 := am (ng hg BK1263 : gb1264 ≠ gb1263); replace BK1263 := kb BK1263 hb; clear hb hbox hg; have hnb32 := NB1263_1264.out; have hnc32 := NB1264_1263.out; obtain ⟨z33_0, y33_0, z33_1, y33_1, z33_2, y33_2, z33_3, y33_3⟩ := cl4 BK1263; obtain ⟨z34_0, y34_0, z34_1, y34_1, z34_2, y34_2, z34_3, y34_3⟩ := cl4 BK1264))
  go_ret
  exact ⟨rf, bl⟩
 rw [if_pos c4] at H
 have c4b0 : (a0_1.toList == a1_1.toList) = true := beq_iff_eq.mpr c4
 have c4b1 : (a0_1.toList != a1_1.toList) = false := bne_eq_false_iff_eq.mpr c4
 clear c4
 revert H
 refine ok1 fun t1265 A5 H => ?_
 by_cases c6 : t1265 = true
 rotate_left
 ·replace c6 := Bool.eq_false_iff.mpr c6
  subst c6
  rw [if_neg (show ¬ (false = true) by decide)] at H
  obtain rfl := Option.some.inj H
  go_enter Tryz.func49, Tryz.ntmps49
  go_wp2_with (first | (refine bx 2 #[.int .i64 a0_0, .string a0_1, .slice A0_2 l0_2.length c0_2, .string a0_3] 70 ?_; intro gb1263 hg w24 hbox hb; have BK1263 := am (hbox); have GW1263 := am (sz hg : w.heap.size ≤ gb1263); have GE1263 := am (sz hg : w.heap.size ≤ gb1263); replace HB := am (below_step bl hb); clear hb hbox hg) | (refine bx 3 #[.int .i64 a1_0, .string a1_1, .slice A1_2 l1_2.length c1_2, .string a1_3] 70 ?_; intro gb1264 hg w25 hbox hb; have BK1264 := am (hbox); have GW1264 := am (sz hg : w.heap.size ≤ gb1264); have GE1264 := am (sz hg : w.heap.size ≤ gb1264); replace HB := am (below_step bl hb); have NB1263_1264 := am (nl hg BK1263 : gb1263 ≠ gb1264); have NB1264_1263 := am (ng hg BK1263 : gb1264 ≠ gb1263); replace BK1263 := kb BK1263 hb; clear hb hbox hg; have hnb26 := NB1263_1264.out; have hnc26 := NB1264_1263.out; obtain ⟨z27_0, y27_0, z27_1, y27_1, z27_2, y27_2, z27_3, y27_3⟩ := cl4 BK1263; obtain ⟨z28_0, y28_0, z28_1, y28_1, z28_2, y28_2, z28_3, y28_3⟩ := cl4 BK1264) | (refine gl 19 Tryz.func25 #[.slice A0_2 l0_2.length c0_2, .slice A1_2 l1_2.length c1_2] ?_; (with_reducible refine (laws_eqFieldS.calls k _ _ l0_2 _ _ l1_2 false _ ?side1 ?side2 ?side3 ?side4 A5.out).mono ?_); (case side1 => exact cb HR0_2); (case side2 => exact HC0_2.out); (case side3 => exact cb HR1_2); (case side4 => exact HC1_2.out); rintro e w29 ⟨rfl, hb⟩; refine ⟨_, rfl, ?_⟩; replace BK1263 := kb BK1263 hb; replace BK1264 := kb BK1264 hb; replace HB := am (below_step bl hb); clear hb))
  go_ret
  exact ⟨rf, bl⟩
 subst c6
 rw [if_pos rfl] at H
 by_cases c7 : a0_3.toList = a1_3.toList
 rotate_left
 ·rw [if_neg c7] at H
  have c7b0 : (a0_3.toList == a1_3.toList) = false := beq_eq_false_iff_ne.mpr c7
  have c7b1 : (a0_3.toList != a1_3.toList) = true := bne_iff_ne.mpr c7
  obtain rfl := Option.some.inj H
  go_enter Tryz.func49, Tryz.ntmps49
  go_wp2_with (first | (refine bx 2 #[.int .i64 a0_0, .string a0_1, .slice A0_2 l0_2.length c0_2, .string a0_3] 70 ?_; intro gb1263 hg w16 hbox hb; have BK1263 := am (hbox); have GW1263 := am (sz hg : w.heap.size ≤ gb1263); have GE1263 := am (sz hg : w.heap.size ≤ gb1263); replace HB := am (below_step bl hb); clear hb hbox hg) | (refine bx 3 #[.int .i64 a1_0, .string a1_1, .slice A1_2 l1_2.length c1_2, .string a1_3] 70 ?_; intro gb1264 hg w17 hbox hb; have BK1264 := am (hbox); have GW1264 := am (sz hg : w.heap.size ≤ gb1264); have GE1264 := am (sz hg : w.heap.size ≤ gb1264); replace HB := am (below_step bl hb); have NB1263_1264 := am (nl hg BK1263 : gb1263 ≠ gb1264); have NB1264_1263 := am (ng hg BK1263 : gb1264 ≠ gb1263); replace BK1263 := kb BK1263 hb; clear hb hbox hg; have hnb18 := NB1263_1264.out; have hnc18 := NB1264_1263.out; obtain ⟨z19_0, y19_0, z19_1, y19_1, z19_2, y19_2, z19_3, y19_3⟩ := cl4 BK1263; obtain ⟨z20_0, y20_0, z20_1, y20_1, z20_2, y20_2, z20_3, y20_3⟩ := cl4 BK1264) | (refine gl 19 Tryz.func25 #[.slice A0_2 l0_2.length c0_2, .slice A1_2 l1_2.length c1_2] ?_; (with_reducible refine (laws_eqFieldS.calls k _ _ l0_2 _ _ l1_2 true _ ?side1 ?side2 ?side3 ?side4 A5.out).mono ?_); (case side1 => exact cb HR0_2); (case side2 => exact HC0_2.out); (case side3 => exact cb HR1_2); (case side4 => exact HC1_2.out); rintro e w21 ⟨rfl, hb⟩; refine ⟨_, rfl, ?_⟩; replace BK1263 := kb BK1263 hb; replace BK1264 := kb BK1264 hb; replace HB := am (below_step bl hb); clear hb; obtain ⟨z22_0, y22_0, z22_1, y22_1, z22_2, y22_2, z22_3, y22_3⟩ := cl4 BK1263; obtain ⟨z23_0, y23_0, z23_1, y23_1, z23_2, y23_2, z23_3, y23_3⟩ := cl4 BK1264))
  go_ret
  exact ⟨rf, bl⟩
 rw [if_pos c7] at H
 have c7b0 : (a0_3.toList == a1_3.toList) = true := beq_iff_eq.mpr c7
 have c7b1 : (a0_3.toList != a1_3.toList) = false := bne_eq_false_iff_eq.mpr c7
 clear c7
 obtain rfl := Option.some.inj H
 go_enter Tryz.func49, Tryz.ntmps49
 go_wp2_with (first | (refine bx 2 #[.int .i64 a0_0, .string a0_1, .slice A0_2 l0_2.length c0_2, .string a0_3] 70 ?_; intro gb1263 hg w8 hbox hb; have BK1263 := am (hbox); have GW1263 := am (sz hg : w.heap.size ≤ gb1263); have GE1263 := am (sz hg : w.heap.size ≤ gb1263); replace HB := am (below_step bl hb); clear hb hbox hg) | (refine bx 3 #[.int .i64 a1_0, .string a1_1, .slice A1_2 l1_2.length c1_2, .string a1_3] 70 ?_; intro gb1264 hg w9 hbox hb; have BK1264 := am (hbox); have GW1264 := am (sz hg : w.heap.size ≤ gb1264); have GE1264 := am (sz hg : w.heap.size ≤ gb1264); replace HB := am (below_step bl hb); have NB1263_1264 := am (nl hg BK1263 : gb1263 ≠ gb1264); have NB1264_1263 := am (ng hg BK1263 : gb1264 ≠ gb1263); replace BK1263 := kb BK1263 hb; clear hb hbox hg; have hnb10 := NB1263_1264.out; have hnc10 := NB1264_1263.out; obtain ⟨z11_0, y11_0, z11_1, y11_1, z11_2, y11_2, z11_3, y11_3⟩ := cl4 BK1263; obtain ⟨z12_0, y12_0, z12_1, y12_1, z12_2, y12_2, z12_3, y12_3⟩ := cl4 BK1264) | (refine gl 19 Tryz.func25 #[.slice A0_2 l0_2.length c0_2, .slice A1_2 l1_2.length c1_2] ?_; (with_reducible refine (laws_eqFieldS.calls k _ _ l0_2 _ _ l1_2 true _ ?side1 ?side2 ?side3 ?side4 A5.out).mono ?_); (case side1 => exact cb HR0_2); (case side2 => exact HC0_2.out); (case side3 => exact cb HR1_2); (case side4 => exact HC1_2.out); rintro e w13 ⟨rfl, hb⟩; refine ⟨_, rfl, ?_⟩; replace BK1263 := kb BK1263 hb; replace BK1264 := kb BK1264 hb; replace HB := am (below_step bl hb); clear hb; obtain ⟨z14_0, y14_0, z14_1, y14_1, z14_2, y14_2, z14_3, y14_3⟩ := cl4 BK1263; obtain ⟨z15_0, y15_0, z15_1, y15_1, z15_2, y15_2, z15_3, y15_3⟩ := cl4 BK1264))
 go_ret
 exact ⟨rf, bl⟩

end Go.Proofs.YtdbgkookjpgnnaaGreatDoor.All
