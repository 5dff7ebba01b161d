-- Written by a program of this session (wip/tools/hprint.py) out of the translation. Lean checks it.
import Derived.Test.YtdbgkookjpgnnaaGreatDoorAllx0
import Derived.Test.YtdbgkookjpgnnaaGreatDoorAllx12
import Derived.Test.YtdbgkookjpgnnaaGreatDoorAllx31
import Derived.Test.YtdbgkookjpgnnaaGreatDoorAllx32
import Derived.Test.YtdbgkookjpgnnaaGreatDoorAllx33
namespace Go.Proofs.YtdbgkookjpgnnaaGreatDoor.All
open Go.RowKit Go.Proofs.YtdbgkookjpgnnaaGreatDoorW.PrintWords Go.Proofs.YtdbgkookjpgnnaaGreatDoorW.PrintLast Go.Proofs.YtdbgkookjpgnnaaGreatDoorW.PrintMore
attribute [local go_sem] max2_int min2_int max_two min_two max_three min_three max_four min_four   -- for this text's walks alone
set_option linter.unusedVariables false
set_option linter.unusedSimpArgs false

/-! ### laws_FnExactMayKeep: function 7 -/
def laws_FnExactMayKeep.f (k : Nat) (a0_0 : Int) (a0_1 : ByteArray) (l0_2 : List (S115)) (a0_3 : ByteArray) (a1_0 : Int) (l1_1 : List (S115)) (a1_2 : ByteArray) : Option (Bool) := (laws_szReq.f k a0_0 a0_1 l0_2 a0_3 1048576).bind fun t1271 => (if t1271 < 0 then (some true) else ((laws_szResp.f k a1_0 l1_1 a1_2 t1271).bind fun t1272 => (if t1272 < 0 then (some true) else ((laws_toReq.f k a0_0 a0_1 l0_2 a0_3).bind fun bt1273 => ((laws_toResp.f k a1_0 l1_1 a1_2).bind fun bt1279 => ((spec_MayKeep.f k bt1273.1 bt1273.2.1 bt1273.2.2.1 bt1273.2.2.2 bt1279.1 bt1279.2.1 bt1279.2.2).bind fun t1284 => ((laws_toReq.f k a0_0 a0_1 l0_2 a0_3).bind fun bt1285 => ((laws_toResp.f k a1_0 l1_1 a1_2).bind fun bt1292 => ((impl_MayKeep.f k bt1285.1 bt1285.2.1 bt1285.2.2.1 bt1285.2.2.2 bt1292.1 bt1292.2.1 bt1292.2.2).bind fun t1298 => (if (t1298 != t1284) = true then (some false) else ((laws_toReq.f k a0_0 a0_1 l0_2 a0_3).bind fun bt1299 => ((laws_eqReq.f k bt1285.1 bt1285.2.1 bt1285.2.2.1 bt1285.2.2.2 bt1299.1 bt1299.2.1 bt1299.2.2.1 bt1299.2.2.2).bind fun t1305 => (if t1305 = true then ((laws_toResp.f k a1_0 l1_1 a1_2).bind fun bt1306 => ((laws_eqResp.f k bt1292.1 bt1292.2.1 bt1292.2.2 bt1306.1 bt1306.2.1 bt1306.2.2).bind fun t1311 => (if t1311 = true then (some true) else (some false)))) else (some false))))))))))))))
theorem laws_FnExactMayKeep.mono : ∀ a0 a1 a2 a3 a4 a5 a6 k, LeO (laws_FnExactMayKeep.f k a0 a1 a2 a3 a4 a5 a6) (laws_FnExactMayKeep.f (k + 1) a0 a1 a2 a3 a4 a5 a6) := by
 intro a0 a1 a2 a3 a4 a5 a6 k
 unfold laws_FnExactMayKeep.f
 have m0 := @impl_MayKeep.mono
 have m1 := @laws_eqReq.mono
 have m2 := @laws_eqResp.mono
 have m3 := @laws_szReq.mono
 have m4 := @laws_szResp.mono
 have m5 := @laws_toReq.mono
 have m6 := @laws_toResp.mono
 have m7 := @spec_MayKeep.mono
 exact mo
set_option maxHeartbeats 8000000 in
set_option maxRecDepth 100000 in
theorem laws_FnExactMayKeep.calls (k : Nat) (a0_0 : Int) (a0_1 : ByteArray) (A0_2 : Option Addr) (c0_2 : Nat) (l0_2 : List (S115)) (a0_3 : ByteArray) (a1_0 : Int) (A1_1 : Option Addr) (c1_1 : Nat) (l1_1 : List (S115)) (a1_2 : ByteArray) (r : Bool) (w : World) (hGE : GLOBE w) (hGM : GLOBM w) (hGT : GLOBT w) (hr0_2 : Kd.C k115 w A0_2 l0_2.length l0_2) (hc0_2 : l0_2.length ≤ c0_2) (hr1_1 : Kd.C k115 w A1_1 l1_1.length l1_1) (hc1_1 : l1_1.length ≤ c1_1) (ht_ : r = true) (h : laws_FnExactMayKeep.f k a0_0 a0_1 l0_2 a0_3 a1_0 l1_1 a1_2 = some r) :
  Calls Tryz.prog 7 #[.agg #[.int .i64 a0_0, .string a0_1, .slice A0_2 l0_2.length c0_2, .string a0_3], .agg #[.int .i64 a1_0, .slice A1_1 l1_1.length c1_1, .string a1_2]] w fun e w' => e = .returned (.bool r) ∧ Below w.heap.size w w' := by
 have hu63 := Tryz.underlying63
 have hu65 := Tryz.underlying65
 have hu70 := Tryz.underlying70
 have hu29 := Tryz.underlying29
 have HR0_2 := am hr0_2
 have HC0_2 := am hc0_2
 clear hr0_2 hc0_2
 have HR1_1 := am hr1_1
 have HC1_1 := am hc1_1
 clear hr1_1 hc1_1
 have HGE := am hGE
 clear hGE
 have HGM := am hGM
 clear hGM
 have HGT := am hGT
 clear hGT
 have HB := am (Below.refl w.heap.size w)
 unfold laws_FnExactMayKeep.f at h
 have H := h
 clear h
 revert H
 refine ok1 fun t1271 A3 H => ?_
 by_cases c4 : t1271 < 0
 ·rw [if_pos c4] at H
  have c4b0 := decide_eq_true c4
  clear c4
  obtain rfl := Option.some.inj H
  go_enter Tryz.func7, Tryz.ntmps7
  go_wp2_with (first | (refine bx 2 #[.int .i64 a0_0, .string a0_1, .slice A0_2 l0_2.length c0_2, .string a0_3] 63 ?_; intro gb1269 hg w5 hbox hb; have BK1269 := am (hbox); have GW1269 := am (sz hg : w.heap.size ≤ gb1269); have GE1269 := am (sz hg : w.heap.size ≤ gb1269); replace HB := am (below_step bl hb); clear hb hbox hg) | (refine bx 3 #[.int .i64 a1_0, .slice A1_1 l1_1.length c1_1, .string a1_2] 65 ?_; intro gb1270 hg w6 hbox hb; have BK1270 := am (hbox); have GW1270 := am (sz hg : w.heap.size ≤ gb1270); have GE1270 := am (sz hg : w.heap.size ≤ gb1270); replace HB := am (below_step bl hb); have NB1269_1270 := am (nl hg BK1269 : gb1269 ≠ gb1270); have NB1270_1269 := am (ng hg BK1269 : gb1270 ≠ gb1269); replace BK1269 := kb BK1269 hb; clear hb hbox hg; have hnb7 := NB1269_1270.out; have hnc7 := NB1270_1269.out; obtain ⟨z8_0, y8_0, z8_1, y8_1, z8_2, y8_2, z8_3, y8_3⟩ := cl4 BK1269) | (refine gl 12 Tryz.func43 #[.agg #[.int .i64 a0_0, .string a0_1, .slice A0_2 l0_2.length c0_2, .string a0_3], .int .i64 1048576] ?_; (with_reducible refine (laws_szReq.calls k a0_0 a0_1 _ _ l0_2 a0_3 1048576 t1271 _ ?side1 ?side2 A3.out).mono ?_); (case side1 => exact cb HR0_2); (case side2 => exact HC0_2.out); rintro e w9 ⟨rfl, hb⟩; refine ⟨_, rfl, ?_⟩; replace BK1269 := kb BK1269 hb; replace BK1270 := kb BK1270 hb; replace HB := am (below_step bl hb); clear hb))
  go_ret
  exact ⟨rf, bl⟩
 rw [if_neg c4] at H
 have c4b0 := decide_eq_false c4
 clear c4
 revert H
 refine ok1 fun t1272 A10 H => ?_
 by_cases c11 : t1272 < 0
 ·rw [if_pos c11] at H
  have c11b0 := decide_eq_true c11
  clear c11
  obtain rfl := Option.some.inj H
  go_enter Tryz.func7, Tryz.ntmps7
  go_wp2_with (first | (refine bx 2 #[.int .i64 a0_0, .string a0_1, .slice A0_2 l0_2.length c0_2, .string a0_3] 63 ?_; intro gb1269 hg w12 hbox hb; have BK1269 := am (hbox); have GW1269 := am (sz hg : w.heap.size ≤ gb1269); have GE1269 := am (sz hg : w.heap.size ≤ gb1269); replace HB := am (below_step bl hb); clear hb hbox hg) | (refine bx 3 #[.int .i64 a1_0, .slice A1_1 l1_1.length c1_1, .string a1_2] 65 ?_; intro gb1270 hg w13 hbox hb; have BK1270 := am (hbox); have GW1270 := am (sz hg : w.heap.size ≤ gb1270); have GE1270 := am (sz hg : w.heap.size ≤ gb1270); replace HB := am (below_step bl hb); have NB1269_1270 := am (nl hg BK1269 : gb1269 ≠ gb1270); have NB1270_1269 := am (ng hg BK1269 : gb1270 ≠ gb1269); replace BK1269 := kb BK1269 hb; clear hb hbox hg; have hnb14 := NB1269_1270.out; have hnc14 := NB1270_1269.out; obtain ⟨z15_0, y15_0, z15_1, y15_1, z15_2, y15_2, z15_3, y15_3⟩ := cl4 BK1269) | (refine gl 12 Tryz.func43 #[.agg #[.int .i64 a0_0, .string a0_1, .slice A0_2 l0_2.length c0_2, .string a0_3], .int .i64 1048576] ?_; (with_reducible refine (laws_szReq.calls k a0_0 a0_1 _ _ l0_2 a0_3 1048576 t1271 _ ?side1 ?side2 A3.out).mono ?_); (case side1 => exact cb HR0_2); (case side2 => exact HC0_2.out); rintro e w16 ⟨rfl, hb⟩; refine ⟨_, rfl, ?_⟩; replace BK1269 := kb BK1269 hb; replace BK1270 := kb BK1270 hb; replace HB := am (below_step bl hb); clear hb; obtain ⟨z17_0, y17_0, z17_1, y17_1, z17_2, y17_2⟩ := cl3 BK1270) | (refine gl 17 Tryz.func44 #[.agg #[.int .i64 a1_0, .slice A1_1 l1_1.length c1_1, .string a1_2], .int .i64 t1271] ?_; (with_reducible refine (laws_szResp.calls k a1_0 _ _ l1_1 a1_2 t1271 t1272 _ ?side1 ?side2 A10.out).mono ?_); (case side1 => exact cb HR1_1); (case side2 => exact HC1_1.out); rintro e w18 ⟨rfl, hb⟩; refine ⟨_, rfl, ?_⟩; replace BK1269 := kb BK1269 hb; replace BK1270 := kb BK1270 hb; replace HB := am (below_step bl hb); clear hb))
  go_ret
  exact ⟨rf, bl⟩
 rw [if_neg c11] at H
 have c11b0 := decide_eq_false c11
 clear c11
 revert H
 refine ok4 fun t1273 t1274 t1275 t1278 A19 H => ?_
 (try dsimp only at H)
 revert H
 refine ok3 fun t1279 t1280 t1283 A20 H => ?_
 (try dsimp only at H)
 revert H
 refine ok1 fun t1284 A21 H => ?_
 revert H
 refine ok4 fun t1285 t1286 t1287 t1290 A22 H => ?_
 (try dsimp only at H)
 revert H
 refine ok3 fun t1292 t1293 t1296 A23 H => ?_
 (try dsimp only at H)
 revert H
 refine ok1 fun t1298 A24 H => ?_
 by_cases c25 : (t1298 != t1284) = true
 ·rw [if_pos c25] at H
  have c25b0 : (t1298 != t1284) = true := c25
  (try (have c25b1 : decide (t1298 = t1284) = false := by simpa using c25))
  (try (have c25b2 : (t1298 == t1284) = false := by simpa using c25))
  (try (have c25b3 : ¬ (t1298 = t1284) := by simpa using c25))
  clear c25
  exact absurd (Option.some.inj H) (by rw [ht_]; decide)
 rw [if_neg c25] at H
 have c25b0 : (t1298 != t1284) = false := by simpa using c25
 (try (have c25b1 : decide (t1298 = t1284) = true := by simpa using c25))
 (try (have c25b2 : (t1298 == t1284) = true := by simpa using c25))
 clear c25
 revert H
 refine ok4 fun t1299 t1300 t1301 t1304 A26 H => ?_
 (try dsimp only at H)
 revert H
 refine ok1 fun t1305 A27 H => ?_
 by_cases c28 : t1305 = true
 rotate_left
 ·replace c28 := Bool.eq_false_iff.mpr c28
  subst c28
  rw [if_neg (show ¬ (false = true) by decide)] at H
  exact absurd (Option.some.inj H) (by rw [ht_]; decide)
 subst c28
 rw [if_pos rfl] at H
 revert H
 refine ok3 fun t1306 t1307 t1310 A29 H => ?_
 (try dsimp only at H)
 revert H
 refine ok1 fun t1311 A30 H => ?_
 by_cases c31 : t1311 = true
 rotate_left
 ·replace c31 := Bool.eq_false_iff.mpr c31
  subst c31
  rw [if_neg (show ¬ (false = true) by decide)] at H
  exact absurd (Option.some.inj H) (by rw [ht_]; decide)
 subst c31
 rw [if_pos rfl] at H
 obtain rfl := Option.some.inj H
 go_enter Tryz.func7, Tryz.ntmps7
 try go_wp2_with (first | (refine bx 2 #[.int .i64 a0_0, .string a0_1, .slice A0_2 l0_2.length c0_2, .string a0_3] 63 ?_; intro gb1269 hg w32 hbox hb; have BK1269 := am (hbox); have GW1269 := am (sz hg : w.heap.size ≤ gb1269); have GE1269 := am (sz hg : w.heap.size ≤ gb1269); replace HB := am (below_step bl hb); clear hb hbox hg) | (refine bx 3 #[.int .i64 a1_0, .slice A1_1 l1_1.length c1_1, .string a1_2] 65 ?_; intro gb1270 hg w33 hbox hb; have BK1270 := am (hbox); have GW1270 := am (sz hg : w.heap.size ≤ gb1270); have GE1270 := am (sz hg : w.heap.size ≤ gb1270); replace HB := am (below_step bl hb); have NB1269_1270 := am (nl hg BK1269 : gb1269 ≠ gb1270); have NB1270_1269 := am (ng hg BK1269 : gb1270 ≠ gb1269); replace BK1269 := kb BK1269 hb; clear hb hbox hg; have hnb34 := NB1269_1270.out; have hnc34 := NB1270_1269.out; obtain ⟨z35_0, y35_0, z35_1, y35_1, z35_2, y35_2, z35_3, y35_3⟩ := cl4 BK1269) | (refine gl 12 Tryz.func43 #[.agg #[.int .i64 a0_0, .string a0_1, .slice A0_2 l0_2.length c0_2, .string a0_3], .int .i64 1048576] ?_; (with_reducible refine (laws_szReq.calls k a0_0 a0_1 _ _ l0_2 a0_3 1048576 t1271 _ ?side1 ?side2 A3.out).mono ?_); (case side1 => exact cb HR0_2); (case side2 => exact HC0_2.out); rintro e w36 ⟨rfl, hb⟩; refine ⟨_, rfl, ?_⟩; replace BK1269 := kb BK1269 hb; replace BK1270 := kb BK1270 hb; replace HB := am (below_step bl hb); clear hb; obtain ⟨z37_0, y37_0, z37_1, y37_1, z37_2, y37_2⟩ := cl3 BK1270) | (refine gl 17 Tryz.func44 #[.agg #[.int .i64 a1_0, .slice A1_1 l1_1.length c1_1, .string a1_2], .int .i64 t1271] ?_; (with_reducible refine (laws_szResp.calls k a1_0 _ _ l1_1 a1_2 t1271 t1272 _ ?side1 ?side2 A10.out).mono ?_); (case side1 => exact cb HR1_1); (case side2 => exact HC1_1.out); rintro e w38 ⟨rfl, hb⟩; refine ⟨_, rfl, ?_⟩; replace BK1269 := kb BK1269 hb; replace BK1270 := kb BK1270 hb; replace HB := am (below_step bl hb); clear hb))
 replace BK1269 := am (blk_drew BK1269.out)
 replace BK1270 := am (blk_drew BK1270.out)
 replace HB := am (below_drew1 HB.out)
 refine start_ (n := 6) (S := fun w' => w'.cell? ⟨gb1269, 0, none⟩ = some (.int .i64 a0_0) ∧ w'.cell? ⟨gb1269, 1, none⟩ = some (.string a0_1) ∧ w'.cell? ⟨gb1269, 2, none⟩ = some (.slice A0_2 l0_2.length c0_2) ∧ w'.cell? ⟨gb1269, 3, none⟩ = some (.string a0_3) ∧ w'.cell? ⟨gb1270, 0, none⟩ = some (.int .i64 a1_0) ∧ w'.cell? ⟨gb1270, 1, none⟩ = some (.slice A1_1 l1_1.length c1_1) ∧ w'.cell? ⟨gb1270, 2, none⟩ = some (.string a1_2)) (ds := []) ⟨br true [0, 6]⟩ (by kernel_rfl) rfl (by kernel_rfl) ⟨bc BK1269, bc BK1269, bc BK1269, bc BK1269, bc BK1270, bc BK1270, bc BK1270⟩ (fun hHeld => ?_)
 generalize w38.drew = w39 at BK1269 BK1270 HB hHeld ⊢
 refine tk 0 20 [1, 5] ?_
 refine tk 2 22 [1, 1, 1, 3] ?_
 refine og 1 21 [3, 3] Tryz.func46 #[.agg #[.int .i64 a0_0, .string a0_1, .slice A0_2 l0_2.length c0_2, .string a0_3]] (fun K hK => ?_)
 with_reducible refine (laws_toReq.calls k a0_0 a0_1 _ _ l0_2 a0_3 t1273 t1274 t1275 t1278 _ ?side1 ?side2 A19.out).mono ?_
 (case side1 => exact cb HR0_2)
 (case side2 => exact HC0_2.out)
 rintro e w40 ⟨v1276, rfl, ho0, hb⟩
 refine ⟨_, rfl, ?_⟩
 have HO1277 := am (Kd.R_lower ho0 (below_size bl))
 replace BK1269 := kb BK1269 hb
 replace BK1270 := kb BK1270 hb
 replace HB := am (below_step bl hb)
 clear hb ho0
 refine hK.out _ _ ⟨bc BK1269, bc BK1269, bc BK1269, bc BK1269, bc BK1270, bc BK1270, bc BK1270⟩ (fun hHeld => ?_)
 clear hK K
 refine nm 21 ?_
 refine og 3 23 [4, 2] Tryz.func47 #[.agg #[.int .i64 a1_0, .slice A1_1 l1_1.length c1_1, .string a1_2]] (fun K hK => ?_)
 with_reducible refine (laws_toResp.calls k a1_0 _ _ l1_1 a1_2 t1279 t1280 t1283 _ ?side1 ?side2 A20.out).mono ?_
 (case side1 => exact cb HR1_1)
 (case side2 => exact HC1_1.out)
 rintro e w41 ⟨v1281, rfl, ho0, hb⟩
 refine ⟨_, rfl, ?_⟩
 have HO1282 := am (Kd.R_lower (Kd.R_new' ho0 (Kd.R_lt (ro HO1277))) (below_size bl))
 replace HO1277 := am (Kd.R_elder' (ro HO1277) (Kd.R_base ho0) hb)
 replace BK1269 := kb BK1269 hb
 replace BK1270 := kb BK1270 hb
 replace HB := am (below_step bl hb)
 clear hb ho0
 obtain ⟨Ao42, co42, eo42⟩ := Kd.R_slice HO1277.out
 (first | subst eo42 | (injection eo42 with f1_ f2_ f3_; have f4_ := f1_.symm; have f5_ := f3_.symm; clear f1_ f2_ f3_; subst f4_; subst f5_))
 obtain ⟨Ao43, co43, eo43⟩ := Kd.R_slice HO1282.out
 (first | subst eo43 | (injection eo43 with f1_ f2_ f3_; have f4_ := f1_.symm; have f5_ := f3_.symm; clear f1_ f2_ f3_; subst f4_; subst f5_))
 refine hK.out _ _ ⟨bc BK1269, bc BK1269, bc BK1269, bc BK1269, bc BK1270, bc BK1270, bc BK1270⟩ (fun hHeld => ?_)
 clear hK K
 refine nm 23 ?_
 refine og 4 24 [5, 1] Tryz.func45 #[.agg #[.int .i64 t1273, .string t1274, .slice Ao42 t1275.length co42, .string t1278], .agg #[.int .i64 t1279, .slice Ao43 t1280.length co43, .string t1283]] (fun K hK => ?_)
 with_reducible refine (spec_MayKeep.calls k t1273 t1274 _ _ t1275 t1278 t1279 _ _ t1280 t1283 t1284 _ ?side1 ?side2 ?side3 ?side4 A21.out).mono ?_
 (case side1 => exact rc HO1277)
 (case side2 => exact (Kd.R_reads' HO1277.out).2.1)
 (case side3 => exact rc HO1282)
 (case side4 => exact (Kd.R_reads' HO1282.out).2.1)
 rintro e w44 ⟨rfl, hb⟩
 refine ⟨_, rfl, ?_⟩
 replace HO1277 := kr HO1277 hb
 replace HO1282 := kr HO1282 hb
 replace BK1269 := kb BK1269 hb
 replace BK1270 := kb BK1270 hb
 replace HB := am (below_step bl hb)
 clear hb
 refine hK.out _ _ ⟨bc BK1269, bc BK1269, bc BK1269, bc BK1269, bc BK1270, bc BK1270, bc BK1270⟩ (fun hHeld => ?_)
 clear hK K
 refine nm 24 ?_
 refine pu 5 6 [6] ?_
 refine done_ (by kernel_rfl) ?_
 obtain ⟨z45_0, y45_0, z45_1, y45_1, z45_2, y45_2, z45_3, y45_3⟩ := cl4 BK1269
 try go_wp2_with (first | (refine gl 26 Tryz.func46 #[.agg #[.int .i64 a0_0, .string a0_1, .slice A0_2 l0_2.length c0_2, .string a0_3]] ?_; (with_reducible refine (laws_toReq.calls k a0_0 a0_1 _ _ l0_2 a0_3 t1285 t1286 t1287 t1290 _ ?side1 ?side2 A22.out).mono ?_); (case side1 => exact cb HR0_2); (case side2 => exact HC0_2.out); rintro e w46 ⟨v1288, rfl, ho0, hb⟩; refine ⟨_, rfl, ?_⟩; have HO1289 := am (Kd.R_lower (Kd.R_new' (Kd.R_new' ho0 (Kd.R_lt (ro HO1277))) (Kd.R_lt (ro HO1282))) (below_size bl)); replace HO1277 := am (Kd.R_elder' (ro HO1277) (Kd.R_base ho0) hb); replace HO1282 := am (Kd.R_elder' (ro HO1282) (Kd.R_base ho0) hb); replace BK1269 := kb BK1269 hb; replace BK1270 := kb BK1270 hb; replace HB := am (below_step bl hb); clear hb ho0) | (refine bx 7 #[.int .i64 0, .string (⟨#[]⟩ : ByteArray), .slice none 0 0, .string (⟨#[]⟩ : ByteArray)] 70 ?_; intro gb1291 hg w47 hbox hb; replace HO1277 := am (Kd.R_below (ro HO1277) hb); replace HO1282 := am (Kd.R_below (ro HO1282) hb); replace HO1289 := am (Kd.R_below (ro HO1289) hb); have BK1291 := am (hbox); have GW1291 := am (sz hg : w.heap.size ≤ gb1291); have GE1291 := am (sz hg : w.heap.size ≤ gb1291); replace HB := am (below_step bl hb); have NB1269_1291 := am (nl hg BK1269 : gb1269 ≠ gb1291); have NB1291_1269 := am (ng hg BK1269 : gb1291 ≠ gb1269); replace BK1269 := kb BK1269 hb; have NB1270_1291 := am (nl hg BK1270 : gb1270 ≠ gb1291); have NB1291_1270 := am (ng hg BK1270 : gb1291 ≠ gb1270); replace BK1270 := kb BK1270 hb; clear hb hbox hg; have hnb48 := NB1291_1269.out; have hnc48 := NB1269_1291.out; have hnb49 := NB1291_1270.out; have hnc49 := NB1270_1291.out; obtain ⟨z50_0, y50_0, z50_1, y50_1, z50_2, y50_2, z50_3, y50_3⟩ := cl4 BK1291; obtain ⟨Ao51, co51, eo51⟩ := Kd.R_slice HO1289.out; subst eo51; obtain ⟨z52_0, y52_0, z52_1, y52_1, z52_2, y52_2⟩ := cl3 BK1270) | (refine gl 28 Tryz.func47 #[.agg #[.int .i64 a1_0, .slice A1_1 l1_1.length c1_1, .string a1_2]] ?_; (with_reducible refine (laws_toResp.calls k a1_0 _ _ l1_1 a1_2 t1292 t1293 t1296 _ ?side1 ?side2 A23.out).mono ?_); (case side1 => exact Kd.C_below HR1_1.out bl); (case side2 => exact HC1_1.out); rintro e w53 ⟨v1294, rfl, ho0, hb⟩; refine ⟨_, rfl, ?_⟩; have n0_ := am (Kd.R_elder' (by (with_reducible repeat (first | apply Kd.R_alloc | apply Kd.R_drewN | apply Kd.R_drew)); exact (Kd.R_mono (Kd.R_far (p := ⟨gb1291, 3, none⟩) (Kd.R_far (p := ⟨gb1291, 2, none⟩) (Kd.R_far (p := ⟨gb1291, 1, none⟩) (Kd.R_far (p := ⟨gb1291, 0, none⟩) (Kd.R_types HO1277.out BK1291.out (by decide)) (fun _ hk => hk.2) (.int .i64 t1285)) (fun _ hk => hk.2) (.string t1286)) (fun _ hk => hk.2) (.slice Ao51 t1287.length co51)) (fun _ hk => hk.2) (.string t1290)) (fun _ h_ => h_.1))) (Kd.R_base ho0) hb); have n1_ := am (Kd.R_elder' (by (with_reducible repeat (first | apply Kd.R_alloc | apply Kd.R_drewN | apply Kd.R_drew)); exact (Kd.R_mono (Kd.R_far (p := ⟨gb1291, 3, none⟩) (Kd.R_far (p := ⟨gb1291, 2, none⟩) (Kd.R_far (p := ⟨gb1291, 1, none⟩) (Kd.R_far (p := ⟨gb1291, 0, none⟩) (Kd.R_types HO1282.out BK1291.out (by decide)) (fun _ hk => hk.2) (.int .i64 t1285)) (fun _ hk => hk.2) (.string t1286)) (fun _ hk => hk.2) (.slice Ao51 t1287.length co51)) (fun _ hk => hk.2) (.string t1290)) (fun _ h_ => h_.1))) (Kd.R_base ho0) hb); have n2_ := am (Kd.R_elder' (by (with_reducible repeat (first | apply Kd.R_alloc | apply Kd.R_drewN | apply Kd.R_drew)); exact (Kd.R_mono (Kd.R_far (p := ⟨gb1291, 3, none⟩) (Kd.R_far (p := ⟨gb1291, 2, none⟩) (Kd.R_far (p := ⟨gb1291, 1, none⟩) (Kd.R_far (p := ⟨gb1291, 0, none⟩) (Kd.R_types HO1289.out BK1291.out (by decide)) (fun _ hk => hk.2) (.int .i64 t1285)) (fun _ hk => hk.2) (.string t1286)) (fun _ hk => hk.2) (.slice Ao51 t1287.length co51)) (fun _ hk => hk.2) (.string t1290)) (fun _ h_ => h_.1))) (Kd.R_base ho0) hb); have n3_ := am (Kd.R_lower (Kd.R_new' (Kd.R_new' (Kd.R_new' ho0 (Kd.R_lt (by (with_reducible repeat (first | apply Kd.R_alloc | apply Kd.R_drewN | apply Kd.R_drew)); exact (Kd.R_mono (Kd.R_far (p := ⟨gb1291, 3, none⟩) (Kd.R_far (p := ⟨gb1291, 2, none⟩) (Kd.R_far (p := ⟨gb1291, 1, none⟩) (Kd.R_far (p := ⟨gb1291, 0, none⟩) (Kd.R_types HO1277.out BK1291.out (by decide)) (fun _ hk => hk.2) (.int .i64 t1285)) (fun _ hk => hk.2) (.string t1286)) (fun _ hk => hk.2) (.slice Ao51 t1287.length co51)) (fun _ hk => hk.2) (.string t1290)) (fun _ h_ => h_.1))))) (Kd.R_lt (by (with_reducible repeat (first | apply Kd.R_alloc | apply Kd.R_drewN | apply Kd.R_drew)); exact (Kd.R_mono (Kd.R_far (p := ⟨gb1291, 3, none⟩) (Kd.R_far (p := ⟨gb1291, 2, none⟩) (Kd.R_far (p := ⟨gb1291, 1, none⟩) (Kd.R_far (p := ⟨gb1291, 0, none⟩) (Kd.R_types HO1282.out BK1291.out (by decide)) (fun _ hk => hk.2) (.int .i64 t1285)) (fun _ hk => hk.2) (.string t1286)) (fun _ hk => hk.2) (.slice Ao51 t1287.length co51)) (fun _ hk => hk.2) (.string t1290)) (fun _ h_ => h_.1))))) (Kd.R_lt (by (with_reducible repeat (first | apply Kd.R_alloc | apply Kd.R_drewN | apply Kd.R_drew)); exact (Kd.R_mono (Kd.R_far (p := ⟨gb1291, 3, none⟩) (Kd.R_far (p := ⟨gb1291, 2, none⟩) (Kd.R_far (p := ⟨gb1291, 1, none⟩) (Kd.R_far (p := ⟨gb1291, 0, none⟩) (Kd.R_types HO1289.out BK1291.out (by decide)) (fun _ hk => hk.2) (.int .i64 t1285)) (fun _ hk => hk.2) (.string t1286)) (fun _ hk => hk.2) (.slice Ao51 t1287.length co51)) (fun _ hk => hk.2) (.string t1290)) (fun _ h_ => h_.1))))) (below_size bl)); have n4_ := kg1 BK1269 NB1269_1291 hb; have n5_ := kg1 BK1270 NB1270_1291 hb; have n6_ := am (blk_below (g := gb1291) (o := .cells #[.int .i64 t1285, .string t1286, .slice Ao51 t1287.length co51, .string t1290] 70 (0, 0)) (pt0 BK1291) hb); have n7_ := am (below_step bl hb); clear HO1277; clear HO1282; clear HO1289; clear BK1269; clear BK1270; clear BK1291; clear HB; have HO1277 := n0_; have HO1282 := n1_; have HO1289 := n2_; have HO1295 := n3_; have BK1269 := n4_; have BK1270 := n5_; have BK1291 := n6_; have HB := n7_; clear n0_ n1_ n2_ n3_ n4_ n5_ n6_ n7_; clear hb ho0) | (refine bx 8 #[.int .i64 0, .slice none 0 0, .string (⟨#[]⟩ : ByteArray)] 29 ?_; intro gb1297 hg w54 hbox hb; replace HO1277 := am (Kd.R_below (ro HO1277) hb); replace HO1282 := am (Kd.R_below (ro HO1282) hb); replace HO1289 := am (Kd.R_below (ro HO1289) hb); replace HO1295 := am (Kd.R_below (ro HO1295) hb); have BK1297 := am (hbox); have GW1297 := am (sz hg : w.heap.size ≤ gb1297); have GE1297 := am (sz hg : w.heap.size ≤ gb1297); replace HB := am (below_step bl hb); have NB1269_1297 := am (nl hg BK1269 : gb1269 ≠ gb1297); have NB1297_1269 := am (ng hg BK1269 : gb1297 ≠ gb1269); replace BK1269 := kb BK1269 hb; have NB1270_1297 := am (nl hg BK1270 : gb1270 ≠ gb1297); have NB1297_1270 := am (ng hg BK1270 : gb1297 ≠ gb1270); replace BK1270 := kb BK1270 hb; have NB1291_1297 := am (nl hg BK1291 : gb1291 ≠ gb1297); have NB1297_1291 := am (ng hg BK1291 : gb1297 ≠ gb1291); replace BK1291 := kb BK1291 hb; clear hb hbox hg; have hnb55 := NB1297_1269.out; have hnc55 := NB1269_1297.out; have hnb56 := NB1297_1270.out; have hnc56 := NB1270_1297.out; have hnb57 := NB1297_1291.out; have hnc57 := NB1291_1297.out; obtain ⟨z58_0, y58_0, z58_1, y58_1, z58_2, y58_2⟩ := cl3 BK1297; obtain ⟨Ao59, co59, eo59⟩ := Kd.R_slice HO1295.out; subst eo59; obtain ⟨z60_0, y60_0, z60_1, y60_1, z60_2, y60_2, z60_3, y60_3⟩ := cl4 BK1291) | (refine gl 31 Tryz.func48 #[.agg #[.int .i64 t1285, .string t1286, .slice Ao51 t1287.length co51, .string t1290], .agg #[.int .i64 t1292, .slice Ao59 t1293.length co59, .string t1296]] ?_; (with_reducible refine (impl_MayKeep.calls k t1285 t1286 _ _ t1287 t1290 t1292 _ _ t1293 t1296 t1298 _ ?side1 ?side2 ?side3 ?side4 ?side5 ?side6 ?side7 A24.out).mono ?_); (case side1 => exact GLOBE.below HGE.out bl); (case side2 => exact GLOBM.below HGM.out bl); (case side3 => exact GLOBT.below HGT.out bl); (case side4 => refine (Kd.R_reads' (e := 116) (base := w.heap.size) (ok := fun k_ => (((True ∧ some k_ ≠ (.slice Ao42 t1275.length co42 : Value).ownBlock) ∧ some k_ ≠ (.slice Ao43 t1280.length co43 : Value).ownBlock) ∧ some k_ ≠ (.slice Ao59 t1293.length co59 : Value).ownBlock)) (n := t1287.length) (c := co51) ?_).2.2; exact (by (with_reducible repeat (first | apply Kd.R_alloc | apply Kd.R_drewN | apply Kd.R_drew)); exact (Kd.R_mono (Kd.R_far (p := ⟨gb1297, 2, none⟩) (Kd.R_far (p := ⟨gb1297, 1, none⟩) (Kd.R_far (p := ⟨gb1297, 0, none⟩) (Kd.R_types HO1289.out BK1297.out (by decide)) (fun _ hk => hk.2) (.int .i64 t1292)) (fun _ hk => hk.2) (.slice Ao59 t1293.length co59)) (fun _ hk => hk.2) (.string t1296)) (fun _ h_ => h_.1)))); (case side5 => exact (Kd.R_reads' HO1289.out).2.1); (case side6 => refine (Kd.R_reads' (e := 116) (base := w.heap.size) (ok := fun k_ => (((True ∧ some k_ ≠ (.slice Ao42 t1275.length co42 : Value).ownBlock) ∧ some k_ ≠ (.slice Ao43 t1280.length co43 : Value).ownBlock) ∧ some k_ ≠ (.slice Ao51 t1287.length co51 : Value).ownBlock)) (n := t1293.length) (c := co59) ?_).2.2; exact (by (with_reducible repeat (first | apply Kd.R_alloc | apply Kd.R_drewN | apply Kd.R_drew)); exact (Kd.R_mono (Kd.R_far (p := ⟨gb1297, 2, none⟩) (Kd.R_far (p := ⟨gb1297, 1, none⟩) (Kd.R_far (p := ⟨gb1297, 0, none⟩) (Kd.R_types HO1295.out BK1297.out (by decide)) (fun _ hk => hk.2) (.int .i64 t1292)) (fun _ hk => hk.2) (.slice Ao59 t1293.length co59)) (fun _ hk => hk.2) (.string t1296)) (fun _ h_ => h_.1)))); (case side7 => exact (Kd.R_reads' HO1295.out).2.1); rintro e w61 ⟨rfl, hb⟩; refine ⟨_, rfl, ?_⟩; have n0_ := am (Kd.R_below (by (with_reducible repeat (first | apply Kd.R_alloc | apply Kd.R_drewN | apply Kd.R_drew)); exact (Kd.R_mono (Kd.R_far (p := ⟨gb1297, 2, none⟩) (Kd.R_far (p := ⟨gb1297, 1, none⟩) (Kd.R_far (p := ⟨gb1297, 0, none⟩) (Kd.R_types HO1277.out BK1297.out (by decide)) (fun _ hk => hk.2) (.int .i64 t1292)) (fun _ hk => hk.2) (.slice Ao59 t1293.length co59)) (fun _ hk => hk.2) (.string t1296)) (fun _ h_ => h_.1))) hb); have n1_ := am (Kd.R_below (by (with_reducible repeat (first | apply Kd.R_alloc | apply Kd.R_drewN | apply Kd.R_drew)); exact (Kd.R_mono (Kd.R_far (p := ⟨gb1297, 2, none⟩) (Kd.R_far (p := ⟨gb1297, 1, none⟩) (Kd.R_far (p := ⟨gb1297, 0, none⟩) (Kd.R_types HO1282.out BK1297.out (by decide)) (fun _ hk => hk.2) (.int .i64 t1292)) (fun _ hk => hk.2) (.slice Ao59 t1293.length co59)) (fun _ hk => hk.2) (.string t1296)) (fun _ h_ => h_.1))) hb); have n2_ := am (Kd.R_below (by (with_reducible repeat (first | apply Kd.R_alloc | apply Kd.R_drewN | apply Kd.R_drew)); exact (Kd.R_mono (Kd.R_far (p := ⟨gb1297, 2, none⟩) (Kd.R_far (p := ⟨gb1297, 1, none⟩) (Kd.R_far (p := ⟨gb1297, 0, none⟩) (Kd.R_types HO1289.out BK1297.out (by decide)) (fun _ hk => hk.2) (.int .i64 t1292)) (fun _ hk => hk.2) (.slice Ao59 t1293.length co59)) (fun _ hk => hk.2) (.string t1296)) (fun _ h_ => h_.1))) hb); have n3_ := am (Kd.R_below (by (with_reducible repeat (first | apply Kd.R_alloc | apply Kd.R_drewN | apply Kd.R_drew)); exact (Kd.R_mono (Kd.R_far (p := ⟨gb1297, 2, none⟩) (Kd.R_far (p := ⟨gb1297, 1, none⟩) (Kd.R_far (p := ⟨gb1297, 0, none⟩) (Kd.R_types HO1295.out BK1297.out (by decide)) (fun _ hk => hk.2) (.int .i64 t1292)) (fun _ hk => hk.2) (.slice Ao59 t1293.length co59)) (fun _ hk => hk.2) (.string t1296)) (fun _ h_ => h_.1))) hb); have n4_ := kg1 BK1269 NB1269_1297 hb; have n5_ := kg1 BK1270 NB1270_1297 hb; have n6_ := kg1 BK1291 NB1291_1297 hb; have n7_ := am (blk_below (g := gb1297) (o := .cells #[.int .i64 t1292, .slice Ao59 t1293.length co59, .string t1296] 29 (0, 0)) (pt0 BK1297) hb); have n8_ := am (below_step bl hb); clear HO1277; clear HO1282; clear HO1289; clear HO1295; clear BK1269; clear BK1270; clear BK1291; clear BK1297; clear HB; have HO1277 := n0_; have HO1282 := n1_; have HO1289 := n2_; have HO1295 := n3_; have BK1269 := n4_; have BK1270 := n5_; have BK1291 := n6_; have BK1297 := n7_; have HB := n8_; clear n0_ n1_ n2_ n3_ n4_ n5_ n6_ n7_ n8_; clear hb))
 replace HO1277 := am (Kd.R_drew HO1277.out)
 replace HO1282 := am (Kd.R_drew HO1282.out)
 replace HO1289 := am (Kd.R_drew HO1289.out)
 replace HO1295 := am (Kd.R_drew HO1295.out)
 replace BK1269 := am (blk_drew BK1269.out)
 replace BK1270 := am (blk_drew BK1270.out)
 replace BK1291 := am (blk_drew BK1291.out)
 replace BK1297 := am (blk_drew BK1297.out)
 replace HB := am (below_drew1 HB.out)
 refine start_ (n := 5) (S := fun w' => w'.cell? ⟨gb1291, 0, none⟩ = some (.int .i64 t1285) ∧ w'.cell? ⟨gb1291, 1, none⟩ = some (.string t1286) ∧ w'.cell? ⟨gb1291, 2, none⟩ = some (.slice Ao51 t1287.length co51) ∧ w'.cell? ⟨gb1291, 3, none⟩ = some (.string t1290) ∧ w'.cell? ⟨gb1269, 0, none⟩ = some (.int .i64 a0_0) ∧ w'.cell? ⟨gb1269, 1, none⟩ = some (.string a0_1) ∧ w'.cell? ⟨gb1269, 2, none⟩ = some (.slice A0_2 l0_2.length c0_2) ∧ w'.cell? ⟨gb1269, 3, none⟩ = some (.string a0_3)) (ds := []) ⟨br true [0, 5]⟩ (by kernel_rfl) rfl (by kernel_rfl) ⟨bc BK1291, bc BK1291, bc BK1291, bc BK1291, bc BK1269, bc BK1269, bc BK1269, bc BK1269⟩ (fun hHeld => ?_)
 generalize w61.drew = w62 at HO1277 HO1282 HO1289 HO1295 BK1269 BK1270 BK1291 BK1297 HB hHeld ⊢
 refine tk 0 35 [1, 4] ?_
 refine tk 1 36 [2, 3] ?_
 refine og 2 37 [3, 2] Tryz.func46 #[.agg #[.int .i64 a0_0, .string a0_1, .slice A0_2 l0_2.length c0_2, .string a0_3]] (fun K hK => ?_)
 with_reducible refine (laws_toReq.calls k a0_0 a0_1 _ _ l0_2 a0_3 t1299 t1300 t1301 t1304 _ ?side1 ?side2 A26.out).mono ?_
 (case side1 => exact cb HR0_2)
 (case side2 => exact HC0_2.out)
 rintro e w63 ⟨v1302, rfl, ho0, hb⟩
 refine ⟨_, rfl, ?_⟩
 have HO1303 := am (Kd.R_lower (Kd.R_new' (Kd.R_new' (Kd.R_new' (Kd.R_new' ho0 (Kd.R_lt (ro HO1277))) (Kd.R_lt (ro HO1282))) (Kd.R_lt (ro HO1289))) (Kd.R_lt (ro HO1295))) (below_size bl))
 replace HO1277 := am (Kd.R_elder' (ro HO1277) (Kd.R_base ho0) hb)
 replace HO1282 := am (Kd.R_elder' (ro HO1282) (Kd.R_base ho0) hb)
 replace HO1289 := am (Kd.R_elder' (ro HO1289) (Kd.R_base ho0) hb)
 replace HO1295 := am (Kd.R_elder' (ro HO1295) (Kd.R_base ho0) hb)
 replace BK1269 := kb BK1269 hb
 replace BK1270 := kb BK1270 hb
 replace BK1291 := kb BK1291 hb
 replace BK1297 := kb BK1297 hb
 replace HB := am (below_step bl hb)
 clear hb ho0
 obtain ⟨Ao64, co64, eo64⟩ := Kd.R_slice HO1303.out
 (first | subst eo64 | (injection eo64 with f1_ f2_ f3_; have f4_ := f1_.symm; have f5_ := f3_.symm; clear f1_ f2_ f3_; subst f4_; subst f5_))
 refine hK.out _ _ ⟨bc BK1291, bc BK1291, bc BK1291, bc BK1291, bc BK1269, bc BK1269, bc BK1269, bc BK1269⟩ (fun hHeld => ?_)
 clear hK K
 refine nm 37 ?_
 refine og 3 38 [4, 1] Tryz.func49 #[.agg #[.int .i64 t1285, .string t1286, .slice Ao51 t1287.length co51, .string t1290], .agg #[.int .i64 t1299, .string t1300, .slice Ao64 t1301.length co64, .string t1304]] (fun K hK => ?_)
 with_reducible refine (laws_eqReq.calls k t1285 t1286 _ _ t1287 t1290 t1299 t1300 _ _ t1301 t1304 true _ ?side1 ?side2 ?side3 ?side4 A27.out).mono ?_
 (case side1 => exact rc HO1289)
 (case side2 => exact (Kd.R_reads' HO1289.out).2.1)
 (case side3 => exact rc HO1303)
 (case side4 => exact (Kd.R_reads' HO1303.out).2.1)
 rintro e w65 ⟨rfl, hb⟩
 refine ⟨_, rfl, ?_⟩
 replace HO1277 := kr HO1277 hb
 replace HO1282 := kr HO1282 hb
 replace HO1289 := kr HO1289 hb
 replace HO1295 := kr HO1295 hb
 replace HO1303 := kr HO1303 hb
 replace BK1269 := kb BK1269 hb
 replace BK1270 := kb BK1270 hb
 replace BK1291 := kb BK1291 hb
 replace BK1297 := kb BK1297 hb
 replace HB := am (below_step bl hb)
 clear hb
 refine hK.out _ _ ⟨bc BK1291, bc BK1291, bc BK1291, bc BK1291, bc BK1269, bc BK1269, bc BK1269, bc BK1269⟩ (fun hHeld => ?_)
 clear hK K
 refine nm 38 ?_
 refine pu 4 39 [5] ?_
 refine done_ (by kernel_rfl) ?_
 try go_wp2
 replace HO1277 := am (Kd.R_drew HO1277.out)
 replace HO1282 := am (Kd.R_drew HO1282.out)
 replace HO1289 := am (Kd.R_drew HO1289.out)
 replace HO1295 := am (Kd.R_drew HO1295.out)
 replace HO1303 := am (Kd.R_drew HO1303.out)
 replace BK1269 := am (blk_drew BK1269.out)
 replace BK1270 := am (blk_drew BK1270.out)
 replace BK1291 := am (blk_drew BK1291.out)
 replace BK1297 := am (blk_drew BK1297.out)
 replace HB := am (below_drew1 HB.out)
 refine start_ (n := 5) (S := fun w' => w'.cell? ⟨gb1297, 0, none⟩ = some (.int .i64 t1292) ∧ w'.cell? ⟨gb1297, 1, none⟩ = some (.slice Ao59 t1293.length co59) ∧ w'.cell? ⟨gb1297, 2, none⟩ = some (.string t1296) ∧ w'.cell? ⟨gb1270, 0, none⟩ = some (.int .i64 a1_0) ∧ w'.cell? ⟨gb1270, 1, none⟩ = some (.slice A1_1 l1_1.length c1_1) ∧ w'.cell? ⟨gb1270, 2, none⟩ = some (.string a1_2)) (ds := []) ⟨br true [0, 5]⟩ (by kernel_rfl) rfl (by kernel_rfl) ⟨bc BK1297, bc BK1297, bc BK1297, bc BK1270, bc BK1270, bc BK1270⟩ (fun hHeld => ?_)
 generalize w65.drew = w66 at HO1277 HO1282 HO1289 HO1295 HO1303 BK1269 BK1270 BK1291 BK1297 HB hHeld ⊢
 refine tk 0 40 [1, 4] ?_
 refine tk 1 41 [2, 3] ?_
 refine og 2 42 [3, 2] Tryz.func47 #[.agg #[.int .i64 a1_0, .slice A1_1 l1_1.length c1_1, .string a1_2]] (fun K hK => ?_)
 with_reducible refine (laws_toResp.calls k a1_0 _ _ l1_1 a1_2 t1306 t1307 t1310 _ ?side1 ?side2 A29.out).mono ?_
 (case side1 => exact cb HR1_1)
 (case side2 => exact HC1_1.out)
 rintro e w67 ⟨v1308, rfl, ho0, hb⟩
 refine ⟨_, rfl, ?_⟩
 have HO1309 := am (Kd.R_lower (Kd.R_new' (Kd.R_new' (Kd.R_new' (Kd.R_new' (Kd.R_new' ho0 (Kd.R_lt (ro HO1277))) (Kd.R_lt (ro HO1282))) (Kd.R_lt (ro HO1289))) (Kd.R_lt (ro HO1295))) (Kd.R_lt (ro HO1303))) (below_size bl))
 replace HO1277 := am (Kd.R_elder' (ro HO1277) (Kd.R_base ho0) hb)
 replace HO1282 := am (Kd.R_elder' (ro HO1282) (Kd.R_base ho0) hb)
 replace HO1289 := am (Kd.R_elder' (ro HO1289) (Kd.R_base ho0) hb)
 replace HO1295 := am (Kd.R_elder' (ro HO1295) (Kd.R_base ho0) hb)
 replace HO1303 := am (Kd.R_elder' (ro HO1303) (Kd.R_base ho0) hb)
 replace BK1269 := kb BK1269 hb
 replace BK1270 := kb BK1270 hb
 replace BK1291 := kb BK1291 hb
 replace BK1297 := kb BK1297 hb
 replace HB := am (below_step bl hb)
 clear hb ho0
 obtain ⟨Ao68, co68, eo68⟩ := Kd.R_slice HO1309.out
 (first | subst eo68 | (injection eo68 with f1_ f2_ f3_; have f4_ := f1_.symm; have f5_ := f3_.symm; clear f1_ f2_ f3_; subst f4_; subst f5_))
 refine hK.out _ _ ⟨bc BK1297, bc BK1297, bc BK1297, bc BK1270, bc BK1270, bc BK1270⟩ (fun hHeld => ?_)
 clear hK K
 refine nm 42 ?_
 refine og 3 43 [4, 1] Tryz.func50 #[.agg #[.int .i64 t1292, .slice Ao59 t1293.length co59, .string t1296], .agg #[.int .i64 t1306, .slice Ao68 t1307.length co68, .string t1310]] (fun K hK => ?_)
 with_reducible refine (laws_eqResp.calls k t1292 _ _ t1293 t1296 t1306 _ _ t1307 t1310 true _ ?side1 ?side2 ?side3 ?side4 A30.out).mono ?_
 (case side1 => exact rc HO1295)
 (case side2 => exact (Kd.R_reads' HO1295.out).2.1)
 (case side3 => exact rc HO1309)
 (case side4 => exact (Kd.R_reads' HO1309.out).2.1)
 rintro e w69 ⟨rfl, hb⟩
 refine ⟨_, rfl, ?_⟩
 replace HO1277 := kr HO1277 hb
 replace HO1282 := kr HO1282 hb
 replace HO1289 := kr HO1289 hb
 replace HO1295 := kr HO1295 hb
 replace HO1303 := kr HO1303 hb
 replace HO1309 := kr HO1309 hb
 replace BK1269 := kb BK1269 hb
 replace BK1270 := kb BK1270 hb
 replace BK1291 := kb BK1291 hb
 replace BK1297 := kb BK1297 hb
 replace HB := am (below_step bl hb)
 clear hb
 refine hK.out _ _ ⟨bc BK1297, bc BK1297, bc BK1297, bc BK1270, bc BK1270, bc BK1270⟩ (fun hHeld => ?_)
 clear hK K
 refine nm 43 ?_
 refine pu 4 44 [5] ?_
 refine done_ (by kernel_rfl) ?_
 try go_wp2
 go_ret
 exact ⟨rf, bl⟩

end Go.Proofs.YtdbgkookjpgnnaaGreatDoor.All
