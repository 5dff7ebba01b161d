-- Written by a program of this session (wip/tools/hprint.py) out of the translation. Lean checks it.
import Derived.Test.YtjlpjbkpmmpojaaGreatDoorKMayKeepAllx0
import Derived.Test.YtjlpjbkpmmpojaaGreatDoorKMayKeepAllx2
import Derived.Test.YtjlpjbkpmmpojaaGreatDoorKMayKeepAllx8
import Derived.Test.YtjlpjbkpmmpojaaGreatDoorKMayKeepAllx11
import Derived.Test.YtjlpjbkpmmpojaaGreatDoorKMayKeepAllx20
import Derived.Test.YtjlpjbkpmmpojaaGreatDoorKMayKeepAllx25
import Derived.Test.YtjlpjbkpmmpojaaGreatDoorKMayKeepAllx26
import Derived.Test.YtjlpjbkpmmpojaaGreatDoorKMayKeepAllx27
namespace Go.Proofs.YtjlpjbkpmmpojaaGreatDoor.All
open Go.RowKit Go.Proofs.YtjlpjbkpmmpojaaGreatDoorW.PrintWords Go.Proofs.YtjlpjbkpmmpojaaGreatDoorW.PrintLast Go.Proofs.YtjlpjbkpmmpojaaGreatDoorW.PrintMore
attribute [local go_sem] max2_int min2_int max_two min_two max_three min_three max_four min_four  -- for this text's walks alone
set_option linter.unusedVariables false
set_option linter.unusedSimpArgs false

/-! ### laws_FnMayKeep: function 5 -/
attribute [local go_sem high] ccf0 ccf1 ccf2 ccf3 ccf4 ccf5
theorem u5HB {p : Prop} (h : p := by repeat (first | (with_reducible first | exact HB.out | apply below_alloc | apply pw_below_drewN | apply below_drew1 | refine below_set ?_ GE1250.out | refine below_set ?_ GE1251.out | refine below_set ?_ GE1266.out | refine below_set ?_ GE1267.out | refine below_set ?_ GE1280.out | refine below_set ?_ GE1281.out | refine below_set ?_ GE1287.out) | exact HB.out)) : p := h
def laws_FnMayKeep.j0 : Nat → List Int → Bool → Option (Bool)
 | 0, _, _ => none
 | k + 1, x0, x69 => if x69 = true then (some false) else ((spec_DrawMerge.f k x0).bind fun bt1270 => ((impl_Merge.f k bt1270.1 bt1270.2.1 bt1270.2.2.1 bt1270.2.2.2.1 bt1270.2.2.2.2.1 bt1270.2.2.2.2.2).bind fun bt1282 => ((impl_RespText.f k bt1282.1 bt1282.2.1 bt1282.2.2).bind fun t1288 => ((spec_Merge.f k bt1270.1 bt1270.2.1 bt1270.2.2.1 bt1270.2.2.2.1 bt1270.2.2.2.2.1 bt1270.2.2.2.2.2).bind fun bt1289 => ((impl_RespText.f k bt1289.1 bt1289.2.1 bt1289.2.2).bind fun t1294 => (if t1288.toList = t1294.toList then (if bt1282.2.2.toList = bt1270.2.2.1.toList then (if bt1282.1 = bt1270.1 then ((impl_RespOk.f k bt1270.1 bt1270.2.1 bt1270.2.2.1).bind fun t1295 => (if t1295 = true then ((impl_RespOk.f k bt1282.1 bt1282.2.1 bt1282.2.2).bind fun t1296 => (some t1296)) else (some true))) else (some false)) else (some false)) else (some false)))))))
def laws_FnMayKeep.f (k : Nat) (l0 : List Int) : Option (Bool) := (laws_big.f l0).bind fun t1238 => (if t1238 = true then (some true) else ((spec_DrawMayKeep.f k l0).bind fun bt1239 => ((impl_MayKeep.f k bt1239.1 bt1239.2.1 bt1239.2.2.1 bt1239.2.2.2.1 bt1239.2.2.2.2.1 bt1239.2.2.2.2.2.1 bt1239.2.2.2.2.2.2).bind fun t1252 => ((spec_MayKeep.f k bt1239.1 bt1239.2.1 bt1239.2.2.1 bt1239.2.2.2.1 bt1239.2.2.2.2.1 bt1239.2.2.2.2.2.1 bt1239.2.2.2.2.2.2).bind fun t1253 => (if (t1252 != t1253) = true then (some false) else ((impl_CcOf.f k bt1239.2.2.1).bind fun bt1254 => ((impl_CcOf.f k bt1239.2.2.2.2.2.1).bind fun bt1260 => (if t1252 = true then (if bt1239.2.2.2.2.1 = 200 then (if bt1239.1 = 1 then (if bt1254.1 = true then (laws_FnMayKeep.j0 k l0 true) else (if bt1260.1 = true then (laws_FnMayKeep.j0 k l0 true) else (if bt1260.2.2.1 = true then (laws_FnMayKeep.j0 k l0 true) else (if bt1260.2.2.2.2.1 = true then ((impl_ReqOk.f k bt1239.1 bt1239.2.1 bt1239.2.2.1 bt1239.2.2.2.1).bind fun t1268 => (if t1268 = true then ((impl_RespOk.f k bt1239.2.2.2.2.1 bt1239.2.2.2.2.2.1 bt1239.2.2.2.2.2.2).bind fun t1269 => (laws_FnMayKeep.j0 k l0 (!t1269))) else (laws_FnMayKeep.j0 k l0 true))) else (laws_FnMayKeep.j0 k l0 true))))) else (laws_FnMayKeep.j0 k l0 true)) else (laws_FnMayKeep.j0 k l0 true)) else (laws_FnMayKeep.j0 k l0 false)))))))))
def laws_FnMayKeep.T7 : Bool × List (List Nat × List Nat) := (true, [([], []), ([0], [0]), ([1], [1]), ([], []), ([3], [3]), ([4, 2], [4]), ([], []), ([], []), ([6, 2, 5, 0, 1, 2, 6, 7], [2, 6]), ([7, 5, 8, 0, 1, 2, 3, 4, 5, 6, 7, 8], [5, 7])])
def laws_FnMayKeep.B7 : List Nat := [0, 1, 3, 0, 8, 31, 0, 0, 255, 511]
theorem laws_FnMayKeep.tab7 : rtab .any (opsOf Tryz.f5 7) = laws_FnMayKeep.T7 := by kernel_rfl
theorem laws_FnMayKeep.bits7 : waitsOk laws_FnMayKeep.T7.2 laws_FnMayKeep.B7 = true := by kernel_rfl
def laws_FnMayKeep.T12 : Bool × List (List Nat × List Nat) := (true, [([], []), ([0], [0]), ([], []), ([], []), ([2, 3, 1], [2, 3]), ([4, 4], [4]), ([1, 5], [1, 5]), ([6, 5], [6]), ([7], [7]), ([8, 7], [7, 8]), ([7], [7]), ([10, 7], [7, 10]), ([9, 11, 7], [7, 9, 11]), ([7, 12], [7, 12]), ([13, 7], [13]), ([14], [14]), ([15, 14], [14, 15]), ([14], [14]), ([17, 14], [14, 17]), ([16, 18, 14], [14, 16, 18]), ([14, 19], [14, 19]), ([20, 14], [20]), ([21], [21]), ([22, 21, 21], [21, 22]), ([23, 21], [21, 23]), ([24, 23, 21], [21, 24]), ([25], [25]), ([26, 25, 25], [25, 26]), ([25, 27, 21], [21, 25, 27]), ([21, 28], [21, 28]), ([29, 27, 0, 1, 2, 3, 4, 5, 6, 7, 8, 9, 10, 11, 12, 13, 14, 15, 16, 17, 18, 19, 20, 21, 22, 23, 24, 25, 26, 27, 28, 29], [29])])
def laws_FnMayKeep.B12 : List Nat := [0, 1, 0, 0, 15, 31, 63, 127, 255, 511, 255, 1279, 4095, 8191, 16383, 32767, 65535, 32767, 163839, 524287, 1048575, 2097151, 4194303, 8388607, 16777215, 33554431, 67108863, 134217727, 268435455, 536870911, 1073741823]
theorem laws_FnMayKeep.tab12 : rtab .any (opsOf Tryz.f5 12) = laws_FnMayKeep.T12 := by kernel_rfl
theorem laws_FnMayKeep.bits12 : waitsOk laws_FnMayKeep.T12.2 laws_FnMayKeep.B12 = true := by kernel_rfl
set_option maxHeartbeats 8000000 in
set_option maxRecDepth 100000 in
theorem laws_FnMayKeep.calls (k : Nat) (A0 : Option Addr) (c0 : Nat) (l0 : List Int) (r : Bool) (w : World) (hGE : GLOBE w) (hGM : GLOBM w) (hGT : GLOBT w) (hr0 : Kd.C (Kd.int .u8) w A0 l0.length l0) (hc0 : l0.length ≤ c0) (ht_ : r = true) (h : laws_FnMayKeep.f k l0 = some r) :
  Calls Tryz.prog 5 #[.slice A0 l0.length c0] w fun e w' => e = .returned (.bool r) ∧ Below w.heap.size w w' := by
 have hu50 := Tryz.underlying50
 have hu29 := Tryz.underlying29
 have hu42 := Tryz.underlying42
 have HR0 := am hr0
 have HC0 := am hc0
 clear hr0 hc0
 have HGE := am hGE
 clear hGE
 have HGM := am hGM
 clear hGM
 have HGT := am hGT
 clear hGT
 have HB := am (Below.refl w.heap.size w)
 unfold laws_FnMayKeep.f at h
 have H := h
 clear h
 revert H
 refine ok1 fun t1238 A2 H => ?_
 by_cases c3 : t1238 = true
 ·subst c3
  rw [if_pos rfl] at H
  obtain rfl := Option.some.inj H
  go_enter Tryz.func5, Tryz.ntmps5
  go_wp2_with ((with_reducible refine gw ?_); first | (refine gl 12 Tryz.func10 #[.slice A0 l0.length c0] ?_; (with_reducible refine (laws_big.calls _ _ l0 true _ ?side1 ?side2 A2.out).mono ?_); (case side1 => exact cc HR0); (case side2 => exact HC0.out); rintro e w' ⟨rfl, ⟨nd, rfl⟩⟩; refine ⟨_, rfl, ?_⟩))
  go_ret
  exact ⟨rf, bl⟩
 replace c3 := Bool.eq_false_iff.mpr c3
 subst c3
 rw [if_neg (show ¬ (false = true) by decide)] at H
 revert H
 refine ok7 fun t1239 t1240 t1241 t1244 t1245 t1246 t1249 A4 H => ?_
 (try dsimp only at H)
 revert H
 refine ok1 fun t1252 A5 H => ?_
 revert H
 refine ok1 fun t1253 A6 H => ?_
 by_cases c7 : (t1252 != t1253) = true
 ·rw [if_pos c7] at H
  have c7b0 : (t1252 != t1253) = true := c7
  (try (have c7b1 : decide (t1252 = t1253) = false := by simpa using c7))
  (try (have c7b2 : (t1252 == t1253) = false := by simpa using c7))
  (try (have c7b3 : ¬ (t1252 = t1253) := by simpa using c7))
  clear c7
  exact absurd (Option.some.inj H) (by rw [ht_]; decide)
 rw [if_neg c7] at H
 have c7b0 : (t1252 != t1253) = false := by simpa using c7
 (try (have c7b1 : decide (t1252 = t1253) = true := by simpa using c7))
 (try (have c7b2 : (t1252 == t1253) = true := by simpa using c7))
 clear c7
 revert H
 refine ok6 fun t1254 t1255 t1256 t1257 t1258 t1259 A8 H => ?_
 (try dsimp only at H)
 revert H
 refine ok6 fun t1260 t1261 t1262 t1263 t1264 t1265 A9 H => ?_
 (try dsimp only at H)
 have HC10 := am H
 clear H
 go_enter Tryz.func5, Tryz.ntmps5
 try go_wp2_with ((with_reducible refine gw ?_); first | (refine gl 12 Tryz.func10 #[.slice A0 l0.length c0] ?_; (with_reducible refine (laws_big.calls _ _ l0 false _ ?side1 ?side2 A2.out).mono ?_); (case side1 => exact cc HR0); (case side2 => exact HC0.out); rintro e w' ⟨rfl, ⟨nd, rfl⟩⟩; refine ⟨_, rfl, ?_⟩) | (refine gl 15 Tryz.func28 #[.slice A0 l0.length c0] ?_; (with_reducible refine (spec_DrawMayKeep.calls k _ _ l0 t1239 t1240 t1241 t1244 t1245 t1246 t1249 _ ?side1 ?side2 A4.out).mono ?_); (case side1 => exact cc HR0); (case side2 => exact HC0.out); rintro e w11 ⟨v1242, v1247, rfl, ho0, ho1, hb⟩; refine ⟨_, rfl, ?_⟩; have HO1243 := am (Kd.R_lower ho0 (below_size bl)); have HO1248 := am (Kd.R_lower ho1 (below_size bl)); replace HB := am (below_step bl hb); clear hb ho0 ho1) | (refine bx 3 #[.int .i64 0, .string (⟨#[]⟩ : ByteArray), .slice none 0 0, .string (⟨#[]⟩ : ByteArray)] 50 ?_; intro gb1250 hg w12 hbox hb; replace HO1243 := am (Kd.R_below (ro HO1243) hb); replace HO1248 := am (Kd.R_below (ro HO1248) hb); have BK1250 := am (hbox); have GW1250 := am (sz hg : w.heap.size ≤ gb1250); have GE1250 := am (sz hg : w.heap.size ≤ gb1250); replace HB := am (below_step bl hb); clear hb hbox hg) | (refine bx 4 #[.int .i64 0, .slice none 0 0, .string (⟨#[]⟩ : ByteArray)] 29 ?_; intro gb1251 hg w13 hbox hb; replace HO1243 := am (Kd.R_below (ro HO1243) hb); replace HO1248 := am (Kd.R_below (ro HO1248) hb); have BK1251 := am (hbox); have GW1251 := am (sz hg : w.heap.size ≤ gb1251); have GE1251 := am (sz hg : w.heap.size ≤ gb1251); replace HB := am (below_step bl hb); have NB1250_1251 := am (nl hg BK1250 : gb1250 ≠ gb1251); have NB1251_1250 := am (ng hg BK1250 : gb1251 ≠ gb1250); replace BK1250 := kb BK1250 hb; clear hb hbox hg; have hnb14 := NB1250_1251.out; have hnc14 := NB1251_1250.out; obtain ⟨z15_0, y15_0, z15_1, y15_1, z15_2, y15_2, z15_3, y15_3⟩ := cl4 BK1250; obtain ⟨Ao16, co16, eo16⟩ := Kd.R_slice HO1243.out; subst eo16; obtain ⟨z17_0, y17_0, z17_1, y17_1, z17_2, y17_2⟩ := cl3 BK1251; obtain ⟨Ao18, co18, eo18⟩ := Kd.R_slice HO1248.out; subst eo18) | (refine gl 20 Tryz.func29 #[.agg #[.int .i64 t1239, .string t1240, .slice Ao16 t1241.length co16, .string t1244], .agg #[.int .i64 t1245, .slice Ao18 t1246.length co18, .string t1249]] ?_; (with_reducible refine (impl_MayKeep.calls k t1239 t1240 _ _ t1241 t1244 t1245 _ _ t1246 t1249 t1252 _ ?side1 ?side2 ?side3 ?side4 ?side5 ?side6 ?side7 A5.out).mono ?_); (case side1 => exact GLOBE.below HGE.out bl); (case side2 => exact GLOBM.below HGM.out bl); (case side3 => exact GLOBT.below HGT.out bl); (case side4 => refine (Kd.R_reads' (e := 116) (base := w.heap.size) (ok := fun k_ => some k_ ≠ (.slice Ao18 t1246.length co18 : Value).ownBlock) (n := t1241.length) (c := co16) ?_).2.2; exact (by (with_reducible repeat (first | apply Kd.R_alloc | apply Kd.R_drewN | apply Kd.R_drew)); exact (Kd.R_mono (rj (Kd.R_types (Kd.R_types HO1243.out BK1250.out (by decide)) BK1251.out (by decide)) (fun _ h_ => h_.1)) (fun _ h_ => h_.1)))); (case side5 => exact (Kd.R_reads' HO1243.out).2.1); (case side6 => refine (Kd.R_reads' (e := 116) (base := w.heap.size) (ok := fun k_ => some k_ ≠ (.slice Ao16 t1241.length co16 : Value).ownBlock) (n := t1246.length) (c := co18) ?_).2.2; exact (by (with_reducible repeat (first | apply Kd.R_alloc | apply Kd.R_drewN | apply Kd.R_drew)); exact (Kd.R_mono (rj (Kd.R_types (Kd.R_types HO1248.out BK1250.out (by decide)) BK1251.out (by decide)) (fun _ h_ => h_.1)) (fun _ h_ => h_.1)))); (case side7 => exact (Kd.R_reads' HO1248.out).2.1); rintro e w19 ⟨rfl, hb⟩; refine ⟨_, rfl, ?_⟩; have n0_ := am (Kd.R_below (by (with_reducible repeat (first | apply Kd.R_alloc | apply Kd.R_drewN | apply Kd.R_drew)); exact (Kd.R_mono (rj (Kd.R_types (Kd.R_types HO1243.out BK1250.out (by decide)) BK1251.out (by decide)) (fun _ h_ => h_.1)) (fun _ h_ => h_.1))) hb); have n1_ := am (Kd.R_below (by (with_reducible repeat (first | apply Kd.R_alloc | apply Kd.R_drewN | apply Kd.R_drew)); exact (Kd.R_mono (rj (Kd.R_types (Kd.R_types HO1248.out BK1250.out (by decide)) BK1251.out (by decide)) (fun _ h_ => h_.1)) (fun _ h_ => h_.1))) hb); have n2_ := am (blk_below (g := gb1250) (o := .cells #[.int .i64 t1239, .string t1240, .slice Ao16 t1241.length co16, .string t1244] 50 (0, 0)) (pt1 BK1250 NB1250_1251) hb); have n3_ := am (blk_below (g := gb1251) (o := .cells #[.int .i64 t1245, .slice Ao18 t1246.length co18, .string t1249] 29 (0, 0)) (pt1 BK1251 NB1251_1250) hb); have n4_ := am (below_step bl hb); clear HO1243; clear HO1248; clear BK1250; clear BK1251; clear HB; have HO1243 := n0_; have HO1248 := n1_; have BK1250 := n2_; have BK1251 := n3_; have HB := n4_; clear n0_ n1_ n2_ n3_ n4_; clear hb; obtain ⟨z20_0, y20_0, z20_1, y20_1, z20_2, y20_2, z20_3, y20_3⟩ := cl4 BK1250; obtain ⟨z21_0, y21_0, z21_1, y21_1, z21_2, y21_2⟩ := cl3 BK1251) | (refine gl 24 Tryz.func30 #[.agg #[.int .i64 t1239, .string t1240, .slice Ao16 t1241.length co16, .string t1244], .agg #[.int .i64 t1245, .slice Ao18 t1246.length co18, .string t1249]] ?_; (with_reducible refine (spec_MayKeep.calls k t1239 t1240 _ _ t1241 t1244 t1245 _ _ t1246 t1249 t1253 _ ?side1 ?side2 ?side3 ?side4 A6.out).mono ?_); (case side1 => exact rc HO1243); (case side2 => exact (Kd.R_reads' HO1243.out).2.1); (case side3 => exact rc HO1248); (case side4 => exact (Kd.R_reads' HO1248.out).2.1); rintro e w22 ⟨rfl, hb⟩; refine ⟨_, rfl, ?_⟩; replace HO1243 := kr HO1243 hb; replace HO1248 := kr HO1248 hb; replace BK1250 := kb BK1250 hb; replace BK1251 := kb BK1251 hb; replace HB := am (below_step bl hb); clear hb))
 replace HO1243 := am (Kd.R_drew HO1243.out)
 replace HO1248 := am (Kd.R_drew HO1248.out)
 replace BK1250 := am (blk_drew BK1250.out)
 replace BK1251 := am (blk_drew BK1251.out)
 replace HB := am (below_drew1 HB.out)
 refine start_ (n := 10) (S := fun w' => w'.cell? ⟨gb1250, 0, none⟩ = some (.int .i64 t1239) ∧ w'.cell? ⟨gb1250, 1, none⟩ = some (.string t1240) ∧ w'.cell? ⟨gb1250, 2, none⟩ = some (.slice Ao16 t1241.length co16) ∧ w'.cell? ⟨gb1250, 3, none⟩ = some (.string t1244) ∧ w'.cell? ⟨gb1251, 0, none⟩ = some (.int .i64 t1245) ∧ w'.cell? ⟨gb1251, 1, none⟩ = some (.slice Ao18 t1246.length co18) ∧ w'.cell? ⟨gb1251, 2, none⟩ = some (.string t1249)) (ds := []) ⟨br true [0, 10]⟩ (by kernel_rfl) rfl (by kernel_rfl) ⟨bc BK1250, bc BK1250, bc BK1250, bc BK1250, bc BK1251, bc BK1251, bc BK1251⟩ (fun hHeld => ?_); refine with_tabW laws_FnMayKeep.tab7 laws_FnMayKeep.bits7 (fun HT_ HW_ => ?_)
 generalize w22.drew = w23 at HO1243 HO1248 BK1250 BK1251 HB hHeld ⊢
 refine pu 0 26 [1, 9] ?_
 refine pu 3 29 [1, 2, 1, 6] ?_
 refine tk 1 27 [2, 1, 1, 6] ?_
 refine tk 4 30 [2, 1, 2, 5] ?_
 refine join_ (σ := Nat × Nat) 2 #[true, true, true, true, true, true, true, true, false, false] (fun s_ => [(28, .agg #[.bool t1254, .bool t1255, .bool t1256, .bool t1257, .bool t1258, .int .i64 t1259]), (31, .agg #[.bool t1260, .bool t1261, .bool t1262, .bool t1263, .bool t1264, .int .i64 t1265]), (6, .pointer (some ⟨s_.1, 0, none⟩)), (7, .pointer (some ⟨s_.2, 0, none⟩))]) (fun s_ w' => (w'.cell? ⟨gb1250, 0, none⟩ = some (.int .i64 t1239) ∧ w'.cell? ⟨gb1250, 1, none⟩ = some (.string t1240) ∧ w'.cell? ⟨gb1250, 2, none⟩ = some (.slice Ao16 t1241.length co16) ∧ w'.cell? ⟨gb1250, 3, none⟩ = some (.string t1244) ∧ w'.cell? ⟨gb1251, 0, none⟩ = some (.int .i64 t1245) ∧ w'.cell? ⟨gb1251, 1, none⟩ = some (.slice Ao18 t1246.length co18) ∧ w'.cell? ⟨gb1251, 2, none⟩ = some (.string t1249)) ∧ (Kd.R k116 116 w' w.heap.size (fun k_ => some k_ ≠ (.slice Ao18 t1246.length co18 : Value).ownBlock) (.slice Ao16 t1241.length co16) t1241) ∧ (Kd.R k116 116 w' w.heap.size (fun k_ => some k_ ≠ (.slice Ao16 t1241.length co16 : Value).ownBlock) (.slice Ao18 t1246.length co18) t1246) ∧ (w'.heap[gb1250]? = some (.cells #[.int .i64 t1239, .string t1240, .slice Ao16 t1241.length co16, .string t1244] 50 (0, 0))) ∧ (w'.heap[gb1251]? = some (.cells #[.int .i64 t1245, .slice Ao18 t1246.length co18, .string t1249] 29 (0, 0))) ∧ (w'.heap[s_.1]? = some (.cells #[.bool false, .bool false, .bool false, .bool false, .bool false, .int .i64 0] 42 (0, 0))) ∧ (w'.heap[s_.2]? = some (.cells #[.bool false, .bool false, .bool false, .bool false, .bool false, .int .i64 0] 42 (0, 0))) ∧ (w.heap.size ≤ s_.1) ∧ (w.heap.size ≤ s_.1) ∧ (gb1250 ≠ s_.1) ∧ (s_.1 ≠ gb1250) ∧ (gb1251 ≠ s_.1) ∧ (s_.1 ≠ gb1251) ∧ (s_.2 ≠ s_.1) ∧ (s_.1 ≠ s_.2) ∧ (w.heap.size ≤ s_.2) ∧ (w.heap.size ≤ s_.2) ∧ (gb1250 ≠ s_.2) ∧ (s_.2 ≠ gb1250) ∧ (gb1251 ≠ s_.2) ∧ (s_.2 ≠ gb1251) ∧ (Below w.heap.size w w')) ?_ ?_
 rotate_left
 ·intro hJ2_5_6_7
  refine join_ (σ := Nat) 3 #[true, true, true, true, true, true, true, false, false, false] (fun s_ => [(28, .agg #[.bool t1254, .bool t1255, .bool t1256, .bool t1257, .bool t1258, .int .i64 t1259]), (31, .agg #[.bool t1260, .bool t1261, .bool t1262, .bool t1263, .bool t1264, .int .i64 t1265]), (6, .pointer (some ⟨s_, 0, none⟩))]) (fun s_ w' => (w'.cell? ⟨gb1250, 0, none⟩ = some (.int .i64 t1239) ∧ w'.cell? ⟨gb1250, 1, none⟩ = some (.string t1240) ∧ w'.cell? ⟨gb1250, 2, none⟩ = some (.slice Ao16 t1241.length co16) ∧ w'.cell? ⟨gb1250, 3, none⟩ = some (.string t1244) ∧ w'.cell? ⟨gb1251, 0, none⟩ = some (.int .i64 t1245) ∧ w'.cell? ⟨gb1251, 1, none⟩ = some (.slice Ao18 t1246.length co18) ∧ w'.cell? ⟨gb1251, 2, none⟩ = some (.string t1249)) ∧ (Kd.R k116 116 w' w.heap.size (fun k_ => some k_ ≠ (.slice Ao18 t1246.length co18 : Value).ownBlock) (.slice Ao16 t1241.length co16) t1241) ∧ (Kd.R k116 116 w' w.heap.size (fun k_ => some k_ ≠ (.slice Ao16 t1241.length co16 : Value).ownBlock) (.slice Ao18 t1246.length co18) t1246) ∧ (w'.heap[gb1250]? = some (.cells #[.int .i64 t1239, .string t1240, .slice Ao16 t1241.length co16, .string t1244] 50 (0, 0))) ∧ (w'.heap[gb1251]? = some (.cells #[.int .i64 t1245, .slice Ao18 t1246.length co18, .string t1249] 29 (0, 0))) ∧ (w'.heap[s_]? = some (.cells #[.bool false, .bool false, .bool false, .bool false, .bool false, .int .i64 0] 42 (0, 0))) ∧ (w.heap.size ≤ s_) ∧ (w.heap.size ≤ s_) ∧ (gb1250 ≠ s_) ∧ (s_ ≠ gb1250) ∧ (gb1251 ≠ s_) ∧ (s_ ≠ gb1251) ∧ (Below w.heap.size w w')) ?_ ?_
  rotate_left
  ·intro hJ2_5_6
   refine join_ (σ := Nat) 3 #[true, true, true, true, true, true, false, true, false, false] (fun s_ => [(28, .agg #[.bool t1254, .bool t1255, .bool t1256, .bool t1257, .bool t1258, .int .i64 t1259]), (31, .agg #[.bool t1260, .bool t1261, .bool t1262, .bool t1263, .bool t1264, .int .i64 t1265]), (7, .pointer (some ⟨s_, 0, none⟩))]) (fun s_ w' => (w'.cell? ⟨gb1250, 0, none⟩ = some (.int .i64 t1239) ∧ w'.cell? ⟨gb1250, 1, none⟩ = some (.string t1240) ∧ w'.cell? ⟨gb1250, 2, none⟩ = some (.slice Ao16 t1241.length co16) ∧ w'.cell? ⟨gb1250, 3, none⟩ = some (.string t1244) ∧ w'.cell? ⟨gb1251, 0, none⟩ = some (.int .i64 t1245) ∧ w'.cell? ⟨gb1251, 1, none⟩ = some (.slice Ao18 t1246.length co18) ∧ w'.cell? ⟨gb1251, 2, none⟩ = some (.string t1249)) ∧ (Kd.R k116 116 w' w.heap.size (fun k_ => some k_ ≠ (.slice Ao18 t1246.length co18 : Value).ownBlock) (.slice Ao16 t1241.length co16) t1241) ∧ (Kd.R k116 116 w' w.heap.size (fun k_ => some k_ ≠ (.slice Ao16 t1241.length co16 : Value).ownBlock) (.slice Ao18 t1246.length co18) t1246) ∧ (w'.heap[gb1250]? = some (.cells #[.int .i64 t1239, .string t1240, .slice Ao16 t1241.length co16, .string t1244] 50 (0, 0))) ∧ (w'.heap[gb1251]? = some (.cells #[.int .i64 t1245, .slice Ao18 t1246.length co18, .string t1249] 29 (0, 0))) ∧ (w'.heap[s_]? = some (.cells #[.bool false, .bool false, .bool false, .bool false, .bool false, .int .i64 0] 42 (0, 0))) ∧ (w.heap.size ≤ s_) ∧ (w.heap.size ≤ s_) ∧ (gb1250 ≠ s_) ∧ (s_ ≠ gb1250) ∧ (gb1251 ≠ s_) ∧ (s_ ≠ gb1251) ∧ (Below w.heap.size w w')) ?_ ?_
   rotate_left
   ·intro hJ2_5_7
    refine join_ (σ := Nat × Nat) 3 #[true, true, true, true, true, false, true, true, false, false] (fun s_ => [(28, .agg #[.bool t1254, .bool t1255, .bool t1256, .bool t1257, .bool t1258, .int .i64 t1259]), (6, .pointer (some ⟨s_.1, 0, none⟩)), (7, .pointer (some ⟨s_.2, 0, none⟩))]) (fun s_ w' => (w'.cell? ⟨gb1250, 0, none⟩ = some (.int .i64 t1239) ∧ w'.cell? ⟨gb1250, 1, none⟩ = some (.string t1240) ∧ w'.cell? ⟨gb1250, 2, none⟩ = some (.slice Ao16 t1241.length co16) ∧ w'.cell? ⟨gb1250, 3, none⟩ = some (.string t1244) ∧ w'.cell? ⟨gb1251, 0, none⟩ = some (.int .i64 t1245) ∧ w'.cell? ⟨gb1251, 1, none⟩ = some (.slice Ao18 t1246.length co18) ∧ w'.cell? ⟨gb1251, 2, none⟩ = some (.string t1249)) ∧ (Kd.R k116 116 w' w.heap.size (fun k_ => some k_ ≠ (.slice Ao18 t1246.length co18 : Value).ownBlock) (.slice Ao16 t1241.length co16) t1241) ∧ (Kd.R k116 116 w' w.heap.size (fun k_ => some k_ ≠ (.slice Ao16 t1241.length co16 : Value).ownBlock) (.slice Ao18 t1246.length co18) t1246) ∧ (w'.heap[gb1250]? = some (.cells #[.int .i64 t1239, .string t1240, .slice Ao16 t1241.length co16, .string t1244] 50 (0, 0))) ∧ (w'.heap[gb1251]? = some (.cells #[.int .i64 t1245, .slice Ao18 t1246.length co18, .string t1249] 29 (0, 0))) ∧ (w'.heap[s_.1]? = some (.cells #[.bool false, .bool false, .bool false, .bool false, .bool false, .int .i64 0] 42 (0, 0))) ∧ (w'.heap[s_.2]? = some (.cells #[.bool false, .bool false, .bool false, .bool false, .bool false, .int .i64 0] 42 (0, 0))) ∧ (w.heap.size ≤ s_.1) ∧ (w.heap.size ≤ s_.1) ∧ (gb1250 ≠ s_.1) ∧ (s_.1 ≠ gb1250) ∧ (gb1251 ≠ s_.1) ∧ (s_.1 ≠ gb1251) ∧ (s_.2 ≠ s_.1) ∧ (s_.1 ≠ s_.2) ∧ (w.heap.size ≤ s_.2) ∧ (w.heap.size ≤ s_.2) ∧ (gb1250 ≠ s_.2) ∧ (s_.2 ≠ gb1250) ∧ (gb1251 ≠ s_.2) ∧ (s_.2 ≠ gb1251) ∧ (Below w.heap.size w w')) ?_ ?_
    rotate_left
    ·intro hJ2_6_7
     refine join_ (σ := Unit) 4 #[true, true, true, true, true, true, false, false, false, false] (fun s_ => [(28, .agg #[.bool t1254, .bool t1255, .bool t1256, .bool t1257, .bool t1258, .int .i64 t1259]), (31, .agg #[.bool t1260, .bool t1261, .bool t1262, .bool t1263, .bool t1264, .int .i64 t1265])]) (fun s_ w' => (w'.cell? ⟨gb1250, 0, none⟩ = some (.int .i64 t1239) ∧ w'.cell? ⟨gb1250, 1, none⟩ = some (.string t1240) ∧ w'.cell? ⟨gb1250, 2, none⟩ = some (.slice Ao16 t1241.length co16) ∧ w'.cell? ⟨gb1250, 3, none⟩ = some (.string t1244) ∧ w'.cell? ⟨gb1251, 0, none⟩ = some (.int .i64 t1245) ∧ w'.cell? ⟨gb1251, 1, none⟩ = some (.slice Ao18 t1246.length co18) ∧ w'.cell? ⟨gb1251, 2, none⟩ = some (.string t1249)) ∧ (Kd.R k116 116 w' w.heap.size (fun k_ => some k_ ≠ (.slice Ao18 t1246.length co18 : Value).ownBlock) (.slice Ao16 t1241.length co16) t1241) ∧ (Kd.R k116 116 w' w.heap.size (fun k_ => some k_ ≠ (.slice Ao16 t1241.length co16 : Value).ownBlock) (.slice Ao18 t1246.length co18) t1246) ∧ (w'.heap[gb1250]? = some (.cells #[.int .i64 t1239, .string t1240, .slice Ao16 t1241.length co16, .string t1244] 50 (0, 0))) ∧ (w'.heap[gb1251]? = some (.cells #[.int .i64 t1245, .slice Ao18 t1246.length co18, .string t1249] 29 (0, 0))) ∧ (Below w.heap.size w w')) ?_ ?_
     rotate_left
     ·intro hJ2_5
      refine join_ (σ := Nat) 4 #[true, true, true, true, true, false, true, false, false, false] (fun s_ => [(28, .agg #[.bool t1254, .bool t1255, .bool t1256, .bool t1257, .bool t1258, .int .i64 t1259]), (6, .pointer (some ⟨s_, 0, none⟩))]) (fun s_ w' => (w'.cell? ⟨gb1250, 0, none⟩ = some (.int .i64 t1239) ∧ w'.cell? ⟨gb1250, 1, none⟩ = some (.string t1240) ∧ w'.cell? ⟨gb1250, 2, none⟩ = some (.slice Ao16 t1241.length co16) ∧ w'.cell? ⟨gb1250, 3, none⟩ = some (.string t1244) ∧ w'.cell? ⟨gb1251, 0, none⟩ = some (.int .i64 t1245) ∧ w'.cell? ⟨gb1251, 1, none⟩ = some (.slice Ao18 t1246.length co18) ∧ w'.cell? ⟨gb1251, 2, none⟩ = some (.string t1249)) ∧ (Kd.R k116 116 w' w.heap.size (fun k_ => some k_ ≠ (.slice Ao18 t1246.length co18 : Value).ownBlock) (.slice Ao16 t1241.length co16) t1241) ∧ (Kd.R k116 116 w' w.heap.size (fun k_ => some k_ ≠ (.slice Ao16 t1241.length co16 : Value).ownBlock) (.slice Ao18 t1246.length co18) t1246) ∧ (w'.heap[gb1250]? = some (.cells #[.int .i64 t1239, .string t1240, .slice Ao16 t1241.length co16, .string t1244] 50 (0, 0))) ∧ (w'.heap[gb1251]? = some (.cells #[.int .i64 t1245, .slice Ao18 t1246.length co18, .string t1249] 29 (0, 0))) ∧ (w'.heap[s_]? = some (.cells #[.bool false, .bool false, .bool false, .bool false, .bool false, .int .i64 0] 42 (0, 0))) ∧ (w.heap.size ≤ s_) ∧ (w.heap.size ≤ s_) ∧ (gb1250 ≠ s_) ∧ (s_ ≠ gb1250) ∧ (gb1251 ≠ s_) ∧ (s_ ≠ gb1251) ∧ (Below w.heap.size w w')) ?_ ?_
      rotate_left
      ·intro hJ2_6
       refine join_ (σ := Nat) 4 #[true, true, true, true, true, false, false, true, false, false] (fun s_ => [(28, .agg #[.bool t1254, .bool t1255, .bool t1256, .bool t1257, .bool t1258, .int .i64 t1259]), (7, .pointer (some ⟨s_, 0, none⟩))]) (fun s_ w' => (w'.cell? ⟨gb1250, 0, none⟩ = some (.int .i64 t1239) ∧ w'.cell? ⟨gb1250, 1, none⟩ = some (.string t1240) ∧ w'.cell? ⟨gb1250, 2, none⟩ = some (.slice Ao16 t1241.length co16) ∧ w'.cell? ⟨gb1250, 3, none⟩ = some (.string t1244) ∧ w'.cell? ⟨gb1251, 0, none⟩ = some (.int .i64 t1245) ∧ w'.cell? ⟨gb1251, 1, none⟩ = some (.slice Ao18 t1246.length co18) ∧ w'.cell? ⟨gb1251, 2, none⟩ = some (.string t1249)) ∧ (Kd.R k116 116 w' w.heap.size (fun k_ => some k_ ≠ (.slice Ao18 t1246.length co18 : Value).ownBlock) (.slice Ao16 t1241.length co16) t1241) ∧ (Kd.R k116 116 w' w.heap.size (fun k_ => some k_ ≠ (.slice Ao16 t1241.length co16 : Value).ownBlock) (.slice Ao18 t1246.length co18) t1246) ∧ (w'.heap[gb1250]? = some (.cells #[.int .i64 t1239, .string t1240, .slice Ao16 t1241.length co16, .string t1244] 50 (0, 0))) ∧ (w'.heap[gb1251]? = some (.cells #[.int .i64 t1245, .slice Ao18 t1246.length co18, .string t1249] 29 (0, 0))) ∧ (w'.heap[s_]? = some (.cells #[.bool false, .bool false, .bool false, .bool false, .bool false, .int .i64 0] 42 (0, 0))) ∧ (w.heap.size ≤ s_) ∧ (w.heap.size ≤ s_) ∧ (gb1250 ≠ s_) ∧ (s_ ≠ gb1250) ∧ (gb1251 ≠ s_) ∧ (s_ ≠ gb1251) ∧ (Below w.heap.size w w')) ?_ ?_
       rotate_left
       ·intro hJ2_7
        refine join_ (σ := Nat × Nat) 4 #[true, true, false, true, true, false, true, true, false, false] (fun s_ => [(6, .pointer (some ⟨s_.1, 0, none⟩)), (7, .pointer (some ⟨s_.2, 0, none⟩))]) (fun s_ w' => (w'.cell? ⟨gb1250, 0, none⟩ = some (.int .i64 t1239) ∧ w'.cell? ⟨gb1250, 1, none⟩ = some (.string t1240) ∧ w'.cell? ⟨gb1250, 2, none⟩ = some (.slice Ao16 t1241.length co16) ∧ w'.cell? ⟨gb1250, 3, none⟩ = some (.string t1244) ∧ w'.cell? ⟨gb1251, 0, none⟩ = some (.int .i64 t1245) ∧ w'.cell? ⟨gb1251, 1, none⟩ = some (.slice Ao18 t1246.length co18) ∧ w'.cell? ⟨gb1251, 2, none⟩ = some (.string t1249)) ∧ (Kd.R k116 116 w' w.heap.size (fun k_ => some k_ ≠ (.slice Ao18 t1246.length co18 : Value).ownBlock) (.slice Ao16 t1241.length co16) t1241) ∧ (Kd.R k116 116 w' w.heap.size (fun k_ => some k_ ≠ (.slice Ao16 t1241.length co16 : Value).ownBlock) (.slice Ao18 t1246.length co18) t1246) ∧ (w'.heap[gb1250]? = some (.cells #[.int .i64 t1239, .string t1240, .slice Ao16 t1241.length co16, .string t1244] 50 (0, 0))) ∧ (w'.heap[gb1251]? = some (.cells #[.int .i64 t1245, .slice Ao18 t1246.length co18, .string t1249] 29 (0, 0))) ∧ (w'.heap[s_.1]? = some (.cells #[.bool false, .bool false, .bool false, .bool false, .bool false, .int .i64 0] 42 (0, 0))) ∧ (w'.heap[s_.2]? = some (.cells #[.bool false, .bool false, .bool false, .bool false, .bool false, .int .i64 0] 42 (0, 0))) ∧ (w.heap.size ≤ s_.1) ∧ (w.heap.size ≤ s_.1) ∧ (gb1250 ≠ s_.1) ∧ (s_.1 ≠ gb1250) ∧ (gb1251 ≠ s_.1) ∧ (s_.1 ≠ gb1251) ∧ (s_.2 ≠ s_.1) ∧ (s_.1 ≠ s_.2) ∧ (w.heap.size ≤ s_.2) ∧ (w.heap.size ≤ s_.2) ∧ (gb1250 ≠ s_.2) ∧ (s_.2 ≠ gb1250) ∧ (gb1251 ≠ s_.2) ∧ (s_.2 ≠ gb1251) ∧ (Below w.heap.size w w')) ?_ ?_
        rotate_left
        ·intro hJ6_7
         refine join_ (σ := Unit) 5 #[true, true, true, true, true, false, false, false, false, false] (fun s_ => [(28, .agg #[.bool t1254, .bool t1255, .bool t1256, .bool t1257, .bool t1258, .int .i64 t1259])]) (fun s_ w' => (w'.cell? ⟨gb1250, 0, none⟩ = some (.int .i64 t1239) ∧ w'.cell? ⟨gb1250, 1, none⟩ = some (.string t1240) ∧ w'.cell? ⟨gb1250, 2, none⟩ = some (.slice Ao16 t1241.length co16) ∧ w'.cell? ⟨gb1250, 3, none⟩ = some (.string t1244) ∧ w'.cell? ⟨gb1251, 0, none⟩ = some (.int .i64 t1245) ∧ w'.cell? ⟨gb1251, 1, none⟩ = some (.slice Ao18 t1246.length co18) ∧ w'.cell? ⟨gb1251, 2, none⟩ = some (.string t1249)) ∧ (Kd.R k116 116 w' w.heap.size (fun k_ => some k_ ≠ (.slice Ao18 t1246.length co18 : Value).ownBlock) (.slice Ao16 t1241.length co16) t1241) ∧ (Kd.R k116 116 w' w.heap.size (fun k_ => some k_ ≠ (.slice Ao16 t1241.length co16 : Value).ownBlock) (.slice Ao18 t1246.length co18) t1246) ∧ (w'.heap[gb1250]? = some (.cells #[.int .i64 t1239, .string t1240, .slice Ao16 t1241.length co16, .string t1244] 50 (0, 0))) ∧ (w'.heap[gb1251]? = some (.cells #[.int .i64 t1245, .slice Ao18 t1246.length co18, .string t1249] 29 (0, 0))) ∧ (Below w.heap.size w w')) ?_ ?_
         rotate_left
         ·intro hJ2
          refine join_ (σ := Nat) 5 #[true, true, false, true, true, false, true, false, false, false] (fun s_ => [(6, .pointer (some ⟨s_, 0, none⟩))]) (fun s_ w' => (w'.cell? ⟨gb1250, 0, none⟩ = some (.int .i64 t1239) ∧ w'.cell? ⟨gb1250, 1, none⟩ = some (.string t1240) ∧ w'.cell? ⟨gb1250, 2, none⟩ = some (.slice Ao16 t1241.length co16) ∧ w'.cell? ⟨gb1250, 3, none⟩ = some (.string t1244) ∧ w'.cell? ⟨gb1251, 0, none⟩ = some (.int .i64 t1245) ∧ w'.cell? ⟨gb1251, 1, none⟩ = some (.slice Ao18 t1246.length co18) ∧ w'.cell? ⟨gb1251, 2, none⟩ = some (.string t1249)) ∧ (Kd.R k116 116 w' w.heap.size (fun k_ => some k_ ≠ (.slice Ao18 t1246.length co18 : Value).ownBlock) (.slice Ao16 t1241.length co16) t1241) ∧ (Kd.R k116 116 w' w.heap.size (fun k_ => some k_ ≠ (.slice Ao16 t1241.length co16 : Value).ownBlock) (.slice Ao18 t1246.length co18) t1246) ∧ (w'.heap[gb1250]? = some (.cells #[.int .i64 t1239, .string t1240, .slice Ao16 t1241.length co16, .string t1244] 50 (0, 0))) ∧ (w'.heap[gb1251]? = some (.cells #[.int .i64 t1245, .slice Ao18 t1246.length co18, .string t1249] 29 (0, 0))) ∧ (w'.heap[s_]? = some (.cells #[.bool false, .bool false, .bool false, .bool false, .bool false, .int .i64 0] 42 (0, 0))) ∧ (w.heap.size ≤ s_) ∧ (w.heap.size ≤ s_) ∧ (gb1250 ≠ s_) ∧ (s_ ≠ gb1250) ∧ (gb1251 ≠ s_) ∧ (s_ ≠ gb1251) ∧ (Below w.heap.size w w')) ?_ ?_
          rotate_left
          ·intro hJ6
           refine join_ (σ := Nat) 5 #[true, true, false, true, true, false, false, true, false, false] (fun s_ => [(7, .pointer (some ⟨s_, 0, none⟩))]) (fun s_ w' => (w'.cell? ⟨gb1250, 0, none⟩ = some (.int .i64 t1239) ∧ w'.cell? ⟨gb1250, 1, none⟩ = some (.string t1240) ∧ w'.cell? ⟨gb1250, 2, none⟩ = some (.slice Ao16 t1241.length co16) ∧ w'.cell? ⟨gb1250, 3, none⟩ = some (.string t1244) ∧ w'.cell? ⟨gb1251, 0, none⟩ = some (.int .i64 t1245) ∧ w'.cell? ⟨gb1251, 1, none⟩ = some (.slice Ao18 t1246.length co18) ∧ w'.cell? ⟨gb1251, 2, none⟩ = some (.string t1249)) ∧ (Kd.R k116 116 w' w.heap.size (fun k_ => some k_ ≠ (.slice Ao18 t1246.length co18 : Value).ownBlock) (.slice Ao16 t1241.length co16) t1241) ∧ (Kd.R k116 116 w' w.heap.size (fun k_ => some k_ ≠ (.slice Ao16 t1241.length co16 : Value).ownBlock) (.slice Ao18 t1246.length co18) t1246) ∧ (w'.heap[gb1250]? = some (.cells #[.int .i64 t1239, .string t1240, .slice Ao16 t1241.length co16, .string t1244] 50 (0, 0))) ∧ (w'.heap[gb1251]? = some (.cells #[.int .i64 t1245, .slice Ao18 t1246.length co18, .string t1249] 29 (0, 0))) ∧ (w'.heap[s_]? = some (.cells #[.bool false, .bool false, .bool false, .bool false, .bool false, .int .i64 0] 42 (0, 0))) ∧ (w.heap.size ≤ s_) ∧ (w.heap.size ≤ s_) ∧ (gb1250 ≠ s_) ∧ (s_ ≠ gb1250) ∧ (gb1251 ≠ s_) ∧ (s_ ≠ gb1251) ∧ (Below w.heap.size w w')) ?_ ?_
           rotate_left
           ·intro hJ7
            refine three_ (i := 2) (j := 6) (k := 7) (Ni := some 28) (Nj := some 6) (Nk := some 7) #[true, true, true, true, true, false, false, false, false, false] #[true, true, false, true, true, false, true, false, false, false] #[true, true, false, true, true, false, false, true, false, false] rfl rfl rfl rfl rfl rfl (three_of HT_.out (by kernel_rfl)) (by decide) (by decide) (by decide) (fun K hK => ?_) (fun K hK => ?_) (fun K hK => ?_)
            ·skip
             refine goes_ Tryz.func26 (by kernel_rfl) rfl #[.slice Ao16 t1241.length co16] (by rfl) rfl rfl ma ?_
             with_reducible refine (impl_CcOf.calls k _ _ t1241 t1254 t1255 t1256 t1257 t1258 t1259 _ ?side1 ?side2 ?side3 ?side4 ?side5 A8.out).mono ?_
             (case side1 => exact GLOBE.below HGE.out bl)
             (case side2 => exact GLOBM.below HGM.out bl)
             (case side3 => exact GLOBT.below HGT.out bl)
             (case side4 => exact rc HO1243)
             (case side5 => exact (Kd.R_reads' HO1243.out).2.1)
             rintro e w24 ⟨rfl, hb⟩
             refine ⟨_, rfl, ?_⟩
             replace HO1243 := kr HO1243 hb
             replace HO1248 := kr HO1248 hb
             replace BK1250 := kb BK1250 hb
             replace BK1251 := kb BK1251 hb
             replace HB := am (below_step bl hb)
             clear hb
             refine hK.out _ _ ⟨bc BK1250, bc BK1250, bc BK1250, bc BK1250, bc BK1251, bc BK1251, bc BK1251⟩ (fun hHeld => ?_)
             clear hK K
             refine nm 28 ?_
             exact norm_ (by first | (simp only [putAll, Act.put, List.setIfInBounds_toArray, List.set_cons_zero, List.set_cons_succ]; done) | (simp only [putAll, Act.put, List.setIfInBounds_toArray, List.set_cons_zero, List.set_cons_succ]; rfl)) (hJ2 () _ ⟨hHeld, (ro HO1243), (ro HO1248), (bk BK1250), (bk BK1251), bl⟩)
            ·skip
             refine box_step ?hg (N := 6) ?hd (cs := #[.bool false, .bool false, .bool false, .bool false, .bool false, .int .i64 0]) (t := 42) ?hr ?_; (case hd => rfl); (case hg => rfl); (case hr => first | (go_simp; done) | (go_simp; rfl))
             intro gb1266 hg w24 hbox hb
             replace HO1243 := am (Kd.R_below (ro HO1243) hb)
             replace HO1248 := am (Kd.R_below (ro HO1248) hb)
             have BK1266 := am (hbox)
             have GW1266 := am (sz hg : w.heap.size ≤ gb1266)
             have GE1266 := am (sz hg : w.heap.size ≤ gb1266)
             replace HB := am (below_step bl hb)
             have NB1250_1266 := am (nl hg BK1250 : gb1250 ≠ gb1266)
             have NB1266_1250 := am (ng hg BK1250 : gb1266 ≠ gb1250)
             replace BK1250 := kb BK1250 hb
             have NB1251_1266 := am (nl hg BK1251 : gb1251 ≠ gb1266)
             have NB1266_1251 := am (ng hg BK1251 : gb1266 ≠ gb1251)
             replace BK1251 := kb BK1251 hb
             clear hb hbox hg
             refine hK.out _ _ ⟨bc BK1250, bc BK1250, bc BK1250, bc BK1250, bc BK1251, bc BK1251, bc BK1251⟩ (fun hHeld => ?_)
             clear hK K
             refine nm 6 ?_
             exact norm_ (by first | (simp only [putAll, Act.put, List.setIfInBounds_toArray, List.set_cons_zero, List.set_cons_succ]; done) | (simp only [putAll, Act.put, List.setIfInBounds_toArray, List.set_cons_zero, List.set_cons_succ]; rfl)) (hJ6 (gb1266) _ ⟨hHeld, (ro HO1243), (ro HO1248), (bk BK1250), (bk BK1251), (bk BK1266), GW1266.out, GE1266.out, NB1250_1266.out, NB1266_1250.out, NB1251_1266.out, NB1266_1251.out, bl⟩)
            ·skip
             refine box_step ?hg (N := 7) ?hd (cs := #[.bool false, .bool false, .bool false, .bool false, .bool false, .int .i64 0]) (t := 42) ?hr ?_; (case hd => rfl); (case hg => rfl); (case hr => first | (go_simp; done) | (go_simp; rfl))
             intro gb1267 hg w24 hbox hb
             replace HO1243 := am (Kd.R_below (ro HO1243) hb)
             replace HO1248 := am (Kd.R_below (ro HO1248) hb)
             have BK1267 := am (hbox)
             have GW1267 := am (sz hg : w.heap.size ≤ gb1267)
             have GE1267 := am (sz hg : w.heap.size ≤ gb1267)
             replace HB := am (below_step bl hb)
             have NB1250_1267 := am (nl hg BK1250 : gb1250 ≠ gb1267)
             have NB1267_1250 := am (ng hg BK1250 : gb1267 ≠ gb1250)
             replace BK1250 := kb BK1250 hb
             have NB1251_1267 := am (nl hg BK1251 : gb1251 ≠ gb1267)
             have NB1267_1251 := am (ng hg BK1251 : gb1267 ≠ gb1251)
             replace BK1251 := kb BK1251 hb
             clear hb hbox hg
             refine hK.out _ _ ⟨bc BK1250, bc BK1250, bc BK1250, bc BK1250, bc BK1251, bc BK1251, bc BK1251⟩ (fun hHeld => ?_)
             clear hK K
             refine nm 7 ?_
             exact norm_ (by first | (simp only [putAll, Act.put, List.setIfInBounds_toArray, List.set_cons_zero, List.set_cons_succ]; done) | (simp only [putAll, Act.put, List.setIfInBounds_toArray, List.set_cons_zero, List.set_cons_succ]; rfl)) (hJ7 (gb1267) _ ⟨hHeld, (ro HO1243), (ro HO1248), (bk BK1250), (bk BK1251), (bk BK1267), GW1267.out, GE1267.out, NB1250_1267.out, NB1267_1250.out, NB1251_1267.out, NB1267_1251.out, bl⟩)
           ·skip
            rintro gb1267 w25 ⟨hS_, h0_, h1_, h2_, h3_, h4_, h5_, h6_, h7_, h8_, h9_, h10_, h11_⟩
            have n0_ : Aside0 (Kd.R k116 116 w25 w.heap.size (fun k_ => some k_ ≠ (.slice Ao18 t1246.length co18 : Value).ownBlock) (.slice Ao16 t1241.length co16) t1241) := ⟨h0_⟩
            have n1_ : Aside0 (Kd.R k116 116 w25 w.heap.size (fun k_ => some k_ ≠ (.slice Ao16 t1241.length co16 : Value).ownBlock) (.slice Ao18 t1246.length co18) t1246) := ⟨h1_⟩
            have n2_ : Aside0 (w25.heap[gb1250]? = some (.cells #[.int .i64 t1239, .string t1240, .slice Ao16 t1241.length co16, .string t1244] 50 (0, 0))) := ⟨h2_⟩
            have n3_ : Aside0 (w25.heap[gb1251]? = some (.cells #[.int .i64 t1245, .slice Ao18 t1246.length co18, .string t1249] 29 (0, 0))) := ⟨h3_⟩
            have n4_ : Aside0 (w25.heap[gb1267]? = some (.cells #[.bool false, .bool false, .bool false, .bool false, .bool false, .int .i64 0] 42 (0, 0))) := ⟨h4_⟩
            have n5_ : Aside0 (w.heap.size ≤ gb1267) := ⟨h5_⟩
            have n6_ : Aside0 (w.heap.size ≤ gb1267) := ⟨h6_⟩
            have n7_ : Aside0 (gb1250 ≠ gb1267) := ⟨h7_⟩
            have n8_ : Aside0 (gb1267 ≠ gb1250) := ⟨h8_⟩
            have n9_ : Aside0 (gb1251 ≠ gb1267) := ⟨h9_⟩
            have n10_ : Aside0 (gb1267 ≠ gb1251) := ⟨h10_⟩
            have n11_ : Aside0 (Below w.heap.size w w25) := ⟨h11_⟩
            clear HO1243
            clear HO1248
            clear BK1250
            clear BK1251
            clear HB
            clear h0_ h1_ h2_ h3_ h4_ h5_ h6_ h7_ h8_ h9_ h10_ h11_
            have HO1243 := n0_
            have HO1248 := n1_
            have BK1250 := n2_
            have BK1251 := n3_
            have BK1267 := n4_
            have GW1267 := n5_
            have GE1267 := n6_
            have NB1250_1267 := n7_
            have NB1267_1250 := n8_
            have NB1251_1267 := n9_
            have NB1267_1251 := n10_
            have HB := n11_
            clear n0_ n1_ n2_ n3_ n4_ n5_ n6_ n7_ n8_ n9_ n10_ n11_
            have hHeld : w25.cell? ⟨gb1250, 0, none⟩ = some (.int .i64 t1239) ∧ w25.cell? ⟨gb1250, 1, none⟩ = some (.string t1240) ∧ w25.cell? ⟨gb1250, 2, none⟩ = some (.slice Ao16 t1241.length co16) ∧ w25.cell? ⟨gb1250, 3, none⟩ = some (.string t1244) ∧ w25.cell? ⟨gb1251, 0, none⟩ = some (.int .i64 t1245) ∧ w25.cell? ⟨gb1251, 1, none⟩ = some (.slice Ao18 t1246.length co18) ∧ w25.cell? ⟨gb1251, 2, none⟩ = some (.string t1249) := hS_
            refine norm_ (a' := ?_) ?_ ?_
            rotate_left
            ·simp only [putAll, Act.put, List.setIfInBounds_toArray, List.set_cons_zero, List.set_cons_succ]
             rfl
            refine two_ (i := 2) (j := 6) (Ni := some 28) (Nj := some 6) #[true, true, true, true, true, false, false, true, false, false] #[true, true, false, true, true, false, true, true, false, false] rfl rfl rfl rfl (two_of HT_.out (by kernel_rfl)) (by decide) (by decide) (fun K hK => ?_) (fun K hK => ?_)
            ·skip
             refine goes_ Tryz.func26 (by kernel_rfl) rfl #[.slice Ao16 t1241.length co16] (by rfl) rfl rfl ma ?_
             with_reducible refine (impl_CcOf.calls k _ _ t1241 t1254 t1255 t1256 t1257 t1258 t1259 _ ?side1 ?side2 ?side3 ?side4 ?side5 A8.out).mono ?_
             (case side1 => exact GLOBE.below HGE.out bl)
             (case side2 => exact GLOBM.below HGM.out bl)
             (case side3 => exact GLOBT.below HGT.out bl)
             (case side4 => exact rc HO1243)
             (case side5 => exact (Kd.R_reads' HO1243.out).2.1)
             rintro e w26 ⟨rfl, hb⟩
             refine ⟨_, rfl, ?_⟩
             replace HO1243 := kr HO1243 hb
             replace HO1248 := kr HO1248 hb
             replace BK1250 := kb BK1250 hb
             replace BK1251 := kb BK1251 hb
             replace BK1267 := kb BK1267 hb
             replace HB := am (below_step bl hb)
             clear hb
             refine hK.out _ _ ⟨bc BK1250, bc BK1250, bc BK1250, bc BK1250, bc BK1251, bc BK1251, bc BK1251⟩ (fun hHeld => ?_)
             clear hK K
             refine nm 28 ?_
             exact norm_ (by first | (simp only [putAll, Act.put, List.setIfInBounds_toArray, List.set_cons_zero, List.set_cons_succ]; done) | (simp only [putAll, Act.put, List.setIfInBounds_toArray, List.set_cons_zero, List.set_cons_succ]; rfl)) (hJ2_7 (gb1267) _ ⟨hHeld, (ro HO1243), (ro HO1248), (bk BK1250), (bk BK1251), (bk BK1267), GW1267.out, GE1267.out, NB1250_1267.out, NB1267_1250.out, NB1251_1267.out, NB1267_1251.out, bl⟩)
            ·skip
             refine box_step ?hg (N := 6) ?hd (cs := #[.bool false, .bool false, .bool false, .bool false, .bool false, .int .i64 0]) (t := 42) ?hr ?_; (case hd => rfl); (case hg => rfl); (case hr => first | (go_simp; done) | (go_simp; rfl))
             intro gb1266 hg w26 hbox hb
             replace HO1243 := am (Kd.R_below (ro HO1243) hb)
             replace HO1248 := am (Kd.R_below (ro HO1248) hb)
             have BK1266 := am (hbox)
             have GW1266 := am (sz hg : w.heap.size ≤ gb1266)
             have GE1266 := am (sz hg : w.heap.size ≤ gb1266)
             replace HB := am (below_step bl hb)
             have NB1250_1266 := am (nl hg BK1250 : gb1250 ≠ gb1266)
             have NB1266_1250 := am (ng hg BK1250 : gb1266 ≠ gb1250)
             replace BK1250 := kb BK1250 hb
             have NB1251_1266 := am (nl hg BK1251 : gb1251 ≠ gb1266)
             have NB1266_1251 := am (ng hg BK1251 : gb1266 ≠ gb1251)
             replace BK1251 := kb BK1251 hb
             have NB1267_1266 := am (nl hg BK1267 : gb1267 ≠ gb1266)
             have NB1266_1267 := am (ng hg BK1267 : gb1266 ≠ gb1267)
             replace BK1267 := kb BK1267 hb
             clear hb hbox hg
             refine hK.out _ _ ⟨bc BK1250, bc BK1250, bc BK1250, bc BK1250, bc BK1251, bc BK1251, bc BK1251⟩ (fun hHeld => ?_)
             clear hK K
             refine nm 6 ?_
             exact norm_ (by first | (simp only [putAll, Act.put, List.setIfInBounds_toArray, List.set_cons_zero, List.set_cons_succ]; done) | (simp only [putAll, Act.put, List.setIfInBounds_toArray, List.set_cons_zero, List.set_cons_succ]; rfl)) (hJ6_7 (gb1266, gb1267) _ ⟨hHeld, (ro HO1243), (ro HO1248), (bk BK1250), (bk BK1251), (bk BK1266), (bk BK1267), GW1266.out, GE1266.out, NB1250_1266.out, NB1266_1250.out, NB1251_1266.out, NB1266_1251.out, NB1267_1266.out, NB1266_1267.out, GW1267.out, GE1267.out, NB1250_1267.out, NB1267_1250.out, NB1251_1267.out, NB1267_1251.out, bl⟩)
          ·skip
           rintro gb1266 w25 ⟨hS_, h0_, h1_, h2_, h3_, h4_, h5_, h6_, h7_, h8_, h9_, h10_, h11_⟩
           have n0_ : Aside0 (Kd.R k116 116 w25 w.heap.size (fun k_ => some k_ ≠ (.slice Ao18 t1246.length co18 : Value).ownBlock) (.slice Ao16 t1241.length co16) t1241) := ⟨h0_⟩
           have n1_ : Aside0 (Kd.R k116 116 w25 w.heap.size (fun k_ => some k_ ≠ (.slice Ao16 t1241.length co16 : Value).ownBlock) (.slice Ao18 t1246.length co18) t1246) := ⟨h1_⟩
           have n2_ : Aside0 (w25.heap[gb1250]? = some (.cells #[.int .i64 t1239, .string t1240, .slice Ao16 t1241.length co16, .string t1244] 50 (0, 0))) := ⟨h2_⟩
           have n3_ : Aside0 (w25.heap[gb1251]? = some (.cells #[.int .i64 t1245, .slice Ao18 t1246.length co18, .string t1249] 29 (0, 0))) := ⟨h3_⟩
           have n4_ : Aside0 (w25.heap[gb1266]? = some (.cells #[.bool false, .bool false, .bool false, .bool false, .bool false, .int .i64 0] 42 (0, 0))) := ⟨h4_⟩
           have n5_ : Aside0 (w.heap.size ≤ gb1266) := ⟨h5_⟩
           have n6_ : Aside0 (w.heap.size ≤ gb1266) := ⟨h6_⟩
           have n7_ : Aside0 (gb1250 ≠ gb1266) := ⟨h7_⟩
           have n8_ : Aside0 (gb1266 ≠ gb1250) := ⟨h8_⟩
           have n9_ : Aside0 (gb1251 ≠ gb1266) := ⟨h9_⟩
           have n10_ : Aside0 (gb1266 ≠ gb1251) := ⟨h10_⟩
           have n11_ : Aside0 (Below w.heap.size w w25) := ⟨h11_⟩
           clear HO1243
           clear HO1248
           clear BK1250
           clear BK1251
           clear HB
           clear h0_ h1_ h2_ h3_ h4_ h5_ h6_ h7_ h8_ h9_ h10_ h11_
           have HO1243 := n0_
           have HO1248 := n1_
           have BK1250 := n2_
           have BK1251 := n3_
           have BK1266 := n4_
           have GW1266 := n5_
           have GE1266 := n6_
           have NB1250_1266 := n7_
           have NB1266_1250 := n8_
           have NB1251_1266 := n9_
           have NB1266_1251 := n10_
           have HB := n11_
           clear n0_ n1_ n2_ n3_ n4_ n5_ n6_ n7_ n8_ n9_ n10_ n11_
           have hHeld : w25.cell? ⟨gb1250, 0, none⟩ = some (.int .i64 t1239) ∧ w25.cell? ⟨gb1250, 1, none⟩ = some (.string t1240) ∧ w25.cell? ⟨gb1250, 2, none⟩ = some (.slice Ao16 t1241.length co16) ∧ w25.cell? ⟨gb1250, 3, none⟩ = some (.string t1244) ∧ w25.cell? ⟨gb1251, 0, none⟩ = some (.int .i64 t1245) ∧ w25.cell? ⟨gb1251, 1, none⟩ = some (.slice Ao18 t1246.length co18) ∧ w25.cell? ⟨gb1251, 2, none⟩ = some (.string t1249) := hS_
           refine norm_ (a' := ?_) ?_ ?_
           rotate_left
           ·simp only [putAll, Act.put, List.setIfInBounds_toArray, List.set_cons_zero, List.set_cons_succ]
            rfl
           refine two_ (i := 2) (j := 7) (Ni := some 28) (Nj := some 7) #[true, true, true, true, true, false, true, false, false, false] #[true, true, false, true, true, false, true, true, false, false] rfl rfl rfl rfl (two_of HT_.out (by kernel_rfl)) (by decide) (by decide) (fun K hK => ?_) (fun K hK => ?_)
           ·skip
            refine goes_ Tryz.func26 (by kernel_rfl) rfl #[.slice Ao16 t1241.length co16] (by rfl) rfl rfl ma ?_
            with_reducible refine (impl_CcOf.calls k _ _ t1241 t1254 t1255 t1256 t1257 t1258 t1259 _ ?side1 ?side2 ?side3 ?side4 ?side5 A8.out).mono ?_
            (case side1 => exact GLOBE.below HGE.out bl)
            (case side2 => exact GLOBM.below HGM.out bl)
            (case side3 => exact GLOBT.below HGT.out bl)
            (case side4 => exact rc HO1243)
            (case side5 => exact (Kd.R_reads' HO1243.out).2.1)
            rintro e w26 ⟨rfl, hb⟩
            refine ⟨_, rfl, ?_⟩
            replace HO1243 := kr HO1243 hb
            replace HO1248 := kr HO1248 hb
            replace BK1250 := kb BK1250 hb
            replace BK1251 := kb BK1251 hb
            replace BK1266 := kb BK1266 hb
            replace HB := am (below_step bl hb)
            clear hb
            refine hK.out _ _ ⟨bc BK1250, bc BK1250, bc BK1250, bc BK1250, bc BK1251, bc BK1251, bc BK1251⟩ (fun hHeld => ?_)
            clear hK K
            refine nm 28 ?_
            exact norm_ (by first | (simp only [putAll, Act.put, List.setIfInBounds_toArray, List.set_cons_zero, List.set_cons_succ]; done) | (simp only [putAll, Act.put, List.setIfInBounds_toArray, List.set_cons_zero, List.set_cons_succ]; rfl)) (hJ2_6 (gb1266) _ ⟨hHeld, (ro HO1243), (ro HO1248), (bk BK1250), (bk BK1251), (bk BK1266), GW1266.out, GE1266.out, NB1250_1266.out, NB1266_1250.out, NB1251_1266.out, NB1266_1251.out, bl⟩)
           ·skip
            refine box_step ?hg (N := 7) ?hd (cs := #[.bool false, .bool false, .bool false, .bool false, .bool false, .int .i64 0]) (t := 42) ?hr ?_; (case hd => rfl); (case hg => rfl); (case hr => first | (go_simp; done) | (go_simp; rfl))
            intro gb1267 hg w26 hbox hb
            replace HO1243 := am (Kd.R_below (ro HO1243) hb)
            replace HO1248 := am (Kd.R_below (ro HO1248) hb)
            have BK1267 := am (hbox)
            have GW1267 := am (sz hg : w.heap.size ≤ gb1267)
            have GE1267 := am (sz hg : w.heap.size ≤ gb1267)
            replace HB := am (below_step bl hb)
            have NB1250_1267 := am (nl hg BK1250 : gb1250 ≠ gb1267)
            have NB1267_1250 := am (ng hg BK1250 : gb1267 ≠ gb1250)
            replace BK1250 := kb BK1250 hb
            have NB1251_1267 := am (nl hg BK1251 : gb1251 ≠ gb1267)
            have NB1267_1251 := am (ng hg BK1251 : gb1267 ≠ gb1251)
            replace BK1251 := kb BK1251 hb
            have NB1266_1267 := am (nl hg BK1266 : gb1266 ≠ gb1267)
            have NB1267_1266 := am (ng hg BK1266 : gb1267 ≠ gb1266)
            replace BK1266 := kb BK1266 hb
            clear hb hbox hg
            refine hK.out _ _ ⟨bc BK1250, bc BK1250, bc BK1250, bc BK1250, bc BK1251, bc BK1251, bc BK1251⟩ (fun hHeld => ?_)
            clear hK K
            refine nm 7 ?_
            exact norm_ (by first | (simp only [putAll, Act.put, List.setIfInBounds_toArray, List.set_cons_zero, List.set_cons_succ]; done) | (simp only [putAll, Act.put, List.setIfInBounds_toArray, List.set_cons_zero, List.set_cons_succ]; rfl)) (hJ6_7 (gb1266, gb1267) _ ⟨hHeld, (ro HO1243), (ro HO1248), (bk BK1250), (bk BK1251), (bk BK1266), (bk BK1267), GW1266.out, GE1266.out, NB1250_1266.out, NB1266_1250.out, NB1251_1266.out, NB1266_1251.out, NB1267_1266.out, NB1266_1267.out, GW1267.out, GE1267.out, NB1250_1267.out, NB1267_1250.out, NB1251_1267.out, NB1267_1251.out, bl⟩)
         ·skip
          rintro _ w25 ⟨hS_, h0_, h1_, h2_, h3_, h4_⟩
          have n0_ : Aside0 (Kd.R k116 116 w25 w.heap.size (fun k_ => some k_ ≠ (.slice Ao18 t1246.length co18 : Value).ownBlock) (.slice Ao16 t1241.length co16) t1241) := ⟨h0_⟩
          have n1_ : Aside0 (Kd.R k116 116 w25 w.heap.size (fun k_ => some k_ ≠ (.slice Ao16 t1241.length co16 : Value).ownBlock) (.slice Ao18 t1246.length co18) t1246) := ⟨h1_⟩
          have n2_ : Aside0 (w25.heap[gb1250]? = some (.cells #[.int .i64 t1239, .string t1240, .slice Ao16 t1241.length co16, .string t1244] 50 (0, 0))) := ⟨h2_⟩
          have n3_ : Aside0 (w25.heap[gb1251]? = some (.cells #[.int .i64 t1245, .slice Ao18 t1246.length co18, .string t1249] 29 (0, 0))) := ⟨h3_⟩
          have n4_ : Aside0 (Below w.heap.size w w25) := ⟨h4_⟩
          clear HO1243
          clear HO1248
          clear BK1250
          clear BK1251
          clear HB
          clear h0_ h1_ h2_ h3_ h4_
          have HO1243 := n0_
          have HO1248 := n1_
          have BK1250 := n2_
          have BK1251 := n3_
          have HB := n4_
          clear n0_ n1_ n2_ n3_ n4_
          have hHeld : w25.cell? ⟨gb1250, 0, none⟩ = some (.int .i64 t1239) ∧ w25.cell? ⟨gb1250, 1, none⟩ = some (.string t1240) ∧ w25.cell? ⟨gb1250, 2, none⟩ = some (.slice Ao16 t1241.length co16) ∧ w25.cell? ⟨gb1250, 3, none⟩ = some (.string t1244) ∧ w25.cell? ⟨gb1251, 0, none⟩ = some (.int .i64 t1245) ∧ w25.cell? ⟨gb1251, 1, none⟩ = some (.slice Ao18 t1246.length co18) ∧ w25.cell? ⟨gb1251, 2, none⟩ = some (.string t1249) := hS_
          refine norm_ (a' := ?_) ?_ ?_
          rotate_left
          ·simp only [putAll, Act.put, List.setIfInBounds_toArray, List.set_cons_zero, List.set_cons_succ]
           rfl
          refine three_ (i := 5) (j := 6) (k := 7) (Ni := some 31) (Nj := some 6) (Nk := some 7) #[true, true, true, true, true, true, false, false, false, false] #[true, true, true, true, true, false, true, false, false, false] #[true, true, true, true, true, false, false, true, false, false] rfl rfl rfl rfl rfl rfl (three_of HT_.out (by kernel_rfl)) (by decide) (by decide) (by decide) (fun K hK => ?_) (fun K hK => ?_) (fun K hK => ?_)
          ·skip
           refine goes_ Tryz.func26 (by kernel_rfl) rfl #[.slice Ao18 t1246.length co18] (by rfl) rfl rfl ma ?_
           with_reducible refine (impl_CcOf.calls k _ _ t1246 t1260 t1261 t1262 t1263 t1264 t1265 _ ?side1 ?side2 ?side3 ?side4 ?side5 A9.out).mono ?_
           (case side1 => exact GLOBE.below HGE.out bl)
           (case side2 => exact GLOBM.below HGM.out bl)
           (case side3 => exact GLOBT.below HGT.out bl)
           (case side4 => exact rc HO1248)
           (case side5 => exact (Kd.R_reads' HO1248.out).2.1)
           rintro e w26 ⟨rfl, hb⟩
           refine ⟨_, rfl, ?_⟩
           replace HO1243 := kr HO1243 hb
           replace HO1248 := kr HO1248 hb
           replace BK1250 := kb BK1250 hb
           replace BK1251 := kb BK1251 hb
           replace HB := am (below_step bl hb)
           clear hb
           refine hK.out _ _ ⟨bc BK1250, bc BK1250, bc BK1250, bc BK1250, bc BK1251, bc BK1251, bc BK1251⟩ (fun hHeld => ?_)
           clear hK K
           refine nm 31 ?_
           exact norm_ (by first | (simp only [putAll, Act.put, List.setIfInBounds_toArray, List.set_cons_zero, List.set_cons_succ]; done) | (simp only [putAll, Act.put, List.setIfInBounds_toArray, List.set_cons_zero, List.set_cons_succ]; rfl)) (hJ2_5 () _ ⟨hHeld, (ro HO1243), (ro HO1248), (bk BK1250), (bk BK1251), bl⟩)
          ·skip
           refine box_step ?hg (N := 6) ?hd (cs := #[.bool false, .bool false, .bool false, .bool false, .bool false, .int .i64 0]) (t := 42) ?hr ?_; (case hd => rfl); (case hg => rfl); (case hr => first | (go_simp; done) | (go_simp; rfl))
           intro gb1266 hg w26 hbox hb
           replace HO1243 := am (Kd.R_below (ro HO1243) hb)
           replace HO1248 := am (Kd.R_below (ro HO1248) hb)
           have BK1266 := am (hbox)
           have GW1266 := am (sz hg : w.heap.size ≤ gb1266)
           have GE1266 := am (sz hg : w.heap.size ≤ gb1266)
           replace HB := am (below_step bl hb)
           have NB1250_1266 := am (nl hg BK1250 : gb1250 ≠ gb1266)
           have NB1266_1250 := am (ng hg BK1250 : gb1266 ≠ gb1250)
           replace BK1250 := kb BK1250 hb
           have NB1251_1266 := am (nl hg BK1251 : gb1251 ≠ gb1266)
           have NB1266_1251 := am (ng hg BK1251 : gb1266 ≠ gb1251)
           replace BK1251 := kb BK1251 hb
           clear hb hbox hg
           refine hK.out _ _ ⟨bc BK1250, bc BK1250, bc BK1250, bc BK1250, bc BK1251, bc BK1251, bc BK1251⟩ (fun hHeld => ?_)
           clear hK K
           refine nm 6 ?_
           exact norm_ (by first | (simp only [putAll, Act.put, List.setIfInBounds_toArray, List.set_cons_zero, List.set_cons_succ]; done) | (simp only [putAll, Act.put, List.setIfInBounds_toArray, List.set_cons_zero, List.set_cons_succ]; rfl)) (hJ2_6 (gb1266) _ ⟨hHeld, (ro HO1243), (ro HO1248), (bk BK1250), (bk BK1251), (bk BK1266), GW1266.out, GE1266.out, NB1250_1266.out, NB1266_1250.out, NB1251_1266.out, NB1266_1251.out, bl⟩)
          ·skip
           refine box_step ?hg (N := 7) ?hd (cs := #[.bool false, .bool false, .bool false, .bool false, .bool false, .int .i64 0]) (t := 42) ?hr ?_; (case hd => rfl); (case hg => rfl); (case hr => first | (go_simp; done) | (go_simp; rfl))
           intro gb1267 hg w26 hbox hb
           replace HO1243 := am (Kd.R_below (ro HO1243) hb)
           replace HO1248 := am (Kd.R_below (ro HO1248) hb)
           have BK1267 := am (hbox)
           have GW1267 := am (sz hg : w.heap.size ≤ gb1267)
           have GE1267 := am (sz hg : w.heap.size ≤ gb1267)
           replace HB := am (below_step bl hb)
           have NB1250_1267 := am (nl hg BK1250 : gb1250 ≠ gb1267)
           have NB1267_1250 := am (ng hg BK1250 : gb1267 ≠ gb1250)
           replace BK1250 := kb BK1250 hb
           have NB1251_1267 := am (nl hg BK1251 : gb1251 ≠ gb1267)
           have NB1267_1251 := am (ng hg BK1251 : gb1267 ≠ gb1251)
           replace BK1251 := kb BK1251 hb
           clear hb hbox hg
           refine hK.out _ _ ⟨bc BK1250, bc BK1250, bc BK1250, bc BK1250, bc BK1251, bc BK1251, bc BK1251⟩ (fun hHeld => ?_)
           clear hK K
           refine nm 7 ?_
           exact norm_ (by first | (simp only [putAll, Act.put, List.setIfInBounds_toArray, List.set_cons_zero, List.set_cons_succ]; done) | (simp only [putAll, Act.put, List.setIfInBounds_toArray, List.set_cons_zero, List.set_cons_succ]; rfl)) (hJ2_7 (gb1267) _ ⟨hHeld, (ro HO1243), (ro HO1248), (bk BK1250), (bk BK1251), (bk BK1267), GW1267.out, GE1267.out, NB1250_1267.out, NB1267_1250.out, NB1251_1267.out, NB1267_1251.out, bl⟩)
        ·skip
         rintro ⟨gb1266, gb1267⟩ w26 ⟨hS_, h0_, h1_, h2_, h3_, h4_, h5_, h6_, h7_, h8_, h9_, h10_, h11_, h12_, h13_, h14_, h15_, h16_, h17_, h18_, h19_, h20_⟩
         have n0_ : Aside0 (Kd.R k116 116 w26 w.heap.size (fun k_ => some k_ ≠ (.slice Ao18 t1246.length co18 : Value).ownBlock) (.slice Ao16 t1241.length co16) t1241) := ⟨h0_⟩
         have n1_ : Aside0 (Kd.R k116 116 w26 w.heap.size (fun k_ => some k_ ≠ (.slice Ao16 t1241.length co16 : Value).ownBlock) (.slice Ao18 t1246.length co18) t1246) := ⟨h1_⟩
         have n2_ : Aside0 (w26.heap[gb1250]? = some (.cells #[.int .i64 t1239, .string t1240, .slice Ao16 t1241.length co16, .string t1244] 50 (0, 0))) := ⟨h2_⟩
         have n3_ : Aside0 (w26.heap[gb1251]? = some (.cells #[.int .i64 t1245, .slice Ao18 t1246.length co18, .string t1249] 29 (0, 0))) := ⟨h3_⟩
         have n4_ : Aside0 (w26.heap[gb1266]? = some (.cells #[.bool false, .bool false, .bool false, .bool false, .bool false, .int .i64 0] 42 (0, 0))) := ⟨h4_⟩
         have n5_ : Aside0 (w26.heap[gb1267]? = some (.cells #[.bool false, .bool false, .bool false, .bool false, .bool false, .int .i64 0] 42 (0, 0))) := ⟨h5_⟩
         have n6_ : Aside0 (w.heap.size ≤ gb1266) := ⟨h6_⟩
         have n7_ : Aside0 (w.heap.size ≤ gb1266) := ⟨h7_⟩
         have n8_ : Aside0 (gb1250 ≠ gb1266) := ⟨h8_⟩
         have n9_ : Aside0 (gb1266 ≠ gb1250) := ⟨h9_⟩
         have n10_ : Aside0 (gb1251 ≠ gb1266) := ⟨h10_⟩
         have n11_ : Aside0 (gb1266 ≠ gb1251) := ⟨h11_⟩
         have n12_ : Aside0 (gb1267 ≠ gb1266) := ⟨h12_⟩
         have n13_ : Aside0 (gb1266 ≠ gb1267) := ⟨h13_⟩
         have n14_ : Aside0 (w.heap.size ≤ gb1267) := ⟨h14_⟩
         have n15_ : Aside0 (w.heap.size ≤ gb1267) := ⟨h15_⟩
         have n16_ : Aside0 (gb1250 ≠ gb1267) := ⟨h16_⟩
         have n17_ : Aside0 (gb1267 ≠ gb1250) := ⟨h17_⟩
         have n18_ : Aside0 (gb1251 ≠ gb1267) := ⟨h18_⟩
         have n19_ : Aside0 (gb1267 ≠ gb1251) := ⟨h19_⟩
         have n20_ : Aside0 (Below w.heap.size w w26) := ⟨h20_⟩
         clear HO1243
         clear HO1248
         clear BK1250
         clear BK1251
         clear HB
         clear h0_ h1_ h2_ h3_ h4_ h5_ h6_ h7_ h8_ h9_ h10_ h11_ h12_ h13_ h14_ h15_ h16_ h17_ h18_ h19_ h20_
         have HO1243 := n0_
         have HO1248 := n1_
         have BK1250 := n2_
         have BK1251 := n3_
         have BK1266 := n4_
         have BK1267 := n5_
         have GW1266 := n6_
         have GE1266 := n7_
         have NB1250_1266 := n8_
         have NB1266_1250 := n9_
         have NB1251_1266 := n10_
         have NB1266_1251 := n11_
         have NB1267_1266 := n12_
         have NB1266_1267 := n13_
         have GW1267 := n14_
         have GE1267 := n15_
         have NB1250_1267 := n16_
         have NB1267_1250 := n17_
         have NB1251_1267 := n18_
         have NB1267_1251 := n19_
         have HB := n20_
         clear n0_ n1_ n2_ n3_ n4_ n5_ n6_ n7_ n8_ n9_ n10_ n11_ n12_ n13_ n14_ n15_ n16_ n17_ n18_ n19_ n20_
         have hHeld : w26.cell? ⟨gb1250, 0, none⟩ = some (.int .i64 t1239) ∧ w26.cell? ⟨gb1250, 1, none⟩ = some (.string t1240) ∧ w26.cell? ⟨gb1250, 2, none⟩ = some (.slice Ao16 t1241.length co16) ∧ w26.cell? ⟨gb1250, 3, none⟩ = some (.string t1244) ∧ w26.cell? ⟨gb1251, 0, none⟩ = some (.int .i64 t1245) ∧ w26.cell? ⟨gb1251, 1, none⟩ = some (.slice Ao18 t1246.length co18) ∧ w26.cell? ⟨gb1251, 2, none⟩ = some (.string t1249) := hS_
         refine norm_ (a' := ?_) ?_ ?_
         rotate_left
         ·simp only [putAll, Act.put, List.setIfInBounds_toArray, List.set_cons_zero, List.set_cons_succ]
          rfl
         refine og 2 28 [5, 1, 2, 2] Tryz.func26 #[.slice Ao16 t1241.length co16] (fun K hK => ?_)
         with_reducible refine (impl_CcOf.calls k _ _ t1241 t1254 t1255 t1256 t1257 t1258 t1259 _ ?side1 ?side2 ?side3 ?side4 ?side5 A8.out).mono ?_
         (case side1 => exact GLOBE.below HGE.out bl)
         (case side2 => exact GLOBM.below HGM.out bl)
         (case side3 => exact GLOBT.below HGT.out bl)
         (case side4 => exact rc HO1243)
         (case side5 => exact (Kd.R_reads' HO1243.out).2.1)
         rintro e w27 ⟨rfl, hb⟩
         refine ⟨_, rfl, ?_⟩
         replace HO1243 := kr HO1243 hb
         replace HO1248 := kr HO1248 hb
         replace BK1250 := kb BK1250 hb
         replace BK1251 := kb BK1251 hb
         replace BK1266 := kb BK1266 hb
         replace BK1267 := kb BK1267 hb
         replace HB := am (below_step bl hb)
         clear hb
         refine hK.out _ _ ⟨bc BK1250, bc BK1250, bc BK1250, bc BK1250, bc BK1251, bc BK1251, bc BK1251⟩ (fun hHeld => ?_)
         clear hK K
         refine nm 28 ?_
         exact norm_ (by first | (simp only [putAll, Act.put, List.setIfInBounds_toArray, List.set_cons_zero, List.set_cons_succ]; done) | (simp only [putAll, Act.put, List.setIfInBounds_toArray, List.set_cons_zero, List.set_cons_succ]; rfl)) (hJ2_6_7 (gb1266, gb1267) _ ⟨hHeld, (ro HO1243), (ro HO1248), (bk BK1250), (bk BK1251), (bk BK1266), (bk BK1267), GW1266.out, GE1266.out, NB1250_1266.out, NB1266_1250.out, NB1251_1266.out, NB1266_1251.out, NB1267_1266.out, NB1266_1267.out, GW1267.out, GE1267.out, NB1250_1267.out, NB1267_1250.out, NB1251_1267.out, NB1267_1251.out, bl⟩)
       ·skip
        rintro gb1267 w26 ⟨hS_, h0_, h1_, h2_, h3_, h4_, h5_, h6_, h7_, h8_, h9_, h10_, h11_⟩
        have n0_ : Aside0 (Kd.R k116 116 w26 w.heap.size (fun k_ => some k_ ≠ (.slice Ao18 t1246.length co18 : Value).ownBlock) (.slice Ao16 t1241.length co16) t1241) := ⟨h0_⟩
        have n1_ : Aside0 (Kd.R k116 116 w26 w.heap.size (fun k_ => some k_ ≠ (.slice Ao16 t1241.length co16 : Value).ownBlock) (.slice Ao18 t1246.length co18) t1246) := ⟨h1_⟩
        have n2_ : Aside0 (w26.heap[gb1250]? = some (.cells #[.int .i64 t1239, .string t1240, .slice Ao16 t1241.length co16, .string t1244] 50 (0, 0))) := ⟨h2_⟩
        have n3_ : Aside0 (w26.heap[gb1251]? = some (.cells #[.int .i64 t1245, .slice Ao18 t1246.length co18, .string t1249] 29 (0, 0))) := ⟨h3_⟩
        have n4_ : Aside0 (w26.heap[gb1267]? = some (.cells #[.bool false, .bool false, .bool false, .bool false, .bool false, .int .i64 0] 42 (0, 0))) := ⟨h4_⟩
        have n5_ : Aside0 (w.heap.size ≤ gb1267) := ⟨h5_⟩
        have n6_ : Aside0 (w.heap.size ≤ gb1267) := ⟨h6_⟩
        have n7_ : Aside0 (gb1250 ≠ gb1267) := ⟨h7_⟩
        have n8_ : Aside0 (gb1267 ≠ gb1250) := ⟨h8_⟩
        have n9_ : Aside0 (gb1251 ≠ gb1267) := ⟨h9_⟩
        have n10_ : Aside0 (gb1267 ≠ gb1251) := ⟨h10_⟩
        have n11_ : Aside0 (Below w.heap.size w w26) := ⟨h11_⟩
        clear HO1243
        clear HO1248
        clear BK1250
        clear BK1251
        clear HB
        clear h0_ h1_ h2_ h3_ h4_ h5_ h6_ h7_ h8_ h9_ h10_ h11_
        have HO1243 := n0_
        have HO1248 := n1_
        have BK1250 := n2_
        have BK1251 := n3_
        have BK1267 := n4_
        have GW1267 := n5_
        have GE1267 := n6_
        have NB1250_1267 := n7_
        have NB1267_1250 := n8_
        have NB1251_1267 := n9_
        have NB1267_1251 := n10_
        have HB := n11_
        clear n0_ n1_ n2_ n3_ n4_ n5_ n6_ n7_ n8_ n9_ n10_ n11_
        have hHeld : w26.cell? ⟨gb1250, 0, none⟩ = some (.int .i64 t1239) ∧ w26.cell? ⟨gb1250, 1, none⟩ = some (.string t1240) ∧ w26.cell? ⟨gb1250, 2, none⟩ = some (.slice Ao16 t1241.length co16) ∧ w26.cell? ⟨gb1250, 3, none⟩ = some (.string t1244) ∧ w26.cell? ⟨gb1251, 0, none⟩ = some (.int .i64 t1245) ∧ w26.cell? ⟨gb1251, 1, none⟩ = some (.slice Ao18 t1246.length co18) ∧ w26.cell? ⟨gb1251, 2, none⟩ = some (.string t1249) := hS_
        refine norm_ (a' := ?_) ?_ ?_
        rotate_left
        ·simp only [putAll, Act.put, List.setIfInBounds_toArray, List.set_cons_zero, List.set_cons_succ]
         rfl
        refine two_ (i := 5) (j := 6) (Ni := some 31) (Nj := some 6) #[true, true, true, true, true, true, false, true, false, false] #[true, true, true, true, true, false, true, true, false, false] rfl rfl rfl rfl (two_of HT_.out (by kernel_rfl)) (by decide) (by decide) (fun K hK => ?_) (fun K hK => ?_)
        ·skip
         refine goes_ Tryz.func26 (by kernel_rfl) rfl #[.slice Ao18 t1246.length co18] (by rfl) rfl rfl ma ?_
         with_reducible refine (impl_CcOf.calls k _ _ t1246 t1260 t1261 t1262 t1263 t1264 t1265 _ ?side1 ?side2 ?side3 ?side4 ?side5 A9.out).mono ?_
         (case side1 => exact GLOBE.below HGE.out bl)
         (case side2 => exact GLOBM.below HGM.out bl)
         (case side3 => exact GLOBT.below HGT.out bl)
         (case side4 => exact rc HO1248)
         (case side5 => exact (Kd.R_reads' HO1248.out).2.1)
         rintro e w27 ⟨rfl, hb⟩
         refine ⟨_, rfl, ?_⟩
         replace HO1243 := kr HO1243 hb
         replace HO1248 := kr HO1248 hb
         replace BK1250 := kb BK1250 hb
         replace BK1251 := kb BK1251 hb
         replace BK1267 := kb BK1267 hb
         replace HB := am (below_step bl hb)
         clear hb
         refine hK.out _ _ ⟨bc BK1250, bc BK1250, bc BK1250, bc BK1250, bc BK1251, bc BK1251, bc BK1251⟩ (fun hHeld => ?_)
         clear hK K
         refine nm 31 ?_
         exact norm_ (by first | (simp only [putAll, Act.put, List.setIfInBounds_toArray, List.set_cons_zero, List.set_cons_succ]; done) | (simp only [putAll, Act.put, List.setIfInBounds_toArray, List.set_cons_zero, List.set_cons_succ]; rfl)) (hJ2_5_7 (gb1267) _ ⟨hHeld, (ro HO1243), (ro HO1248), (bk BK1250), (bk BK1251), (bk BK1267), GW1267.out, GE1267.out, NB1250_1267.out, NB1267_1250.out, NB1251_1267.out, NB1267_1251.out, bl⟩)
        ·skip
         refine box_step ?hg (N := 6) ?hd (cs := #[.bool false, .bool false, .bool false, .bool false, .bool false, .int .i64 0]) (t := 42) ?hr ?_; (case hd => rfl); (case hg => rfl); (case hr => first | (go_simp; done) | (go_simp; rfl))
         intro gb1266 hg w27 hbox hb
         replace HO1243 := am (Kd.R_below (ro HO1243) hb)
         replace HO1248 := am (Kd.R_below (ro HO1248) hb)
         have BK1266 := am (hbox)
         have GW1266 := am (sz hg : w.heap.size ≤ gb1266)
         have GE1266 := am (sz hg : w.heap.size ≤ gb1266)
         replace HB := am (below_step bl hb)
         have NB1250_1266 := am (nl hg BK1250 : gb1250 ≠ gb1266)
         have NB1266_1250 := am (ng hg BK1250 : gb1266 ≠ gb1250)
         replace BK1250 := kb BK1250 hb
         have NB1251_1266 := am (nl hg BK1251 : gb1251 ≠ gb1266)
         have NB1266_1251 := am (ng hg BK1251 : gb1266 ≠ gb1251)
         replace BK1251 := kb BK1251 hb
         have NB1267_1266 := am (nl hg BK1267 : gb1267 ≠ gb1266)
         have NB1266_1267 := am (ng hg BK1267 : gb1266 ≠ gb1267)
         replace BK1267 := kb BK1267 hb
         clear hb hbox hg
         refine hK.out _ _ ⟨bc BK1250, bc BK1250, bc BK1250, bc BK1250, bc BK1251, bc BK1251, bc BK1251⟩ (fun hHeld => ?_)
         clear hK K
         refine nm 6 ?_
         exact norm_ (by first | (simp only [putAll, Act.put, List.setIfInBounds_toArray, List.set_cons_zero, List.set_cons_succ]; done) | (simp only [putAll, Act.put, List.setIfInBounds_toArray, List.set_cons_zero, List.set_cons_succ]; rfl)) (hJ2_6_7 (gb1266, gb1267) _ ⟨hHeld, (ro HO1243), (ro HO1248), (bk BK1250), (bk BK1251), (bk BK1266), (bk BK1267), GW1266.out, GE1266.out, NB1250_1266.out, NB1266_1250.out, NB1251_1266.out, NB1266_1251.out, NB1267_1266.out, NB1266_1267.out, GW1267.out, GE1267.out, NB1250_1267.out, NB1267_1250.out, NB1251_1267.out, NB1267_1251.out, bl⟩)
      ·skip
       rintro gb1266 w26 ⟨hS_, h0_, h1_, h2_, h3_, h4_, h5_, h6_, h7_, h8_, h9_, h10_, h11_⟩
       have n0_ : Aside0 (Kd.R k116 116 w26 w.heap.size (fun k_ => some k_ ≠ (.slice Ao18 t1246.length co18 : Value).ownBlock) (.slice Ao16 t1241.length co16) t1241) := ⟨h0_⟩
       have n1_ : Aside0 (Kd.R k116 116 w26 w.heap.size (fun k_ => some k_ ≠ (.slice Ao16 t1241.length co16 : Value).ownBlock) (.slice Ao18 t1246.length co18) t1246) := ⟨h1_⟩
       have n2_ : Aside0 (w26.heap[gb1250]? = some (.cells #[.int .i64 t1239, .string t1240, .slice Ao16 t1241.length co16, .string t1244] 50 (0, 0))) := ⟨h2_⟩
       have n3_ : Aside0 (w26.heap[gb1251]? = some (.cells #[.int .i64 t1245, .slice Ao18 t1246.length co18, .string t1249] 29 (0, 0))) := ⟨h3_⟩
       have n4_ : Aside0 (w26.heap[gb1266]? = some (.cells #[.bool false, .bool false, .bool false, .bool false, .bool false, .int .i64 0] 42 (0, 0))) := ⟨h4_⟩
       have n5_ : Aside0 (w.heap.size ≤ gb1266) := ⟨h5_⟩
       have n6_ : Aside0 (w.heap.size ≤ gb1266) := ⟨h6_⟩
       have n7_ : Aside0 (gb1250 ≠ gb1266) := ⟨h7_⟩
       have n8_ : Aside0 (gb1266 ≠ gb1250) := ⟨h8_⟩
       have n9_ : Aside0 (gb1251 ≠ gb1266) := ⟨h9_⟩
       have n10_ : Aside0 (gb1266 ≠ gb1251) := ⟨h10_⟩
       have n11_ : Aside0 (Below w.heap.size w w26) := ⟨h11_⟩
       clear HO1243
       clear HO1248
       clear BK1250
       clear BK1251
       clear HB
       clear h0_ h1_ h2_ h3_ h4_ h5_ h6_ h7_ h8_ h9_ h10_ h11_
       have HO1243 := n0_
       have HO1248 := n1_
       have BK1250 := n2_
       have BK1251 := n3_
       have BK1266 := n4_
       have GW1266 := n5_
       have GE1266 := n6_
       have NB1250_1266 := n7_
       have NB1266_1250 := n8_
       have NB1251_1266 := n9_
       have NB1266_1251 := n10_
       have HB := n11_
       clear n0_ n1_ n2_ n3_ n4_ n5_ n6_ n7_ n8_ n9_ n10_ n11_
       have hHeld : w26.cell? ⟨gb1250, 0, none⟩ = some (.int .i64 t1239) ∧ w26.cell? ⟨gb1250, 1, none⟩ = some (.string t1240) ∧ w26.cell? ⟨gb1250, 2, none⟩ = some (.slice Ao16 t1241.length co16) ∧ w26.cell? ⟨gb1250, 3, none⟩ = some (.string t1244) ∧ w26.cell? ⟨gb1251, 0, none⟩ = some (.int .i64 t1245) ∧ w26.cell? ⟨gb1251, 1, none⟩ = some (.slice Ao18 t1246.length co18) ∧ w26.cell? ⟨gb1251, 2, none⟩ = some (.string t1249) := hS_
       refine norm_ (a' := ?_) ?_ ?_
       rotate_left
       ·simp only [putAll, Act.put, List.setIfInBounds_toArray, List.set_cons_zero, List.set_cons_succ]
        rfl
       refine two_ (i := 5) (j := 7) (Ni := some 31) (Nj := some 7) #[true, true, true, true, true, true, true, false, false, false] #[true, true, true, true, true, false, true, true, false, false] rfl rfl rfl rfl (two_of HT_.out (by kernel_rfl)) (by decide) (by decide) (fun K hK => ?_) (fun K hK => ?_)
       ·skip
        refine goes_ Tryz.func26 (by kernel_rfl) rfl #[.slice Ao18 t1246.length co18] (by rfl) rfl rfl ma ?_
        with_reducible refine (impl_CcOf.calls k _ _ t1246 t1260 t1261 t1262 t1263 t1264 t1265 _ ?side1 ?side2 ?side3 ?side4 ?side5 A9.out).mono ?_
        (case side1 => exact GLOBE.below HGE.out bl)
        (case side2 => exact GLOBM.below HGM.out bl)
        (case side3 => exact GLOBT.below HGT.out bl)
        (case side4 => exact rc HO1248)
        (case side5 => exact (Kd.R_reads' HO1248.out).2.1)
        rintro e w27 ⟨rfl, hb⟩
        refine ⟨_, rfl, ?_⟩
        replace HO1243 := kr HO1243 hb
        replace HO1248 := kr HO1248 hb
        replace BK1250 := kb BK1250 hb
        replace BK1251 := kb BK1251 hb
        replace BK1266 := kb BK1266 hb
        replace HB := am (below_step bl hb)
        clear hb
        refine hK.out _ _ ⟨bc BK1250, bc BK1250, bc BK1250, bc BK1250, bc BK1251, bc BK1251, bc BK1251⟩ (fun hHeld => ?_)
        clear hK K
        refine nm 31 ?_
        exact norm_ (by first | (simp only [putAll, Act.put, List.setIfInBounds_toArray, List.set_cons_zero, List.set_cons_succ]; done) | (simp only [putAll, Act.put, List.setIfInBounds_toArray, List.set_cons_zero, List.set_cons_succ]; rfl)) (hJ2_5_6 (gb1266) _ ⟨hHeld, (ro HO1243), (ro HO1248), (bk BK1250), (bk BK1251), (bk BK1266), GW1266.out, GE1266.out, NB1250_1266.out, NB1266_1250.out, NB1251_1266.out, NB1266_1251.out, bl⟩)
       ·skip
        refine box_step ?hg (N := 7) ?hd (cs := #[.bool false, .bool false, .bool false, .bool false, .bool false, .int .i64 0]) (t := 42) ?hr ?_; (case hd => rfl); (case hg => rfl); (case hr => first | (go_simp; done) | (go_simp; rfl))
        intro gb1267 hg w27 hbox hb
        replace HO1243 := am (Kd.R_below (ro HO1243) hb)
        replace HO1248 := am (Kd.R_below (ro HO1248) hb)
        have BK1267 := am (hbox)
        have GW1267 := am (sz hg : w.heap.size ≤ gb1267)
        have GE1267 := am (sz hg : w.heap.size ≤ gb1267)
        replace HB := am (below_step bl hb)
        have NB1250_1267 := am (nl hg BK1250 : gb1250 ≠ gb1267)
        have NB1267_1250 := am (ng hg BK1250 : gb1267 ≠ gb1250)
        replace BK1250 := kb BK1250 hb
        have NB1251_1267 := am (nl hg BK1251 : gb1251 ≠ gb1267)
        have NB1267_1251 := am (ng hg BK1251 : gb1267 ≠ gb1251)
        replace BK1251 := kb BK1251 hb
        have NB1266_1267 := am (nl hg BK1266 : gb1266 ≠ gb1267)
        have NB1267_1266 := am (ng hg BK1266 : gb1267 ≠ gb1266)
        replace BK1266 := kb BK1266 hb
        clear hb hbox hg
        refine hK.out _ _ ⟨bc BK1250, bc BK1250, bc BK1250, bc BK1250, bc BK1251, bc BK1251, bc BK1251⟩ (fun hHeld => ?_)
        clear hK K
        refine nm 7 ?_
        exact norm_ (by first | (simp only [putAll, Act.put, List.setIfInBounds_toArray, List.set_cons_zero, List.set_cons_succ]; done) | (simp only [putAll, Act.put, List.setIfInBounds_toArray, List.set_cons_zero, List.set_cons_succ]; rfl)) (hJ2_6_7 (gb1266, gb1267) _ ⟨hHeld, (ro HO1243), (ro HO1248), (bk BK1250), (bk BK1251), (bk BK1266), (bk BK1267), GW1266.out, GE1266.out, NB1250_1266.out, NB1266_1250.out, NB1251_1266.out, NB1266_1251.out, NB1267_1266.out, NB1266_1267.out, GW1267.out, GE1267.out, NB1250_1267.out, NB1267_1250.out, NB1251_1267.out, NB1267_1251.out, bl⟩)
     ·skip
      rintro _ w26 ⟨hS_, h0_, h1_, h2_, h3_, h4_⟩
      have n0_ : Aside0 (Kd.R k116 116 w26 w.heap.size (fun k_ => some k_ ≠ (.slice Ao18 t1246.length co18 : Value).ownBlock) (.slice Ao16 t1241.length co16) t1241) := ⟨h0_⟩
      have n1_ : Aside0 (Kd.R k116 116 w26 w.heap.size (fun k_ => some k_ ≠ (.slice Ao16 t1241.length co16 : Value).ownBlock) (.slice Ao18 t1246.length co18) t1246) := ⟨h1_⟩
      have n2_ : Aside0 (w26.heap[gb1250]? = some (.cells #[.int .i64 t1239, .string t1240, .slice Ao16 t1241.length co16, .string t1244] 50 (0, 0))) := ⟨h2_⟩
      have n3_ : Aside0 (w26.heap[gb1251]? = some (.cells #[.int .i64 t1245, .slice Ao18 t1246.length co18, .string t1249] 29 (0, 0))) := ⟨h3_⟩
      have n4_ : Aside0 (Below w.heap.size w w26) := ⟨h4_⟩
      clear HO1243
      clear HO1248
      clear BK1250
      clear BK1251
      clear HB
      clear h0_ h1_ h2_ h3_ h4_
      have HO1243 := n0_
      have HO1248 := n1_
      have BK1250 := n2_
      have BK1251 := n3_
      have HB := n4_
      clear n0_ n1_ n2_ n3_ n4_
      have hHeld : w26.cell? ⟨gb1250, 0, none⟩ = some (.int .i64 t1239) ∧ w26.cell? ⟨gb1250, 1, none⟩ = some (.string t1240) ∧ w26.cell? ⟨gb1250, 2, none⟩ = some (.slice Ao16 t1241.length co16) ∧ w26.cell? ⟨gb1250, 3, none⟩ = some (.string t1244) ∧ w26.cell? ⟨gb1251, 0, none⟩ = some (.int .i64 t1245) ∧ w26.cell? ⟨gb1251, 1, none⟩ = some (.slice Ao18 t1246.length co18) ∧ w26.cell? ⟨gb1251, 2, none⟩ = some (.string t1249) := hS_
      refine norm_ (a' := ?_) ?_ ?_
      rotate_left
      ·simp only [putAll, Act.put, List.setIfInBounds_toArray, List.set_cons_zero, List.set_cons_succ]
       rfl
      refine two_ (i := 6) (j := 7) (Ni := some 6) (Nj := some 7) #[true, true, true, true, true, true, true, false, false, false] #[true, true, true, true, true, true, false, true, false, false] rfl rfl rfl rfl (two_of HT_.out (by kernel_rfl)) (by decide) (by decide) (fun K hK => ?_) (fun K hK => ?_)
      ·skip
       refine box_step ?hg (N := 6) ?hd (cs := #[.bool false, .bool false, .bool false, .bool false, .bool false, .int .i64 0]) (t := 42) ?hr ?_; (case hd => rfl); (case hg => rfl); (case hr => first | (go_simp; done) | (go_simp; rfl))
       intro gb1266 hg w27 hbox hb
       replace HO1243 := am (Kd.R_below (ro HO1243) hb)
       replace HO1248 := am (Kd.R_below (ro HO1248) hb)
       have BK1266 := am (hbox)
       have GW1266 := am (sz hg : w.heap.size ≤ gb1266)
       have GE1266 := am (sz hg : w.heap.size ≤ gb1266)
       replace HB := am (below_step bl hb)
       have NB1250_1266 := am (nl hg BK1250 : gb1250 ≠ gb1266)
       have NB1266_1250 := am (ng hg BK1250 : gb1266 ≠ gb1250)
       replace BK1250 := kb BK1250 hb
       have NB1251_1266 := am (nl hg BK1251 : gb1251 ≠ gb1266)
       have NB1266_1251 := am (ng hg BK1251 : gb1266 ≠ gb1251)
       replace BK1251 := kb BK1251 hb
       clear hb hbox hg
       refine hK.out _ _ ⟨bc BK1250, bc BK1250, bc BK1250, bc BK1250, bc BK1251, bc BK1251, bc BK1251⟩ (fun hHeld => ?_)
       clear hK K
       refine nm 6 ?_
       exact norm_ (by first | (simp only [putAll, Act.put, List.setIfInBounds_toArray, List.set_cons_zero, List.set_cons_succ]; done) | (simp only [putAll, Act.put, List.setIfInBounds_toArray, List.set_cons_zero, List.set_cons_succ]; rfl)) (hJ2_5_6 (gb1266) _ ⟨hHeld, (ro HO1243), (ro HO1248), (bk BK1250), (bk BK1251), (bk BK1266), GW1266.out, GE1266.out, NB1250_1266.out, NB1266_1250.out, NB1251_1266.out, NB1266_1251.out, bl⟩)
      ·skip
       refine box_step ?hg (N := 7) ?hd (cs := #[.bool false, .bool false, .bool false, .bool false, .bool false, .int .i64 0]) (t := 42) ?hr ?_; (case hd => rfl); (case hg => rfl); (case hr => first | (go_simp; done) | (go_simp; rfl))
       intro gb1267 hg w27 hbox hb
       replace HO1243 := am (Kd.R_below (ro HO1243) hb)
       replace HO1248 := am (Kd.R_below (ro HO1248) hb)
       have BK1267 := am (hbox)
       have GW1267 := am (sz hg : w.heap.size ≤ gb1267)
       have GE1267 := am (sz hg : w.heap.size ≤ gb1267)
       replace HB := am (below_step bl hb)
       have NB1250_1267 := am (nl hg BK1250 : gb1250 ≠ gb1267)
       have NB1267_1250 := am (ng hg BK1250 : gb1267 ≠ gb1250)
       replace BK1250 := kb BK1250 hb
       have NB1251_1267 := am (nl hg BK1251 : gb1251 ≠ gb1267)
       have NB1267_1251 := am (ng hg BK1251 : gb1267 ≠ gb1251)
       replace BK1251 := kb BK1251 hb
       clear hb hbox hg
       refine hK.out _ _ ⟨bc BK1250, bc BK1250, bc BK1250, bc BK1250, bc BK1251, bc BK1251, bc BK1251⟩ (fun hHeld => ?_)
       clear hK K
       refine nm 7 ?_
       exact norm_ (by first | (simp only [putAll, Act.put, List.setIfInBounds_toArray, List.set_cons_zero, List.set_cons_succ]; done) | (simp only [putAll, Act.put, List.setIfInBounds_toArray, List.set_cons_zero, List.set_cons_succ]; rfl)) (hJ2_5_7 (gb1267) _ ⟨hHeld, (ro HO1243), (ro HO1248), (bk BK1250), (bk BK1251), (bk BK1267), GW1267.out, GE1267.out, NB1250_1267.out, NB1267_1250.out, NB1251_1267.out, NB1267_1251.out, bl⟩)
    ·skip
     rintro ⟨gb1266, gb1267⟩ w27 ⟨hS_, h0_, h1_, h2_, h3_, h4_, h5_, h6_, h7_, h8_, h9_, h10_, h11_, h12_, h13_, h14_, h15_, h16_, h17_, h18_, h19_, h20_⟩
     have n0_ : Aside0 (Kd.R k116 116 w27 w.heap.size (fun k_ => some k_ ≠ (.slice Ao18 t1246.length co18 : Value).ownBlock) (.slice Ao16 t1241.length co16) t1241) := ⟨h0_⟩
     have n1_ : Aside0 (Kd.R k116 116 w27 w.heap.size (fun k_ => some k_ ≠ (.slice Ao16 t1241.length co16 : Value).ownBlock) (.slice Ao18 t1246.length co18) t1246) := ⟨h1_⟩
     have n2_ : Aside0 (w27.heap[gb1250]? = some (.cells #[.int .i64 t1239, .string t1240, .slice Ao16 t1241.length co16, .string t1244] 50 (0, 0))) := ⟨h2_⟩
     have n3_ : Aside0 (w27.heap[gb1251]? = some (.cells #[.int .i64 t1245, .slice Ao18 t1246.length co18, .string t1249] 29 (0, 0))) := ⟨h3_⟩
     have n4_ : Aside0 (w27.heap[gb1266]? = some (.cells #[.bool false, .bool false, .bool false, .bool false, .bool false, .int .i64 0] 42 (0, 0))) := ⟨h4_⟩
     have n5_ : Aside0 (w27.heap[gb1267]? = some (.cells #[.bool false, .bool false, .bool false, .bool false, .bool false, .int .i64 0] 42 (0, 0))) := ⟨h5_⟩
     have n6_ : Aside0 (w.heap.size ≤ gb1266) := ⟨h6_⟩
     have n7_ : Aside0 (w.heap.size ≤ gb1266) := ⟨h7_⟩
     have n8_ : Aside0 (gb1250 ≠ gb1266) := ⟨h8_⟩
     have n9_ : Aside0 (gb1266 ≠ gb1250) := ⟨h9_⟩
     have n10_ : Aside0 (gb1251 ≠ gb1266) := ⟨h10_⟩
     have n11_ : Aside0 (gb1266 ≠ gb1251) := ⟨h11_⟩
     have n12_ : Aside0 (gb1267 ≠ gb1266) := ⟨h12_⟩
     have n13_ : Aside0 (gb1266 ≠ gb1267) := ⟨h13_⟩
     have n14_ : Aside0 (w.heap.size ≤ gb1267) := ⟨h14_⟩
     have n15_ : Aside0 (w.heap.size ≤ gb1267) := ⟨h15_⟩
     have n16_ : Aside0 (gb1250 ≠ gb1267) := ⟨h16_⟩
     have n17_ : Aside0 (gb1267 ≠ gb1250) := ⟨h17_⟩
     have n18_ : Aside0 (gb1251 ≠ gb1267) := ⟨h18_⟩
     have n19_ : Aside0 (gb1267 ≠ gb1251) := ⟨h19_⟩
     have n20_ : Aside0 (Below w.heap.size w w27) := ⟨h20_⟩
     clear HO1243
     clear HO1248
     clear BK1250
     clear BK1251
     clear HB
     clear h0_ h1_ h2_ h3_ h4_ h5_ h6_ h7_ h8_ h9_ h10_ h11_ h12_ h13_ h14_ h15_ h16_ h17_ h18_ h19_ h20_
     have HO1243 := n0_
     have HO1248 := n1_
     have BK1250 := n2_
     have BK1251 := n3_
     have BK1266 := n4_
     have BK1267 := n5_
     have GW1266 := n6_
     have GE1266 := n7_
     have NB1250_1266 := n8_
     have NB1266_1250 := n9_
     have NB1251_1266 := n10_
     have NB1266_1251 := n11_
     have NB1267_1266 := n12_
     have NB1266_1267 := n13_
     have GW1267 := n14_
     have GE1267 := n15_
     have NB1250_1267 := n16_
     have NB1267_1250 := n17_
     have NB1251_1267 := n18_
     have NB1267_1251 := n19_
     have HB := n20_
     clear n0_ n1_ n2_ n3_ n4_ n5_ n6_ n7_ n8_ n9_ n10_ n11_ n12_ n13_ n14_ n15_ n16_ n17_ n18_ n19_ n20_
     have hHeld : w27.cell? ⟨gb1250, 0, none⟩ = some (.int .i64 t1239) ∧ w27.cell? ⟨gb1250, 1, none⟩ = some (.string t1240) ∧ w27.cell? ⟨gb1250, 2, none⟩ = some (.slice Ao16 t1241.length co16) ∧ w27.cell? ⟨gb1250, 3, none⟩ = some (.string t1244) ∧ w27.cell? ⟨gb1251, 0, none⟩ = some (.int .i64 t1245) ∧ w27.cell? ⟨gb1251, 1, none⟩ = some (.slice Ao18 t1246.length co18) ∧ w27.cell? ⟨gb1251, 2, none⟩ = some (.string t1249) := hS_
     refine norm_ (a' := ?_) ?_ ?_
     rotate_left
     ·simp only [putAll, Act.put, List.setIfInBounds_toArray, List.set_cons_zero, List.set_cons_succ]
      rfl
     refine og 5 31 [8, 2] Tryz.func26 #[.slice Ao18 t1246.length co18] (fun K hK => ?_)
     with_reducible refine (impl_CcOf.calls k _ _ t1246 t1260 t1261 t1262 t1263 t1264 t1265 _ ?side1 ?side2 ?side3 ?side4 ?side5 A9.out).mono ?_
     (case side1 => exact GLOBE.below HGE.out bl)
     (case side2 => exact GLOBM.below HGM.out bl)
     (case side3 => exact GLOBT.below HGT.out bl)
     (case side4 => exact rc HO1248)
     (case side5 => exact (Kd.R_reads' HO1248.out).2.1)
     rintro e w28 ⟨rfl, hb⟩
     refine ⟨_, rfl, ?_⟩
     replace HO1243 := kr HO1243 hb
     replace HO1248 := kr HO1248 hb
     replace BK1250 := kb BK1250 hb
     replace BK1251 := kb BK1251 hb
     replace BK1266 := kb BK1266 hb
     replace BK1267 := kb BK1267 hb
     replace HB := am (below_step bl hb)
     clear hb
     refine hK.out _ _ ⟨bc BK1250, bc BK1250, bc BK1250, bc BK1250, bc BK1251, bc BK1251, bc BK1251⟩ (fun hHeld => ?_)
     clear hK K
     refine nm 31 ?_
     exact norm_ (by first | (simp only [putAll, Act.put, List.setIfInBounds_toArray, List.set_cons_zero, List.set_cons_succ]; done) | (simp only [putAll, Act.put, List.setIfInBounds_toArray, List.set_cons_zero, List.set_cons_succ]; rfl)) (hJ2_5_6_7 (gb1266, gb1267) _ ⟨hHeld, (ro HO1243), (ro HO1248), (bk BK1250), (bk BK1251), (bk BK1266), (bk BK1267), GW1266.out, GE1266.out, NB1250_1266.out, NB1266_1250.out, NB1251_1266.out, NB1266_1251.out, NB1267_1266.out, NB1266_1267.out, GW1267.out, GE1267.out, NB1250_1267.out, NB1267_1250.out, NB1251_1267.out, NB1267_1251.out, bl⟩)
   ·skip
    rintro gb1267 w27 ⟨hS_, h0_, h1_, h2_, h3_, h4_, h5_, h6_, h7_, h8_, h9_, h10_, h11_⟩
    have n0_ : Aside0 (Kd.R k116 116 w27 w.heap.size (fun k_ => some k_ ≠ (.slice Ao18 t1246.length co18 : Value).ownBlock) (.slice Ao16 t1241.length co16) t1241) := ⟨h0_⟩
    have n1_ : Aside0 (Kd.R k116 116 w27 w.heap.size (fun k_ => some k_ ≠ (.slice Ao16 t1241.length co16 : Value).ownBlock) (.slice Ao18 t1246.length co18) t1246) := ⟨h1_⟩
    have n2_ : Aside0 (w27.heap[gb1250]? = some (.cells #[.int .i64 t1239, .string t1240, .slice Ao16 t1241.length co16, .string t1244] 50 (0, 0))) := ⟨h2_⟩
    have n3_ : Aside0 (w27.heap[gb1251]? = some (.cells #[.int .i64 t1245, .slice Ao18 t1246.length co18, .string t1249] 29 (0, 0))) := ⟨h3_⟩
    have n4_ : Aside0 (w27.heap[gb1267]? = some (.cells #[.bool false, .bool false, .bool false, .bool false, .bool false, .int .i64 0] 42 (0, 0))) := ⟨h4_⟩
    have n5_ : Aside0 (w.heap.size ≤ gb1267) := ⟨h5_⟩
    have n6_ : Aside0 (w.heap.size ≤ gb1267) := ⟨h6_⟩
    have n7_ : Aside0 (gb1250 ≠ gb1267) := ⟨h7_⟩
    have n8_ : Aside0 (gb1267 ≠ gb1250) := ⟨h8_⟩
    have n9_ : Aside0 (gb1251 ≠ gb1267) := ⟨h9_⟩
    have n10_ : Aside0 (gb1267 ≠ gb1251) := ⟨h10_⟩
    have n11_ : Aside0 (Below w.heap.size w w27) := ⟨h11_⟩
    clear HO1243
    clear HO1248
    clear BK1250
    clear BK1251
    clear HB
    clear h0_ h1_ h2_ h3_ h4_ h5_ h6_ h7_ h8_ h9_ h10_ h11_
    have HO1243 := n0_
    have HO1248 := n1_
    have BK1250 := n2_
    have BK1251 := n3_
    have BK1267 := n4_
    have GW1267 := n5_
    have GE1267 := n6_
    have NB1250_1267 := n7_
    have NB1267_1250 := n8_
    have NB1251_1267 := n9_
    have NB1267_1251 := n10_
    have HB := n11_
    clear n0_ n1_ n2_ n3_ n4_ n5_ n6_ n7_ n8_ n9_ n10_ n11_
    have hHeld : w27.cell? ⟨gb1250, 0, none⟩ = some (.int .i64 t1239) ∧ w27.cell? ⟨gb1250, 1, none⟩ = some (.string t1240) ∧ w27.cell? ⟨gb1250, 2, none⟩ = some (.slice Ao16 t1241.length co16) ∧ w27.cell? ⟨gb1250, 3, none⟩ = some (.string t1244) ∧ w27.cell? ⟨gb1251, 0, none⟩ = some (.int .i64 t1245) ∧ w27.cell? ⟨gb1251, 1, none⟩ = some (.slice Ao18 t1246.length co18) ∧ w27.cell? ⟨gb1251, 2, none⟩ = some (.string t1249) := hS_
    refine norm_ (a' := ?_) ?_ ?_
    rotate_left
    ·simp only [putAll, Act.put, List.setIfInBounds_toArray, List.set_cons_zero, List.set_cons_succ]
     rfl
    refine one_ (i := 6) (N := some 6) #[true, true, true, true, true, true, true, true, false, false] rfl rfl (one_of HT_.out (by kernel_rfl)) (by decide) (fun K hK => ?_)
    refine box_step ?hg (N := 6) ?hd (cs := #[.bool false, .bool false, .bool false, .bool false, .bool false, .int .i64 0]) (t := 42) ?hr ?_; (case hd => rfl); (case hg => rfl); (case hr => first | (go_simp; done) | (go_simp; rfl))
    intro gb1266 hg w28 hbox hb
    replace HO1243 := am (Kd.R_below (ro HO1243) hb)
    replace HO1248 := am (Kd.R_below (ro HO1248) hb)
    have BK1266 := am (hbox)
    have GW1266 := am (sz hg : w.heap.size ≤ gb1266)
    have GE1266 := am (sz hg : w.heap.size ≤ gb1266)
    replace HB := am (below_step bl hb)
    have NB1250_1266 := am (nl hg BK1250 : gb1250 ≠ gb1266)
    have NB1266_1250 := am (ng hg BK1250 : gb1266 ≠ gb1250)
    replace BK1250 := kb BK1250 hb
    have NB1251_1266 := am (nl hg BK1251 : gb1251 ≠ gb1266)
    have NB1266_1251 := am (ng hg BK1251 : gb1266 ≠ gb1251)
    replace BK1251 := kb BK1251 hb
    have NB1267_1266 := am (nl hg BK1267 : gb1267 ≠ gb1266)
    have NB1266_1267 := am (ng hg BK1267 : gb1266 ≠ gb1267)
    replace BK1267 := kb BK1267 hb
    clear hb hbox hg
    refine hK.out _ _ ⟨bc BK1250, bc BK1250, bc BK1250, bc BK1250, bc BK1251, bc BK1251, bc BK1251⟩ (fun hHeld => ?_)
    clear hK K
    refine nm 6 ?_
    exact norm_ (by first | (simp only [putAll, Act.put, List.setIfInBounds_toArray, List.set_cons_zero, List.set_cons_succ]; done) | (simp only [putAll, Act.put, List.setIfInBounds_toArray, List.set_cons_zero, List.set_cons_succ]; rfl)) (hJ2_5_6_7 (gb1266, gb1267) _ ⟨hHeld, (ro HO1243), (ro HO1248), (bk BK1250), (bk BK1251), (bk BK1266), (bk BK1267), GW1266.out, GE1266.out, NB1250_1266.out, NB1266_1250.out, NB1251_1266.out, NB1266_1251.out, NB1267_1266.out, NB1266_1267.out, GW1267.out, GE1267.out, NB1250_1267.out, NB1267_1250.out, NB1251_1267.out, NB1267_1251.out, bl⟩)
  ·skip
   rintro gb1266 w27 ⟨hS_, h0_, h1_, h2_, h3_, h4_, h5_, h6_, h7_, h8_, h9_, h10_, h11_⟩
   have n0_ : Aside0 (Kd.R k116 116 w27 w.heap.size (fun k_ => some k_ ≠ (.slice Ao18 t1246.length co18 : Value).ownBlock) (.slice Ao16 t1241.length co16) t1241) := ⟨h0_⟩
   have n1_ : Aside0 (Kd.R k116 116 w27 w.heap.size (fun k_ => some k_ ≠ (.slice Ao16 t1241.length co16 : Value).ownBlock) (.slice Ao18 t1246.length co18) t1246) := ⟨h1_⟩
   have n2_ : Aside0 (w27.heap[gb1250]? = some (.cells #[.int .i64 t1239, .string t1240, .slice Ao16 t1241.length co16, .string t1244] 50 (0, 0))) := ⟨h2_⟩
   have n3_ : Aside0 (w27.heap[gb1251]? = some (.cells #[.int .i64 t1245, .slice Ao18 t1246.length co18, .string t1249] 29 (0, 0))) := ⟨h3_⟩
   have n4_ : Aside0 (w27.heap[gb1266]? = some (.cells #[.bool false, .bool false, .bool false, .bool false, .bool false, .int .i64 0] 42 (0, 0))) := ⟨h4_⟩
   have n5_ : Aside0 (w.heap.size ≤ gb1266) := ⟨h5_⟩
   have n6_ : Aside0 (w.heap.size ≤ gb1266) := ⟨h6_⟩
   have n7_ : Aside0 (gb1250 ≠ gb1266) := ⟨h7_⟩
   have n8_ : Aside0 (gb1266 ≠ gb1250) := ⟨h8_⟩
   have n9_ : Aside0 (gb1251 ≠ gb1266) := ⟨h9_⟩
   have n10_ : Aside0 (gb1266 ≠ gb1251) := ⟨h10_⟩
   have n11_ : Aside0 (Below w.heap.size w w27) := ⟨h11_⟩
   clear HO1243
   clear HO1248
   clear BK1250
   clear BK1251
   clear HB
   clear h0_ h1_ h2_ h3_ h4_ h5_ h6_ h7_ h8_ h9_ h10_ h11_
   have HO1243 := n0_
   have HO1248 := n1_
   have BK1250 := n2_
   have BK1251 := n3_
   have BK1266 := n4_
   have GW1266 := n5_
   have GE1266 := n6_
   have NB1250_1266 := n7_
   have NB1266_1250 := n8_
   have NB1251_1266 := n9_
   have NB1266_1251 := n10_
   have HB := n11_
   clear n0_ n1_ n2_ n3_ n4_ n5_ n6_ n7_ n8_ n9_ n10_ n11_
   have hHeld : w27.cell? ⟨gb1250, 0, none⟩ = some (.int .i64 t1239) ∧ w27.cell? ⟨gb1250, 1, none⟩ = some (.string t1240) ∧ w27.cell? ⟨gb1250, 2, none⟩ = some (.slice Ao16 t1241.length co16) ∧ w27.cell? ⟨gb1250, 3, none⟩ = some (.string t1244) ∧ w27.cell? ⟨gb1251, 0, none⟩ = some (.int .i64 t1245) ∧ w27.cell? ⟨gb1251, 1, none⟩ = some (.slice Ao18 t1246.length co18) ∧ w27.cell? ⟨gb1251, 2, none⟩ = some (.string t1249) := hS_
   refine norm_ (a' := ?_) ?_ ?_
   rotate_left
   ·simp only [putAll, Act.put, List.setIfInBounds_toArray, List.set_cons_zero, List.set_cons_succ]
    rfl
   refine one_ (i := 7) (N := some 7) #[true, true, true, true, true, true, true, true, false, false] rfl rfl (one_of HT_.out (by kernel_rfl)) (by decide) (fun K hK => ?_)
   refine box_step ?hg (N := 7) ?hd (cs := #[.bool false, .bool false, .bool false, .bool false, .bool false, .int .i64 0]) (t := 42) ?hr ?_; (case hd => rfl); (case hg => rfl); (case hr => first | (go_simp; done) | (go_simp; rfl))
   intro gb1267 hg w28 hbox hb
   replace HO1243 := am (Kd.R_below (ro HO1243) hb)
   replace HO1248 := am (Kd.R_below (ro HO1248) hb)
   have BK1267 := am (hbox)
   have GW1267 := am (sz hg : w.heap.size ≤ gb1267)
   have GE1267 := am (sz hg : w.heap.size ≤ gb1267)
   replace HB := am (below_step bl hb)
   have NB1250_1267 := am (nl hg BK1250 : gb1250 ≠ gb1267)
   have NB1267_1250 := am (ng hg BK1250 : gb1267 ≠ gb1250)
   replace BK1250 := kb BK1250 hb
   have NB1251_1267 := am (nl hg BK1251 : gb1251 ≠ gb1267)
   have NB1267_1251 := am (ng hg BK1251 : gb1267 ≠ gb1251)
   replace BK1251 := kb BK1251 hb
   have NB1266_1267 := am (nl hg BK1266 : gb1266 ≠ gb1267)
   have NB1267_1266 := am (ng hg BK1266 : gb1267 ≠ gb1266)
   replace BK1266 := kb BK1266 hb
   clear hb hbox hg
   refine hK.out _ _ ⟨bc BK1250, bc BK1250, bc BK1250, bc BK1250, bc BK1251, bc BK1251, bc BK1251⟩ (fun hHeld => ?_)
   clear hK K
   refine nm 7 ?_
   exact norm_ (by first | (simp only [putAll, Act.put, List.setIfInBounds_toArray, List.set_cons_zero, List.set_cons_succ]; done) | (simp only [putAll, Act.put, List.setIfInBounds_toArray, List.set_cons_zero, List.set_cons_succ]; rfl)) (hJ2_5_6_7 (gb1266, gb1267) _ ⟨hHeld, (ro HO1243), (ro HO1248), (bk BK1250), (bk BK1251), (bk BK1266), (bk BK1267), GW1266.out, GE1266.out, NB1250_1266.out, NB1266_1250.out, NB1251_1266.out, NB1266_1251.out, NB1267_1266.out, NB1266_1267.out, GW1267.out, GE1267.out, NB1250_1267.out, NB1267_1250.out, NB1251_1267.out, NB1267_1251.out, bl⟩)
 rintro ⟨gb1266, gb1267⟩ w28 ⟨hS_, h0_, h1_, h2_, h3_, h4_, h5_, h6_, h7_, h8_, h9_, h10_, h11_, h12_, h13_, h14_, h15_, h16_, h17_, h18_, h19_, h20_⟩
 have n0_ : Aside0 (Kd.R k116 116 w28 w.heap.size (fun k_ => some k_ ≠ (.slice Ao18 t1246.length co18 : Value).ownBlock) (.slice Ao16 t1241.length co16) t1241) := ⟨h0_⟩
 have n1_ : Aside0 (Kd.R k116 116 w28 w.heap.size (fun k_ => some k_ ≠ (.slice Ao16 t1241.length co16 : Value).ownBlock) (.slice Ao18 t1246.length co18) t1246) := ⟨h1_⟩
 have n2_ : Aside0 (w28.heap[gb1250]? = some (.cells #[.int .i64 t1239, .string t1240, .slice Ao16 t1241.length co16, .string t1244] 50 (0, 0))) := ⟨h2_⟩
 have n3_ : Aside0 (w28.heap[gb1251]? = some (.cells #[.int .i64 t1245, .slice Ao18 t1246.length co18, .string t1249] 29 (0, 0))) := ⟨h3_⟩
 have n4_ : Aside0 (w28.heap[gb1266]? = some (.cells #[.bool false, .bool false, .bool false, .bool false, .bool false, .int .i64 0] 42 (0, 0))) := ⟨h4_⟩
 have n5_ : Aside0 (w28.heap[gb1267]? = some (.cells #[.bool false, .bool false, .bool false, .bool false, .bool false, .int .i64 0] 42 (0, 0))) := ⟨h5_⟩
 have n6_ : Aside0 (w.heap.size ≤ gb1266) := ⟨h6_⟩
 have n7_ : Aside0 (w.heap.size ≤ gb1266) := ⟨h7_⟩
 have n8_ : Aside0 (gb1250 ≠ gb1266) := ⟨h8_⟩
 have n9_ : Aside0 (gb1266 ≠ gb1250) := ⟨h9_⟩
 have n10_ : Aside0 (gb1251 ≠ gb1266) := ⟨h10_⟩
 have n11_ : Aside0 (gb1266 ≠ gb1251) := ⟨h11_⟩
 have n12_ : Aside0 (gb1267 ≠ gb1266) := ⟨h12_⟩
 have n13_ : Aside0 (gb1266 ≠ gb1267) := ⟨h13_⟩
 have n14_ : Aside0 (w.heap.size ≤ gb1267) := ⟨h14_⟩
 have n15_ : Aside0 (w.heap.size ≤ gb1267) := ⟨h15_⟩
 have n16_ : Aside0 (gb1250 ≠ gb1267) := ⟨h16_⟩
 have n17_ : Aside0 (gb1267 ≠ gb1250) := ⟨h17_⟩
 have n18_ : Aside0 (gb1251 ≠ gb1267) := ⟨h18_⟩
 have n19_ : Aside0 (gb1267 ≠ gb1251) := ⟨h19_⟩
 have n20_ : Aside0 (Below w.heap.size w w28) := ⟨h20_⟩
 clear HO1243
 clear HO1248
 clear BK1250
 clear BK1251
 clear HB
 clear h0_ h1_ h2_ h3_ h4_ h5_ h6_ h7_ h8_ h9_ h10_ h11_ h12_ h13_ h14_ h15_ h16_ h17_ h18_ h19_ h20_
 have HO1243 := n0_
 have HO1248 := n1_
 have BK1250 := n2_
 have BK1251 := n3_
 have BK1266 := n4_
 have BK1267 := n5_
 have GW1266 := n6_
 have GE1266 := n7_
 have NB1250_1266 := n8_
 have NB1266_1250 := n9_
 have NB1251_1266 := n10_
 have NB1266_1251 := n11_
 have NB1267_1266 := n12_
 have NB1266_1267 := n13_
 have GW1267 := n14_
 have GE1267 := n15_
 have NB1250_1267 := n16_
 have NB1267_1250 := n17_
 have NB1251_1267 := n18_
 have NB1267_1251 := n19_
 have HB := n20_
 clear n0_ n1_ n2_ n3_ n4_ n5_ n6_ n7_ n8_ n9_ n10_ n11_ n12_ n13_ n14_ n15_ n16_ n17_ n18_ n19_ n20_
 have hHeld : w28.cell? ⟨gb1250, 0, none⟩ = some (.int .i64 t1239) ∧ w28.cell? ⟨gb1250, 1, none⟩ = some (.string t1240) ∧ w28.cell? ⟨gb1250, 2, none⟩ = some (.slice Ao16 t1241.length co16) ∧ w28.cell? ⟨gb1250, 3, none⟩ = some (.string t1244) ∧ w28.cell? ⟨gb1251, 0, none⟩ = some (.int .i64 t1245) ∧ w28.cell? ⟨gb1251, 1, none⟩ = some (.slice Ao18 t1246.length co18) ∧ w28.cell? ⟨gb1251, 2, none⟩ = some (.string t1249) := hS_
 refine norm_ (a' := ?_) ?_ ?_
 rotate_left
 ·simp only [putAll, Act.put, List.setIfInBounds_toArray, List.set_cons_zero, List.set_cons_succ]
  rfl
 refine one_ (i := 8) (N := none) #[true, true, true, true, true, true, true, true, true, false] rfl rfl (one_of HT_.out (by kernel_rfl)) (by decide) (fun K hK => ?_)
 have hs29 : w28.cell? ⟨gb1266, 0, none⟩ = some (.bool false) := bc BK1266
 have hfs29 := blk_frozen BK1266.out 0
 have hns29_0 := NB1250_1266.out
 have hns29_1 := NB1251_1266.out
 have hns29_3 := NB1267_1266.out
 have hms29_0 := NB1266_1250.out
 have hms29_1 := NB1266_1251.out
 have hms29_3 := NB1266_1267.out
 have hs30 : w28.cell? ⟨gb1266, 1, none⟩ = some (.bool false) := bc BK1266
 have hfs30 := blk_frozen BK1266.out 1
 have hns30_0 := NB1250_1266.out
 have hns30_1 := NB1251_1266.out
 have hns30_3 := NB1267_1266.out
 have hms30_0 := NB1266_1250.out
 have hms30_1 := NB1266_1251.out
 have hms30_3 := NB1266_1267.out
 have hs31 : w28.cell? ⟨gb1266, 2, none⟩ = some (.bool false) := bc BK1266
 have hfs31 := blk_frozen BK1266.out 2
 have hns31_0 := NB1250_1266.out
 have hns31_1 := NB1251_1266.out
 have hns31_3 := NB1267_1266.out
 have hms31_0 := NB1266_1250.out
 have hms31_1 := NB1266_1251.out
 have hms31_3 := NB1266_1267.out
 have hs32 : w28.cell? ⟨gb1266, 3, none⟩ = some (.bool false) := bc BK1266
 have hfs32 := blk_frozen BK1266.out 3
 have hns32_0 := NB1250_1266.out
 have hns32_1 := NB1251_1266.out
 have hns32_3 := NB1267_1266.out
 have hms32_0 := NB1266_1250.out
 have hms32_1 := NB1266_1251.out
 have hms32_3 := NB1266_1267.out
 have hs33 : w28.cell? ⟨gb1266, 4, none⟩ = some (.bool false) := bc BK1266
 have hfs33 := blk_frozen BK1266.out 4
 have hns33_0 := NB1250_1266.out
 have hns33_1 := NB1251_1266.out
 have hns33_3 := NB1267_1266.out
 have hms33_0 := NB1266_1250.out
 have hms33_1 := NB1266_1251.out
 have hms33_3 := NB1266_1267.out
 have hs34 : w28.cell? ⟨gb1266, 5, none⟩ = some (.int .i64 0) := bc BK1266
 have hfs34 := blk_frozen BK1266.out 5
 have hns34_0 := NB1250_1266.out
 have hns34_1 := NB1251_1266.out
 have hns34_3 := NB1267_1266.out
 have hms34_0 := NB1266_1250.out
 have hms34_1 := NB1266_1251.out
 have hms34_3 := NB1266_1267.out
 refine skip_ (w1 := ?_) (by rfl) rfl ?_ ?_
 rotate_left
 ·go_simp
  rfl
 refine hK.out _ _ (by (refine ⟨?_, ?_, ?_, ?_, ?_, ?_, ?_⟩ <;> (with_reducible repeat (refine Eq.trans (cell_far ?hfar _) ?_; (case hfar => first | exact NB1250_1266.out | exact NB1251_1266.out)))); exact hHeld.1; exact hHeld.2.1; exact hHeld.2.2.1; exact hHeld.2.2.2.1; exact hHeld.2.2.2.2.1; exact hHeld.2.2.2.2.2.1; exact hHeld.2.2.2.2.2.2) (fun hHeld => ?_)
 clear hK K
 refine one_ (i := 9) (N := none) #[true, true, true, true, true, true, true, true, true, true] rfl rfl (one_of HT_.out (by kernel_rfl)) (by decide) (fun K hK => ?_)
 have hs35 : w28.cell? ⟨gb1267, 0, none⟩ = some (.bool false) := bc BK1267
 have hfs35 := blk_frozen BK1267.out 0
 have hns35_0 := NB1250_1267.out
 have hns35_1 := NB1251_1267.out
 have hns35_2 := NB1266_1267.out
 have hms35_0 := NB1267_1250.out
 have hms35_1 := NB1267_1251.out
 have hms35_2 := NB1267_1266.out
 have hs36 : w28.cell? ⟨gb1267, 1, none⟩ = some (.bool false) := bc BK1267
 have hfs36 := blk_frozen BK1267.out 1
 have hns36_0 := NB1250_1267.out
 have hns36_1 := NB1251_1267.out
 have hns36_2 := NB1266_1267.out
 have hms36_0 := NB1267_1250.out
 have hms36_1 := NB1267_1251.out
 have hms36_2 := NB1267_1266.out
 have hs37 : w28.cell? ⟨gb1267, 2, none⟩ = some (.bool false) := bc BK1267
 have hfs37 := blk_frozen BK1267.out 2
 have hns37_0 := NB1250_1267.out
 have hns37_1 := NB1251_1267.out
 have hns37_2 := NB1266_1267.out
 have hms37_0 := NB1267_1250.out
 have hms37_1 := NB1267_1251.out
 have hms37_2 := NB1267_1266.out
 have hs38 : w28.cell? ⟨gb1267, 3, none⟩ = some (.bool false) := bc BK1267
 have hfs38 := blk_frozen BK1267.out 3
 have hns38_0 := NB1250_1267.out
 have hns38_1 := NB1251_1267.out
 have hns38_2 := NB1266_1267.out
 have hms38_0 := NB1267_1250.out
 have hms38_1 := NB1267_1251.out
 have hms38_2 := NB1267_1266.out
 have hs39 : w28.cell? ⟨gb1267, 4, none⟩ = some (.bool false) := bc BK1267
 have hfs39 := blk_frozen BK1267.out 4
 have hns39_0 := NB1250_1267.out
 have hns39_1 := NB1251_1267.out
 have hns39_2 := NB1266_1267.out
 have hms39_0 := NB1267_1250.out
 have hms39_1 := NB1267_1251.out
 have hms39_2 := NB1267_1266.out
 have hs40 : w28.cell? ⟨gb1267, 5, none⟩ = some (.int .i64 0) := bc BK1267
 have hfs40 := blk_frozen BK1267.out 5
 have hns40_0 := NB1250_1267.out
 have hns40_1 := NB1251_1267.out
 have hns40_2 := NB1266_1267.out
 have hms40_0 := NB1267_1250.out
 have hms40_1 := NB1267_1251.out
 have hms40_2 := NB1267_1266.out
 refine skip_ (w1 := ?_) (by rfl) rfl ?_ ?_
 rotate_left
 ·go_simp
  rfl
 refine hK.out _ _ (by (refine ⟨?_, ?_, ?_, ?_, ?_, ?_, ?_⟩ <;> (with_reducible repeat (refine Eq.trans (cell_far ?hfar _) ?_; (case hfar => first | exact NB1250_1267.out | exact NB1251_1267.out)))); exact hHeld.1; exact hHeld.2.1; exact hHeld.2.2.1; exact hHeld.2.2.2.1; exact hHeld.2.2.2.2.1; exact hHeld.2.2.2.2.2.1; exact hHeld.2.2.2.2.2.2) (fun hHeld => ?_)
 clear hK K
 refine done_ (done_of HT_.out (by kernel_rfl)) ?_
 go_upto_region 8 with (fail)
 go_cut [69] (fun v69 wc => ∃ (kq : Nat) (x69_9 : Bool), v69 = .bool x69_9 ∧ Aside0 (laws_FnMayKeep.j0 kq l0 x69_9 = some r) ∧ Aside0 (kq ≤ k) ∧ Aside0 (Kd.R k116 116 wc w.heap.size (fun k_ => some k_ ≠ ((.slice Ao18 t1246.length co18) : Value).ownBlock) (.slice Ao16 t1241.length co16) t1241) ∧ Aside0 (Kd.R k116 116 wc w.heap.size (fun k_ => some k_ ≠ ((.slice Ao16 t1241.length co16) : Value).ownBlock) (.slice Ao18 t1246.length co18) t1246) ∧ Aside0 (wc.heap[gb1250]? = some (.cells #[.int .i64 t1239, .string t1240, (.slice Ao16 t1241.length co16), .string t1244] 50 (0, 0))) ∧ Aside0 (wc.heap[gb1251]? = some (.cells #[.int .i64 t1245, (.slice Ao18 t1246.length co18), .string t1249] 29 (0, 0))) ∧ Aside0 (wc.heap[gb1266]? = some (.cells #[.bool t1254, .bool t1255, .bool t1256, .bool t1257, .bool t1258, .int .i64 t1259] 42 (0, 0))) ∧ Aside0 (wc.heap[gb1267]? = some (.cells #[.bool t1260, .bool t1261, .bool t1262, .bool t1263, .bool t1264, .int .i64 t1265] 42 (0, 0))) ∧ Aside0 (Below w.heap.size w wc))
 case first =>
  have H := HC10.out
  clear HC10
  by_cases c41 : t1252 = true
  rotate_left
  ·replace c41 := Bool.eq_false_iff.mpr c41
   subst c41
   rw [if_neg (show ¬ (false = true) by decide)] at H
   have H' := am H
   clear H
   go_wp2
   go_meet
   case rel => exact ⟨_, (false), rs, H', ⟨by first | omega | exact Nat.le_refl _⟩, ⟨rj (Kd.R_types (Kd.R_types HO1243.out BK1266.out (by decide)) BK1267.out (by decide)) (fun _ hk => hk.1.1)⟩, ⟨rj (Kd.R_types (Kd.R_types HO1248.out BK1266.out (by decide)) BK1267.out (by decide)) (fun _ hk => hk.1.1)⟩, ⟨by (with_reducible repeat (first | refine blk_drewN ?_ _ | refine blk_drew ?_ | refine blk_alloc ?_ _)); refine blk_far ?_ NB1250_1267.out _; (with_reducible repeat (first | refine blk_drewN ?_ _ | refine blk_drew ?_ | refine blk_alloc ?_ _)); refine blk_far ?_ NB1250_1267.out _; (with_reducible repeat (first | refine blk_drewN ?_ _ | refine blk_drew ?_ | refine blk_alloc ?_ _)); refine blk_far ?_ NB1250_1267.out _; (with_reducible repeat (first | refine blk_drewN ?_ _ | refine blk_drew ?_ | refine blk_alloc ?_ _)); refine blk_far ?_ NB1250_1267.out _; (with_reducible repeat (first | refine blk_drewN ?_ _ | refine blk_drew ?_ | refine blk_alloc ?_ _)); refine blk_far ?_ NB1250_1267.out _; (with_reducible repeat (first | refine blk_drewN ?_ _ | refine blk_drew ?_ | refine blk_alloc ?_ _)); refine blk_far ?_ NB1250_1267.out _; (with_reducible repeat (first | refine blk_drewN ?_ _ | refine blk_drew ?_ | refine blk_alloc ?_ _)); refine blk_far ?_ NB1250_1266.out _; (with_reducible repeat (first | refine blk_drewN ?_ _ | refine blk_drew ?_ | refine blk_alloc ?_ _)); refine blk_far ?_ NB1250_1266.out _; (with_reducible repeat (first | refine blk_drewN ?_ _ | refine blk_drew ?_ | refine blk_alloc ?_ _)); refine blk_far ?_ NB1250_1266.out _; (with_reducible repeat (first | refine blk_drewN ?_ _ | refine blk_drew ?_ | refine blk_alloc ?_ _)); refine blk_far ?_ NB1250_1266.out _; (with_reducible repeat (first | refine blk_drewN ?_ _ | refine blk_drew ?_ | refine blk_alloc ?_ _)); refine blk_far ?_ NB1250_1266.out _; (with_reducible repeat (first | refine blk_drewN ?_ _ | refine blk_drew ?_ | refine blk_alloc ?_ _)); refine blk_far ?_ NB1250_1266.out _; (with_reducible repeat (first | refine blk_drewN ?_ _ | refine blk_drew ?_ | refine blk_alloc ?_ _)); exact BK1250.out⟩, ⟨by (with_reducible repeat (first | refine blk_drewN ?_ _ | refine blk_drew ?_ | refine blk_alloc ?_ _)); refine blk_far ?_ NB1251_1267.out _; (with_reducible repeat (first | refine blk_drewN ?_ _ | refine blk_drew ?_ | refine blk_alloc ?_ _)); refine blk_far ?_ NB1251_1267.out _; (with_reducible repeat (first | refine blk_drewN ?_ _ | refine blk_drew ?_ | refine blk_alloc ?_ _)); refine blk_far ?_ NB1251_1267.out _; (with_reducible repeat (first | refine blk_drewN ?_ _ | refine blk_drew ?_ | refine blk_alloc ?_ _)); refine blk_far ?_ NB1251_1267.out _; (with_reducible repeat (first | refine blk_drewN ?_ _ | refine blk_drew ?_ | refine blk_alloc ?_ _)); refine blk_far ?_ NB1251_1267.out _; (with_reducible repeat (first | refine blk_drewN ?_ _ | refine blk_drew ?_ | refine blk_alloc ?_ _)); refine blk_far ?_ NB1251_1267.out _; (with_reducible repeat (first | refine blk_drewN ?_ _ | refine blk_drew ?_ | refine blk_alloc ?_ _)); refine blk_far ?_ NB1251_1266.out _; (with_reducible repeat (first | refine blk_drewN ?_ _ | refine blk_drew ?_ | refine blk_alloc ?_ _)); refine blk_far ?_ NB1251_1266.out _; (with_reducible repeat (first | refine blk_drewN ?_ _ | refine blk_drew ?_ | refine blk_alloc ?_ _)); refine blk_far ?_ NB1251_1266.out _; (with_reducible repeat (first | refine blk_drewN ?_ _ | refine blk_drew ?_ | refine blk_alloc ?_ _)); refine blk_far ?_ NB1251_1266.out _; (with_reducible repeat (first | refine blk_drewN ?_ _ | refine blk_drew ?_ | refine blk_alloc ?_ _)); refine blk_far ?_ NB1251_1266.out _; (with_reducible repeat (first | refine blk_drewN ?_ _ | refine blk_drew ?_ | refine blk_alloc ?_ _)); refine blk_far ?_ NB1251_1266.out _; (with_reducible repeat (first | refine blk_drewN ?_ _ | refine blk_drew ?_ | refine blk_alloc ?_ _)); exact BK1251.out⟩, ⟨pt1 BK1266 NB1266_1267⟩, ⟨pt1 BK1267 NB1267_1266⟩, ⟨u5HB⟩⟩
  subst c41
  rw [if_pos rfl] at H
  by_cases c42 : t1245 = 200
  rotate_left
  ·rw [if_neg c42] at H
   have c42b0 : (t1245 == 200) = false := beq_eq_false_iff_ne.mpr c42
   have c42b1 : (t1245 != 200) = true := bne_iff_ne.mpr c42
   (first | rw [c42b0] | (simp only [i64_w, i32_w]; rw [c42b0]) | skip)
   cases k with
   | zero => exact absurd H (by simp [laws_FnMayKeep.j0])
   | succ k_ => simp only [laws_FnMayKeep.j0, if_true] at H; exact absurd (Option.some.inj H) (by rw [ht_]; decide)
  rw [if_pos c42] at H
  have c42b0 : (t1245 == 200) = true := beq_iff_eq.mpr c42
  have c42b1 : (t1245 != 200) = false := bne_eq_false_iff_eq.mpr c42
  clear c42
  (first | rw [c42b0] | (simp only [i64_w, i32_w]; rw [c42b0]) | skip)
  by_cases c43 : t1239 = 1
  rotate_left
  ·rw [if_neg c43] at H
   have c43b0 : (t1239 == 1) = false := beq_eq_false_iff_ne.mpr c43
   have c43b1 : (t1239 != 1) = true := bne_iff_ne.mpr c43
   cases k with
   | zero => exact absurd H (by simp [laws_FnMayKeep.j0])
   | succ k_ => simp only [laws_FnMayKeep.j0, if_true] at H; exact absurd (Option.some.inj H) (by rw [ht_]; decide)
  rw [if_pos c43] at H
  have c43b0 : (t1239 == 1) = true := beq_iff_eq.mpr c43
  have c43b1 : (t1239 != 1) = false := bne_eq_false_iff_eq.mpr c43
  clear c43
  by_cases c44 : t1254 = true
  ·subst c44
   rw [if_pos rfl] at H
   cases k with
   | zero => exact absurd H (by simp [laws_FnMayKeep.j0])
   | succ k_ => simp only [laws_FnMayKeep.j0, if_true] at H; exact absurd (Option.some.inj H) (by rw [ht_]; decide)
  replace c44 := Bool.eq_false_iff.mpr c44
  subst c44
  rw [if_neg (show ¬ (false = true) by decide)] at H
  by_cases c45 : t1260 = true
  ·subst c45
   rw [if_pos rfl] at H
   cases k with
   | zero => exact absurd H (by simp [laws_FnMayKeep.j0])
   | succ k_ => simp only [laws_FnMayKeep.j0, if_true] at H; exact absurd (Option.some.inj H) (by rw [ht_]; decide)
  replace c45 := Bool.eq_false_iff.mpr c45
  subst c45
  rw [if_neg (show ¬ (false = true) by decide)] at H
  by_cases c46 : t1262 = true
  ·subst c46
   rw [if_pos rfl] at H
   cases k with
   | zero => exact absurd H (by simp [laws_FnMayKeep.j0])
   | succ k_ => simp only [laws_FnMayKeep.j0, if_true] at H; exact absurd (Option.some.inj H) (by rw [ht_]; decide)
  replace c46 := Bool.eq_false_iff.mpr c46
  subst c46
  rw [if_neg (show ¬ (false = true) by decide)] at H
  by_cases c47 : t1264 = true
  rotate_left
  ·replace c47 := Bool.eq_false_iff.mpr c47
   subst c47
   rw [if_neg (show ¬ (false = true) by decide)] at H
   cases k with
   | zero => exact absurd H (by simp [laws_FnMayKeep.j0])
   | succ k_ => simp only [laws_FnMayKeep.j0, if_true] at H; exact absurd (Option.some.inj H) (by rw [ht_]; decide)
  subst c47
  rw [if_pos rfl] at H
  revert H
  refine ok1 fun t1268 A48 H => ?_
  by_cases c49 : t1268 = true
  rotate_left
  ·replace c49 := Bool.eq_false_iff.mpr c49
   subst c49
   rw [if_neg (show ¬ (false = true) by decide)] at H
   cases k with
   | zero => exact absurd H (by simp [laws_FnMayKeep.j0])
   | succ k_ => simp only [laws_FnMayKeep.j0, if_true] at H; exact absurd (Option.some.inj H) (by rw [ht_]; decide)
  subst c49
  rw [if_pos rfl] at H
  revert H
  refine ok1 fun t1269 A50 H => ?_
  have H' := am H
  clear H
  have hnb51 := NB1251_1250.out
  have hnc51 := NB1250_1251.out
  have hnb52 := NB1251_1266.out
  have hnc52 := NB1266_1251.out
  have hnb53 := NB1251_1267.out
  have hnc53 := NB1267_1251.out
  obtain ⟨z54_0, y54_0, z54_1, y54_1, z54_2, y54_2⟩ := cl3 BK1251
  have hnb55 := NB1250_1266.out
  have hnc55 := NB1266_1250.out
  have hnb56 := NB1250_1267.out
  have hnc56 := NB1267_1250.out
  obtain ⟨z57_0, y57_0, z57_1, y57_1, z57_2, y57_2, z57_3, y57_3⟩ := cl4 BK1250
  have hnb58 := NB1266_1267.out
  have hnc58 := NB1267_1266.out
  obtain ⟨z59_0, y59_0, z59_1, y59_1, z59_2, y59_2, z59_3, y59_3, z59_4, y59_4, z59_5, y59_5⟩ := cl6 BK1266
  obtain ⟨z60_0, y60_0, z60_1, y60_1, z60_2, y60_2, z60_3, y60_3, z60_4, y60_4, z60_5, y60_5⟩ := cl6 BK1267
  go_wp2_with (first | (go_at_call 31; (with_reducible refine (impl_ReqOk.calls k t1239 t1240 _ _ t1241 t1244 true _ ?side1 ?side2 A48.out).mono ?_); (case side1 => refine (Kd.R_reads' (e := 116) (base := w.heap.size) (ok := fun k_ => some k_ ≠ (.slice Ao18 t1246.length co18 : Value).ownBlock) (n := t1241.length) (c := co16) ?_).2.2; exact (by (with_reducible repeat (first | apply Kd.R_alloc | apply Kd.R_drewN | apply Kd.R_drew)); exact (Kd.R_mono (rj (Kd.R_types (Kd.R_types HO1243.out BK1266.out (by decide)) BK1267.out (by decide)) (fun _ h_ => h_.1)) (fun _ h_ => h_.1)))); (case side2 => exact (Kd.R_reads' HO1243.out).2.1); rintro e w61 ⟨rfl, hb⟩; have n0_ := am (Kd.R_below (by (with_reducible repeat (first | apply Kd.R_alloc | apply Kd.R_drewN | apply Kd.R_drew)); exact (Kd.R_mono (rj (Kd.R_types (Kd.R_types HO1243.out BK1266.out (by decide)) BK1267.out (by decide)) (fun _ h_ => h_.1)) (fun _ h_ => h_.1))) hb); have n1_ := am (Kd.R_below (by (with_reducible repeat (first | apply Kd.R_alloc | apply Kd.R_drewN | apply Kd.R_drew)); exact (Kd.R_mono (rj (Kd.R_types (Kd.R_types HO1248.out BK1266.out (by decide)) BK1267.out (by decide)) (fun _ h_ => h_.1)) (fun _ h_ => h_.1))) hb); have n2_ := kg2 BK1250 NB1250_1267 NB1250_1266 hb; have n3_ := kg2 BK1251 NB1251_1267 NB1251_1266 hb; have n4_ := am (blk_below (g := gb1266) (o := .cells #[.bool false, .bool t1255, .bool t1256, .bool t1257, .bool t1258, .int .i64 t1259] 42 (0, 0)) (pt1 BK1266 NB1266_1267) hb); have n5_ := am (blk_below (g := gb1267) (o := .cells #[.bool false, .bool t1261, .bool false, .bool t1263, .bool true, .int .i64 t1265] 42 (0, 0)) (pt1 BK1267 NB1267_1266) hb); have n6_ := am (below_step bl hb); clear HO1243; clear HO1248; clear BK1250; clear BK1251; clear BK1266; clear BK1267; clear HB; have HO1243 := n0_; have HO1248 := n1_; have BK1250 := n2_; have BK1251 := n3_; have BK1266 := n4_; have BK1267 := n5_; have HB := n6_; clear n0_ n1_ n2_ n3_ n4_ n5_ n6_; clear hb; obtain ⟨z62_0, y62_0, z62_1, y62_1, z62_2, y62_2⟩ := cl3 BK1251) | (go_at_call 32; (with_reducible refine (impl_RespOk.calls k t1245 _ _ t1246 t1249 t1269 _ ?side1 ?side2 A50.out).mono ?_); (case side1 => exact rc HO1248); (case side2 => exact (Kd.R_reads' HO1248.out).2.1); rintro e w63 ⟨rfl, hb⟩; replace HO1243 := kr HO1243 hb; replace HO1248 := kr HO1248 hb; replace BK1250 := kb BK1250 hb; replace BK1251 := kb BK1251 hb; replace BK1266 := kb BK1266 hb; replace BK1267 := kb BK1267 hb; replace HB := am (below_step bl hb); clear hb))
  go_meet
  case rel => exact ⟨_, (!t1269), rs, H', ⟨by first | omega | exact Nat.le_refl _⟩, ⟨by (with_reducible repeat (first | apply Kd.R_alloc | apply Kd.R_drewN | apply Kd.R_drew)); exact HO1243.out⟩, ⟨by (with_reducible repeat (first | apply Kd.R_alloc | apply Kd.R_drewN | apply Kd.R_drew)); exact HO1248.out⟩, ⟨by (with_reducible repeat (first | refine blk_drewN ?_ _ | refine blk_drew ?_ | refine blk_alloc ?_ _)); exact BK1250.out⟩, ⟨by (with_reducible repeat (first | refine blk_drewN ?_ _ | refine blk_drew ?_ | refine blk_alloc ?_ _)); exact BK1251.out⟩, ⟨by (with_reducible repeat (first | refine blk_drewN ?_ _ | refine blk_drew ?_ | refine blk_alloc ?_ _)); exact BK1266.out⟩, ⟨by (with_reducible repeat (first | refine blk_drewN ?_ _ | refine blk_drew ?_ | refine blk_alloc ?_ _)); exact BK1267.out⟩, ⟨u5HB⟩⟩
 case rest =>
  clear HC10
  try clear c2
  try clear p2
  try clear c4
  try clear c5
  try clear c26
  try clear c41
  try clear c42
  try clear c42b0
  try clear c42b1
  try clear c43
  try clear c43b0
  try clear c43b1
  try clear c44
  try clear c45
  try clear c46
  try clear c47
  try clear c49
  try clear c51
  try clear c52
  try clear c53
  try clear c55
  try clear c56
  try clear c58
  try clear z54_0
  try clear z54_1
  try clear z54_2
  try clear z57_0
  try clear z57_1
  try clear z57_2
  try clear z57_3
  try clear z59_0
  try clear z59_1
  try clear z59_2
  try clear z59_3
  try clear z59_4
  try clear z59_5
  try clear z60_0
  try clear z60_1
  try clear z60_2
  try clear z60_3
  try clear z60_4
  try clear z60_5
  try clear z62_0
  try clear z62_1
  try clear z62_2
  try clear y54_0
  try clear y54_1
  try clear y54_2
  try clear y57_0
  try clear y57_1
  try clear y57_2
  try clear y57_3
  try clear y59_0
  try clear y59_1
  try clear y59_2
  try clear y59_3
  try clear y59_4
  try clear y59_5
  try clear y60_0
  try clear y60_1
  try clear y60_2
  try clear y60_3
  try clear y60_4
  try clear y60_5
  try clear y62_0
  try clear y62_1
  try clear y62_2
  obtain ⟨kq, x69_9, rfl, HA, HJ9, HO_1251002, HO_1252001, BK1250, BK1251, BK1266, BK1267, HB⟩ := hcut
  cases kq with
  | zero => exact absurd HA.out (by simp [laws_FnMayKeep.j0])
  | succ kj9 =>
   have H := HA.out
   clear HA
   simp only [laws_FnMayKeep.j0] at H
   by_cases c64 : x69_9 = true
   ·subst c64
    rw [if_pos rfl] at H
    exact absurd (Option.some.inj H) (by rw [ht_]; decide)
   replace c64 := Bool.eq_false_iff.mpr c64
   subst c64
   rw [if_neg (show ¬ (false = true) by decide)] at H
   revert H
   refine ok6 fun t1270 t1271 t1274 t1275 t1276 t1279 A65 H => ?_
   (try dsimp only at H)
   revert H
   refine ok3 fun t1282 t1283 t1286 A66 H => ?_
   (try dsimp only at H)
   revert H
   refine ok1 fun t1288 A67 H => ?_
   revert H
   refine ok3 fun t1289 t1290 t1293 A68 H => ?_
   (try dsimp only at H)
   revert H
   refine ok1 fun t1294 A69 H => ?_
   by_cases c70 : t1288.toList = t1294.toList
   rotate_left
   ·rw [if_neg c70] at H
    have c70b0 : (t1288.toList == t1294.toList) = false := beq_eq_false_iff_ne.mpr c70
    have c70b1 : (t1288.toList != t1294.toList) = true := bne_iff_ne.mpr c70
    exact absurd (Option.some.inj H) (by rw [ht_]; decide)
   rw [if_pos c70] at H
   have c70b0 : (t1288.toList == t1294.toList) = true := beq_iff_eq.mpr c70
   have c70b1 : (t1288.toList != t1294.toList) = false := bne_eq_false_iff_eq.mpr c70
   clear c70
   by_cases c71 : t1286.toList = t1274.toList
   rotate_left
   ·rw [if_neg c71] at H
    have c71b0 : (t1286.toList == t1274.toList) = false := beq_eq_false_iff_ne.mpr c71
    have c71b1 : (t1286.toList != t1274.toList) = true := bne_iff_ne.mpr c71
    exact absurd (Option.some.inj H) (by rw [ht_]; decide)
   rw [if_pos c71] at H
   have c71b0 : (t1286.toList == t1274.toList) = true := beq_iff_eq.mpr c71
   have c71b1 : (t1286.toList != t1274.toList) = false := bne_eq_false_iff_eq.mpr c71
   clear c71
   by_cases c72 : t1282 = t1270
   rotate_left
   ·rw [if_neg c72] at H
    have c72b0 : (t1282 == t1270) = false := beq_eq_false_iff_ne.mpr c72
    have c72b1 : (t1282 != t1270) = true := bne_iff_ne.mpr c72
    exact absurd (Option.some.inj H) (by rw [ht_]; decide)
   rw [if_pos c72] at H
   have c72b0 : (t1282 == t1270) = true := beq_iff_eq.mpr c72
   have c72b1 : (t1282 != t1270) = false := bne_eq_false_iff_eq.mpr c72
   clear c72
   revert H
   refine ok1 fun t1295 A73 H => ?_
   by_cases c74 : t1295 = true
   rotate_left
   ·replace c74 := Bool.eq_false_iff.mpr c74
    subst c74
    rw [if_neg (show ¬ (false = true) by decide)] at H
    obtain rfl := Option.some.inj H
    try go_wp2_with ((with_reducible refine gw ?_); first | (refine gl 72 Tryz.func33 #[.slice A0 l0.length c0] ?_; (with_reducible refine (spec_DrawMerge.calls kj9 _ _ l0 t1270 t1271 t1274 t1275 t1276 t1279 _ ?side1 ?side2 A65.out).mono ?_); (case side1 => exact cb HR0); (case side2 => exact HC0.out); rintro e w110 ⟨v1272, v1277, rfl, ho0, ho1, hb⟩; refine ⟨_, rfl, ?_⟩; have HO1273 := am (Kd.R_lower (Kd.R_new' (Kd.R_new' ho0 (Kd.R_lt (ro HO_1251002))) (Kd.R_lt (ro HO_1252001))) (below_size bl)); have HO1278 := am (Kd.R_lower (Kd.R_new' (Kd.R_new' ho1 (Kd.R_lt (ro HO_1251002))) (Kd.R_lt (ro HO_1252001))) (below_size bl)); replace HO_1251002 := am (Kd.R_mono (Kd.R_told (Kd.R_told (Kd.R_old (ro HO_1251002) hb) (Kd.R_base ho0)) (Kd.R_base ho1)) (fun _ h_ => h_.1)); replace HO_1252001 := am (Kd.R_mono (Kd.R_told (Kd.R_told (Kd.R_old (ro HO_1252001) hb) (Kd.R_base ho0)) (Kd.R_base ho1)) (fun _ h_ => h_.1)); replace BK1250 := kb BK1250 hb; replace BK1251 := kb BK1251 hb; replace BK1266 := kb BK1266 hb; replace BK1267 := kb BK1267 hb; replace HB := am (below_step bl hb); clear hb ho0 ho1) | (refine bx 8 #[.int .i64 0, .slice none 0 0, .string (⟨#[]⟩ : ByteArray)] 29 ?_; intro gb1280 hg w111 hbox hb; replace HO_1251002 := am (Kd.R_below (ro HO_1251002) hb); replace HO_1252001 := am (Kd.R_below (ro HO_1252001) hb); replace HO1273 := am (Kd.R_below (ro HO1273) hb); replace HO1278 := am (Kd.R_below (ro HO1278) hb); have BK1280 := am (hbox); have GW1280 := am (sz hg : w.heap.size ≤ gb1280); have GE1280 := am (sz hg : w.heap.size ≤ gb1280); replace HB := am (below_step bl hb); have NB1250_1280 := am (nl hg BK1250 : gb1250 ≠ gb1280); have NB1280_1250 := am (ng hg BK1250 : gb1280 ≠ gb1250); replace BK1250 := kb BK1250 hb; have NB1251_1280 := am (nl hg BK1251 : gb1251 ≠ gb1280); have NB1280_1251 := am (ng hg BK1251 : gb1280 ≠ gb1251); replace BK1251 := kb BK1251 hb; have NB1266_1280 := am (nl hg BK1266 : gb1266 ≠ gb1280); have NB1280_1266 := am (ng hg BK1266 : gb1280 ≠ gb1266); replace BK1266 := kb BK1266 hb; have NB1267_1280 := am (nl hg BK1267 : gb1267 ≠ gb1280); have NB1280_1267 := am (ng hg BK1267 : gb1280 ≠ gb1267); replace BK1267 := kb BK1267 hb; clear hb hbox hg) | (refine bx 9 #[.int .i64 0, .slice none 0 0, .string (⟨#[]⟩ : ByteArray)] 29 ?_; intro gb1281 hg w112 hbox hb; replace HO_1251002 := am (Kd.R_below (ro HO_1251002) hb); replace HO_1252001 := am (Kd.R_below (ro HO_1252001) hb); replace HO1273 := am (Kd.R_below (ro HO1273) hb); replace HO1278 := am (Kd.R_below (ro HO1278) hb); have BK1281 := am (hbox); have GW1281 := am (sz hg : w.heap.size ≤ gb1281); have GE1281 := am (sz hg : w.heap.size ≤ gb1281); replace HB := am (below_step bl hb); have NB1250_1281 := am (nl hg BK1250 : gb1250 ≠ gb1281); have NB1281_1250 := am (ng hg BK1250 : gb1281 ≠ gb1250); replace BK1250 := kb BK1250 hb; have NB1251_1281 := am (nl hg BK1251 : gb1251 ≠ gb1281); have NB1281_1251 := am (ng hg BK1251 : gb1281 ≠ gb1251); replace BK1251 := kb BK1251 hb; have NB1266_1281 := am (nl hg BK1266 : gb1266 ≠ gb1281); have NB1281_1266 := am (ng hg BK1266 : gb1281 ≠ gb1266); replace BK1266 := kb BK1266 hb; have NB1267_1281 := am (nl hg BK1267 : gb1267 ≠ gb1281); have NB1281_1267 := am (ng hg BK1267 : gb1281 ≠ gb1267); replace BK1267 := kb BK1267 hb; have NB1280_1281 := am (nl hg BK1280 : gb1280 ≠ gb1281); have NB1281_1280 := am (ng hg BK1280 : gb1281 ≠ gb1280); replace BK1280 := kb BK1280 hb; clear hb hbox hg; have hnb113 := NB1280_1250.out; have hnc113 := NB1250_1280.out; have hnb114 := NB1280_1251.out; have hnc114 := NB1251_1280.out; have hnb115 := NB1280_1266.out; have hnc115 := NB1266_1280.out; have hnb116 := NB1280_1267.out; have hnc116 := NB1267_1280.out; have hnb117 := NB1280_1281.out; have hnc117 := NB1281_1280.out; obtain ⟨z118_0, y118_0, z118_1, y118_1, z118_2, y118_2⟩ := cl3 BK1280; obtain ⟨Ao119, co119, eo119⟩ := Kd.R_slice HO1273.out; subst eo119; have hnb120 := NB1281_1250.out; have hnc120 := NB1250_1281.out; have hnb121 := NB1281_1251.out; have hnc121 := NB1251_1281.out; have hnb122 := NB1281_1266.out; have hnc122 := NB1266_1281.out; have hnb123 := NB1281_1267.out; have hnc123 := NB1267_1281.out; obtain ⟨z124_0, y124_0, z124_1, y124_1, z124_2, y124_2⟩ := cl3 BK1281; obtain ⟨Ao125, co125, eo125⟩ := Kd.R_slice HO1278.out; subst eo125) | (refine gl 77 Tryz.func34 #[.agg #[.int .i64 t1270, .slice Ao119 t1271.length co119, .string t1274], .agg #[.int .i64 t1275, .slice Ao125 t1276.length co125, .string t1279]] ?_; (with_reducible refine (impl_Merge.calls kj9 t1270 _ _ t1271 t1274 t1275 _ _ t1276 t1279 t1282 t1283 t1286 _ ?side1 ?side2 ?side3 ?side4 A66.out).mono ?_); (case side1 => refine (Kd.R_reads' (e := 116) (base := w.heap.size) (ok := fun k_ => ((some k_ ≠ (.slice Ao125 t1276.length co125 : Value).ownBlock ∧ some k_ ≠ (.slice Ao16 t1241.length co16 : Value).ownBlock) ∧ some k_ ≠ (.slice Ao18 t1246.length co18 : Value).ownBlock)) (n := t1271.length) (c := co119) ?_).2.2; exact (by (with_reducible repeat (first | apply Kd.R_alloc | apply Kd.R_drewN | apply Kd.R_drew)); exact (Kd.R_mono (rj (Kd.R_types (Kd.R_types HO1273.out BK1280.out (by decide)) BK1281.out (by decide)) (fun _ h_ => h_.1)) (fun _ h_ => h_.1)))); (case side2 => exact (Kd.R_reads' HO1273.out).2.1); (case side3 => refine (Kd.R_reads' (e := 116) (base := w.heap.size) (ok := fun k_ => ((some k_ ≠ (.slice Ao119 t1271.length co119 : Value).ownBlock ∧ some k_ ≠ (.slice Ao16 t1241.length co16 : Value).ownBlock) ∧ some k_ ≠ (.slice Ao18 t1246.length co18 : Value).ownBlock)) (n := t1276.length) (c := co125) ?_).2.2; exact (by (with_reducible repeat (first | apply Kd.R_alloc | apply Kd.R_drewN | apply Kd.R_drew)); exact (Kd.R_mono (rj (Kd.R_types (Kd.R_types HO1278.out BK1280.out (by decide)) BK1281.out (by decide)) (fun _ h_ => h_.1)) (fun _ h_ => h_.1)))); (case side4 => exact (Kd.R_reads' HO1278.out).2.1); rintro e w126 ⟨v1284, rfl, ho0, hb⟩; refine ⟨_, rfl, ?_⟩; have n0_ := am (Kd.R_elder' (by (with_reducible repeat (first | apply Kd.R_alloc | apply Kd.R_drewN | apply Kd.R_drew)); exact (Kd.R_mono (rj (Kd.R_types (Kd.R_types HO_1251002.out BK1280.out (by decide)) BK1281.out (by decide)) (fun _ h_ => h_.1)) (fun _ h_ => h_.1))) (Kd.R_base ho0) hb); have n1_ := am (Kd.R_elder' (by (with_reducible repeat (first | apply Kd.R_alloc | apply Kd.R_drewN | apply Kd.R_drew)); exact (Kd.R_mono (rj (Kd.R_types (Kd.R_types HO_1252001.out BK1280.out (by decide)) BK1281.out (by decide)) (fun _ h_ => h_.1)) (fun _ h_ => h_.1))) (Kd.R_base ho0) hb); have n2_ := am (Kd.R_elder' (by (with_reducible repeat (first | apply Kd.R_alloc | apply Kd.R_drewN | apply Kd.R_drew)); exact (Kd.R_mono (rj (Kd.R_types (Kd.R_types HO1273.out BK1280.out (by decide)) BK1281.out (by decide)) (fun _ h_ => h_.1)) (fun _ h_ => h_.1))) (Kd.R_base ho0) hb); have n3_ := am (Kd.R_elder' (by (with_reducible repeat (first | apply Kd.R_alloc | apply Kd.R_drewN | apply Kd.R_drew)); exact (Kd.R_mono (rj (Kd.R_types (Kd.R_types HO1278.out BK1280.out (by decide)) BK1281.out (by decide)) (fun _ h_ => h_.1)) (fun _ h_ => h_.1))) (Kd.R_base ho0) hb); have n4_ := am (Kd.R_lower (Kd.R_new' (Kd.R_new' (Kd.R_new' (Kd.R_new' ho0 (Kd.R_lt (by (with_reducible repeat (first | apply Kd.R_alloc | apply Kd.R_drewN | apply Kd.R_drew)); exact (Kd.R_mono (rj (Kd.R_types (Kd.R_types HO_1251002.out BK1280.out (by decide)) BK1281.out (by decide)) (fun _ h_ => h_.1)) (fun _ h_ => h_.1))))) (Kd.R_lt (by (with_reducible repeat (first | apply Kd.R_alloc | apply Kd.R_drewN | apply Kd.R_drew)); exact (Kd.R_mono (rj (Kd.R_types (Kd.R_types HO_1252001.out BK1280.out (by decide)) BK1281.out (by decide)) (fun _ h_ => h_.1)) (fun _ h_ => h_.1))))) (Kd.R_lt (by (with_reducible repeat (first | apply Kd.R_alloc | apply Kd.R_drewN | apply Kd.R_drew)); exact (Kd.R_mono (rj (Kd.R_types (Kd.R_types HO1273.out BK1280.out (by decide)) BK1281.out (by decide)) (fun _ h_ => h_.1)) (fun _ h_ => h_.1))))) (Kd.R_lt (by (with_reducible repeat (first | apply Kd.R_alloc | apply Kd.R_drewN | apply Kd.R_drew)); exact (Kd.R_mono (rj (Kd.R_types (Kd.R_types HO1278.out BK1280.out (by decide)) BK1281.out (by decide)) (fun _ h_ => h_.1)) (fun _ h_ => h_.1))))) (below_size bl)); have n5_ := kg2 BK1250 NB1250_1281 NB1250_1280 hb; have n6_ := kg2 BK1251 NB1251_1281 NB1251_1280 hb; have n7_ := kg2 BK1266 NB1266_1281 NB1266_1280 hb; have n8_ := kg2 BK1267 NB1267_1281 NB1267_1280 hb; have n9_ := am (blk_below (g := gb1280) (o := .cells #[.int .i64 t1270, .slice Ao119 t1271.length co119, .string t1274] 29 (0, 0)) (pt1 BK1280 NB1280_1281) hb); have n10_ := am (blk_below (g := gb1281) (o := .cells #[.int .i64 t1275, .slice Ao125 t1276.length co125, .string t1279] 29 (0, 0)) (pt1 BK1281 NB1281_1280) hb); have n11_ := am (below_step bl hb); clear HO_1251002; clear HO_1252001; clear HO1273; clear HO1278; clear BK1250; clear BK1251; clear BK1266; clear BK1267; clear BK1280; clear BK1281; clear HB; have HO_1251002 := n0_; have HO_1252001 := n1_; have HO1273 := n2_; have HO1278 := n3_; have HO1285 := n4_; have BK1250 := n5_; have BK1251 := n6_; have BK1266 := n7_; have BK1267 := n8_; have BK1280 := n9_; have BK1281 := n10_; have HB := n11_; clear n0_ n1_ n2_ n3_ n4_ n5_ n6_ n7_ n8_ n9_ n10_ n11_; clear hb ho0) | (refine bx 10 #[.int .i64 0, .slice none 0 0, .string (⟨#[]⟩ : ByteArray)] 29 ?_; intro gb1287 hg w127 hbox hb; replace HO_1251002 := am (Kd.R_below (ro HO_1251002) hb); replace HO_1252001 := am (Kd.R_below (ro HO_1252001) hb); replace HO1273 := am (Kd.R_below (ro HO1273) hb); replace HO1278 := am (Kd.R_below (ro HO1278) hb); replace HO1285 := am (Kd.R_below (ro HO1285) hb); have BK1287 := am (hbox); have GW1287 := am (sz hg : w.heap.size ≤ gb1287); have GE1287 := am (sz hg : w.heap.size ≤ gb1287); replace HB := am (below_step bl hb); have NB1250_1287 := am (nl hg BK1250 : gb1250 ≠ gb1287); have NB1287_1250 := am (ng hg BK1250 : gb1287 ≠ gb1250); replace BK1250 := kb BK1250 hb; have NB1251_1287 := am (nl hg BK1251 : gb1251 ≠ gb1287); have NB1287_1251 := am (ng hg BK1251 : gb1287 ≠ gb1251); replace BK1251 := kb BK1251 hb; have NB1266_1287 := am (nl hg BK1266 : gb1266 ≠ gb1287); have NB1287_1266 := am (ng hg BK1266 : gb1287 ≠ gb1266); replace BK1266 := kb BK1266 hb; have NB1267_1287 := am (nl hg BK1267 : gb1267 ≠ gb1287); have NB1287_1267 := am (ng hg BK1267 : gb1287 ≠ gb1267); replace BK1267 := kb BK1267 hb; have NB1280_1287 := am (nl hg BK1280 : gb1280 ≠ gb1287); have NB1287_1280 := am (ng hg BK1280 : gb1287 ≠ gb1280); replace BK1280 := kb BK1280 hb; have NB1281_1287 := am (nl hg BK1281 : gb1281 ≠ gb1287); have NB1287_1281 := am (ng hg BK1281 : gb1287 ≠ gb1281); replace BK1281 := kb BK1281 hb; clear hb hbox hg; have hnb128 := NB1287_1250.out; have hnc128 := NB1250_1287.out; have hnb129 := NB1287_1251.out; have hnc129 := NB1251_1287.out; have hnb130 := NB1287_1266.out; have hnc130 := NB1266_1287.out; have hnb131 := NB1287_1267.out; have hnc131 := NB1267_1287.out; have hnb132 := NB1287_1280.out; have hnc132 := NB1280_1287.out; have hnb133 := NB1287_1281.out; have hnc133 := NB1281_1287.out; obtain ⟨z134_0, y134_0, z134_1, y134_1, z134_2, y134_2⟩ := cl3 BK1287; obtain ⟨Ao135, co135, eo135⟩ := Kd.R_slice HO1285.out; subst eo135))
    have n0_ : Aside0 (Kd.R k116 116 (((w127.setCell ⟨gb1287, 0, none⟩ (.int .i64 t1282)).setCell ⟨gb1287, 1, none⟩ (.slice Ao135 t1283.length co135)).setCell ⟨gb1287, 2, none⟩ (.string t1286)) w.heap.size (fun k_ => some k_ ≠ (.slice Ao18 t1246.length co18 : Value).ownBlock ∧ some k_ ≠ (.slice Ao119 t1271.length co119 : Value).ownBlock ∧ some k_ ≠ (.slice Ao125 t1276.length co125 : Value).ownBlock ∧ some k_ ≠ (.slice Ao135 t1283.length co135 : Value).ownBlock) (.slice Ao16 t1241.length co16) t1241) := ⟨rj (Kd.R_types HO_1251002.out BK1287.out (by decide)) (fun _ hk => ⟨hk.1.1.1.1, ⟨hk.1.1.1.2, ⟨hk.1.1.2, hk.1.2⟩⟩⟩)⟩
    have n1_ : Aside0 (Kd.R k116 116 (((w127.setCell ⟨gb1287, 0, none⟩ (.int .i64 t1282)).setCell ⟨gb1287, 1, none⟩ (.slice Ao135 t1283.length co135)).setCell ⟨gb1287, 2, none⟩ (.string t1286)) w.heap.size (fun k_ => some k_ ≠ (.slice Ao16 t1241.length co16 : Value).ownBlock ∧ some k_ ≠ (.slice Ao119 t1271.length co119 : Value).ownBlock ∧ some k_ ≠ (.slice Ao125 t1276.length co125 : Value).ownBlock ∧ some k_ ≠ (.slice Ao135 t1283.length co135 : Value).ownBlock) (.slice Ao18 t1246.length co18) t1246) := ⟨rj (Kd.R_types HO_1252001.out BK1287.out (by decide)) (fun _ hk => ⟨hk.1.1.1.1, ⟨hk.1.1.1.2, ⟨hk.1.1.2, hk.1.2⟩⟩⟩)⟩
    have n2_ : Aside0 (Kd.R k116 116 (((w127.setCell ⟨gb1287, 0, none⟩ (.int .i64 t1282)).setCell ⟨gb1287, 1, none⟩ (.slice Ao135 t1283.length co135)).setCell ⟨gb1287, 2, none⟩ (.string t1286)) w.heap.size (fun k_ => some k_ ≠ (.slice Ao16 t1241.length co16 : Value).ownBlock ∧ some k_ ≠ (.slice Ao18 t1246.length co18 : Value).ownBlock ∧ some k_ ≠ (.slice Ao125 t1276.length co125 : Value).ownBlock ∧ some k_ ≠ (.slice Ao135 t1283.length co135 : Value).ownBlock) (.slice Ao119 t1271.length co119) t1271) := ⟨rj (Kd.R_types HO1273.out BK1287.out (by decide)) (fun _ hk => ⟨hk.1.1.1.2, ⟨hk.1.1.2, ⟨hk.1.1.1.1, hk.1.2⟩⟩⟩)⟩
    have n3_ : Aside0 (Kd.R k116 116 (((w127.setCell ⟨gb1287, 0, none⟩ (.int .i64 t1282)).setCell ⟨gb1287, 1, none⟩ (.slice Ao135 t1283.length co135)).setCell ⟨gb1287, 2, none⟩ (.string t1286)) w.heap.size (fun k_ => some k_ ≠ (.slice Ao16 t1241.length co16 : Value).ownBlock ∧ some k_ ≠ (.slice Ao18 t1246.length co18 : Value).ownBlock ∧ some k_ ≠ (.slice Ao119 t1271.length co119 : Value).ownBlock ∧ some k_ ≠ (.slice Ao135 t1283.length co135 : Value).ownBlock) (.slice Ao125 t1276.length co125) t1276) := ⟨rj (Kd.R_types HO1278.out BK1287.out (by decide)) (fun _ hk => ⟨hk.1.1.1.2, ⟨hk.1.1.2, ⟨hk.1.1.1.1, hk.1.2⟩⟩⟩)⟩
    have n4_ : Aside0 (Kd.R k116 116 (((w127.setCell ⟨gb1287, 0, none⟩ (.int .i64 t1282)).setCell ⟨gb1287, 1, none⟩ (.slice Ao135 t1283.length co135)).setCell ⟨gb1287, 2, none⟩ (.string t1286)) w.heap.size (fun k_ => some k_ ≠ (.slice Ao16 t1241.length co16 : Value).ownBlock ∧ some k_ ≠ (.slice Ao18 t1246.length co18 : Value).ownBlock ∧ some k_ ≠ (.slice Ao119 t1271.length co119 : Value).ownBlock ∧ some k_ ≠ (.slice Ao125 t1276.length co125 : Value).ownBlock) (.slice Ao135 t1283.length co135) t1283) := ⟨rj (Kd.R_types HO1285.out BK1287.out (by decide)) (fun _ hk => ⟨hk.1.1.1.1.2, ⟨hk.1.1.1.2, ⟨hk.1.1.2, hk.1.2⟩⟩⟩)⟩
    have n5_ : Aside0 ((((w127.setCell ⟨gb1287, 0, none⟩ (.int .i64 t1282)).setCell ⟨gb1287, 1, none⟩ (.slice Ao135 t1283.length co135)).setCell ⟨gb1287, 2, none⟩ (.string t1286)).heap[gb1250]? = some (.cells #[.int .i64 t1239, .string t1240, .slice Ao16 t1241.length co16, .string t1244] 50 (0, 0))) := ⟨by (with_reducible repeat (first | refine blk_drewN ?_ _ | refine blk_drew ?_ | refine blk_alloc ?_ _)); refine blk_far ?_ NB1250_1287.out _; (with_reducible repeat (first | refine blk_drewN ?_ _ | refine blk_drew ?_ | refine blk_alloc ?_ _)); refine blk_far ?_ NB1250_1287.out _; (with_reducible repeat (first | refine blk_drewN ?_ _ | refine blk_drew ?_ | refine blk_alloc ?_ _)); refine blk_far ?_ NB1250_1287.out _; (with_reducible repeat (first | refine blk_drewN ?_ _ | refine blk_drew ?_ | refine blk_alloc ?_ _)); exact BK1250.out⟩
    have n6_ : Aside0 ((((w127.setCell ⟨gb1287, 0, none⟩ (.int .i64 t1282)).setCell ⟨gb1287, 1, none⟩ (.slice Ao135 t1283.length co135)).setCell ⟨gb1287, 2, none⟩ (.string t1286)).heap[gb1251]? = some (.cells #[.int .i64 t1245, .slice Ao18 t1246.length co18, .string t1249] 29 (0, 0))) := ⟨by (with_reducible repeat (first | refine blk_drewN ?_ _ | refine blk_drew ?_ | refine blk_alloc ?_ _)); refine blk_far ?_ NB1251_1287.out _; (with_reducible repeat (first | refine blk_drewN ?_ _ | refine blk_drew ?_ | refine blk_alloc ?_ _)); refine blk_far ?_ NB1251_1287.out _; (with_reducible repeat (first | refine blk_drewN ?_ _ | refine blk_drew ?_ | refine blk_alloc ?_ _)); refine blk_far ?_ NB1251_1287.out _; (with_reducible repeat (first | refine blk_drewN ?_ _ | refine blk_drew ?_ | refine blk_alloc ?_ _)); exact BK1251.out⟩
    have n7_ : Aside0 ((((w127.setCell ⟨gb1287, 0, none⟩ (.int .i64 t1282)).setCell ⟨gb1287, 1, none⟩ (.slice Ao135 t1283.length co135)).setCell ⟨gb1287, 2, none⟩ (.string t1286)).heap[gb1266]? = some (.cells #[.bool t1254, .bool t1255, .bool t1256, .bool t1257, .bool t1258, .int .i64 t1259] 42 (0, 0))) := ⟨by (with_reducible repeat (first | refine blk_drewN ?_ _ | refine blk_drew ?_ | refine blk_alloc ?_ _)); refine blk_far ?_ NB1266_1287.out _; (with_reducible repeat (first | refine blk_drewN ?_ _ | refine blk_drew ?_ | refine blk_alloc ?_ _)); refine blk_far ?_ NB1266_1287.out _; (with_reducible repeat (first | refine blk_drewN ?_ _ | refine blk_drew ?_ | refine blk_alloc ?_ _)); refine blk_far ?_ NB1266_1287.out _; (with_reducible repeat (first | refine blk_drewN ?_ _ | refine blk_drew ?_ | refine blk_alloc ?_ _)); exact BK1266.out⟩
    have n8_ : Aside0 ((((w127.setCell ⟨gb1287, 0, none⟩ (.int .i64 t1282)).setCell ⟨gb1287, 1, none⟩ (.slice Ao135 t1283.length co135)).setCell ⟨gb1287, 2, none⟩ (.string t1286)).heap[gb1267]? = some (.cells #[.bool t1260, .bool t1261, .bool t1262, .bool t1263, .bool t1264, .int .i64 t1265] 42 (0, 0))) := ⟨by (with_reducible repeat (first | refine blk_drewN ?_ _ | refine blk_drew ?_ | refine blk_alloc ?_ _)); refine blk_far ?_ NB1267_1287.out _; (with_reducible repeat (first | refine blk_drewN ?_ _ | refine blk_drew ?_ | refine blk_alloc ?_ _)); refine blk_far ?_ NB1267_1287.out _; (with_reducible repeat (first | refine blk_drewN ?_ _ | refine blk_drew ?_ | refine blk_alloc ?_ _)); refine blk_far ?_ NB1267_1287.out _; (with_reducible repeat (first | refine blk_drewN ?_ _ | refine blk_drew ?_ | refine blk_alloc ?_ _)); exact BK1267.out⟩
    have n9_ : Aside0 ((((w127.setCell ⟨gb1287, 0, none⟩ (.int .i64 t1282)).setCell ⟨gb1287, 1, none⟩ (.slice Ao135 t1283.length co135)).setCell ⟨gb1287, 2, none⟩ (.string t1286)).heap[gb1280]? = some (.cells #[.int .i64 t1270, .slice Ao119 t1271.length co119, .string t1274] 29 (0, 0))) := ⟨by (with_reducible repeat (first | refine blk_drewN ?_ _ | refine blk_drew ?_ | refine blk_alloc ?_ _)); refine blk_far ?_ NB1280_1287.out _; (with_reducible repeat (first | refine blk_drewN ?_ _ | refine blk_drew ?_ | refine blk_alloc ?_ _)); refine blk_far ?_ NB1280_1287.out _; (with_reducible repeat (first | refine blk_drewN ?_ _ | refine blk_drew ?_ | refine blk_alloc ?_ _)); refine blk_far ?_ NB1280_1287.out _; (with_reducible repeat (first | refine blk_drewN ?_ _ | refine blk_drew ?_ | refine blk_alloc ?_ _)); exact BK1280.out⟩
    have n10_ : Aside0 ((((w127.setCell ⟨gb1287, 0, none⟩ (.int .i64 t1282)).setCell ⟨gb1287, 1, none⟩ (.slice Ao135 t1283.length co135)).setCell ⟨gb1287, 2, none⟩ (.string t1286)).heap[gb1281]? = some (.cells #[.int .i64 t1275, .slice Ao125 t1276.length co125, .string t1279] 29 (0, 0))) := ⟨by (with_reducible repeat (first | refine blk_drewN ?_ _ | refine blk_drew ?_ | refine blk_alloc ?_ _)); refine blk_far ?_ NB1281_1287.out _; (with_reducible repeat (first | refine blk_drewN ?_ _ | refine blk_drew ?_ | refine blk_alloc ?_ _)); refine blk_far ?_ NB1281_1287.out _; (with_reducible repeat (first | refine blk_drewN ?_ _ | refine blk_drew ?_ | refine blk_alloc ?_ _)); refine blk_far ?_ NB1281_1287.out _; (with_reducible repeat (first | refine blk_drewN ?_ _ | refine blk_drew ?_ | refine blk_alloc ?_ _)); exact BK1281.out⟩
    have n11_ : Aside0 ((((w127.setCell ⟨gb1287, 0, none⟩ (.int .i64 t1282)).setCell ⟨gb1287, 1, none⟩ (.slice Ao135 t1283.length co135)).setCell ⟨gb1287, 2, none⟩ (.string t1286)).heap[gb1287]? = some (.cells #[.int .i64 t1282, .slice Ao135 t1283.length co135, .string t1286] 29 (0, 0))) := ⟨pt0 BK1287⟩
    have n12_ : Aside0 (Below w.heap.size w (((w127.setCell ⟨gb1287, 0, none⟩ (.int .i64 t1282)).setCell ⟨gb1287, 1, none⟩ (.slice Ao135 t1283.length co135)).setCell ⟨gb1287, 2, none⟩ (.string t1286))) := ⟨u5HB⟩
    (try clear HO_1251002)
    (try clear HO_1252001)
    (try clear HO1273)
    (try clear HO1278)
    (try clear HO1285)
    (try clear BK1250)
    (try clear BK1251)
    (try clear BK1266)
    (try clear BK1267)
    (try clear BK1280)
    (try clear BK1281)
    (try clear BK1287)
    (try clear HB)
    generalize (((w127.setCell ⟨gb1287, 0, none⟩ (.int .i64 t1282)).setCell ⟨gb1287, 1, none⟩ (.slice Ao135 t1283.length co135)).setCell ⟨gb1287, 2, none⟩ (.string t1286)) = w136 at n0_ n1_ n2_ n3_ n4_ n5_ n6_ n7_ n8_ n9_ n10_ n11_ n12_ ⊢
    have HO_1251002 := n0_
    have HO_1252001 := n1_
    have HO1273 := n2_
    have HO1278 := n3_
    have HO1285 := n4_
    have BK1250 := n5_
    have BK1251 := n6_
    have BK1266 := n7_
    have BK1267 := n8_
    have BK1280 := n9_
    have BK1281 := n10_
    have BK1287 := n11_
    have HB := n12_
    clear n0_ n1_ n2_ n3_ n4_ n5_ n6_ n7_ n8_ n9_ n10_ n11_ n12_
    replace HO_1251002 := am (Kd.R_drew HO_1251002.out)
    replace HO_1252001 := am (Kd.R_drew HO_1252001.out)
    replace HO1273 := am (Kd.R_drew HO1273.out)
    replace HO1278 := am (Kd.R_drew HO1278.out)
    replace HO1285 := am (Kd.R_drew HO1285.out)
    replace BK1250 := am (blk_drew BK1250.out)
    replace BK1251 := am (blk_drew BK1251.out)
    replace BK1266 := am (blk_drew BK1266.out)
    replace BK1267 := am (blk_drew BK1267.out)
    replace BK1280 := am (blk_drew BK1280.out)
    replace BK1281 := am (blk_drew BK1281.out)
    replace BK1287 := am (blk_drew BK1287.out)
    replace HB := am (below_drew1 HB.out)
    refine start_ (n := 31) (S := fun w' => w'.cell? ⟨gb1287, 0, none⟩ = some (.int .i64 t1282) ∧ w'.cell? ⟨gb1287, 1, none⟩ = some (.slice Ao135 t1283.length co135) ∧ w'.cell? ⟨gb1287, 2, none⟩ = some (.string t1286) ∧ w'.cell? ⟨gb1280, 0, none⟩ = some (.int .i64 t1270) ∧ w'.cell? ⟨gb1280, 1, none⟩ = some (.slice Ao119 t1271.length co119) ∧ w'.cell? ⟨gb1280, 2, none⟩ = some (.string t1274) ∧ w'.cell? ⟨gb1281, 0, none⟩ = some (.int .i64 t1275) ∧ w'.cell? ⟨gb1281, 1, none⟩ = some (.slice Ao125 t1276.length co125) ∧ w'.cell? ⟨gb1281, 2, none⟩ = some (.string t1279)) (ds := []) ⟨br true [0, 31]⟩ (by kernel_rfl) rfl (by kernel_rfl) ⟨bc BK1287, bc BK1287, bc BK1287, bc BK1280, bc BK1280, bc BK1280, bc BK1281, bc BK1281, bc BK1281⟩ (fun hHeld => ?_); refine with_tabW laws_FnMayKeep.tab12 laws_FnMayKeep.bits12 (fun HT_ HW_ => ?_)
    generalize w136.drew = w137 at HO_1251002 HO_1252001 HO1273 HO1278 HO1285 BK1250 BK1251 BK1266 BK1267 BK1280 BK1281 BK1287 HB hHeld ⊢
    refine tk 0 78 [1, 30] ?_
    refine tk 2 80 [1, 1, 1, 28] ?_
    refine tk 3 81 [1, 1, 2, 27] ?_
    refine og 1 79 [4, 27] Tryz.func35 #[.agg #[.int .i64 t1282, .slice Ao135 t1283.length co135, .string t1286]] (fun K hK => ?_)
    with_reducible refine (impl_RespText.calls kj9 t1282 _ _ t1283 t1286 t1288 _ ?side1 ?side2 ?side3 A67.out).mono ?_
    (case side1 => exact GLOBT.below HGT.out bl)
    (case side2 => exact rc HO1285)
    (case side3 => exact (Kd.R_reads' HO1285.out).2.1)
    rintro e w138 ⟨rfl, hb⟩
    refine ⟨_, rfl, ?_⟩
    replace HO_1251002 := kr HO_1251002 hb
    replace HO_1252001 := kr HO_1252001 hb
    replace HO1273 := kr HO1273 hb
    replace HO1278 := kr HO1278 hb
    replace HO1285 := kr HO1285 hb
    replace BK1250 := kb BK1250 hb
    replace BK1251 := kb BK1251 hb
    replace BK1266 := kb BK1266 hb
    replace BK1267 := kb BK1267 hb
    replace BK1280 := kb BK1280 hb
    replace BK1281 := kb BK1281 hb
    replace BK1287 := kb BK1287 hb
    replace HB := am (below_step bl hb)
    clear hb
    refine hK.out _ _ ⟨bc BK1287, bc BK1287, bc BK1287, bc BK1280, bc BK1280, bc BK1280, bc BK1281, bc BK1281, bc BK1281⟩ (fun hHeld => ?_)
    clear hK K
    refine nm 79 ?_
    refine og 4 82 [5, 26] Tryz.func36 #[.agg #[.int .i64 t1270, .slice Ao119 t1271.length co119, .string t1274], .agg #[.int .i64 t1275, .slice Ao125 t1276.length co125, .string t1279]] (fun K hK => ?_)
    with_reducible refine (spec_Merge.calls kj9 t1270 _ _ t1271 t1274 t1275 _ _ t1276 t1279 t1289 t1290 t1293 _ ?side1 ?side2 ?side3 ?side4 A68.out).mono ?_
    (case side1 => exact rc HO1273)
    (case side2 => exact (Kd.R_reads' HO1273.out).2.1)
    (case side3 => exact rc HO1278)
    (case side4 => exact (Kd.R_reads' HO1278.out).2.1)
    rintro e w139 ⟨v1291, rfl, ho0, hb⟩
    refine ⟨_, rfl, ?_⟩
    have HO1292 := am (Kd.R_lower (Kd.R_new' (Kd.R_new' (Kd.R_new' (Kd.R_new' (Kd.R_new' ho0 (Kd.R_lt (ro HO_1251002))) (Kd.R_lt (ro HO_1252001))) (Kd.R_lt (ro HO1273))) (Kd.R_lt (ro HO1278))) (Kd.R_lt (ro HO1285))) (below_size bl))
    replace HO_1251002 := am (Kd.R_elder' (ro HO_1251002) (Kd.R_base ho0) hb)
    replace HO_1252001 := am (Kd.R_elder' (ro HO_1252001) (Kd.R_base ho0) hb)
    replace HO1273 := am (Kd.R_elder' (ro HO1273) (Kd.R_base ho0) hb)
    replace HO1278 := am (Kd.R_elder' (ro HO1278) (Kd.R_base ho0) hb)
    replace HO1285 := am (Kd.R_elder' (ro HO1285) (Kd.R_base ho0) hb)
    replace BK1250 := kb BK1250 hb
    replace BK1251 := kb BK1251 hb
    replace BK1266 := kb BK1266 hb
    replace BK1267 := kb BK1267 hb
    replace BK1280 := kb BK1280 hb
    replace BK1281 := kb BK1281 hb
    replace BK1287 := kb BK1287 hb
    replace HB := am (below_step bl hb)
    clear hb ho0
    obtain ⟨Ao140, co140, eo140⟩ := Kd.R_slice HO1292.out
    (first | subst eo140 | (injection eo140 with f1_ f2_ f3_; have f4_ := f1_.symm; have f5_ := f3_.symm; clear f1_ f2_ f3_; subst f4_; subst f5_))
    refine hK.out _ _ ⟨bc BK1287, bc BK1287, bc BK1287, bc BK1280, bc BK1280, bc BK1280, bc BK1281, bc BK1281, bc BK1281⟩ (fun hHeld => ?_)
    clear hK K
    refine nm 82 ?_
    refine og 5 83 [6, 25] Tryz.func35 #[.agg #[.int .i64 t1289, .slice Ao140 t1290.length co140, .string t1293]] (fun K hK => ?_)
    with_reducible refine (impl_RespText.calls kj9 t1289 _ _ t1290 t1293 t1294 _ ?side1 ?side2 ?side3 A69.out).mono ?_
    (case side1 => exact GLOBT.below HGT.out bl)
    (case side2 => exact rc HO1292)
    (case side3 => exact (Kd.R_reads' HO1292.out).2.1)
    rintro e w141 ⟨rfl, hb⟩
    refine ⟨_, rfl, ?_⟩
    replace HO_1251002 := kr HO_1251002 hb
    replace HO_1252001 := kr HO_1252001 hb
    replace HO1273 := kr HO1273 hb
    replace HO1278 := kr HO1278 hb
    replace HO1285 := kr HO1285 hb
    replace HO1292 := kr HO1292 hb
    replace BK1250 := kb BK1250 hb
    replace BK1251 := kb BK1251 hb
    replace BK1266 := kb BK1266 hb
    replace BK1267 := kb BK1267 hb
    replace BK1280 := kb BK1280 hb
    replace BK1281 := kb BK1281 hb
    replace BK1287 := kb BK1287 hb
    replace HB := am (below_step bl hb)
    clear hb
    refine hK.out _ _ ⟨bc BK1287, bc BK1287, bc BK1287, bc BK1280, bc BK1280, bc BK1280, bc BK1281, bc BK1281, bc BK1281⟩ (fun hHeld => ?_)
    clear hK K
    refine nm 83 ?_
    refine pu 6 84 [7, 24] ?_
    refine pu 7 85 [8, 23] ?_
    refine pu 8 86 [9, 22] ?_
    refine pu 10 88 [9, 1, 1, 20] ?_
    refine tk 9 87 [11, 20] ?_
    refine tk 11 89 [12, 19] ?_
    refine pu 12 90 [13, 18] ?_
    refine pu 13 91 [14, 17] ?_
    refine pu 14 92 [15, 16] ?_
    refine pu 15 93 [16, 15] ?_
    refine pu 17 95 [16, 1, 1, 13] ?_
    refine tk 16 94 [18, 13] ?_
    refine tk 18 96 [19, 12] ?_
    refine pu 19 97 [20, 11] ?_
    refine pu 20 98 [21, 10] ?_
    refine pu 21 99 [22, 9] ?_
    refine tk 22 100 [23, 8] ?_
    refine og 23 101 [24, 7] Tryz.func32 #[.agg #[.int .i64 t1270, .slice Ao119 t1271.length co119, .string t1274]] (fun K hK => ?_)
    with_reducible refine (impl_RespOk.calls kj9 t1270 _ _ t1271 t1274 false _ ?side1 ?side2 A73.out).mono ?_
    (case side1 => exact rc HO1273)
    (case side2 => exact (Kd.R_reads' HO1273.out).2.1)
    rintro e w142 ⟨rfl, hb⟩
    refine ⟨_, rfl, ?_⟩
    replace HO_1251002 := kr HO_1251002 hb
    replace HO_1252001 := kr HO_1252001 hb
    replace HO1273 := kr HO1273 hb
    replace HO1278 := kr HO1278 hb
    replace HO1285 := kr HO1285 hb
    replace HO1292 := kr HO1292 hb
    replace BK1250 := kb BK1250 hb
    replace BK1251 := kb BK1251 hb
    replace BK1266 := kb BK1266 hb
    replace BK1267 := kb BK1267 hb
    replace BK1280 := kb BK1280 hb
    replace BK1281 := kb BK1281 hb
    replace BK1287 := kb BK1287 hb
    replace HB := am (below_step bl hb)
    clear hb
    refine hK.out _ _ ⟨bc BK1287, bc BK1287, bc BK1287, bc BK1280, bc BK1280, bc BK1280, bc BK1281, bc BK1281, bc BK1281⟩ (fun hHeld => ?_)
    clear hK K
    refine nm 101 ?_
    refine pu 24 102 [25, 6] ?_
    refine pu 25 103 [26, 5] ?_
    refine pd 26 104 [27, 4] ?_
    refine pd 27 105 [28, 3] ?_
    refine pu 28 106 [29, 2] ?_
    refine pu 29 107 [30, 1] ?_
    refine pu 30 2 [31] ?_
    refine done_ (done_of HT_.out (by kernel_rfl)) ?_
    try go_wp2
    go_ret
    exact ⟨rf, bl⟩
   subst c74
   rw [if_pos rfl] at H
   revert H
   refine ok1 fun t1296 A75 H => ?_
   obtain rfl := Option.some.inj H
   try go_wp2_with ((with_reducible refine gw ?_); first | (refine gl 72 Tryz.func33 #[.slice A0 l0.length c0] ?_; (with_reducible refine (spec_DrawMerge.calls kj9 _ _ l0 t1270 t1271 t1274 t1275 t1276 t1279 _ ?side1 ?side2 A65.out).mono ?_); (case side1 => exact cb HR0); (case side2 => exact HC0.out); rintro e w76 ⟨v1272, v1277, rfl, ho0, ho1, hb⟩; refine ⟨_, rfl, ?_⟩; have HO1273 := am (Kd.R_lower (Kd.R_new' (Kd.R_new' ho0 (Kd.R_lt (ro HO_1251002))) (Kd.R_lt (ro HO_1252001))) (below_size bl)); have HO1278 := am (Kd.R_lower (Kd.R_new' (Kd.R_new' ho1 (Kd.R_lt (ro HO_1251002))) (Kd.R_lt (ro HO_1252001))) (below_size bl)); replace HO_1251002 := am (Kd.R_mono (Kd.R_told (Kd.R_told (Kd.R_old (ro HO_1251002) hb) (Kd.R_base ho0)) (Kd.R_base ho1)) (fun _ h_ => h_.1)); replace HO_1252001 := am (Kd.R_mono (Kd.R_told (Kd.R_told (Kd.R_old (ro HO_1252001) hb) (Kd.R_base ho0)) (Kd.R_base ho1)) (fun _ h_ => h_.1)); replace BK1250 := kb BK1250 hb; replace BK1251 := kb BK1251 hb; replace BK1266 := kb BK1266 hb; replace BK1267 := kb BK1267 hb; replace HB := am (below_step bl hb); clear hb ho0 ho1) | (refine bx 8 #[.int .i64 0, .slice none 0 0, .string (⟨#[]⟩ : ByteArray)] 29 ?_; intro gb1280 hg w77 hbox hb; replace HO_1251002 := am (Kd.R_below (ro HO_1251002) hb); replace HO_1252001 := am (Kd.R_below (ro HO_1252001) hb); replace HO1273 := am (Kd.R_below (ro HO1273) hb); replace HO1278 := am (Kd.R_below (ro HO1278) hb); have BK1280 := am (hbox); have GW1280 := am (sz hg : w.heap.size ≤ gb1280); have GE1280 := am (sz hg : w.heap.size ≤ gb1280); replace HB := am (below_step bl hb); have NB1250_1280 := am (nl hg BK1250 : gb1250 ≠ gb1280); have NB1280_1250 := am (ng hg BK1250 : gb1280 ≠ gb1250); replace BK1250 := kb BK1250 hb; have NB1251_1280 := am (nl hg BK1251 : gb1251 ≠ gb1280); have NB1280_1251 := am (ng hg BK1251 : gb1280 ≠ gb1251); replace BK1251 := kb BK1251 hb; have NB1266_1280 := am (nl hg BK1266 : gb1266 ≠ gb1280); have NB1280_1266 := am (ng hg BK1266 : gb1280 ≠ gb1266); replace BK1266 := kb BK1266 hb; have NB1267_1280 := am (nl hg BK1267 : gb1267 ≠ gb1280); have NB1280_1267 := am (ng hg BK1267 : gb1280 ≠ gb1267); replace BK1267 := kb BK1267 hb; clear hb hbox hg) | (refine bx 9 #[.int .i64 0, .slice none 0 0, .string (⟨#[]⟩ : ByteArray)] 29 ?_; intro gb1281 hg w78 hbox hb; replace HO_1251002 := am (Kd.R_below (ro HO_1251002) hb); replace HO_1252001 := am (Kd.R_below (ro HO_1252001) hb); replace HO1273 := am (Kd.R_below (ro HO1273) hb); replace HO1278 := am (Kd.R_below (ro HO1278) hb); have BK1281 := am (hbox); have GW1281 := am (sz hg : w.heap.size ≤ gb1281); have GE1281 := am (sz hg : w.heap.size ≤ gb1281); replace HB := am (below_step bl hb); have NB1250_1281 := am (nl hg BK1250 : gb1250 ≠ gb1281); have NB1281_1250 := am (ng hg BK1250 : gb1281 ≠ gb1250); replace BK1250 := kb BK1250 hb; have NB1251_1281 := am (nl hg BK1251 : gb1251 ≠ gb1281); have NB1281_1251 := am (ng hg BK1251 : gb1281 ≠ gb1251); replace BK1251 := kb BK1251 hb; have NB1266_1281 := am (nl hg BK1266 : gb1266 ≠ gb1281); have NB1281_1266 := am (ng hg BK1266 : gb1281 ≠ gb1266); replace BK1266 := kb BK1266 hb; have NB1267_1281 := am (nl hg BK1267 : gb1267 ≠ gb1281); have NB1281_1267 := am (ng hg BK1267 : gb1281 ≠ gb1267); replace BK1267 := kb BK1267 hb; have NB1280_1281 := am (nl hg BK1280 : gb1280 ≠ gb1281); have NB1281_1280 := am (ng hg BK1280 : gb1281 ≠ gb1280); replace BK1280 := kb BK1280 hb; clear hb hbox hg; have hnb79 := NB1280_1250.out; have hnc79 := NB1250_1280.out; have hnb80 := NB1280_1251.out; have hnc80 := NB1251_1280.out; have hnb81 := NB1280_1266.out; have hnc81 := NB1266_1280.out; have hnb82 := NB1280_1267.out; have hnc82 := NB1267_1280.out; have hnb83 := NB1280_1281.out; have hnc83 := NB1281_1280.out; obtain ⟨z84_0, y84_0, z84_1, y84_1, z84_2, y84_2⟩ := cl3 BK1280; obtain ⟨Ao85, co85, eo85⟩ := Kd.R_slice HO1273.out; subst eo85; have hnb86 := NB1281_1250.out; have hnc86 := NB1250_1281.out; have hnb87 := NB1281_1251.out; have hnc87 := NB1251_1281.out; have hnb88 := NB1281_1266.out; have hnc88 := NB1266_1281.out; have hnb89 := NB1281_1267.out; have hnc89 := NB1267_1281.out; obtain ⟨z90_0, y90_0, z90_1, y90_1, z90_2, y90_2⟩ := cl3 BK1281; obtain ⟨Ao91, co91, eo91⟩ := Kd.R_slice HO1278.out; subst eo91) | (refine gl 77 Tryz.func34 #[.agg #[.int .i64 t1270, .slice Ao85 t1271.length co85, .string t1274], .agg #[.int .i64 t1275, .slice Ao91 t1276.length co91, .string t1279]] ?_; (with_reducible refine (impl_Merge.calls kj9 t1270 _ _ t1271 t1274 t1275 _ _ t1276 t1279 t1282 t1283 t1286 _ ?side1 ?side2 ?side3 ?side4 A66.out).mono ?_); (case side1 => refine (Kd.R_reads' (e := 116) (base := w.heap.size) (ok := fun k_ => ((some k_ ≠ (.slice Ao91 t1276.length co91 : Value).ownBlock ∧ some k_ ≠ (.slice Ao16 t1241.length co16 : Value).ownBlock) ∧ some k_ ≠ (.slice Ao18 t1246.length co18 : Value).ownBlock)) (n := t1271.length) (c := co85) ?_).2.2; exact (by (with_reducible repeat (first | apply Kd.R_alloc | apply Kd.R_drewN | apply Kd.R_drew)); exact (Kd.R_mono (rj (Kd.R_types (Kd.R_types HO1273.out BK1280.out (by decide)) BK1281.out (by decide)) (fun _ h_ => h_.1)) (fun _ h_ => h_.1)))); (case side2 => exact (Kd.R_reads' HO1273.out).2.1); (case side3 => refine (Kd.R_reads' (e := 116) (base := w.heap.size) (ok := fun k_ => ((some k_ ≠ (.slice Ao85 t1271.length co85 : Value).ownBlock ∧ some k_ ≠ (.slice Ao16 t1241.length co16 : Value).ownBlock) ∧ some k_ ≠ (.slice Ao18 t1246.length co18 : Value).ownBlock)) (n := t1276.length) (c := co91) ?_).2.2; exact (by (with_reducible repeat (first | apply Kd.R_alloc | apply Kd.R_drewN | apply Kd.R_drew)); exact (Kd.R_mono (rj (Kd.R_types (Kd.R_types HO1278.out BK1280.out (by decide)) BK1281.out (by decide)) (fun _ h_ => h_.1)) (fun _ h_ => h_.1)))); (case side4 => exact (Kd.R_reads' HO1278.out).2.1); rintro e w92 ⟨v1284, rfl, ho0, hb⟩; refine ⟨_, rfl, ?_⟩; have n0_ := am (Kd.R_elder' (by (with_reducible repeat (first | apply Kd.R_alloc | apply Kd.R_drewN | apply Kd.R_drew)); exact (Kd.R_mono (rj (Kd.R_types (Kd.R_types HO_1251002.out BK1280.out (by decide)) BK1281.out (by decide)) (fun _ h_ => h_.1)) (fun _ h_ => h_.1))) (Kd.R_base ho0) hb); have n1_ := am (Kd.R_elder' (by (with_reducible repeat (first | apply Kd.R_alloc | apply Kd.R_drewN | apply Kd.R_drew)); exact (Kd.R_mono (rj (Kd.R_types (Kd.R_types HO_1252001.out BK1280.out (by decide)) BK1281.out (by decide)) (fun _ h_ => h_.1)) (fun _ h_ => h_.1))) (Kd.R_base ho0) hb); have n2_ := am (Kd.R_elder' (by (with_reducible repeat (first | apply Kd.R_alloc | apply Kd.R_drewN | apply Kd.R_drew)); exact (Kd.R_mono (rj (Kd.R_types (Kd.R_types HO1273.out BK1280.out (by decide)) BK1281.out (by decide)) (fun _ h_ => h_.1)) (fun _ h_ => h_.1))) (Kd.R_base ho0) hb); have n3_ := am (Kd.R_elder' (by (with_reducible repeat (first | apply Kd.R_alloc | apply Kd.R_drewN | apply Kd.R_drew)); exact (Kd.R_mono (rj (Kd.R_types (Kd.R_types HO1278.out BK1280.out (by decide)) BK1281.out (by decide)) (fun _ h_ => h_.1)) (fun _ h_ => h_.1))) (Kd.R_base ho0) hb); have n4_ := am (Kd.R_lower (Kd.R_new' (Kd.R_new' (Kd.R_new' (Kd.R_new' ho0 (Kd.R_lt (by (with_reducible repeat (first | apply Kd.R_alloc | apply Kd.R_drewN | apply Kd.R_drew)); exact (Kd.R_mono (rj (Kd.R_types (Kd.R_types HO_1251002.out BK1280.out (by decide)) BK1281.out (by decide)) (fun _ h_ => h_.1)) (fun _ h_ => h_.1))))) (Kd.R_lt (by (with_reducible repeat (first | apply Kd.R_alloc | apply Kd.R_drewN | apply Kd.R_drew)); exact (Kd.R_mono (rj (Kd.R_types (Kd.R_types HO_1252001.out BK1280.out (by decide)) BK1281.out (by decide)) (fun _ h_ => h_.1)) (fun _ h_ => h_.1))))) (Kd.R_lt (by (with_reducible repeat (first | apply Kd.R_alloc | apply Kd.R_drewN | apply Kd.R_drew)); exact (Kd.R_mono (rj (Kd.R_types (Kd.R_types HO1273.out BK1280.out (by decide)) BK1281.out (by decide)) (fun _ h_ => h_.1)) (fun _ h_ => h_.1))))) (Kd.R_lt (by (with_reducible repeat (first | apply Kd.R_alloc | apply Kd.R_drewN | apply Kd.R_drew)); exact (Kd.R_mono (rj (Kd.R_types (Kd.R_types HO1278.out BK1280.out (by decide)) BK1281.out (by decide)) (fun _ h_ => h_.1)) (fun _ h_ => h_.1))))) (below_size bl)); have n5_ := kg2 BK1250 NB1250_1281 NB1250_1280 hb; have n6_ := kg2 BK1251 NB1251_1281 NB1251_1280 hb; have n7_ := kg2 BK1266 NB1266_1281 NB1266_1280 hb; have n8_ := kg2 BK1267 NB1267_1281 NB1267_1280 hb; have n9_ := am (blk_below (g := gb1280) (o := .cells #[.int .i64 t1270, .slice Ao85 t1271.length co85, .string t1274] 29 (0, 0)) (pt1 BK1280 NB1280_1281) hb); have n10_ := am (blk_below (g := gb1281) (o := .cells #[.int .i64 t1275, .slice Ao91 t1276.length co91, .string t1279] 29 (0, 0)) (pt1 BK1281 NB1281_1280) hb); have n11_ := am (below_step bl hb); clear HO_1251002; clear HO_1252001; clear HO1273; clear HO1278; clear BK1250; clear BK1251; clear BK1266; clear BK1267; clear BK1280; clear BK1281; clear HB; have HO_1251002 := n0_; have HO_1252001 := n1_; have HO1273 := n2_; have HO1278 := n3_; have HO1285 := n4_; have BK1250 := n5_; have BK1251 := n6_; have BK1266 := n7_; have BK1267 := n8_; have BK1280 := n9_; have BK1281 := n10_; have HB := n11_; clear n0_ n1_ n2_ n3_ n4_ n5_ n6_ n7_ n8_ n9_ n10_ n11_; clear hb ho0) | (refine bx 10 #[.int .i64 0, .slice none 0 0, .string (⟨#[]⟩ : ByteArray)] 29 ?_; intro gb1287 hg w93 hbox hb; replace HO_1251002 := am (Kd.R_below (ro HO_1251002) hb); replace HO_1252001 := am (Kd.R_below (ro HO_1252001) hb); replace HO1273 := am (Kd.R_below (ro HO1273) hb); replace HO1278 := am (Kd.R_below (ro HO1278) hb); replace HO1285 := am (Kd.R_below (ro HO1285) hb); have BK1287 := am (hbox); have GW1287 := am (sz hg : w.heap.size ≤ gb1287); have GE1287 := am (sz hg : w.heap.size ≤ gb1287); replace HB := am (below_step bl hb); have NB1250_1287 := am (nl hg BK1250 : gb1250 ≠ gb1287); have NB1287_1250 := am (ng hg BK1250 : gb1287 ≠ gb1250); replace BK1250 := kb BK1250 hb; have NB1251_1287 := am (nl hg BK1251 : gb1251 ≠ gb1287); have NB1287_1251 := am (ng hg BK1251 : gb1287 ≠ gb1251); replace BK1251 := kb BK1251 hb; have NB1266_1287 := am (nl hg BK1266 : gb1266 ≠ gb1287); have NB1287_1266 := am (ng hg BK1266 : gb1287 ≠ gb1266); replace BK1266 := kb BK1266 hb; have NB1267_1287 := am (nl hg BK1267 : gb1267 ≠ gb1287); have NB1287_1267 := am (ng hg BK1267 : gb1287 ≠ gb1267); replace BK1267 := kb BK1267 hb; have NB1280_1287 := am (nl hg BK1280 : gb1280 ≠ gb1287); have NB1287_1280 := am (ng hg BK1280 : gb1287 ≠ gb1280); replace BK1280 := kb BK1280 hb; have NB1281_1287 := am (nl hg BK1281 : gb1281 ≠ gb1287); have NB1287_1281 := am (ng hg BK1281 : gb1287 ≠ gb1281); replace BK1281 := kb BK1281 hb; clear hb hbox hg; have hnb94 := NB1287_1250.out; have hnc94 := NB1250_1287.out; have hnb95 := NB1287_1251.out; have hnc95 := NB1251_1287.out; have hnb96 := NB1287_1266.out; have hnc96 := NB1266_1287.out; have hnb97 := NB1287_1267.out; have hnc97 := NB1267_1287.out; have hnb98 := NB1287_1280.out; have hnc98 := NB1280_1287.out; have hnb99 := NB1287_1281.out; have hnc99 := NB1281_1287.out; obtain ⟨z100_0, y100_0, z100_1, y100_1, z100_2, y100_2⟩ := cl3 BK1287; obtain ⟨Ao101, co101, eo101⟩ := Kd.R_slice HO1285.out; subst eo101))
   have n0_ : Aside0 (Kd.R k116 116 (((w93.setCell ⟨gb1287, 0, none⟩ (.int .i64 t1282)).setCell ⟨gb1287, 1, none⟩ (.slice Ao101 t1283.length co101)).setCell ⟨gb1287, 2, none⟩ (.string t1286)) w.heap.size (fun k_ => some k_ ≠ (.slice Ao18 t1246.length co18 : Value).ownBlock ∧ some k_ ≠ (.slice Ao85 t1271.length co85 : Value).ownBlock ∧ some k_ ≠ (.slice Ao91 t1276.length co91 : Value).ownBlock ∧ some k_ ≠ (.slice Ao101 t1283.length co101 : Value).ownBlock) (.slice Ao16 t1241.length co16) t1241) := ⟨rj (Kd.R_types HO_1251002.out BK1287.out (by decide)) (fun _ hk => ⟨hk.1.1.1.1, ⟨hk.1.1.1.2, ⟨hk.1.1.2, hk.1.2⟩⟩⟩)⟩
   have n1_ : Aside0 (Kd.R k116 116 (((w93.setCell ⟨gb1287, 0, none⟩ (.int .i64 t1282)).setCell ⟨gb1287, 1, none⟩ (.slice Ao101 t1283.length co101)).setCell ⟨gb1287, 2, none⟩ (.string t1286)) w.heap.size (fun k_ => some k_ ≠ (.slice Ao16 t1241.length co16 : Value).ownBlock ∧ some k_ ≠ (.slice Ao85 t1271.length co85 : Value).ownBlock ∧ some k_ ≠ (.slice Ao91 t1276.length co91 : Value).ownBlock ∧ some k_ ≠ (.slice Ao101 t1283.length co101 : Value).ownBlock) (.slice Ao18 t1246.length co18) t1246) := ⟨rj (Kd.R_types HO_1252001.out BK1287.out (by decide)) (fun _ hk => ⟨hk.1.1.1.1, ⟨hk.1.1.1.2, ⟨hk.1.1.2, hk.1.2⟩⟩⟩)⟩
   have n2_ : Aside0 (Kd.R k116 116 (((w93.setCell ⟨gb1287, 0, none⟩ (.int .i64 t1282)).setCell ⟨gb1287, 1, none⟩ (.slice Ao101 t1283.length co101)).setCell ⟨gb1287, 2, none⟩ (.string t1286)) w.heap.size (fun k_ => some k_ ≠ (.slice Ao16 t1241.length co16 : Value).ownBlock ∧ some k_ ≠ (.slice Ao18 t1246.length co18 : Value).ownBlock ∧ some k_ ≠ (.slice Ao91 t1276.length co91 : Value).ownBlock ∧ some k_ ≠ (.slice Ao101 t1283.length co101 : Value).ownBlock) (.slice Ao85 t1271.length co85) t1271) := ⟨rj (Kd.R_types HO1273.out BK1287.out (by decide)) (fun _ hk => ⟨hk.1.1.1.2, ⟨hk.1.1.2, ⟨hk.1.1.1.1, hk.1.2⟩⟩⟩)⟩
   have n3_ : Aside0 (Kd.R k116 116 (((w93.setCell ⟨gb1287, 0, none⟩ (.int .i64 t1282)).setCell ⟨gb1287, 1, none⟩ (.slice Ao101 t1283.length co101)).setCell ⟨gb1287, 2, none⟩ (.string t1286)) w.heap.size (fun k_ => some k_ ≠ (.slice Ao16 t1241.length co16 : Value).ownBlock ∧ some k_ ≠ (.slice Ao18 t1246.length co18 : Value).ownBlock ∧ some k_ ≠ (.slice Ao85 t1271.length co85 : Value).ownBlock ∧ some k_ ≠ (.slice Ao101 t1283.length co101 : Value).ownBlock) (.slice Ao91 t1276.length co91) t1276) := ⟨rj (Kd.R_types HO1278.out BK1287.out (by decide)) (fun _ hk => ⟨hk.1.1.1.2, ⟨hk.1.1.2, ⟨hk.1.1.1.1, hk.1.2⟩⟩⟩)⟩
   have n4_ : Aside0 (Kd.R k116 116 (((w93.setCell ⟨gb1287, 0, none⟩ (.int .i64 t1282)).setCell ⟨gb1287, 1, none⟩ (.slice Ao101 t1283.length co101)).setCell ⟨gb1287, 2, none⟩ (.string t1286)) w.heap.size (fun k_ => some k_ ≠ (.slice Ao16 t1241.length co16 : Value).ownBlock ∧ some k_ ≠ (.slice Ao18 t1246.length co18 : Value).ownBlock ∧ some k_ ≠ (.slice Ao85 t1271.length co85 : Value).ownBlock ∧ some k_ ≠ (.slice Ao91 t1276.length co91 : Value).ownBlock) (.slice Ao101 t1283.length co101) t1283) := ⟨rj (Kd.R_types HO1285.out BK1287.out (by decide)) (fun _ hk => ⟨hk.1.1.1.1.2, ⟨hk.1.1.1.2, ⟨hk.1.1.2, hk.1.2⟩⟩⟩)⟩
   have n5_ : Aside0 ((((w93.setCell ⟨gb1287, 0, none⟩ (.int .i64 t1282)).setCell ⟨gb1287, 1, none⟩ (.slice Ao101 t1283.length co101)).setCell ⟨gb1287, 2, none⟩ (.string t1286)).heap[gb1250]? = some (.cells #[.int .i64 t1239, .string t1240, .slice Ao16 t1241.length co16, .string t1244] 50 (0, 0))) := ⟨by (with_reducible repeat (first | refine blk_drewN ?_ _ | refine blk_drew ?_ | refine blk_alloc ?_ _)); refine blk_far ?_ NB1250_1287.out _; (with_reducible repeat (first | refine blk_drewN ?_ _ | refine blk_drew ?_ | refine blk_alloc ?_ _)); refine blk_far ?_ NB1250_1287.out _; (with_reducible repeat (first | refine blk_drewN ?_ _ | refine blk_drew ?_ | refine blk_alloc ?_ _)); refine blk_far ?_ NB1250_1287.out _; (with_reducible repeat (first | refine blk_drewN ?_ _ | refine blk_drew ?_ | refine blk_alloc ?_ _)); exact BK1250.out⟩
   have n6_ : Aside0 ((((w93.setCell ⟨gb1287, 0, none⟩ (.int .i64 t1282)).setCell ⟨gb1287, 1, none⟩ (.slice Ao101 t1283.length co101)).setCell ⟨gb1287, 2, none⟩ (.string t1286)).heap[gb1251]? = some (.cells #[.int .i64 t1245, .slice Ao18 t1246.length co18, .string t1249] 29 (0, 0))) := ⟨by (with_reducible repeat (first | refine blk_drewN ?_ _ | refine blk_drew ?_ | refine blk_alloc ?_ _)); refine blk_far ?_ NB1251_1287.out _; (with_reducible repeat (first | refine blk_drewN ?_ _ | refine blk_drew ?_ | refine blk_alloc ?_ _)); refine blk_far ?_ NB1251_1287.out _; (with_reducible repeat (first | refine blk_drewN ?_ _ | refine blk_drew ?_ | refine blk_alloc ?_ _)); refine blk_far ?_ NB1251_1287.out _; (with_reducible repeat (first | refine blk_drewN ?_ _ | refine blk_drew ?_ | refine blk_alloc ?_ _)); exact BK1251.out⟩
   have n7_ : Aside0 ((((w93.setCell ⟨gb1287, 0, none⟩ (.int .i64 t1282)).setCell ⟨gb1287, 1, none⟩ (.slice Ao101 t1283.length co101)).setCell ⟨gb1287, 2, none⟩ (.string t1286)).heap[gb1266]? = some (.cells #[.bool t1254, .bool t1255, .bool t1256, .bool t1257, .bool t1258, .int .i64 t1259] 42 (0, 0))) := ⟨by (with_reducible repeat (first | refine blk_drewN ?_ _ | refine blk_drew ?_ | refine blk_alloc ?_ _)); refine blk_far ?_ NB1266_1287.out _; (with_reducible repeat (first | refine blk_drewN ?_ _ | refine blk_drew ?_ | refine blk_alloc ?_ _)); refine blk_far ?_ NB1266_1287.out _; (with_reducible repeat (first | refine blk_drewN ?_ _ | refine blk_drew ?_ | refine blk_alloc ?_ _)); refine blk_far ?_ NB1266_1287.out _; (with_reducible repeat (first | refine blk_drewN ?_ _ | refine blk_drew ?_ | refine blk_alloc ?_ _)); exact BK1266.out⟩
   have n8_ : Aside0 ((((w93.setCell ⟨gb1287, 0, none⟩ (.int .i64 t1282)).setCell ⟨gb1287, 1, none⟩ (.slice Ao101 t1283.length co101)).setCell ⟨gb1287, 2, none⟩ (.string t1286)).heap[gb1267]? = some (.cells #[.bool t1260, .bool t1261, .bool t1262, .bool t1263, .bool t1264, .int .i64 t1265] 42 (0, 0))) := ⟨by (with_reducible repeat (first | refine blk_drewN ?_ _ | refine blk_drew ?_ | refine blk_alloc ?_ _)); refine blk_far ?_ NB1267_1287.out _; (with_reducible repeat (first | refine blk_drewN ?_ _ | refine blk_drew ?_ | refine blk_alloc ?_ _)); refine blk_far ?_ NB1267_1287.out _; (with_reducible repeat (first | refine blk_drewN ?_ _ | refine blk_drew ?_ | refine blk_alloc ?_ _)); refine blk_far ?_ NB1267_1287.out _; (with_reducible repeat (first | refine blk_drewN ?_ _ | refine blk_drew ?_ | refine blk_alloc ?_ _)); exact BK1267.out⟩
   have n9_ : Aside0 ((((w93.setCell ⟨gb1287, 0, none⟩ (.int .i64 t1282)).setCell ⟨gb1287, 1, none⟩ (.slice Ao101 t1283.length co101)).setCell ⟨gb1287, 2, none⟩ (.string t1286)).heap[gb1280]? = some (.cells #[.int .i64 t1270, .slice Ao85 t1271.length co85, .string t1274] 29 (0, 0))) := ⟨by (with_reducible repeat (first | refine blk_drewN ?_ _ | refine blk_drew ?_ | refine blk_alloc ?_ _)); refine blk_far ?_ NB1280_1287.out _; (with_reducible repeat (first | refine blk_drewN ?_ _ | refine blk_drew ?_ | refine blk_alloc ?_ _)); refine blk_far ?_ NB1280_1287.out _; (with_reducible repeat (first | refine blk_drewN ?_ _ | refine blk_drew ?_ | refine blk_alloc ?_ _)); refine blk_far ?_ NB1280_1287.out _; (with_reducible repeat (first | refine blk_drewN ?_ _ | refine blk_drew ?_ | refine blk_alloc ?_ _)); exact BK1280.out⟩
   have n10_ : Aside0 ((((w93.setCell ⟨gb1287, 0, none⟩ (.int .i64 t1282)).setCell ⟨gb1287, 1, none⟩ (.slice Ao101 t1283.length co101)).setCell ⟨gb1287, 2, none⟩ (.string t1286)).heap[gb1281]? = some (.cells #[.int .i64 t1275, .slice Ao91 t1276.length co91, .string t1279] 29 (0, 0))) := ⟨by (with_reducible repeat (first | refine blk_drewN ?_ _ | refine blk_drew ?_ | refine blk_alloc ?_ _)); refine blk_far ?_ NB1281_1287.out _; (with_reducible repeat (first | refine blk_drewN ?_ _ | refine blk_drew ?_ | refine blk_alloc ?_ _)); refine blk_far ?_ NB1281_1287.out _; (with_reducible repeat (first | refine blk_drewN ?_ _ | refine blk_drew ?_ | refine blk_alloc ?_ _)); refine blk_far ?_ NB1281_1287.out _; (with_reducible repeat (first | refine blk_drewN ?_ _ | refine blk_drew ?_ | refine blk_alloc ?_ _)); exact BK1281.out⟩
   have n11_ : Aside0 ((((w93.setCell ⟨gb1287, 0, none⟩ (.int .i64 t1282)).setCell ⟨gb1287, 1, none⟩ (.slice Ao101 t1283.length co101)).setCell ⟨gb1287, 2, none⟩ (.string t1286)).heap[gb1287]? = some (.cells #[.int .i64 t1282, .slice Ao101 t1283.length co101, .string t1286] 29 (0, 0))) := ⟨pt0 BK1287⟩
   have n12_ : Aside0 (Below w.heap.size w (((w93.setCell ⟨gb1287, 0, none⟩ (.int .i64 t1282)).setCell ⟨gb1287, 1, none⟩ (.slice Ao101 t1283.length co101)).setCell ⟨gb1287, 2, none⟩ (.string t1286))) := ⟨u5HB⟩
   (try clear HO_1251002)
   (try clear HO_1252001)
   (try clear HO1273)
   (try clear HO1278)
   (try clear HO1285)
   (try clear BK1250)
   (try clear BK1251)
   (try clear BK1266)
   (try clear BK1267)
   (try clear BK1280)
   (try clear BK1281)
   (try clear BK1287)
   (try clear HB)
   generalize (((w93.setCell ⟨gb1287, 0, none⟩ (.int .i64 t1282)).setCell ⟨gb1287, 1, none⟩ (.slice Ao101 t1283.length co101)).setCell ⟨gb1287, 2, none⟩ (.string t1286)) = w102 at n0_ n1_ n2_ n3_ n4_ n5_ n6_ n7_ n8_ n9_ n10_ n11_ n12_ ⊢
   have HO_1251002 := n0_
   have HO_1252001 := n1_
   have HO1273 := n2_
   have HO1278 := n3_
   have HO1285 := n4_
   have BK1250 := n5_
   have BK1251 := n6_
   have BK1266 := n7_
   have BK1267 := n8_
   have BK1280 := n9_
   have BK1281 := n10_
   have BK1287 := n11_
   have HB := n12_
   clear n0_ n1_ n2_ n3_ n4_ n5_ n6_ n7_ n8_ n9_ n10_ n11_ n12_
   replace HO_1251002 := am (Kd.R_drew HO_1251002.out)
   replace HO_1252001 := am (Kd.R_drew HO_1252001.out)
   replace HO1273 := am (Kd.R_drew HO1273.out)
   replace HO1278 := am (Kd.R_drew HO1278.out)
   replace HO1285 := am (Kd.R_drew HO1285.out)
   replace BK1250 := am (blk_drew BK1250.out)
   replace BK1251 := am (blk_drew BK1251.out)
   replace BK1266 := am (blk_drew BK1266.out)
   replace BK1267 := am (blk_drew BK1267.out)
   replace BK1280 := am (blk_drew BK1280.out)
   replace BK1281 := am (blk_drew BK1281.out)
   replace BK1287 := am (blk_drew BK1287.out)
   replace HB := am (below_drew1 HB.out)
   refine start_ (n := 31) (S := fun w' => w'.cell? ⟨gb1287, 0, none⟩ = some (.int .i64 t1282) ∧ w'.cell? ⟨gb1287, 1, none⟩ = some (.slice Ao101 t1283.length co101) ∧ w'.cell? ⟨gb1287, 2, none⟩ = some (.string t1286) ∧ w'.cell? ⟨gb1280, 0, none⟩ = some (.int .i64 t1270) ∧ w'.cell? ⟨gb1280, 1, none⟩ = some (.slice Ao85 t1271.length co85) ∧ w'.cell? ⟨gb1280, 2, none⟩ = some (.string t1274) ∧ w'.cell? ⟨gb1281, 0, none⟩ = some (.int .i64 t1275) ∧ w'.cell? ⟨gb1281, 1, none⟩ = some (.slice Ao91 t1276.length co91) ∧ w'.cell? ⟨gb1281, 2, none⟩ = some (.string t1279)) (ds := []) ⟨br true [0, 31]⟩ (by kernel_rfl) rfl (by kernel_rfl) ⟨bc BK1287, bc BK1287, bc BK1287, bc BK1280, bc BK1280, bc BK1280, bc BK1281, bc BK1281, bc BK1281⟩ (fun hHeld => ?_); refine with_tabW laws_FnMayKeep.tab12 laws_FnMayKeep.bits12 (fun HT_ HW_ => ?_)
   generalize w102.drew = w103 at HO_1251002 HO_1252001 HO1273 HO1278 HO1285 BK1250 BK1251 BK1266 BK1267 BK1280 BK1281 BK1287 HB hHeld ⊢
   refine tk 0 78 [1, 30] ?_
   refine tk 2 80 [1, 1, 1, 28] ?_
   refine tk 3 81 [1, 1, 2, 27] ?_
   refine og 1 79 [4, 27] Tryz.func35 #[.agg #[.int .i64 t1282, .slice Ao101 t1283.length co101, .string t1286]] (fun K hK => ?_)
   with_reducible refine (impl_RespText.calls kj9 t1282 _ _ t1283 t1286 t1288 _ ?side1 ?side2 ?side3 A67.out).mono ?_
   (case side1 => exact GLOBT.below HGT.out bl)
   (case side2 => exact rc HO1285)
   (case side3 => exact (Kd.R_reads' HO1285.out).2.1)
   rintro e w104 ⟨rfl, hb⟩
   refine ⟨_, rfl, ?_⟩
   replace HO_1251002 := kr HO_1251002 hb
   replace HO_1252001 := kr HO_1252001 hb
   replace HO1273 := kr HO1273 hb
   replace HO1278 := kr HO1278 hb
   replace HO1285 := kr HO1285 hb
   replace BK1250 := kb BK1250 hb
   replace BK1251 := kb BK1251 hb
   replace BK1266 := kb BK1266 hb
   replace BK1267 := kb BK1267 hb
   replace BK1280 := kb BK1280 hb
   replace BK1281 := kb BK1281 hb
   replace BK1287 := kb BK1287 hb
   replace HB := am (below_step bl hb)
   clear hb
   refine hK.out _ _ ⟨bc BK1287, bc BK1287, bc BK1287, bc BK1280, bc BK1280, bc BK1280, bc BK1281, bc BK1281, bc BK1281⟩ (fun hHeld => ?_)
   clear hK K
   refine nm 79 ?_
   refine og 4 82 [5, 26] Tryz.func36 #[.agg #[.int .i64 t1270, .slice Ao85 t1271.length co85, .string t1274], .agg #[.int .i64 t1275, .slice Ao91 t1276.length co91, .string t1279]] (fun K hK => ?_)
   with_reducible refine (spec_Merge.calls kj9 t1270 _ _ t1271 t1274 t1275 _ _ t1276 t1279 t1289 t1290 t1293 _ ?side1 ?side2 ?side3 ?side4 A68.out).mono ?_
   (case side1 => exact rc HO1273)
   (case side2 => exact (Kd.R_reads' HO1273.out).2.1)
   (case side3 => exact rc HO1278)
   (case side4 => exact (Kd.R_reads' HO1278.out).2.1)
   rintro e w105 ⟨v1291, rfl, ho0, hb⟩
   refine ⟨_, rfl, ?_⟩
   have HO1292 := am (Kd.R_lower (Kd.R_new' (Kd.R_new' (Kd.R_new' (Kd.R_new' (Kd.R_new' ho0 (Kd.R_lt (ro HO_1251002))) (Kd.R_lt (ro HO_1252001))) (Kd.R_lt (ro HO1273))) (Kd.R_lt (ro HO1278))) (Kd.R_lt (ro HO1285))) (below_size bl))
   replace HO_1251002 := am (Kd.R_elder' (ro HO_1251002) (Kd.R_base ho0) hb)
   replace HO_1252001 := am (Kd.R_elder' (ro HO_1252001) (Kd.R_base ho0) hb)
   replace HO1273 := am (Kd.R_elder' (ro HO1273) (Kd.R_base ho0) hb)
   replace HO1278 := am (Kd.R_elder' (ro HO1278) (Kd.R_base ho0) hb)
   replace HO1285 := am (Kd.R_elder' (ro HO1285) (Kd.R_base ho0) hb)
   replace BK1250 := kb BK1250 hb
   replace BK1251 := kb BK1251 hb
   replace BK1266 := kb BK1266 hb
   replace BK1267 := kb BK1267 hb
   replace BK1280 := kb BK1280 hb
   replace BK1281 := kb BK1281 hb
   replace BK1287 := kb BK1287 hb
   replace HB := am (below_step bl hb)
   clear hb ho0
   obtain ⟨Ao106, co106, eo106⟩ := Kd.R_slice HO1292.out
   (first | subst eo106 | (injection eo106 with f1_ f2_ f3_; have f4_ := f1_.symm; have f5_ := f3_.symm; clear f1_ f2_ f3_; subst f4_; subst f5_))
   refine hK.out _ _ ⟨bc BK1287, bc BK1287, bc BK1287, bc BK1280, bc BK1280, bc BK1280, bc BK1281, bc BK1281, bc BK1281⟩ (fun hHeld => ?_)
   clear hK K
   refine nm 82 ?_
   refine og 5 83 [6, 25] Tryz.func35 #[.agg #[.int .i64 t1289, .slice Ao106 t1290.length co106, .string t1293]] (fun K hK => ?_)
   with_reducible refine (impl_RespText.calls kj9 t1289 _ _ t1290 t1293 t1294 _ ?side1 ?side2 ?side3 A69.out).mono ?_
   (case side1 => exact GLOBT.below HGT.out bl)
   (case side2 => exact rc HO1292)
   (case side3 => exact (Kd.R_reads' HO1292.out).2.1)
   rintro e w107 ⟨rfl, hb⟩
   refine ⟨_, rfl, ?_⟩
   replace HO_1251002 := kr HO_1251002 hb
   replace HO_1252001 := kr HO_1252001 hb
   replace HO1273 := kr HO1273 hb
   replace HO1278 := kr HO1278 hb
   replace HO1285 := kr HO1285 hb
   replace HO1292 := kr HO1292 hb
   replace BK1250 := kb BK1250 hb
   replace BK1251 := kb BK1251 hb
   replace BK1266 := kb BK1266 hb
   replace BK1267 := kb BK1267 hb
   replace BK1280 := kb BK1280 hb
   replace BK1281 := kb BK1281 hb
   replace BK1287 := kb BK1287 hb
   replace HB := am (below_step bl hb)
   clear hb
   refine hK.out _ _ ⟨bc BK1287, bc BK1287, bc BK1287, bc BK1280, bc BK1280, bc BK1280, bc BK1281, bc BK1281, bc BK1281⟩ (fun hHeld => ?_)
   clear hK K
   refine nm 83 ?_
   refine pu 6 84 [7, 24] ?_
   refine pu 7 85 [8, 23] ?_
   refine pu 8 86 [9, 22] ?_
   refine pu 10 88 [9, 1, 1, 20] ?_
   refine tk 9 87 [11, 20] ?_
   refine tk 11 89 [12, 19] ?_
   refine pu 12 90 [13, 18] ?_
   refine pu 13 91 [14, 17] ?_
   refine pu 14 92 [15, 16] ?_
   refine pu 15 93 [16, 15] ?_
   refine pu 17 95 [16, 1, 1, 13] ?_
   refine tk 16 94 [18, 13] ?_
   refine tk 18 96 [19, 12] ?_
   refine pu 19 97 [20, 11] ?_
   refine pu 20 98 [21, 10] ?_
   refine pu 21 99 [22, 9] ?_
   refine tk 22 100 [23, 8] ?_
   refine og 23 101 [24, 7] Tryz.func32 #[.agg #[.int .i64 t1270, .slice Ao85 t1271.length co85, .string t1274]] (fun K hK => ?_)
   with_reducible refine (impl_RespOk.calls kj9 t1270 _ _ t1271 t1274 true _ ?side1 ?side2 A73.out).mono ?_
   (case side1 => exact rc HO1273)
   (case side2 => exact (Kd.R_reads' HO1273.out).2.1)
   rintro e w108 ⟨rfl, hb⟩
   refine ⟨_, rfl, ?_⟩
   replace HO_1251002 := kr HO_1251002 hb
   replace HO_1252001 := kr HO_1252001 hb
   replace HO1273 := kr HO1273 hb
   replace HO1278 := kr HO1278 hb
   replace HO1285 := kr HO1285 hb
   replace HO1292 := kr HO1292 hb
   replace BK1250 := kb BK1250 hb
   replace BK1251 := kb BK1251 hb
   replace BK1266 := kb BK1266 hb
   replace BK1267 := kb BK1267 hb
   replace BK1280 := kb BK1280 hb
   replace BK1281 := kb BK1281 hb
   replace BK1287 := kb BK1287 hb
   replace HB := am (below_step bl hb)
   clear hb
   refine hK.out _ _ ⟨bc BK1287, bc BK1287, bc BK1287, bc BK1280, bc BK1280, bc BK1280, bc BK1281, bc BK1281, bc BK1281⟩ (fun hHeld => ?_)
   clear hK K
   refine nm 101 ?_
   refine pu 24 102 [25, 6] ?_
   refine pu 25 103 [26, 5] ?_
   refine tk 26 104 [27, 4] ?_
   refine og 27 105 [28, 3] Tryz.func32 #[.agg #[.int .i64 t1282, .slice Ao101 t1283.length co101, .string t1286]] (fun K hK => ?_)
   with_reducible refine (impl_RespOk.calls kj9 t1282 _ _ t1283 t1286 t1296 _ ?side1 ?side2 A75.out).mono ?_
   (case side1 => exact rc HO1285)
   (case side2 => exact (Kd.R_reads' HO1285.out).2.1)
   rintro e w109 ⟨rfl, hb⟩
   refine ⟨_, rfl, ?_⟩
   replace HO_1251002 := kr HO_1251002 hb
   replace HO_1252001 := kr HO_1252001 hb
   replace HO1273 := kr HO1273 hb
   replace HO1278 := kr HO1278 hb
   replace HO1285 := kr HO1285 hb
   replace HO1292 := kr HO1292 hb
   replace BK1250 := kb BK1250 hb
   replace BK1251 := kb BK1251 hb
   replace BK1266 := kb BK1266 hb
   replace BK1267 := kb BK1267 hb
   replace BK1280 := kb BK1280 hb
   replace BK1281 := kb BK1281 hb
   replace BK1287 := kb BK1287 hb
   replace HB := am (below_step bl hb)
   clear hb
   refine hK.out _ _ ⟨bc BK1287, bc BK1287, bc BK1287, bc BK1280, bc BK1280, bc BK1280, bc BK1281, bc BK1281, bc BK1281⟩ (fun hHeld => ?_)
   clear hK K
   refine nm 105 ?_
   refine pu 28 106 [29, 2] ?_
   refine pu 29 107 [30, 1] ?_
   refine pu 30 2 [31] ?_
   refine done_ (done_of HT_.out (by kernel_rfl)) ?_
   try go_wp2
   go_ret
   exact ⟨rf, bl⟩

end Go.Proofs.YtjlpjbkpmmpojaaGreatDoor.All
