-- Written by a program of this session (wip/tools/hprint.py) out of the translation. Lean checks it.
import Derived.Test.YtjlpjbkpmmpojaaGreatDoorAllx0
import Derived.Test.YtjlpjbkpmmpojaaGreatDoorAllx2
import Derived.Test.YtjlpjbkpmmpojaaGreatDoorAllx6
import Derived.Test.YtjlpjbkpmmpojaaGreatDoorAllx20
import Derived.Test.YtjlpjbkpmmpojaaGreatDoorAllx21
import Derived.Test.YtjlpjbkpmmpojaaGreatDoorAllx22
namespace Go.Proofs.YtjlpjbkpmmpojaaGreatDoor.All
open Go.RowKit Go.Proofs.YtjlpjbkpmmpojaaGreatDoorW.PrintWords Go.Proofs.YtjlpjbkpmmpojaaGreatDoorW.PrintLast Go.Proofs.YtjlpjbkpmmpojaaGreatDoorW.PrintMore
attribute [local go_sem] max2_int min2_int max_two min_two max_three min_three max_four min_four   -- for this text's walks alone
set_option linter.unusedVariables false
set_option linter.unusedSimpArgs false

/-! ### laws_FnControl: function 4 -/
attribute [local go_sem high] ccf0 ccf1 ccf2 ccf3 ccf4 ccf5
theorem u4HB {p : Prop} (h : p := by repeat (first | (with_reducible first | exact HB.out | apply below_alloc | apply pw_below_drewN | apply below_drew1 | refine below_set ?_ GE1020.out | refine below_set ?_ GE1029.out) | exact HB.out)) : p := h
attribute [local go_sem high] eqA42
def laws_FnControl.j0 : Nat → List Int → Bool → Option (Bool)
 | 0, _, _ => none
 | k + 1, x0, x37 => if x37 = true then (some false) else ((spec_DrawCcRead.f k x0).bind fun t1030 => ((impl_CcRead.f k t1030).bind fun bt1031 => ((spec_DrawCcOf.f k x0).bind fun t1038 => ((spec_CcRead.f k t1030).bind fun bt1041 => (if (!(bt1031.1 == bt1041.1) || (!(bt1031.2.1 == bt1041.2.1) || (!(bt1031.2.2.1 == bt1041.2.2.1) || (!(bt1031.2.2.2.1 == bt1041.2.2.2.1) || (!(bt1031.2.2.2.2.1 == bt1041.2.2.2.2.1) || (!(bt1031.2.2.2.2.2 == bt1041.2.2.2.2.2))))))) = true then (some false) else ((impl_CcOf.f k t1038).bind fun bt1047 => ((spec_CcOf.f k t1038).bind fun bt1053 => (if (!(bt1047.1 == bt1053.1) || (!(bt1047.2.1 == bt1053.2.1) || (!(bt1047.2.2.1 == bt1053.2.2.1) || (!(bt1047.2.2.2.1 == bt1053.2.2.2.1) || (!(bt1047.2.2.2.2.1 == bt1053.2.2.2.2.1) || (!(bt1047.2.2.2.2.2 == bt1053.2.2.2.2.2))))))) = true then (some false) else (if t1030.size + 11 ≤ 9223372036854775807 then ((impl_CcRead.f k (t1030 ++ (⟨#[44, 32, 109, 97, 120, 45, 97, 103, 101, 61, 51]⟩ : ByteArray))).bind fun bt1059 => (if bt1059.2.2.2.2.1 = true then (if bt1059.2.2.2.2.2 ≤ 3 then (if bt1031.2.2.2.2.1 = true then (if bt1059.2.2.2.2.2 ≤ bt1031.2.2.2.2.2 then (some (bt1059.1 == bt1031.1)) else (some false)) else (some (bt1059.1 == bt1031.1))) else (some false)) else (some false))) else (none))))))))))
def laws_FnControl.f (k : Nat) (l0 : List Int) : Option (Bool) := (laws_big.f l0).bind fun t1013 => (if t1013 = true then (some true) else ((spec_DrawCcText.f k l0).bind fun bt1014 => ((impl_CcText.f bt1014.1 bt1014.2.1 bt1014.2.2.1 bt1014.2.2.2.1 bt1014.2.2.2.2.1 bt1014.2.2.2.2.2).bind fun t1021 => ((spec_CcText.f k bt1014.1 bt1014.2.1 bt1014.2.2.1 bt1014.2.2.2.1 bt1014.2.2.2.2.1 bt1014.2.2.2.2.2).bind fun t1022 => (if t1021.toList = t1022.toList then ((impl_CcRead.f k t1021).bind fun bt1023 => (if t1021.toList = ([] : List UInt8) then (laws_FnControl.j0 k l0 false) else (if (!(bt1023.1 == bt1014.1) || (!(bt1023.2.1 == bt1014.2.1) || (!(bt1023.2.2.1 == bt1014.2.2.1) || (!(bt1023.2.2.2.1 == bt1014.2.2.2.1) || (!(bt1023.2.2.2.2.1 == bt1014.2.2.2.2.1) || (!(bt1023.2.2.2.2.2 == bt1014.2.2.2.2.2))))))) = true then (if bt1014.2.2.2.2.1 = true then (laws_FnControl.j0 k l0 true) else (laws_FnControl.j0 k l0 (bt1014.2.2.2.2.2 == 0))) else (laws_FnControl.j0 k l0 false)))) else (some false))))))
theorem laws_FnControl.mono_l : ∀ k, (∀ y0 y1, LeO (laws_FnControl.j0 k y0 y1) (laws_FnControl.j0 (k + 1) y0 y1))
 | 0 => fun _ _ r h => by simp [laws_FnControl.j0] at h
 | k + 1 => by
  have ih0 := laws_FnControl.mono_l k
  ·intro y0 y1
   unfold laws_FnControl.j0
   have m0 := @impl_CcOf.mono
   have m1 := @impl_CcRead.mono
   have m2 := @spec_CcOf.mono
   have m3 := @spec_CcRead.mono
   have m4 := @spec_CcText.mono
   have m5 := @spec_DrawCcOf.mono
   have m6 := @spec_DrawCcRead.mono
   have m7 := @spec_DrawCcText.mono
   exact mo
theorem laws_FnControl.mono : ∀ a0 k, LeO (laws_FnControl.f k a0) (laws_FnControl.f (k + 1) a0) := by
 intro a0 k
 have ih0 := laws_FnControl.mono_l k
 unfold laws_FnControl.f
 have m0 := @impl_CcOf.mono
 have m1 := @impl_CcRead.mono
 have m2 := @spec_CcOf.mono
 have m3 := @spec_CcRead.mono
 have m4 := @spec_CcText.mono
 have m5 := @spec_DrawCcOf.mono
 have m6 := @spec_DrawCcRead.mono
 have m7 := @spec_DrawCcText.mono
 exact mo
def laws_FnControl.T13 : Bool × List (List Nat × List Nat) := (true, [([], []), ([], []), ([1], [1]), ([0, 2], [0, 2]), ([3, 2], [3]), ([4], [4]), ([5, 4, 4], [4, 5]), ([4], [4]), ([7, 6, 4], [4, 7]), ([6, 8, 4], [4, 6, 8]), ([4, 9], [4, 9])])
def laws_FnControl.B13 : List Nat := [0, 0, 2, 7, 15, 31, 63, 31, 255, 511, 1023]
theorem laws_FnControl.tab13 : rtab .any (opsOf Tryz.f4 13) = laws_FnControl.T13 := by kernel_rfl
theorem laws_FnControl.bits13 : waitsOk laws_FnControl.T13.2 laws_FnControl.B13 = true := by kernel_rfl
set_option maxHeartbeats 8000000 in
set_option maxRecDepth 100000 in
theorem laws_FnControl.calls (k : Nat) (A0 : Option Addr) (c0 : Nat) (l0 : List Int) (r : Bool) (w : World) (hGE : GLOBE w) (hGM : GLOBM w) (hGT : GLOBT w) (hr0 : Kd.C (Kd.int .u8) w A0 l0.length l0) (hc0 : l0.length ≤ c0) (ht_ : r = true) (h : laws_FnControl.f k l0 = some r) :
  Calls Tryz.prog 4 #[.slice A0 l0.length c0] w fun e w' => e = .returned (.bool r) ∧ Below w.heap.size w w' := by
 have hu42 := Tryz.underlying42
 have HR0 := am hr0
 have HC0 := am hc0
 clear hr0 hc0
 have HGE := am hGE
 clear hGE
 have HGM := am hGM
 clear hGM
 have HGT := am hGT
 clear hGT
 have HB := am (Below.refl w.heap.size w)
 unfold laws_FnControl.f at h
 have H := h
 clear h
 revert H
 refine ok1 fun t1013 A2 H => ?_
 by_cases c3 : t1013 = true
 ·subst c3
  rw [if_pos rfl] at H
  obtain rfl := Option.some.inj H
  go_enter Tryz.func4, Tryz.ntmps4
  go_wp2_with ((with_reducible refine gw ?_); first | (refine gl 11 Tryz.func10 #[.slice A0 l0.length c0] ?_; (with_reducible refine (laws_big.calls _ _ l0 true _ ?side1 ?side2 A2.out).mono ?_); (case side1 => exact cc HR0); (case side2 => exact HC0.out); rintro e w' ⟨rfl, ⟨nd, rfl⟩⟩; refine ⟨_, rfl, ?_⟩))
  go_ret
  exact ⟨rf, bl⟩
 replace c3 := Bool.eq_false_iff.mpr c3
 subst c3
 rw [if_neg (show ¬ (false = true) by decide)] at H
 revert H
 refine ok6 fun t1014 t1015 t1016 t1017 t1018 t1019 A4 H => ?_
 (try dsimp only at H)
 revert H
 refine ok1 fun t1021 A5 H => ?_
 revert H
 refine ok1 fun t1022 A6 H => ?_
 by_cases c7 : t1021.toList = t1022.toList
 rotate_left
 ·rw [if_neg c7] at H
  have c7b0 : (t1021.toList == t1022.toList) = false := beq_eq_false_iff_ne.mpr c7
  have c7b1 : (t1021.toList != t1022.toList) = true := bne_iff_ne.mpr c7
  exact absurd (Option.some.inj H) (by rw [ht_]; decide)
 rw [if_pos c7] at H
 have c7b0 : (t1021.toList == t1022.toList) = true := beq_iff_eq.mpr c7
 have c7b1 : (t1021.toList != t1022.toList) = false := bne_eq_false_iff_eq.mpr c7
 clear c7
 revert H
 refine ok6 fun t1023 t1024 t1025 t1026 t1027 t1028 A8 H => ?_
 (try dsimp only at H)
 have HC9 := am H
 clear H
 go_enter Tryz.func4, Tryz.ntmps4
 go_upto_region 8 with ((with_reducible refine gw ?_); first | (refine gl 11 Tryz.func10 #[.slice A0 l0.length c0] ?_; (with_reducible refine (laws_big.calls _ _ l0 false _ ?side1 ?side2 A2.out).mono ?_); (case side1 => exact cc HR0); (case side2 => exact HC0.out); rintro e w' ⟨rfl, ⟨nd, rfl⟩⟩; refine ⟨_, rfl, ?_⟩) | (refine gl 13 Tryz.func19 #[.slice A0 l0.length c0] ?_; (with_reducible refine (spec_DrawCcText.calls k _ _ l0 t1014 t1015 t1016 t1017 t1018 t1019 _ ?side1 ?side2 A4.out).mono ?_); (case side1 => exact cc HR0); (case side2 => exact HC0.out); rintro e w10 ⟨rfl, hb⟩; refine ⟨_, rfl, ?_⟩; replace HB := am (below_step bl hb); clear hb) | (refine bx 3 #[.bool false, .bool false, .bool false, .bool false, .bool false, .int .i64 0] 42 ?_; intro gb1020 hg w11 hbox hb; have BK1020 := am (hbox); have GW1020 := am (sz hg : w.heap.size ≤ gb1020); have GE1020 := am (sz hg : w.heap.size ≤ gb1020); replace HB := am (below_step bl hb); clear hb hbox hg; obtain ⟨z12_0, y12_0, z12_1, y12_1, z12_2, y12_2, z12_3, y12_3, z12_4, y12_4, z12_5, y12_5⟩ := cl6 BK1020) | (refine gl 15 Tryz.func20 #[.agg #[.bool t1014, .bool t1015, .bool t1016, .bool t1017, .bool t1018, .int .i64 t1019]] ?_; (with_reducible refine (impl_CcText.calls t1014 t1015 t1016 t1017 t1018 t1019 t1021 _ ?side1 A5.out).mono ?_); (case side1 => exact GLOBT.below HGT.out bl); rintro e w13 ⟨rfl, hb⟩; refine ⟨_, rfl, ?_⟩; replace BK1020 := am (blk_below (g := gb1020) (o := .cells #[.bool t1014, .bool t1015, .bool t1016, .bool t1017, .bool t1018, .int .i64 t1019] 42 (0, 0)) (pt0 BK1020) hb); replace HB := am (below_step bl hb); clear hb; obtain ⟨z14_0, y14_0, z14_1, y14_1, z14_2, y14_2, z14_3, y14_3, z14_4, y14_4, z14_5, y14_5⟩ := cl6 BK1020) | (refine gl 18 Tryz.func21 #[.agg #[.bool t1014, .bool t1015, .bool t1016, .bool t1017, .bool t1018, .int .i64 t1019]] ?_; (with_reducible refine (spec_CcText.calls k t1014 t1015 t1016 t1017 t1018 t1019 t1022 _ A6.out).mono ?_); rintro e w15 ⟨rfl, hb⟩; refine ⟨_, rfl, ?_⟩; replace BK1020 := kb BK1020 hb; replace HB := am (below_step bl hb); clear hb) | (refine gl 21 Tryz.func22 #[.string t1021] ?_; (with_reducible refine (impl_CcRead.calls k t1021 t1023 t1024 t1025 t1026 t1027 t1028 _ ?side1 ?side2 ?side3 A8.out).mono ?_); (case side1 => exact GLOBE.below HGE.out bl); (case side2 => exact GLOBM.below HGM.out bl); (case side3 => exact GLOBT.below HGT.out bl); rintro e w16 ⟨rfl, hb⟩; refine ⟨_, rfl, ?_⟩; replace BK1020 := kb BK1020 hb; replace HB := am (below_step bl hb); clear hb) | (refine bx 5 #[.bool false, .bool false, .bool false, .bool false, .bool false, .int .i64 0] 42 ?_; intro gb1029 hg w17 hbox hb; have BK1029 := am (hbox); have GW1029 := am (sz hg : w.heap.size ≤ gb1029); have GE1029 := am (sz hg : w.heap.size ≤ gb1029); replace HB := am (below_step bl hb); have NB1020_1029 := am (nl hg BK1020 : gb1020 ≠ gb1029); have NB1029_1020 := am (ng hg BK1020 : gb1029 ≠ gb1020); replace BK1020 := kb BK1020 hb; clear hb hbox hg; have hnb18 := NB1029_1020.out; have hnc18 := NB1020_1029.out; obtain ⟨z19_0, y19_0, z19_1, y19_1, z19_2, y19_2, z19_3, y19_3, z19_4, y19_4, z19_5, y19_5⟩ := cl6 BK1029))
 (try simp only [Act.put, List.setIfInBounds_toArray, List.set_cons_zero, List.set_cons_succ])
 go_cut [37] (fun v37 wc => ∃ (kq : Nat) (x37_8 : Bool), v37 = .bool x37_8 ∧ Aside0 (laws_FnControl.j0 kq l0 x37_8 = some r) ∧ Aside0 (kq ≤ k) ∧ Aside0 (wc.heap[gb1020]? = some (.cells #[.bool t1014, .bool t1015, .bool t1016, .bool t1017, .bool t1018, .int .i64 t1019] 42 (0, 0))) ∧ Aside0 (wc.heap[gb1029]? = some (.cells #[.bool t1023, .bool t1024, .bool t1025, .bool t1026, .bool t1027, .int .i64 t1028] 42 (0, 0))) ∧ Aside0 (Below w.heap.size w wc))
 case first =>
  have H := HC9.out
  clear HC9
  by_cases c20 : t1021.toList = ([] : List UInt8)
  ·rw [if_pos c20] at H
   have c20b0 : (t1021.toList == ([] : List UInt8)) = true := beq_iff_eq.mpr c20
   have c20b1 : (t1021.toList != ([] : List UInt8)) = false := bne_eq_false_iff_eq.mpr c20
   clear c20
   (first | rw [c20b0] | (simp only [i64_w, i32_w]; rw [c20b0]) | skip)
   have H' := am H
   clear H
   go_wp2
   go_meet
   case rel => exact ⟨_, (false), rs, H', ⟨by first | omega | exact Nat.le_refl _⟩, ⟨by (with_reducible repeat (first | refine blk_drewN ?_ _ | refine blk_drew ?_ | refine blk_alloc ?_ _)); refine blk_far ?_ NB1020_1029.out _; (with_reducible repeat (first | refine blk_drewN ?_ _ | refine blk_drew ?_ | refine blk_alloc ?_ _)); refine blk_far ?_ NB1020_1029.out _; (with_reducible repeat (first | refine blk_drewN ?_ _ | refine blk_drew ?_ | refine blk_alloc ?_ _)); refine blk_far ?_ NB1020_1029.out _; (with_reducible repeat (first | refine blk_drewN ?_ _ | refine blk_drew ?_ | refine blk_alloc ?_ _)); refine blk_far ?_ NB1020_1029.out _; (with_reducible repeat (first | refine blk_drewN ?_ _ | refine blk_drew ?_ | refine blk_alloc ?_ _)); refine blk_far ?_ NB1020_1029.out _; (with_reducible repeat (first | refine blk_drewN ?_ _ | refine blk_drew ?_ | refine blk_alloc ?_ _)); refine blk_far ?_ NB1020_1029.out _; (with_reducible repeat (first | refine blk_drewN ?_ _ | refine blk_drew ?_ | refine blk_alloc ?_ _)); exact BK1020.out⟩, ⟨pt0 BK1029⟩, ⟨u4HB⟩⟩
  rw [if_neg c20] at H
  have c20b0 : (t1021.toList == ([] : List UInt8)) = false := beq_eq_false_iff_ne.mpr c20
  have c20b1 : (t1021.toList != ([] : List UInt8)) = true := bne_iff_ne.mpr c20
  (first | rw [c20b0] | (simp only [i64_w, i32_w]; rw [c20b0]) | skip)
  by_cases c21 : (!(t1023 == t1014) || (!(t1024 == t1015) || (!(t1025 == t1016) || (!(t1026 == t1017) || (!(t1027 == t1018) || (!(t1028 == t1019))))))) = true
  rotate_left
  ·rw [if_neg c21] at H
   have c21b0 : (!(t1023 == t1014) || (!(t1024 == t1015) || (!(t1025 == t1016) || (!(t1026 == t1017) || (!(t1027 == t1018) || (!(t1028 == t1019))))))) = false := Bool.eq_false_iff.mpr c21
   clear c21
   have H' := am H
   clear H
   have hnb26 := NB1029_1020.out
   have hnc26 := NB1020_1029.out
   obtain ⟨z27_0, y27_0, z27_1, y27_1, z27_2, y27_2, z27_3, y27_3, z27_4, y27_4, z27_5, y27_5⟩ := cl6 BK1029
   obtain ⟨z28_0, y28_0, z28_1, y28_1, z28_2, y28_2, z28_3, y28_3, z28_4, y28_4, z28_5, y28_5⟩ := cl6 BK1020
   go_wp2
   go_meet
   case rel => exact ⟨_, (false), rs, H', ⟨by first | omega | exact Nat.le_refl _⟩, ⟨by (with_reducible repeat (first | refine blk_drewN ?_ _ | refine blk_drew ?_ | refine blk_alloc ?_ _)); refine blk_far ?_ NB1020_1029.out _; (with_reducible repeat (first | refine blk_drewN ?_ _ | refine blk_drew ?_ | refine blk_alloc ?_ _)); refine blk_far ?_ NB1020_1029.out _; (with_reducible repeat (first | refine blk_drewN ?_ _ | refine blk_drew ?_ | refine blk_alloc ?_ _)); refine blk_far ?_ NB1020_1029.out _; (with_reducible repeat (first | refine blk_drewN ?_ _ | refine blk_drew ?_ | refine blk_alloc ?_ _)); refine blk_far ?_ NB1020_1029.out _; (with_reducible repeat (first | refine blk_drewN ?_ _ | refine blk_drew ?_ | refine blk_alloc ?_ _)); refine blk_far ?_ NB1020_1029.out _; (with_reducible repeat (first | refine blk_drewN ?_ _ | refine blk_drew ?_ | refine blk_alloc ?_ _)); refine blk_far ?_ NB1020_1029.out _; (with_reducible repeat (first | refine blk_drewN ?_ _ | refine blk_drew ?_ | refine blk_alloc ?_ _)); exact BK1020.out⟩, ⟨pt0 BK1029⟩, ⟨u4HB⟩⟩
  rw [if_pos c21] at H
  have c21b0 : (!(t1023 == t1014) || (!(t1024 == t1015) || (!(t1025 == t1016) || (!(t1026 == t1017) || (!(t1027 == t1018) || (!(t1028 == t1019))))))) = true := c21
  clear c21
  by_cases c22 : t1018 = true
  ·subst c22
   try (have c21b9 := c21b0; simp only [beq_false, beq_true, Bool.false_beq, Bool.true_beq, Bool.not_not] at c21b9)
   rw [if_pos rfl] at H
   cases k with
   | zero => exact absurd H (by simp [laws_FnControl.j0])
   | succ k_ => simp only [laws_FnControl.j0, if_true] at H; exact absurd (Option.some.inj H) (by rw [ht_]; decide)
  replace c22 := Bool.eq_false_iff.mpr c22
  subst c22
  try (have c21b9 := c21b0; simp only [beq_false, beq_true, Bool.false_beq, Bool.true_beq, Bool.not_not] at c21b9)
  rw [if_neg (show ¬ (false = true) by decide)] at H
  have H' := am H
  clear H
  have hnb23 := NB1029_1020.out
  have hnc23 := NB1020_1029.out
  obtain ⟨z24_0, y24_0, z24_1, y24_1, z24_2, y24_2, z24_3, y24_3, z24_4, y24_4, z24_5, y24_5⟩ := cl6 BK1029
  obtain ⟨z25_0, y25_0, z25_1, y25_1, z25_2, y25_2, z25_3, y25_3, z25_4, y25_4, z25_5, y25_5⟩ := cl6 BK1020
  go_wp2
  go_meet
  case rel => exact ⟨_, ((t1019 == 0)), rs, H', ⟨by first | omega | exact Nat.le_refl _⟩, ⟨by (with_reducible repeat (first | refine blk_drewN ?_ _ | refine blk_drew ?_ | refine blk_alloc ?_ _)); refine blk_far ?_ NB1020_1029.out _; (with_reducible repeat (first | refine blk_drewN ?_ _ | refine blk_drew ?_ | refine blk_alloc ?_ _)); refine blk_far ?_ NB1020_1029.out _; (with_reducible repeat (first | refine blk_drewN ?_ _ | refine blk_drew ?_ | refine blk_alloc ?_ _)); refine blk_far ?_ NB1020_1029.out _; (with_reducible repeat (first | refine blk_drewN ?_ _ | refine blk_drew ?_ | refine blk_alloc ?_ _)); refine blk_far ?_ NB1020_1029.out _; (with_reducible repeat (first | refine blk_drewN ?_ _ | refine blk_drew ?_ | refine blk_alloc ?_ _)); refine blk_far ?_ NB1020_1029.out _; (with_reducible repeat (first | refine blk_drewN ?_ _ | refine blk_drew ?_ | refine blk_alloc ?_ _)); refine blk_far ?_ NB1020_1029.out _; (with_reducible repeat (first | refine blk_drewN ?_ _ | refine blk_drew ?_ | refine blk_alloc ?_ _)); exact BK1020.out⟩, ⟨pt0 BK1029⟩, ⟨u4HB⟩⟩
 case rest =>
  clear HC9
  try clear c1
  try clear c2
  try clear p2
  try clear c3
  try clear c4
  try clear c7
  try clear c7b0
  try clear c7b1
  try clear c10
  try clear c18
  try clear c19
  try clear c20
  try clear c20b0
  try clear c20b1
  try clear c21
  try clear c21b0
  try clear c22
  try clear c23
  try clear c26
  try clear z12_0
  try clear z12_1
  try clear z12_2
  try clear z12_3
  try clear z12_4
  try clear z12_5
  try clear z14_0
  try clear z14_1
  try clear z14_2
  try clear z14_3
  try clear z14_4
  try clear z14_5
  try clear z19_0
  try clear z19_1
  try clear z19_2
  try clear z19_3
  try clear z19_4
  try clear z19_5
  try clear z24_0
  try clear z24_1
  try clear z24_2
  try clear z24_3
  try clear z24_4
  try clear z24_5
  try clear z25_0
  try clear z25_1
  try clear z25_2
  try clear z25_3
  try clear z25_4
  try clear z25_5
  try clear z27_0
  try clear z27_1
  try clear z27_2
  try clear z27_3
  try clear z27_4
  try clear z27_5
  try clear z28_0
  try clear z28_1
  try clear z28_2
  try clear z28_3
  try clear z28_4
  try clear z28_5
  try clear y12_0
  try clear y12_1
  try clear y12_2
  try clear y12_3
  try clear y12_4
  try clear y12_5
  try clear y14_0
  try clear y14_1
  try clear y14_2
  try clear y14_3
  try clear y14_4
  try clear y14_5
  try clear y19_0
  try clear y19_1
  try clear y19_2
  try clear y19_3
  try clear y19_4
  try clear y19_5
  try clear y24_0
  try clear y24_1
  try clear y24_2
  try clear y24_3
  try clear y24_4
  try clear y24_5
  try clear y25_0
  try clear y25_1
  try clear y25_2
  try clear y25_3
  try clear y25_4
  try clear y25_5
  try clear y27_0
  try clear y27_1
  try clear y27_2
  try clear y27_3
  try clear y27_4
  try clear y27_5
  try clear y28_0
  try clear y28_1
  try clear y28_2
  try clear y28_3
  try clear y28_4
  try clear y28_5
  obtain ⟨kq, x37_8, rfl, HA, HJ8, BK1020, BK1029, HB⟩ := hcut
  cases kq with
  | zero => exact absurd HA.out (by simp [laws_FnControl.j0])
  | succ kj8 =>
   have H := HA.out
   clear HA
   simp only [laws_FnControl.j0] at H
   by_cases c29 : x37_8 = true
   ·subst c29
    rw [if_pos rfl] at H
    exact absurd (Option.some.inj H) (by rw [ht_]; decide)
   replace c29 := Bool.eq_false_iff.mpr c29
   subst c29
   rw [if_neg (show ¬ (false = true) by decide)] at H
   revert H
   refine ok1 fun t1030 A30 H => ?_
   revert H
   refine ok6 fun t1031 t1032 t1033 t1034 t1035 t1036 A31 H => ?_
   (try dsimp only at H)
   revert H
   refine ok1 fun t1038 A32 H => ?_
   revert H
   refine ok6 fun t1041 t1042 t1043 t1044 t1045 t1046 A33 H => ?_
   (try dsimp only at H)
   by_cases c34 : (!(t1031 == t1041) || (!(t1032 == t1042) || (!(t1033 == t1043) || (!(t1034 == t1044) || (!(t1035 == t1045) || (!(t1036 == t1046))))))) = true
   ·rw [if_pos c34] at H
    have c34b0 : (!(t1031 == t1041) || (!(t1032 == t1042) || (!(t1033 == t1043) || (!(t1034 == t1044) || (!(t1035 == t1045) || (!(t1036 == t1046))))))) = true := c34
    clear c34
    exact absurd (Option.some.inj H) (by rw [ht_]; decide)
   rw [if_neg c34] at H
   have c34b0 : (!(t1031 == t1041) || (!(t1032 == t1042) || (!(t1033 == t1043) || (!(t1034 == t1044) || (!(t1035 == t1045) || (!(t1036 == t1046))))))) = false := Bool.eq_false_iff.mpr c34
   clear c34
   revert H
   refine ok6 fun t1047 t1048 t1049 t1050 t1051 t1052 A35 H => ?_
   (try dsimp only at H)
   revert H
   refine ok6 fun t1053 t1054 t1055 t1056 t1057 t1058 A36 H => ?_
   (try dsimp only at H)
   by_cases c37 : (!(t1047 == t1053) || (!(t1048 == t1054) || (!(t1049 == t1055) || (!(t1050 == t1056) || (!(t1051 == t1057) || (!(t1052 == t1058))))))) = true
   ·rw [if_pos c37] at H
    have c37b0 : (!(t1047 == t1053) || (!(t1048 == t1054) || (!(t1049 == t1055) || (!(t1050 == t1056) || (!(t1051 == t1057) || (!(t1052 == t1058))))))) = true := c37
    clear c37
    exact absurd (Option.some.inj H) (by rw [ht_]; decide)
   rw [if_neg c37] at H
   have c37b0 : (!(t1047 == t1053) || (!(t1048 == t1054) || (!(t1049 == t1055) || (!(t1050 == t1056) || (!(t1051 == t1057) || (!(t1052 == t1058))))))) = false := Bool.eq_false_iff.mpr c37
   clear c37
   revert H
   refine ifn fun c38 H => ?_
   have c38b0 := eq_true c38
   have c38b1 := decide_eq_true c38
   try have c38b2 := eq_false (Nat.not_lt.2 c38)
   revert H
   refine ok6 fun t1059 t1060 t1061 t1062 t1063 t1064 A39 H => ?_
   (try dsimp only at H)
   by_cases c40 : t1063 = true
   rotate_left
   ·replace c40 := Bool.eq_false_iff.mpr c40
    subst c40
    rw [if_neg (show ¬ (false = true) by decide)] at H
    exact absurd (Option.some.inj H) (by rw [ht_]; decide)
   subst c40
   rw [if_pos rfl] at H
   by_cases c41 : t1064 ≤ 3
   rotate_left
   ·rw [if_neg c41] at H
    have c41b0 := decide_eq_false c41
    clear c41
    exact absurd (Option.some.inj H) (by rw [ht_]; decide)
   rw [if_pos c41] at H
   have c41b0 := decide_eq_true c41
   clear c41
   by_cases c42 : t1035 = true
   rotate_left
   ·replace c42 := Bool.eq_false_iff.mpr c42
    subst c42
    try (have c34b9 := c34b0; simp only [beq_false, beq_true, Bool.false_beq, Bool.true_beq, Bool.not_not] at c34b9)
    try (have c34b9 := c34b0; simp only [beq_false, beq_true, Bool.false_beq, Bool.true_beq, Bool.not_not] at c34b9)
    rw [if_neg (show ¬ (false = true) by decide)] at H
    obtain rfl := Option.some.inj H
    try go_wp2_with ((with_reducible refine gw ?_); first | (refine gl 39 Tryz.func23 #[.slice A0 l0.length c0] ?_; (with_reducible refine (spec_DrawCcRead.calls kj8 _ _ l0 t1030 _ ?side1 ?side2 A30.out).mono ?_); (case side1 => exact cb HR0); (case side2 => exact HC0.out); rintro e w63 ⟨rfl, hb⟩; refine ⟨_, rfl, ?_⟩; replace BK1020 := kb BK1020 hb; replace BK1029 := kb BK1029 hb; replace HB := am (below_step bl hb); clear hb) | (refine gl 41 Tryz.func22 #[.string t1030] ?_; (with_reducible refine (impl_CcRead.calls kj8 t1030 t1031 t1032 t1033 t1034 false t1036 _ ?side1 ?side2 ?side3 A31.out).mono ?_); (case side1 => exact GLOBE.below HGE.out bl); (case side2 => exact GLOBM.below HGM.out bl); (case side3 => exact GLOBT.below HGT.out bl); rintro e w64 ⟨rfl, hb⟩; refine ⟨_, rfl, ?_⟩; replace BK1020 := kb BK1020 hb; replace BK1029 := kb BK1029 hb; replace HB := am (below_step bl hb); clear hb) | (refine bx 7 #[.bool false, .bool false, .bool false, .bool false, .bool false, .int .i64 0] 42 ?_; intro gb1037 hg w65 hbox hb; have BK1037 := am (hbox); have GW1037 := am (sz hg : w.heap.size ≤ gb1037); have GE1037 := am (sz hg : w.heap.size ≤ gb1037); replace HB := am (below_step bl hb); have NB1020_1037 := am (nl hg BK1020 : gb1020 ≠ gb1037); have NB1037_1020 := am (ng hg BK1020 : gb1037 ≠ gb1020); replace BK1020 := kb BK1020 hb; have NB1029_1037 := am (nl hg BK1029 : gb1029 ≠ gb1037); have NB1037_1029 := am (ng hg BK1029 : gb1037 ≠ gb1029); replace BK1029 := kb BK1029 hb; clear hb hbox hg; have hnb66 := NB1037_1020.out; have hnc66 := NB1020_1037.out; have hnb67 := NB1037_1029.out; have hnc67 := NB1029_1037.out; obtain ⟨z68_0, y68_0, z68_1, y68_1, z68_2, y68_2, z68_3, y68_3, z68_4, y68_4, z68_5, y68_5⟩ := cl6 BK1037) | (refine gl 43 Tryz.func24 #[.slice A0 l0.length c0] ?_; (with_reducible refine (spec_DrawCcOf.calls kj8 _ _ l0 t1038 _ ?side1 ?side2 A32.out).mono ?_); (case side1 => exact Kd.C_below HR0.out bl); (case side2 => exact HC0.out); rintro e w69 ⟨v1039, rfl, ho0, hb⟩; refine ⟨_, rfl, ?_⟩; have HO1040 := am (Kd.R_lower ho0 (below_size bl)); replace BK1020 := kg1 BK1020 NB1020_1037 hb; replace BK1029 := kg1 BK1029 NB1029_1037 hb; replace BK1037 := am (blk_below (g := gb1037) (o := .cells #[.bool t1031, .bool t1032, .bool t1033, .bool t1034, .bool false, .int .i64 t1036] 42 (0, 0)) (pt0 BK1037) hb); replace HB := am (below_step bl hb); clear hb ho0))
    replace HO1040 := am (Kd.R_drew HO1040.out)
    replace BK1020 := am (blk_drew BK1020.out)
    replace BK1029 := am (blk_drew BK1029.out)
    replace BK1037 := am (blk_drew BK1037.out)
    replace HB := am (below_drew1 HB.out)
    refine start_ (n := 11) (S := fun w' => w'.cell? ⟨gb1037, 0, none⟩ = some (.bool t1031) ∧ w'.cell? ⟨gb1037, 1, none⟩ = some (.bool t1032) ∧ w'.cell? ⟨gb1037, 2, none⟩ = some (.bool t1033) ∧ w'.cell? ⟨gb1037, 3, none⟩ = some (.bool t1034) ∧ w'.cell? ⟨gb1037, 4, none⟩ = some (.bool false) ∧ w'.cell? ⟨gb1037, 5, none⟩ = some (.int .i64 t1036)) (ds := []) ⟨br true [0, 11]⟩ (by kernel_rfl) rfl (by kernel_rfl) ⟨bc BK1037, bc BK1037, bc BK1037, bc BK1037, bc BK1037, bc BK1037⟩ (fun hHeld => ?_); refine with_tabW laws_FnControl.tab13 laws_FnControl.bits13 (fun HT_ HW_ => ?_)
    generalize w69.drew = w70 at HO1040 BK1020 BK1029 BK1037 HB hHeld ⊢
    refine pu 1 45 [0, 1, 1, 9] ?_
    refine tk 0 44 [2, 9] ?_
    refine og 2 46 [3, 8] Tryz.func25 #[.string t1030] (fun K hK => ?_)
    with_reducible refine (spec_CcRead.calls kj8 t1030 t1041 t1042 t1043 t1044 t1045 t1046 _ A33.out).mono ?_
    rintro e w71 ⟨rfl, hb⟩
    refine ⟨_, rfl, ?_⟩
    replace HO1040 := kr HO1040 hb
    replace BK1020 := kb BK1020 hb
    replace BK1029 := kb BK1029 hb
    replace BK1037 := kb BK1037 hb
    replace HB := am (below_step bl hb)
    clear hb
    obtain ⟨Ao72, co72, eo72⟩ := Kd.R_slice HO1040.out
    (first | subst eo72 | (injection eo72 with f1_ f2_ f3_; have f4_ := f1_.symm; have f5_ := f3_.symm; clear f1_ f2_ f3_; subst f4_; subst f5_))
    refine hK.out _ _ ⟨bc BK1037, bc BK1037, bc BK1037, bc BK1037, bc BK1037, bc BK1037⟩ (fun hHeld => ?_)
    clear hK K
    refine nm 46 ?_
    refine pu 3 47 [4, 7] ?_
    refine pu 4 48 [5, 6] ?_
    refine pu 5 49 [6, 5] ?_
    refine pu 7 51 [6, 1, 1, 3] ?_
    refine og 6 50 [8, 3] Tryz.func26 #[.slice Ao72 t1038.length co72] (fun K hK => ?_)
    with_reducible refine (impl_CcOf.calls kj8 _ _ t1038 t1047 t1048 t1049 t1050 t1051 t1052 _ ?side1 ?side2 ?side3 ?side4 ?side5 A35.out).mono ?_
    (case side1 => exact GLOBE.below HGE.out bl)
    (case side2 => exact GLOBM.below HGM.out bl)
    (case side3 => exact GLOBT.below HGT.out bl)
    (case side4 => exact rc HO1040)
    (case side5 => exact (Kd.R_reads' HO1040.out).2.1)
    rintro e w73 ⟨rfl, hb⟩
    refine ⟨_, rfl, ?_⟩
    replace HO1040 := kr HO1040 hb
    replace BK1020 := kb BK1020 hb
    replace BK1029 := kb BK1029 hb
    replace BK1037 := kb BK1037 hb
    replace HB := am (below_step bl hb)
    clear hb
    refine hK.out _ _ ⟨bc BK1037, bc BK1037, bc BK1037, bc BK1037, bc BK1037, bc BK1037⟩ (fun hHeld => ?_)
    clear hK K
    refine nm 50 ?_
    refine og 8 52 [9, 2] Tryz.func27 #[.slice Ao72 t1038.length co72] (fun K hK => ?_)
    with_reducible refine (spec_CcOf.calls kj8 _ _ t1038 t1053 t1054 t1055 t1056 t1057 t1058 _ ?side1 ?side2 A36.out).mono ?_
    (case side1 => exact rc HO1040)
    (case side2 => exact (Kd.R_reads' HO1040.out).2.1)
    rintro e w74 ⟨rfl, hb⟩
    refine ⟨_, rfl, ?_⟩
    replace HO1040 := kr HO1040 hb
    replace BK1020 := kb BK1020 hb
    replace BK1029 := kb BK1029 hb
    replace BK1037 := kb BK1037 hb
    replace HB := am (below_step bl hb)
    clear hb
    refine hK.out _ _ ⟨bc BK1037, bc BK1037, bc BK1037, bc BK1037, bc BK1037, bc BK1037⟩ (fun hHeld => ?_)
    clear hK K
    refine nm 52 ?_
    refine pu 9 53 [10, 1] ?_
    refine pu 10 54 [11] ?_
    refine done_ (done_of HT_.out (by kernel_rfl)) ?_
    try go_wp2_with ((with_reducible refine gw ?_); first | (refine gl 57 Tryz.func22 #[.string (t1030 ++ (⟨#[44, 32, 109, 97, 120, 45, 97, 103, 101, 61, 51]⟩ : ByteArray))] ?_; (with_reducible refine (impl_CcRead.calls kj8 (t1030 ++ (⟨#[44, 32, 109, 97, 120, 45, 97, 103, 101, 61, 51]⟩ : ByteArray)) t1059 t1060 t1061 t1062 true t1064 _ ?side1 ?side2 ?side3 A39.out).mono ?_); (case side1 => exact GLOBE.below HGE.out bl); (case side2 => exact GLOBM.below HGM.out bl); (case side3 => exact GLOBT.below HGT.out bl); rintro e w75 ⟨rfl, hb⟩; refine ⟨_, rfl, ?_⟩; replace HO1040 := kr HO1040 hb; replace BK1020 := kb BK1020 hb; replace BK1029 := kb BK1029 hb; replace BK1037 := kb BK1037 hb; replace HB := am (below_step bl hb); clear hb) | (refine bx 9 #[.bool false, .bool false, .bool false, .bool false, .bool false, .int .i64 0] 42 ?_; intro gb1065 hg w76 hbox hb; replace HO1040 := am (Kd.R_below (ro HO1040) hb); have BK1065 := am (hbox); have GW1065 := am (sz hg : w.heap.size ≤ gb1065); have GE1065 := am (sz hg : w.heap.size ≤ gb1065); replace HB := am (below_step bl hb); have NB1020_1065 := am (nl hg BK1020 : gb1020 ≠ gb1065); have NB1065_1020 := am (ng hg BK1020 : gb1065 ≠ gb1020); replace BK1020 := kb BK1020 hb; have NB1029_1065 := am (nl hg BK1029 : gb1029 ≠ gb1065); have NB1065_1029 := am (ng hg BK1029 : gb1065 ≠ gb1029); replace BK1029 := kb BK1029 hb; have NB1037_1065 := am (nl hg BK1037 : gb1037 ≠ gb1065); have NB1065_1037 := am (ng hg BK1037 : gb1065 ≠ gb1037); replace BK1037 := kb BK1037 hb; clear hb hbox hg; have hnb77 := NB1065_1020.out; have hnc77 := NB1020_1065.out; have hnb78 := NB1065_1029.out; have hnc78 := NB1029_1065.out; have hnb79 := NB1065_1037.out; have hnc79 := NB1037_1065.out; obtain ⟨z80_0, y80_0, z80_1, y80_1, z80_2, y80_2, z80_3, y80_3, z80_4, y80_4, z80_5, y80_5⟩ := cl6 BK1065; obtain ⟨z81_0, y81_0, z81_1, y81_1, z81_2, y81_2, z81_3, y81_3, z81_4, y81_4, z81_5, y81_5⟩ := cl6 BK1037))
    go_ret
    exact ⟨rf, bl⟩
   subst c42
   try (have c34b9 := c34b0; simp only [beq_false, beq_true, Bool.false_beq, Bool.true_beq, Bool.not_not] at c34b9)
   try (have c34b9 := c34b0; simp only [beq_false, beq_true, Bool.false_beq, Bool.true_beq, Bool.not_not] at c34b9)
   rw [if_pos rfl] at H
   by_cases c43 : t1064 ≤ t1036
   rotate_left
   ·rw [if_neg c43] at H
    have c43b0 := decide_eq_false c43
    clear c43
    exact absurd (Option.some.inj H) (by rw [ht_]; decide)
   rw [if_pos c43] at H
   have c43b0 := decide_eq_true c43
   clear c43
   obtain rfl := Option.some.inj H
   try go_wp2_with ((with_reducible refine gw ?_); first | (refine gl 39 Tryz.func23 #[.slice A0 l0.length c0] ?_; (with_reducible refine (spec_DrawCcRead.calls kj8 _ _ l0 t1030 _ ?side1 ?side2 A30.out).mono ?_); (case side1 => exact cb HR0); (case side2 => exact HC0.out); rintro e w44 ⟨rfl, hb⟩; refine ⟨_, rfl, ?_⟩; replace BK1020 := kb BK1020 hb; replace BK1029 := kb BK1029 hb; replace HB := am (below_step bl hb); clear hb) | (refine gl 41 Tryz.func22 #[.string t1030] ?_; (with_reducible refine (impl_CcRead.calls kj8 t1030 t1031 t1032 t1033 t1034 true t1036 _ ?side1 ?side2 ?side3 A31.out).mono ?_); (case side1 => exact GLOBE.below HGE.out bl); (case side2 => exact GLOBM.below HGM.out bl); (case side3 => exact GLOBT.below HGT.out bl); rintro e w45 ⟨rfl, hb⟩; refine ⟨_, rfl, ?_⟩; replace BK1020 := kb BK1020 hb; replace BK1029 := kb BK1029 hb; replace HB := am (below_step bl hb); clear hb) | (refine bx 7 #[.bool false, .bool false, .bool false, .bool false, .bool false, .int .i64 0] 42 ?_; intro gb1037 hg w46 hbox hb; have BK1037 := am (hbox); have GW1037 := am (sz hg : w.heap.size ≤ gb1037); have GE1037 := am (sz hg : w.heap.size ≤ gb1037); replace HB := am (below_step bl hb); have NB1020_1037 := am (nl hg BK1020 : gb1020 ≠ gb1037); have NB1037_1020 := am (ng hg BK1020 : gb1037 ≠ gb1020); replace BK1020 := kb BK1020 hb; have NB1029_1037 := am (nl hg BK1029 : gb1029 ≠ gb1037); have NB1037_1029 := am (ng hg BK1029 : gb1037 ≠ gb1029); replace BK1029 := kb BK1029 hb; clear hb hbox hg; have hnb47 := NB1037_1020.out; have hnc47 := NB1020_1037.out; have hnb48 := NB1037_1029.out; have hnc48 := NB1029_1037.out; obtain ⟨z49_0, y49_0, z49_1, y49_1, z49_2, y49_2, z49_3, y49_3, z49_4, y49_4, z49_5, y49_5⟩ := cl6 BK1037) | (refine gl 43 Tryz.func24 #[.slice A0 l0.length c0] ?_; (with_reducible refine (spec_DrawCcOf.calls kj8 _ _ l0 t1038 _ ?side1 ?side2 A32.out).mono ?_); (case side1 => exact Kd.C_below HR0.out bl); (case side2 => exact HC0.out); rintro e w50 ⟨v1039, rfl, ho0, hb⟩; refine ⟨_, rfl, ?_⟩; have HO1040 := am (Kd.R_lower ho0 (below_size bl)); replace BK1020 := kg1 BK1020 NB1020_1037 hb; replace BK1029 := kg1 BK1029 NB1029_1037 hb; replace BK1037 := am (blk_below (g := gb1037) (o := .cells #[.bool t1031, .bool t1032, .bool t1033, .bool t1034, .bool true, .int .i64 t1036] 42 (0, 0)) (pt0 BK1037) hb); replace HB := am (below_step bl hb); clear hb ho0))
   replace HO1040 := am (Kd.R_drew HO1040.out)
   replace BK1020 := am (blk_drew BK1020.out)
   replace BK1029 := am (blk_drew BK1029.out)
   replace BK1037 := am (blk_drew BK1037.out)
   replace HB := am (below_drew1 HB.out)
   refine start_ (n := 11) (S := fun w' => w'.cell? ⟨gb1037, 0, none⟩ = some (.bool t1031) ∧ w'.cell? ⟨gb1037, 1, none⟩ = some (.bool t1032) ∧ w'.cell? ⟨gb1037, 2, none⟩ = some (.bool t1033) ∧ w'.cell? ⟨gb1037, 3, none⟩ = some (.bool t1034) ∧ w'.cell? ⟨gb1037, 4, none⟩ = some (.bool true) ∧ w'.cell? ⟨gb1037, 5, none⟩ = some (.int .i64 t1036)) (ds := []) ⟨br true [0, 11]⟩ (by kernel_rfl) rfl (by kernel_rfl) ⟨bc BK1037, bc BK1037, bc BK1037, bc BK1037, bc BK1037, bc BK1037⟩ (fun hHeld => ?_); refine with_tabW laws_FnControl.tab13 laws_FnControl.bits13 (fun HT_ HW_ => ?_)
   generalize w50.drew = w51 at HO1040 BK1020 BK1029 BK1037 HB hHeld ⊢
   refine pu 1 45 [0, 1, 1, 9] ?_
   refine tk 0 44 [2, 9] ?_
   refine og 2 46 [3, 8] Tryz.func25 #[.string t1030] (fun K hK => ?_)
   with_reducible refine (spec_CcRead.calls kj8 t1030 t1041 t1042 t1043 t1044 t1045 t1046 _ A33.out).mono ?_
   rintro e w52 ⟨rfl, hb⟩
   refine ⟨_, rfl, ?_⟩
   replace HO1040 := kr HO1040 hb
   replace BK1020 := kb BK1020 hb
   replace BK1029 := kb BK1029 hb
   replace BK1037 := kb BK1037 hb
   replace HB := am (below_step bl hb)
   clear hb
   obtain ⟨Ao53, co53, eo53⟩ := Kd.R_slice HO1040.out
   (first | subst eo53 | (injection eo53 with f1_ f2_ f3_; have f4_ := f1_.symm; have f5_ := f3_.symm; clear f1_ f2_ f3_; subst f4_; subst f5_))
   refine hK.out _ _ ⟨bc BK1037, bc BK1037, bc BK1037, bc BK1037, bc BK1037, bc BK1037⟩ (fun hHeld => ?_)
   clear hK K
   refine nm 46 ?_
   refine pu 3 47 [4, 7] ?_
   refine pu 4 48 [5, 6] ?_
   refine pu 5 49 [6, 5] ?_
   refine pu 7 51 [6, 1, 1, 3] ?_
   refine og 6 50 [8, 3] Tryz.func26 #[.slice Ao53 t1038.length co53] (fun K hK => ?_)
   with_reducible refine (impl_CcOf.calls kj8 _ _ t1038 t1047 t1048 t1049 t1050 t1051 t1052 _ ?side1 ?side2 ?side3 ?side4 ?side5 A35.out).mono ?_
   (case side1 => exact GLOBE.below HGE.out bl)
   (case side2 => exact GLOBM.below HGM.out bl)
   (case side3 => exact GLOBT.below HGT.out bl)
   (case side4 => exact rc HO1040)
   (case side5 => exact (Kd.R_reads' HO1040.out).2.1)
   rintro e w54 ⟨rfl, hb⟩
   refine ⟨_, rfl, ?_⟩
   replace HO1040 := kr HO1040 hb
   replace BK1020 := kb BK1020 hb
   replace BK1029 := kb BK1029 hb
   replace BK1037 := kb BK1037 hb
   replace HB := am (below_step bl hb)
   clear hb
   refine hK.out _ _ ⟨bc BK1037, bc BK1037, bc BK1037, bc BK1037, bc BK1037, bc BK1037⟩ (fun hHeld => ?_)
   clear hK K
   refine nm 50 ?_
   refine og 8 52 [9, 2] Tryz.func27 #[.slice Ao53 t1038.length co53] (fun K hK => ?_)
   with_reducible refine (spec_CcOf.calls kj8 _ _ t1038 t1053 t1054 t1055 t1056 t1057 t1058 _ ?side1 ?side2 A36.out).mono ?_
   (case side1 => exact rc HO1040)
   (case side2 => exact (Kd.R_reads' HO1040.out).2.1)
   rintro e w55 ⟨rfl, hb⟩
   refine ⟨_, rfl, ?_⟩
   replace HO1040 := kr HO1040 hb
   replace BK1020 := kb BK1020 hb
   replace BK1029 := kb BK1029 hb
   replace BK1037 := kb BK1037 hb
   replace HB := am (below_step bl hb)
   clear hb
   refine hK.out _ _ ⟨bc BK1037, bc BK1037, bc BK1037, bc BK1037, bc BK1037, bc BK1037⟩ (fun hHeld => ?_)
   clear hK K
   refine nm 52 ?_
   refine pu 9 53 [10, 1] ?_
   refine pu 10 54 [11] ?_
   refine done_ (done_of HT_.out (by kernel_rfl)) ?_
   try go_wp2_with ((with_reducible refine gw ?_); first | (refine gl 57 Tryz.func22 #[.string (t1030 ++ (⟨#[44, 32, 109, 97, 120, 45, 97, 103, 101, 61, 51]⟩ : ByteArray))] ?_; (with_reducible refine (impl_CcRead.calls kj8 (t1030 ++ (⟨#[44, 32, 109, 97, 120, 45, 97, 103, 101, 61, 51]⟩ : ByteArray)) t1059 t1060 t1061 t1062 true t1064 _ ?side1 ?side2 ?side3 A39.out).mono ?_); (case side1 => exact GLOBE.below HGE.out bl); (case side2 => exact GLOBM.below HGM.out bl); (case side3 => exact GLOBT.below HGT.out bl); rintro e w56 ⟨rfl, hb⟩; refine ⟨_, rfl, ?_⟩; replace HO1040 := kr HO1040 hb; replace BK1020 := kb BK1020 hb; replace BK1029 := kb BK1029 hb; replace BK1037 := kb BK1037 hb; replace HB := am (below_step bl hb); clear hb) | (refine bx 9 #[.bool false, .bool false, .bool false, .bool false, .bool false, .int .i64 0] 42 ?_; intro gb1065 hg w57 hbox hb; replace HO1040 := am (Kd.R_below (ro HO1040) hb); have BK1065 := am (hbox); have GW1065 := am (sz hg : w.heap.size ≤ gb1065); have GE1065 := am (sz hg : w.heap.size ≤ gb1065); replace HB := am (below_step bl hb); have NB1020_1065 := am (nl hg BK1020 : gb1020 ≠ gb1065); have NB1065_1020 := am (ng hg BK1020 : gb1065 ≠ gb1020); replace BK1020 := kb BK1020 hb; have NB1029_1065 := am (nl hg BK1029 : gb1029 ≠ gb1065); have NB1065_1029 := am (ng hg BK1029 : gb1065 ≠ gb1029); replace BK1029 := kb BK1029 hb; have NB1037_1065 := am (nl hg BK1037 : gb1037 ≠ gb1065); have NB1065_1037 := am (ng hg BK1037 : gb1065 ≠ gb1037); replace BK1037 := kb BK1037 hb; clear hb hbox hg; have hnb58 := NB1065_1020.out; have hnc58 := NB1020_1065.out; have hnb59 := NB1065_1029.out; have hnc59 := NB1029_1065.out; have hnb60 := NB1065_1037.out; have hnc60 := NB1037_1065.out; obtain ⟨z61_0, y61_0, z61_1, y61_1, z61_2, y61_2, z61_3, y61_3, z61_4, y61_4, z61_5, y61_5⟩ := cl6 BK1065; obtain ⟨z62_0, y62_0, z62_1, y62_1, z62_2, y62_2, z62_3, y62_3, z62_4, y62_4, z62_5, y62_5⟩ := cl6 BK1037))
   go_ret
   exact ⟨rf, bl⟩

end Go.Proofs.YtjlpjbkpmmpojaaGreatDoor.All
