-- Written by a program of this session (wip/tools/hprint.py) out of the translation. Lean checks it.
import Derived.Test.YtkgdcfaogdmcgaaDoorAllx0
import Derived.Test.YtkgdcfaogdmcgaaDoorAllx18
import Derived.Test.YtkgdcfaogdmcgaaDoorAllx21
import Derived.Test.YtkgdcfaogdmcgaaDoorAllx22
namespace Go.Proofs.YtkgdcfaogdmcgaaDoor.All
open Go.RowKit Go.Proofs.YtkgdcfaogdmcgaaDoorW.PrintWords Go.Proofs.YtkgdcfaogdmcgaaDoorW.PrintLast Go.Proofs.YtkgdcfaogdmcgaaDoorW.PrintMore
attribute [local go_sem] max2_int min2_int max_two min_two max_three min_three max_four min_four   -- for this text's walks alone
set_option linter.unusedVariables false
set_option linter.unusedSimpArgs false

/-! ### laws_FnExactReqRead: function 7 -/
theorem u7HB {p : Prop} (h : p := by repeat (first | (with_reducible first | exact HB.out | apply below_alloc | apply pw_below_drewN | apply below_drew1 | refine below_set ?_ GE1161.out | refine below_set ?_ GE1169.out | refine below_set ?_ GE1181.out) | exact HB.out)) : p := h
mutual
def laws_FnExactReqRead.j0 : Nat → ByteArray → Bool → Bool → Int → ByteArray → List (S84) → ByteArray → Int → ByteArray → List (S84) → ByteArray → Option (Bool)
 | 0, _, _, _, _, _, _, _, _, _, _, _ => none
 | k + 1, x0, x4, x32, x1162000, x1162001, x1162002, x1162003, x1170000, x1170001, x1170002, x1170003 => if x32 = true then (some false) else ((laws_markReq.f k x1170000 x1170001 x1170002 x1170003 1).bind fun bt1171 => ((laws_heldReq.f k x1170000 x1170001 bt1171.2 x1170003 1).bind fun t1173 => (if t1173 < 0 then (some false) else (if t1173 = bt1171.1 then ((impl_ReqRead.f k x0).bind fun bt1174 => ((laws_eqReq.f k bt1174.1 bt1174.2.1 bt1174.2.2.1 bt1174.2.2.2.1 x1162000 x1162001 x1162002 x1162003).bind fun t1182 => (if t1182 = true then (laws_FnExactReqRead.j1 k bt1171.1 (bt1174.2.2.2.2 != x4) x1170000 x1170001 bt1171.2 x1170003) else (laws_FnExactReqRead.j1 k bt1171.1 true x1170000 x1170001 bt1171.2 x1170003)))) else (some false)))))
def laws_FnExactReqRead.j1 : Nat → Int → Bool → Int → ByteArray → List (S84) → ByteArray → Option (Bool)
 | 0, _, _, _, _, _, _ => none
 | k + 1, x7, x57, x1170000, x1170001, x1170002, x1170003 => if x57 = true then (some false) else ((laws_heldReq.f k x1170000 x1170001 x1170002 x1170003 1).bind fun t1183 => (if t1183 < 0 then (some false) else (if t1183 = x7 then (some true) else (some false))))
end
def laws_FnExactReqRead.f (k : Nat) (a0 : ByteArray) : Option (Bool) := if (a0.size : Int) > 1048576 then (some true) else ((spec_ReqRead.f k a0).bind fun bt1154 => ((impl_ReqRead.f k a0).bind fun bt1162 => ((laws_eqReq.f k bt1162.1 bt1162.2.1 bt1162.2.2.1 bt1162.2.2.2.1 bt1154.1 bt1154.2.1 bt1154.2.2.1 bt1154.2.2.2.1).bind fun t1170 => (if t1170 = true then (laws_FnExactReqRead.j0 k a0 bt1154.2.2.2.2 (bt1162.2.2.2.2 != bt1154.2.2.2.2) bt1154.1 bt1154.2.1 bt1154.2.2.1 bt1154.2.2.2.1 bt1162.1 bt1162.2.1 bt1162.2.2.1 bt1162.2.2.2.1) else (laws_FnExactReqRead.j0 k a0 bt1154.2.2.2.2 true bt1154.1 bt1154.2.1 bt1154.2.2.1 bt1154.2.2.2.1 bt1162.1 bt1162.2.1 bt1162.2.2.1 bt1162.2.2.2.1)))))
theorem laws_FnExactReqRead.mono_l : ∀ k, (∀ y0 y1 y2 y3 y4 y5 y6 y7 y8 y9 y10, LeO (laws_FnExactReqRead.j0 k y0 y1 y2 y3 y4 y5 y6 y7 y8 y9 y10) (laws_FnExactReqRead.j0 (k + 1) y0 y1 y2 y3 y4 y5 y6 y7 y8 y9 y10)) ∧ (∀ y0 y1 y2 y3 y4 y5, LeO (laws_FnExactReqRead.j1 k y0 y1 y2 y3 y4 y5) (laws_FnExactReqRead.j1 (k + 1) y0 y1 y2 y3 y4 y5))
 | 0 => ⟨fun _ _ _ _ _ _ _ _ _ _ _ r h => by simp [laws_FnExactReqRead.j0] at h, fun _ _ _ _ _ _ r h => by simp [laws_FnExactReqRead.j1] at h⟩
 | k + 1 => by
  obtain ⟨ih0, ih1⟩ := laws_FnExactReqRead.mono_l k
  refine ⟨?_, ?_⟩
  ·intro y0 y1 y2 y3 y4 y5 y6 y7 y8 y9 y10
   unfold laws_FnExactReqRead.j0
   have m0 := @impl_ReqRead.mono
   have m1 := @laws_eqReq.mono
   have m2 := @laws_heldReq.mono
   have m3 := @laws_markReq.mono
   have m4 := @spec_ReqRead.mono
   exact mo
  ·intro y0 y1 y2 y3 y4 y5
   unfold laws_FnExactReqRead.j1
   have m0 := @impl_ReqRead.mono
   have m1 := @laws_eqReq.mono
   have m2 := @laws_heldReq.mono
   have m3 := @laws_markReq.mono
   have m4 := @spec_ReqRead.mono
   exact mo
theorem laws_FnExactReqRead.mono : ∀ a0 k, LeO (laws_FnExactReqRead.f k a0) (laws_FnExactReqRead.f (k + 1) a0) := by
 intro a0 k
 obtain ⟨ih0, ih1⟩ := laws_FnExactReqRead.mono_l k
 unfold laws_FnExactReqRead.f
 have m0 := @impl_ReqRead.mono
 have m1 := @laws_eqReq.mono
 have m2 := @laws_heldReq.mono
 have m3 := @laws_markReq.mono
 have m4 := @spec_ReqRead.mono
 exact mo
set_option maxHeartbeats 8000000 in
set_option maxRecDepth 100000 in
theorem laws_FnExactReqRead.calls (k : Nat) (a0 : ByteArray) (r : Bool) (w : World) (hGM : GLOBM w) (hGT : GLOBT w) (ht_ : r = true) (h : laws_FnExactReqRead.f k a0 = some r) :
  Calls Tryd.prog 7 #[.string a0] w fun e w' => e = .returned (.bool r) ∧ Below w.heap.size w w' := by
 have hu26 := Tryd.underlying26
 have HGM := am hGM
 clear hGM
 have HGT := am hGT
 clear hGT
 have HB := am (Below.refl w.heap.size w)
 unfold laws_FnExactReqRead.f at h
 have H := h
 clear h
 by_cases c2 : (a0.size : Int) > 1048576
 ·rw [if_pos c2] at H
  have c2b0 := decide_eq_true c2
  have c2b1 : decide (1048576 < a0.size) = true := decide_eq_true (by omega)
  clear c2
  obtain rfl := Option.some.inj H
  go_enter Tryd.func7, Tryd.ntmps7
  go_wp2
  go_ret
  exact ⟨rf, bl⟩
 rw [if_neg c2] at H
 have c2b0 := decide_eq_false c2
 have c2b1 : decide (1048576 < a0.size) = false := decide_eq_false (by omega)
 clear c2
 revert H
 refine ok5 fun t1154 t1155 t1156 t1159 t1160 A3 H => ?_
 (try dsimp only at H)
 revert H
 refine ok5 fun t1162 t1163 t1164 t1167 t1168 A4 H => ?_
 (try dsimp only at H)
 have HC5 := am H
 clear H
 go_enter Tryd.func7, Tryd.ntmps7
 go_upto_region 5 with (first | (refine gl 16 Tryd.func37 #[.string a0] ?_; (with_reducible refine (spec_ReqRead.calls k a0 t1154 t1155 t1156 t1159 t1160 _ A3.out).mono ?_); rintro e w6 ⟨v1157, rfl, ho0, hb⟩; refine ⟨_, rfl, ?_⟩; have HO1158 := am (Kd.R_lower ho0 (below_size bl)); replace HB := am (below_step bl hb); clear hb ho0) | (refine bx 3 #[.int .i64 0, .string (⟨#[]⟩ : ByteArray), .slice none 0 0, .string (⟨#[]⟩ : ByteArray)] 26 ?_; intro gb1161 hg w7 hbox hb; replace HO1158 := am (Kd.R_below (ro HO1158) hb); have BK1161 := am (hbox); have GW1161 := am (sz hg : w.heap.size ≤ gb1161); have GE1161 := am (sz hg : w.heap.size ≤ gb1161); replace HB := am (below_step bl hb); clear hb hbox hg; obtain ⟨z8_0, y8_0, z8_1, y8_1, z8_2, y8_2, z8_3, y8_3⟩ := cl4 BK1161; obtain ⟨Ao9, co9, eo9⟩ := Kd.R_slice HO1158.out; subst eo9) | (refine gl 21 Tryd.func38 #[.string a0] ?_; (with_reducible refine (impl_ReqRead.calls k a0 t1162 t1163 t1164 t1167 t1168 _ ?side1 ?side2 A4.out).mono ?_); (case side1 => exact GLOBM.below HGM.out bl); (case side2 => exact GLOBT.below HGT.out bl); rintro e w10 ⟨v1165, rfl, ho0, hb⟩; refine ⟨_, rfl, ?_⟩; have n0_ := am (Kd.R_elder' (by (with_reducible repeat (first | apply Kd.R_alloc | apply Kd.R_drewN | apply Kd.R_drew)); exact (Kd.R_mono (Kd.R_far (p := ⟨gb1161, 3, none⟩) (Kd.R_far (p := ⟨gb1161, 2, none⟩) (Kd.R_far (p := ⟨gb1161, 1, none⟩) (Kd.R_far (p := ⟨gb1161, 0, none⟩) (Kd.R_types HO1158.out BK1161.out (by decide)) (fun _ hk => hk.2) (.int .i64 t1154)) (fun _ hk => hk.2) (.string t1155)) (fun _ hk => hk.2) (.slice Ao9 t1156.length co9)) (fun _ hk => hk.2) (.string t1159)) (fun _ h_ => h_.1))) (Kd.R_base ho0) hb); have n1_ := am (Kd.R_lower (Kd.R_new' ho0 (Kd.R_lt (by (with_reducible repeat (first | apply Kd.R_alloc | apply Kd.R_drewN | apply Kd.R_drew)); exact (Kd.R_mono (Kd.R_far (p := ⟨gb1161, 3, none⟩) (Kd.R_far (p := ⟨gb1161, 2, none⟩) (Kd.R_far (p := ⟨gb1161, 1, none⟩) (Kd.R_far (p := ⟨gb1161, 0, none⟩) (Kd.R_types HO1158.out BK1161.out (by decide)) (fun _ hk => hk.2) (.int .i64 t1154)) (fun _ hk => hk.2) (.string t1155)) (fun _ hk => hk.2) (.slice Ao9 t1156.length co9)) (fun _ hk => hk.2) (.string t1159)) (fun _ h_ => h_.1))))) (below_size bl)); have n2_ := am (blk_below (g := gb1161) (o := .cells #[.int .i64 t1154, .string t1155, .slice Ao9 t1156.length co9, .string t1159] 26 (0, 0)) (pt0 BK1161) hb); have n3_ := am (below_step bl hb); clear HO1158; clear BK1161; clear HB; have HO1158 := n0_; have HO1166 := n1_; have BK1161 := n2_; have HB := n3_; clear n0_ n1_ n2_ n3_; clear hb ho0) | (refine bx 5 #[.int .i64 0, .string (⟨#[]⟩ : ByteArray), .slice none 0 0, .string (⟨#[]⟩ : ByteArray)] 26 ?_; intro gb1169 hg w11 hbox hb; replace HO1158 := am (Kd.R_below (ro HO1158) hb); replace HO1166 := am (Kd.R_below (ro HO1166) hb); have BK1169 := am (hbox); have GW1169 := am (sz hg : w.heap.size ≤ gb1169); have GE1169 := am (sz hg : w.heap.size ≤ gb1169); replace HB := am (below_step bl hb); have NB1161_1169 := am (nl hg BK1161 : gb1161 ≠ gb1169); have NB1169_1161 := am (ng hg BK1161 : gb1169 ≠ gb1161); replace BK1161 := kb BK1161 hb; clear hb hbox hg; have hnb12 := NB1169_1161.out; have hnc12 := NB1161_1169.out; obtain ⟨z13_0, y13_0, z13_1, y13_1, z13_2, y13_2, z13_3, y13_3⟩ := cl4 BK1169; obtain ⟨Ao14, co14, eo14⟩ := Kd.R_slice HO1166.out; subst eo14))
 (try simp only [Act.put, List.setIfInBounds_toArray, List.set_cons_zero, List.set_cons_succ])
 go_cut [32] (fun v32 wc => ∃ (kq : Nat) (x32_4 : Bool), v32 = .bool x32_4 ∧ Aside0 (laws_FnExactReqRead.j0 kq a0 t1160 x32_4 t1154 t1155 t1156 t1159 t1162 t1163 t1164 t1167 = some r) ∧ Aside0 (kq ≤ k) ∧ Aside0 (Kd.R k84 84 wc w.heap.size (fun k_ => some k_ ≠ ((.slice Ao14 t1164.length co14) : Value).ownBlock) (.slice Ao9 t1156.length co9) t1156) ∧ Aside0 (Kd.R k84 84 wc w.heap.size (fun k_ => some k_ ≠ ((.slice Ao9 t1156.length co9) : Value).ownBlock) (.slice Ao14 t1164.length co14) t1164) ∧ Aside0 (wc.heap[gb1161]? = some (.cells #[.int .i64 t1154, .string t1155, (.slice Ao9 t1156.length co9), .string t1159] 26 (0, 0))) ∧ Aside0 (wc.heap[gb1169]? = some (.cells #[.int .i64 t1162, .string t1163, (.slice Ao14 t1164.length co14), .string t1167] 26 (0, 0))) ∧ Aside0 (Below w.heap.size w wc))
 case first =>
  have H := HC5.out
  clear HC5
  revert H
  refine ok1 fun t1170 A15 H => ?_
  by_cases c16 : t1170 = true
  rotate_left
  ·replace c16 := Bool.eq_false_iff.mpr c16
   subst c16
   rw [if_neg (show ¬ (false = true) by decide)] at H
   cases k with
   | zero => exact absurd H (by simp [laws_FnExactReqRead.j0])
   | succ k_ => simp only [laws_FnExactReqRead.j0, if_true] at H; exact absurd (Option.some.inj H) (by rw [ht_]; decide)
  subst c16
  rw [if_pos rfl] at H
  have H' := am H
  clear H
  have hnb17 := NB1169_1161.out
  have hnc17 := NB1161_1169.out
  obtain ⟨z18_0, y18_0, z18_1, y18_1, z18_2, y18_2, z18_3, y18_3⟩ := cl4 BK1169
  obtain ⟨z19_0, y19_0, z19_1, y19_1, z19_2, y19_2, z19_3, y19_3⟩ := cl4 BK1161
  go_wp2_with (first | (refine gl 26 Tryd.func26 #[.agg #[.int .i64 t1162, .string t1163, .slice Ao14 t1164.length co14, .string t1167], .agg #[.int .i64 t1154, .string t1155, .slice Ao9 t1156.length co9, .string t1159]] ?_; (with_reducible refine (laws_eqReq.calls k t1162 t1163 _ _ t1164 t1167 t1154 t1155 _ _ t1156 t1159 true _ ?side1 ?side2 ?side3 ?side4 A15.out).mono ?_); (case side1 => refine (Kd.R_reads' (e := 84) (base := w.heap.size) (ok := fun k_ => (True ∧ some k_ ≠ (.slice Ao9 t1156.length co9 : Value).ownBlock)) (n := t1164.length) (c := co14) ?_).2.2; exact (by (with_reducible repeat (first | apply Kd.R_alloc | apply Kd.R_drewN | apply Kd.R_drew)); exact (Kd.R_mono (Kd.R_far (p := ⟨gb1169, 3, none⟩) (Kd.R_far (p := ⟨gb1169, 2, none⟩) (Kd.R_far (p := ⟨gb1169, 1, none⟩) (Kd.R_far (p := ⟨gb1169, 0, none⟩) (Kd.R_types HO1166.out BK1169.out (by decide)) (fun _ hk => hk.2) (.int .i64 t1162)) (fun _ hk => hk.2) (.string t1163)) (fun _ hk => hk.2) (.slice Ao14 t1164.length co14)) (fun _ hk => hk.2) (.string t1167)) (fun _ h_ => h_.1)))); (case side2 => exact (Kd.R_reads' HO1166.out).2.1); (case side3 => refine (Kd.R_reads' (e := 84) (base := w.heap.size) (ok := fun k_ => (True ∧ some k_ ≠ (.slice Ao14 t1164.length co14 : Value).ownBlock)) (n := t1156.length) (c := co9) ?_).2.2; exact (by (with_reducible repeat (first | apply Kd.R_alloc | apply Kd.R_drewN | apply Kd.R_drew)); exact (Kd.R_mono (Kd.R_far (p := ⟨gb1169, 3, none⟩) (Kd.R_far (p := ⟨gb1169, 2, none⟩) (Kd.R_far (p := ⟨gb1169, 1, none⟩) (Kd.R_far (p := ⟨gb1169, 0, none⟩) (Kd.R_types HO1158.out BK1169.out (by decide)) (fun _ hk => hk.2) (.int .i64 t1162)) (fun _ hk => hk.2) (.string t1163)) (fun _ hk => hk.2) (.slice Ao14 t1164.length co14)) (fun _ hk => hk.2) (.string t1167)) (fun _ h_ => h_.1)))); (case side4 => exact (Kd.R_reads' HO1158.out).2.1); rintro e w20 ⟨rfl, hb⟩; refine ⟨_, rfl, ?_⟩; have n0_ := am (Kd.R_below (by (with_reducible repeat (first | apply Kd.R_alloc | apply Kd.R_drewN | apply Kd.R_drew)); exact (Kd.R_mono (Kd.R_far (p := ⟨gb1169, 3, none⟩) (Kd.R_far (p := ⟨gb1169, 2, none⟩) (Kd.R_far (p := ⟨gb1169, 1, none⟩) (Kd.R_far (p := ⟨gb1169, 0, none⟩) (Kd.R_types HO1158.out BK1169.out (by decide)) (fun _ hk => hk.2) (.int .i64 t1162)) (fun _ hk => hk.2) (.string t1163)) (fun _ hk => hk.2) (.slice Ao14 t1164.length co14)) (fun _ hk => hk.2) (.string t1167)) (fun _ h_ => h_.1))) hb); have n1_ := am (Kd.R_below (by (with_reducible repeat (first | apply Kd.R_alloc | apply Kd.R_drewN | apply Kd.R_drew)); exact (Kd.R_mono (Kd.R_far (p := ⟨gb1169, 3, none⟩) (Kd.R_far (p := ⟨gb1169, 2, none⟩) (Kd.R_far (p := ⟨gb1169, 1, none⟩) (Kd.R_far (p := ⟨gb1169, 0, none⟩) (Kd.R_types HO1166.out BK1169.out (by decide)) (fun _ hk => hk.2) (.int .i64 t1162)) (fun _ hk => hk.2) (.string t1163)) (fun _ hk => hk.2) (.slice Ao14 t1164.length co14)) (fun _ hk => hk.2) (.string t1167)) (fun _ h_ => h_.1))) hb); have n2_ := kg1 BK1161 NB1161_1169 hb; have n3_ := am (blk_below (g := gb1169) (o := .cells #[.int .i64 t1162, .string t1163, .slice Ao14 t1164.length co14, .string t1167] 26 (0, 0)) (pt0 BK1169) hb); have n4_ := am (below_step bl hb); clear HO1158; clear HO1166; clear BK1161; clear BK1169; clear HB; have HO1158 := n0_; have HO1166 := n1_; have BK1161 := n2_; have BK1169 := n3_; have HB := n4_; clear n0_ n1_ n2_ n3_ n4_; clear hb))
  go_meet
  case rel => exact ⟨_, ((t1168 != t1160)), rs, H', ⟨by first | omega | exact Nat.le_refl _⟩, ⟨by (with_reducible repeat (first | apply Kd.R_alloc | apply Kd.R_drewN | apply Kd.R_drew)); exact Kd.R_mono HO1158.out (fun _ hk => hk.2)⟩, ⟨by (with_reducible repeat (first | apply Kd.R_alloc | apply Kd.R_drewN | apply Kd.R_drew)); exact Kd.R_mono HO1166.out (fun _ hk => hk.2)⟩, ⟨by (with_reducible repeat (first | refine blk_drewN ?_ _ | refine blk_drew ?_ | refine blk_alloc ?_ _)); exact BK1161.out⟩, ⟨by (with_reducible repeat (first | refine blk_drewN ?_ _ | refine blk_drew ?_ | refine blk_alloc ?_ _)); exact BK1169.out⟩, ⟨u7HB⟩⟩
 case rest =>
  clear HC5
  try clear c1
  try clear c2
  try clear c2b0
  try clear c2b1
  try clear p2
  try clear c3
  try clear c7
  try clear c12
  try clear c16
  try clear c17
  try clear z13_0
  try clear z13_1
  try clear z13_2
  try clear z13_3
  try clear z18_0
  try clear z18_1
  try clear z18_2
  try clear z18_3
  try clear z19_0
  try clear z19_1
  try clear z19_2
  try clear z19_3
  try clear z8_0
  try clear z8_1
  try clear z8_2
  try clear z8_3
  try clear y13_0
  try clear y13_1
  try clear y13_2
  try clear y13_3
  try clear y18_0
  try clear y18_1
  try clear y18_2
  try clear y18_3
  try clear y19_0
  try clear y19_1
  try clear y19_2
  try clear y19_3
  try clear y8_0
  try clear y8_1
  try clear y8_2
  try clear y8_3
  obtain ⟨kq, x32_4, rfl, HA, HJ4, HO_1162002, HO_1170002, BK1161, BK1169, HB⟩ := hcut
  cases kq with
  | zero => exact absurd HA.out (by simp [laws_FnExactReqRead.j0])
  | succ kj4 =>
   have H := HA.out
   clear HA
   simp only [laws_FnExactReqRead.j0] at H
   by_cases c21 : x32_4 = true
   ·subst c21
    rw [if_pos rfl] at H
    exact absurd (Option.some.inj H) (by rw [ht_]; decide)
   replace c21 := Bool.eq_false_iff.mpr c21
   subst c21
   rw [if_neg (show ¬ (false = true) by decide)] at H
   revert H
   refine ok2 fun t1171 t1172 A22 H => ?_
   (try dsimp only at H)
   revert H
   refine ok1 fun t1173 A23 H => ?_
   by_cases c24 : t1173 < 0
   ·rw [if_pos c24] at H
    have c24b0 := decide_eq_true c24
    clear c24
    exact absurd (Option.some.inj H) (by rw [ht_]; decide)
   rw [if_neg c24] at H
   have c24b0 := decide_eq_false c24
   clear c24
   by_cases c25 : t1173 = t1171
   rotate_left
   ·rw [if_neg c25] at H
    have c25b0 : (t1173 == t1171) = false := beq_eq_false_iff_ne.mpr c25
    have c25b1 : (t1173 != t1171) = true := bne_iff_ne.mpr c25
    exact absurd (Option.some.inj H) (by rw [ht_]; decide)
   rw [if_pos c25] at H
   have c25b0 : (t1173 == t1171) = true := beq_iff_eq.mpr c25
   have c25b1 : (t1173 != t1171) = false := bne_eq_false_iff_eq.mpr c25
   clear c25
   revert H
   refine ok5 fun t1174 t1175 t1176 t1179 t1180 A26 H => ?_
   (try dsimp only at H)
   have HC27 := am H
   clear H
   have hnb28 := NB1169_1161.out
   have hnc28 := NB1161_1169.out
   obtain ⟨z29_0, y29_0, z29_1, y29_1, z29_2, y29_2, z29_3, y29_3⟩ := cl4 BK1169
   go_upto_region 16 with (first | (refine gl 35 Tryd.func39 #[.agg #[.int .i64 t1162, .string t1163, .slice Ao14 t1164.length co14, .string t1167], .int .i64 1] ?_; (with_reducible refine (laws_markReq.calls kj4 t1162 t1163 (fun k_ => some k_ = (.slice Ao14 t1164.length co14 : Value).ownBlock) (.slice Ao14 t1164.length co14) t1164 t1167 1 t1171 t1172 w _ ?side1 ?side2 A22.out).mono ?_); (case side1 => exact u7HB); (case side2 => exact Kd.R_tight rfl HO_1170002.out); rintro e w30 ⟨rfl, hy0, hb, hkp⟩; refine ⟨_, rfl, ?_⟩; replace HO_1162002 := am (Kd.R_mono (ok' := fun k_ => some k_ ≠ (.slice Ao14 t1164.length co14 : Value).ownBlock) (Kd.R_keptB (HO_1162002.out) hkp (fun k_ hk_ hs_ => (hk_) hs_)) (fun k_ hk_ => hk_.1)); replace BK1161 := am (blk_kept (bk BK1161) hkp (fun hs_ => (fun e_ => (Kd.R_ne HO_1170002.out BK1161.out (by decide)) e_) hs_)); replace BK1169 := am (blk_kept (bk BK1169) hkp (fun hs_ => (fun e_ => (Kd.R_ne HO_1170002.out BK1169.out (by decide)) e_) hs_)); replace HO_1170002 := am (Kd.R_reok rfl hy0 (fun k_ e_ => HO_1170002.out.1 k_ e_)); replace HB := am (hb); clear hb; (try clear hkp); (try clear hy0); obtain ⟨z31_0, y31_0, z31_1, y31_1, z31_2, y31_2, z31_3, y31_3⟩ := cl4 BK1169) | (refine gl 38 Tryd.func40 #[.agg #[.int .i64 t1162, .string t1163, .slice Ao14 t1172.length co14, .string t1167], .int .i64 1] ?_ (hargs := (by (try simp only [List.map_toArray, List.map_cons, List.map_nil]); first | done | (rw [show t1172.length = t1164.length from (Kd.R_reads' HO_1170002.out).1.symm] <;> rfl) | rfl | (simp only [List.length_drop, List.length_take]; rfl))); (with_reducible refine (laws_heldReq.calls kj4 t1162 t1163 _ _ t1172 t1167 1 t1173 _ ?side1 ?side2 A23.out).mono ?_); (case side1 => exact rc HO_1170002); (case side2 => rw [show t1172.length = t1164.length from (Kd.R_reads' HO_1170002.out).1.symm]; exact (Kd.R_reads' HO_1170002.out).2.1); rintro e w32 ⟨rfl, hb⟩; refine ⟨_, rfl, ?_⟩; replace HO_1162002 := kr HO_1162002 hb; replace HO_1170002 := kr HO_1170002 hb; replace BK1161 := kb BK1161 hb; replace BK1169 := kb BK1169 hb; replace HB := am (below_step bl hb); clear hb) | (refine gl 46 Tryd.func38 #[.string a0] ?_; (with_reducible refine (impl_ReqRead.calls kj4 a0 t1174 t1175 t1176 t1179 t1180 _ ?side1 ?side2 A26.out).mono ?_); (case side1 => exact GLOBM.below HGM.out bl); (case side2 => exact GLOBT.below HGT.out bl); rintro e w33 ⟨v1177, rfl, ho0, hb⟩; refine ⟨_, rfl, ?_⟩; have HO1178 := am (Kd.R_lower (Kd.R_new' (Kd.R_new' ho0 (Kd.R_lt (ro HO_1162002))) (Kd.R_lt (ro HO_1170002))) (below_size bl)); replace HO_1162002 := am (Kd.R_elder' (ro HO_1162002) (Kd.R_base ho0) hb); replace HO_1170002 := am (Kd.R_elder' (ro HO_1170002) (Kd.R_base ho0) hb); replace BK1161 := kb BK1161 hb; replace BK1169 := kb BK1169 hb; replace HB := am (below_step bl hb); clear hb ho0) | (refine bx 9 #[.int .i64 0, .string (⟨#[]⟩ : ByteArray), .slice none 0 0, .string (⟨#[]⟩ : ByteArray)] 26 ?_; intro gb1181 hg w34 hbox hb; replace HO_1162002 := am (Kd.R_below (ro HO_1162002) hb); replace HO_1170002 := am (Kd.R_below (ro HO_1170002) hb); replace HO1178 := am (Kd.R_below (ro HO1178) hb); have BK1181 := am (hbox); have GW1181 := am (sz hg : w.heap.size ≤ gb1181); have GE1181 := am (sz hg : w.heap.size ≤ gb1181); replace HB := am (below_step bl hb); have NB1161_1181 := am (nl hg BK1161 : gb1161 ≠ gb1181); have NB1181_1161 := am (ng hg BK1161 : gb1181 ≠ gb1161); replace BK1161 := kb BK1161 hb; have NB1169_1181 := am (nl hg BK1169 : gb1169 ≠ gb1181); have NB1181_1169 := am (ng hg BK1169 : gb1181 ≠ gb1169); replace BK1169 := kb BK1169 hb; clear hb hbox hg; have hnb35 := NB1181_1161.out; have hnc35 := NB1161_1181.out; have hnb36 := NB1181_1169.out; have hnc36 := NB1169_1181.out; obtain ⟨z37_0, y37_0, z37_1, y37_1, z37_2, y37_2, z37_3, y37_3⟩ := cl4 BK1181; obtain ⟨Ao38, co38, eo38⟩ := Kd.R_slice HO1178.out; subst eo38))
   (try simp only [Act.put, List.setIfInBounds_toArray, List.set_cons_zero, List.set_cons_succ])
   go_cut [57] (fun v57 wc => ∃ (kq : Nat) (x57_26 : Bool), v57 = .bool x57_26 ∧ Aside0 (laws_FnExactReqRead.j1 kq t1171 x57_26 t1162 t1163 t1172 t1167 = some r) ∧ Aside0 (kq ≤ kj4) ∧ Aside0 (Kd.R k84 84 wc w.heap.size (fun k_ => some k_ ≠ ((.slice Ao14 t1164.length co14) : Value).ownBlock ∧ some k_ ≠ ((.slice Ao38 t1176.length co38) : Value).ownBlock) (.slice Ao9 t1156.length co9) t1156) ∧ Aside0 (Kd.R k84 84 wc w.heap.size (fun k_ => some k_ ≠ ((.slice Ao9 t1156.length co9) : Value).ownBlock ∧ some k_ ≠ ((.slice Ao38 t1176.length co38) : Value).ownBlock) (.slice Ao14 t1164.length co14) t1172) ∧ Aside0 (Kd.R k84 84 wc w.heap.size (fun k_ => some k_ ≠ ((.slice Ao9 t1156.length co9) : Value).ownBlock ∧ some k_ ≠ ((.slice Ao14 t1164.length co14) : Value).ownBlock) (.slice Ao38 t1176.length co38) t1176) ∧ Aside0 (wc.heap[gb1161]? = some (.cells #[.int .i64 t1154, .string t1155, (.slice Ao9 t1156.length co9), .string t1159] 26 (0, 0))) ∧ Aside0 (wc.heap[gb1169]? = some (.cells #[.int .i64 t1162, .string t1163, (.slice Ao14 t1164.length co14), .string t1167] 26 (0, 0))) ∧ Aside0 (wc.heap[gb1181]? = some (.cells #[.int .i64 t1174, .string t1175, (.slice Ao38 t1176.length co38), .string t1179] 26 (0, 0))) ∧ Aside0 (Below w.heap.size w wc))
   case first =>
    have H := HC27.out
    clear HC27
    revert H
    refine ok1 fun t1182 A39 H => ?_
    by_cases c40 : t1182 = true
    rotate_left
    ·replace c40 := Bool.eq_false_iff.mpr c40
     subst c40
     rw [if_neg (show ¬ (false = true) by decide)] at H
     cases kj4 with
     | zero => exact absurd H (by simp [laws_FnExactReqRead.j1])
     | succ k_ => simp only [laws_FnExactReqRead.j1, if_true] at H; exact absurd (Option.some.inj H) (by rw [ht_]; decide)
    subst c40
    rw [if_pos rfl] at H
    have H' := am H
    clear H
    have hnb41 := NB1181_1161.out
    have hnc41 := NB1161_1181.out
    have hnb42 := NB1181_1169.out
    have hnc42 := NB1169_1181.out
    obtain ⟨z43_0, y43_0, z43_1, y43_1, z43_2, y43_2, z43_3, y43_3⟩ := cl4 BK1181
    have hnb44 := NB1161_1169.out
    have hnc44 := NB1169_1161.out
    obtain ⟨z45_0, y45_0, z45_1, y45_1, z45_2, y45_2, z45_3, y45_3⟩ := cl4 BK1161
    go_wp2_with (first | (refine gl 51 Tryd.func26 #[.agg #[.int .i64 t1174, .string t1175, .slice Ao38 t1176.length co38, .string t1179], .agg #[.int .i64 t1154, .string t1155, .slice Ao9 t1156.length co9, .string t1159]] ?_; (with_reducible refine (laws_eqReq.calls kj4 t1174 t1175 _ _ t1176 t1179 t1154 t1155 _ _ t1156 t1159 true _ ?side1 ?side2 ?side3 ?side4 A39.out).mono ?_); (case side1 => refine (Kd.R_reads' (e := 84) (base := w.heap.size) (ok := fun k_ => ((True ∧ some k_ ≠ (.slice Ao9 t1156.length co9 : Value).ownBlock) ∧ some k_ ≠ (.slice Ao14 t1164.length co14 : Value).ownBlock)) (n := t1176.length) (c := co38) ?_).2.2; exact (by (with_reducible repeat (first | apply Kd.R_alloc | apply Kd.R_drewN | apply Kd.R_drew)); exact (Kd.R_mono (Kd.R_far (p := ⟨gb1181, 3, none⟩) (Kd.R_far (p := ⟨gb1181, 2, none⟩) (Kd.R_far (p := ⟨gb1181, 1, none⟩) (Kd.R_far (p := ⟨gb1181, 0, none⟩) (Kd.R_types HO1178.out BK1181.out (by decide)) (fun _ hk => hk.2) (.int .i64 t1174)) (fun _ hk => hk.2) (.string t1175)) (fun _ hk => hk.2) (.slice Ao38 t1176.length co38)) (fun _ hk => hk.2) (.string t1179)) (fun _ h_ => h_.1)))); (case side2 => exact (Kd.R_reads' HO1178.out).2.1); (case side3 => refine (Kd.R_reads' (e := 84) (base := w.heap.size) (ok := fun k_ => (some k_ ≠ (.slice Ao14 t1164.length co14 : Value).ownBlock ∧ some k_ ≠ (.slice Ao38 t1176.length co38 : Value).ownBlock)) (n := t1156.length) (c := co9) ?_).2.2; exact (by (with_reducible repeat (first | apply Kd.R_alloc | apply Kd.R_drewN | apply Kd.R_drew)); exact (Kd.R_mono (Kd.R_far (p := ⟨gb1181, 3, none⟩) (Kd.R_far (p := ⟨gb1181, 2, none⟩) (Kd.R_far (p := ⟨gb1181, 1, none⟩) (Kd.R_far (p := ⟨gb1181, 0, none⟩) (Kd.R_types HO_1162002.out BK1181.out (by decide)) (fun _ hk => hk.2) (.int .i64 t1174)) (fun _ hk => hk.2) (.string t1175)) (fun _ hk => hk.2) (.slice Ao38 t1176.length co38)) (fun _ hk => hk.2) (.string t1179)) (fun _ h_ => h_.1)))); (case side4 => exact (Kd.R_reads' HO_1162002.out).2.1); rintro e w46 ⟨rfl, hb⟩; refine ⟨_, rfl, ?_⟩; have n0_ := am (Kd.R_below (by (with_reducible repeat (first | apply Kd.R_alloc | apply Kd.R_drewN | apply Kd.R_drew)); exact (Kd.R_mono (Kd.R_far (p := ⟨gb1181, 3, none⟩) (Kd.R_far (p := ⟨gb1181, 2, none⟩) (Kd.R_far (p := ⟨gb1181, 1, none⟩) (Kd.R_far (p := ⟨gb1181, 0, none⟩) (Kd.R_types HO_1162002.out BK1181.out (by decide)) (fun _ hk => hk.2) (.int .i64 t1174)) (fun _ hk => hk.2) (.string t1175)) (fun _ hk => hk.2) (.slice Ao38 t1176.length co38)) (fun _ hk => hk.2) (.string t1179)) (fun _ h_ => h_.1))) hb); have n1_ := am (Kd.R_below (by (with_reducible repeat (first | apply Kd.R_alloc | apply Kd.R_drewN | apply Kd.R_drew)); exact (Kd.R_mono (Kd.R_far (p := ⟨gb1181, 3, none⟩) (Kd.R_far (p := ⟨gb1181, 2, none⟩) (Kd.R_far (p := ⟨gb1181, 1, none⟩) (Kd.R_far (p := ⟨gb1181, 0, none⟩) (Kd.R_types HO_1170002.out BK1181.out (by decide)) (fun _ hk => hk.2) (.int .i64 t1174)) (fun _ hk => hk.2) (.string t1175)) (fun _ hk => hk.2) (.slice Ao38 t1176.length co38)) (fun _ hk => hk.2) (.string t1179)) (fun _ h_ => h_.1))) hb); have n2_ := am (Kd.R_below (by (with_reducible repeat (first | apply Kd.R_alloc | apply Kd.R_drewN | apply Kd.R_drew)); exact (Kd.R_mono (Kd.R_far (p := ⟨gb1181, 3, none⟩) (Kd.R_far (p := ⟨gb1181, 2, none⟩) (Kd.R_far (p := ⟨gb1181, 1, none⟩) (Kd.R_far (p := ⟨gb1181, 0, none⟩) (Kd.R_types HO1178.out BK1181.out (by decide)) (fun _ hk => hk.2) (.int .i64 t1174)) (fun _ hk => hk.2) (.string t1175)) (fun _ hk => hk.2) (.slice Ao38 t1176.length co38)) (fun _ hk => hk.2) (.string t1179)) (fun _ h_ => h_.1))) hb); have n3_ := kg1 BK1161 NB1161_1181 hb; have n4_ := kg1 BK1169 NB1169_1181 hb; have n5_ := am (blk_below (g := gb1181) (o := .cells #[.int .i64 t1174, .string t1175, .slice Ao38 t1176.length co38, .string t1179] 26 (0, 0)) (pt0 BK1181) hb); have n6_ := am (below_step bl hb); clear HO_1162002; clear HO_1170002; clear HO1178; clear BK1161; clear BK1169; clear BK1181; clear HB; have HO_1162002 := n0_; have HO_1170002 := n1_; have HO1178 := n2_; have BK1161 := n3_; have BK1169 := n4_; have BK1181 := n5_; have HB := n6_; clear n0_ n1_ n2_ n3_ n4_ n5_ n6_; clear hb))
    go_meet
    case rel => exact ⟨_, ((t1180 != t1160)), rs, H', ⟨by have := HJ4.out; first | omega | exact Nat.le_refl _⟩, ⟨by (with_reducible repeat (first | apply Kd.R_alloc | apply Kd.R_drewN | apply Kd.R_drew)); exact HO_1162002.out⟩, ⟨by (with_reducible repeat (first | apply Kd.R_alloc | apply Kd.R_drewN | apply Kd.R_drew)); exact HO_1170002.out⟩, ⟨by (with_reducible repeat (first | apply Kd.R_alloc | apply Kd.R_drewN | apply Kd.R_drew)); exact Kd.R_mono HO1178.out (fun _ hk => ⟨hk.1.2, hk.2⟩)⟩, ⟨by (with_reducible repeat (first | refine blk_drewN ?_ _ | refine blk_drew ?_ | refine blk_alloc ?_ _)); exact BK1161.out⟩, ⟨by (with_reducible repeat (first | refine blk_drewN ?_ _ | refine blk_drew ?_ | refine blk_alloc ?_ _)); exact BK1169.out⟩, ⟨by (with_reducible repeat (first | refine blk_drewN ?_ _ | refine blk_drew ?_ | refine blk_alloc ?_ _)); exact BK1181.out⟩, ⟨u7HB⟩⟩
   case rest =>
    clear HC27
    try clear c1
    try clear c2
    try clear c2b0
    try clear c2b1
    try clear p2
    try clear c3
    try clear c4
    try clear c7
    try clear c12
    try clear c16
    try clear c17
    try clear c21
    try clear c24
    try clear c24b0
    try clear c25
    try clear c25b0
    try clear c25b1
    try clear c26
    try clear c28
    try clear c35
    try clear c36
    try clear c37
    try clear c38
    try clear c39
    try clear c40
    try clear c41
    try clear c42
    try clear c44
    try clear z13_0
    try clear z13_1
    try clear z13_2
    try clear z13_3
    try clear z18_0
    try clear z18_1
    try clear z18_2
    try clear z18_3
    try clear z19_0
    try clear z19_1
    try clear z19_2
    try clear z19_3
    try clear z29_0
    try clear z29_1
    try clear z29_2
    try clear z29_3
    try clear z31_0
    try clear z31_1
    try clear z31_2
    try clear z31_3
    try clear z37_0
    try clear z37_1
    try clear z37_2
    try clear z37_3
    try clear z43_0
    try clear z43_1
    try clear z43_2
    try clear z43_3
    try clear z45_0
    try clear z45_1
    try clear z45_2
    try clear z45_3
    try clear z8_0
    try clear z8_1
    try clear z8_2
    try clear z8_3
    try clear y13_0
    try clear y13_1
    try clear y13_2
    try clear y13_3
    try clear y18_0
    try clear y18_1
    try clear y18_2
    try clear y18_3
    try clear y19_0
    try clear y19_1
    try clear y19_2
    try clear y19_3
    try clear y29_0
    try clear y29_1
    try clear y29_2
    try clear y29_3
    try clear y31_0
    try clear y31_1
    try clear y31_2
    try clear y31_3
    try clear y37_0
    try clear y37_1
    try clear y37_2
    try clear y37_3
    try clear y43_0
    try clear y43_1
    try clear y43_2
    try clear y43_3
    try clear y45_0
    try clear y45_1
    try clear y45_2
    try clear y45_3
    try clear y8_0
    try clear y8_1
    try clear y8_2
    try clear y8_3
    try clear p2
    obtain ⟨kq, x57_26, rfl, HA, HJ26, HO_1162002, HO_1170002, HO_1182002, BK1161, BK1169, BK1181, HB⟩ := hcut
    have hl1170002_26 := (Kd.R_reads' HO_1170002.out).1
    rw [hl1170002_26] at HO_1170002
    (try simp only [hl1170002_26])
    (try simp only [hl1170002_26] at BK1161)
    (try simp only [hl1170002_26] at BK1169)
    (try simp only [hl1170002_26] at BK1181)
    (try simp only [hl1170002_26] at HO_1162002)
    (try simp only [hl1170002_26] at HO_1182002)
    cases kq with
    | zero => exact absurd HA.out (by simp [laws_FnExactReqRead.j1])
    | succ kj26 =>
     have H := HA.out
     clear HA
     simp only [laws_FnExactReqRead.j1] at H
     by_cases c47 : x57_26 = true
     ·subst c47
      rw [if_pos rfl] at H
      exact absurd (Option.some.inj H) (by rw [ht_]; decide)
     replace c47 := Bool.eq_false_iff.mpr c47
     subst c47
     rw [if_neg (show ¬ (false = true) by decide)] at H
     revert H
     refine ok1 fun t1183 A48 H => ?_
     by_cases c49 : t1183 < 0
     ·rw [if_pos c49] at H
      have c49b0 := decide_eq_true c49
      clear c49
      exact absurd (Option.some.inj H) (by rw [ht_]; decide)
     rw [if_neg c49] at H
     have c49b0 := decide_eq_false c49
     clear c49
     by_cases c50 : t1183 = t1171
     rotate_left
     ·rw [if_neg c50] at H
      have c50b0 : (t1183 == t1171) = false := beq_eq_false_iff_ne.mpr c50
      have c50b1 : (t1183 != t1171) = true := bne_iff_ne.mpr c50
      exact absurd (Option.some.inj H) (by rw [ht_]; decide)
     rw [if_pos c50] at H
     have c50b0 : (t1183 == t1171) = true := beq_iff_eq.mpr c50
     have c50b1 : (t1183 != t1171) = false := bne_eq_false_iff_eq.mpr c50
     clear c50
     obtain rfl := Option.some.inj H
     have hnb51 := NB1169_1161.out
     have hnc51 := NB1161_1169.out
     have hnb52 := NB1169_1181.out
     have hnc52 := NB1181_1169.out
     obtain ⟨z53_0, y53_0, z53_1, y53_1, z53_2, y53_2, z53_3, y53_3⟩ := cl4 BK1169
     go_wp2_with (first | (refine gl 60 Tryd.func40 #[.agg #[.int .i64 t1162, .string t1163, .slice Ao14 t1172.length co14, .string t1167], .int .i64 1] ?_; (with_reducible refine (laws_heldReq.calls kj26 t1162 t1163 _ _ t1172 t1167 1 t1183 _ ?side1 ?side2 A48.out).mono ?_); (case side1 => exact rc HO_1170002); (case side2 => exact (Kd.R_reads' HO_1170002.out).2.1); rintro e w54 ⟨rfl, hb⟩; refine ⟨_, rfl, ?_⟩; replace HO_1162002 := kr HO_1162002 hb; replace HO_1170002 := kr HO_1170002 hb; replace HO_1182002 := kr HO_1182002 hb; replace BK1161 := kb BK1161 hb; replace BK1169 := kb BK1169 hb; replace BK1181 := kb BK1181 hb; replace HB := am (below_step bl hb); clear hb))
     go_ret
     exact ⟨rf, bl⟩

end Go.Proofs.YtkgdcfaogdmcgaaDoor.All
