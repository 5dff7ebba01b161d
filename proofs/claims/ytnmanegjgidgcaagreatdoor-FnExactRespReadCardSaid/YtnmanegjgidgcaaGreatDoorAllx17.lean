-- Written by a program of this session (wip/tools/hprint.py) out of the translation. Lean checks it.
import Derived.Test.YtnmanegjgidgcaaGreatDoorAllx0
import Derived.Test.YtnmanegjgidgcaaGreatDoorAllx14
import Derived.Test.YtnmanegjgidgcaaGreatDoorAllx15
import Derived.Test.YtnmanegjgidgcaaGreatDoorAllx16
namespace Go.Proofs.YtnmanegjgidgcaaGreatDoor.All
open Go.RowKit Go.Proofs.YtnmanegjgidgcaaGreatDoorW.PrintWords Go.Proofs.YtnmanegjgidgcaaGreatDoorW.PrintLast Go.Proofs.YtnmanegjgidgcaaGreatDoorW.PrintMore
attribute [local go_sem] max2_int min2_int max_two min_two max_three min_three max_four min_four   -- for this text's walks alone
set_option linter.unusedVariables false
set_option linter.unusedSimpArgs false

/-! ### laws_FnExactRespRead: function 5 -/
theorem u5HB {p : Prop} (h : p := by repeat (first | (with_reducible first | exact HB.out | apply below_alloc | apply pw_below_drewN | apply below_drew1 | refine below_set ?_ GE783.out | refine below_set ?_ GE790.out | refine below_set ?_ GE801.out) | exact HB.out)) : p := h
mutual
def laws_FnExactRespRead.j0 : Nat → ByteArray → Bool → Bool → Int → List (S100) → ByteArray → Int → List (S100) → ByteArray → Option (Bool)
 | 0, _, _, _, _, _, _, _, _, _ => none
 | k + 1, x0, x4, x32, x784000, x784001, x784002, x791000, x791001, x791002 => if x32 = true then (some false) else ((laws_markResp.f k x791000 x791001 x791002 1).bind fun bt792 => ((laws_heldResp.f k x791000 bt792.2 x791002 1).bind fun t794 => (if t794 < 0 then (some false) else (if t794 = bt792.1 then ((impl_RespRead.f k x0).bind fun bt795 => ((laws_eqResp.f k bt795.1 bt795.2.1 bt795.2.2.1 x784000 x784001 x784002).bind fun t802 => (if t802 = true then (laws_FnExactRespRead.j1 k bt792.1 (bt795.2.2.2 != x4) x791000 bt792.2 x791002) else (laws_FnExactRespRead.j1 k bt792.1 true x791000 bt792.2 x791002)))) else (some false)))))
def laws_FnExactRespRead.j1 : Nat → Int → Bool → Int → List (S100) → ByteArray → Option (Bool)
 | 0, _, _, _, _, _ => none
 | k + 1, x7, x57, x791000, x791001, x791002 => if x57 = true then (some false) else ((laws_heldResp.f k x791000 x791001 x791002 1).bind fun t803 => (if t803 < 0 then (some false) else (if t803 = x7 then (some true) else (some false))))
end
def laws_FnExactRespRead.f (k : Nat) (a0 : ByteArray) : Option (Bool) := if (a0.size : Int) > 1048576 then (some true) else ((spec_RespRead.f k a0).bind fun bt777 => ((impl_RespRead.f k a0).bind fun bt784 => ((laws_eqResp.f k bt784.1 bt784.2.1 bt784.2.2.1 bt777.1 bt777.2.1 bt777.2.2.1).bind fun t791 => (if t791 = true then (laws_FnExactRespRead.j0 k a0 bt777.2.2.2 (bt784.2.2.2 != bt777.2.2.2) bt777.1 bt777.2.1 bt777.2.2.1 bt784.1 bt784.2.1 bt784.2.2.1) else (laws_FnExactRespRead.j0 k a0 bt777.2.2.2 true bt777.1 bt777.2.1 bt777.2.2.1 bt784.1 bt784.2.1 bt784.2.2.1)))))
theorem laws_FnExactRespRead.mono_l : ∀ k, (∀ y0 y1 y2 y3 y4 y5 y6 y7 y8, LeO (laws_FnExactRespRead.j0 k y0 y1 y2 y3 y4 y5 y6 y7 y8) (laws_FnExactRespRead.j0 (k + 1) y0 y1 y2 y3 y4 y5 y6 y7 y8)) ∧ (∀ y0 y1 y2 y3 y4, LeO (laws_FnExactRespRead.j1 k y0 y1 y2 y3 y4) (laws_FnExactRespRead.j1 (k + 1) y0 y1 y2 y3 y4))
 | 0 => ⟨fun _ _ _ _ _ _ _ _ _ r h => by simp [laws_FnExactRespRead.j0] at h, fun _ _ _ _ _ r h => by simp [laws_FnExactRespRead.j1] at h⟩
 | k + 1 => by
  obtain ⟨ih0, ih1⟩ := laws_FnExactRespRead.mono_l k
  refine ⟨?_, ?_⟩
  ·intro y0 y1 y2 y3 y4 y5 y6 y7 y8
   unfold laws_FnExactRespRead.j0
   have m0 := @impl_RespRead.mono
   have m1 := @laws_eqResp.mono
   have m2 := @laws_heldResp.mono
   have m3 := @laws_markResp.mono
   have m4 := @spec_RespRead.mono
   exact mo
  ·intro y0 y1 y2 y3 y4
   unfold laws_FnExactRespRead.j1
   have m0 := @impl_RespRead.mono
   have m1 := @laws_eqResp.mono
   have m2 := @laws_heldResp.mono
   have m3 := @laws_markResp.mono
   have m4 := @spec_RespRead.mono
   exact mo
theorem laws_FnExactRespRead.mono : ∀ a0 k, LeO (laws_FnExactRespRead.f k a0) (laws_FnExactRespRead.f (k + 1) a0) := by
 intro a0 k
 obtain ⟨ih0, ih1⟩ := laws_FnExactRespRead.mono_l k
 unfold laws_FnExactRespRead.f
 have m0 := @impl_RespRead.mono
 have m1 := @laws_eqResp.mono
 have m2 := @laws_heldResp.mono
 have m3 := @laws_markResp.mono
 have m4 := @spec_RespRead.mono
 exact mo
set_option maxHeartbeats 8000000 in
set_option maxRecDepth 100000 in
theorem laws_FnExactRespRead.calls (k : Nat) (a0 : ByteArray) (r : Bool) (w : World) (hGE : GLOBE w) (hGM : GLOBM w) (hGT : GLOBT w) (ht_ : r = true) (h : laws_FnExactRespRead.f k a0 = some r) :
  Calls Tryz.prog 5 #[.string a0] w fun e w' => e = .returned (.bool r) ∧ Below w.heap.size w w' := by
 have hu48 := Tryz.underlying48
 have HGE := am hGE
 clear hGE
 have HGM := am hGM
 clear hGM
 have HGT := am hGT
 clear hGT
 have HB := am (Below.refl w.heap.size w)
 unfold laws_FnExactRespRead.f at h
 have H := h
 clear h
 by_cases c2 : (a0.size : Int) > 1048576
 ·rw [if_pos c2] at H
  have c2b0 := decide_eq_true c2
  have c2b1 : decide (1048576 < a0.size) = true := decide_eq_true (by omega)
  clear c2
  obtain rfl := Option.some.inj H
  go_enter Tryz.func5, Tryz.ntmps5
  go_wp2
  go_ret
  exact ⟨rf, bl⟩
 rw [if_neg c2] at H
 have c2b0 := decide_eq_false c2
 have c2b1 : decide (1048576 < a0.size) = false := decide_eq_false (by omega)
 clear c2
 revert H
 refine ok4 fun t777 t778 t781 t782 A3 H => ?_
 (try dsimp only at H)
 revert H
 refine ok4 fun t784 t785 t788 t789 A4 H => ?_
 (try dsimp only at H)
 have HC5 := am H
 clear H
 go_enter Tryz.func5, Tryz.ntmps5
 go_upto_region 5 with (first | (refine gl 16 Tryz.func27 #[.string a0] ?_; (with_reducible refine (spec_RespRead.calls k a0 t777 t778 t781 t782 _ A3.out).mono ?_); rintro e w6 ⟨v779, rfl, ho0, hb⟩; refine ⟨_, rfl, ?_⟩; have HO780 := am (Kd.R_lower ho0 (below_size bl)); replace HB := am (below_step bl hb); clear hb ho0) | (refine bx 3 #[.int .i64 0, .slice none 0 0, .string (⟨#[]⟩ : ByteArray)] 48 ?_; intro gb783 hg w7 hbox hb; replace HO780 := am (Kd.R_below (ro HO780) hb); have BK783 := am (hbox); have GW783 := am (sz hg : w.heap.size ≤ gb783); have GE783 := am (sz hg : w.heap.size ≤ gb783); replace HB := am (below_step bl hb); clear hb hbox hg; obtain ⟨z8_0, y8_0, z8_1, y8_1, z8_2, y8_2⟩ := cl3 BK783; obtain ⟨Ao9, co9, eo9⟩ := Kd.R_slice HO780.out; subst eo9) | (refine gl 21 Tryz.func28 #[.string a0] ?_; (with_reducible refine (impl_RespRead.calls k a0 t784 t785 t788 t789 _ ?side1 ?side2 ?side3 A4.out).mono ?_); (case side1 => exact GLOBE.below HGE.out bl); (case side2 => exact GLOBM.below HGM.out bl); (case side3 => exact GLOBT.below HGT.out bl); rintro e w10 ⟨v786, rfl, ho0, hb⟩; refine ⟨_, rfl, ?_⟩; have n0_ := am (Kd.R_elder' (by (with_reducible repeat (first | apply Kd.R_alloc | apply Kd.R_drewN | apply Kd.R_drew)); exact (Kd.R_mono (Kd.R_far (p := ⟨gb783, 2, none⟩) (Kd.R_far (p := ⟨gb783, 1, none⟩) (Kd.R_far (p := ⟨gb783, 0, none⟩) (Kd.R_types HO780.out BK783.out (by decide)) (fun _ hk => hk.2) (.int .i64 t777)) (fun _ hk => hk.2) (.slice Ao9 t778.length co9)) (fun _ hk => hk.2) (.string t781)) (fun _ h_ => h_.1))) (Kd.R_base ho0) hb); have n1_ := am (Kd.R_lower (Kd.R_new' ho0 (Kd.R_lt (by (with_reducible repeat (first | apply Kd.R_alloc | apply Kd.R_drewN | apply Kd.R_drew)); exact (Kd.R_mono (Kd.R_far (p := ⟨gb783, 2, none⟩) (Kd.R_far (p := ⟨gb783, 1, none⟩) (Kd.R_far (p := ⟨gb783, 0, none⟩) (Kd.R_types HO780.out BK783.out (by decide)) (fun _ hk => hk.2) (.int .i64 t777)) (fun _ hk => hk.2) (.slice Ao9 t778.length co9)) (fun _ hk => hk.2) (.string t781)) (fun _ h_ => h_.1))))) (below_size bl)); have n2_ := am (blk_below (g := gb783) (o := .cells #[.int .i64 t777, .slice Ao9 t778.length co9, .string t781] 48 (0, 0)) (pt0 BK783) hb); have n3_ := am (below_step bl hb); clear HO780; clear BK783; clear HB; have HO780 := n0_; have HO787 := n1_; have BK783 := n2_; have HB := n3_; clear n0_ n1_ n2_ n3_; clear hb ho0) | (refine bx 5 #[.int .i64 0, .slice none 0 0, .string (⟨#[]⟩ : ByteArray)] 48 ?_; intro gb790 hg w11 hbox hb; replace HO780 := am (Kd.R_below (ro HO780) hb); replace HO787 := am (Kd.R_below (ro HO787) hb); have BK790 := am (hbox); have GW790 := am (sz hg : w.heap.size ≤ gb790); have GE790 := am (sz hg : w.heap.size ≤ gb790); replace HB := am (below_step bl hb); have NB783_790 := am (nl hg BK783 : gb783 ≠ gb790); have NB790_783 := am (ng hg BK783 : gb790 ≠ gb783); replace BK783 := kb BK783 hb; clear hb hbox hg; have hnb12 := NB790_783.out; have hnc12 := NB783_790.out; obtain ⟨z13_0, y13_0, z13_1, y13_1, z13_2, y13_2⟩ := cl3 BK790; obtain ⟨Ao14, co14, eo14⟩ := Kd.R_slice HO787.out; subst eo14))
 (try simp only [Act.put, List.setIfInBounds_toArray, List.set_cons_zero, List.set_cons_succ])
 go_cut [32] (fun v32 wc => ∃ (kq : Nat) (x32_4 : Bool), v32 = .bool x32_4 ∧ Aside0 (laws_FnExactRespRead.j0 kq a0 t782 x32_4 t777 t778 t781 t784 t785 t788 = some r) ∧ Aside0 (kq ≤ k) ∧ Aside0 (Kd.R k100 100 wc w.heap.size (fun k_ => some k_ ≠ ((.slice Ao14 t785.length co14) : Value).ownBlock) (.slice Ao9 t778.length co9) t778) ∧ Aside0 (Kd.R k100 100 wc w.heap.size (fun k_ => some k_ ≠ ((.slice Ao9 t778.length co9) : Value).ownBlock) (.slice Ao14 t785.length co14) t785) ∧ Aside0 (wc.heap[gb783]? = some (.cells #[.int .i64 t777, (.slice Ao9 t778.length co9), .string t781] 48 (0, 0))) ∧ Aside0 (wc.heap[gb790]? = some (.cells #[.int .i64 t784, (.slice Ao14 t785.length co14), .string t788] 48 (0, 0))) ∧ Aside0 (Below w.heap.size w wc))
 case first =>
  have H := HC5.out
  clear HC5
  revert H
  refine ok1 fun t791 A15 H => ?_
  by_cases c16 : t791 = true
  rotate_left
  ·replace c16 := Bool.eq_false_iff.mpr c16
   subst c16
   rw [if_neg (show ¬ (false = true) by decide)] at H
   cases k with
   | zero => exact absurd H (by simp [laws_FnExactRespRead.j0])
   | succ k_ => simp only [laws_FnExactRespRead.j0, if_true] at H; exact absurd (Option.some.inj H) (by rw [ht_]; decide)
  subst c16
  rw [if_pos rfl] at H
  have H' := am H
  clear H
  have hnb17 := NB790_783.out
  have hnc17 := NB783_790.out
  obtain ⟨z18_0, y18_0, z18_1, y18_1, z18_2, y18_2⟩ := cl3 BK790
  obtain ⟨z19_0, y19_0, z19_1, y19_1, z19_2, y19_2⟩ := cl3 BK783
  go_wp2_with (first | (refine gl 26 Tryz.func29 #[.agg #[.int .i64 t784, .slice Ao14 t785.length co14, .string t788], .agg #[.int .i64 t777, .slice Ao9 t778.length co9, .string t781]] ?_; (with_reducible refine (laws_eqResp.calls k t784 _ _ t785 t788 t777 _ _ t778 t781 true _ ?side1 ?side2 ?side3 ?side4 A15.out).mono ?_); (case side1 => refine (Kd.R_reads' (e := 100) (base := w.heap.size) (ok := fun k_ => (True ∧ some k_ ≠ (.slice Ao9 t778.length co9 : Value).ownBlock)) (n := t785.length) (c := co14) ?_).2.2; exact (by (with_reducible repeat (first | apply Kd.R_alloc | apply Kd.R_drewN | apply Kd.R_drew)); exact (Kd.R_mono (Kd.R_far (p := ⟨gb790, 2, none⟩) (Kd.R_far (p := ⟨gb790, 1, none⟩) (Kd.R_far (p := ⟨gb790, 0, none⟩) (Kd.R_types HO787.out BK790.out (by decide)) (fun _ hk => hk.2) (.int .i64 t784)) (fun _ hk => hk.2) (.slice Ao14 t785.length co14)) (fun _ hk => hk.2) (.string t788)) (fun _ h_ => h_.1)))); (case side2 => exact (Kd.R_reads' HO787.out).2.1); (case side3 => refine (Kd.R_reads' (e := 100) (base := w.heap.size) (ok := fun k_ => (True ∧ some k_ ≠ (.slice Ao14 t785.length co14 : Value).ownBlock)) (n := t778.length) (c := co9) ?_).2.2; exact (by (with_reducible repeat (first | apply Kd.R_alloc | apply Kd.R_drewN | apply Kd.R_drew)); exact (Kd.R_mono (Kd.R_far (p := ⟨gb790, 2, none⟩) (Kd.R_far (p := ⟨gb790, 1, none⟩) (Kd.R_far (p := ⟨gb790, 0, none⟩) (Kd.R_types HO780.out BK790.out (by decide)) (fun _ hk => hk.2) (.int .i64 t784)) (fun _ hk => hk.2) (.slice Ao14 t785.length co14)) (fun _ hk => hk.2) (.string t788)) (fun _ h_ => h_.1)))); (case side4 => exact (Kd.R_reads' HO780.out).2.1); rintro e w20 ⟨rfl, hb⟩; refine ⟨_, rfl, ?_⟩; have n0_ := am (Kd.R_below (by (with_reducible repeat (first | apply Kd.R_alloc | apply Kd.R_drewN | apply Kd.R_drew)); exact (Kd.R_mono (Kd.R_far (p := ⟨gb790, 2, none⟩) (Kd.R_far (p := ⟨gb790, 1, none⟩) (Kd.R_far (p := ⟨gb790, 0, none⟩) (Kd.R_types HO780.out BK790.out (by decide)) (fun _ hk => hk.2) (.int .i64 t784)) (fun _ hk => hk.2) (.slice Ao14 t785.length co14)) (fun _ hk => hk.2) (.string t788)) (fun _ h_ => h_.1))) hb); have n1_ := am (Kd.R_below (by (with_reducible repeat (first | apply Kd.R_alloc | apply Kd.R_drewN | apply Kd.R_drew)); exact (Kd.R_mono (Kd.R_far (p := ⟨gb790, 2, none⟩) (Kd.R_far (p := ⟨gb790, 1, none⟩) (Kd.R_far (p := ⟨gb790, 0, none⟩) (Kd.R_types HO787.out BK790.out (by decide)) (fun _ hk => hk.2) (.int .i64 t784)) (fun _ hk => hk.2) (.slice Ao14 t785.length co14)) (fun _ hk => hk.2) (.string t788)) (fun _ h_ => h_.1))) hb); have n2_ := kg1 BK783 NB783_790 hb; have n3_ := am (blk_below (g := gb790) (o := .cells #[.int .i64 t784, .slice Ao14 t785.length co14, .string t788] 48 (0, 0)) (pt0 BK790) hb); have n4_ := am (below_step bl hb); clear HO780; clear HO787; clear BK783; clear BK790; clear HB; have HO780 := n0_; have HO787 := n1_; have BK783 := n2_; have BK790 := n3_; have HB := n4_; clear n0_ n1_ n2_ n3_ n4_; clear hb))
  go_meet
  case rel => exact ⟨_, ((t789 != t782)), rs, H', ⟨by first | omega | exact Nat.le_refl _⟩, ⟨by (with_reducible repeat (first | apply Kd.R_alloc | apply Kd.R_drewN | apply Kd.R_drew)); exact Kd.R_mono HO780.out (fun _ hk => hk.2)⟩, ⟨by (with_reducible repeat (first | apply Kd.R_alloc | apply Kd.R_drewN | apply Kd.R_drew)); exact Kd.R_mono HO787.out (fun _ hk => hk.2)⟩, ⟨by (with_reducible repeat (first | refine blk_drewN ?_ _ | refine blk_drew ?_ | refine blk_alloc ?_ _)); exact BK783.out⟩, ⟨by (with_reducible repeat (first | refine blk_drewN ?_ _ | refine blk_drew ?_ | refine blk_alloc ?_ _)); exact BK790.out⟩, ⟨u5HB⟩⟩
 case rest =>
  clear HC5
  try clear c1
  try clear c2
  try clear c2b0
  try clear c2b1
  try clear p2
  try clear c5
  try clear c12
  try clear c16
  try clear c17
  try clear z13_0
  try clear z13_1
  try clear z13_2
  try clear z18_0
  try clear z18_1
  try clear z18_2
  try clear z19_0
  try clear z19_1
  try clear z19_2
  try clear z8_0
  try clear z8_1
  try clear z8_2
  try clear y13_0
  try clear y13_1
  try clear y13_2
  try clear y18_0
  try clear y18_1
  try clear y18_2
  try clear y19_0
  try clear y19_1
  try clear y19_2
  try clear y8_0
  try clear y8_1
  try clear y8_2
  obtain ⟨kq, x32_4, rfl, HA, HJ4, HO_784001, HO_791001, BK783, BK790, HB⟩ := hcut
  cases kq with
  | zero => exact absurd HA.out (by simp [laws_FnExactRespRead.j0])
  | succ kj4 =>
   have H := HA.out
   clear HA
   simp only [laws_FnExactRespRead.j0] at H
   by_cases c21 : x32_4 = true
   ·subst c21
    rw [if_pos rfl] at H
    exact absurd (Option.some.inj H) (by rw [ht_]; decide)
   replace c21 := Bool.eq_false_iff.mpr c21
   subst c21
   rw [if_neg (show ¬ (false = true) by decide)] at H
   revert H
   refine ok2 fun t792 t793 A22 H => ?_
   (try dsimp only at H)
   revert H
   refine ok1 fun t794 A23 H => ?_
   by_cases c24 : t794 < 0
   ·rw [if_pos c24] at H
    have c24b0 := decide_eq_true c24
    clear c24
    exact absurd (Option.some.inj H) (by rw [ht_]; decide)
   rw [if_neg c24] at H
   have c24b0 := decide_eq_false c24
   clear c24
   by_cases c25 : t794 = t792
   rotate_left
   ·rw [if_neg c25] at H
    have c25b0 : (t794 == t792) = false := beq_eq_false_iff_ne.mpr c25
    have c25b1 : (t794 != t792) = true := bne_iff_ne.mpr c25
    exact absurd (Option.some.inj H) (by rw [ht_]; decide)
   rw [if_pos c25] at H
   have c25b0 : (t794 == t792) = true := beq_iff_eq.mpr c25
   have c25b1 : (t794 != t792) = false := bne_eq_false_iff_eq.mpr c25
   clear c25
   revert H
   refine ok4 fun t795 t796 t799 t800 A26 H => ?_
   (try dsimp only at H)
   have HC27 := am H
   clear H
   have hnb28 := NB790_783.out
   have hnc28 := NB783_790.out
   obtain ⟨z29_0, y29_0, z29_1, y29_1, z29_2, y29_2⟩ := cl3 BK790
   go_upto_region 16 with (first | (refine gl 35 Tryz.func30 #[.agg #[.int .i64 t784, .slice Ao14 t785.length co14, .string t788], .int .i64 1] ?_; (with_reducible refine (laws_markResp.calls kj4 t784 (fun k_ => some k_ = (.slice Ao14 t785.length co14 : Value).ownBlock) (.slice Ao14 t785.length co14) t785 t788 1 t792 t793 w _ ?side1 ?side2 A22.out).mono ?_); (case side1 => exact u5HB); (case side2 => exact Kd.R_tight rfl HO_791001.out); rintro e w30 ⟨rfl, hy0, hb, hkp⟩; refine ⟨_, rfl, ?_⟩; replace HO_784001 := am (Kd.R_mono (ok' := fun k_ => some k_ ≠ (.slice Ao14 t785.length co14 : Value).ownBlock) (Kd.R_keptB (HO_784001.out) hkp (fun k_ hk_ hs_ => (hk_) hs_)) (fun k_ hk_ => hk_.1)); replace BK783 := am (blk_kept (bk BK783) hkp (fun hs_ => (fun e_ => (Kd.R_ne HO_791001.out BK783.out (by decide)) e_) hs_)); replace BK790 := am (blk_kept (bk BK790) hkp (fun hs_ => (fun e_ => (Kd.R_ne HO_791001.out BK790.out (by decide)) e_) hs_)); replace HO_791001 := am (Kd.R_reok rfl hy0 (fun k_ e_ => HO_791001.out.1 k_ e_)); replace HB := am (hb); clear hb; (try clear hkp); (try clear hy0); obtain ⟨z31_0, y31_0, z31_1, y31_1, z31_2, y31_2⟩ := cl3 BK790) | (refine gl 38 Tryz.func31 #[.agg #[.int .i64 t784, .slice Ao14 t793.length co14, .string t788], .int .i64 1] ?_ (hargs := (by (try simp only [List.map_toArray, List.map_cons, List.map_nil]); first | done | (rw [show t793.length = t785.length from (Kd.R_reads' HO_791001.out).1.symm] <;> rfl) | rfl | (simp only [List.length_drop, List.length_take]; rfl))); (with_reducible refine (laws_heldResp.calls kj4 t784 _ _ t793 t788 1 t794 _ ?side1 ?side2 A23.out).mono ?_); (case side1 => exact rc HO_791001); (case side2 => rw [show t793.length = t785.length from (Kd.R_reads' HO_791001.out).1.symm]; exact (Kd.R_reads' HO_791001.out).2.1); rintro e w32 ⟨rfl, hb⟩; refine ⟨_, rfl, ?_⟩; replace HO_784001 := kr HO_784001 hb; replace HO_791001 := kr HO_791001 hb; replace BK783 := kb BK783 hb; replace BK790 := kb BK790 hb; replace HB := am (below_step bl hb); clear hb) | (refine gl 46 Tryz.func28 #[.string a0] ?_; (with_reducible refine (impl_RespRead.calls kj4 a0 t795 t796 t799 t800 _ ?side1 ?side2 ?side3 A26.out).mono ?_); (case side1 => exact GLOBE.below HGE.out bl); (case side2 => exact GLOBM.below HGM.out bl); (case side3 => exact GLOBT.below HGT.out bl); rintro e w33 ⟨v797, rfl, ho0, hb⟩; refine ⟨_, rfl, ?_⟩; have HO798 := am (Kd.R_lower (Kd.R_new' (Kd.R_new' ho0 (Kd.R_lt (ro HO_784001))) (Kd.R_lt (ro HO_791001))) (below_size bl)); replace HO_784001 := am (Kd.R_elder' (ro HO_784001) (Kd.R_base ho0) hb); replace HO_791001 := am (Kd.R_elder' (ro HO_791001) (Kd.R_base ho0) hb); replace BK783 := kb BK783 hb; replace BK790 := kb BK790 hb; replace HB := am (below_step bl hb); clear hb ho0) | (refine bx 9 #[.int .i64 0, .slice none 0 0, .string (⟨#[]⟩ : ByteArray)] 48 ?_; intro gb801 hg w34 hbox hb; replace HO_784001 := am (Kd.R_below (ro HO_784001) hb); replace HO_791001 := am (Kd.R_below (ro HO_791001) hb); replace HO798 := am (Kd.R_below (ro HO798) hb); have BK801 := am (hbox); have GW801 := am (sz hg : w.heap.size ≤ gb801); have GE801 := am (sz hg : w.heap.size ≤ gb801); replace HB := am (below_step bl hb); have NB783_801 := am (nl hg BK783 : gb783 ≠ gb801); have NB801_783 := am (ng hg BK783 : gb801 ≠ gb783); replace BK783 := kb BK783 hb; have NB790_801 := am (nl hg BK790 : gb790 ≠ gb801); have NB801_790 := am (ng hg BK790 : gb801 ≠ gb790); replace BK790 := kb BK790 hb; clear hb hbox hg; have hnb35 := NB801_783.out; have hnc35 := NB783_801.out; have hnb36 := NB801_790.out; have hnc36 := NB790_801.out; obtain ⟨z37_0, y37_0, z37_1, y37_1, z37_2, y37_2⟩ := cl3 BK801; obtain ⟨Ao38, co38, eo38⟩ := Kd.R_slice HO798.out; subst eo38))
   (try simp only [Act.put, List.setIfInBounds_toArray, List.set_cons_zero, List.set_cons_succ])
   go_cut [57] (fun v57 wc => ∃ (kq : Nat) (x57_26 : Bool), v57 = .bool x57_26 ∧ Aside0 (laws_FnExactRespRead.j1 kq t792 x57_26 t784 t793 t788 = some r) ∧ Aside0 (kq ≤ kj4) ∧ Aside0 (Kd.R k100 100 wc w.heap.size (fun k_ => some k_ ≠ ((.slice Ao14 t785.length co14) : Value).ownBlock ∧ some k_ ≠ ((.slice Ao38 t796.length co38) : Value).ownBlock) (.slice Ao9 t778.length co9) t778) ∧ Aside0 (Kd.R k100 100 wc w.heap.size (fun k_ => some k_ ≠ ((.slice Ao9 t778.length co9) : Value).ownBlock ∧ some k_ ≠ ((.slice Ao38 t796.length co38) : Value).ownBlock) (.slice Ao14 t785.length co14) t793) ∧ Aside0 (Kd.R k100 100 wc w.heap.size (fun k_ => some k_ ≠ ((.slice Ao9 t778.length co9) : Value).ownBlock ∧ some k_ ≠ ((.slice Ao14 t785.length co14) : Value).ownBlock) (.slice Ao38 t796.length co38) t796) ∧ Aside0 (wc.heap[gb783]? = some (.cells #[.int .i64 t777, (.slice Ao9 t778.length co9), .string t781] 48 (0, 0))) ∧ Aside0 (wc.heap[gb790]? = some (.cells #[.int .i64 t784, (.slice Ao14 t785.length co14), .string t788] 48 (0, 0))) ∧ Aside0 (wc.heap[gb801]? = some (.cells #[.int .i64 t795, (.slice Ao38 t796.length co38), .string t799] 48 (0, 0))) ∧ Aside0 (Below w.heap.size w wc))
   case first =>
    have H := HC27.out
    clear HC27
    revert H
    refine ok1 fun t802 A39 H => ?_
    by_cases c40 : t802 = true
    rotate_left
    ·replace c40 := Bool.eq_false_iff.mpr c40
     subst c40
     rw [if_neg (show ¬ (false = true) by decide)] at H
     cases kj4 with
     | zero => exact absurd H (by simp [laws_FnExactRespRead.j1])
     | succ k_ => simp only [laws_FnExactRespRead.j1, if_true] at H; exact absurd (Option.some.inj H) (by rw [ht_]; decide)
    subst c40
    rw [if_pos rfl] at H
    have H' := am H
    clear H
    have hnb41 := NB801_783.out
    have hnc41 := NB783_801.out
    have hnb42 := NB801_790.out
    have hnc42 := NB790_801.out
    obtain ⟨z43_0, y43_0, z43_1, y43_1, z43_2, y43_2⟩ := cl3 BK801
    have hnb44 := NB783_790.out
    have hnc44 := NB790_783.out
    obtain ⟨z45_0, y45_0, z45_1, y45_1, z45_2, y45_2⟩ := cl3 BK783
    go_wp2_with (first | (refine gl 51 Tryz.func29 #[.agg #[.int .i64 t795, .slice Ao38 t796.length co38, .string t799], .agg #[.int .i64 t777, .slice Ao9 t778.length co9, .string t781]] ?_; (with_reducible refine (laws_eqResp.calls kj4 t795 _ _ t796 t799 t777 _ _ t778 t781 true _ ?side1 ?side2 ?side3 ?side4 A39.out).mono ?_); (case side1 => refine (Kd.R_reads' (e := 100) (base := w.heap.size) (ok := fun k_ => ((True ∧ some k_ ≠ (.slice Ao9 t778.length co9 : Value).ownBlock) ∧ some k_ ≠ (.slice Ao14 t785.length co14 : Value).ownBlock)) (n := t796.length) (c := co38) ?_).2.2; exact (by (with_reducible repeat (first | apply Kd.R_alloc | apply Kd.R_drewN | apply Kd.R_drew)); exact (Kd.R_mono (Kd.R_far (p := ⟨gb801, 2, none⟩) (Kd.R_far (p := ⟨gb801, 1, none⟩) (Kd.R_far (p := ⟨gb801, 0, none⟩) (Kd.R_types HO798.out BK801.out (by decide)) (fun _ hk => hk.2) (.int .i64 t795)) (fun _ hk => hk.2) (.slice Ao38 t796.length co38)) (fun _ hk => hk.2) (.string t799)) (fun _ h_ => h_.1)))); (case side2 => exact (Kd.R_reads' HO798.out).2.1); (case side3 => refine (Kd.R_reads' (e := 100) (base := w.heap.size) (ok := fun k_ => (some k_ ≠ (.slice Ao14 t785.length co14 : Value).ownBlock ∧ some k_ ≠ (.slice Ao38 t796.length co38 : Value).ownBlock)) (n := t778.length) (c := co9) ?_).2.2; exact (by (with_reducible repeat (first | apply Kd.R_alloc | apply Kd.R_drewN | apply Kd.R_drew)); exact (Kd.R_mono (Kd.R_far (p := ⟨gb801, 2, none⟩) (Kd.R_far (p := ⟨gb801, 1, none⟩) (Kd.R_far (p := ⟨gb801, 0, none⟩) (Kd.R_types HO_784001.out BK801.out (by decide)) (fun _ hk => hk.2) (.int .i64 t795)) (fun _ hk => hk.2) (.slice Ao38 t796.length co38)) (fun _ hk => hk.2) (.string t799)) (fun _ h_ => h_.1)))); (case side4 => exact (Kd.R_reads' HO_784001.out).2.1); rintro e w46 ⟨rfl, hb⟩; refine ⟨_, rfl, ?_⟩; have n0_ := am (Kd.R_below (by (with_reducible repeat (first | apply Kd.R_alloc | apply Kd.R_drewN | apply Kd.R_drew)); exact (Kd.R_mono (Kd.R_far (p := ⟨gb801, 2, none⟩) (Kd.R_far (p := ⟨gb801, 1, none⟩) (Kd.R_far (p := ⟨gb801, 0, none⟩) (Kd.R_types HO_784001.out BK801.out (by decide)) (fun _ hk => hk.2) (.int .i64 t795)) (fun _ hk => hk.2) (.slice Ao38 t796.length co38)) (fun _ hk => hk.2) (.string t799)) (fun _ h_ => h_.1))) hb); have n1_ := am (Kd.R_below (by (with_reducible repeat (first | apply Kd.R_alloc | apply Kd.R_drewN | apply Kd.R_drew)); exact (Kd.R_mono (Kd.R_far (p := ⟨gb801, 2, none⟩) (Kd.R_far (p := ⟨gb801, 1, none⟩) (Kd.R_far (p := ⟨gb801, 0, none⟩) (Kd.R_types HO_791001.out BK801.out (by decide)) (fun _ hk => hk.2) (.int .i64 t795)) (fun _ hk => hk.2) (.slice Ao38 t796.length co38)) (fun _ hk => hk.2) (.string t799)) (fun _ h_ => h_.1))) hb); have n2_ := am (Kd.R_below (by (with_reducible repeat (first | apply Kd.R_alloc | apply Kd.R_drewN | apply Kd.R_drew)); exact (Kd.R_mono (Kd.R_far (p := ⟨gb801, 2, none⟩) (Kd.R_far (p := ⟨gb801, 1, none⟩) (Kd.R_far (p := ⟨gb801, 0, none⟩) (Kd.R_types HO798.out BK801.out (by decide)) (fun _ hk => hk.2) (.int .i64 t795)) (fun _ hk => hk.2) (.slice Ao38 t796.length co38)) (fun _ hk => hk.2) (.string t799)) (fun _ h_ => h_.1))) hb); have n3_ := kg1 BK783 NB783_801 hb; have n4_ := kg1 BK790 NB790_801 hb; have n5_ := am (blk_below (g := gb801) (o := .cells #[.int .i64 t795, .slice Ao38 t796.length co38, .string t799] 48 (0, 0)) (pt0 BK801) hb); have n6_ := am (below_step bl hb); clear HO_784001; clear HO_791001; clear HO798; clear BK783; clear BK790; clear BK801; clear HB; have HO_784001 := n0_; have HO_791001 := n1_; have HO798 := n2_; have BK783 := n3_; have BK790 := n4_; have BK801 := n5_; have HB := n6_; clear n0_ n1_ n2_ n3_ n4_ n5_ n6_; clear hb))
    go_meet
    case rel => exact ⟨_, ((t800 != t782)), rs, H', ⟨by have := HJ4.out; first | omega | exact Nat.le_refl _⟩, ⟨by (with_reducible repeat (first | apply Kd.R_alloc | apply Kd.R_drewN | apply Kd.R_drew)); exact HO_784001.out⟩, ⟨by (with_reducible repeat (first | apply Kd.R_alloc | apply Kd.R_drewN | apply Kd.R_drew)); exact HO_791001.out⟩, ⟨by (with_reducible repeat (first | apply Kd.R_alloc | apply Kd.R_drewN | apply Kd.R_drew)); exact Kd.R_mono HO798.out (fun _ hk => ⟨hk.1.2, hk.2⟩)⟩, ⟨by (with_reducible repeat (first | refine blk_drewN ?_ _ | refine blk_drew ?_ | refine blk_alloc ?_ _)); exact BK783.out⟩, ⟨by (with_reducible repeat (first | refine blk_drewN ?_ _ | refine blk_drew ?_ | refine blk_alloc ?_ _)); exact BK790.out⟩, ⟨by (with_reducible repeat (first | refine blk_drewN ?_ _ | refine blk_drew ?_ | refine blk_alloc ?_ _)); exact BK801.out⟩, ⟨u5HB⟩⟩
   case rest =>
    clear HC27
    try clear c1
    try clear c2
    try clear c2b0
    try clear c2b1
    try clear p2
    try clear c3
    try clear c4
    try clear c5
    try clear c12
    try clear c16
    try clear c17
    try clear c21
    try clear c24
    try clear c24b0
    try clear c25
    try clear c25b0
    try clear c25b1
    try clear c27
    try clear c28
    try clear c29
    try clear c30
    try clear c31
    try clear c35
    try clear c36
    try clear c40
    try clear c41
    try clear c42
    try clear c44
    try clear z13_0
    try clear z13_1
    try clear z13_2
    try clear z18_0
    try clear z18_1
    try clear z18_2
    try clear z19_0
    try clear z19_1
    try clear z19_2
    try clear z29_0
    try clear z29_1
    try clear z29_2
    try clear z31_0
    try clear z31_1
    try clear z31_2
    try clear z37_0
    try clear z37_1
    try clear z37_2
    try clear z43_0
    try clear z43_1
    try clear z43_2
    try clear z45_0
    try clear z45_1
    try clear z45_2
    try clear z8_0
    try clear z8_1
    try clear z8_2
    try clear y13_0
    try clear y13_1
    try clear y13_2
    try clear y18_0
    try clear y18_1
    try clear y18_2
    try clear y19_0
    try clear y19_1
    try clear y19_2
    try clear y29_0
    try clear y29_1
    try clear y29_2
    try clear y31_0
    try clear y31_1
    try clear y31_2
    try clear y37_0
    try clear y37_1
    try clear y37_2
    try clear y43_0
    try clear y43_1
    try clear y43_2
    try clear y45_0
    try clear y45_1
    try clear y45_2
    try clear y8_0
    try clear y8_1
    try clear y8_2
    try clear p2
    obtain ⟨kq, x57_26, rfl, HA, HJ26, HO_784001, HO_791001, HO_802001, BK783, BK790, BK801, HB⟩ := hcut
    have hl791001_26 := (Kd.R_reads' HO_791001.out).1
    rw [hl791001_26] at HO_791001
    (try simp only [hl791001_26])
    (try simp only [hl791001_26] at BK783)
    (try simp only [hl791001_26] at BK790)
    (try simp only [hl791001_26] at BK801)
    (try simp only [hl791001_26] at HO_784001)
    (try simp only [hl791001_26] at HO_802001)
    cases kq with
    | zero => exact absurd HA.out (by simp [laws_FnExactRespRead.j1])
    | succ kj26 =>
     have H := HA.out
     clear HA
     simp only [laws_FnExactRespRead.j1] at H
     by_cases c47 : x57_26 = true
     ·subst c47
      rw [if_pos rfl] at H
      exact absurd (Option.some.inj H) (by rw [ht_]; decide)
     replace c47 := Bool.eq_false_iff.mpr c47
     subst c47
     rw [if_neg (show ¬ (false = true) by decide)] at H
     revert H
     refine ok1 fun t803 A48 H => ?_
     by_cases c49 : t803 < 0
     ·rw [if_pos c49] at H
      have c49b0 := decide_eq_true c49
      clear c49
      exact absurd (Option.some.inj H) (by rw [ht_]; decide)
     rw [if_neg c49] at H
     have c49b0 := decide_eq_false c49
     clear c49
     by_cases c50 : t803 = t792
     rotate_left
     ·rw [if_neg c50] at H
      have c50b0 : (t803 == t792) = false := beq_eq_false_iff_ne.mpr c50
      have c50b1 : (t803 != t792) = true := bne_iff_ne.mpr c50
      exact absurd (Option.some.inj H) (by rw [ht_]; decide)
     rw [if_pos c50] at H
     have c50b0 : (t803 == t792) = true := beq_iff_eq.mpr c50
     have c50b1 : (t803 != t792) = false := bne_eq_false_iff_eq.mpr c50
     clear c50
     obtain rfl := Option.some.inj H
     have hnb51 := NB790_783.out
     have hnc51 := NB783_790.out
     have hnb52 := NB790_801.out
     have hnc52 := NB801_790.out
     obtain ⟨z53_0, y53_0, z53_1, y53_1, z53_2, y53_2⟩ := cl3 BK790
     go_wp2_with (first | (refine gl 60 Tryz.func31 #[.agg #[.int .i64 t784, .slice Ao14 t793.length co14, .string t788], .int .i64 1] ?_; (with_reducible refine (laws_heldResp.calls kj26 t784 _ _ t793 t788 1 t803 _ ?side1 ?side2 A48.out).mono ?_); (case side1 => exact rc HO_791001); (case side2 => exact (Kd.R_reads' HO_791001.out).2.1); rintro e w54 ⟨rfl, hb⟩; refine ⟨_, rfl, ?_⟩; replace HO_784001 := kr HO_784001 hb; replace HO_791001 := kr HO_791001 hb; replace HO_802001 := kr HO_802001 hb; replace BK783 := kb BK783 hb; replace BK790 := kb BK790 hb; replace BK801 := kb BK801 hb; replace HB := am (below_step bl hb); clear hb))
     go_ret
     exact ⟨rf, bl⟩

end Go.Proofs.YtnmanegjgidgcaaGreatDoor.All
