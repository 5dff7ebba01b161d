-- Written by a program of this session (wip/tools/hprint.py) out of the translation. Lean checks it.
import Derived.Test.YtjlpjbkpmmpojaaDoorAllx0
import Derived.Test.YtjlpjbkpmmpojaaDoorAllx1
import Derived.Test.YtjlpjbkpmmpojaaDoorAllx3
import Derived.Test.YtjlpjbkpmmpojaaDoorAllx4
import Derived.Test.YtjlpjbkpmmpojaaDoorAllx5
import Derived.Test.YtjlpjbkpmmpojaaDoorAllx6
namespace Go.Proofs.YtjlpjbkpmmpojaaDoor.All
open Go.RowKit Go.Proofs.YtjlpjbkpmmpojaaDoorW.PrintWords Go.Proofs.YtjlpjbkpmmpojaaDoorW.PrintLast Go.Proofs.YtjlpjbkpmmpojaaDoorW.PrintMore
attribute [local go_sem] max2_int min2_int max_two min_two max_three min_three max_four min_four   -- for this text's walks alone
set_option linter.unusedVariables false
set_option linter.unusedSimpArgs false

/-! ### spec_DrawSame: function 9 -/
theorem u9HB {p : Prop} (h : p := by repeat (first | (with_reducible first | exact HB.out | apply below_alloc | apply pw_below_drewN | apply below_drew1 | refine below_set ?_ GE582.out | refine below_set ?_ GE594.out | refine below_set ?_ GE595.out) | exact HB.out)) : p := h
def spec_DrawSame.f (k : Nat) (l0 : List Int) : Option (Int × ByteArray × (List (S46)) × ByteArray × (List (S46))) := (spec_l9Draw.f k l0).bind fun bt583 => (some (bt583.1, bt583.2.1, bt583.2.2.1, bt583.2.2.2.1, bt583.2.2.2.2.2.1))
theorem spec_DrawSame.mono : ∀ a0 k, LeO (spec_DrawSame.f k a0) (spec_DrawSame.f (k + 1) a0) := by
 intro a0 k
 unfold spec_DrawSame.f
 have m0 := @spec_l9Draw.mono
 exact mo
set_option maxHeartbeats 8000000 in
set_option maxRecDepth 100000 in
theorem spec_DrawSame.calls (k : Nat) (A0 : Option Addr) (c0 : Nat) (l0 : List Int) (r1 : Int) (r2 : ByteArray) (r3 : List (S46)) (r4 : ByteArray) (r5 : List (S46)) (w : World) (hr0 : Kd.C (Kd.int .u8) w A0 l0.length l0) (hc0 : l0.length ≤ c0) (h : spec_DrawSame.f k l0 = some (r1, r2, r3, r4, r5)) :
  Calls Tryd.prog 9 #[.slice A0 l0.length c0] w fun e w' => ∃ v2_ v4_ : Value, e = .returned (.tuple #[.agg #[.int .i64 r1, .string r2, v2_, .string r4], v4_]) ∧ Kd.R k46 46 w' w.heap.size (fun k_ => some k_ ≠ (v4_ : Value).ownBlock) v2_ r3 ∧ Kd.R k46 46 w' w.heap.size (fun k_ => some k_ ≠ (v2_ : Value).ownBlock) v4_ r5 ∧ Below w.heap.size w w' := by
 have hu26 := Tryd.underlying26
 have hu32 := Tryd.underlying32
 have HR0 := am hr0
 have HC0 := am hc0
 clear hr0 hc0
 have HB := am (Below.refl w.heap.size w)
 unfold spec_DrawSame.f at h
 have H := h
 clear h
 revert H
 refine ok7 fun t583 t584 t585 t588 t589 t590 t593 A2 H => ?_
 (try dsimp only at H)
 simp only [Option.some.injEq, Prod.mk.injEq] at H
 obtain ⟨rfl, rfl, rfl, rfl, rfl⟩ := H
 go_enter Tryd.func9, Tryd.ntmps9
 try go_wp2_with ((with_reducible refine gw ?_); first | (refine bx 2 #[.int .i64 0, .string (⟨#[]⟩ : ByteArray), .slice none 0 0, .string (⟨#[]⟩ : ByteArray)] 26 ?_; intro gb582 hg w3 hbox hb; have BK582 := am (hbox); have GW582 := am (sz hg : w.heap.size ≤ gb582); have GE582 := am (sz hg : w.heap.size ≤ gb582); replace HB := am (below_step bl hb); clear hb hbox hg) | (refine gl 8 Tryd.func17 #[.slice A0 l0.length c0] ?_; (with_reducible refine (spec_l9Draw.calls k _ _ l0 t583 t584 t585 t588 t589 t590 t593 _ ?side1 ?side2 A2.out).mono ?_); (case side1 => exact cb HR0); (case side2 => exact HC0.out); rintro e w4 ⟨v586, v591, rfl, ho0, ho1, hb⟩; refine ⟨_, rfl, ?_⟩; have HO587 := am (Kd.R_lower ho0 (below_size bl)); have HO592 := am (Kd.R_lower ho1 (below_size bl)); replace BK582 := kb BK582 hb; replace HB := am (below_step bl hb); clear hb ho0 ho1) | (refine bx 4 #[.int .i64 0, .string (⟨#[]⟩ : ByteArray), .slice none 0 0, .string (⟨#[]⟩ : ByteArray)] 26 ?_; intro gb594 hg w5 hbox hb; replace HO587 := am (Kd.R_below (ro HO587) hb); replace HO592 := am (Kd.R_below (ro HO592) hb); have BK594 := am (hbox); have GW594 := am (sz hg : w.heap.size ≤ gb594); have GE594 := am (sz hg : w.heap.size ≤ gb594); replace HB := am (below_step bl hb); have NB582_594 := am (nl hg BK582 : gb582 ≠ gb594); have NB594_582 := am (ng hg BK582 : gb594 ≠ gb582); replace BK582 := kb BK582 hb; clear hb hbox hg) | (refine bx 5 #[.int .i64 0, .slice none 0 0, .string (⟨#[]⟩ : ByteArray)] 32 ?_; intro gb595 hg w6 hbox hb; replace HO587 := am (Kd.R_below (ro HO587) hb); replace HO592 := am (Kd.R_below (ro HO592) hb); have BK595 := am (hbox); have GW595 := am (sz hg : w.heap.size ≤ gb595); have GE595 := am (sz hg : w.heap.size ≤ gb595); replace HB := am (below_step bl hb); have NB582_595 := am (nl hg BK582 : gb582 ≠ gb595); have NB595_582 := am (ng hg BK582 : gb595 ≠ gb582); replace BK582 := kb BK582 hb; have NB594_595 := am (nl hg BK594 : gb594 ≠ gb595); have NB595_594 := am (ng hg BK594 : gb595 ≠ gb594); replace BK594 := kb BK594 hb; clear hb hbox hg; have hnb7 := NB594_582.out; have hnc7 := NB582_594.out; have hnb8 := NB594_595.out; have hnc8 := NB595_594.out; obtain ⟨z9_0, y9_0, z9_1, y9_1, z9_2, y9_2, z9_3, y9_3⟩ := cl4 BK594; obtain ⟨Ao10, co10, eo10⟩ := Kd.R_slice HO587.out; subst eo10; have hnb11 := NB595_582.out; have hnc11 := NB582_595.out; obtain ⟨z12_0, y12_0, z12_1, y12_1, z12_2, y12_2⟩ := cl3 BK595; obtain ⟨Ao13, co13, eo13⟩ := Kd.R_slice HO592.out; subst eo13))
 have n0_ : Aside0 (Kd.R k46 46 (((((((w6.setCell ⟨gb594, 0, none⟩ (.int .i64 t583)).setCell ⟨gb594, 1, none⟩ (.string t584)).setCell ⟨gb594, 2, none⟩ (.slice Ao10 t585.length co10)).setCell ⟨gb594, 3, none⟩ (.string t588)).setCell ⟨gb595, 0, none⟩ (.int .i64 t589)).setCell ⟨gb595, 1, none⟩ (.slice Ao13 t590.length co13)).setCell ⟨gb595, 2, none⟩ (.string t593)) w.heap.size (fun k_ => some k_ ≠ (.slice Ao13 t590.length co13 : Value).ownBlock) (.slice Ao10 t585.length co10) t585) := ⟨rj (Kd.R_types (Kd.R_types HO587.out BK594.out (by decide)) BK595.out (by decide)) (fun _ hk => hk.1.1)⟩
 have n1_ : Aside0 (Kd.R k46 46 (((((((w6.setCell ⟨gb594, 0, none⟩ (.int .i64 t583)).setCell ⟨gb594, 1, none⟩ (.string t584)).setCell ⟨gb594, 2, none⟩ (.slice Ao10 t585.length co10)).setCell ⟨gb594, 3, none⟩ (.string t588)).setCell ⟨gb595, 0, none⟩ (.int .i64 t589)).setCell ⟨gb595, 1, none⟩ (.slice Ao13 t590.length co13)).setCell ⟨gb595, 2, none⟩ (.string t593)) w.heap.size (fun k_ => some k_ ≠ (.slice Ao10 t585.length co10 : Value).ownBlock) (.slice Ao13 t590.length co13) t590) := ⟨rj (Kd.R_types (Kd.R_types HO592.out BK594.out (by decide)) BK595.out (by decide)) (fun _ hk => hk.1.1)⟩
 have n2_ : Aside0 ((((((((w6.setCell ⟨gb594, 0, none⟩ (.int .i64 t583)).setCell ⟨gb594, 1, none⟩ (.string t584)).setCell ⟨gb594, 2, none⟩ (.slice Ao10 t585.length co10)).setCell ⟨gb594, 3, none⟩ (.string t588)).setCell ⟨gb595, 0, none⟩ (.int .i64 t589)).setCell ⟨gb595, 1, none⟩ (.slice Ao13 t590.length co13)).setCell ⟨gb595, 2, none⟩ (.string t593)).heap[gb582]? = some (.cells #[.int .i64 0, .string (⟨#[]⟩ : ByteArray), .slice none 0 0, .string (⟨#[]⟩ : ByteArray)] 26 (0, 0))) := ⟨by (with_reducible repeat (first | refine blk_drewN ?_ _ | refine blk_drew ?_ | refine blk_alloc ?_ _)); refine blk_far ?_ NB582_595.out _; (with_reducible repeat (first | refine blk_drewN ?_ _ | refine blk_drew ?_ | refine blk_alloc ?_ _)); refine blk_far ?_ NB582_595.out _; (with_reducible repeat (first | refine blk_drewN ?_ _ | refine blk_drew ?_ | refine blk_alloc ?_ _)); refine blk_far ?_ NB582_595.out _; (with_reducible repeat (first | refine blk_drewN ?_ _ | refine blk_drew ?_ | refine blk_alloc ?_ _)); refine blk_far ?_ NB582_594.out _; (with_reducible repeat (first | refine blk_drewN ?_ _ | refine blk_drew ?_ | refine blk_alloc ?_ _)); refine blk_far ?_ NB582_594.out _; (with_reducible repeat (first | refine blk_drewN ?_ _ | refine blk_drew ?_ | refine blk_alloc ?_ _)); refine blk_far ?_ NB582_594.out _; (with_reducible repeat (first | refine blk_drewN ?_ _ | refine blk_drew ?_ | refine blk_alloc ?_ _)); refine blk_far ?_ NB582_594.out _; (with_reducible repeat (first | refine blk_drewN ?_ _ | refine blk_drew ?_ | refine blk_alloc ?_ _)); exact BK582.out⟩
 have n3_ : Aside0 ((((((((w6.setCell ⟨gb594, 0, none⟩ (.int .i64 t583)).setCell ⟨gb594, 1, none⟩ (.string t584)).setCell ⟨gb594, 2, none⟩ (.slice Ao10 t585.length co10)).setCell ⟨gb594, 3, none⟩ (.string t588)).setCell ⟨gb595, 0, none⟩ (.int .i64 t589)).setCell ⟨gb595, 1, none⟩ (.slice Ao13 t590.length co13)).setCell ⟨gb595, 2, none⟩ (.string t593)).heap[gb594]? = some (.cells #[.int .i64 t583, .string t584, .slice Ao10 t585.length co10, .string t588] 26 (0, 0))) := ⟨pt1 BK594 NB594_595⟩
 have n4_ : Aside0 ((((((((w6.setCell ⟨gb594, 0, none⟩ (.int .i64 t583)).setCell ⟨gb594, 1, none⟩ (.string t584)).setCell ⟨gb594, 2, none⟩ (.slice Ao10 t585.length co10)).setCell ⟨gb594, 3, none⟩ (.string t588)).setCell ⟨gb595, 0, none⟩ (.int .i64 t589)).setCell ⟨gb595, 1, none⟩ (.slice Ao13 t590.length co13)).setCell ⟨gb595, 2, none⟩ (.string t593)).heap[gb595]? = some (.cells #[.int .i64 t589, .slice Ao13 t590.length co13, .string t593] 32 (0, 0))) := ⟨pt1 BK595 NB595_594⟩
 have n5_ : Aside0 (Below w.heap.size w (((((((w6.setCell ⟨gb594, 0, none⟩ (.int .i64 t583)).setCell ⟨gb594, 1, none⟩ (.string t584)).setCell ⟨gb594, 2, none⟩ (.slice Ao10 t585.length co10)).setCell ⟨gb594, 3, none⟩ (.string t588)).setCell ⟨gb595, 0, none⟩ (.int .i64 t589)).setCell ⟨gb595, 1, none⟩ (.slice Ao13 t590.length co13)).setCell ⟨gb595, 2, none⟩ (.string t593))) := ⟨u9HB⟩
 (try clear HO587)
 (try clear HO592)
 (try clear BK582)
 (try clear BK594)
 (try clear BK595)
 (try clear HB)
 generalize (((((((w6.setCell ⟨gb594, 0, none⟩ (.int .i64 t583)).setCell ⟨gb594, 1, none⟩ (.string t584)).setCell ⟨gb594, 2, none⟩ (.slice Ao10 t585.length co10)).setCell ⟨gb594, 3, none⟩ (.string t588)).setCell ⟨gb595, 0, none⟩ (.int .i64 t589)).setCell ⟨gb595, 1, none⟩ (.slice Ao13 t590.length co13)).setCell ⟨gb595, 2, none⟩ (.string t593)) = w14 at n0_ n1_ n2_ n3_ n4_ n5_ ⊢
 have HO587 := n0_
 have HO592 := n1_
 have BK582 := n2_
 have BK594 := n3_
 have BK595 := n4_
 have HB := n5_
 clear n0_ n1_ n2_ n3_ n4_ n5_
 replace HO587 := am (Kd.R_drew HO587.out)
 replace HO592 := am (Kd.R_drew HO592.out)
 replace BK582 := am (blk_drew BK582.out)
 replace BK594 := am (blk_drew BK594.out)
 replace BK595 := am (blk_drew BK595.out)
 replace HB := am (below_drew1 HB.out)
 refine start_ (n := 5) (S := fun w' => w'.cell? ⟨gb594, 0, none⟩ = some (.int .i64 t583) ∧ w'.cell? ⟨gb594, 1, none⟩ = some (.string t584) ∧ w'.cell? ⟨gb594, 2, none⟩ = some (.slice Ao10 t585.length co10) ∧ w'.cell? ⟨gb594, 3, none⟩ = some (.string t588) ∧ w'.cell? ⟨gb595, 0, none⟩ = some (.int .i64 t589) ∧ w'.cell? ⟨gb595, 1, none⟩ = some (.slice Ao13 t590.length co13) ∧ w'.cell? ⟨gb595, 2, none⟩ = some (.string t593)) (ds := []) ⟨br true [0, 5]⟩ (by kernel_rfl) rfl (by kernel_rfl) ⟨bc BK594, bc BK594, bc BK594, bc BK594, bc BK595, bc BK595, bc BK595⟩ (fun hHeld => ?_)
 generalize w14.drew = w15 at HO587 HO592 BK582 BK594 BK595 HB hHeld ⊢
 refine pu 1 12 [0, 1, 1, 3] ?_
 refine tk 0 11 [2, 3] ?_
 refine tk 2 13 [3, 2] ?_
 refine one_ (i := 3) (N := none) #[true, true, true, true, false] rfl rfl (by kernel_rfl) (by decide) (fun K hK => ?_)
 have hs16 : w15.cell? ⟨gb582, 0, none⟩ = some (.int .i64 0) := bc BK582
 have hfs16 := blk_frozen BK582.out 0
 have hns16_1 := NB594_582.out
 have hns16_2 := NB595_582.out
 have hms16_1 := NB582_594.out
 have hms16_2 := NB582_595.out
 have hs17 : w15.cell? ⟨gb582, 1, none⟩ = some (.string (⟨#[]⟩ : ByteArray)) := bc BK582
 have hfs17 := blk_frozen BK582.out 1
 have hns17_1 := NB594_582.out
 have hns17_2 := NB595_582.out
 have hms17_1 := NB582_594.out
 have hms17_2 := NB582_595.out
 have hs18 : w15.cell? ⟨gb582, 2, none⟩ = some (.slice none 0 0) := bc BK582
 have hfs18 := blk_frozen BK582.out 2
 have hns18_1 := NB594_582.out
 have hns18_2 := NB595_582.out
 have hms18_1 := NB582_594.out
 have hms18_2 := NB582_595.out
 have hs19 : w15.cell? ⟨gb582, 3, none⟩ = some (.string (⟨#[]⟩ : ByteArray)) := bc BK582
 have hfs19 := blk_frozen BK582.out 3
 have hns19_1 := NB594_582.out
 have hns19_2 := NB595_582.out
 have hms19_1 := NB582_594.out
 have hms19_2 := NB582_595.out
 refine skip_ (w1 := ?_) (by rfl) rfl ?_ ?_
 rotate_left
 ·go_simp
  rfl
 refine hK.out _ _ ⟨((cell_far (p := ⟨gb582, _, none⟩) NB594_582.out _).trans (((cell_far (p := ⟨gb582, _, none⟩) NB594_582.out _).trans (((cell_far (p := ⟨gb582, _, none⟩) NB594_582.out _).trans (((cell_far (p := ⟨gb582, _, none⟩) NB594_582.out _).trans (hHeld.1)))))))), ((cell_far (p := ⟨gb582, _, none⟩) NB594_582.out _).trans (((cell_far (p := ⟨gb582, _, none⟩) NB594_582.out _).trans (((cell_far (p := ⟨gb582, _, none⟩) NB594_582.out _).trans (((cell_far (p := ⟨gb582, _, none⟩) NB594_582.out _).trans (hHeld.2.1)))))))), ((cell_far (p := ⟨gb582, _, none⟩) NB594_582.out _).trans (((cell_far (p := ⟨gb582, _, none⟩) NB594_582.out _).trans (((cell_far (p := ⟨gb582, _, none⟩) NB594_582.out _).trans (((cell_far (p := ⟨gb582, _, none⟩) NB594_582.out _).trans (hHeld.2.2.1)))))))), ((cell_far (p := ⟨gb582, _, none⟩) NB594_582.out _).trans (((cell_far (p := ⟨gb582, _, none⟩) NB594_582.out _).trans (((cell_far (p := ⟨gb582, _, none⟩) NB594_582.out _).trans (((cell_far (p := ⟨gb582, _, none⟩) NB594_582.out _).trans (hHeld.2.2.2.1)))))))), ((cell_far (p := ⟨gb582, _, none⟩) NB595_582.out _).trans (((cell_far (p := ⟨gb582, _, none⟩) NB595_582.out _).trans (((cell_far (p := ⟨gb582, _, none⟩) NB595_582.out _).trans (((cell_far (p := ⟨gb582, _, none⟩) NB595_582.out _).trans (hHeld.2.2.2.2.1)))))))), ((cell_far (p := ⟨gb582, _, none⟩) NB595_582.out _).trans (((cell_far (p := ⟨gb582, _, none⟩) NB595_582.out _).trans (((cell_far (p := ⟨gb582, _, none⟩) NB595_582.out _).trans (((cell_far (p := ⟨gb582, _, none⟩) NB595_582.out _).trans (hHeld.2.2.2.2.2.1)))))))), ((cell_far (p := ⟨gb582, _, none⟩) NB595_582.out _).trans (((cell_far (p := ⟨gb582, _, none⟩) NB595_582.out _).trans (((cell_far (p := ⟨gb582, _, none⟩) NB595_582.out _).trans (((cell_far (p := ⟨gb582, _, none⟩) NB595_582.out _).trans (hHeld.2.2.2.2.2.2))))))))⟩ (fun hHeld => ?_)
 clear hK K
 refine pu 4 3 [5] ?_
 refine done_ (by kernel_rfl) ?_
 try go_wp2
 refine bodyPost_ret (results_ct rfl _ _ gb582 26 #[.int .i64 t583, .string t584, .slice Ao10 t585.length co10, .string t588] (0, 0) _ rfl (pt0 BK582) Tryd.underlying26 rfl (by kernel_rfl)) rfl ?_
 exact ⟨_, _, rf, rj (Kd.R_types HO587.out BK582.out (by decide)) (fun _ hk => hk.1), rj (Kd.R_types HO592.out BK582.out (by decide)) (fun _ hk => hk.1), bl⟩

/-! ### spec_DrawShort: function 10 -/
theorem u10HB {p : Prop} (h : p := by repeat (first | (with_reducible first | exact HB.out | apply below_alloc | apply pw_below_drewN | apply below_drew1 | refine below_set ?_ GE596.out | refine below_set ?_ (IsS57.ge HI600.out)) | exact HB.out)) : p := h
theorem u10HI600 {p : Prop} (h : p := by repeat (first | (with_reducible first | exact HI600.out | apply IsS57.alloc | apply IsS57.drewN | apply IsS57.drew | apply IsS57.set_1 | apply IsS57.set_2 | apply IsS57.far (p := ⟨gb596, _, none⟩) (hne := NB600_596.out)) | exact HI600.out)) : p := h
def spec_DrawShort.f (k : Nat) (l0 : List Int) : Option (Int × (List (S46)) × ByteArray) := (spec_l1New.f k l0).bind fun bt597 => ((spec_l3DrawBadResp.f k bt597.1 bt597.2.1 bt597.2.2).bind fun bt601 => (some (bt601.1, bt601.2.1, bt601.2.2.1)))
theorem spec_DrawShort.mono : ∀ a0 k, LeO (spec_DrawShort.f k a0) (spec_DrawShort.f (k + 1) a0) := by
 intro a0 k
 unfold spec_DrawShort.f
 have m0 := @spec_l1New.mono
 have m1 := @spec_l3DrawBadResp.mono
 exact mo
set_option maxHeartbeats 8000000 in
set_option maxRecDepth 100000 in
theorem spec_DrawShort.calls (k : Nat) (A0 : Option Addr) (c0 : Nat) (l0 : List Int) (r1 : Int) (r2 : List (S46)) (r3 : ByteArray) (w : World) (hr0 : Kd.C (Kd.int .u8) w A0 l0.length l0) (hc0 : l0.length ≤ c0) (h : spec_DrawShort.f k l0 = some (r1, r2, r3)) :
  Calls Tryd.prog 10 #[.slice A0 l0.length c0] w fun e w' => ∃ v1_ : Value, e = .returned (.agg #[.int .i64 r1, v1_, .string r3]) ∧ Kd.R k46 46 w' w.heap.size (fun _ => True) v1_ r2 ∧ Below w.heap.size w w' := by
 have hu32 := Tryd.underlying32
 have HR0 := am hr0
 have HC0 := am hc0
 clear hr0 hc0
 have HB := am (Below.refl w.heap.size w)
 unfold spec_DrawShort.f at h
 have H := h
 clear h
 revert H
 refine ok3 fun t597 t598 t599 A2 H => ?_
 (try dsimp only at H)
 revert H
 refine ok5 fun t601 t602 t605 t606 t607 A3 H => ?_
 (try dsimp only at H)
 simp only [Option.some.injEq, Prod.mk.injEq] at H
 obtain ⟨rfl, rfl, rfl⟩ := H
 go_enter Tryd.func10, Tryd.ntmps10
 go_wp2_with ((with_reducible refine gw ?_); first | (refine bx 2 #[.int .i64 0, .slice none 0 0, .string (⟨#[]⟩ : ByteArray)] 32 ?_; intro gb596 hg w4 hbox hb; have BK596 := am (hbox); have GW596 := am (sz hg : w.heap.size ≤ gb596); have GE596 := am (sz hg : w.heap.size ≤ gb596); replace HB := am (below_step bl hb); clear hb hbox hg) | (refine gl 4 Tryd.func18 #[.slice A0 l0.length c0] ?_; (with_reducible refine (spec_l1New.calls k _ _ l0 t597 t598 t599 w _ ?side1 ?side2 ?side3 A2.out).mono ?_); (case side1 => exact u10HB); (case side2 => exact HR0.out); (case side3 => exact HC0.out); rintro e w5 ⟨g600, rfl, hi, hb, hb2⟩; refine ⟨_, rfl, ?_⟩; replace HB := am (hb); have HI600 := am (hi); have NB600_596 := am (IsS57.ne_blk hi (blk_below (g := gb596) (o := .cells #[.int .i64 0, .slice none 0 0, .string (⟨#[]⟩ : ByteArray)] 32 (0, 0)) (bk BK596) hb2) (by decide)); have NB596_600 := am (Ne.symm (IsS57.ne_blk hi (blk_below (g := gb596) (o := .cells #[.int .i64 0, .slice none 0 0, .string (⟨#[]⟩ : ByteArray)] 32 (0, 0)) (bk BK596) hb2) (by decide))); replace BK596 := am (blk_below (g := gb596) (o := .cells #[.int .i64 0, .slice none 0 0, .string (⟨#[]⟩ : ByteArray)] 32 (0, 0)) (bk BK596) hb2); clear hb hb2 hi) | (refine gl 5 Tryd.func28 #[.pointer (some ⟨g600, 0, none⟩)] ?_; (with_reducible refine (spec_l3DrawBadResp.calls k g600 t597 t598 t599 t601 t602 t605 t606 t607 w _ ?side1 ?side2 A3.out).mono ?_); (case side1 => exact u10HI600); (case side2 => exact u10HB); rintro e w6 ⟨v603, rfl, ho0, hi, hb, hk⟩; refine ⟨_, rfl, ?_⟩; replace BK596 := kp BK596 hk NB596_600; have HO604 := am (Kd.R_lower ho0 (below_size u10HB)); replace HB := am (hb); replace HI600 := am (hi); clear hb hk hi ho0; have hnb7 := NB596_600.out; have hnc7 := NB600_596.out; obtain ⟨z8_0, y8_0, z8_1, y8_1, z8_2, y8_2⟩ := cl3 BK596; obtain ⟨Ao9, co9, eo9⟩ := Kd.R_slice HO604.out; subst eo9))
 refine bodyPost_ret (results_cell_row rfl _ _ gb596 32 #[.int .i64 t601, .slice Ao9 t602.length co9, .string t605] (0, 0) _ rfl (pt0 BK596) Tryd.underlying32 rfl (by kernel_rfl)) rfl ?_
 exact ⟨_, rf, rj (Kd.R_types HO604.out BK596.out (by decide)) (fun _ hk => trivial), u10HB⟩

/-! ### impl_Short: function 11 -/
theorem u11HB {p : Prop} (h : p := by repeat (first | (with_reducible first | exact HB.out | apply below_alloc | apply pw_below_drewN | apply below_drew1 | refine below_set ?_ GE608.out | refine below_set ?_ GE609.out | refine below_set ?_ GE610.out | refine below_set ?_ GE612.out) | exact HB.out)) : p := h
def impl_Short.l0 : Nat → List (S46) → Int → Int → Int → List (S46) → ByteArray → Option (Int × (List (S46)) × ByteArray)
 | 0, _, _, _, _, _, _ => none
 | k + 1, x8, x9, x10, x611000, x611001, x611002 => if x10 < x9 then (if 0 ≤ x10 then (if x10 < (x8.length : Int) then (if ((rd_T46 x8 x10).f0).toList = ([101, 116, 97, 103] : List UInt8) then (if x611001.length < 4398046511104 then (impl_Short.l0 k x8 x9 (wrap64 (x10 + 1)) x611000 (x611001 ++ [(⟨(rd_T46 x8 x10).f0, (rd_T46 x8 x10).f1⟩ : S46)]) x611002) else (none)) else (if ((rd_T46 x8 x10).f0).toList = ([118, 97, 114, 121] : List UInt8) then (if x611001.length < 4398046511104 then (impl_Short.l0 k x8 x9 (wrap64 (x10 + 1)) x611000 (x611001 ++ [(⟨(rd_T46 x8 x10).f0, (rd_T46 x8 x10).f1⟩ : S46)]) x611002) else (none)) else (if ((rd_T46 x8 x10).f0).toList = ([99, 97, 99, 104, 101, 45, 99, 111, 110, 116, 114, 111, 108] : List UInt8) then (if x611001.length < 4398046511104 then (impl_Short.l0 k x8 x9 (wrap64 (x10 + 1)) x611000 (x611001 ++ [(⟨(rd_T46 x8 x10).f0, (rd_T46 x8 x10).f1⟩ : S46)]) x611002) else (none)) else (impl_Short.l0 k x8 x9 (wrap64 (x10 + 1)) x611000 x611001 x611002)))) else (none)) else (none)) else (some (x611000, x611001, x611002))
def impl_Short.f (k : Nat) (a0_0 : Int) (l0_1 : List (S46)) (a0_2 : ByteArray) : Option (Int × (List (S46)) × ByteArray) := impl_Short.l0 k l0_1 (l0_1.length : Int) 0 304 ([] : List (S46)) (⟨#[]⟩ : ByteArray)
theorem impl_Short.mono_l : ∀ k, (∀ y0 y1 y2 y3 y4 y5, LeO (impl_Short.l0 k y0 y1 y2 y3 y4 y5) (impl_Short.l0 (k + 1) y0 y1 y2 y3 y4 y5))
 | 0 => fun _ _ _ _ _ _ r h => by simp [impl_Short.l0] at h
 | k + 1 => by
  have ih0 := impl_Short.mono_l k
  ·intro y0 y1 y2 y3 y4 y5
   unfold impl_Short.l0
   exact mo
theorem impl_Short.mono : ∀ a0 a1 a2 k, LeO (impl_Short.f k a0 a1 a2) (impl_Short.f (k + 1) a0 a1 a2) := by
 intro a0 a1 a2 k
 have ih0 := impl_Short.mono_l k
 unfold impl_Short.f
 exact mo
set_option maxHeartbeats 8000000 in
set_option maxRecDepth 100000 in
theorem impl_Short.calls (k : Nat) (a0_0 : Int) (A0_1 : Option Addr) (c0_1 : Nat) (l0_1 : List (S46)) (a0_2 : ByteArray) (r1 : Int) (r2 : List (S46)) (r3 : ByteArray) (w : World) (hr0_1 : Kd.C k46 w A0_1 l0_1.length l0_1) (hc0_1 : l0_1.length ≤ c0_1) (h : impl_Short.f k a0_0 l0_1 a0_2 = some (r1, r2, r3)) :
  Calls Tryd.prog 11 #[.agg #[.int .i64 a0_0, .slice A0_1 l0_1.length c0_1, .string a0_2]] w fun e w' => ∃ v1_ : Value, e = .returned (.agg #[.int .i64 r1, v1_, .string r3]) ∧ Kd.R k46 46 w' w.heap.size (fun _ => True) v1_ r2 ∧ Below w.heap.size w w' := by
 have hu32 := Tryd.underlying32
 have hu46 := Tryd.underlying46
 have HR0_1 := am hr0_1
 have HC0_1 := am hc0_1
 clear hr0_1 hc0_1
 have HB := am (Below.refl w.heap.size w)
 unfold impl_Short.f at h
 have H := h
 clear h
 have H' := am H
 clear H
 go_enter Tryd.func11, Tryd.ntmps11
 go_wp2_with ((with_reducible refine gw ?_); first | (refine bx 1 #[.int .i64 a0_0, .slice A0_1 l0_1.length c0_1, .string a0_2] 32 ?_; intro gb608 hg w2 hbox hb; have BK608 := am (hbox); have GW608 := am (sz hg : w.heap.size ≤ gb608); have GE608 := am (sz hg : w.heap.size ≤ gb608); replace HB := am (below_step bl hb); clear hb hbox hg) | (refine bx 2 #[.int .i64 0, .slice none 0 0, .string (⟨#[]⟩ : ByteArray)] 32 ?_; intro gb609 hg w3 hbox hb; have BK609 := am (hbox); have GW609 := am (sz hg : w.heap.size ≤ gb609); have GE609 := am (sz hg : w.heap.size ≤ gb609); replace HB := am (below_step bl hb); have NB608_609 := am (nl hg BK608 : gb608 ≠ gb609); have NB609_608 := am (ng hg BK608 : gb609 ≠ gb608); replace BK608 := kb BK608 hb; clear hb hbox hg) | (refine bx 3 #[.int .i64 0, .slice none 0 0, .string (⟨#[]⟩ : ByteArray)] 32 ?_; intro gb610 hg w4 hbox hb; have BK610 := am (hbox); have GW610 := am (sz hg : w.heap.size ≤ gb610); have GE610 := am (sz hg : w.heap.size ≤ gb610); replace HB := am (below_step bl hb); have NB608_610 := am (nl hg BK608 : gb608 ≠ gb610); have NB610_608 := am (ng hg BK608 : gb610 ≠ gb608); replace BK608 := kb BK608 hb; have NB609_610 := am (nl hg BK609 : gb609 ≠ gb610); have NB610_609 := am (ng hg BK609 : gb610 ≠ gb609); replace BK609 := kb BK609 hb; clear hb hbox hg; have hnb5 := NB610_608.out; have hnc5 := NB608_610.out; have hnb6 := NB610_609.out; have hnc6 := NB609_610.out; obtain ⟨z7_0, y7_0, z7_1, y7_1, z7_2, y7_2⟩ := cl3 BK610; have hnb8 := NB608_609.out; have hnc8 := NB609_608.out; obtain ⟨z9_0, y9_0, z9_1, y9_1, z9_2, y9_2⟩ := cl3 BK608))
 (try simp only [Act.put, List.setIfInBounds_toArray, List.set_cons_zero, List.set_cons_succ])
 go_loopg [10] k (fun kq v10 w' => ∃ (x10_1 : Int) (x611001_1 : List (S46)) (u611001 : Value), v10 = .int .i64 x10_1 ∧ Aside0 (impl_Short.l0 kq l0_1 (l0_1.length : Int) x10_1 304 x611001_1 (⟨#[]⟩ : ByteArray) = some (r1, r2, r3)) ∧ Aside0 (kq ≤ k) ∧ Aside0 (Kd.R k46 46 w' w.heap.size (fun _ => True) u611001 x611001_1) ∧ Aside0 (w'.heap[gb608]? = some (.cells #[.int .i64 a0_0, (.slice A0_1 l0_1.length c0_1), .string a0_2] 32 (0, 0))) ∧ Aside0 (w'.heap[gb609]? = some (.cells #[.int .i64 0, (.slice none 0 0), .string (⟨#[]⟩ : ByteArray)] 32 (0, 0))) ∧ Aside0 (w'.heap[gb610]? = some (.cells #[.int .i64 304, u611001, .string (⟨#[]⟩ : ByteArray)] 32 (0, 0))) ∧ Aside0 (Below w.heap.size w w'))
 case atStart => exact ⟨(0), (([] : List (S46))), (.slice none 0 0), rs, H', ⟨Nat.le_refl _⟩, ⟨by first | exact Kd.R_nil _ _ _ _ _ | exact Kd.N_nil _ _ _ _ _ | exact Kd.V_nil _ _ _ _ _ | exact Kd.Q_nil _ _ _ _ _ | exact Kd.S_nil _ _ _ _ _⟩, ⟨by (with_reducible repeat (first | refine blk_drewN ?_ _ | refine blk_drew ?_ | refine blk_alloc ?_ _)); refine blk_far ?_ NB608_610.out _; (with_reducible repeat (first | refine blk_drewN ?_ _ | refine blk_drew ?_ | refine blk_alloc ?_ _)); refine blk_far ?_ NB608_610.out _; (with_reducible repeat (first | refine blk_drewN ?_ _ | refine blk_drew ?_ | refine blk_alloc ?_ _)); refine blk_far ?_ NB608_610.out _; (with_reducible repeat (first | refine blk_drewN ?_ _ | refine blk_drew ?_ | refine blk_alloc ?_ _)); exact BK608.out⟩, ⟨by (with_reducible repeat (first | refine blk_drewN ?_ _ | refine blk_drew ?_ | refine blk_alloc ?_ _)); refine blk_far ?_ NB609_610.out _; (with_reducible repeat (first | refine blk_drewN ?_ _ | refine blk_drew ?_ | refine blk_alloc ?_ _)); refine blk_far ?_ NB609_610.out _; (with_reducible repeat (first | refine blk_drewN ?_ _ | refine blk_drew ?_ | refine blk_alloc ?_ _)); refine blk_far ?_ NB609_610.out _; (with_reducible repeat (first | refine blk_drewN ?_ _ | refine blk_drew ?_ | refine blk_alloc ?_ _)); exact BK609.out⟩, ⟨pt0 BK610⟩, ⟨u11HB⟩⟩
 case round =>
  clear H'
  try clear c1
  try clear p2
  try clear c5
  try clear c6
  try clear c8
  try clear z7_0
  try clear z7_1
  try clear z7_2
  try clear z9_0
  try clear z9_1
  try clear z9_2
  try clear y7_0
  try clear y7_1
  try clear y7_2
  try clear y9_0
  try clear y9_1
  try clear y9_2
  obtain ⟨x10_1, x611001_1, u611001, rfl, HA, HK1, HO_611001, BK608, BK609, BK610, HB⟩ := hrel
  cases gk with
  | zero => exact absurd HA.out (by simp [impl_Short.l0])
  | succ k1 =>
   have H := HA.out
   clear HA
   simp only [impl_Short.l0] at H
   by_cases c10 : x10_1 < (l0_1.length : Int)
   rotate_left
   ·rw [if_neg c10] at H
    have c10b0 := decide_eq_false c10
    clear c10
    simp only [Option.some.injEq, Prod.mk.injEq] at H
    obtain ⟨rfl, rfl, rfl⟩ := H
    have hnb57 := NB610_608.out
    have hnc57 := NB608_610.out
    have hnb58 := NB610_609.out
    have hnc58 := NB609_610.out
    obtain ⟨z59_0, y59_0, z59_1, y59_1, z59_2, y59_2⟩ := cl3 BK610
    have hnb60 := NB609_608.out
    have hnc60 := NB608_609.out
    obtain ⟨z61_0, y61_0, z61_1, y61_1, z61_2, y61_2⟩ := cl3 BK609
    obtain ⟨Ao62, co62, eo62⟩ := Kd.R_slice HO_611001.out
    subst eo62
    go_wp2
    refine bodyPost_ret (results_cell_row rfl _ _ gb609 32 #[.int .i64 304, .slice Ao62 x611001_1.length co62, .string (⟨#[]⟩ : ByteArray)] (0, 0) _ rfl (pt0 BK609) Tryd.underlying32 rfl (by kernel_rfl)) rfl ?_
    exact ⟨_, rf, rj (Kd.R_types HO_611001.out BK609.out (by decide)) (fun _ hk => trivial), bl⟩
   rw [if_pos c10] at H
   have c10b0 := decide_eq_true c10
   clear c10
   revert H
   refine ifn fun c11 H => ?_
   have c11b0 := decide_eq_true c11
   clear c11
   revert H
   refine ifn fun c12 H => ?_
   have c12b0 := decide_eq_true c12
   clear c12
   by_cases c13 : ((rd_T46 l0_1 x10_1).f0).toList = ([101, 116, 97, 103] : List UInt8)
   ·rw [if_pos c13] at H
    have c13b0 : (((rd_T46 l0_1 x10_1).f0).toList == ([101, 116, 97, 103] : List UInt8)) = true := beq_iff_eq.mpr c13
    have c13b1 : (((rd_T46 l0_1 x10_1).f0).toList != ([101, 116, 97, 103] : List UInt8)) = false := bne_eq_false_iff_eq.mpr c13
    clear c13
    revert H
    refine ifn fun c14 H => ?_
    have LMc14 := am c14
    clear c14
    obtain ⟨y613, hy613⟩ : ∃ y_ : List (S46), y_ = (x611001_1 ++ [(⟨(rd_T46 l0_1 x10_1).f0, (rd_T46 l0_1 x10_1).f1⟩ : S46)]) := ⟨_, rfl⟩
    replace H : (impl_Short.l0 k1 l0_1 (l0_1.length : Int) (wrap64 (x10_1 + 1)) 304 y613 (⟨#[]⟩ : ByteArray)) = some (r1, r2, r3) := by first | (rw [hy613]; with_reducible exact H) | (have H2_ := (Option.bind_some _ _).symm.trans H; rw [hy613]; with_reducible exact H2_) | (have H2_ := (Option.bind_some _ _).symm.trans H; with_reducible exact H2_) | with_reducible exact H | (rw [hy613]; exact H) | exact H
    have Ny613 := am hy613
    clear hy613
    have H' := am H
    clear H
    have p611 : 0 ≤ (x10_1 : Int) := od
    have q611 : x10_1 < (l0_1.length : Int) := od
    obtain ⟨ad611, e611, hx611_0, hx611_1⟩ := at_T46 HR0_1.out x10_1 p611 q611
    cases e611
    replace hx611_0 := hcw hx611_0
    replace hx611_1 := hcw hx611_1
    replace p611 := eq_true p611
    replace q611 := eq_true q611
    go_wp2_with (first | ((with_reducible refine gw ?_); first | (refine bx 5 #[.string (⟨#[]⟩ : ByteArray), .string (⟨#[]⟩ : ByteArray)] 46 ?_; intro gb612 hg w15 hbox hb; replace HO_611001 := am (Kd.R_below (Kd.R_elderB (ro HO_611001) gb612 (Nat.le_of_eq hg.symm)) hb); have BK612 := am (hbox); have GW612 := am (sz hg : w.heap.size ≤ gb612); have GE612 := am (sz hg : w.heap.size ≤ gb612); replace HB := am (below_step bl hb); have NB608_612 := am (nl hg BK608 : gb608 ≠ gb612); have NB612_608 := am (ng hg BK608 : gb612 ≠ gb608); replace BK608 := kb BK608 hb; have NB609_612 := am (nl hg BK609 : gb609 ≠ gb612); have NB612_609 := am (ng hg BK609 : gb612 ≠ gb609); replace BK609 := kb BK609 hb; have NB610_612 := am (nl hg BK610 : gb610 ≠ gb612); have NB612_610 := am (ng hg BK610 : gb612 ≠ gb610); replace BK610 := kb BK610 hb; clear hb hbox hg; have hnb16 := NB612_608.out; have hnc16 := NB608_612.out; have hnb17 := NB612_609.out; have hnc17 := NB609_612.out; have hnb18 := NB612_610.out; have hnc18 := NB610_612.out; obtain ⟨z19_0, y19_0, z19_1, y19_1⟩ := cl2 BK612; have hnb20 := NB610_608.out; have hnc20 := NB608_610.out; have hnb21 := NB610_609.out; have hnc21 := NB609_610.out; obtain ⟨z22_0, y22_0, z22_1, y22_1, z22_2, y22_2⟩ := cl3 BK610)) | ((with_reducible refine gate_builtin (b := .append) (xs := #[.tmp 28, .tmp 30]) rfl ?_); at_builtin; refine Kd.R_append k46 (w0 := w) w.heap.size rfl (.tmp 28) (.tmp 30) 24 46 (.agg #[(.string ⟨#[]⟩), (.string ⟨#[]⟩)]) 32 rfl Tryd.underlying24 info46 rfl (by decide) (by omega) u611001 x611001_1 (⟨(rd_T46 l0_1 x10_1).f0, (rd_T46 l0_1 x10_1).f1⟩ : S46) [.string ((rd_T46 l0_1 x10_1).f0), .string ((rd_T46 l0_1 x10_1).f1)] (fun k_ => k_ ≠ gb612) (fun _ => False) rfl (by first | (go_simp; done) | (go_simp; rfl)) ?aP (fun _ hk => hk.elim) ?aF ?aO ?aB ?aS ?aL ?_; (case aP => exact k46_mkM _ _ _ (⟨(rd_T46 l0_1 x10_1).f0, (rd_T46 l0_1 x10_1).f1⟩ : S46)); (case aB => exact bl); (case aF => exact (fun k_ hk => Kd.freshB (g := gb612) (o := .cells #[.string ((rd_T46 l0_1 x10_1).f0), .string ((rd_T46 l0_1 x10_1).f1)] 46 (0, 0)) (pt0 BK612) k_ hk)); (case aO => exact (by (with_reducible repeat (first | apply Kd.R_alloc | apply Kd.R_drewN | apply Kd.R_drew)); exact Kd.R_mono (Kd.R_far (p := ⟨gb612, 1, none⟩) (Kd.R_far (p := ⟨gb612, 0, none⟩) (Kd.R_mono HO_611001.out (fun k_ hk => (⟨hk, hk.2⟩ : _ ∧ k_ ≠ gb612))) (fun _ hk => hk.2) (.string ((rd_T46 l0_1 x10_1).f0))) (fun _ hk => hk.2) (.string ((rd_T46 l0_1 x10_1).f1))) (fun _ hk => hk.1.2))); (case aS => exact (below_size bl)); (case aL => have := LMc14.out; omega); intro v614 w23 ho hb hg hat; rw [← Ny613.out] at ho; have n0_ := am (blk_grown (g := gb608) (o := .cells #[.int .i64 a0_0, .slice (some ad611) l0_1.length c0_1, .string a0_2] 32 (0, 0)) (bg1 BK608 NB608_612) hg (Kd.R_ne HO_611001.out BK608.out (by decide))); have n1_ := am (blk_grown (g := gb609) (o := .cells #[.int .i64 0, .slice none 0 0, .string (⟨#[]⟩ : ByteArray)] 32 (0, 0)) (bg1 BK609 NB609_612) hg (Kd.R_ne HO_611001.out BK609.out (by decide))); have n2_ := am (blk_grown (g := gb610) (o := .cells #[.int .i64 304, u611001, .string (⟨#[]⟩ : ByteArray)] 32 (0, 0)) (bg1 BK610 NB610_612) hg (Kd.R_ne HO_611001.out BK610.out (by decide))); have n3_ := am (blk_grown (g := gb612) (o := .cells #[.string ((rd_T46 l0_1 x10_1).f0), .string ((rd_T46 l0_1 x10_1).f1)] 46 (0, 0)) (pt0 BK612) hg (Kd.R_away HO_611001.out (fun _ hk => hk.2))); have n4_ := am (hb); have n5_ := am (ho); clear BK608; clear BK609; clear BK610; clear BK612; clear HB; clear HO_611001; have BK608 := n0_; have BK609 := n1_; have BK610 := n2_; have BK612 := n3_; have HB := n4_; have HO615 := n5_; clear n0_ n1_ n2_ n3_ n4_ n5_; clear ho hb hg hat; obtain ⟨Ao24, co24, eo24⟩ := Kd.R_slice HO615.out; subst eo24; obtain ⟨z25_0, y25_0, z25_1, y25_1, z25_2, y25_2⟩ := cl3 BK610))
    go_roundg k1
    case measure => have := HK1.out; omega
    case rel => exact ⟨(wrap64 (x10_1 + 1)), (y613), (.slice Ao24 y613.length co24), rs, H', ⟨by have := HK1.out; omega⟩, ⟨rj (Kd.R_types HO615.out BK610.out (by decide)) (fun _ hk => trivial)⟩, ⟨by (with_reducible repeat (first | refine blk_drewN ?_ _ | refine blk_drew ?_ | refine blk_alloc ?_ _)); refine blk_far ?_ NB608_610.out _; (with_reducible repeat (first | refine blk_drewN ?_ _ | refine blk_drew ?_ | refine blk_alloc ?_ _)); exact BK608.out⟩, ⟨by (with_reducible repeat (first | refine blk_drewN ?_ _ | refine blk_drew ?_ | refine blk_alloc ?_ _)); refine blk_far ?_ NB609_610.out _; (with_reducible repeat (first | refine blk_drewN ?_ _ | refine blk_drew ?_ | refine blk_alloc ?_ _)); exact BK609.out⟩, ⟨pt0 BK610⟩, ⟨u11HB⟩⟩
   rw [if_neg c13] at H
   have c13b0 : (((rd_T46 l0_1 x10_1).f0).toList == ([101, 116, 97, 103] : List UInt8)) = false := beq_eq_false_iff_ne.mpr c13
   have c13b1 : (((rd_T46 l0_1 x10_1).f0).toList != ([101, 116, 97, 103] : List UInt8)) = true := bne_iff_ne.mpr c13
   by_cases c26 : ((rd_T46 l0_1 x10_1).f0).toList = ([118, 97, 114, 121] : List UInt8)
   ·rw [if_pos c26] at H
    have c26b0 : (((rd_T46 l0_1 x10_1).f0).toList == ([118, 97, 114, 121] : List UInt8)) = true := beq_iff_eq.mpr c26
    have c26b1 : (((rd_T46 l0_1 x10_1).f0).toList != ([118, 97, 114, 121] : List UInt8)) = false := bne_eq_false_iff_eq.mpr c26
    clear c26
    revert H
    refine ifn fun c27 H => ?_
    have LMc27 := am c27
    clear c27
    obtain ⟨y616, hy616⟩ : ∃ y_ : List (S46), y_ = (x611001_1 ++ [(⟨(rd_T46 l0_1 x10_1).f0, (rd_T46 l0_1 x10_1).f1⟩ : S46)]) := ⟨_, rfl⟩
    replace H : (impl_Short.l0 k1 l0_1 (l0_1.length : Int) (wrap64 (x10_1 + 1)) 304 y616 (⟨#[]⟩ : ByteArray)) = some (r1, r2, r3) := by first | (rw [hy616]; with_reducible exact H) | (have H2_ := (Option.bind_some _ _).symm.trans H; rw [hy616]; with_reducible exact H2_) | (have H2_ := (Option.bind_some _ _).symm.trans H; with_reducible exact H2_) | with_reducible exact H | (rw [hy616]; exact H) | exact H
    have Ny616 := am hy616
    clear hy616
    have H' := am H
    clear H
    have p611 : 0 ≤ (x10_1 : Int) := od
    have q611 : x10_1 < (l0_1.length : Int) := od
    obtain ⟨ad611, e611, hx611_0, hx611_1⟩ := at_T46 HR0_1.out x10_1 p611 q611
    cases e611
    replace hx611_0 := hcw hx611_0
    replace hx611_1 := hcw hx611_1
    replace p611 := eq_true p611
    replace q611 := eq_true q611
    go_wp2_with (first | ((with_reducible refine gw ?_); first | (refine bx 5 #[.string (⟨#[]⟩ : ByteArray), .string (⟨#[]⟩ : ByteArray)] 46 ?_; intro gb612 hg w28 hbox hb; replace HO_611001 := am (Kd.R_below (Kd.R_elderB (ro HO_611001) gb612 (Nat.le_of_eq hg.symm)) hb); have BK612 := am (hbox); have GW612 := am (sz hg : w.heap.size ≤ gb612); have GE612 := am (sz hg : w.heap.size ≤ gb612); replace HB := am (below_step bl hb); have NB608_612 := am (nl hg BK608 : gb608 ≠ gb612); have NB612_608 := am (ng hg BK608 : gb612 ≠ gb608); replace BK608 := kb BK608 hb; have NB609_612 := am (nl hg BK609 : gb609 ≠ gb612); have NB612_609 := am (ng hg BK609 : gb612 ≠ gb609); replace BK609 := kb BK609 hb; have NB610_612 := am (nl hg BK610 : gb610 ≠ gb612); have NB612_610 := am (ng hg BK610 : gb612 ≠ gb610); replace BK610 := kb BK610 hb; clear hb hbox hg; have hnb29 := NB612_608.out; have hnc29 := NB608_612.out; have hnb30 := NB612_609.out; have hnc30 := NB609_612.out; have hnb31 := NB612_610.out; have hnc31 := NB610_612.out; obtain ⟨z32_0, y32_0, z32_1, y32_1⟩ := cl2 BK612; have hnb33 := NB610_608.out; have hnc33 := NB608_610.out; have hnb34 := NB610_609.out; have hnc34 := NB609_610.out; obtain ⟨z35_0, y35_0, z35_1, y35_1, z35_2, y35_2⟩ := cl3 BK610)) | ((with_reducible refine gate_builtin (b := .append) (xs := #[.tmp 28, .tmp 30]) rfl ?_); at_builtin; refine Kd.R_append k46 (w0 := w) w.heap.size rfl (.tmp 28) (.tmp 30) 24 46 (.agg #[(.string ⟨#[]⟩), (.string ⟨#[]⟩)]) 32 rfl Tryd.underlying24 info46 rfl (by decide) (by omega) u611001 x611001_1 (⟨(rd_T46 l0_1 x10_1).f0, (rd_T46 l0_1 x10_1).f1⟩ : S46) [.string ((rd_T46 l0_1 x10_1).f0), .string ((rd_T46 l0_1 x10_1).f1)] (fun k_ => k_ ≠ gb612) (fun _ => False) rfl (by first | (go_simp; done) | (go_simp; rfl)) ?aP (fun _ hk => hk.elim) ?aF ?aO ?aB ?aS ?aL ?_; (case aP => exact k46_mkM _ _ _ (⟨(rd_T46 l0_1 x10_1).f0, (rd_T46 l0_1 x10_1).f1⟩ : S46)); (case aB => exact bl); (case aF => exact (fun k_ hk => Kd.freshB (g := gb612) (o := .cells #[.string ((rd_T46 l0_1 x10_1).f0), .string ((rd_T46 l0_1 x10_1).f1)] 46 (0, 0)) (pt0 BK612) k_ hk)); (case aO => exact (by (with_reducible repeat (first | apply Kd.R_alloc | apply Kd.R_drewN | apply Kd.R_drew)); exact Kd.R_mono (Kd.R_far (p := ⟨gb612, 1, none⟩) (Kd.R_far (p := ⟨gb612, 0, none⟩) (Kd.R_mono HO_611001.out (fun k_ hk => (⟨hk, hk.2⟩ : _ ∧ k_ ≠ gb612))) (fun _ hk => hk.2) (.string ((rd_T46 l0_1 x10_1).f0))) (fun _ hk => hk.2) (.string ((rd_T46 l0_1 x10_1).f1))) (fun _ hk => hk.1.2))); (case aS => exact (below_size bl)); (case aL => have := LMc27.out; omega); intro v617 w36 ho hb hg hat; rw [← Ny616.out] at ho; have n0_ := am (blk_grown (g := gb608) (o := .cells #[.int .i64 a0_0, .slice (some ad611) l0_1.length c0_1, .string a0_2] 32 (0, 0)) (bg1 BK608 NB608_612) hg (Kd.R_ne HO_611001.out BK608.out (by decide))); have n1_ := am (blk_grown (g := gb609) (o := .cells #[.int .i64 0, .slice none 0 0, .string (⟨#[]⟩ : ByteArray)] 32 (0, 0)) (bg1 BK609 NB609_612) hg (Kd.R_ne HO_611001.out BK609.out (by decide))); have n2_ := am (blk_grown (g := gb610) (o := .cells #[.int .i64 304, u611001, .string (⟨#[]⟩ : ByteArray)] 32 (0, 0)) (bg1 BK610 NB610_612) hg (Kd.R_ne HO_611001.out BK610.out (by decide))); have n3_ := am (blk_grown (g := gb612) (o := .cells #[.string ((rd_T46 l0_1 x10_1).f0), .string ((rd_T46 l0_1 x10_1).f1)] 46 (0, 0)) (pt0 BK612) hg (Kd.R_away HO_611001.out (fun _ hk => hk.2))); have n4_ := am (hb); have n5_ := am (ho); clear BK608; clear BK609; clear BK610; clear BK612; clear HB; clear HO_611001; have BK608 := n0_; have BK609 := n1_; have BK610 := n2_; have BK612 := n3_; have HB := n4_; have HO618 := n5_; clear n0_ n1_ n2_ n3_ n4_ n5_; clear ho hb hg hat; obtain ⟨Ao37, co37, eo37⟩ := Kd.R_slice HO618.out; subst eo37; obtain ⟨z38_0, y38_0, z38_1, y38_1, z38_2, y38_2⟩ := cl3 BK610))
    go_roundg k1
    case measure => have := HK1.out; omega
    case rel => exact ⟨(wrap64 (x10_1 + 1)), (y616), (.slice Ao37 y616.length co37), rs, H', ⟨by have := HK1.out; omega⟩, ⟨rj (Kd.R_types HO618.out BK610.out (by decide)) (fun _ hk => trivial)⟩, ⟨by (with_reducible repeat (first | refine blk_drewN ?_ _ | refine blk_drew ?_ | refine blk_alloc ?_ _)); refine blk_far ?_ NB608_610.out _; (with_reducible repeat (first | refine blk_drewN ?_ _ | refine blk_drew ?_ | refine blk_alloc ?_ _)); exact BK608.out⟩, ⟨by (with_reducible repeat (first | refine blk_drewN ?_ _ | refine blk_drew ?_ | refine blk_alloc ?_ _)); refine blk_far ?_ NB609_610.out _; (with_reducible repeat (first | refine blk_drewN ?_ _ | refine blk_drew ?_ | refine blk_alloc ?_ _)); exact BK609.out⟩, ⟨pt0 BK610⟩, ⟨u11HB⟩⟩
   rw [if_neg c26] at H
   have c26b0 : (((rd_T46 l0_1 x10_1).f0).toList == ([118, 97, 114, 121] : List UInt8)) = false := beq_eq_false_iff_ne.mpr c26
   have c26b1 : (((rd_T46 l0_1 x10_1).f0).toList != ([118, 97, 114, 121] : List UInt8)) = true := bne_iff_ne.mpr c26
   have HH39 := am H
   clear H
   have p611 : 0 ≤ (x10_1 : Int) := od
   have q611 : x10_1 < (l0_1.length : Int) := od
   obtain ⟨ad611, e611, hx611_0, hx611_1⟩ := at_T46 HR0_1.out x10_1 p611 q611
   cases e611
   replace hx611_0 := hcw hx611_0
   replace hx611_1 := hcw hx611_1
   replace p611 := eq_true p611
   replace q611 := eq_true q611
   go_upto_if 26 with ((with_reducible refine gw ?_); first | (refine bx 5 #[.string (⟨#[]⟩ : ByteArray), .string (⟨#[]⟩ : ByteArray)] 46 ?_; intro gb612 hg w40 hbox hb; replace HO_611001 := am (Kd.R_below (Kd.R_elderB (ro HO_611001) gb612 (Nat.le_of_eq hg.symm)) hb); have BK612 := am (hbox); have GW612 := am (sz hg : w.heap.size ≤ gb612); have GE612 := am (sz hg : w.heap.size ≤ gb612); replace HB := am (below_step bl hb); have NB608_612 := am (nl hg BK608 : gb608 ≠ gb612); have NB612_608 := am (ng hg BK608 : gb612 ≠ gb608); replace BK608 := kb BK608 hb; have NB609_612 := am (nl hg BK609 : gb609 ≠ gb612); have NB612_609 := am (ng hg BK609 : gb612 ≠ gb609); replace BK609 := kb BK609 hb; have NB610_612 := am (nl hg BK610 : gb610 ≠ gb612); have NB612_610 := am (ng hg BK610 : gb612 ≠ gb610); replace BK610 := kb BK610 hb; clear hb hbox hg; have hnb41 := NB612_608.out; have hnc41 := NB608_612.out; have hnb42 := NB612_609.out; have hnc42 := NB609_612.out; have hnb43 := NB612_610.out; have hnc43 := NB610_612.out; obtain ⟨z44_0, y44_0, z44_1, y44_1⟩ := cl2 BK612))
   have H := HH39.out
   clear HH39
   by_cases c45 : ((rd_T46 l0_1 x10_1).f0).toList = ([99, 97, 99, 104, 101, 45, 99, 111, 110, 116, 114, 111, 108] : List UInt8)
   rotate_left
   ·rw [if_neg c45] at H
    have c45b0 : (((rd_T46 l0_1 x10_1).f0).toList == ([99, 97, 99, 104, 101, 45, 99, 111, 110, 116, 114, 111, 108] : List UInt8)) = false := beq_eq_false_iff_ne.mpr c45
    have c45b1 : (((rd_T46 l0_1 x10_1).f0).toList != ([99, 97, 99, 104, 101, 45, 99, 111, 110, 116, 114, 111, 108] : List UInt8)) = true := bne_iff_ne.mpr c45
    (first | rw [c45b0] | (simp only [i64_w, i32_w]; rw [c45b0]) | skip)
    have H' := am H
    clear H
    go_wp2
    go_roundg k1
    case measure => have := HK1.out; omega
    case rel => exact ⟨(wrap64 (x10_1 + 1)), (x611001_1), (u611001), rs, H', ⟨by have := HK1.out; omega⟩, ⟨by (with_reducible repeat (first | apply Kd.R_alloc | apply Kd.R_drewN | apply Kd.R_drew)); exact Kd.R_mono (Kd.R_far (p := ⟨gb612, 1, none⟩) (Kd.R_far (p := ⟨gb612, 0, none⟩) (Kd.R_mono HO_611001.out (fun k_ hk => (⟨hk, hk.2⟩ : _ ∧ k_ ≠ gb612))) (fun _ hk => hk.2) (.string ((rd_T46 l0_1 x10_1).f0))) (fun _ hk => hk.2) (.string ((rd_T46 l0_1 x10_1).f1))) (fun _ hk => trivial)⟩, ⟨by (with_reducible repeat (first | refine blk_drewN ?_ _ | refine blk_drew ?_ | refine blk_alloc ?_ _)); refine blk_far ?_ NB608_612.out _; (with_reducible repeat (first | refine blk_drewN ?_ _ | refine blk_drew ?_ | refine blk_alloc ?_ _)); refine blk_far ?_ NB608_612.out _; (with_reducible repeat (first | refine blk_drewN ?_ _ | refine blk_drew ?_ | refine blk_alloc ?_ _)); exact BK608.out⟩, ⟨by (with_reducible repeat (first | refine blk_drewN ?_ _ | refine blk_drew ?_ | refine blk_alloc ?_ _)); refine blk_far ?_ NB609_612.out _; (with_reducible repeat (first | refine blk_drewN ?_ _ | refine blk_drew ?_ | refine blk_alloc ?_ _)); refine blk_far ?_ NB609_612.out _; (with_reducible repeat (first | refine blk_drewN ?_ _ | refine blk_drew ?_ | refine blk_alloc ?_ _)); exact BK609.out⟩, ⟨by (with_reducible repeat (first | refine blk_drewN ?_ _ | refine blk_drew ?_ | refine blk_alloc ?_ _)); refine blk_far ?_ NB610_612.out _; (with_reducible repeat (first | refine blk_drewN ?_ _ | refine blk_drew ?_ | refine blk_alloc ?_ _)); refine blk_far ?_ NB610_612.out _; (with_reducible repeat (first | refine blk_drewN ?_ _ | refine blk_drew ?_ | refine blk_alloc ?_ _)); exact BK610.out⟩, ⟨u11HB⟩⟩
   rw [if_pos c45] at H
   have c45b0 : (((rd_T46 l0_1 x10_1).f0).toList == ([99, 97, 99, 104, 101, 45, 99, 111, 110, 116, 114, 111, 108] : List UInt8)) = true := beq_iff_eq.mpr c45
   have c45b1 : (((rd_T46 l0_1 x10_1).f0).toList != ([99, 97, 99, 104, 101, 45, 99, 111, 110, 116, 114, 111, 108] : List UInt8)) = false := bne_eq_false_iff_eq.mpr c45
   clear c45
   (first | rw [c45b0] | (simp only [i64_w, i32_w]; rw [c45b0]) | skip)
   revert H
   refine ifn fun c46 H => ?_
   have LMc46 := am c46
   clear c46
   obtain ⟨y619, hy619⟩ : ∃ y_ : List (S46), y_ = (x611001_1 ++ [(⟨(rd_T46 l0_1 x10_1).f0, (rd_T46 l0_1 x10_1).f1⟩ : S46)]) := ⟨_, rfl⟩
   replace H : (impl_Short.l0 k1 l0_1 (l0_1.length : Int) (wrap64 (x10_1 + 1)) 304 y619 (⟨#[]⟩ : ByteArray)) = some (r1, r2, r3) := by first | (rw [hy619]; with_reducible exact H) | (have H2_ := (Option.bind_some _ _).symm.trans H; rw [hy619]; with_reducible exact H2_) | (have H2_ := (Option.bind_some _ _).symm.trans H; with_reducible exact H2_) | with_reducible exact H | (rw [hy619]; exact H) | exact H
   have Ny619 := am hy619
   clear hy619
   have H' := am H
   clear H
   have hnb47 := NB610_608.out
   have hnc47 := NB608_610.out
   have hnb48 := NB610_609.out
   have hnc48 := NB609_610.out
   have hnb49 := NB610_612.out
   have hnc49 := NB612_610.out
   obtain ⟨z50_0, y50_0, z50_1, y50_1, z50_2, y50_2⟩ := cl3 BK610
   have hnb51 := NB612_608.out
   have hnc51 := NB608_612.out
   have hnb52 := NB612_609.out
   have hnc52 := NB609_612.out
   obtain ⟨z53_0, y53_0, z53_1, y53_1⟩ := cl2 BK612
   go_wp2_with (first | ((with_reducible refine gate_builtin (b := .append) (xs := #[.tmp 28, .tmp 30]) rfl ?_); at_builtin; refine Kd.R_append k46 (w0 := w) w.heap.size rfl (.tmp 28) (.tmp 30) 24 46 (.agg #[(.string ⟨#[]⟩), (.string ⟨#[]⟩)]) 32 rfl Tryd.underlying24 info46 rfl (by decide) (by omega) u611001 x611001_1 (⟨(rd_T46 l0_1 x10_1).f0, (rd_T46 l0_1 x10_1).f1⟩ : S46) [.string ((rd_T46 l0_1 x10_1).f0), .string ((rd_T46 l0_1 x10_1).f1)] (fun k_ => k_ ≠ gb612) (fun _ => False) rfl (by first | (go_simp; done) | (go_simp; rfl)) ?aP (fun _ hk => hk.elim) ?aF ?aO ?aB ?aS ?aL ?_; (case aP => exact k46_mkM _ _ _ (⟨(rd_T46 l0_1 x10_1).f0, (rd_T46 l0_1 x10_1).f1⟩ : S46)); (case aB => exact bl); (case aF => exact (fun k_ hk => Kd.freshB (g := gb612) (o := .cells #[.string ((rd_T46 l0_1 x10_1).f0), .string ((rd_T46 l0_1 x10_1).f1)] 46 (0, 0)) (pt0 BK612) k_ hk)); (case aO => exact (by (with_reducible repeat (first | apply Kd.R_alloc | apply Kd.R_drewN | apply Kd.R_drew)); exact Kd.R_mono (Kd.R_far (p := ⟨gb612, 1, none⟩) (Kd.R_far (p := ⟨gb612, 0, none⟩) (Kd.R_mono HO_611001.out (fun k_ hk => (⟨hk, hk.2⟩ : _ ∧ k_ ≠ gb612))) (fun _ hk => hk.2) (.string ((rd_T46 l0_1 x10_1).f0))) (fun _ hk => hk.2) (.string ((rd_T46 l0_1 x10_1).f1))) (fun _ hk => hk.1.2))); (case aS => exact (below_size bl)); (case aL => have := LMc46.out; omega); intro v620 w54 ho hb hg hat; rw [← Ny619.out] at ho; have n0_ := am (blk_grown (g := gb608) (o := .cells #[.int .i64 a0_0, .slice (some ad611) l0_1.length c0_1, .string a0_2] 32 (0, 0)) (bg1 BK608 NB608_612) hg (Kd.R_ne HO_611001.out BK608.out (by decide))); have n1_ := am (blk_grown (g := gb609) (o := .cells #[.int .i64 0, .slice none 0 0, .string (⟨#[]⟩ : ByteArray)] 32 (0, 0)) (bg1 BK609 NB609_612) hg (Kd.R_ne HO_611001.out BK609.out (by decide))); have n2_ := am (blk_grown (g := gb610) (o := .cells #[.int .i64 304, u611001, .string (⟨#[]⟩ : ByteArray)] 32 (0, 0)) (bg1 BK610 NB610_612) hg (Kd.R_ne HO_611001.out BK610.out (by decide))); have n3_ := am (blk_grown (g := gb612) (o := .cells #[.string ((rd_T46 l0_1 x10_1).f0), .string ((rd_T46 l0_1 x10_1).f1)] 46 (0, 0)) (pt0 BK612) hg (Kd.R_away HO_611001.out (fun _ hk => hk.2))); have n4_ := am (hb); have n5_ := am (ho); clear BK608; clear BK609; clear BK610; clear BK612; clear HB; clear HO_611001; have BK608 := n0_; have BK609 := n1_; have BK610 := n2_; have BK612 := n3_; have HB := n4_; have HO621 := n5_; clear n0_ n1_ n2_ n3_ n4_ n5_; clear ho hb hg hat; obtain ⟨Ao55, co55, eo55⟩ := Kd.R_slice HO621.out; subst eo55; obtain ⟨z56_0, y56_0, z56_1, y56_1, z56_2, y56_2⟩ := cl3 BK610))
   go_roundg k1
   case measure => have := HK1.out; omega
   case rel => exact ⟨(wrap64 (x10_1 + 1)), (y619), (.slice Ao55 y619.length co55), rs, H', ⟨by have := HK1.out; omega⟩, ⟨rj (Kd.R_types HO621.out BK610.out (by decide)) (fun _ hk => trivial)⟩, ⟨by (with_reducible repeat (first | refine blk_drewN ?_ _ | refine blk_drew ?_ | refine blk_alloc ?_ _)); refine blk_far ?_ NB608_610.out _; (with_reducible repeat (first | refine blk_drewN ?_ _ | refine blk_drew ?_ | refine blk_alloc ?_ _)); exact BK608.out⟩, ⟨by (with_reducible repeat (first | refine blk_drewN ?_ _ | refine blk_drew ?_ | refine blk_alloc ?_ _)); refine blk_far ?_ NB609_610.out _; (with_reducible repeat (first | refine blk_drewN ?_ _ | refine blk_drew ?_ | refine blk_alloc ?_ _)); exact BK609.out⟩, ⟨pt0 BK610⟩, ⟨u11HB⟩⟩

/-! ### impl_Same: function 12 -/
def impl_Same.f (a0_0 : Int) (a0_1 : ByteArray) (l0_2 : List (S46)) (a0_3 : ByteArray) (l1 : List (S46)) : Option (Bool) := (impl_Get.f l1 (⟨#[101, 116, 97, 103]⟩ : ByteArray)).bind fun bt623 => ((impl_Get.f l0_2 (⟨#[105, 102, 45, 110, 111, 110, 101, 45, 109, 97, 116, 99, 104]⟩ : ByteArray)).bind fun bt625 => (if bt623.2 = true then (if bt625.2 = true then (some (bt623.1.toList == bt625.1.toList)) else (some false)) else (some false)))
set_option maxHeartbeats 8000000 in
set_option maxRecDepth 100000 in
theorem impl_Same.calls (a0_0 : Int) (a0_1 : ByteArray) (A0_2 : Option Addr) (c0_2 : Nat) (l0_2 : List (S46)) (a0_3 : ByteArray) (A1 : Option Addr) (c1 : Nat) (l1 : List (S46)) (r : Bool) (w : World) (hr0_2 : Kd.C k46 w A0_2 l0_2.length l0_2) (hc0_2 : l0_2.length ≤ c0_2) (hr1 : Kd.C k46 w A1 l1.length l1) (hc1 : l1.length ≤ c1) (h : impl_Same.f a0_0 a0_1 l0_2 a0_3 l1 = some r) :
  Calls Tryd.prog 12 #[.agg #[.int .i64 a0_0, .string a0_1, .slice A0_2 l0_2.length c0_2, .string a0_3], .slice A1 l1.length c1] w fun e w' => e = .returned (.bool r) ∧ Below w.heap.size w w' := by
 have hu26 := Tryd.underlying26
 have HR0_2 := am hr0_2
 have HC0_2 := am hc0_2
 clear hr0_2 hc0_2
 have HR1 := am hr1
 have HC1 := am hc1
 clear hr1 hc1
 have HB := am (Below.refl w.heap.size w)
 unfold impl_Same.f at h
 have H := h
 clear h
 revert H
 refine ok2 fun t623 t624 A3 H => ?_
 (try dsimp only at H)
 revert H
 refine ok2 fun t625 t626 A4 H => ?_
 (try dsimp only at H)
 by_cases c5 : t624 = true
 rotate_left
 ·replace c5 := Bool.eq_false_iff.mpr c5
  subst c5
  rw [if_neg (show ¬ (false = true) by decide)] at H
  obtain rfl := Option.some.inj H
  go_enter Tryd.func12, Tryd.ntmps12
  go_wp2_with ((with_reducible refine gw ?_); first | (refine bx 2 #[.int .i64 a0_0, .string a0_1, .slice A0_2 l0_2.length c0_2, .string a0_3] 26 ?_; intro gb622 hg w15 hbox hb; have BK622 := am (hbox); have GW622 := am (sz hg : w.heap.size ≤ gb622); have GE622 := am (sz hg : w.heap.size ≤ gb622); replace HB := am (below_step bl hb); clear hb hbox hg) | (refine gl 11 Tryd.func15 #[.slice A1 l1.length c1, .string (⟨#[101, 116, 97, 103]⟩ : ByteArray)] ?_; (with_reducible refine (impl_Get.calls _ _ l1 (⟨#[101, 116, 97, 103]⟩ : ByteArray) t623 false _ ?side1 ?side2 A3.out).mono ?_); (case side1 => exact cb HR1); (case side2 => exact HC1.out); rintro e w16 ⟨rfl, hb⟩; refine ⟨_, rfl, ?_⟩; replace BK622 := kb BK622 hb; replace HB := am (below_step bl hb); clear hb; obtain ⟨z17_0, y17_0, z17_1, y17_1, z17_2, y17_2, z17_3, y17_3⟩ := cl4 BK622) | (refine gl 17 Tryd.func15 #[.slice A0_2 l0_2.length c0_2, .string (⟨#[105, 102, 45, 110, 111, 110, 101, 45, 109, 97, 116, 99, 104]⟩ : ByteArray)] ?_; (with_reducible refine (impl_Get.calls _ _ l0_2 (⟨#[105, 102, 45, 110, 111, 110, 101, 45, 109, 97, 116, 99, 104]⟩ : ByteArray) t625 t626 _ ?side1 ?side2 A4.out).mono ?_); (case side1 => exact cb HR0_2); (case side2 => exact HC0_2.out); rintro e w18 ⟨rfl, hb⟩; refine ⟨_, rfl, ?_⟩; replace BK622 := kb BK622 hb; replace HB := am (below_step bl hb); clear hb))
  go_ret
  exact ⟨rf, bl⟩
 subst c5
 rw [if_pos rfl] at H
 by_cases c6 : t626 = true
 ·subst c6
  rw [if_pos rfl] at H
  obtain rfl := Option.some.inj H
  go_enter Tryd.func12, Tryd.ntmps12
  go_wp2_with ((with_reducible refine gw ?_); first | (refine bx 2 #[.int .i64 a0_0, .string a0_1, .slice A0_2 l0_2.length c0_2, .string a0_3] 26 ?_; intro gb622 hg w7 hbox hb; have BK622 := am (hbox); have GW622 := am (sz hg : w.heap.size ≤ gb622); have GE622 := am (sz hg : w.heap.size ≤ gb622); replace HB := am (below_step bl hb); clear hb hbox hg) | (refine gl 11 Tryd.func15 #[.slice A1 l1.length c1, .string (⟨#[101, 116, 97, 103]⟩ : ByteArray)] ?_; (with_reducible refine (impl_Get.calls _ _ l1 (⟨#[101, 116, 97, 103]⟩ : ByteArray) t623 true _ ?side1 ?side2 A3.out).mono ?_); (case side1 => exact cb HR1); (case side2 => exact HC1.out); rintro e w8 ⟨rfl, hb⟩; refine ⟨_, rfl, ?_⟩; replace BK622 := kb BK622 hb; replace HB := am (below_step bl hb); clear hb; obtain ⟨z9_0, y9_0, z9_1, y9_1, z9_2, y9_2, z9_3, y9_3⟩ := cl4 BK622) | (refine gl 17 Tryd.func15 #[.slice A0_2 l0_2.length c0_2, .string (⟨#[105, 102, 45, 110, 111, 110, 101, 45, 109, 97, 116, 99, 104]⟩ : ByteArray)] ?_; (with_reducible refine (impl_Get.calls _ _ l0_2 (⟨#[105, 102, 45, 110, 111, 110, 101, 45, 109, 97, 116, 99, 104]⟩ : ByteArray) t625 true _ ?side1 ?side2 A4.out).mono ?_); (case side1 => exact cb HR0_2); (case side2 => exact HC0_2.out); rintro e w10 ⟨rfl, hb⟩; refine ⟨_, rfl, ?_⟩; replace BK622 := kb BK622 hb; replace HB := am (below_step bl hb); clear hb))
  go_ret
  exact ⟨rf, bl⟩
 replace c6 := Bool.eq_false_iff.mpr c6
 subst c6
 rw [if_neg (show ¬ (false = true) by decide)] at H
 obtain rfl := Option.some.inj H
 go_enter Tryd.func12, Tryd.ntmps12
 go_wp2_with ((with_reducible refine gw ?_); first | (refine bx 2 #[.int .i64 a0_0, .string a0_1, .slice A0_2 l0_2.length c0_2, .string a0_3] 26 ?_; intro gb622 hg w11 hbox hb; have BK622 := am (hbox); have GW622 := am (sz hg : w.heap.size ≤ gb622); have GE622 := am (sz hg : w.heap.size ≤ gb622); replace HB := am (below_step bl hb); clear hb hbox hg) | (refine gl 11 Tryd.func15 #[.slice A1 l1.length c1, .string (⟨#[101, 116, 97, 103]⟩ : ByteArray)] ?_; (with_reducible refine (impl_Get.calls _ _ l1 (⟨#[101, 116, 97, 103]⟩ : ByteArray) t623 true _ ?side1 ?side2 A3.out).mono ?_); (case side1 => exact cb HR1); (case side2 => exact HC1.out); rintro e w12 ⟨rfl, hb⟩; refine ⟨_, rfl, ?_⟩; replace BK622 := kb BK622 hb; replace HB := am (below_step bl hb); clear hb; obtain ⟨z13_0, y13_0, z13_1, y13_1, z13_2, y13_2, z13_3, y13_3⟩ := cl4 BK622) | (refine gl 17 Tryd.func15 #[.slice A0_2 l0_2.length c0_2, .string (⟨#[105, 102, 45, 110, 111, 110, 101, 45, 109, 97, 116, 99, 104]⟩ : ByteArray)] ?_; (with_reducible refine (impl_Get.calls _ _ l0_2 (⟨#[105, 102, 45, 110, 111, 110, 101, 45, 109, 97, 116, 99, 104]⟩ : ByteArray) t625 false _ ?side1 ?side2 A4.out).mono ?_); (case side1 => exact cb HR0_2); (case side2 => exact HC0_2.out); rintro e w14 ⟨rfl, hb⟩; refine ⟨_, rfl, ?_⟩; replace BK622 := kb BK622 hb; replace HB := am (below_step bl hb); clear hb))
 go_ret
 exact ⟨rf, bl⟩

/-! ### spec_Same: function 13 -/
def spec_Same.f (k : Nat) (a0_0 : Int) (a0_1 : ByteArray) (l0_2 : List (S46)) (a0_3 : ByteArray) (l1 : List (S46)) : Option (Bool) := (spec_Get.f k l0_2 (⟨#[105, 102, 45, 110, 111, 110, 101, 45, 109, 97, 116, 99, 104]⟩ : ByteArray)).bind fun bt628 => ((spec_Get.f k l1 (⟨#[101, 116, 97, 103]⟩ : ByteArray)).bind fun bt630 => (if bt628.2 = true then (if bt630.2 = true then (some (bt628.1.toList == bt630.1.toList)) else (some false)) else (some false)))
theorem spec_Same.mono : ∀ a0 a1 a2 a3 a4 k, LeO (spec_Same.f k a0 a1 a2 a3 a4) (spec_Same.f (k + 1) a0 a1 a2 a3 a4) := by
 intro a0 a1 a2 a3 a4 k
 unfold spec_Same.f
 have m0 := @spec_Get.mono
 exact mo
set_option maxHeartbeats 8000000 in
set_option maxRecDepth 100000 in
theorem spec_Same.calls (k : Nat) (a0_0 : Int) (a0_1 : ByteArray) (A0_2 : Option Addr) (c0_2 : Nat) (l0_2 : List (S46)) (a0_3 : ByteArray) (A1 : Option Addr) (c1 : Nat) (l1 : List (S46)) (r : Bool) (w : World) (hr0_2 : Kd.C k46 w A0_2 l0_2.length l0_2) (hc0_2 : l0_2.length ≤ c0_2) (hr1 : Kd.C k46 w A1 l1.length l1) (hc1 : l1.length ≤ c1) (h : spec_Same.f k a0_0 a0_1 l0_2 a0_3 l1 = some r) :
  Calls Tryd.prog 13 #[.agg #[.int .i64 a0_0, .string a0_1, .slice A0_2 l0_2.length c0_2, .string a0_3], .slice A1 l1.length c1] w fun e w' => e = .returned (.bool r) ∧ Below w.heap.size w w' := by
 have hu26 := Tryd.underlying26
 have HR0_2 := am hr0_2
 have HC0_2 := am hc0_2
 clear hr0_2 hc0_2
 have HR1 := am hr1
 have HC1 := am hc1
 clear hr1 hc1
 have HB := am (Below.refl w.heap.size w)
 unfold spec_Same.f at h
 have H := h
 clear h
 revert H
 refine ok2 fun t628 t629 A3 H => ?_
 (try dsimp only at H)
 revert H
 refine ok2 fun t630 t631 A4 H => ?_
 (try dsimp only at H)
 by_cases c5 : t629 = true
 rotate_left
 ·replace c5 := Bool.eq_false_iff.mpr c5
  subst c5
  rw [if_neg (show ¬ (false = true) by decide)] at H
  obtain rfl := Option.some.inj H
  go_enter Tryd.func13, Tryd.ntmps13
  go_wp2_with ((with_reducible refine gw ?_); first | (refine bx 2 #[.int .i64 a0_0, .string a0_1, .slice A0_2 l0_2.length c0_2, .string a0_3] 26 ?_; intro gb627 hg w11 hbox hb; have BK627 := am (hbox); have GW627 := am (sz hg : w.heap.size ≤ gb627); have GE627 := am (sz hg : w.heap.size ≤ gb627); replace HB := am (below_step bl hb); clear hb hbox hg; obtain ⟨z12_0, y12_0, z12_1, y12_1, z12_2, y12_2, z12_3, y12_3⟩ := cl4 BK627) | (refine gl 12 Tryd.func25 #[.slice A0_2 l0_2.length c0_2, .string (⟨#[105, 102, 45, 110, 111, 110, 101, 45, 109, 97, 116, 99, 104]⟩ : ByteArray)] ?_; (with_reducible refine (spec_Get.calls k _ _ l0_2 (⟨#[105, 102, 45, 110, 111, 110, 101, 45, 109, 97, 116, 99, 104]⟩ : ByteArray) t628 false _ ?side1 ?side2 A3.out).mono ?_); (case side1 => exact cb HR0_2); (case side2 => exact HC0_2.out); rintro e w' ⟨rfl, ⟨nd, rfl⟩⟩; refine ⟨_, rfl, ?_⟩) | (refine gl 17 Tryd.func25 #[.slice A1 l1.length c1, .string (⟨#[101, 116, 97, 103]⟩ : ByteArray)] ?_; (with_reducible refine (spec_Get.calls k _ _ l1 (⟨#[101, 116, 97, 103]⟩ : ByteArray) t630 t631 _ ?side1 ?side2 A4.out).mono ?_); (case side1 => repeat (first | exact (Kd.C_below HR1.out bl) | (with_reducible refine Kd.C_alloc ?_ _) | (with_reducible refine Kd.C_drewN ?_ _) | (with_reducible refine Kd.C_drew ?_))); (case side2 => exact HC1.out); rintro e w' ⟨rfl, ⟨nd, rfl⟩⟩; refine ⟨_, rfl, ?_⟩))
  go_ret
  exact ⟨rf, bl⟩
 subst c5
 rw [if_pos rfl] at H
 by_cases c6 : t631 = true
 ·subst c6
  rw [if_pos rfl] at H
  obtain rfl := Option.some.inj H
  go_enter Tryd.func13, Tryd.ntmps13
  go_wp2_with ((with_reducible refine gw ?_); first | (refine bx 2 #[.int .i64 a0_0, .string a0_1, .slice A0_2 l0_2.length c0_2, .string a0_3] 26 ?_; intro gb627 hg w7 hbox hb; have BK627 := am (hbox); have GW627 := am (sz hg : w.heap.size ≤ gb627); have GE627 := am (sz hg : w.heap.size ≤ gb627); replace HB := am (below_step bl hb); clear hb hbox hg; obtain ⟨z8_0, y8_0, z8_1, y8_1, z8_2, y8_2, z8_3, y8_3⟩ := cl4 BK627) | (refine gl 12 Tryd.func25 #[.slice A0_2 l0_2.length c0_2, .string (⟨#[105, 102, 45, 110, 111, 110, 101, 45, 109, 97, 116, 99, 104]⟩ : ByteArray)] ?_; (with_reducible refine (spec_Get.calls k _ _ l0_2 (⟨#[105, 102, 45, 110, 111, 110, 101, 45, 109, 97, 116, 99, 104]⟩ : ByteArray) t628 true _ ?side1 ?side2 A3.out).mono ?_); (case side1 => exact cb HR0_2); (case side2 => exact HC0_2.out); rintro e w' ⟨rfl, ⟨nd, rfl⟩⟩; refine ⟨_, rfl, ?_⟩) | (refine gl 17 Tryd.func25 #[.slice A1 l1.length c1, .string (⟨#[101, 116, 97, 103]⟩ : ByteArray)] ?_; (with_reducible refine (spec_Get.calls k _ _ l1 (⟨#[101, 116, 97, 103]⟩ : ByteArray) t630 true _ ?side1 ?side2 A4.out).mono ?_); (case side1 => repeat (first | exact (Kd.C_below HR1.out bl) | (with_reducible refine Kd.C_alloc ?_ _) | (with_reducible refine Kd.C_drewN ?_ _) | (with_reducible refine Kd.C_drew ?_))); (case side2 => exact HC1.out); rintro e w' ⟨rfl, ⟨nd, rfl⟩⟩; refine ⟨_, rfl, ?_⟩))
  go_ret
  exact ⟨rf, bl⟩
 replace c6 := Bool.eq_false_iff.mpr c6
 subst c6
 rw [if_neg (show ¬ (false = true) by decide)] at H
 obtain rfl := Option.some.inj H
 go_enter Tryd.func13, Tryd.ntmps13
 go_wp2_with ((with_reducible refine gw ?_); first | (refine bx 2 #[.int .i64 a0_0, .string a0_1, .slice A0_2 l0_2.length c0_2, .string a0_3] 26 ?_; intro gb627 hg w9 hbox hb; have BK627 := am (hbox); have GW627 := am (sz hg : w.heap.size ≤ gb627); have GE627 := am (sz hg : w.heap.size ≤ gb627); replace HB := am (below_step bl hb); clear hb hbox hg; obtain ⟨z10_0, y10_0, z10_1, y10_1, z10_2, y10_2, z10_3, y10_3⟩ := cl4 BK627) | (refine gl 12 Tryd.func25 #[.slice A0_2 l0_2.length c0_2, .string (⟨#[105, 102, 45, 110, 111, 110, 101, 45, 109, 97, 116, 99, 104]⟩ : ByteArray)] ?_; (with_reducible refine (spec_Get.calls k _ _ l0_2 (⟨#[105, 102, 45, 110, 111, 110, 101, 45, 109, 97, 116, 99, 104]⟩ : ByteArray) t628 true _ ?side1 ?side2 A3.out).mono ?_); (case side1 => exact cb HR0_2); (case side2 => exact HC0_2.out); rintro e w' ⟨rfl, ⟨nd, rfl⟩⟩; refine ⟨_, rfl, ?_⟩) | (refine gl 17 Tryd.func25 #[.slice A1 l1.length c1, .string (⟨#[101, 116, 97, 103]⟩ : ByteArray)] ?_; (with_reducible refine (spec_Get.calls k _ _ l1 (⟨#[101, 116, 97, 103]⟩ : ByteArray) t630 false _ ?side1 ?side2 A4.out).mono ?_); (case side1 => repeat (first | exact (Kd.C_below HR1.out bl) | (with_reducible refine Kd.C_alloc ?_ _) | (with_reducible refine Kd.C_drewN ?_ _) | (with_reducible refine Kd.C_drew ?_))); (case side2 => exact HC1.out); rintro e w' ⟨rfl, ⟨nd, rfl⟩⟩; refine ⟨_, rfl, ?_⟩))
 go_ret
 exact ⟨rf, bl⟩

end Go.Proofs.YtjlpjbkpmmpojaaDoor.All
