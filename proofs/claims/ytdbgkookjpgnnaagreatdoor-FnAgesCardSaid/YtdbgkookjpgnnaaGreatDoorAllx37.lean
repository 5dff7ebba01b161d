-- Written by a program of this session (wip/tools/hprint.py) out of the translation. Lean checks it.
import Derived.Test.YtdbgkookjpgnnaaGreatDoorAllx0
import Derived.Test.YtdbgkookjpgnnaaGreatDoorAllx1
import Derived.Test.YtdbgkookjpgnnaaGreatDoorAllx2
import Derived.Test.YtdbgkookjpgnnaaGreatDoorAllx4
import Derived.Test.YtdbgkookjpgnnaaGreatDoorAllx6
import Derived.Test.YtdbgkookjpgnnaaGreatDoorAllx9
import Derived.Test.YtdbgkookjpgnnaaGreatDoorAllx10
import Derived.Test.YtdbgkookjpgnnaaGreatDoorAllx14
namespace Go.Proofs.YtdbgkookjpgnnaaGreatDoor.All
open Go.RowKit Go.Proofs.YtdbgkookjpgnnaaGreatDoorW.PrintWords Go.Proofs.YtdbgkookjpgnnaaGreatDoorW.PrintLast Go.Proofs.YtdbgkookjpgnnaaGreatDoorW.PrintMore
attribute [local go_sem] max2_int min2_int max_two min_two max_three min_three max_four min_four   -- for this text's walks alone
set_option linter.unusedVariables false
set_option linter.unusedSimpArgs false

/-! ### spec_DrawMerge: function 54 -/
theorem u54HB {p : Prop} (h : p := by repeat (first | (with_reducible first | exact HB.out | apply below_alloc | apply pw_below_drewN | apply below_drew1 | refine below_set ?_ GE1379.out | refine below_set ?_ GE1380.out | refine below_set ?_ (IsS148.ge HI1384.out) | refine below_set ?_ GE1392.out) | exact HB.out)) : p := h
theorem u54HI1384 {p : Prop} (h : p := by repeat (first | (with_reducible first | exact HI1384.out | apply IsS148.alloc | apply IsS148.drewN | apply IsS148.drew | apply IsS148.set_1 | apply IsS148.set_2 | apply IsS148.far (p := ⟨gb1379, _, none⟩) (hne := NB1384_1379.out) | apply IsS148.far (p := ⟨gb1380, _, none⟩) (hne := NB1384_1380.out) | apply IsS148.far (p := ⟨gb1392, _, none⟩) (hne := NB1384_1392.out)) | exact HI1384.out)) : p := h
def spec_DrawMerge.f (k : Nat) (l0 : List Int) : Option (Int × (List (S116)) × ByteArray × Int × (List (S116)) × ByteArray) := (spec_l1New.f k l0).bind fun bt1381 => ((spec_l3DrawBadResp.f k bt1381.1 bt1381.2.1 bt1381.2.2).bind fun bt1385 => ((spec_l3DrawBadResp.f k bt1381.1 bt1385.2.2.2.1 bt1385.2.2.2.2).bind fun bt1393 => (some (bt1385.1, bt1385.2.1, bt1385.2.2.1, bt1393.1, bt1393.2.1, bt1393.2.2.1))))
theorem spec_DrawMerge.mono : ∀ a0 k, LeO (spec_DrawMerge.f k a0) (spec_DrawMerge.f (k + 1) a0) := by
 intro a0 k
 unfold spec_DrawMerge.f
 have m0 := @spec_l1New.mono
 have m1 := @spec_l3DrawBadResp.mono
 exact mo
set_option maxHeartbeats 8000000 in
set_option maxRecDepth 100000 in
theorem spec_DrawMerge.calls (k : Nat) (A0 : Option Addr) (c0 : Nat) (l0 : List Int) (r1 : Int) (r2 : List (S116)) (r3 : ByteArray) (r4 : Int) (r5 : List (S116)) (r6 : ByteArray) (w : World) (hr0 : Kd.C (Kd.int .u8) w A0 l0.length l0) (hc0 : l0.length ≤ c0) (h : spec_DrawMerge.f k l0 = some (r1, r2, r3, r4, r5, r6)) :
  Calls Tryz.prog 54 #[.slice A0 l0.length c0] w fun e w' => ∃ v1_ v4_ : Value, e = .returned (.tuple #[.agg #[.int .i64 r1, v1_, .string r3], .agg #[.int .i64 r4, v4_, .string r6]]) ∧ Kd.R k116 116 w' w.heap.size (fun k_ => some k_ ≠ (v4_ : Value).ownBlock) v1_ r2 ∧ Kd.R k116 116 w' w.heap.size (fun k_ => some k_ ≠ (v1_ : Value).ownBlock) v4_ r5 ∧ Below w.heap.size w w' := by
 have hu29 := Tryz.underlying29
 have HR0 := am hr0
 have HC0 := am hc0
 clear hr0 hc0
 have HB := am (Below.refl w.heap.size w)
 unfold spec_DrawMerge.f at h
 have H := h
 clear h
 revert H
 refine ok3 fun t1381 t1382 t1383 A2 H => ?_
 (try dsimp only at H)
 revert H
 refine ok5 fun t1385 t1386 t1389 t1390 t1391 A3 H => ?_
 (try dsimp only at H)
 revert H
 refine ok5 fun t1393 t1394 t1397 t1398 t1399 A4 H => ?_
 (try dsimp only at H)
 simp only [Option.some.injEq, Prod.mk.injEq] at H
 obtain ⟨rfl, rfl, rfl, rfl, rfl, rfl⟩ := H
 go_enter Tryz.func54, Tryz.ntmps54
 try go_wp2_with (first | (refine bx 2 #[.int .i64 0, .slice none 0 0, .string (⟨#[]⟩ : ByteArray)] 29 ?_; intro gb1379 hg w5 hbox hb; have BK1379 := am (hbox); have GW1379 := am (sz hg : w.heap.size ≤ gb1379); have GE1379 := am (sz hg : w.heap.size ≤ gb1379); replace HB := am (below_step bl hb); clear hb hbox hg) | (refine bx 3 #[.int .i64 0, .slice none 0 0, .string (⟨#[]⟩ : ByteArray)] 29 ?_; intro gb1380 hg w6 hbox hb; have BK1380 := am (hbox); have GW1380 := am (sz hg : w.heap.size ≤ gb1380); have GE1380 := am (sz hg : w.heap.size ≤ gb1380); replace HB := am (below_step bl hb); have NB1379_1380 := am (nl hg BK1379 : gb1379 ≠ gb1380); have NB1380_1379 := am (ng hg BK1379 : gb1380 ≠ gb1379); replace BK1379 := kb BK1379 hb; clear hb hbox hg) | (refine gl 7 Tryz.func71 #[.slice A0 l0.length c0] ?_; (with_reducible refine (spec_l1New.calls k _ _ l0 t1381 t1382 t1383 w _ ?side1 ?side2 ?side3 A2.out).mono ?_); (case side1 => exact u54HB); (case side2 => exact HR0.out); (case side3 => exact HC0.out); rintro e w7 ⟨g1384, rfl, hi, hb, hb2⟩; refine ⟨_, rfl, ?_⟩; replace HB := am (hb); have HI1384 := am (hi); have NB1384_1379 := am (IsS148.ne_blk hi (blk_below (g := gb1379) (o := .cells #[.int .i64 0, .slice none 0 0, .string (⟨#[]⟩ : ByteArray)] 29 (0, 0)) (bk BK1379) hb2) (by decide)); have NB1379_1384 := am (Ne.symm (IsS148.ne_blk hi (blk_below (g := gb1379) (o := .cells #[.int .i64 0, .slice none 0 0, .string (⟨#[]⟩ : ByteArray)] 29 (0, 0)) (bk BK1379) hb2) (by decide))); replace BK1379 := am (blk_below (g := gb1379) (o := .cells #[.int .i64 0, .slice none 0 0, .string (⟨#[]⟩ : ByteArray)] 29 (0, 0)) (bk BK1379) hb2); have NB1384_1380 := am (IsS148.ne_blk hi (blk_below (g := gb1380) (o := .cells #[.int .i64 0, .slice none 0 0, .string (⟨#[]⟩ : ByteArray)] 29 (0, 0)) (bk BK1380) hb2) (by decide)); have NB1380_1384 := am (Ne.symm (IsS148.ne_blk hi (blk_below (g := gb1380) (o := .cells #[.int .i64 0, .slice none 0 0, .string (⟨#[]⟩ : ByteArray)] 29 (0, 0)) (bk BK1380) hb2) (by decide))); replace BK1380 := am (blk_below (g := gb1380) (o := .cells #[.int .i64 0, .slice none 0 0, .string (⟨#[]⟩ : ByteArray)] 29 (0, 0)) (bk BK1380) hb2); clear hb hb2 hi) | (refine gl 9 Tryz.func119 #[.pointer (some ⟨g1384, 0, none⟩)] ?_; (with_reducible refine (spec_l3DrawBadResp.calls k g1384 t1381 t1382 t1383 t1385 t1386 t1389 t1390 t1391 w _ ?side1 ?side2 A3.out).mono ?_); (case side1 => exact u54HI1384); (case side2 => exact u54HB); rintro e w8 ⟨v1387, rfl, ho0, hi, hb, hk⟩; refine ⟨_, rfl, ?_⟩; replace BK1379 := kp BK1379 hk NB1379_1384; replace BK1380 := kp BK1380 hk NB1380_1384; have HO1388 := am (Kd.R_lower ho0 (below_size u54HB)); replace HB := am (hb); replace HI1384 := am (hi); clear hb hk hi ho0) | (refine bx 5 #[.int .i64 0, .slice none 0 0, .string (⟨#[]⟩ : ByteArray)] 29 ?_; intro gb1392 hg w9 hbox hb; have n0_ := am (Kd.R_below (ro HO1388) hb); have n1_ := kb BK1379 hb; have n2_ := kb BK1380 hb; have n3_ := am (IsS148.below u54HI1384 hb); have n4_ := am (below_step u54HB hb); have n5_ := am (hbox); have n6_ := am ((by rw [hg]; exact (below_size u54HB) : w.heap.size ≤ gb1392)); have n7_ := am ((by rw [hg]; exact (below_size u54HB) : w.heap.size ≤ gb1392)); have n8_ := am (nl hg BK1379 : gb1379 ≠ gb1392); have n9_ := am (ng hg BK1379 : gb1392 ≠ gb1379); have n10_ := am (nl hg BK1380 : gb1380 ≠ gb1392); have n11_ := am (ng hg BK1380 : gb1392 ≠ gb1380); have n12_ := am ((by rw [hg]; exact Nat.ne_of_lt (IsS148.lt (show IsS148 w _ g1384 t1381 t1390 t1391 from u54HI1384)) : g1384 ≠ gb1392)); have n13_ := am ((by rw [hg]; exact Nat.ne_of_gt (IsS148.lt (show IsS148 w _ g1384 t1381 t1390 t1391 from u54HI1384)) : gb1392 ≠ g1384)); clear HO1388; clear BK1379; clear BK1380; clear HI1384; clear HB; have HO1388 := n0_; have BK1379 := n1_; have BK1380 := n2_; have HI1384 := n3_; have HB := n4_; have BK1392 := n5_; have GW1392 := n6_; have GE1392 := n7_; have NB1379_1392 := n8_; have NB1392_1379 := n9_; have NB1380_1392 := n10_; have NB1392_1380 := n11_; have NB1384_1392 := n12_; have NB1392_1384 := n13_; clear n0_ n1_ n2_ n3_ n4_ n5_ n6_ n7_ n8_ n9_ n10_ n11_ n12_ n13_; clear hb hbox hg; have hnb10 := NB1392_1379.out; have hnc10 := NB1379_1392.out; have hnb11 := NB1392_1380.out; have hnc11 := NB1380_1392.out; have hnb12 := NB1392_1384.out; have hnc12 := NB1384_1392.out; obtain ⟨z13_0, y13_0, z13_1, y13_1, z13_2, y13_2⟩ := cl3 BK1392; obtain ⟨Ao14, co14, eo14⟩ := Kd.R_slice HO1388.out; subst eo14))
 have n0_ : Aside0 (Kd.R k116 116 (((w9.setCell ⟨gb1392, 0, none⟩ (.int .i64 t1385)).setCell ⟨gb1392, 1, none⟩ (.slice Ao14 t1386.length co14)).setCell ⟨gb1392, 2, none⟩ (.string t1389)) w.heap.size (fun _ => True) (.slice Ao14 t1386.length co14) t1386) := ⟨rg (Kd.R_types HO1388.out BK1392.out (by decide))⟩
 have n1_ : Aside0 ((((w9.setCell ⟨gb1392, 0, none⟩ (.int .i64 t1385)).setCell ⟨gb1392, 1, none⟩ (.slice Ao14 t1386.length co14)).setCell ⟨gb1392, 2, none⟩ (.string t1389)).heap[gb1379]? = some (.cells #[.int .i64 0, .slice none 0 0, .string (⟨#[]⟩ : ByteArray)] 29 (0, 0))) := ⟨by (with_reducible repeat (first | refine blk_drewN ?_ _ | refine blk_drew ?_ | refine blk_alloc ?_ _)); refine blk_far ?_ NB1379_1392.out _; (with_reducible repeat (first | refine blk_drewN ?_ _ | refine blk_drew ?_ | refine blk_alloc ?_ _)); refine blk_far ?_ NB1379_1392.out _; (with_reducible repeat (first | refine blk_drewN ?_ _ | refine blk_drew ?_ | refine blk_alloc ?_ _)); refine blk_far ?_ NB1379_1392.out _; (with_reducible repeat (first | refine blk_drewN ?_ _ | refine blk_drew ?_ | refine blk_alloc ?_ _)); exact BK1379.out⟩
 have n2_ : Aside0 ((((w9.setCell ⟨gb1392, 0, none⟩ (.int .i64 t1385)).setCell ⟨gb1392, 1, none⟩ (.slice Ao14 t1386.length co14)).setCell ⟨gb1392, 2, none⟩ (.string t1389)).heap[gb1380]? = some (.cells #[.int .i64 0, .slice none 0 0, .string (⟨#[]⟩ : ByteArray)] 29 (0, 0))) := ⟨by (with_reducible repeat (first | refine blk_drewN ?_ _ | refine blk_drew ?_ | refine blk_alloc ?_ _)); refine blk_far ?_ NB1380_1392.out _; (with_reducible repeat (first | refine blk_drewN ?_ _ | refine blk_drew ?_ | refine blk_alloc ?_ _)); refine blk_far ?_ NB1380_1392.out _; (with_reducible repeat (first | refine blk_drewN ?_ _ | refine blk_drew ?_ | refine blk_alloc ?_ _)); refine blk_far ?_ NB1380_1392.out _; (with_reducible repeat (first | refine blk_drewN ?_ _ | refine blk_drew ?_ | refine blk_alloc ?_ _)); exact BK1380.out⟩
 have n3_ : Aside0 ((((w9.setCell ⟨gb1392, 0, none⟩ (.int .i64 t1385)).setCell ⟨gb1392, 1, none⟩ (.slice Ao14 t1386.length co14)).setCell ⟨gb1392, 2, none⟩ (.string t1389)).heap[gb1392]? = some (.cells #[.int .i64 t1385, .slice Ao14 t1386.length co14, .string t1389] 29 (0, 0))) := ⟨pt0 BK1392⟩
 have n4_ : Aside0 (IsS148 w (((w9.setCell ⟨gb1392, 0, none⟩ (.int .i64 t1385)).setCell ⟨gb1392, 1, none⟩ (.slice Ao14 t1386.length co14)).setCell ⟨gb1392, 2, none⟩ (.string t1389)) g1384 t1381 t1390 t1391) := ⟨u54HI1384⟩
 have n5_ : Aside0 (Below w.heap.size w (((w9.setCell ⟨gb1392, 0, none⟩ (.int .i64 t1385)).setCell ⟨gb1392, 1, none⟩ (.slice Ao14 t1386.length co14)).setCell ⟨gb1392, 2, none⟩ (.string t1389))) := ⟨u54HB⟩
 (try clear HO1388)
 (try clear BK1379)
 (try clear BK1380)
 (try clear BK1392)
 (try clear HI1384)
 (try clear HB)
 generalize (((w9.setCell ⟨gb1392, 0, none⟩ (.int .i64 t1385)).setCell ⟨gb1392, 1, none⟩ (.slice Ao14 t1386.length co14)).setCell ⟨gb1392, 2, none⟩ (.string t1389)) = w15 at n0_ n1_ n2_ n3_ n4_ n5_ ⊢
 have HO1388 := n0_
 have BK1379 := n1_
 have BK1380 := n2_
 have BK1392 := n3_
 have HI1384 := n4_
 have HB := n5_
 clear n0_ n1_ n2_ n3_ n4_ n5_
 replace HO1388 := am (Kd.R_drew HO1388.out)
 replace BK1379 := am (blk_drew BK1379.out)
 replace BK1380 := am (blk_drew BK1380.out)
 replace BK1392 := am (blk_drew BK1392.out)
 replace HI1384 := am (IsS148.drew HI1384.out)
 replace HB := am (below_drew1 HB.out)
 refine start_ (n := 5) (S := fun w' => w'.cell? ⟨gb1392, 0, none⟩ = some (.int .i64 t1385) ∧ w'.cell? ⟨gb1392, 1, none⟩ = some (.slice Ao14 t1386.length co14) ∧ w'.cell? ⟨gb1392, 2, none⟩ = some (.string t1389)) (ds := []) ⟨br true [0, 5]⟩ (by kernel_rfl) rfl (by kernel_rfl) ⟨bc BK1392, bc BK1392, bc BK1392⟩ (fun hHeld => ?_)
 generalize w15.drew = w16 at HO1388 BK1379 BK1380 BK1392 HI1384 HB hHeld ⊢
 refine pu 1 11 [0, 1, 1, 3] ?_
 refine tk 0 10 [2, 3] ?_
 refine og 2 12 [3, 2] Tryz.func119 #[.pointer (some ⟨g1384, 0, none⟩)] (fun K hK => ?_)
 with_reducible refine (spec_l3DrawBadResp.calls k g1384 t1381 t1390 t1391 t1393 t1394 t1397 t1398 t1399 w _ ?side1 ?side2 A4.out).mono ?_
 (case side1 => exact u54HI1384)
 (case side2 => exact u54HB)
 rintro e w17 ⟨v1395, rfl, ho0, hi, hb, hk⟩
 refine ⟨_, rfl, ?_⟩
 replace BK1379 := kp BK1379 hk NB1379_1384
 replace BK1380 := kp BK1380 hk NB1380_1384
 replace BK1392 := kp BK1392 hk NB1392_1384
 have HO1396 := am (Kd.R_lower (Kd.R_new' ho0 (Kd.R_lt (ro HO1388))) (below_size u54HB))
 replace HO1388 := am (Kd.R_mono (Kd.R_told (Kd.R_oldK (IsS148.apart (show IsS148 w _ g1384 t1381 t1390 t1391 from u54HI1384) (ro HO1388) (by decide)) hk) (Kd.R_base ho0)) (fun _ h_ => h_.1))
 replace HB := am (hb)
 replace HI1384 := am (hi)
 clear hb hk hi ho0
 obtain ⟨Ao22, co22, eo22⟩ := Kd.R_slice HO1396.out
 (first | subst eo22 | (injection eo22 with f1_ f2_ f3_; have f4_ := f1_.symm; have f5_ := f3_.symm; clear f1_ f2_ f3_; subst f4_; subst f5_))
 refine hK.out _ _ ⟨bc BK1392, bc BK1392, bc BK1392⟩ (fun hHeld => ?_)
 clear hK K
 refine nm 12 ?_
 refine one_ (i := 3) (N := none) #[true, true, true, true, false] rfl rfl (by kernel_rfl) (by decide) (fun K hK => ?_)
 have hs18 : w17.cell? ⟨gb1379, 0, none⟩ = some (.int .i64 0) := bc BK1379
 have hfs18 := blk_frozen BK1379.out 0
 have hns18_1 := NB1380_1379.out
 have hns18_2 := NB1392_1379.out
 have hms18_1 := NB1379_1380.out
 have hms18_2 := NB1379_1392.out
 have hs19 : w17.cell? ⟨gb1379, 1, none⟩ = some (.slice none 0 0) := bc BK1379
 have hfs19 := blk_frozen BK1379.out 1
 have hns19_1 := NB1380_1379.out
 have hns19_2 := NB1392_1379.out
 have hms19_1 := NB1379_1380.out
 have hms19_2 := NB1379_1392.out
 have hs20 : w17.cell? ⟨gb1379, 2, none⟩ = some (.string (⟨#[]⟩ : ByteArray)) := bc BK1379
 have hfs20 := blk_frozen BK1379.out 2
 have hns20_1 := NB1380_1379.out
 have hns20_2 := NB1392_1379.out
 have hms20_1 := NB1379_1380.out
 have hms20_2 := NB1379_1392.out
 refine skip_ (w1 := ?_) (by rfl) rfl ?_ ?_
 rotate_left
 ·go_simp
  rfl
 refine hK.out _ _ ⟨((cell_far (p := ⟨gb1379, _, none⟩) NB1392_1379.out _).trans (((cell_far (p := ⟨gb1379, _, none⟩) NB1392_1379.out _).trans (((cell_far (p := ⟨gb1379, _, none⟩) NB1392_1379.out _).trans (hHeld.1)))))), ((cell_far (p := ⟨gb1379, _, none⟩) NB1392_1379.out _).trans (((cell_far (p := ⟨gb1379, _, none⟩) NB1392_1379.out _).trans (((cell_far (p := ⟨gb1379, _, none⟩) NB1392_1379.out _).trans (hHeld.2.1)))))), ((cell_far (p := ⟨gb1379, _, none⟩) NB1392_1379.out _).trans (((cell_far (p := ⟨gb1379, _, none⟩) NB1392_1379.out _).trans (((cell_far (p := ⟨gb1379, _, none⟩) NB1392_1379.out _).trans (hHeld.2.2))))))⟩ (fun hHeld => ?_)
 clear hK K
 refine one_ (i := 4) (N := none) #[true, true, true, true, true] rfl rfl (by kernel_rfl) (by decide) (fun K hK => ?_)
 have hs21 : w17.cell? ⟨gb1380, 0, none⟩ = some (.int .i64 0) := bc BK1380
 have hfs21 := blk_frozen BK1380.out 0
 have hns21_0 := NB1379_1380.out
 have hns21_2 := NB1392_1380.out
 have hms21_0 := NB1380_1379.out
 have hms21_2 := NB1380_1392.out
 have hs23 : w17.cell? ⟨gb1380, 1, none⟩ = some (.slice none 0 0) := bc BK1380
 have hfs23 := blk_frozen BK1380.out 1
 have hns23_0 := NB1379_1380.out
 have hns23_2 := NB1392_1380.out
 have hms23_0 := NB1380_1379.out
 have hms23_2 := NB1380_1392.out
 have hs24 : w17.cell? ⟨gb1380, 2, none⟩ = some (.string (⟨#[]⟩ : ByteArray)) := bc BK1380
 have hfs24 := blk_frozen BK1380.out 2
 have hns24_0 := NB1379_1380.out
 have hns24_2 := NB1392_1380.out
 have hms24_0 := NB1380_1379.out
 have hms24_2 := NB1380_1392.out
 refine skip_ (w1 := ?_) (by rfl) rfl ?_ ?_
 rotate_left
 ·go_simp
  rfl
 refine hK.out _ _ ⟨((cell_far (p := ⟨gb1380, _, none⟩) NB1392_1380.out _).trans (((cell_far (p := ⟨gb1380, _, none⟩) NB1392_1380.out _).trans (((cell_far (p := ⟨gb1380, _, none⟩) NB1392_1380.out _).trans (hHeld.1)))))), ((cell_far (p := ⟨gb1380, _, none⟩) NB1392_1380.out _).trans (((cell_far (p := ⟨gb1380, _, none⟩) NB1392_1380.out _).trans (((cell_far (p := ⟨gb1380, _, none⟩) NB1392_1380.out _).trans (hHeld.2.1)))))), ((cell_far (p := ⟨gb1380, _, none⟩) NB1392_1380.out _).trans (((cell_far (p := ⟨gb1380, _, none⟩) NB1392_1380.out _).trans (((cell_far (p := ⟨gb1380, _, none⟩) NB1392_1380.out _).trans (hHeld.2.2))))))⟩ (fun hHeld => ?_)
 clear hK K
 refine done_ (by kernel_rfl) ?_
 try go_wp2
 refine bodyPost_ret (results_cc rfl _ _ gb1379 gb1380 29 29 #[.int .i64 t1385, .slice Ao14 t1386.length co14, .string t1389] #[.int .i64 t1393, .slice Ao22 t1394.length co22, .string t1397] (0, 0) (0, 0) _ _ rfl (pt1 BK1379 NB1379_1380) Tryz.underlying29 rfl (by kernel_rfl) rfl (pt1 BK1380 NB1380_1379) Tryz.underlying29 rfl (by kernel_rfl)) rfl ?_
 exact ⟨_, _, rf, rg (Kd.R_types (Kd.R_types HO1388.out BK1379.out (by decide)) BK1380.out (by decide)), rg (Kd.R_types (Kd.R_types HO1396.out BK1379.out (by decide)) BK1380.out (by decide)), u54HB⟩

/-! ### impl_Put: function 121 -/
def impl_Put.f (l0 : List (S116)) (a1 : ByteArray) (a2 : ByteArray) : Option ((List (S116))) := (slices_Clone_Field.f l0).bind fun t1405 => ((impl_fieldAt.f l0 a1).bind fun t1408 => (if t1408 ≥ 0 then (if 0 ≤ t1408 then (if t1408 < (t1405.length : Int) then (some (t1405.set (t1408 : Int).toNat (⟨(rd_T116 t1405 t1408).f0, a2⟩ : S116))) else (none)) else (none)) else (if t1405.length < 4398046511104 then (some (t1405 ++ [(⟨a1, a2⟩ : S116)])) else (none))))
set_option maxHeartbeats 8000000 in
set_option maxRecDepth 100000 in
theorem impl_Put.calls (A0 : Option Addr) (c0 : Nat) (l0 : List (S116)) (a1 : ByteArray) (a2 : ByteArray) (r : List (S116)) (w : World) (hr0 : Kd.C k116 w A0 l0.length l0) (hc0 : l0.length ≤ c0) (h : impl_Put.f l0 a1 a2 = some r) :
  Calls Tryz.prog 121 #[.slice A0 l0.length c0, .string a1, .string a2] w fun e w' => ∃ v0_ : Value, e = .returned (v0_) ∧ Kd.R k116 116 w' w.heap.size (fun _ => True) v0_ r ∧ Below w.heap.size w w' := by
 have hu116 := Tryz.underlying116
 have HR0 := am hr0
 have HC0 := am hc0
 clear hr0 hc0
 have HB := am (Below.refl w.heap.size w)
 unfold impl_Put.f at h
 have H := h
 clear h
 revert H
 refine ok1 fun t1405 A4 H => ?_
 revert H
 refine ok1 fun t1408 A5 H => ?_
 by_cases c6 : t1408 ≥ 0
 rotate_left
 ·rw [if_neg c6] at H
  have c6b0 := decide_eq_false c6
  clear c6
  revert H
  refine ifn fun c14 H => ?_
  have LMc14 := am c14
  clear c14
  obtain ⟨y1410, hy1410⟩ : ∃ y_ : List (S116), y_ = (t1405 ++ [(⟨a1, a2⟩ : S116)]) := ⟨_, rfl⟩
  replace H : (some y1410) = some r := by first | (rw [hy1410]; with_reducible exact H) | (have H2_ := (Option.bind_some _ _).symm.trans H; rw [hy1410]; with_reducible exact H2_) | (have H2_ := (Option.bind_some _ _).symm.trans H; with_reducible exact H2_) | with_reducible exact H | (rw [hy1410]; exact H) | exact H
  have Ny1410 := am hy1410
  clear hy1410
  obtain rfl := Option.some.inj H
  go_enter Tryz.func121, Tryz.ntmps121
  go_wp2_with (first | (refine gl 10 Tryz.func165 #[.slice A0 l0.length c0] ?_; (with_reducible refine (slices_Clone_Field.calls _ _ l0 t1405 _ ?side1 ?side2 A4.out).mono ?_); (case side1 => exact cc HR0); (case side2 => exact HC0.out); rintro e w15 ⟨v1406, rfl, ho0, hb⟩; refine ⟨_, rfl, ?_⟩; have HO1407 := am (Kd.R_lower ho0 (below_size bl)); replace HB := am (below_step bl hb); clear hb ho0) | (refine gl 13 Tryz.func144 #[.slice A0 l0.length c0, .string a1] ?_; (with_reducible refine (impl_fieldAt.calls _ _ l0 a1 t1408 _ ?side1 ?side2 A5.out).mono ?_); (case side1 => exact cb HR0); (case side2 => exact HC0.out); rintro e w16 ⟨rfl, hb⟩; refine ⟨_, rfl, ?_⟩; replace HO1407 := kr HO1407 hb; replace HB := am (below_step bl hb); clear hb) | ((with_reducible refine gate_builtin (b := .append) (xs := #[.tmp 22, .tmp 26]) rfl ?_); at_builtin; refine Kd.R_append k116 (w0 := w) w.heap.size rfl (.tmp 22) (.tmp 26) 27 116 (.agg #[(.string ⟨#[]⟩), (.string ⟨#[]⟩)]) 32 rfl Tryz.underlying27 info116 rfl (by decide) (by omega) v1406 t1405 (⟨a1, a2⟩ : S116) [.string a1, .string a2] (fun _ => True) (fun _ => False) rfl rfl ?aP (fun _ hk => hk.elim) ?aF ?aO ?aB ?aS ?aL ?_; (case aP => exact k116_mkM _ _ _ (⟨a1, a2⟩ : S116)); (case aB => exact bl); (case aF => exact (fun _ _ => trivial)); (case aO => exact (ro HO1407)); (case aS => exact (below_size bl)); (case aL => have := LMc14.out; omega); intro v1411 w17 ho hb hg hat; rw [← Ny1410.out] at ho; have n0_ := am (hb); have n1_ := am (ho); clear HB; clear HO1407; have HB := n0_; have HO1412 := n1_; clear n0_ n1_; clear ho hb hg hat))
  go_ret
  exact ⟨_, rf, by (with_reducible repeat (first | apply Kd.R_alloc | apply Kd.R_drewN | apply Kd.R_drew)); exact HO1412.out, bl⟩
 rw [if_pos c6] at H
 have c6b0 := decide_eq_true c6
 clear c6
 revert H
 refine ifn fun c7 H => ?_
 have c7b0 := decide_eq_true c7
 clear c7
 revert H
 refine ifn fun c8 H => ?_
 have c8b0 := decide_eq_true c8
 clear c8
 obtain ⟨y1409, hy1409⟩ : ∃ y_ : List (S116), y_ = (t1405.set (t1408 : Int).toNat (⟨(rd_T116 t1405 t1408).f0, a2⟩ : S116)) := ⟨_, rfl⟩
 replace H : (some y1409) = some r := by first | (rw [hy1409]; with_reducible exact H) | (have H2_ := (Option.bind_some _ _).symm.trans H; rw [hy1409]; with_reducible exact H2_) | (have H2_ := (Option.bind_some _ _).symm.trans H; with_reducible exact H2_) | with_reducible exact H | (rw [hy1409]; exact H) | exact H
 have Ny1409 := am hy1409
 clear hy1409
 obtain rfl := Option.some.inj H
 go_enter Tryz.func121, Tryz.ntmps121
 go_wp2_with (first | (refine gl 10 Tryz.func165 #[.slice A0 l0.length c0] ?_; (with_reducible refine (slices_Clone_Field.calls _ _ l0 t1405 _ ?side1 ?side2 A4.out).mono ?_); (case side1 => exact cc HR0); (case side2 => exact HC0.out); rintro e w10 ⟨v1406, rfl, ho0, hb⟩; refine ⟨_, rfl, ?_⟩; have HO1407 := am (Kd.R_lower ho0 (below_size bl)); replace HB := am (below_step bl hb); clear hb ho0) | (refine gl 13 Tryz.func144 #[.slice A0 l0.length c0, .string a1] ?_; (with_reducible refine (impl_fieldAt.calls _ _ l0 a1 t1408 _ ?side1 ?side2 A5.out).mono ?_); (case side1 => exact cb HR0); (case side2 => exact HC0.out); rintro e w11 ⟨rfl, hb⟩; refine ⟨_, rfl, ?_⟩; replace HO1407 := kr HO1407 hb; replace HB := am (below_step bl hb); clear hb; have p9 : 0 ≤ (t1408 : Int) := od; have q9 : (t1408 : Int) < ((t1405.length : Int) : Int) := od; obtain ⟨go9, co9, eo9, gb9, gl9, cl9, HG9⟩ := Kd.R_form HO1407.out (by omega); (first | cases eo9 | (injection eo9 with ea_ en_ ec_; (first | subst ea_ | (injection ea_ with ea_; subst ea_)); subst ec_; clear en_)); have GB9 := am gb9; have GG9 := am HG9; clear gb9 gl9 HG9; obtain ⟨ce9, hcl9, hM9, hcc9, hfr9⟩ := Kd.R_elem HO1407.out z116 (t1408 : Int) p9 q9; obtain rfl := k116_openM hM9; have hx9_0 : w11.cell? ⟨go9, (t1408 : Int).toNat * 2, none⟩ = some (.string ((rd_T116 t1405 t1408).f0)) := hcc9 0 _ rfl; have hx9_1 : w11.cell? ⟨go9, (t1408 : Int).toNat * 2 + 1, none⟩ = some (.string ((rd_T116 t1405 t1408).f1)) := hcc9 1 _ rfl; have hf9_0 : w11.frozen? ⟨go9, (t1408 : Int).toNat * 2, none⟩ = false := hfr9 0; have hf9_1 : w11.frozen? ⟨go9, (t1408 : Int).toNat * 2 + 1, none⟩ = false := hfr9 1; clear hcl9 hcc9 hfr9 hM9; replace p9 := eq_true p9; replace q9 := eq_true q9; have HX12 := am (show Kd.R k116 116 w11 w.heap.size (fun _ => True) (.slice (some ⟨go9, 0, none⟩) t1405.length co9) t1405 from (ro HO1407)); obtain ⟨ce12, hcl12, hM12, hcc12, hfr12⟩ := Kd.R_elem HX12.out z116 (t1408 : Int) (od) (by have h_ : (t1408 : Int) < ((t1405.length : Int) : Int) := od; first | exact h_ | (have e_ := (Kd.R_reads' HO1407.out).1; omega) | simpa using h_); obtain rfl := k116_openM hM12; have HP12 := Kd.R_seg HX12.out (t1408 : Int) (od) (by have h_ : (t1408 : Int) < ((t1405.length : Int) : Int) := od; first | exact h_ | (have e_ := (Kd.R_reads' HO1407.out).1; omega) | simpa using h_) (seg := [.string a2]) (j := 1) hcl12 hcc12 (show 2 ≤ 2 from by decide) (x' := (⟨(rd_T116 t1405 t1408).f0, a2⟩ : S116)) (k116_mkM _ _ _ (⟨(rd_T116 t1405 t1408).f0, a2⟩ : S116) ) (fun _ hk => hk); have hx12_1 := hcc12 1 _ rfl; (try simp only [show (k116).sz = 2 from rfl, Nat.mul_one, Nat.add_zero] at hx12_1); have hf12_1 := hfr12 1; (try simp only [show (k116).sz = 2 from rfl, Nat.mul_one, Nat.add_zero] at hf12_1); clear hcl12 hcc12 hfr12 hM12) | ((with_reducible refine gate_store (t := 9) (p := 20) rfl ?_); refine store_event (t := 9) (p := 20) (v := ?vo_w13) (w1 := (w11.setCell ⟨go9, (t1408 : Int).toNat * 2 + 1, none⟩ (.string a2))) ?hg ?ho ?hn ?hr ?_; (case ho => rfl); (case hg => rfl); (case hn => rfl); (case hr => first | (go_simp; done) | (go_simp; rfl)); intro w13 hw; have hg : w11.grownBy w13 (some go9) := (by rw [hw]; exact HP12.2); have hp_ : Kd.R k116 116 w13 w.heap.size (fun _ => True) (.slice (some ⟨go9, 0, none⟩) t1405.length co9) y1409 := (by rw [hw, Ny1409.out]; exact HP12.1); clear HP12; have n0_ := am (hp_); have n1_ := am ((by rw [hw]; exact below_set (HB.out) GB9.out : Below w.heap.size w w13)); clear HO1407; clear HB; have HO1407 := n0_; have HB := n1_; clear n0_ n1_; clear hg hw hp_))
 go_ret
 exact ⟨_, rf, by (with_reducible repeat (first | apply Kd.R_alloc | apply Kd.R_drewN | apply Kd.R_drew)); exact HO1407.out, bl⟩

/-! ### impl_Merge: function 55 -/
theorem u55HB {p : Prop} (h : p := by repeat (first | (with_reducible first | exact HB.out | apply below_alloc | apply pw_below_drewN | apply below_drew1 | refine below_set ?_ GE1413.out | refine below_set ?_ GE1414.out | refine below_set ?_ GE1415.out | refine below_set ?_ GE1421.out | refine below_set ?_ GE1423.out) | exact HB.out)) : p := h
def impl_Merge.l0 : Nat → List (S116) → Int → Int → Int → List (S116) → ByteArray → Int → List (S116) → ByteArray → Option (Int × (List (S116)) × ByteArray)
 | 0, _, _, _, _, _, _, _, _, _ => none
 | k + 1, x11, x12, x13, x1414000, x1414001, x1414002, x1422000, x1422001, x1422002 => if x13 < x12 then (if 0 ≤ x13 then (if x13 < (x11.length : Int) then ((impl_Put.f x1422001 ((rd_T116 x11 x13).f0) ((rd_T116 x11 x13).f1)).bind fun t1424 => (impl_Merge.l0 k x11 x12 (wrap64 (x13 + 1)) x1414000 x1414001 x1414002 x1422000 t1424 x1422002)) else (none)) else (none)) else ((impl_RespOk.f k x1422000 x1422001 x1422002).bind fun t1427 => (if t1427 = true then (some (x1422000, x1422001, x1422002)) else ((impl_copyResp.f x1414000 x1414001 x1414002).bind fun bt1428 => (some (bt1428.1, bt1428.2.1, bt1428.2.2)))))
def impl_Merge.f (k : Nat) (a0_0 : Int) (l0_1 : List (S116)) (a0_2 : ByteArray) (a1_0 : Int) (l1_1 : List (S116)) (a1_2 : ByteArray) : Option (Int × (List (S116)) × ByteArray) := (impl_copyResp.f a0_0 l0_1 a0_2).bind fun bt1416 => (impl_Merge.l0 k l1_1 (l1_1.length : Int) 0 a0_0 l0_1 a0_2 bt1416.1 bt1416.2.1 bt1416.2.2)
theorem impl_Merge.mono_l : ∀ k, (∀ y0 y1 y2 y3 y4 y5 y6 y7 y8, LeO (impl_Merge.l0 k y0 y1 y2 y3 y4 y5 y6 y7 y8) (impl_Merge.l0 (k + 1) y0 y1 y2 y3 y4 y5 y6 y7 y8))
 | 0 => fun _ _ _ _ _ _ _ _ _ r h => by simp [impl_Merge.l0] at h
 | k + 1 => by
  have ih0 := impl_Merge.mono_l k
  ·intro y0 y1 y2 y3 y4 y5 y6 y7 y8
   unfold impl_Merge.l0
   have m0 := @impl_RespOk.mono
   exact mo
theorem impl_Merge.mono : ∀ a0 a1 a2 a3 a4 a5 k, LeO (impl_Merge.f k a0 a1 a2 a3 a4 a5) (impl_Merge.f (k + 1) a0 a1 a2 a3 a4 a5) := by
 intro a0 a1 a2 a3 a4 a5 k
 have ih0 := impl_Merge.mono_l k
 unfold impl_Merge.f
 have m0 := @impl_RespOk.mono
 exact mo
set_option maxHeartbeats 8000000 in
set_option maxRecDepth 100000 in
theorem impl_Merge.calls (k : Nat) (a0_0 : Int) (A0_1 : Option Addr) (c0_1 : Nat) (l0_1 : List (S116)) (a0_2 : ByteArray) (a1_0 : Int) (A1_1 : Option Addr) (c1_1 : Nat) (l1_1 : List (S116)) (a1_2 : ByteArray) (r1 : Int) (r2 : List (S116)) (r3 : ByteArray) (w : World) (hr0_1 : Kd.C k116 w A0_1 l0_1.length l0_1) (hc0_1 : l0_1.length ≤ c0_1) (hr1_1 : Kd.C k116 w A1_1 l1_1.length l1_1) (hc1_1 : l1_1.length ≤ c1_1) (h : impl_Merge.f k a0_0 l0_1 a0_2 a1_0 l1_1 a1_2 = some (r1, r2, r3)) :
  Calls Tryz.prog 55 #[.agg #[.int .i64 a0_0, .slice A0_1 l0_1.length c0_1, .string a0_2], .agg #[.int .i64 a1_0, .slice A1_1 l1_1.length c1_1, .string a1_2]] w fun e w' => ∃ v1_ : Value, e = .returned (.agg #[.int .i64 r1, v1_, .string r3]) ∧ Kd.R k116 116 w' w.heap.size (fun _ => True) v1_ r2 ∧ Below w.heap.size w w' := by
 have hu29 := Tryz.underlying29
 have hu116 := Tryz.underlying116
 have HR0_1 := am hr0_1
 have HC0_1 := am hc0_1
 clear hr0_1 hc0_1
 have HR1_1 := am hr1_1
 have HC1_1 := am hc1_1
 clear hr1_1 hc1_1
 have HB := am (Below.refl w.heap.size w)
 unfold impl_Merge.f at h
 have H := h
 clear h
 revert H
 refine ok3 fun t1416 t1417 t1420 A3 H => ?_
 (try dsimp only at H)
 have H' := am H
 clear H
 go_enter Tryz.func55, Tryz.ntmps55
 go_wp2_with (first | (refine bx 2 #[.int .i64 a0_0, .slice A0_1 l0_1.length c0_1, .string a0_2] 29 ?_; intro gb1413 hg w4 hbox hb; have BK1413 := am (hbox); have GW1413 := am (sz hg : w.heap.size ≤ gb1413); have GE1413 := am (sz hg : w.heap.size ≤ gb1413); replace HB := am (below_step bl hb); clear hb hbox hg) | (refine bx 3 #[.int .i64 a1_0, .slice A1_1 l1_1.length c1_1, .string a1_2] 29 ?_; intro gb1414 hg w5 hbox hb; have BK1414 := am (hbox); have GW1414 := am (sz hg : w.heap.size ≤ gb1414); have GE1414 := am (sz hg : w.heap.size ≤ gb1414); replace HB := am (below_step bl hb); have NB1413_1414 := am (nl hg BK1413 : gb1413 ≠ gb1414); have NB1414_1413 := am (ng hg BK1413 : gb1414 ≠ gb1413); replace BK1413 := kb BK1413 hb; clear hb hbox hg) | (refine bx 4 #[.int .i64 0, .slice none 0 0, .string (⟨#[]⟩ : ByteArray)] 29 ?_; intro gb1415 hg w6 hbox hb; have BK1415 := am (hbox); have GW1415 := am (sz hg : w.heap.size ≤ gb1415); have GE1415 := am (sz hg : w.heap.size ≤ gb1415); replace HB := am (below_step bl hb); have NB1413_1415 := am (nl hg BK1413 : gb1413 ≠ gb1415); have NB1415_1413 := am (ng hg BK1413 : gb1415 ≠ gb1413); replace BK1413 := kb BK1413 hb; have NB1414_1415 := am (nl hg BK1414 : gb1414 ≠ gb1415); have NB1415_1414 := am (ng hg BK1414 : gb1415 ≠ gb1414); replace BK1414 := kb BK1414 hb; clear hb hbox hg; have hnb7 := NB1413_1414.out; have hnc7 := NB1414_1413.out; have hnb8 := NB1413_1415.out; have hnc8 := NB1415_1413.out; obtain ⟨z9_0, y9_0, z9_1, y9_1, z9_2, y9_2⟩ := cl3 BK1413) | (refine gl 9 Tryz.func120 #[.agg #[.int .i64 a0_0, .slice A0_1 l0_1.length c0_1, .string a0_2]] ?_; (with_reducible refine (impl_copyResp.calls a0_0 _ _ l0_1 a0_2 t1416 t1417 t1420 _ ?side1 ?side2 A3.out).mono ?_); (case side1 => exact cb HR0_1); (case side2 => exact HC0_1.out); rintro e w10 ⟨v1418, rfl, ho0, hb⟩; refine ⟨_, rfl, ?_⟩; have HO1419 := am (Kd.R_lower ho0 (below_size bl)); replace BK1413 := kb BK1413 hb; replace BK1414 := kb BK1414 hb; replace BK1415 := kb BK1415 hb; replace HB := am (below_step bl hb); clear hb ho0) | (refine bx 5 #[.int .i64 0, .slice none 0 0, .string (⟨#[]⟩ : ByteArray)] 29 ?_; intro gb1421 hg w11 hbox hb; replace HO1419 := am (Kd.R_below (ro HO1419) hb); have BK1421 := am (hbox); have GW1421 := am (sz hg : w.heap.size ≤ gb1421); have GE1421 := am (sz hg : w.heap.size ≤ gb1421); replace HB := am (below_step bl hb); have NB1413_1421 := am (nl hg BK1413 : gb1413 ≠ gb1421); have NB1421_1413 := am (ng hg BK1413 : gb1421 ≠ gb1413); replace BK1413 := kb BK1413 hb; have NB1414_1421 := am (nl hg BK1414 : gb1414 ≠ gb1421); have NB1421_1414 := am (ng hg BK1414 : gb1421 ≠ gb1414); replace BK1414 := kb BK1414 hb; have NB1415_1421 := am (nl hg BK1415 : gb1415 ≠ gb1421); have NB1421_1415 := am (ng hg BK1415 : gb1421 ≠ gb1415); replace BK1415 := kb BK1415 hb; clear hb hbox hg; have hnb12 := NB1421_1413.out; have hnc12 := NB1413_1421.out; have hnb13 := NB1421_1414.out; have hnc13 := NB1414_1421.out; have hnb14 := NB1421_1415.out; have hnc14 := NB1415_1421.out; obtain ⟨z15_0, y15_0, z15_1, y15_1, z15_2, y15_2⟩ := cl3 BK1421; obtain ⟨Ao16, co16, eo16⟩ := Kd.R_slice HO1419.out; subst eo16; have hnb17 := NB1414_1415.out; have hnc17 := NB1415_1414.out; obtain ⟨z18_0, y18_0, z18_1, y18_1, z18_2, y18_2⟩ := cl3 BK1414))
 (try simp only [Act.put, List.setIfInBounds_toArray, List.set_cons_zero, List.set_cons_succ])
 go_loopg [13] k (fun kq v13 w' => ∃ (x13_1 : Int) (x1422001_1 : List (S116)) (u1422001 : Value), v13 = .int .i64 x13_1 ∧ Aside0 (impl_Merge.l0 kq l1_1 (l1_1.length : Int) x13_1 a0_0 l0_1 a0_2 t1416 x1422001_1 t1420 = some (r1, r2, r3)) ∧ Aside0 (kq ≤ k) ∧ Aside0 (Kd.R k116 116 w' w.heap.size (fun _ => True) u1422001 x1422001_1) ∧ Aside0 (w'.heap[gb1413]? = some (.cells #[.int .i64 a0_0, (.slice A0_1 l0_1.length c0_1), .string a0_2] 29 (0, 0))) ∧ Aside0 (w'.heap[gb1414]? = some (.cells #[.int .i64 a1_0, (.slice A1_1 l1_1.length c1_1), .string a1_2] 29 (0, 0))) ∧ Aside0 (w'.heap[gb1415]? = some (.cells #[.int .i64 0, (.slice none 0 0), .string (⟨#[]⟩ : ByteArray)] 29 (0, 0))) ∧ Aside0 (w'.heap[gb1421]? = some (.cells #[.int .i64 t1416, u1422001, .string t1420] 29 (0, 0))) ∧ Aside0 (Below w.heap.size w w'))
 case atStart => exact ⟨(0), (t1417), (.slice Ao16 t1417.length co16), rs, H', ⟨Nat.le_refl _⟩, ⟨rg (Kd.R_types HO1419.out BK1421.out (by decide))⟩, ⟨by (with_reducible repeat (first | refine blk_drewN ?_ _ | refine blk_drew ?_ | refine blk_alloc ?_ _)); refine blk_far ?_ NB1413_1421.out _; (with_reducible repeat (first | refine blk_drewN ?_ _ | refine blk_drew ?_ | refine blk_alloc ?_ _)); refine blk_far ?_ NB1413_1421.out _; (with_reducible repeat (first | refine blk_drewN ?_ _ | refine blk_drew ?_ | refine blk_alloc ?_ _)); refine blk_far ?_ NB1413_1421.out _; (with_reducible repeat (first | refine blk_drewN ?_ _ | refine blk_drew ?_ | refine blk_alloc ?_ _)); exact BK1413.out⟩, ⟨by (with_reducible repeat (first | refine blk_drewN ?_ _ | refine blk_drew ?_ | refine blk_alloc ?_ _)); refine blk_far ?_ NB1414_1421.out _; (with_reducible repeat (first | refine blk_drewN ?_ _ | refine blk_drew ?_ | refine blk_alloc ?_ _)); refine blk_far ?_ NB1414_1421.out _; (with_reducible repeat (first | refine blk_drewN ?_ _ | refine blk_drew ?_ | refine blk_alloc ?_ _)); refine blk_far ?_ NB1414_1421.out _; (with_reducible repeat (first | refine blk_drewN ?_ _ | refine blk_drew ?_ | refine blk_alloc ?_ _)); exact BK1414.out⟩, ⟨by (with_reducible repeat (first | refine blk_drewN ?_ _ | refine blk_drew ?_ | refine blk_alloc ?_ _)); refine blk_far ?_ NB1415_1421.out _; (with_reducible repeat (first | refine blk_drewN ?_ _ | refine blk_drew ?_ | refine blk_alloc ?_ _)); refine blk_far ?_ NB1415_1421.out _; (with_reducible repeat (first | refine blk_drewN ?_ _ | refine blk_drew ?_ | refine blk_alloc ?_ _)); refine blk_far ?_ NB1415_1421.out _; (with_reducible repeat (first | refine blk_drewN ?_ _ | refine blk_drew ?_ | refine blk_alloc ?_ _)); exact BK1415.out⟩, ⟨pt0 BK1421⟩, ⟨u55HB⟩⟩
 case round =>
  clear H'
  try clear c1
  try clear p2
  try clear c5
  try clear c7
  try clear c8
  try clear c12
  try clear c13
  try clear c14
  try clear c17
  try clear z15_0
  try clear z15_1
  try clear z15_2
  try clear z18_0
  try clear z18_1
  try clear z18_2
  try clear z9_0
  try clear z9_1
  try clear z9_2
  try clear y15_0
  try clear y15_1
  try clear y15_2
  try clear y18_0
  try clear y18_1
  try clear y18_2
  try clear y9_0
  try clear y9_1
  try clear y9_2
  obtain ⟨x13_1, x1422001_1, u1422001, rfl, HA, HK1, HO_1422001, BK1413, BK1414, BK1415, BK1421, HB⟩ := hrel
  cases gk with
  | zero => exact absurd HA.out (by simp [impl_Merge.l0])
  | succ k1 =>
   have H := HA.out
   clear HA
   simp only [impl_Merge.l0] at H
   by_cases c19 : x13_1 < (l1_1.length : Int)
   rotate_left
   ·rw [if_neg c19] at H
    have c19b0 := decide_eq_false c19
    clear c19
    revert H
    refine ok1 fun t1427 A37 H => ?_
    by_cases c38 : t1427 = true
    ·subst c38
     rw [if_pos rfl] at H
     simp only [Option.some.injEq, Prod.mk.injEq] at H
     obtain ⟨rfl, rfl, rfl⟩ := H
     have hnb39 := NB1421_1413.out
     have hnc39 := NB1413_1421.out
     have hnb40 := NB1421_1414.out
     have hnc40 := NB1414_1421.out
     have hnb41 := NB1421_1415.out
     have hnc41 := NB1415_1421.out
     obtain ⟨z42_0, y42_0, z42_1, y42_1, z42_2, y42_2⟩ := cl3 BK1421
     obtain ⟨Ao43, co43, eo43⟩ := Kd.R_slice HO_1422001.out
     subst eo43
     go_wp2_with (first | (refine gl 27 Tryz.func53 #[.agg #[.int .i64 t1416, .slice Ao43 x1422001_1.length co43, .string t1420]] ?_; (with_reducible refine (impl_RespOk.calls k1 t1416 _ _ x1422001_1 t1420 true _ ?side1 ?side2 A37.out).mono ?_); (case side1 => exact rc HO_1422001); (case side2 => exact (Kd.R_reads' HO_1422001.out).2.1); rintro e w44 ⟨rfl, hb⟩; refine ⟨_, rfl, ?_⟩; replace HO_1422001 := kr HO_1422001 hb; replace BK1413 := kb BK1413 hb; replace BK1414 := kb BK1414 hb; replace BK1415 := kb BK1415 hb; replace BK1421 := kb BK1421 hb; replace HB := am (below_step bl hb); clear hb; obtain ⟨z45_0, y45_0, z45_1, y45_1, z45_2, y45_2⟩ := cl3 BK1421; have hnb46 := NB1415_1413.out; have hnc46 := NB1413_1415.out; have hnb47 := NB1415_1414.out; have hnc47 := NB1414_1415.out; obtain ⟨z48_0, y48_0, z48_1, y48_1, z48_2, y48_2⟩ := cl3 BK1415))
     refine bodyPost_ret (results_cell_row rfl _ _ gb1415 29 #[.int .i64 t1416, .slice Ao43 x1422001_1.length co43, .string t1420] (0, 0) _ rfl (pt0 BK1415) Tryz.underlying29 rfl (by kernel_rfl)) rfl ?_
     exact ⟨_, rf, rg (Kd.R_types HO_1422001.out BK1415.out (by decide)), bl⟩
    replace c38 := Bool.eq_false_iff.mpr c38
    subst c38
    rw [if_neg (show ¬ (false = true) by decide)] at H
    revert H
    refine ok3 fun t1428 t1429 t1432 A49 H => ?_
    (try dsimp only at H)
    simp only [Option.some.injEq, Prod.mk.injEq] at H
    obtain ⟨rfl, rfl, rfl⟩ := H
    have hnb50 := NB1421_1413.out
    have hnc50 := NB1413_1421.out
    have hnb51 := NB1421_1414.out
    have hnc51 := NB1414_1421.out
    have hnb52 := NB1421_1415.out
    have hnc52 := NB1415_1421.out
    obtain ⟨z53_0, y53_0, z53_1, y53_1, z53_2, y53_2⟩ := cl3 BK1421
    obtain ⟨Ao54, co54, eo54⟩ := Kd.R_slice HO_1422001.out
    subst eo54
    go_wp2_with (first | (refine gl 27 Tryz.func53 #[.agg #[.int .i64 t1416, .slice Ao54 x1422001_1.length co54, .string t1420]] ?_; (with_reducible refine (impl_RespOk.calls k1 t1416 _ _ x1422001_1 t1420 false _ ?side1 ?side2 A37.out).mono ?_); (case side1 => exact rc HO_1422001); (case side2 => exact (Kd.R_reads' HO_1422001.out).2.1); rintro e w55 ⟨rfl, hb⟩; refine ⟨_, rfl, ?_⟩; replace HO_1422001 := kr HO_1422001 hb; replace BK1413 := kb BK1413 hb; replace BK1414 := kb BK1414 hb; replace BK1415 := kb BK1415 hb; replace BK1421 := kb BK1421 hb; replace HB := am (below_step bl hb); clear hb; have hnb56 := NB1413_1414.out; have hnc56 := NB1414_1413.out; have hnb57 := NB1413_1415.out; have hnc57 := NB1415_1413.out; obtain ⟨z58_0, y58_0, z58_1, y58_1, z58_2, y58_2⟩ := cl3 BK1413) | (refine gl 30 Tryz.func120 #[.agg #[.int .i64 a0_0, .slice A0_1 l0_1.length c0_1, .string a0_2]] ?_; (with_reducible refine (impl_copyResp.calls a0_0 _ _ l0_1 a0_2 t1428 t1429 t1432 _ ?side1 ?side2 A49.out).mono ?_); (case side1 => exact cb HR0_1); (case side2 => exact HC0_1.out); rintro e w59 ⟨v1430, rfl, ho0, hb⟩; refine ⟨_, rfl, ?_⟩; have HO1431 := am (Kd.R_lower (Kd.R_new' ho0 (Kd.R_lt (ro HO_1422001))) (below_size bl)); replace HO_1422001 := am (Kd.R_elder' (ro HO_1422001) (Kd.R_base ho0) hb); replace BK1413 := kb BK1413 hb; replace BK1414 := kb BK1414 hb; replace BK1415 := kb BK1415 hb; replace BK1421 := kb BK1421 hb; replace HB := am (below_step bl hb); clear hb ho0; have hnb60 := NB1415_1414.out; have hnc60 := NB1414_1415.out; obtain ⟨z61_0, y61_0, z61_1, y61_1, z61_2, y61_2⟩ := cl3 BK1415; obtain ⟨Ao62, co62, eo62⟩ := Kd.R_slice HO1431.out; subst eo62))
    refine bodyPost_ret (results_cell_row rfl _ _ gb1415 29 #[.int .i64 t1428, .slice Ao62 t1429.length co62, .string t1432] (0, 0) _ rfl (pt0 BK1415) Tryz.underlying29 rfl (by kernel_rfl)) rfl ?_
    exact ⟨_, rf, rg (Kd.R_types HO1431.out BK1415.out (by decide)), bl⟩
   rw [if_pos c19] at H
   have c19b0 := decide_eq_true c19
   clear c19
   revert H
   refine ifn fun c20 H => ?_
   have c20b0 := decide_eq_true c20
   clear c20
   revert H
   refine ifn fun c21 H => ?_
   have c21b0 := decide_eq_true c21
   clear c21
   revert H
   refine ok1 fun t1424 A22 H => ?_
   have H' := am H
   clear H
   have p1422 : 0 ≤ (x13_1 : Int) := od
   have q1422 : x13_1 < (l1_1.length : Int) := od
   obtain ⟨ad1422, e1422, hx1422_0, hx1422_1⟩ := at_T116 HR1_1.out x13_1 p1422 q1422
   cases e1422
   replace hx1422_0 := hcw hx1422_0
   replace hx1422_1 := hcw hx1422_1
   replace p1422 := eq_true p1422
   replace q1422 := eq_true q1422
   go_wp2_with (first | (refine bx 7 #[.string (⟨#[]⟩ : ByteArray), .string (⟨#[]⟩ : ByteArray)] 116 ?_; intro gb1423 hg w23 hbox hb; replace HO_1422001 := am (Kd.R_below (Kd.R_elderB (ro HO_1422001) gb1423 (Nat.le_of_eq hg.symm)) hb); have BK1423 := am (hbox); have GW1423 := am (sz hg : w.heap.size ≤ gb1423); have GE1423 := am (sz hg : w.heap.size ≤ gb1423); replace HB := am (below_step bl hb); have NB1413_1423 := am (nl hg BK1413 : gb1413 ≠ gb1423); have NB1423_1413 := am (ng hg BK1413 : gb1423 ≠ gb1413); replace BK1413 := kb BK1413 hb; have NB1414_1423 := am (nl hg BK1414 : gb1414 ≠ gb1423); have NB1423_1414 := am (ng hg BK1414 : gb1423 ≠ gb1414); replace BK1414 := kb BK1414 hb; have NB1415_1423 := am (nl hg BK1415 : gb1415 ≠ gb1423); have NB1423_1415 := am (ng hg BK1415 : gb1423 ≠ gb1415); replace BK1415 := kb BK1415 hb; have NB1421_1423 := am (nl hg BK1421 : gb1421 ≠ gb1423); have NB1423_1421 := am (ng hg BK1421 : gb1423 ≠ gb1421); replace BK1421 := kb BK1421 hb; clear hb hbox hg; have hnb24 := NB1423_1413.out; have hnc24 := NB1413_1423.out; have hnb25 := NB1423_1414.out; have hnc25 := NB1414_1423.out; have hnb26 := NB1423_1415.out; have hnc26 := NB1415_1423.out; have hnb27 := NB1423_1421.out; have hnc27 := NB1421_1423.out; obtain ⟨z28_0, y28_0, z28_1, y28_1⟩ := cl2 BK1423; have hnb29 := NB1421_1413.out; have hnc29 := NB1413_1421.out; have hnb30 := NB1421_1414.out; have hnc30 := NB1414_1421.out; have hnb31 := NB1421_1415.out; have hnc31 := NB1415_1421.out; obtain ⟨z32_0, y32_0, z32_1, y32_1, z32_2, y32_2⟩ := cl3 BK1421; obtain ⟨Ao33, co33, eo33⟩ := Kd.R_slice HO_1422001.out; subst eo33) | (refine gl 23 Tryz.func121 #[.slice Ao33 x1422001_1.length co33, .string ((rd_T116 l1_1 x13_1).f0), .string ((rd_T116 l1_1 x13_1).f1)] ?_; (with_reducible refine (impl_Put.calls _ _ x1422001_1 ((rd_T116 l1_1 x13_1).f0) ((rd_T116 l1_1 x13_1).f1) t1424 _ ?side1 ?side2 A22.out).mono ?_); (case side1 => refine (Kd.R_reads' (e := 116) (base := w.heap.size) (ok := fun k_ => (True ∧ k_ ≠ gb1423)) (n := x1422001_1.length) (c := co33) ?_).2.2; exact (by (with_reducible repeat (first | apply Kd.R_alloc | apply Kd.R_drewN | apply Kd.R_drew)); exact (Kd.R_mono (Kd.R_far (p := ⟨gb1423, 1, none⟩) (Kd.R_far (p := ⟨gb1423, 0, none⟩) (Kd.R_mono HO_1422001.out (fun k_ hk => (⟨hk, hk.2⟩ : _ ∧ k_ ≠ gb1423))) (fun _ hk => hk.2) (.string ((rd_T116 l1_1 x13_1).f0))) (fun _ hk => hk.2) (.string ((rd_T116 l1_1 x13_1).f1))) (fun _ h_ => h_.1)))); (case side2 => exact (Kd.R_reads' HO_1422001.out).2.1); rintro e w34 ⟨v1425, rfl, ho0, hb⟩; refine ⟨_, rfl, ?_⟩; have n0_ := am (Kd.R_elder' (by (with_reducible repeat (first | apply Kd.R_alloc | apply Kd.R_drewN | apply Kd.R_drew)); exact (Kd.R_mono (Kd.R_far (p := ⟨gb1423, 1, none⟩) (Kd.R_far (p := ⟨gb1423, 0, none⟩) (Kd.R_mono HO_1422001.out (fun k_ hk => (⟨hk, hk.2⟩ : _ ∧ k_ ≠ gb1423))) (fun _ hk => hk.2) (.string ((rd_T116 l1_1 x13_1).f0))) (fun _ hk => hk.2) (.string ((rd_T116 l1_1 x13_1).f1))) (fun _ h_ => h_.1))) (Kd.R_base ho0) hb); have n1_ := am (Kd.R_lower (Kd.R_newB (Kd.R_new' ho0 (Kd.R_lt (by (with_reducible repeat (first | apply Kd.R_alloc | apply Kd.R_drewN | apply Kd.R_drew)); exact (Kd.R_mono (Kd.R_far (p := ⟨gb1423, 1, none⟩) (Kd.R_far (p := ⟨gb1423, 0, none⟩) (Kd.R_mono HO_1422001.out (fun k_ hk => (⟨hk, hk.2⟩ : _ ∧ k_ ≠ gb1423))) (fun _ hk => hk.2) (.string ((rd_T116 l1_1 x13_1).f0))) (fun _ hk => hk.2) (.string ((rd_T116 l1_1 x13_1).f1))) (fun _ h_ => h_.1))))) (g := gb1423) (o := .cells #[.string ((rd_T116 l1_1 x13_1).f0), .string ((rd_T116 l1_1 x13_1).f1)] 116 (0, 0)) (pt0 BK1423)) (below_size bl)); have n2_ := kg1 BK1413 NB1413_1423 hb; have n3_ := kg1 BK1414 NB1414_1423 hb; have n4_ := kg1 BK1415 NB1415_1423 hb; have n5_ := kg1 BK1421 NB1421_1423 hb; have n6_ := am (blk_below (g := gb1423) (o := .cells #[.string ((rd_T116 l1_1 x13_1).f0), .string ((rd_T116 l1_1 x13_1).f1)] 116 (0, 0)) (pt0 BK1423) hb); have n7_ := am (below_step bl hb); clear HO_1422001; clear BK1413; clear BK1414; clear BK1415; clear BK1421; clear BK1423; clear HB; have HO_1422001 := n0_; have HO1426 := n1_; have BK1413 := n2_; have BK1414 := n3_; have BK1415 := n4_; have BK1421 := n5_; have BK1423 := n6_; have HB := n7_; clear n0_ n1_ n2_ n3_ n4_ n5_ n6_ n7_; clear hb ho0; obtain ⟨Ao35, co35, eo35⟩ := Kd.R_slice HO1426.out; subst eo35; obtain ⟨z36_0, y36_0, z36_1, y36_1, z36_2, y36_2⟩ := cl3 BK1421))
   go_roundg k1
   case measure => have := HK1.out; omega
   case rel => exact ⟨(wrap64 (x13_1 + 1)), (t1424), (.slice Ao35 t1424.length co35), rs, H', ⟨by have := HK1.out; omega⟩, ⟨rg (Kd.R_types HO1426.out BK1421.out (by decide))⟩, ⟨by (with_reducible repeat (first | refine blk_drewN ?_ _ | refine blk_drew ?_ | refine blk_alloc ?_ _)); refine blk_far ?_ NB1413_1421.out _; (with_reducible repeat (first | refine blk_drewN ?_ _ | refine blk_drew ?_ | refine blk_alloc ?_ _)); exact BK1413.out⟩, ⟨by (with_reducible repeat (first | refine blk_drewN ?_ _ | refine blk_drew ?_ | refine blk_alloc ?_ _)); refine blk_far ?_ NB1414_1421.out _; (with_reducible repeat (first | refine blk_drewN ?_ _ | refine blk_drew ?_ | refine blk_alloc ?_ _)); exact BK1414.out⟩, ⟨by (with_reducible repeat (first | refine blk_drewN ?_ _ | refine blk_drew ?_ | refine blk_alloc ?_ _)); refine blk_far ?_ NB1415_1421.out _; (with_reducible repeat (first | refine blk_drewN ?_ _ | refine blk_drew ?_ | refine blk_alloc ?_ _)); exact BK1415.out⟩, ⟨pt0 BK1421⟩, ⟨u55HB⟩⟩

/-! ### spec_Merge: function 57 -/
theorem u57HB {p : Prop} (h : p := by repeat (first | (with_reducible first | exact HB.out | apply below_alloc | apply pw_below_drewN | apply below_drew1 | refine below_set ?_ GE1439.out | refine below_set ?_ GE1440.out | refine below_set ?_ GE1441.out | refine below_set ?_ GE1447.out) | exact HB.out)) : p := h
def spec_Merge.l0 : Nat → Int → Int → List (S116) → ByteArray → Int → List (S116) → ByteArray → Int → List (S116) → ByteArray → Option (Int × (List (S116)) × ByteArray)
 | 0, _, _, _, _, _, _, _, _, _, _ => none
 | k + 1, x6, x1440000, x1440001, x1440002, x1441000, x1441001, x1441002, x1448000, x1448001, x1448002 => if x6 < (x1441001.length : Int) then (if 0 ≤ x6 then ((spec_Put.f k x1448001 ((rd_T116 x1441001 x6).f0) ((rd_T116 x1441001 x6).f1)).bind fun t1450 => (spec_Merge.l0 k (wrap64 (x6 + 1)) x1440000 x1440001 x1440002 x1441000 x1441001 x1441002 x1448000 t1450 x1448002)) else (none)) else ((spec_RespOk.f k x1448000 x1448001 x1448002).bind fun t1453 => (if t1453 = true then (some (x1448000, x1448001, x1448002)) else ((spec_l9Resp.f x1440000 x1440001 x1440002).bind fun bt1454 => (some (bt1454.1, bt1454.2.1, bt1454.2.2)))))
def spec_Merge.f (k : Nat) (a0_0 : Int) (l0_1 : List (S116)) (a0_2 : ByteArray) (a1_0 : Int) (l1_1 : List (S116)) (a1_2 : ByteArray) : Option (Int × (List (S116)) × ByteArray) := (spec_l9Resp.f a0_0 l0_1 a0_2).bind fun bt1442 => (spec_Merge.l0 k 0 a0_0 l0_1 a0_2 a1_0 l1_1 a1_2 bt1442.1 bt1442.2.1 bt1442.2.2)
theorem spec_Merge.mono_l : ∀ k, (∀ y0 y1 y2 y3 y4 y5 y6 y7 y8 y9, LeO (spec_Merge.l0 k y0 y1 y2 y3 y4 y5 y6 y7 y8 y9) (spec_Merge.l0 (k + 1) y0 y1 y2 y3 y4 y5 y6 y7 y8 y9))
 | 0 => fun _ _ _ _ _ _ _ _ _ _ r h => by simp [spec_Merge.l0] at h
 | k + 1 => by
  have ih0 := spec_Merge.mono_l k
  ·intro y0 y1 y2 y3 y4 y5 y6 y7 y8 y9
   unfold spec_Merge.l0
   have m0 := @spec_Put.mono
   have m1 := @spec_RespOk.mono
   exact mo
theorem spec_Merge.mono : ∀ a0 a1 a2 a3 a4 a5 k, LeO (spec_Merge.f k a0 a1 a2 a3 a4 a5) (spec_Merge.f (k + 1) a0 a1 a2 a3 a4 a5) := by
 intro a0 a1 a2 a3 a4 a5 k
 have ih0 := spec_Merge.mono_l k
 unfold spec_Merge.f
 have m0 := @spec_Put.mono
 have m1 := @spec_RespOk.mono
 exact mo
def spec_Merge.T5 : Bool × List (List Nat × List Nat) := (true, [([], []), ([0], [0]), ([], []), ([2], [2]), ([], []), ([3, 4], [3, 4]), ([5], [5]), ([6], [6]), ([], []), ([8], [8]), ([], []), ([9, 10], [9, 10]), ([11], [11]), ([12], [12]), ([1, 7, 13], [1, 7, 13]), ([0, 1, 2, 3, 4, 5, 6, 7, 8, 9, 10, 11, 12, 13, 14], []), ([15, 14, 14, 0, 1, 2, 3, 4, 5, 6, 7, 8, 9, 10, 11, 12, 13, 14], [14, 15])])
def spec_Merge.B5 : List Nat := [0, 1, 0, 4, 0, 28, 60, 124, 0, 256, 0, 1792, 3840, 7936, 16383, 32767, 65535]
theorem spec_Merge.tab5 : rtab .any (opsOf Tryz.f57 5) = spec_Merge.T5 := by kernel_rfl
theorem spec_Merge.bits5 : waitsOk spec_Merge.T5.2 spec_Merge.B5 = true := by kernel_rfl
set_option maxHeartbeats 8000000 in
set_option maxRecDepth 100000 in
theorem spec_Merge.calls (k : Nat) (a0_0 : Int) (A0_1 : Option Addr) (c0_1 : Nat) (l0_1 : List (S116)) (a0_2 : ByteArray) (a1_0 : Int) (A1_1 : Option Addr) (c1_1 : Nat) (l1_1 : List (S116)) (a1_2 : ByteArray) (r1 : Int) (r2 : List (S116)) (r3 : ByteArray) (w : World) (hr0_1 : Kd.C k116 w A0_1 l0_1.length l0_1) (hc0_1 : l0_1.length ≤ c0_1) (hr1_1 : Kd.C k116 w A1_1 l1_1.length l1_1) (hc1_1 : l1_1.length ≤ c1_1) (h : spec_Merge.f k a0_0 l0_1 a0_2 a1_0 l1_1 a1_2 = some (r1, r2, r3)) :
  Calls Tryz.prog 57 #[.agg #[.int .i64 a0_0, .slice A0_1 l0_1.length c0_1, .string a0_2], .agg #[.int .i64 a1_0, .slice A1_1 l1_1.length c1_1, .string a1_2]] w fun e w' => ∃ v1_ : Value, e = .returned (.agg #[.int .i64 r1, v1_, .string r3]) ∧ Kd.R k116 116 w' w.heap.size (fun _ => True) v1_ r2 ∧ Below w.heap.size w w' := by
 have hu29 := Tryz.underlying29
 have HR0_1 := am hr0_1
 have HC0_1 := am hc0_1
 clear hr0_1 hc0_1
 have HR1_1 := am hr1_1
 have HC1_1 := am hc1_1
 clear hr1_1 hc1_1
 have HB := am (Below.refl w.heap.size w)
 unfold spec_Merge.f at h
 have H := h
 clear h
 revert H
 refine ok3 fun t1442 t1443 t1446 A3 H => ?_
 (try dsimp only at H)
 have H' := am H
 clear H
 go_enter Tryz.func57, Tryz.ntmps57
 go_wp2_with (first | (refine bx 2 #[.int .i64 a0_0, .slice A0_1 l0_1.length c0_1, .string a0_2] 29 ?_; intro gb1439 hg w4 hbox hb; have BK1439 := am (hbox); have GW1439 := am (sz hg : w.heap.size ≤ gb1439); have GE1439 := am (sz hg : w.heap.size ≤ gb1439); replace HB := am (below_step bl hb); clear hb hbox hg) | (refine bx 3 #[.int .i64 a1_0, .slice A1_1 l1_1.length c1_1, .string a1_2] 29 ?_; intro gb1440 hg w5 hbox hb; have BK1440 := am (hbox); have GW1440 := am (sz hg : w.heap.size ≤ gb1440); have GE1440 := am (sz hg : w.heap.size ≤ gb1440); replace HB := am (below_step bl hb); have NB1439_1440 := am (nl hg BK1439 : gb1439 ≠ gb1440); have NB1440_1439 := am (ng hg BK1439 : gb1440 ≠ gb1439); replace BK1439 := kb BK1439 hb; clear hb hbox hg) | (refine bx 4 #[.int .i64 0, .slice none 0 0, .string (⟨#[]⟩ : ByteArray)] 29 ?_; intro gb1441 hg w6 hbox hb; have BK1441 := am (hbox); have GW1441 := am (sz hg : w.heap.size ≤ gb1441); have GE1441 := am (sz hg : w.heap.size ≤ gb1441); replace HB := am (below_step bl hb); have NB1439_1441 := am (nl hg BK1439 : gb1439 ≠ gb1441); have NB1441_1439 := am (ng hg BK1439 : gb1441 ≠ gb1439); replace BK1439 := kb BK1439 hb; have NB1440_1441 := am (nl hg BK1440 : gb1440 ≠ gb1441); have NB1441_1440 := am (ng hg BK1440 : gb1441 ≠ gb1440); replace BK1440 := kb BK1440 hb; clear hb hbox hg; have hnb7 := NB1439_1440.out; have hnc7 := NB1440_1439.out; have hnb8 := NB1439_1441.out; have hnc8 := NB1441_1439.out; obtain ⟨z9_0, y9_0, z9_1, y9_1, z9_2, y9_2⟩ := cl3 BK1439) | (refine gl 8 Tryz.func125 #[.agg #[.int .i64 a0_0, .slice A0_1 l0_1.length c0_1, .string a0_2]] ?_; (with_reducible refine (spec_l9Resp.calls a0_0 _ _ l0_1 a0_2 t1442 t1443 t1446 _ ?side1 ?side2 A3.out).mono ?_); (case side1 => exact cb HR0_1); (case side2 => exact HC0_1.out); rintro e w10 ⟨v1444, rfl, ho0, hb⟩; refine ⟨_, rfl, ?_⟩; have HO1445 := am (Kd.R_lower ho0 (below_size bl)); replace BK1439 := kb BK1439 hb; replace BK1440 := kb BK1440 hb; replace BK1441 := kb BK1441 hb; replace HB := am (below_step bl hb); clear hb ho0) | (refine bx 5 #[.int .i64 0, .slice none 0 0, .string (⟨#[]⟩ : ByteArray)] 29 ?_; intro gb1447 hg w11 hbox hb; replace HO1445 := am (Kd.R_below (ro HO1445) hb); have BK1447 := am (hbox); have GW1447 := am (sz hg : w.heap.size ≤ gb1447); have GE1447 := am (sz hg : w.heap.size ≤ gb1447); replace HB := am (below_step bl hb); have NB1439_1447 := am (nl hg BK1439 : gb1439 ≠ gb1447); have NB1447_1439 := am (ng hg BK1439 : gb1447 ≠ gb1439); replace BK1439 := kb BK1439 hb; have NB1440_1447 := am (nl hg BK1440 : gb1440 ≠ gb1447); have NB1447_1440 := am (ng hg BK1440 : gb1447 ≠ gb1440); replace BK1440 := kb BK1440 hb; have NB1441_1447 := am (nl hg BK1441 : gb1441 ≠ gb1447); have NB1447_1441 := am (ng hg BK1441 : gb1447 ≠ gb1441); replace BK1441 := kb BK1441 hb; clear hb hbox hg; have hnb12 := NB1447_1439.out; have hnc12 := NB1439_1447.out; have hnb13 := NB1447_1440.out; have hnc13 := NB1440_1447.out; have hnb14 := NB1447_1441.out; have hnc14 := NB1441_1447.out; obtain ⟨z15_0, y15_0, z15_1, y15_1, z15_2, y15_2⟩ := cl3 BK1447; obtain ⟨Ao16, co16, eo16⟩ := Kd.R_slice HO1445.out; subst eo16))
 (try simp only [Act.put, List.setIfInBounds_toArray, List.set_cons_zero, List.set_cons_succ])
 go_loopg [6] k (fun kq v6 w' => ∃ (x6_1 : Int) (x1448001_1 : List (S116)) (u1448001 : Value), v6 = .int .i64 x6_1 ∧ Aside0 (spec_Merge.l0 kq x6_1 a0_0 l0_1 a0_2 a1_0 l1_1 a1_2 t1442 x1448001_1 t1446 = some (r1, r2, r3)) ∧ Aside0 (kq ≤ k) ∧ Aside0 (Kd.R k116 116 w' w.heap.size (fun _ => True) u1448001 x1448001_1) ∧ Aside0 (w'.heap[gb1439]? = some (.cells #[.int .i64 a0_0, (.slice A0_1 l0_1.length c0_1), .string a0_2] 29 (0, 0))) ∧ Aside0 (w'.heap[gb1440]? = some (.cells #[.int .i64 a1_0, (.slice A1_1 l1_1.length c1_1), .string a1_2] 29 (0, 0))) ∧ Aside0 (w'.heap[gb1441]? = some (.cells #[.int .i64 0, (.slice none 0 0), .string (⟨#[]⟩ : ByteArray)] 29 (0, 0))) ∧ Aside0 (w'.heap[gb1447]? = some (.cells #[.int .i64 t1442, u1448001, .string t1446] 29 (0, 0))) ∧ Aside0 (Below w.heap.size w w'))
 case atStart => exact ⟨(0), (t1443), (.slice Ao16 t1443.length co16), rs, H', ⟨Nat.le_refl _⟩, ⟨rg (Kd.R_types HO1445.out BK1447.out (by decide))⟩, ⟨by (with_reducible repeat (first | refine blk_drewN ?_ _ | refine blk_drew ?_ | refine blk_alloc ?_ _)); refine blk_far ?_ NB1439_1447.out _; (with_reducible repeat (first | refine blk_drewN ?_ _ | refine blk_drew ?_ | refine blk_alloc ?_ _)); refine blk_far ?_ NB1439_1447.out _; (with_reducible repeat (first | refine blk_drewN ?_ _ | refine blk_drew ?_ | refine blk_alloc ?_ _)); refine blk_far ?_ NB1439_1447.out _; (with_reducible repeat (first | refine blk_drewN ?_ _ | refine blk_drew ?_ | refine blk_alloc ?_ _)); exact BK1439.out⟩, ⟨by (with_reducible repeat (first | refine blk_drewN ?_ _ | refine blk_drew ?_ | refine blk_alloc ?_ _)); refine blk_far ?_ NB1440_1447.out _; (with_reducible repeat (first | refine blk_drewN ?_ _ | refine blk_drew ?_ | refine blk_alloc ?_ _)); refine blk_far ?_ NB1440_1447.out _; (with_reducible repeat (first | refine blk_drewN ?_ _ | refine blk_drew ?_ | refine blk_alloc ?_ _)); refine blk_far ?_ NB1440_1447.out _; (with_reducible repeat (first | refine blk_drewN ?_ _ | refine blk_drew ?_ | refine blk_alloc ?_ _)); exact BK1440.out⟩, ⟨by (with_reducible repeat (first | refine blk_drewN ?_ _ | refine blk_drew ?_ | refine blk_alloc ?_ _)); refine blk_far ?_ NB1441_1447.out _; (with_reducible repeat (first | refine blk_drewN ?_ _ | refine blk_drew ?_ | refine blk_alloc ?_ _)); refine blk_far ?_ NB1441_1447.out _; (with_reducible repeat (first | refine blk_drewN ?_ _ | refine blk_drew ?_ | refine blk_alloc ?_ _)); refine blk_far ?_ NB1441_1447.out _; (with_reducible repeat (first | refine blk_drewN ?_ _ | refine blk_drew ?_ | refine blk_alloc ?_ _)); exact BK1441.out⟩, ⟨pt0 BK1447⟩, ⟨u57HB⟩⟩
 case round =>
  clear H'
  try clear c1
  try clear p2
  try clear c5
  try clear c7
  try clear c8
  try clear c12
  try clear c13
  try clear c14
  try clear z15_0
  try clear z15_1
  try clear z15_2
  try clear z9_0
  try clear z9_1
  try clear z9_2
  try clear y15_0
  try clear y15_1
  try clear y15_2
  try clear y9_0
  try clear y9_1
  try clear y9_2
  obtain ⟨x6_1, x1448001_1, u1448001, rfl, HA, HK1, HO_1448001, BK1439, BK1440, BK1441, BK1447, HB⟩ := hrel
  cases gk with
  | zero => exact absurd HA.out (by simp [spec_Merge.l0])
  | succ k1 =>
   have H := HA.out
   clear HA
   simp only [spec_Merge.l0] at H
   by_cases c17 : x6_1 < (l1_1.length : Int)
   rotate_left
   ·rw [if_neg c17] at H
    have c17b0 := decide_eq_false c17
    clear c17
    revert H
    refine ok1 fun t1453 A29 H => ?_
    by_cases c30 : t1453 = true
    ·subst c30
     rw [if_pos rfl] at H
     simp only [Option.some.injEq, Prod.mk.injEq] at H
     obtain ⟨rfl, rfl, rfl⟩ := H
     have hnb31 := NB1440_1439.out
     have hnc31 := NB1439_1440.out
     have hnb32 := NB1440_1441.out
     have hnc32 := NB1441_1440.out
     have hnb33 := NB1440_1447.out
     have hnc33 := NB1447_1440.out
     obtain ⟨z34_0, y34_0, z34_1, y34_1, z34_2, y34_2⟩ := cl3 BK1440
     have hnb35 := NB1447_1439.out
     have hnc35 := NB1439_1447.out
     have hnb36 := NB1447_1441.out
     have hnc36 := NB1441_1447.out
     obtain ⟨z37_0, y37_0, z37_1, y37_1, z37_2, y37_2⟩ := cl3 BK1447
     obtain ⟨Ao38, co38, eo38⟩ := Kd.R_slice HO_1448001.out
     subst eo38
     go_wp2_with (first | (refine gl 33 Tryz.func114 #[.agg #[.int .i64 t1442, .slice Ao38 x1448001_1.length co38, .string t1446]] ?_; (with_reducible refine (spec_RespOk.calls k1 t1442 _ _ x1448001_1 t1446 true _ ?side1 ?side2 A29.out).mono ?_); (case side1 => exact rc HO_1448001); (case side2 => exact (Kd.R_reads' HO_1448001.out).2.1); rintro e w39 ⟨rfl, hb⟩; refine ⟨_, rfl, ?_⟩; replace HO_1448001 := kr HO_1448001 hb; replace BK1439 := kb BK1439 hb; replace BK1440 := kb BK1440 hb; replace BK1441 := kb BK1441 hb; replace BK1447 := kb BK1447 hb; replace HB := am (below_step bl hb); clear hb; obtain ⟨z40_0, y40_0, z40_1, y40_1, z40_2, y40_2⟩ := cl3 BK1447; have hnb41 := NB1441_1439.out; have hnc41 := NB1439_1441.out; obtain ⟨z42_0, y42_0, z42_1, y42_1, z42_2, y42_2⟩ := cl3 BK1441))
     refine bodyPost_ret (results_cell_row rfl _ _ gb1441 29 #[.int .i64 t1442, .slice Ao38 x1448001_1.length co38, .string t1446] (0, 0) _ rfl (pt0 BK1441) Tryz.underlying29 rfl (by kernel_rfl)) rfl ?_
     exact ⟨_, rf, rg (Kd.R_types HO_1448001.out BK1441.out (by decide)), bl⟩
    replace c30 := Bool.eq_false_iff.mpr c30
    subst c30
    rw [if_neg (show ¬ (false = true) by decide)] at H
    revert H
    refine ok3 fun t1454 t1455 t1458 A43 H => ?_
    (try dsimp only at H)
    simp only [Option.some.injEq, Prod.mk.injEq] at H
    obtain ⟨rfl, rfl, rfl⟩ := H
    have hnb44 := NB1440_1439.out
    have hnc44 := NB1439_1440.out
    have hnb45 := NB1440_1441.out
    have hnc45 := NB1441_1440.out
    have hnb46 := NB1440_1447.out
    have hnc46 := NB1447_1440.out
    obtain ⟨z47_0, y47_0, z47_1, y47_1, z47_2, y47_2⟩ := cl3 BK1440
    have hnb48 := NB1447_1439.out
    have hnc48 := NB1439_1447.out
    have hnb49 := NB1447_1441.out
    have hnc49 := NB1441_1447.out
    obtain ⟨z50_0, y50_0, z50_1, y50_1, z50_2, y50_2⟩ := cl3 BK1447
    obtain ⟨Ao51, co51, eo51⟩ := Kd.R_slice HO_1448001.out
    subst eo51
    go_wp2_with (first | (refine gl 33 Tryz.func114 #[.agg #[.int .i64 t1442, .slice Ao51 x1448001_1.length co51, .string t1446]] ?_; (with_reducible refine (spec_RespOk.calls k1 t1442 _ _ x1448001_1 t1446 false _ ?side1 ?side2 A29.out).mono ?_); (case side1 => exact rc HO_1448001); (case side2 => exact (Kd.R_reads' HO_1448001.out).2.1); rintro e w52 ⟨rfl, hb⟩; refine ⟨_, rfl, ?_⟩; replace HO_1448001 := kr HO_1448001 hb; replace BK1439 := kb BK1439 hb; replace BK1440 := kb BK1440 hb; replace BK1441 := kb BK1441 hb; replace BK1447 := kb BK1447 hb; replace HB := am (below_step bl hb); clear hb; have hnb53 := NB1439_1441.out; have hnc53 := NB1441_1439.out; obtain ⟨z54_0, y54_0, z54_1, y54_1, z54_2, y54_2⟩ := cl3 BK1439) | (refine gl 36 Tryz.func125 #[.agg #[.int .i64 a0_0, .slice A0_1 l0_1.length c0_1, .string a0_2]] ?_; (with_reducible refine (spec_l9Resp.calls a0_0 _ _ l0_1 a0_2 t1454 t1455 t1458 _ ?side1 ?side2 A43.out).mono ?_); (case side1 => exact cb HR0_1); (case side2 => exact HC0_1.out); rintro e w55 ⟨v1456, rfl, ho0, hb⟩; refine ⟨_, rfl, ?_⟩; have HO1457 := am (Kd.R_lower (Kd.R_new' ho0 (Kd.R_lt (ro HO_1448001))) (below_size bl)); replace HO_1448001 := am (Kd.R_elder' (ro HO_1448001) (Kd.R_base ho0) hb); replace BK1439 := kb BK1439 hb; replace BK1440 := kb BK1440 hb; replace BK1441 := kb BK1441 hb; replace BK1447 := kb BK1447 hb; replace HB := am (below_step bl hb); clear hb ho0; obtain ⟨z56_0, y56_0, z56_1, y56_1, z56_2, y56_2⟩ := cl3 BK1441; obtain ⟨Ao57, co57, eo57⟩ := Kd.R_slice HO1457.out; subst eo57))
    refine bodyPost_ret (results_cell_row rfl _ _ gb1441 29 #[.int .i64 t1454, .slice Ao57 t1455.length co57, .string t1458] (0, 0) _ rfl (pt0 BK1441) Tryz.underlying29 rfl (by kernel_rfl)) rfl ?_
    exact ⟨_, rf, rg (Kd.R_types HO1457.out BK1441.out (by decide)), bl⟩
   rw [if_pos c17] at H
   have c17b0 := decide_eq_true c17
   clear c17
   revert H
   refine ifn fun c18 H => ?_
   have c18b0 := decide_eq_true c18
   clear c18
   revert H
   refine ok1 fun t1450 A19 H => ?_
   have H' := am H
   clear H
   have hnb20 := NB1440_1439.out
   have hnc20 := NB1439_1440.out
   have hnb21 := NB1440_1441.out
   have hnc21 := NB1441_1440.out
   have hnb22 := NB1440_1447.out
   have hnc22 := NB1447_1440.out
   obtain ⟨z23_0, y23_0, z23_1, y23_1, z23_2, y23_2⟩ := cl3 BK1440
   try go_wp2
   replace HO_1448001 := am (Kd.R_drew HO_1448001.out)
   replace BK1439 := am (blk_drew BK1439.out)
   replace BK1440 := am (blk_drew BK1440.out)
   replace BK1441 := am (blk_drew BK1441.out)
   replace BK1447 := am (blk_drew BK1447.out)
   replace HB := am (below_drew1 HB.out)
   have p1448 : 0 ≤ (x6_1 : Int) := od
   have q1448 : x6_1 < (l1_1.length : Int) := od
   obtain ⟨ad1448, e1448, hx1448_0, hx1448_1⟩ := at_T116 HR1_1.out x6_1 p1448 q1448
   have hw1448_1 := hx1448_1
   have hw1448_0 := hx1448_0
   cases e1448
   replace hx1448_0 := hcw hx1448_0
   replace hx1448_1 := hcw hx1448_1
   replace p1448 := eq_true p1448
   replace q1448 := eq_true q1448
   have p1449 : 0 ≤ (x6_1 : Int) := od
   have q1449 : x6_1 < (l1_1.length : Int) := od
   obtain ⟨ad1449, e1449, hx1449_0, hx1449_1⟩ := at_T116 HR1_1.out x6_1 p1449 q1449
   have hw1449_1 := hx1449_1
   have hw1449_0 := hx1449_0
   obtain rfl : ad1448 = ad1449 := (by injection e1449)
   replace hx1449_0 := hcw hx1449_0
   replace hx1449_1 := hcw hx1449_1
   replace p1449 := eq_true p1449
   replace q1449 := eq_true q1449
   obtain ⟨Ao25, co25, eo25⟩ := Kd.R_slice HO_1448001.out
   (first | subst eo25 | (injection eo25 with f1_ f2_ f3_; have f4_ := f1_.symm; have f5_ := f3_.symm; clear f1_ f2_ f3_; subst f4_; subst f5_))
   refine start_ (n := 17) (S := fun w' => w'.cell? ⟨gb1447, 0, none⟩ = some (.int .i64 t1442) ∧ w'.cell? ⟨gb1447, 1, none⟩ = some (.slice Ao25 x1448001_1.length co25) ∧ w'.cell? ⟨gb1447, 2, none⟩ = some (.string t1446) ∧ w'.cell? ⟨gb1440, 0, none⟩ = some (.int .i64 a1_0) ∧ w'.cell? ⟨gb1440, 1, none⟩ = some (.slice (some ad1448) l1_1.length c1_1) ∧ w'.cell? ⟨gb1440, 2, none⟩ = some (.string a1_2) ∧ w'.cell? (ad1448.add ((x6_1).toNat * 2)) = some (.string ((rd_T116 l1_1 x6_1).f0)) ∧ w'.cell? ⟨(ad1448.add ((x6_1).toNat * 2)).block, (ad1448.add ((x6_1).toNat * 2)).off + 1, none⟩ = some (.string ((rd_T116 l1_1 x6_1).f1)) ∧ w'.cell? (ad1448.add ((x6_1).toNat * 2)) = some (.string ((rd_T116 l1_1 x6_1).f0)) ∧ w'.cell? ⟨(ad1448.add ((x6_1).toNat * 2)).block, (ad1448.add ((x6_1).toNat * 2)).off + 1, none⟩ = some (.string ((rd_T116 l1_1 x6_1).f1))) (ds := [16]) ⟨br true [0, 17]⟩ (by kernel_rfl) rfl (by kernel_rfl) ⟨bc BK1447, bc BK1447, bc BK1447, bc BK1440, bc BK1440, bc BK1440, (hcw hw1448_0), (hcw hw1448_1), (hcw hw1449_0), (hcw hw1449_1)⟩ (fun hHeld => ?_); refine with_tabW spec_Merge.tab5 spec_Merge.bits5 (fun HT_ HW_ => ?_)
   generalize wr.drew = w24 at HO_1448001 BK1439 BK1440 BK1441 BK1447 HB hx1448_0 hx1448_1 hx1449_0 hx1449_1 hHeld ⊢
   refine pu 0 16 [1, 16] ?_
   refine pu 2 18 [1, 1, 1, 14] ?_
   refine pu 4 20 [1, 1, 1, 1, 1, 12] ?_
   refine pu 8 24 [1, 1, 1, 1, 1, 3, 1, 8] ?_
   refine pu 10 26 [1, 1, 1, 1, 1, 3, 1, 1, 1, 6] ?_
   refine tk 1 17 [3, 1, 1, 3, 1, 1, 1, 6] ?_
   refine tk 3 19 [5, 3, 1, 1, 1, 6] ?_
   refine pu 5 21 [6, 2, 1, 1, 1, 6] ?_
   refine pu 6 22 [7, 1, 1, 1, 1, 6] ?_
   refine tk 7 23 [9, 1, 1, 6] ?_
   refine tk 9 25 [11, 6] ?_
   refine pu 11 27 [12, 5] ?_
   refine pu 12 28 [13, 4] ?_
   refine tk 13 29 [14, 3] ?_
   refine og 14 30 [15, 2] Tryz.func126 #[.slice Ao25 x1448001_1.length co25, .string ((rd_T116 l1_1 x6_1).f0), .string ((rd_T116 l1_1 x6_1).f1)] (fun K hK => ?_)
   with_reducible refine (spec_Put.calls k1 _ _ x1448001_1 ((rd_T116 l1_1 x6_1).f0) ((rd_T116 l1_1 x6_1).f1) t1450 _ ?side1 ?side2 A19.out).mono ?_
   (case side1 => exact rc HO_1448001)
   (case side2 => exact (Kd.R_reads' HO_1448001.out).2.1)
   rintro e w26 ⟨v1451, rfl, ho0, hb⟩
   refine ⟨_, rfl, ?_⟩
   have HO1452 := am (Kd.R_lower (Kd.R_new' ho0 (Kd.R_lt (ro HO_1448001))) (below_size bl))
   replace HO_1448001 := am (Kd.R_elder' (ro HO_1448001) (Kd.R_base ho0) hb)
   replace BK1439 := kb BK1439 hb
   replace BK1440 := kb BK1440 hb
   replace BK1441 := kb BK1441 hb
   replace BK1447 := kb BK1447 hb
   replace HB := am (below_step bl hb)
   clear hb ho0
   obtain ⟨Ao27, co27, eo27⟩ := Kd.R_slice HO1452.out
   (first | subst eo27 | (injection eo27 with f1_ f2_ f3_; have f4_ := f1_.symm; have f5_ := f3_.symm; clear f1_ f2_ f3_; subst f4_; subst f5_))
   refine hK.out _ _ ⟨bc BK1447, bc BK1447, bc BK1447, bc BK1440, bc BK1440, bc BK1440, (hcw hw1448_0), (hcw hw1448_1), (hcw hw1449_0), (hcw hw1449_1)⟩ (fun hHeld => ?_)
   clear hK K
   refine nm 30 ?_
   refine pu 15 31 [16, 1] ?_
   refine last_ (i := 16) (N := none) #[true, true, true, true, true, true, true, true, true, true, true, true, true, true, true, true, true] rfl rfl (one_of HT_.out (by kernel_rfl)) (by decide) (fun K hK => ?_)
   have hs28 : w26.cell? ⟨gb1447, 1, none⟩ = some (.slice Ao25 x1448001_1.length co25) := bc BK1447
   have hfs28 := blk_frozen BK1447.out 1
   have hns28_0 := NB1439_1447.out
   have hns28_1 := NB1440_1447.out
   have hns28_2 := NB1441_1447.out
   have hms28_0 := NB1447_1439.out
   have hms28_1 := NB1447_1440.out
   have hms28_2 := NB1447_1441.out
   refine skip_ (w1 := ?_) (by rfl) rfl ?_ ?_
   rotate_left
   ·go_simp
    rfl
   refine hK.out _ _ ?_
   clear hK K
   refine done_ (done_of HT_.out (by kernel_rfl)) ?_
   try go_wp2
   go_roundg k1
   case measure => have := HK1.out; omega
   case rel => exact ⟨(wrap64 (x6_1 + 1)), (t1450), (.slice Ao27 t1450.length co27), rs, H', ⟨by have := HK1.out; omega⟩, ⟨rg (Kd.R_types HO1452.out BK1447.out (by decide))⟩, ⟨by (with_reducible repeat (first | refine blk_drewN ?_ _ | refine blk_drew ?_ | refine blk_alloc ?_ _)); refine blk_far ?_ NB1439_1447.out _; (with_reducible repeat (first | refine blk_drewN ?_ _ | refine blk_drew ?_ | refine blk_alloc ?_ _)); exact BK1439.out⟩, ⟨by (with_reducible repeat (first | refine blk_drewN ?_ _ | refine blk_drew ?_ | refine blk_alloc ?_ _)); refine blk_far ?_ NB1440_1447.out _; (with_reducible repeat (first | refine blk_drewN ?_ _ | refine blk_drew ?_ | refine blk_alloc ?_ _)); exact BK1440.out⟩, ⟨by (with_reducible repeat (first | refine blk_drewN ?_ _ | refine blk_drew ?_ | refine blk_alloc ?_ _)); refine blk_far ?_ NB1441_1447.out _; (with_reducible repeat (first | refine blk_drewN ?_ _ | refine blk_drew ?_ | refine blk_alloc ?_ _)); exact BK1441.out⟩, ⟨pt0 BK1447⟩, ⟨u57HB⟩⟩

end Go.Proofs.YtdbgkookjpgnnaaGreatDoor.All
