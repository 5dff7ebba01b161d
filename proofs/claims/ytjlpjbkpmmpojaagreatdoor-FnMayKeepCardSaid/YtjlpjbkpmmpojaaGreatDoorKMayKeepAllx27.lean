-- Written by a program of this session (wip/tools/hprint.py) out of the translation. Lean checks it.
import Derived.Test.YtjlpjbkpmmpojaaGreatDoorKMayKeepAllx0
import Derived.Test.YtjlpjbkpmmpojaaGreatDoorKMayKeepAllx1
import Derived.Test.YtjlpjbkpmmpojaaGreatDoorKMayKeepAllx2
import Derived.Test.YtjlpjbkpmmpojaaGreatDoorKMayKeepAllx4
import Derived.Test.YtjlpjbkpmmpojaaGreatDoorKMayKeepAllx8
import Derived.Test.YtjlpjbkpmmpojaaGreatDoorKMayKeepAllx12
import Derived.Test.YtjlpjbkpmmpojaaGreatDoorKMayKeepAllx24
import Derived.Test.YtjlpjbkpmmpojaaGreatDoorKMayKeepAllx25
namespace Go.Proofs.YtjlpjbkpmmpojaaGreatDoor.All
open Go.RowKit Go.Proofs.YtjlpjbkpmmpojaaGreatDoorW.PrintWords Go.Proofs.YtjlpjbkpmmpojaaGreatDoorW.PrintLast Go.Proofs.YtjlpjbkpmmpojaaGreatDoorW.PrintMore
attribute [local go_sem] max2_int min2_int max_two min_two max_three min_three max_four min_four  -- for this text's walks alone
set_option linter.unusedVariables false
set_option linter.unusedSimpArgs false

/-! ### spec_DrawMayKeep: function 28 -/
theorem u28HB {p : Prop} (h : p := by repeat (first | (with_reducible first | exact HB.out | apply below_alloc | apply pw_below_drewN | apply below_drew1 | refine below_set ?_ GE1118.out | refine below_set ?_ GE1119.out | refine below_set ?_ GE1131.out | refine below_set ?_ GE1132.out) | exact HB.out)) : p := h
def spec_DrawMayKeep.f (k : Nat) (l0 : List Int) : Option (Int × ByteArray × (List (S116)) × ByteArray × Int × (List (S116)) × ByteArray) := (spec_l9Draw.f k l0).bind fun bt1120 => (some (bt1120.1, bt1120.2.1, bt1120.2.2.1, bt1120.2.2.2.1, bt1120.2.2.2.2.1, bt1120.2.2.2.2.2.1, bt1120.2.2.2.2.2.2))
set_option maxHeartbeats 8000000 in
set_option maxRecDepth 100000 in
theorem spec_DrawMayKeep.calls (k : Nat) (A0 : Option Addr) (c0 : Nat) (l0 : List Int) (r1 : Int) (r2 : ByteArray) (r3 : List (S116)) (r4 : ByteArray) (r5 : Int) (r6 : List (S116)) (r7 : ByteArray) (w : World) (hr0 : Kd.C (Kd.int .u8) w A0 l0.length l0) (hc0 : l0.length ≤ c0) (h : spec_DrawMayKeep.f k l0 = some (r1, r2, r3, r4, r5, r6, r7)) :
  Calls Tryz.prog 28 #[.slice A0 l0.length c0] w fun e w' => ∃ v2_ v5_ : Value, e = .returned (.tuple #[.agg #[.int .i64 r1, .string r2, v2_, .string r4], .agg #[.int .i64 r5, v5_, .string r7]]) ∧ Kd.R k116 116 w' w.heap.size (fun k_ => some k_ ≠ (v5_ : Value).ownBlock) v2_ r3 ∧ Kd.R k116 116 w' w.heap.size (fun k_ => some k_ ≠ (v2_ : Value).ownBlock) v5_ r6 ∧ Below w.heap.size w w' := by
 have hu50 := Tryz.underlying50
 have hu29 := Tryz.underlying29
 have HR0 := am hr0
 have HC0 := am hc0
 clear hr0 hc0
 have HB := am (Below.refl w.heap.size w)
 unfold spec_DrawMayKeep.f at h
 have H := h
 clear h
 revert H
 refine ok7 fun t1120 t1121 t1122 t1125 t1126 t1127 t1130 A2 H => ?_
 (try dsimp only at H)
 simp only [Option.some.injEq, Prod.mk.injEq] at H
 obtain ⟨rfl, rfl, rfl, rfl, rfl, rfl, rfl⟩ := H
 go_enter Tryz.func28, Tryz.ntmps28
 try go_wp2_with ((with_reducible refine gw ?_); first | (refine bx 2 #[.int .i64 0, .string (⟨#[]⟩ : ByteArray), .slice none 0 0, .string (⟨#[]⟩ : ByteArray)] 50 ?_; intro gb1118 hg w3 hbox hb; have BK1118 := am (hbox); have GW1118 := am (sz hg : w.heap.size ≤ gb1118); have GE1118 := am (sz hg : w.heap.size ≤ gb1118); replace HB := am (below_step bl hb); clear hb hbox hg) | (refine bx 3 #[.int .i64 0, .slice none 0 0, .string (⟨#[]⟩ : ByteArray)] 29 ?_; intro gb1119 hg w4 hbox hb; have BK1119 := am (hbox); have GW1119 := am (sz hg : w.heap.size ≤ gb1119); have GE1119 := am (sz hg : w.heap.size ≤ gb1119); replace HB := am (below_step bl hb); have NB1118_1119 := am (nl hg BK1118 : gb1118 ≠ gb1119); have NB1119_1118 := am (ng hg BK1118 : gb1119 ≠ gb1118); replace BK1118 := kb BK1118 hb; clear hb hbox hg) | (refine gl 8 Tryz.func90 #[.slice A0 l0.length c0] ?_; (with_reducible refine (spec_l9Draw.calls k _ _ l0 t1120 t1121 t1122 t1125 t1126 t1127 t1130 _ ?side1 ?side2 A2.out).mono ?_); (case side1 => exact cb HR0); (case side2 => exact HC0.out); rintro e w5 ⟨v1123, v1128, rfl, ho0, ho1, hb⟩; refine ⟨_, rfl, ?_⟩; have HO1124 := am (Kd.R_lower ho0 (below_size bl)); have HO1129 := am (Kd.R_lower ho1 (below_size bl)); replace BK1118 := kb BK1118 hb; replace BK1119 := kb BK1119 hb; replace HB := am (below_step bl hb); clear hb ho0 ho1) | (refine bx 4 #[.int .i64 0, .string (⟨#[]⟩ : ByteArray), .slice none 0 0, .string (⟨#[]⟩ : ByteArray)] 50 ?_; intro gb1131 hg w6 hbox hb; replace HO1124 := am (Kd.R_below (ro HO1124) hb); replace HO1129 := am (Kd.R_below (ro HO1129) hb); have BK1131 := am (hbox); have GW1131 := am (sz hg : w.heap.size ≤ gb1131); have GE1131 := am (sz hg : w.heap.size ≤ gb1131); replace HB := am (below_step bl hb); have NB1118_1131 := am (nl hg BK1118 : gb1118 ≠ gb1131); have NB1131_1118 := am (ng hg BK1118 : gb1131 ≠ gb1118); replace BK1118 := kb BK1118 hb; have NB1119_1131 := am (nl hg BK1119 : gb1119 ≠ gb1131); have NB1131_1119 := am (ng hg BK1119 : gb1131 ≠ gb1119); replace BK1119 := kb BK1119 hb; clear hb hbox hg) | (refine bx 5 #[.int .i64 0, .slice none 0 0, .string (⟨#[]⟩ : ByteArray)] 29 ?_; intro gb1132 hg w7 hbox hb; replace HO1124 := am (Kd.R_below (ro HO1124) hb); replace HO1129 := am (Kd.R_below (ro HO1129) hb); have BK1132 := am (hbox); have GW1132 := am (sz hg : w.heap.size ≤ gb1132); have GE1132 := am (sz hg : w.heap.size ≤ gb1132); replace HB := am (below_step bl hb); have NB1118_1132 := am (nl hg BK1118 : gb1118 ≠ gb1132); have NB1132_1118 := am (ng hg BK1118 : gb1132 ≠ gb1118); replace BK1118 := kb BK1118 hb; have NB1119_1132 := am (nl hg BK1119 : gb1119 ≠ gb1132); have NB1132_1119 := am (ng hg BK1119 : gb1132 ≠ gb1119); replace BK1119 := kb BK1119 hb; have NB1131_1132 := am (nl hg BK1131 : gb1131 ≠ gb1132); have NB1132_1131 := am (ng hg BK1131 : gb1132 ≠ gb1131); replace BK1131 := kb BK1131 hb; clear hb hbox hg; have hnb8 := NB1131_1118.out; have hnc8 := NB1118_1131.out; have hnb9 := NB1131_1119.out; have hnc9 := NB1119_1131.out; have hnb10 := NB1131_1132.out; have hnc10 := NB1132_1131.out; obtain ⟨z11_0, y11_0, z11_1, y11_1, z11_2, y11_2, z11_3, y11_3⟩ := cl4 BK1131; obtain ⟨Ao12, co12, eo12⟩ := Kd.R_slice HO1124.out; subst eo12; have hnb13 := NB1132_1118.out; have hnc13 := NB1118_1132.out; have hnb14 := NB1132_1119.out; have hnc14 := NB1119_1132.out; obtain ⟨z15_0, y15_0, z15_1, y15_1, z15_2, y15_2⟩ := cl3 BK1132; obtain ⟨Ao16, co16, eo16⟩ := Kd.R_slice HO1129.out; subst eo16))
 have n0_ : Aside0 (Kd.R k116 116 (((((((w7.setCell ⟨gb1131, 0, none⟩ (.int .i64 t1120)).setCell ⟨gb1131, 1, none⟩ (.string t1121)).setCell ⟨gb1131, 2, none⟩ (.slice Ao12 t1122.length co12)).setCell ⟨gb1131, 3, none⟩ (.string t1125)).setCell ⟨gb1132, 0, none⟩ (.int .i64 t1126)).setCell ⟨gb1132, 1, none⟩ (.slice Ao16 t1127.length co16)).setCell ⟨gb1132, 2, none⟩ (.string t1130)) w.heap.size (fun k_ => some k_ ≠ (.slice Ao16 t1127.length co16 : Value).ownBlock) (.slice Ao12 t1122.length co12) t1122) := ⟨rj (Kd.R_types (Kd.R_types HO1124.out BK1131.out (by decide)) BK1132.out (by decide)) (fun _ hk => hk.1.1)⟩
 have n1_ : Aside0 (Kd.R k116 116 (((((((w7.setCell ⟨gb1131, 0, none⟩ (.int .i64 t1120)).setCell ⟨gb1131, 1, none⟩ (.string t1121)).setCell ⟨gb1131, 2, none⟩ (.slice Ao12 t1122.length co12)).setCell ⟨gb1131, 3, none⟩ (.string t1125)).setCell ⟨gb1132, 0, none⟩ (.int .i64 t1126)).setCell ⟨gb1132, 1, none⟩ (.slice Ao16 t1127.length co16)).setCell ⟨gb1132, 2, none⟩ (.string t1130)) w.heap.size (fun k_ => some k_ ≠ (.slice Ao12 t1122.length co12 : Value).ownBlock) (.slice Ao16 t1127.length co16) t1127) := ⟨rj (Kd.R_types (Kd.R_types HO1129.out BK1131.out (by decide)) BK1132.out (by decide)) (fun _ hk => hk.1.1)⟩
 have n2_ : Aside0 ((((((((w7.setCell ⟨gb1131, 0, none⟩ (.int .i64 t1120)).setCell ⟨gb1131, 1, none⟩ (.string t1121)).setCell ⟨gb1131, 2, none⟩ (.slice Ao12 t1122.length co12)).setCell ⟨gb1131, 3, none⟩ (.string t1125)).setCell ⟨gb1132, 0, none⟩ (.int .i64 t1126)).setCell ⟨gb1132, 1, none⟩ (.slice Ao16 t1127.length co16)).setCell ⟨gb1132, 2, none⟩ (.string t1130)).heap[gb1118]? = some (.cells #[.int .i64 0, .string (⟨#[]⟩ : ByteArray), .slice none 0 0, .string (⟨#[]⟩ : ByteArray)] 50 (0, 0))) := ⟨by (with_reducible repeat (first | refine blk_drewN ?_ _ | refine blk_drew ?_ | refine blk_alloc ?_ _)); refine blk_far ?_ NB1118_1132.out _; (with_reducible repeat (first | refine blk_drewN ?_ _ | refine blk_drew ?_ | refine blk_alloc ?_ _)); refine blk_far ?_ NB1118_1132.out _; (with_reducible repeat (first | refine blk_drewN ?_ _ | refine blk_drew ?_ | refine blk_alloc ?_ _)); refine blk_far ?_ NB1118_1132.out _; (with_reducible repeat (first | refine blk_drewN ?_ _ | refine blk_drew ?_ | refine blk_alloc ?_ _)); refine blk_far ?_ NB1118_1131.out _; (with_reducible repeat (first | refine blk_drewN ?_ _ | refine blk_drew ?_ | refine blk_alloc ?_ _)); refine blk_far ?_ NB1118_1131.out _; (with_reducible repeat (first | refine blk_drewN ?_ _ | refine blk_drew ?_ | refine blk_alloc ?_ _)); refine blk_far ?_ NB1118_1131.out _; (with_reducible repeat (first | refine blk_drewN ?_ _ | refine blk_drew ?_ | refine blk_alloc ?_ _)); refine blk_far ?_ NB1118_1131.out _; (with_reducible repeat (first | refine blk_drewN ?_ _ | refine blk_drew ?_ | refine blk_alloc ?_ _)); exact BK1118.out⟩
 have n3_ : Aside0 ((((((((w7.setCell ⟨gb1131, 0, none⟩ (.int .i64 t1120)).setCell ⟨gb1131, 1, none⟩ (.string t1121)).setCell ⟨gb1131, 2, none⟩ (.slice Ao12 t1122.length co12)).setCell ⟨gb1131, 3, none⟩ (.string t1125)).setCell ⟨gb1132, 0, none⟩ (.int .i64 t1126)).setCell ⟨gb1132, 1, none⟩ (.slice Ao16 t1127.length co16)).setCell ⟨gb1132, 2, none⟩ (.string t1130)).heap[gb1119]? = some (.cells #[.int .i64 0, .slice none 0 0, .string (⟨#[]⟩ : ByteArray)] 29 (0, 0))) := ⟨by (with_reducible repeat (first | refine blk_drewN ?_ _ | refine blk_drew ?_ | refine blk_alloc ?_ _)); refine blk_far ?_ NB1119_1132.out _; (with_reducible repeat (first | refine blk_drewN ?_ _ | refine blk_drew ?_ | refine blk_alloc ?_ _)); refine blk_far ?_ NB1119_1132.out _; (with_reducible repeat (first | refine blk_drewN ?_ _ | refine blk_drew ?_ | refine blk_alloc ?_ _)); refine blk_far ?_ NB1119_1132.out _; (with_reducible repeat (first | refine blk_drewN ?_ _ | refine blk_drew ?_ | refine blk_alloc ?_ _)); refine blk_far ?_ NB1119_1131.out _; (with_reducible repeat (first | refine blk_drewN ?_ _ | refine blk_drew ?_ | refine blk_alloc ?_ _)); refine blk_far ?_ NB1119_1131.out _; (with_reducible repeat (first | refine blk_drewN ?_ _ | refine blk_drew ?_ | refine blk_alloc ?_ _)); refine blk_far ?_ NB1119_1131.out _; (with_reducible repeat (first | refine blk_drewN ?_ _ | refine blk_drew ?_ | refine blk_alloc ?_ _)); refine blk_far ?_ NB1119_1131.out _; (with_reducible repeat (first | refine blk_drewN ?_ _ | refine blk_drew ?_ | refine blk_alloc ?_ _)); exact BK1119.out⟩
 have n4_ : Aside0 ((((((((w7.setCell ⟨gb1131, 0, none⟩ (.int .i64 t1120)).setCell ⟨gb1131, 1, none⟩ (.string t1121)).setCell ⟨gb1131, 2, none⟩ (.slice Ao12 t1122.length co12)).setCell ⟨gb1131, 3, none⟩ (.string t1125)).setCell ⟨gb1132, 0, none⟩ (.int .i64 t1126)).setCell ⟨gb1132, 1, none⟩ (.slice Ao16 t1127.length co16)).setCell ⟨gb1132, 2, none⟩ (.string t1130)).heap[gb1131]? = some (.cells #[.int .i64 t1120, .string t1121, .slice Ao12 t1122.length co12, .string t1125] 50 (0, 0))) := ⟨pt1 BK1131 NB1131_1132⟩
 have n5_ : Aside0 ((((((((w7.setCell ⟨gb1131, 0, none⟩ (.int .i64 t1120)).setCell ⟨gb1131, 1, none⟩ (.string t1121)).setCell ⟨gb1131, 2, none⟩ (.slice Ao12 t1122.length co12)).setCell ⟨gb1131, 3, none⟩ (.string t1125)).setCell ⟨gb1132, 0, none⟩ (.int .i64 t1126)).setCell ⟨gb1132, 1, none⟩ (.slice Ao16 t1127.length co16)).setCell ⟨gb1132, 2, none⟩ (.string t1130)).heap[gb1132]? = some (.cells #[.int .i64 t1126, .slice Ao16 t1127.length co16, .string t1130] 29 (0, 0))) := ⟨pt1 BK1132 NB1132_1131⟩
 have n6_ : Aside0 (Below w.heap.size w (((((((w7.setCell ⟨gb1131, 0, none⟩ (.int .i64 t1120)).setCell ⟨gb1131, 1, none⟩ (.string t1121)).setCell ⟨gb1131, 2, none⟩ (.slice Ao12 t1122.length co12)).setCell ⟨gb1131, 3, none⟩ (.string t1125)).setCell ⟨gb1132, 0, none⟩ (.int .i64 t1126)).setCell ⟨gb1132, 1, none⟩ (.slice Ao16 t1127.length co16)).setCell ⟨gb1132, 2, none⟩ (.string t1130))) := ⟨u28HB⟩
 (try clear HO1124)
 (try clear HO1129)
 (try clear BK1118)
 (try clear BK1119)
 (try clear BK1131)
 (try clear BK1132)
 (try clear HB)
 generalize (((((((w7.setCell ⟨gb1131, 0, none⟩ (.int .i64 t1120)).setCell ⟨gb1131, 1, none⟩ (.string t1121)).setCell ⟨gb1131, 2, none⟩ (.slice Ao12 t1122.length co12)).setCell ⟨gb1131, 3, none⟩ (.string t1125)).setCell ⟨gb1132, 0, none⟩ (.int .i64 t1126)).setCell ⟨gb1132, 1, none⟩ (.slice Ao16 t1127.length co16)).setCell ⟨gb1132, 2, none⟩ (.string t1130)) = w17 at n0_ n1_ n2_ n3_ n4_ n5_ n6_ ⊢
 have HO1124 := n0_
 have HO1129 := n1_
 have BK1118 := n2_
 have BK1119 := n3_
 have BK1131 := n4_
 have BK1132 := n5_
 have HB := n6_
 clear n0_ n1_ n2_ n3_ n4_ n5_ n6_
 replace HO1124 := am (Kd.R_drew HO1124.out)
 replace HO1129 := am (Kd.R_drew HO1129.out)
 replace BK1118 := am (blk_drew BK1118.out)
 replace BK1119 := am (blk_drew BK1119.out)
 replace BK1131 := am (blk_drew BK1131.out)
 replace BK1132 := am (blk_drew BK1132.out)
 replace HB := am (below_drew1 HB.out)
 refine start_ (n := 4) (S := fun w' => w'.cell? ⟨gb1131, 0, none⟩ = some (.int .i64 t1120) ∧ w'.cell? ⟨gb1131, 1, none⟩ = some (.string t1121) ∧ w'.cell? ⟨gb1131, 2, none⟩ = some (.slice Ao12 t1122.length co12) ∧ w'.cell? ⟨gb1131, 3, none⟩ = some (.string t1125) ∧ w'.cell? ⟨gb1132, 0, none⟩ = some (.int .i64 t1126) ∧ w'.cell? ⟨gb1132, 1, none⟩ = some (.slice Ao16 t1127.length co16) ∧ w'.cell? ⟨gb1132, 2, none⟩ = some (.string t1130)) (ds := []) ⟨br true [0, 4]⟩ (by kernel_rfl) rfl (by kernel_rfl) ⟨bc BK1131, bc BK1131, bc BK1131, bc BK1131, bc BK1132, bc BK1132, bc BK1132⟩ (fun hHeld => ?_)
 generalize w17.drew = w18 at HO1124 HO1129 BK1118 BK1119 BK1131 BK1132 HB hHeld ⊢
 refine tk 0 11 [1, 3] ?_
 refine tk 1 12 [2, 2] ?_
 refine one_ (i := 2) (N := none) #[true, true, true, false] rfl rfl (by kernel_rfl) (by decide) (fun K hK => ?_)
 have hs19 : w18.cell? ⟨gb1118, 0, none⟩ = some (.int .i64 0) := bc BK1118
 have hfs19 := blk_frozen BK1118.out 0
 have hns19_1 := NB1119_1118.out
 have hns19_2 := NB1131_1118.out
 have hns19_3 := NB1132_1118.out
 have hms19_1 := NB1118_1119.out
 have hms19_2 := NB1118_1131.out
 have hms19_3 := NB1118_1132.out
 have hs20 : w18.cell? ⟨gb1118, 1, none⟩ = some (.string (⟨#[]⟩ : ByteArray)) := bc BK1118
 have hfs20 := blk_frozen BK1118.out 1
 have hns20_1 := NB1119_1118.out
 have hns20_2 := NB1131_1118.out
 have hns20_3 := NB1132_1118.out
 have hms20_1 := NB1118_1119.out
 have hms20_2 := NB1118_1131.out
 have hms20_3 := NB1118_1132.out
 have hs21 : w18.cell? ⟨gb1118, 2, none⟩ = some (.slice none 0 0) := bc BK1118
 have hfs21 := blk_frozen BK1118.out 2
 have hns21_1 := NB1119_1118.out
 have hns21_2 := NB1131_1118.out
 have hns21_3 := NB1132_1118.out
 have hms21_1 := NB1118_1119.out
 have hms21_2 := NB1118_1131.out
 have hms21_3 := NB1118_1132.out
 have hs22 : w18.cell? ⟨gb1118, 3, none⟩ = some (.string (⟨#[]⟩ : ByteArray)) := bc BK1118
 have hfs22 := blk_frozen BK1118.out 3
 have hns22_1 := NB1119_1118.out
 have hns22_2 := NB1131_1118.out
 have hns22_3 := NB1132_1118.out
 have hms22_1 := NB1118_1119.out
 have hms22_2 := NB1118_1131.out
 have hms22_3 := NB1118_1132.out
 refine skip_ (w1 := ?_) (by rfl) rfl ?_ ?_
 rotate_left
 ·go_simp
  rfl
 refine hK.out _ _ ⟨((cell_far (p := ⟨gb1118, _, none⟩) NB1131_1118.out _).trans (((cell_far (p := ⟨gb1118, _, none⟩) NB1131_1118.out _).trans (((cell_far (p := ⟨gb1118, _, none⟩) NB1131_1118.out _).trans (((cell_far (p := ⟨gb1118, _, none⟩) NB1131_1118.out _).trans (hHeld.1)))))))), ((cell_far (p := ⟨gb1118, _, none⟩) NB1131_1118.out _).trans (((cell_far (p := ⟨gb1118, _, none⟩) NB1131_1118.out _).trans (((cell_far (p := ⟨gb1118, _, none⟩) NB1131_1118.out _).trans (((cell_far (p := ⟨gb1118, _, none⟩) NB1131_1118.out _).trans (hHeld.2.1)))))))), ((cell_far (p := ⟨gb1118, _, none⟩) NB1131_1118.out _).trans (((cell_far (p := ⟨gb1118, _, none⟩) NB1131_1118.out _).trans (((cell_far (p := ⟨gb1118, _, none⟩) NB1131_1118.out _).trans (((cell_far (p := ⟨gb1118, _, none⟩) NB1131_1118.out _).trans (hHeld.2.2.1)))))))), ((cell_far (p := ⟨gb1118, _, none⟩) NB1131_1118.out _).trans (((cell_far (p := ⟨gb1118, _, none⟩) NB1131_1118.out _).trans (((cell_far (p := ⟨gb1118, _, none⟩) NB1131_1118.out _).trans (((cell_far (p := ⟨gb1118, _, none⟩) NB1131_1118.out _).trans (hHeld.2.2.2.1)))))))), ((cell_far (p := ⟨gb1118, _, none⟩) NB1132_1118.out _).trans (((cell_far (p := ⟨gb1118, _, none⟩) NB1132_1118.out _).trans (((cell_far (p := ⟨gb1118, _, none⟩) NB1132_1118.out _).trans (((cell_far (p := ⟨gb1118, _, none⟩) NB1132_1118.out _).trans (hHeld.2.2.2.2.1)))))))), ((cell_far (p := ⟨gb1118, _, none⟩) NB1132_1118.out _).trans (((cell_far (p := ⟨gb1118, _, none⟩) NB1132_1118.out _).trans (((cell_far (p := ⟨gb1118, _, none⟩) NB1132_1118.out _).trans (((cell_far (p := ⟨gb1118, _, none⟩) NB1132_1118.out _).trans (hHeld.2.2.2.2.2.1)))))))), ((cell_far (p := ⟨gb1118, _, none⟩) NB1132_1118.out _).trans (((cell_far (p := ⟨gb1118, _, none⟩) NB1132_1118.out _).trans (((cell_far (p := ⟨gb1118, _, none⟩) NB1132_1118.out _).trans (((cell_far (p := ⟨gb1118, _, none⟩) NB1132_1118.out _).trans (hHeld.2.2.2.2.2.2))))))))⟩ (fun hHeld => ?_)
 clear hK K
 refine one_ (i := 3) (N := none) #[true, true, true, true] rfl rfl (by kernel_rfl) (by decide) (fun K hK => ?_)
 have hs23 : w18.cell? ⟨gb1119, 0, none⟩ = some (.int .i64 0) := bc BK1119
 have hfs23 := blk_frozen BK1119.out 0
 have hns23_0 := NB1118_1119.out
 have hns23_2 := NB1131_1119.out
 have hns23_3 := NB1132_1119.out
 have hms23_0 := NB1119_1118.out
 have hms23_2 := NB1119_1131.out
 have hms23_3 := NB1119_1132.out
 have hs24 : w18.cell? ⟨gb1119, 1, none⟩ = some (.slice none 0 0) := bc BK1119
 have hfs24 := blk_frozen BK1119.out 1
 have hns24_0 := NB1118_1119.out
 have hns24_2 := NB1131_1119.out
 have hns24_3 := NB1132_1119.out
 have hms24_0 := NB1119_1118.out
 have hms24_2 := NB1119_1131.out
 have hms24_3 := NB1119_1132.out
 have hs25 : w18.cell? ⟨gb1119, 2, none⟩ = some (.string (⟨#[]⟩ : ByteArray)) := bc BK1119
 have hfs25 := blk_frozen BK1119.out 2
 have hns25_0 := NB1118_1119.out
 have hns25_2 := NB1131_1119.out
 have hns25_3 := NB1132_1119.out
 have hms25_0 := NB1119_1118.out
 have hms25_2 := NB1119_1131.out
 have hms25_3 := NB1119_1132.out
 refine skip_ (w1 := ?_) (by rfl) rfl ?_ ?_
 rotate_left
 ·go_simp
  rfl
 refine hK.out _ _ ⟨((cell_far (p := ⟨gb1119, _, none⟩) NB1131_1119.out _).trans (((cell_far (p := ⟨gb1119, _, none⟩) NB1131_1119.out _).trans (((cell_far (p := ⟨gb1119, _, none⟩) NB1131_1119.out _).trans (hHeld.1)))))), ((cell_far (p := ⟨gb1119, _, none⟩) NB1131_1119.out _).trans (((cell_far (p := ⟨gb1119, _, none⟩) NB1131_1119.out _).trans (((cell_far (p := ⟨gb1119, _, none⟩) NB1131_1119.out _).trans (hHeld.2.1)))))), ((cell_far (p := ⟨gb1119, _, none⟩) NB1131_1119.out _).trans (((cell_far (p := ⟨gb1119, _, none⟩) NB1131_1119.out _).trans (((cell_far (p := ⟨gb1119, _, none⟩) NB1131_1119.out _).trans (hHeld.2.2.1)))))), ((cell_far (p := ⟨gb1119, _, none⟩) NB1131_1119.out _).trans (((cell_far (p := ⟨gb1119, _, none⟩) NB1131_1119.out _).trans (((cell_far (p := ⟨gb1119, _, none⟩) NB1131_1119.out _).trans (hHeld.2.2.2.1)))))), ((cell_far (p := ⟨gb1119, _, none⟩) NB1132_1119.out _).trans (((cell_far (p := ⟨gb1119, _, none⟩) NB1132_1119.out _).trans (((cell_far (p := ⟨gb1119, _, none⟩) NB1132_1119.out _).trans (hHeld.2.2.2.2.1)))))), ((cell_far (p := ⟨gb1119, _, none⟩) NB1132_1119.out _).trans (((cell_far (p := ⟨gb1119, _, none⟩) NB1132_1119.out _).trans (((cell_far (p := ⟨gb1119, _, none⟩) NB1132_1119.out _).trans (hHeld.2.2.2.2.2.1)))))), ((cell_far (p := ⟨gb1119, _, none⟩) NB1132_1119.out _).trans (((cell_far (p := ⟨gb1119, _, none⟩) NB1132_1119.out _).trans (((cell_far (p := ⟨gb1119, _, none⟩) NB1132_1119.out _).trans (hHeld.2.2.2.2.2.2))))))⟩ (fun hHeld => ?_)
 clear hK K
 refine done_ (by kernel_rfl) ?_
 try go_wp2
 refine bodyPost_ret (results_cc rfl _ _ gb1118 gb1119 50 29 #[.int .i64 t1120, .string t1121, .slice Ao12 t1122.length co12, .string t1125] #[.int .i64 t1126, .slice Ao16 t1127.length co16, .string t1130] (0, 0) (0, 0) _ _ rfl (pt1 BK1118 NB1118_1119) Tryz.underlying50 rfl (by kernel_rfl) rfl (pt1 BK1119 NB1119_1118) Tryz.underlying29 rfl (by kernel_rfl)) rfl ?_
 exact ⟨_, _, rf, rj (Kd.R_types (Kd.R_types HO1124.out BK1118.out (by decide)) BK1119.out (by decide)) (fun _ hk => hk.1.1), rj (Kd.R_types (Kd.R_types HO1129.out BK1118.out (by decide)) BK1119.out (by decide)) (fun _ hk => hk.1.1), bl⟩

/-! ### spec_DrawMerge: function 33 -/
theorem u33HB {p : Prop} (h : p := by repeat (first | (with_reducible first | exact HB.out | apply below_alloc | apply pw_below_drewN | apply below_drew1 | refine below_set ?_ GE1158.out | refine below_set ?_ GE1159.out | refine below_set ?_ (IsS139.ge HI1163.out) | refine below_set ?_ GE1171.out) | exact HB.out)) : p := h
theorem u33HI1163 {p : Prop} (h : p := by repeat (first | (with_reducible first | exact HI1163.out | apply IsS139.alloc | apply IsS139.drewN | apply IsS139.drew | apply IsS139.set_1 | apply IsS139.set_2 | apply IsS139.far (p := ⟨gb1158, _, none⟩) (hne := NB1163_1158.out) | apply IsS139.far (p := ⟨gb1159, _, none⟩) (hne := NB1163_1159.out) | apply IsS139.far (p := ⟨gb1171, _, none⟩) (hne := NB1163_1171.out)) | exact HI1163.out)) : p := h
def spec_DrawMerge.f (k : Nat) (l0 : List Int) : Option (Int × (List (S116)) × ByteArray × Int × (List (S116)) × ByteArray) := (spec_l1New.f k l0).bind fun bt1160 => ((spec_l3DrawBadResp.f k bt1160.1 bt1160.2.1 bt1160.2.2).bind fun bt1164 => ((spec_l3DrawBadResp.f k bt1160.1 bt1164.2.2.2.1 bt1164.2.2.2.2).bind fun bt1172 => (some (bt1164.1, bt1164.2.1, bt1164.2.2.1, bt1172.1, bt1172.2.1, bt1172.2.2.1))))
set_option maxHeartbeats 8000000 in
set_option maxRecDepth 100000 in
theorem spec_DrawMerge.calls (k : Nat) (A0 : Option Addr) (c0 : Nat) (l0 : List Int) (r1 : Int) (r2 : List (S116)) (r3 : ByteArray) (r4 : Int) (r5 : List (S116)) (r6 : ByteArray) (w : World) (hr0 : Kd.C (Kd.int .u8) w A0 l0.length l0) (hc0 : l0.length ≤ c0) (h : spec_DrawMerge.f k l0 = some (r1, r2, r3, r4, r5, r6)) :
  Calls Tryz.prog 33 #[.slice A0 l0.length c0] w fun e w' => ∃ v1_ v4_ : Value, e = .returned (.tuple #[.agg #[.int .i64 r1, v1_, .string r3], .agg #[.int .i64 r4, v4_, .string r6]]) ∧ Kd.R k116 116 w' w.heap.size (fun k_ => some k_ ≠ (v4_ : Value).ownBlock) v1_ r2 ∧ Kd.R k116 116 w' w.heap.size (fun k_ => some k_ ≠ (v1_ : Value).ownBlock) v4_ r5 ∧ Below w.heap.size w w' := by
 have hu29 := Tryz.underlying29
 have HR0 := am hr0
 have HC0 := am hc0
 clear hr0 hc0
 have HB := am (Below.refl w.heap.size w)
 unfold spec_DrawMerge.f at h
 have H := h
 clear h
 revert H
 refine ok3 fun t1160 t1161 t1162 A2 H => ?_
 (try dsimp only at H)
 revert H
 refine ok5 fun t1164 t1165 t1168 t1169 t1170 A3 H => ?_
 (try dsimp only at H)
 revert H
 refine ok5 fun t1172 t1173 t1176 t1177 t1178 A4 H => ?_
 (try dsimp only at H)
 simp only [Option.some.injEq, Prod.mk.injEq] at H
 obtain ⟨rfl, rfl, rfl, rfl, rfl, rfl⟩ := H
 go_enter Tryz.func33, Tryz.ntmps33
 try go_wp2_with ((with_reducible refine gw ?_); first | (refine bx 2 #[.int .i64 0, .slice none 0 0, .string (⟨#[]⟩ : ByteArray)] 29 ?_; intro gb1158 hg w5 hbox hb; have BK1158 := am (hbox); have GW1158 := am (sz hg : w.heap.size ≤ gb1158); have GE1158 := am (sz hg : w.heap.size ≤ gb1158); replace HB := am (below_step bl hb); clear hb hbox hg) | (refine bx 3 #[.int .i64 0, .slice none 0 0, .string (⟨#[]⟩ : ByteArray)] 29 ?_; intro gb1159 hg w6 hbox hb; have BK1159 := am (hbox); have GW1159 := am (sz hg : w.heap.size ≤ gb1159); have GE1159 := am (sz hg : w.heap.size ≤ gb1159); replace HB := am (below_step bl hb); have NB1158_1159 := am (nl hg BK1158 : gb1158 ≠ gb1159); have NB1159_1158 := am (ng hg BK1158 : gb1159 ≠ gb1158); replace BK1158 := kb BK1158 hb; clear hb hbox hg) | (refine gl 7 Tryz.func59 #[.slice A0 l0.length c0] ?_; (with_reducible refine (spec_l1New.calls k _ _ l0 t1160 t1161 t1162 w _ ?side1 ?side2 ?side3 A2.out).mono ?_); (case side1 => exact u33HB); (case side2 => exact HR0.out); (case side3 => exact HC0.out); rintro e w7 ⟨g1163, rfl, hi, hb, hb2⟩; refine ⟨_, rfl, ?_⟩; replace HB := am (hb); have HI1163 := am (hi); have NB1163_1158 := am (IsS139.ne_blk hi (blk_below (g := gb1158) (o := .cells #[.int .i64 0, .slice none 0 0, .string (⟨#[]⟩ : ByteArray)] 29 (0, 0)) (bk BK1158) hb2) (by decide)); have NB1158_1163 := am (Ne.symm (IsS139.ne_blk hi (blk_below (g := gb1158) (o := .cells #[.int .i64 0, .slice none 0 0, .string (⟨#[]⟩ : ByteArray)] 29 (0, 0)) (bk BK1158) hb2) (by decide))); replace BK1158 := am (blk_below (g := gb1158) (o := .cells #[.int .i64 0, .slice none 0 0, .string (⟨#[]⟩ : ByteArray)] 29 (0, 0)) (bk BK1158) hb2); have NB1163_1159 := am (IsS139.ne_blk hi (blk_below (g := gb1159) (o := .cells #[.int .i64 0, .slice none 0 0, .string (⟨#[]⟩ : ByteArray)] 29 (0, 0)) (bk BK1159) hb2) (by decide)); have NB1159_1163 := am (Ne.symm (IsS139.ne_blk hi (blk_below (g := gb1159) (o := .cells #[.int .i64 0, .slice none 0 0, .string (⟨#[]⟩ : ByteArray)] 29 (0, 0)) (bk BK1159) hb2) (by decide))); replace BK1159 := am (blk_below (g := gb1159) (o := .cells #[.int .i64 0, .slice none 0 0, .string (⟨#[]⟩ : ByteArray)] 29 (0, 0)) (bk BK1159) hb2); clear hb hb2 hi) | (refine gl 9 Tryz.func96 #[.pointer (some ⟨g1163, 0, none⟩)] ?_; (with_reducible refine (spec_l3DrawBadResp.calls k g1163 t1160 t1161 t1162 t1164 t1165 t1168 t1169 t1170 w _ ?side1 ?side2 A3.out).mono ?_); (case side1 => exact u33HI1163); (case side2 => exact u33HB); rintro e w8 ⟨v1166, rfl, ho0, hi, hb, hk⟩; refine ⟨_, rfl, ?_⟩; replace BK1158 := kp BK1158 hk NB1158_1163; replace BK1159 := kp BK1159 hk NB1159_1163; have HO1167 := am (Kd.R_lower ho0 (below_size u33HB)); replace HB := am (hb); replace HI1163 := am (hi); clear hb hk hi ho0) | (refine bx 5 #[.int .i64 0, .slice none 0 0, .string (⟨#[]⟩ : ByteArray)] 29 ?_; intro gb1171 hg w9 hbox hb; have n0_ := am (Kd.R_below (ro HO1167) hb); have n1_ := kb BK1158 hb; have n2_ := kb BK1159 hb; have n3_ := am (IsS139.below u33HI1163 hb); have n4_ := am (below_step u33HB hb); have n5_ := am (hbox); have n6_ := am ((by rw [hg]; exact (below_size u33HB) : w.heap.size ≤ gb1171)); have n7_ := am ((by rw [hg]; exact (below_size u33HB) : w.heap.size ≤ gb1171)); have n8_ := am (nl hg BK1158 : gb1158 ≠ gb1171); have n9_ := am (ng hg BK1158 : gb1171 ≠ gb1158); have n10_ := am (nl hg BK1159 : gb1159 ≠ gb1171); have n11_ := am (ng hg BK1159 : gb1171 ≠ gb1159); have n12_ := am ((by rw [hg]; exact Nat.ne_of_lt (IsS139.lt (show IsS139 w _ g1163 t1160 t1169 t1170 from u33HI1163)) : g1163 ≠ gb1171)); have n13_ := am ((by rw [hg]; exact Nat.ne_of_gt (IsS139.lt (show IsS139 w _ g1163 t1160 t1169 t1170 from u33HI1163)) : gb1171 ≠ g1163)); clear HO1167; clear BK1158; clear BK1159; clear HI1163; clear HB; have HO1167 := n0_; have BK1158 := n1_; have BK1159 := n2_; have HI1163 := n3_; have HB := n4_; have BK1171 := n5_; have GW1171 := n6_; have GE1171 := n7_; have NB1158_1171 := n8_; have NB1171_1158 := n9_; have NB1159_1171 := n10_; have NB1171_1159 := n11_; have NB1163_1171 := n12_; have NB1171_1163 := n13_; clear n0_ n1_ n2_ n3_ n4_ n5_ n6_ n7_ n8_ n9_ n10_ n11_ n12_ n13_; clear hb hbox hg; have hnb10 := NB1171_1158.out; have hnc10 := NB1158_1171.out; have hnb11 := NB1171_1159.out; have hnc11 := NB1159_1171.out; have hnb12 := NB1171_1163.out; have hnc12 := NB1163_1171.out; obtain ⟨z13_0, y13_0, z13_1, y13_1, z13_2, y13_2⟩ := cl3 BK1171; obtain ⟨Ao14, co14, eo14⟩ := Kd.R_slice HO1167.out; subst eo14))
 have n0_ : Aside0 (Kd.R k116 116 (((w9.setCell ⟨gb1171, 0, none⟩ (.int .i64 t1164)).setCell ⟨gb1171, 1, none⟩ (.slice Ao14 t1165.length co14)).setCell ⟨gb1171, 2, none⟩ (.string t1168)) w.heap.size (fun _ => True) (.slice Ao14 t1165.length co14) t1165) := ⟨rj (Kd.R_types HO1167.out BK1171.out (by decide)) (fun _ hk => trivial)⟩
 have n1_ : Aside0 ((((w9.setCell ⟨gb1171, 0, none⟩ (.int .i64 t1164)).setCell ⟨gb1171, 1, none⟩ (.slice Ao14 t1165.length co14)).setCell ⟨gb1171, 2, none⟩ (.string t1168)).heap[gb1158]? = some (.cells #[.int .i64 0, .slice none 0 0, .string (⟨#[]⟩ : ByteArray)] 29 (0, 0))) := ⟨by (with_reducible repeat (first | refine blk_drewN ?_ _ | refine blk_drew ?_ | refine blk_alloc ?_ _)); refine blk_far ?_ NB1158_1171.out _; (with_reducible repeat (first | refine blk_drewN ?_ _ | refine blk_drew ?_ | refine blk_alloc ?_ _)); refine blk_far ?_ NB1158_1171.out _; (with_reducible repeat (first | refine blk_drewN ?_ _ | refine blk_drew ?_ | refine blk_alloc ?_ _)); refine blk_far ?_ NB1158_1171.out _; (with_reducible repeat (first | refine blk_drewN ?_ _ | refine blk_drew ?_ | refine blk_alloc ?_ _)); exact BK1158.out⟩
 have n2_ : Aside0 ((((w9.setCell ⟨gb1171, 0, none⟩ (.int .i64 t1164)).setCell ⟨gb1171, 1, none⟩ (.slice Ao14 t1165.length co14)).setCell ⟨gb1171, 2, none⟩ (.string t1168)).heap[gb1159]? = some (.cells #[.int .i64 0, .slice none 0 0, .string (⟨#[]⟩ : ByteArray)] 29 (0, 0))) := ⟨by (with_reducible repeat (first | refine blk_drewN ?_ _ | refine blk_drew ?_ | refine blk_alloc ?_ _)); refine blk_far ?_ NB1159_1171.out _; (with_reducible repeat (first | refine blk_drewN ?_ _ | refine blk_drew ?_ | refine blk_alloc ?_ _)); refine blk_far ?_ NB1159_1171.out _; (with_reducible repeat (first | refine blk_drewN ?_ _ | refine blk_drew ?_ | refine blk_alloc ?_ _)); refine blk_far ?_ NB1159_1171.out _; (with_reducible repeat (first | refine blk_drewN ?_ _ | refine blk_drew ?_ | refine blk_alloc ?_ _)); exact BK1159.out⟩
 have n3_ : Aside0 ((((w9.setCell ⟨gb1171, 0, none⟩ (.int .i64 t1164)).setCell ⟨gb1171, 1, none⟩ (.slice Ao14 t1165.length co14)).setCell ⟨gb1171, 2, none⟩ (.string t1168)).heap[gb1171]? = some (.cells #[.int .i64 t1164, .slice Ao14 t1165.length co14, .string t1168] 29 (0, 0))) := ⟨pt0 BK1171⟩
 have n4_ : Aside0 (IsS139 w (((w9.setCell ⟨gb1171, 0, none⟩ (.int .i64 t1164)).setCell ⟨gb1171, 1, none⟩ (.slice Ao14 t1165.length co14)).setCell ⟨gb1171, 2, none⟩ (.string t1168)) g1163 t1160 t1169 t1170) := ⟨u33HI1163⟩
 have n5_ : Aside0 (Below w.heap.size w (((w9.setCell ⟨gb1171, 0, none⟩ (.int .i64 t1164)).setCell ⟨gb1171, 1, none⟩ (.slice Ao14 t1165.length co14)).setCell ⟨gb1171, 2, none⟩ (.string t1168))) := ⟨u33HB⟩
 (try clear HO1167)
 (try clear BK1158)
 (try clear BK1159)
 (try clear BK1171)
 (try clear HI1163)
 (try clear HB)
 generalize (((w9.setCell ⟨gb1171, 0, none⟩ (.int .i64 t1164)).setCell ⟨gb1171, 1, none⟩ (.slice Ao14 t1165.length co14)).setCell ⟨gb1171, 2, none⟩ (.string t1168)) = w15 at n0_ n1_ n2_ n3_ n4_ n5_ ⊢
 have HO1167 := n0_
 have BK1158 := n1_
 have BK1159 := n2_
 have BK1171 := n3_
 have HI1163 := n4_
 have HB := n5_
 clear n0_ n1_ n2_ n3_ n4_ n5_
 replace HO1167 := am (Kd.R_drew HO1167.out)
 replace BK1158 := am (blk_drew BK1158.out)
 replace BK1159 := am (blk_drew BK1159.out)
 replace BK1171 := am (blk_drew BK1171.out)
 replace HI1163 := am (IsS139.drew HI1163.out)
 replace HB := am (below_drew1 HB.out)
 refine start_ (n := 5) (S := fun w' => w'.cell? ⟨gb1171, 0, none⟩ = some (.int .i64 t1164) ∧ w'.cell? ⟨gb1171, 1, none⟩ = some (.slice Ao14 t1165.length co14) ∧ w'.cell? ⟨gb1171, 2, none⟩ = some (.string t1168)) (ds := []) ⟨br true [0, 5]⟩ (by kernel_rfl) rfl (by kernel_rfl) ⟨bc BK1171, bc BK1171, bc BK1171⟩ (fun hHeld => ?_)
 generalize w15.drew = w16 at HO1167 BK1158 BK1159 BK1171 HI1163 HB hHeld ⊢
 refine pu 1 11 [0, 1, 1, 3] ?_
 refine tk 0 10 [2, 3] ?_
 refine og 2 12 [3, 2] Tryz.func96 #[.pointer (some ⟨g1163, 0, none⟩)] (fun K hK => ?_)
 with_reducible refine (spec_l3DrawBadResp.calls k g1163 t1160 t1169 t1170 t1172 t1173 t1176 t1177 t1178 w _ ?side1 ?side2 A4.out).mono ?_
 (case side1 => exact u33HI1163)
 (case side2 => exact u33HB)
 rintro e w17 ⟨v1174, rfl, ho0, hi, hb, hk⟩
 refine ⟨_, rfl, ?_⟩
 replace BK1158 := kp BK1158 hk NB1158_1163
 replace BK1159 := kp BK1159 hk NB1159_1163
 replace BK1171 := kp BK1171 hk NB1171_1163
 have HO1175 := am (Kd.R_lower (Kd.R_new' ho0 (Kd.R_lt (ro HO1167))) (below_size u33HB))
 replace HO1167 := am (Kd.R_mono (Kd.R_told (Kd.R_oldK (IsS139.apart (show IsS139 w _ g1163 t1160 t1169 t1170 from u33HI1163) (ro HO1167) (by decide)) hk) (Kd.R_base ho0)) (fun _ h_ => h_.1))
 replace HB := am (hb)
 replace HI1163 := am (hi)
 clear hb hk hi ho0
 obtain ⟨Ao22, co22, eo22⟩ := Kd.R_slice HO1175.out
 (first | subst eo22 | (injection eo22 with f1_ f2_ f3_; have f4_ := f1_.symm; have f5_ := f3_.symm; clear f1_ f2_ f3_; subst f4_; subst f5_))
 refine hK.out _ _ ⟨bc BK1171, bc BK1171, bc BK1171⟩ (fun hHeld => ?_)
 clear hK K
 refine nm 12 ?_
 refine one_ (i := 3) (N := none) #[true, true, true, true, false] rfl rfl (by kernel_rfl) (by decide) (fun K hK => ?_)
 have hs18 : w17.cell? ⟨gb1158, 0, none⟩ = some (.int .i64 0) := bc BK1158
 have hfs18 := blk_frozen BK1158.out 0
 have hns18_1 := NB1159_1158.out
 have hns18_2 := NB1171_1158.out
 have hms18_1 := NB1158_1159.out
 have hms18_2 := NB1158_1171.out
 have hs19 : w17.cell? ⟨gb1158, 1, none⟩ = some (.slice none 0 0) := bc BK1158
 have hfs19 := blk_frozen BK1158.out 1
 have hns19_1 := NB1159_1158.out
 have hns19_2 := NB1171_1158.out
 have hms19_1 := NB1158_1159.out
 have hms19_2 := NB1158_1171.out
 have hs20 : w17.cell? ⟨gb1158, 2, none⟩ = some (.string (⟨#[]⟩ : ByteArray)) := bc BK1158
 have hfs20 := blk_frozen BK1158.out 2
 have hns20_1 := NB1159_1158.out
 have hns20_2 := NB1171_1158.out
 have hms20_1 := NB1158_1159.out
 have hms20_2 := NB1158_1171.out
 refine skip_ (w1 := ?_) (by rfl) rfl ?_ ?_
 rotate_left
 ·go_simp
  rfl
 refine hK.out _ _ ⟨((cell_far (p := ⟨gb1158, _, none⟩) NB1171_1158.out _).trans (((cell_far (p := ⟨gb1158, _, none⟩) NB1171_1158.out _).trans (((cell_far (p := ⟨gb1158, _, none⟩) NB1171_1158.out _).trans (hHeld.1)))))), ((cell_far (p := ⟨gb1158, _, none⟩) NB1171_1158.out _).trans (((cell_far (p := ⟨gb1158, _, none⟩) NB1171_1158.out _).trans (((cell_far (p := ⟨gb1158, _, none⟩) NB1171_1158.out _).trans (hHeld.2.1)))))), ((cell_far (p := ⟨gb1158, _, none⟩) NB1171_1158.out _).trans (((cell_far (p := ⟨gb1158, _, none⟩) NB1171_1158.out _).trans (((cell_far (p := ⟨gb1158, _, none⟩) NB1171_1158.out _).trans (hHeld.2.2))))))⟩ (fun hHeld => ?_)
 clear hK K
 refine one_ (i := 4) (N := none) #[true, true, true, true, true] rfl rfl (by kernel_rfl) (by decide) (fun K hK => ?_)
 have hs21 : w17.cell? ⟨gb1159, 0, none⟩ = some (.int .i64 0) := bc BK1159
 have hfs21 := blk_frozen BK1159.out 0
 have hns21_0 := NB1158_1159.out
 have hns21_2 := NB1171_1159.out
 have hms21_0 := NB1159_1158.out
 have hms21_2 := NB1159_1171.out
 have hs23 : w17.cell? ⟨gb1159, 1, none⟩ = some (.slice none 0 0) := bc BK1159
 have hfs23 := blk_frozen BK1159.out 1
 have hns23_0 := NB1158_1159.out
 have hns23_2 := NB1171_1159.out
 have hms23_0 := NB1159_1158.out
 have hms23_2 := NB1159_1171.out
 have hs24 : w17.cell? ⟨gb1159, 2, none⟩ = some (.string (⟨#[]⟩ : ByteArray)) := bc BK1159
 have hfs24 := blk_frozen BK1159.out 2
 have hns24_0 := NB1158_1159.out
 have hns24_2 := NB1171_1159.out
 have hms24_0 := NB1159_1158.out
 have hms24_2 := NB1159_1171.out
 refine skip_ (w1 := ?_) (by rfl) rfl ?_ ?_
 rotate_left
 ·go_simp
  rfl
 refine hK.out _ _ ⟨((cell_far (p := ⟨gb1159, _, none⟩) NB1171_1159.out _).trans (((cell_far (p := ⟨gb1159, _, none⟩) NB1171_1159.out _).trans (((cell_far (p := ⟨gb1159, _, none⟩) NB1171_1159.out _).trans (hHeld.1)))))), ((cell_far (p := ⟨gb1159, _, none⟩) NB1171_1159.out _).trans (((cell_far (p := ⟨gb1159, _, none⟩) NB1171_1159.out _).trans (((cell_far (p := ⟨gb1159, _, none⟩) NB1171_1159.out _).trans (hHeld.2.1)))))), ((cell_far (p := ⟨gb1159, _, none⟩) NB1171_1159.out _).trans (((cell_far (p := ⟨gb1159, _, none⟩) NB1171_1159.out _).trans (((cell_far (p := ⟨gb1159, _, none⟩) NB1171_1159.out _).trans (hHeld.2.2))))))⟩ (fun hHeld => ?_)
 clear hK K
 refine done_ (by kernel_rfl) ?_
 try go_wp2
 refine bodyPost_ret (results_cc rfl _ _ gb1158 gb1159 29 29 #[.int .i64 t1164, .slice Ao14 t1165.length co14, .string t1168] #[.int .i64 t1172, .slice Ao22 t1173.length co22, .string t1176] (0, 0) (0, 0) _ _ rfl (pt1 BK1158 NB1158_1159) Tryz.underlying29 rfl (by kernel_rfl) rfl (pt1 BK1159 NB1159_1158) Tryz.underlying29 rfl (by kernel_rfl)) rfl ?_
 exact ⟨_, _, rf, rj (Kd.R_types (Kd.R_types HO1167.out BK1158.out (by decide)) BK1159.out (by decide)) (fun _ hk => hk.1.1.2), rj (Kd.R_types (Kd.R_types HO1175.out BK1158.out (by decide)) BK1159.out (by decide)) (fun _ hk => hk.1.1.2), u33HB⟩

/-! ### impl_Put: function 98 -/
def impl_Put.f (l0 : List (S116)) (a1 : ByteArray) (a2 : ByteArray) : Option ((List (S116))) := (slices_Clone_Field.f l0).bind fun t1184 => ((impl_fieldAt.f l0 a1).bind fun t1187 => (if t1187 ≥ 0 then (if 0 ≤ t1187 then (if t1187 < (t1184.length : Int) then (some (t1184.set (t1187 : Int).toNat (⟨(rd_T116 t1184 t1187).f0, a2⟩ : S116))) else (none)) else (none)) else (if t1184.length < 4398046511104 then (some (t1184 ++ [(⟨a1, a2⟩ : S116)])) else (none))))
set_option maxHeartbeats 8000000 in
set_option maxRecDepth 100000 in
theorem impl_Put.calls (A0 : Option Addr) (c0 : Nat) (l0 : List (S116)) (a1 : ByteArray) (a2 : ByteArray) (r : List (S116)) (w : World) (hr0 : Kd.C k116 w A0 l0.length l0) (hc0 : l0.length ≤ c0) (h : impl_Put.f l0 a1 a2 = some r) :
  Calls Tryz.prog 98 #[.slice A0 l0.length c0, .string a1, .string a2] w fun e w' => ∃ v0_ : Value, e = .returned (v0_) ∧ Kd.R k116 116 w' w.heap.size (fun _ => True) v0_ r ∧ Below w.heap.size w w' := by
 have hu116 := Tryz.underlying116
 have HR0 := am hr0
 have HC0 := am hc0
 clear hr0 hc0
 have HB := am (Below.refl w.heap.size w)
 unfold impl_Put.f at h
 have H := h
 clear h
 revert H
 refine ok1 fun t1184 A4 H => ?_
 revert H
 refine ok1 fun t1187 A5 H => ?_
 have HH6 := am H
 clear H
 go_enter Tryz.func98, Tryz.ntmps98
 go_upto_if 15 with ((with_reducible refine gw ?_); first | (refine gl 10 Tryz.func150 #[.slice A0 l0.length c0] ?_; (with_reducible refine (slices_Clone_Field.calls _ _ l0 t1184 _ ?side1 ?side2 A4.out).mono ?_); (case side1 => exact cc HR0); (case side2 => exact HC0.out); rintro e w7 ⟨v1185, rfl, ho0, hb⟩; refine ⟨_, rfl, ?_⟩; have HO1186 := am (Kd.R_lower ho0 (below_size bl)); replace HB := am (below_step bl hb); clear hb ho0) | (refine gl 13 Tryz.func132 #[.slice A0 l0.length c0, .string a1] ?_; (with_reducible refine (impl_fieldAt.calls _ _ l0 a1 t1187 _ ?side1 ?side2 A5.out).mono ?_); (case side1 => exact cb HR0); (case side2 => exact HC0.out); rintro e w8 ⟨rfl, hb⟩; refine ⟨_, rfl, ?_⟩; replace HO1186 := kr HO1186 hb; replace HB := am (below_step bl hb); clear hb))
 have H := HH6.out
 clear HH6
 by_cases c9 : t1187 ≥ 0
 rotate_left
 ·rw [if_neg c9] at H
  have c9b0 := decide_eq_false c9
  clear c9
  (first | rw [c9b0] | (simp only [i64_w, i32_w]; rw [c9b0]) | skip)
  revert H
  refine ifn fun c15 H => ?_
  have LMc15 := am c15
  clear c15
  obtain ⟨y1189, hy1189⟩ : ∃ y_ : List (S116), y_ = (t1184 ++ [(⟨a1, a2⟩ : S116)]) := ⟨_, rfl⟩
  replace H : (some y1189) = some r := by first | (rw [hy1189]; with_reducible exact H) | (have H2_ := (Option.bind_some _ _).symm.trans H; rw [hy1189]; with_reducible exact H2_) | (have H2_ := (Option.bind_some _ _).symm.trans H; with_reducible exact H2_) | with_reducible exact H | (rw [hy1189]; exact H) | exact H
  have Ny1189 := am hy1189
  clear hy1189
  obtain rfl := Option.some.inj H
  go_wp2_with (first | ((with_reducible refine gate_builtin (b := .append) (xs := #[.tmp 22, .tmp 26]) rfl ?_); at_builtin; refine Kd.R_append k116 (w0 := w) w.heap.size rfl (.tmp 22) (.tmp 26) 27 116 (.agg #[(.string ⟨#[]⟩), (.string ⟨#[]⟩)]) 32 rfl Tryz.underlying27 info116 rfl (by decide) (by omega) v1185 t1184 (⟨a1, a2⟩ : S116) [.string a1, .string a2] (fun _ => True) (fun _ => False) rfl rfl ?aP (fun _ hk => hk.elim) ?aF ?aO ?aB ?aS ?aL ?_; (case aP => exact k116_mkM _ _ _ (⟨a1, a2⟩ : S116)); (case aB => exact bl); (case aF => exact (fun _ _ => trivial)); (case aO => exact (ro HO1186)); (case aS => exact (below_size bl)); (case aL => have := LMc15.out; omega); intro v1190 w16 ho hb hg hat; rw [← Ny1189.out] at ho; have n0_ := am (hb); have n1_ := am (ho); clear HB; clear HO1186; have HB := n0_; have HO1191 := n1_; clear n0_ n1_; clear ho hb hg hat))
  go_ret
  exact ⟨_, rf, by (with_reducible repeat (first | apply Kd.R_alloc | apply Kd.R_drewN | apply Kd.R_drew)); exact HO1191.out, bl⟩
 rw [if_pos c9] at H
 have c9b0 := decide_eq_true c9
 clear c9
 (first | rw [c9b0] | (simp only [i64_w, i32_w]; rw [c9b0]) | skip)
 revert H
 refine ifn fun c10 H => ?_
 have c10b0 := decide_eq_true c10
 clear c10
 revert H
 refine ifn fun c11 H => ?_
 have c11b0 := decide_eq_true c11
 clear c11
 obtain ⟨y1188, hy1188⟩ : ∃ y_ : List (S116), y_ = (t1184.set (t1187 : Int).toNat (⟨(rd_T116 t1184 t1187).f0, a2⟩ : S116)) := ⟨_, rfl⟩
 replace H : (some y1188) = some r := by first | (rw [hy1188]; with_reducible exact H) | (have H2_ := (Option.bind_some _ _).symm.trans H; rw [hy1188]; with_reducible exact H2_) | (have H2_ := (Option.bind_some _ _).symm.trans H; with_reducible exact H2_) | with_reducible exact H | (rw [hy1188]; exact H) | exact H
 have Ny1188 := am hy1188
 clear hy1188
 obtain rfl := Option.some.inj H
 have p12 : 0 ≤ (t1187 : Int) := od
 have q12 : (t1187 : Int) < ((t1184.length : Int) : Int) := od
 obtain ⟨go12, co12, eo12, gb12, gl12, cl12, HG12⟩ := Kd.R_form HO1186.out (by omega)
 (first | cases eo12 | (injection eo12 with ea_ en_ ec_; (first | subst ea_ | (injection ea_ with ea_; subst ea_)); subst ec_; clear en_))
 have GB12 := am gb12
 have GG12 := am HG12
 clear gb12 gl12 HG12
 obtain ⟨ce12, hcl12, hM12, hcc12, hfr12⟩ := Kd.R_elem HO1186.out z116 (t1187 : Int) p12 q12
 obtain rfl := k116_openM hM12
 have hx12_0 : w8.cell? ⟨go12, (t1187 : Int).toNat * 2, none⟩ = some (.string ((rd_T116 t1184 t1187).f0)) := hcc12 0 _ rfl
 have hx12_1 : w8.cell? ⟨go12, (t1187 : Int).toNat * 2 + 1, none⟩ = some (.string ((rd_T116 t1184 t1187).f1)) := hcc12 1 _ rfl
 have hf12_0 : w8.frozen? ⟨go12, (t1187 : Int).toNat * 2, none⟩ = false := hfr12 0
 have hf12_1 : w8.frozen? ⟨go12, (t1187 : Int).toNat * 2 + 1, none⟩ = false := hfr12 1
 clear hcl12 hcc12 hfr12 hM12
 replace p12 := eq_true p12
 replace q12 := eq_true q12
 have HX13 := am (show Kd.R k116 116 w8 w.heap.size (fun _ => True) (.slice (some ⟨go12, 0, none⟩) t1184.length co12) t1184 from (ro HO1186))
 obtain ⟨ce13, hcl13, hM13, hcc13, hfr13⟩ := Kd.R_elem HX13.out z116 (t1187 : Int) (od) (by have h_ : (t1187 : Int) < ((t1184.length : Int) : Int) := od; first | exact h_ | (have e_ := (Kd.R_reads' HO1186.out).1; omega) | simpa using h_)
 obtain rfl := k116_openM hM13
 have HP13 := Kd.R_seg HX13.out (t1187 : Int) (od) (by have h_ : (t1187 : Int) < ((t1184.length : Int) : Int) := od; first | exact h_ | (have e_ := (Kd.R_reads' HO1186.out).1; omega) | simpa using h_) (seg := [.string a2]) (j := 1) hcl13 hcc13 (show 2 ≤ 2 from by decide) (x' := (⟨(rd_T116 t1184 t1187).f0, a2⟩ : S116)) (k116_mkM _ _ _ (⟨(rd_T116 t1184 t1187).f0, a2⟩ : S116) ) (fun _ hk => hk)
 have hx13_1 := hcc13 1 _ rfl
 (try simp only [show (k116).sz = 2 from rfl, Nat.mul_one, Nat.add_zero] at hx13_1)
 have hf13_1 := hfr13 1
 (try simp only [show (k116).sz = 2 from rfl, Nat.mul_one, Nat.add_zero] at hf13_1)
 clear hcl13 hcc13 hfr13 hM13
 go_wp2_with (first | ((with_reducible refine gate_store (t := 9) (p := 20) rfl ?_); refine store_event (t := 9) (p := 20) (v := ?vo_w14) (w1 := (w8.setCell ⟨go12, (t1187 : Int).toNat * 2 + 1, none⟩ (.string a2))) ?hg ?ho ?hn ?hr ?_; (case ho => rfl); (case hg => rfl); (case hn => rfl); (case hr => first | (go_simp; done) | (go_simp; rfl)); intro w14 hw; have hg : w8.grownBy w14 (some go12) := (by rw [hw]; exact HP13.2); have hp_ : Kd.R k116 116 w14 w.heap.size (fun _ => True) (.slice (some ⟨go12, 0, none⟩) t1184.length co12) y1188 := (by rw [hw, Ny1188.out]; exact HP13.1); clear HP13; have n0_ := am (hp_); have n1_ := am ((by rw [hw]; exact below_set (HB.out) GB12.out : Below w.heap.size w w14)); clear HO1186; clear HB; have HO1186 := n0_; have HB := n1_; clear n0_ n1_; clear hg hw hp_))
 go_ret
 exact ⟨_, rf, by (with_reducible repeat (first | apply Kd.R_alloc | apply Kd.R_drewN | apply Kd.R_drew)); exact HO1186.out, bl⟩

/-! ### impl_Merge: function 34 -/
theorem u34HB {p : Prop} (h : p := by repeat (first | (with_reducible first | exact HB.out | apply below_alloc | apply pw_below_drewN | apply below_drew1 | refine below_set ?_ GE1192.out | refine below_set ?_ GE1193.out | refine below_set ?_ GE1194.out | refine below_set ?_ GE1200.out | refine below_set ?_ GE1202.out) | exact HB.out)) : p := h
def impl_Merge.l0 : Nat → List (S116) → Int → Int → Int → List (S116) → ByteArray → Int → List (S116) → ByteArray → Option (Int × (List (S116)) × ByteArray)
 | 0, _, _, _, _, _, _, _, _, _ => none
 | k + 1, x11, x12, x13, x1193000, x1193001, x1193002, x1201000, x1201001, x1201002 => if x13 < x12 then (if 0 ≤ x13 then (if x13 < (x11.length : Int) then ((impl_Put.f x1201001 ((rd_T116 x11 x13).f0) ((rd_T116 x11 x13).f1)).bind fun t1203 => (impl_Merge.l0 k x11 x12 (wrap64 (x13 + 1)) x1193000 x1193001 x1193002 x1201000 t1203 x1201002)) else (none)) else (none)) else ((impl_RespOk.f k x1201000 x1201001 x1201002).bind fun t1206 => (if t1206 = true then (some (x1201000, x1201001, x1201002)) else ((impl_copyResp.f x1193000 x1193001 x1193002).bind fun bt1207 => (some (bt1207.1, bt1207.2.1, bt1207.2.2)))))
def impl_Merge.f (k : Nat) (a0_0 : Int) (l0_1 : List (S116)) (a0_2 : ByteArray) (a1_0 : Int) (l1_1 : List (S116)) (a1_2 : ByteArray) : Option (Int × (List (S116)) × ByteArray) := (impl_copyResp.f a0_0 l0_1 a0_2).bind fun bt1195 => (impl_Merge.l0 k l1_1 (l1_1.length : Int) 0 a0_0 l0_1 a0_2 bt1195.1 bt1195.2.1 bt1195.2.2)
set_option maxHeartbeats 8000000 in
set_option maxRecDepth 100000 in
theorem impl_Merge.calls (k : Nat) (a0_0 : Int) (A0_1 : Option Addr) (c0_1 : Nat) (l0_1 : List (S116)) (a0_2 : ByteArray) (a1_0 : Int) (A1_1 : Option Addr) (c1_1 : Nat) (l1_1 : List (S116)) (a1_2 : ByteArray) (r1 : Int) (r2 : List (S116)) (r3 : ByteArray) (w : World) (hr0_1 : Kd.C k116 w A0_1 l0_1.length l0_1) (hc0_1 : l0_1.length ≤ c0_1) (hr1_1 : Kd.C k116 w A1_1 l1_1.length l1_1) (hc1_1 : l1_1.length ≤ c1_1) (h : impl_Merge.f k a0_0 l0_1 a0_2 a1_0 l1_1 a1_2 = some (r1, r2, r3)) :
  Calls Tryz.prog 34 #[.agg #[.int .i64 a0_0, .slice A0_1 l0_1.length c0_1, .string a0_2], .agg #[.int .i64 a1_0, .slice A1_1 l1_1.length c1_1, .string a1_2]] w fun e w' => ∃ v1_ : Value, e = .returned (.agg #[.int .i64 r1, v1_, .string r3]) ∧ Kd.R k116 116 w' w.heap.size (fun _ => True) v1_ r2 ∧ Below w.heap.size w w' := by
 have hu29 := Tryz.underlying29
 have hu116 := Tryz.underlying116
 have HR0_1 := am hr0_1
 have HC0_1 := am hc0_1
 clear hr0_1 hc0_1
 have HR1_1 := am hr1_1
 have HC1_1 := am hc1_1
 clear hr1_1 hc1_1
 have HB := am (Below.refl w.heap.size w)
 unfold impl_Merge.f at h
 have H := h
 clear h
 revert H
 refine ok3 fun t1195 t1196 t1199 A3 H => ?_
 (try dsimp only at H)
 have H' := am H
 clear H
 go_enter Tryz.func34, Tryz.ntmps34
 go_wp2_with ((with_reducible refine gw ?_); first | (refine bx 2 #[.int .i64 a0_0, .slice A0_1 l0_1.length c0_1, .string a0_2] 29 ?_; intro gb1192 hg w4 hbox hb; have BK1192 := am (hbox); have GW1192 := am (sz hg : w.heap.size ≤ gb1192); have GE1192 := am (sz hg : w.heap.size ≤ gb1192); replace HB := am (below_step bl hb); clear hb hbox hg) | (refine bx 3 #[.int .i64 a1_0, .slice A1_1 l1_1.length c1_1, .string a1_2] 29 ?_; intro gb1193 hg w5 hbox hb; have BK1193 := am (hbox); have GW1193 := am (sz hg : w.heap.size ≤ gb1193); have GE1193 := am (sz hg : w.heap.size ≤ gb1193); replace HB := am (below_step bl hb); have NB1192_1193 := am (nl hg BK1192 : gb1192 ≠ gb1193); have NB1193_1192 := am (ng hg BK1192 : gb1193 ≠ gb1192); replace BK1192 := kb BK1192 hb; clear hb hbox hg) | (refine bx 4 #[.int .i64 0, .slice none 0 0, .string (⟨#[]⟩ : ByteArray)] 29 ?_; intro gb1194 hg w6 hbox hb; have BK1194 := am (hbox); have GW1194 := am (sz hg : w.heap.size ≤ gb1194); have GE1194 := am (sz hg : w.heap.size ≤ gb1194); replace HB := am (below_step bl hb); have NB1192_1194 := am (nl hg BK1192 : gb1192 ≠ gb1194); have NB1194_1192 := am (ng hg BK1192 : gb1194 ≠ gb1192); replace BK1192 := kb BK1192 hb; have NB1193_1194 := am (nl hg BK1193 : gb1193 ≠ gb1194); have NB1194_1193 := am (ng hg BK1193 : gb1194 ≠ gb1193); replace BK1193 := kb BK1193 hb; clear hb hbox hg; have hnb7 := NB1192_1193.out; have hnc7 := NB1193_1192.out; have hnb8 := NB1192_1194.out; have hnc8 := NB1194_1192.out; obtain ⟨z9_0, y9_0, z9_1, y9_1, z9_2, y9_2⟩ := cl3 BK1192) | (refine gl 9 Tryz.func97 #[.agg #[.int .i64 a0_0, .slice A0_1 l0_1.length c0_1, .string a0_2]] ?_; (with_reducible refine (impl_copyResp.calls a0_0 _ _ l0_1 a0_2 t1195 t1196 t1199 _ ?side1 ?side2 A3.out).mono ?_); (case side1 => exact cb HR0_1); (case side2 => exact HC0_1.out); rintro e w10 ⟨v1197, rfl, ho0, hb⟩; refine ⟨_, rfl, ?_⟩; have HO1198 := am (Kd.R_lower ho0 (below_size bl)); replace BK1192 := kb BK1192 hb; replace BK1193 := kb BK1193 hb; replace BK1194 := kb BK1194 hb; replace HB := am (below_step bl hb); clear hb ho0) | (refine bx 5 #[.int .i64 0, .slice none 0 0, .string (⟨#[]⟩ : ByteArray)] 29 ?_; intro gb1200 hg w11 hbox hb; replace HO1198 := am (Kd.R_below (ro HO1198) hb); have BK1200 := am (hbox); have GW1200 := am (sz hg : w.heap.size ≤ gb1200); have GE1200 := am (sz hg : w.heap.size ≤ gb1200); replace HB := am (below_step bl hb); have NB1192_1200 := am (nl hg BK1192 : gb1192 ≠ gb1200); have NB1200_1192 := am (ng hg BK1192 : gb1200 ≠ gb1192); replace BK1192 := kb BK1192 hb; have NB1193_1200 := am (nl hg BK1193 : gb1193 ≠ gb1200); have NB1200_1193 := am (ng hg BK1193 : gb1200 ≠ gb1193); replace BK1193 := kb BK1193 hb; have NB1194_1200 := am (nl hg BK1194 : gb1194 ≠ gb1200); have NB1200_1194 := am (ng hg BK1194 : gb1200 ≠ gb1194); replace BK1194 := kb BK1194 hb; clear hb hbox hg; have hnb12 := NB1200_1192.out; have hnc12 := NB1192_1200.out; have hnb13 := NB1200_1193.out; have hnc13 := NB1193_1200.out; have hnb14 := NB1200_1194.out; have hnc14 := NB1194_1200.out; obtain ⟨z15_0, y15_0, z15_1, y15_1, z15_2, y15_2⟩ := cl3 BK1200; obtain ⟨Ao16, co16, eo16⟩ := Kd.R_slice HO1198.out; subst eo16; have hnb17 := NB1193_1194.out; have hnc17 := NB1194_1193.out; obtain ⟨z18_0, y18_0, z18_1, y18_1, z18_2, y18_2⟩ := cl3 BK1193))
 (try simp only [Act.put, List.setIfInBounds_toArray, List.set_cons_zero, List.set_cons_succ])
 go_loopg [13] k (fun kq v13 w' => ∃ (x13_1 : Int) (x1201001_1 : List (S116)) (u1201001 : Value), v13 = .int .i64 x13_1 ∧ Aside0 (impl_Merge.l0 kq l1_1 (l1_1.length : Int) x13_1 a0_0 l0_1 a0_2 t1195 x1201001_1 t1199 = some (r1, r2, r3)) ∧ Aside0 (kq ≤ k) ∧ Aside0 (Kd.R k116 116 w' w.heap.size (fun _ => True) u1201001 x1201001_1) ∧ Aside0 (w'.heap[gb1192]? = some (.cells #[.int .i64 a0_0, (.slice A0_1 l0_1.length c0_1), .string a0_2] 29 (0, 0))) ∧ Aside0 (w'.heap[gb1193]? = some (.cells #[.int .i64 a1_0, (.slice A1_1 l1_1.length c1_1), .string a1_2] 29 (0, 0))) ∧ Aside0 (w'.heap[gb1194]? = some (.cells #[.int .i64 0, (.slice none 0 0), .string (⟨#[]⟩ : ByteArray)] 29 (0, 0))) ∧ Aside0 (w'.heap[gb1200]? = some (.cells #[.int .i64 t1195, u1201001, .string t1199] 29 (0, 0))) ∧ Aside0 (Below w.heap.size w w'))
 case atStart => exact ⟨(0), (t1196), (.slice Ao16 t1196.length co16), rs, H', ⟨Nat.le_refl _⟩, ⟨rj (Kd.R_types HO1198.out BK1200.out (by decide)) (fun _ hk => trivial)⟩, ⟨by (with_reducible repeat (first | refine blk_drewN ?_ _ | refine blk_drew ?_ | refine blk_alloc ?_ _)); refine blk_far ?_ NB1192_1200.out _; (with_reducible repeat (first | refine blk_drewN ?_ _ | refine blk_drew ?_ | refine blk_alloc ?_ _)); refine blk_far ?_ NB1192_1200.out _; (with_reducible repeat (first | refine blk_drewN ?_ _ | refine blk_drew ?_ | refine blk_alloc ?_ _)); refine blk_far ?_ NB1192_1200.out _; (with_reducible repeat (first | refine blk_drewN ?_ _ | refine blk_drew ?_ | refine blk_alloc ?_ _)); exact BK1192.out⟩, ⟨by (with_reducible repeat (first | refine blk_drewN ?_ _ | refine blk_drew ?_ | refine blk_alloc ?_ _)); refine blk_far ?_ NB1193_1200.out _; (with_reducible repeat (first | refine blk_drewN ?_ _ | refine blk_drew ?_ | refine blk_alloc ?_ _)); refine blk_far ?_ NB1193_1200.out _; (with_reducible repeat (first | refine blk_drewN ?_ _ | refine blk_drew ?_ | refine blk_alloc ?_ _)); refine blk_far ?_ NB1193_1200.out _; (with_reducible repeat (first | refine blk_drewN ?_ _ | refine blk_drew ?_ | refine blk_alloc ?_ _)); exact BK1193.out⟩, ⟨by (with_reducible repeat (first | refine blk_drewN ?_ _ | refine blk_drew ?_ | refine blk_alloc ?_ _)); refine blk_far ?_ NB1194_1200.out _; (with_reducible repeat (first | refine blk_drewN ?_ _ | refine blk_drew ?_ | refine blk_alloc ?_ _)); refine blk_far ?_ NB1194_1200.out _; (with_reducible repeat (first | refine blk_drewN ?_ _ | refine blk_drew ?_ | refine blk_alloc ?_ _)); refine blk_far ?_ NB1194_1200.out _; (with_reducible repeat (first | refine blk_drewN ?_ _ | refine blk_drew ?_ | refine blk_alloc ?_ _)); exact BK1194.out⟩, ⟨pt0 BK1200⟩, ⟨u34HB⟩⟩
 case round =>
  clear H'
  try clear c1
  try clear p2
  try clear c3
  try clear c7
  try clear c8
  try clear c9
  try clear c12
  try clear c13
  try clear c14
  try clear c17
  try clear z15_0
  try clear z15_1
  try clear z15_2
  try clear z18_0
  try clear z18_1
  try clear z18_2
  try clear z9_0
  try clear z9_1
  try clear z9_2
  try clear y15_0
  try clear y15_1
  try clear y15_2
  try clear y18_0
  try clear y18_1
  try clear y18_2
  try clear y9_0
  try clear y9_1
  try clear y9_2
  obtain ⟨x13_1, x1201001_1, u1201001, rfl, HA, HK1, HO_1201001, BK1192, BK1193, BK1194, BK1200, HB⟩ := hrel
  cases gk with
  | zero => exact absurd HA.out (by simp [impl_Merge.l0])
  | succ k1 =>
   have H := HA.out
   clear HA
   simp only [impl_Merge.l0] at H
   by_cases c19 : x13_1 < (l1_1.length : Int)
   rotate_left
   ·rw [if_neg c19] at H
    have c19b0 := decide_eq_false c19
    clear c19
    revert H
    refine ok1 fun t1206 A37 H => ?_
    by_cases c38 : t1206 = true
    ·subst c38
     rw [if_pos rfl] at H
     simp only [Option.some.injEq, Prod.mk.injEq] at H
     obtain ⟨rfl, rfl, rfl⟩ := H
     have hnb39 := NB1200_1192.out
     have hnc39 := NB1192_1200.out
     have hnb40 := NB1200_1193.out
     have hnc40 := NB1193_1200.out
     have hnb41 := NB1200_1194.out
     have hnc41 := NB1194_1200.out
     obtain ⟨z42_0, y42_0, z42_1, y42_1, z42_2, y42_2⟩ := cl3 BK1200
     obtain ⟨Ao43, co43, eo43⟩ := Kd.R_slice HO_1201001.out
     subst eo43
     go_wp2_with ((with_reducible refine gw ?_); first | (refine gl 27 Tryz.func32 #[.agg #[.int .i64 t1195, .slice Ao43 x1201001_1.length co43, .string t1199]] ?_; (with_reducible refine (impl_RespOk.calls k1 t1195 _ _ x1201001_1 t1199 true _ ?side1 ?side2 A37.out).mono ?_); (case side1 => exact rc HO_1201001); (case side2 => exact (Kd.R_reads' HO_1201001.out).2.1); rintro e w44 ⟨rfl, hb⟩; refine ⟨_, rfl, ?_⟩; replace HO_1201001 := kr HO_1201001 hb; replace BK1192 := kb BK1192 hb; replace BK1193 := kb BK1193 hb; replace BK1194 := kb BK1194 hb; replace BK1200 := kb BK1200 hb; replace HB := am (below_step bl hb); clear hb; obtain ⟨z45_0, y45_0, z45_1, y45_1, z45_2, y45_2⟩ := cl3 BK1200; have hnb46 := NB1194_1192.out; have hnc46 := NB1192_1194.out; have hnb47 := NB1194_1193.out; have hnc47 := NB1193_1194.out; obtain ⟨z48_0, y48_0, z48_1, y48_1, z48_2, y48_2⟩ := cl3 BK1194))
     refine bodyPost_ret (results_cell_row rfl _ _ gb1194 29 #[.int .i64 t1195, .slice Ao43 x1201001_1.length co43, .string t1199] (0, 0) _ rfl (pt0 BK1194) Tryz.underlying29 rfl (by kernel_rfl)) rfl ?_
     exact ⟨_, rf, rj (Kd.R_types HO_1201001.out BK1194.out (by decide)) (fun _ hk => trivial), bl⟩
    replace c38 := Bool.eq_false_iff.mpr c38
    subst c38
    rw [if_neg (show ¬ (false = true) by decide)] at H
    revert H
    refine ok3 fun t1207 t1208 t1211 A49 H => ?_
    (try dsimp only at H)
    simp only [Option.some.injEq, Prod.mk.injEq] at H
    obtain ⟨rfl, rfl, rfl⟩ := H
    have hnb50 := NB1200_1192.out
    have hnc50 := NB1192_1200.out
    have hnb51 := NB1200_1193.out
    have hnc51 := NB1193_1200.out
    have hnb52 := NB1200_1194.out
    have hnc52 := NB1194_1200.out
    obtain ⟨z53_0, y53_0, z53_1, y53_1, z53_2, y53_2⟩ := cl3 BK1200
    obtain ⟨Ao54, co54, eo54⟩ := Kd.R_slice HO_1201001.out
    subst eo54
    go_wp2_with ((with_reducible refine gw ?_); first | (refine gl 27 Tryz.func32 #[.agg #[.int .i64 t1195, .slice Ao54 x1201001_1.length co54, .string t1199]] ?_; (with_reducible refine (impl_RespOk.calls k1 t1195 _ _ x1201001_1 t1199 false _ ?side1 ?side2 A37.out).mono ?_); (case side1 => exact rc HO_1201001); (case side2 => exact (Kd.R_reads' HO_1201001.out).2.1); rintro e w55 ⟨rfl, hb⟩; refine ⟨_, rfl, ?_⟩; replace HO_1201001 := kr HO_1201001 hb; replace BK1192 := kb BK1192 hb; replace BK1193 := kb BK1193 hb; replace BK1194 := kb BK1194 hb; replace BK1200 := kb BK1200 hb; replace HB := am (below_step bl hb); clear hb; have hnb56 := NB1192_1193.out; have hnc56 := NB1193_1192.out; have hnb57 := NB1192_1194.out; have hnc57 := NB1194_1192.out; obtain ⟨z58_0, y58_0, z58_1, y58_1, z58_2, y58_2⟩ := cl3 BK1192) | (refine gl 30 Tryz.func97 #[.agg #[.int .i64 a0_0, .slice A0_1 l0_1.length c0_1, .string a0_2]] ?_; (with_reducible refine (impl_copyResp.calls a0_0 _ _ l0_1 a0_2 t1207 t1208 t1211 _ ?side1 ?side2 A49.out).mono ?_); (case side1 => exact cb HR0_1); (case side2 => exact HC0_1.out); rintro e w59 ⟨v1209, rfl, ho0, hb⟩; refine ⟨_, rfl, ?_⟩; have HO1210 := am (Kd.R_lower (Kd.R_new' ho0 (Kd.R_lt (ro HO_1201001))) (below_size bl)); replace HO_1201001 := am (Kd.R_elder' (ro HO_1201001) (Kd.R_base ho0) hb); replace BK1192 := kb BK1192 hb; replace BK1193 := kb BK1193 hb; replace BK1194 := kb BK1194 hb; replace BK1200 := kb BK1200 hb; replace HB := am (below_step bl hb); clear hb ho0; have hnb60 := NB1194_1193.out; have hnc60 := NB1193_1194.out; obtain ⟨z61_0, y61_0, z61_1, y61_1, z61_2, y61_2⟩ := cl3 BK1194; obtain ⟨Ao62, co62, eo62⟩ := Kd.R_slice HO1210.out; subst eo62))
    refine bodyPost_ret (results_cell_row rfl _ _ gb1194 29 #[.int .i64 t1207, .slice Ao62 t1208.length co62, .string t1211] (0, 0) _ rfl (pt0 BK1194) Tryz.underlying29 rfl (by kernel_rfl)) rfl ?_
    exact ⟨_, rf, rj (Kd.R_types HO1210.out BK1194.out (by decide)) (fun _ hk => trivial), bl⟩
   rw [if_pos c19] at H
   have c19b0 := decide_eq_true c19
   clear c19
   revert H
   refine ifn fun c20 H => ?_
   have c20b0 := decide_eq_true c20
   clear c20
   revert H
   refine ifn fun c21 H => ?_
   have c21b0 := decide_eq_true c21
   clear c21
   revert H
   refine ok1 fun t1203 A22 H => ?_
   have H' := am H
   clear H
   have p1201 : 0 ≤ (x13_1 : Int) := od
   have q1201 : x13_1 < (l1_1.length : Int) := od
   obtain ⟨ad1201, e1201, hx1201_0, hx1201_1⟩ := at_T116 HR1_1.out x13_1 p1201 q1201
   cases e1201
   replace hx1201_0 := hcw hx1201_0
   replace hx1201_1 := hcw hx1201_1
   replace p1201 := eq_true p1201
   replace q1201 := eq_true q1201
   go_wp2_with ((with_reducible refine gw ?_); first | (refine bx 7 #[.string (⟨#[]⟩ : ByteArray), .string (⟨#[]⟩ : ByteArray)] 116 ?_; intro gb1202 hg w23 hbox hb; replace HO_1201001 := am (Kd.R_below (Kd.R_elderB (ro HO_1201001) gb1202 (Nat.le_of_eq hg.symm)) hb); have BK1202 := am (hbox); have GW1202 := am (sz hg : w.heap.size ≤ gb1202); have GE1202 := am (sz hg : w.heap.size ≤ gb1202); replace HB := am (below_step bl hb); have NB1192_1202 := am (nl hg BK1192 : gb1192 ≠ gb1202); have NB1202_1192 := am (ng hg BK1192 : gb1202 ≠ gb1192); replace BK1192 := kb BK1192 hb; have NB1193_1202 := am (nl hg BK1193 : gb1193 ≠ gb1202); have NB1202_1193 := am (ng hg BK1193 : gb1202 ≠ gb1193); replace BK1193 := kb BK1193 hb; have NB1194_1202 := am (nl hg BK1194 : gb1194 ≠ gb1202); have NB1202_1194 := am (ng hg BK1194 : gb1202 ≠ gb1194); replace BK1194 := kb BK1194 hb; have NB1200_1202 := am (nl hg BK1200 : gb1200 ≠ gb1202); have NB1202_1200 := am (ng hg BK1200 : gb1202 ≠ gb1200); replace BK1200 := kb BK1200 hb; clear hb hbox hg; have hnb24 := NB1202_1192.out; have hnc24 := NB1192_1202.out; have hnb25 := NB1202_1193.out; have hnc25 := NB1193_1202.out; have hnb26 := NB1202_1194.out; have hnc26 := NB1194_1202.out; have hnb27 := NB1202_1200.out; have hnc27 := NB1200_1202.out; obtain ⟨z28_0, y28_0, z28_1, y28_1⟩ := cl2 BK1202; have hnb29 := NB1200_1192.out; have hnc29 := NB1192_1200.out; have hnb30 := NB1200_1193.out; have hnc30 := NB1193_1200.out; have hnb31 := NB1200_1194.out; have hnc31 := NB1194_1200.out; obtain ⟨z32_0, y32_0, z32_1, y32_1, z32_2, y32_2⟩ := cl3 BK1200; obtain ⟨Ao33, co33, eo33⟩ := Kd.R_slice HO_1201001.out; subst eo33) | (refine gl 23 Tryz.func98 #[.slice Ao33 x1201001_1.length co33, .string ((rd_T116 l1_1 x13_1).f0), .string ((rd_T116 l1_1 x13_1).f1)] ?_; (with_reducible refine (impl_Put.calls _ _ x1201001_1 ((rd_T116 l1_1 x13_1).f0) ((rd_T116 l1_1 x13_1).f1) t1203 _ ?side1 ?side2 A22.out).mono ?_); (case side1 => refine (Kd.R_reads' (e := 116) (base := w.heap.size) (ok := fun k_ => (True ∧ k_ ≠ gb1202)) (n := x1201001_1.length) (c := co33) ?_).2.2; exact (by (with_reducible repeat (first | apply Kd.R_alloc | apply Kd.R_drewN | apply Kd.R_drew)); exact (Kd.R_mono (Kd.R_far (p := ⟨gb1202, 1, none⟩) (Kd.R_far (p := ⟨gb1202, 0, none⟩) (Kd.R_mono HO_1201001.out (fun k_ hk => (⟨hk, hk.2⟩ : _ ∧ k_ ≠ gb1202))) (fun _ hk => hk.2) (.string ((rd_T116 l1_1 x13_1).f0))) (fun _ hk => hk.2) (.string ((rd_T116 l1_1 x13_1).f1))) (fun _ h_ => h_.1)))); (case side2 => exact (Kd.R_reads' HO_1201001.out).2.1); rintro e w34 ⟨v1204, rfl, ho0, hb⟩; refine ⟨_, rfl, ?_⟩; have n0_ := am (Kd.R_elder' (by (with_reducible repeat (first | apply Kd.R_alloc | apply Kd.R_drewN | apply Kd.R_drew)); exact (Kd.R_mono (Kd.R_far (p := ⟨gb1202, 1, none⟩) (Kd.R_far (p := ⟨gb1202, 0, none⟩) (Kd.R_mono HO_1201001.out (fun k_ hk => (⟨hk, hk.2⟩ : _ ∧ k_ ≠ gb1202))) (fun _ hk => hk.2) (.string ((rd_T116 l1_1 x13_1).f0))) (fun _ hk => hk.2) (.string ((rd_T116 l1_1 x13_1).f1))) (fun _ h_ => h_.1))) (Kd.R_base ho0) hb); have n1_ := am (Kd.R_lower (Kd.R_newB (Kd.R_new' ho0 (Kd.R_lt (by (with_reducible repeat (first | apply Kd.R_alloc | apply Kd.R_drewN | apply Kd.R_drew)); exact (Kd.R_mono (Kd.R_far (p := ⟨gb1202, 1, none⟩) (Kd.R_far (p := ⟨gb1202, 0, none⟩) (Kd.R_mono HO_1201001.out (fun k_ hk => (⟨hk, hk.2⟩ : _ ∧ k_ ≠ gb1202))) (fun _ hk => hk.2) (.string ((rd_T116 l1_1 x13_1).f0))) (fun _ hk => hk.2) (.string ((rd_T116 l1_1 x13_1).f1))) (fun _ h_ => h_.1))))) (g := gb1202) (o := .cells #[.string ((rd_T116 l1_1 x13_1).f0), .string ((rd_T116 l1_1 x13_1).f1)] 116 (0, 0)) (pt0 BK1202)) (below_size bl)); have n2_ := kg1 BK1192 NB1192_1202 hb; have n3_ := kg1 BK1193 NB1193_1202 hb; have n4_ := kg1 BK1194 NB1194_1202 hb; have n5_ := kg1 BK1200 NB1200_1202 hb; have n6_ := am (blk_below (g := gb1202) (o := .cells #[.string ((rd_T116 l1_1 x13_1).f0), .string ((rd_T116 l1_1 x13_1).f1)] 116 (0, 0)) (pt0 BK1202) hb); have n7_ := am (below_step bl hb); clear HO_1201001; clear BK1192; clear BK1193; clear BK1194; clear BK1200; clear BK1202; clear HB; have HO_1201001 := n0_; have HO1205 := n1_; have BK1192 := n2_; have BK1193 := n3_; have BK1194 := n4_; have BK1200 := n5_; have BK1202 := n6_; have HB := n7_; clear n0_ n1_ n2_ n3_ n4_ n5_ n6_ n7_; clear hb ho0; obtain ⟨Ao35, co35, eo35⟩ := Kd.R_slice HO1205.out; subst eo35; obtain ⟨z36_0, y36_0, z36_1, y36_1, z36_2, y36_2⟩ := cl3 BK1200))
   go_roundg k1
   case measure => have := HK1.out; omega
   case rel => exact ⟨(wrap64 (x13_1 + 1)), (t1203), (.slice Ao35 t1203.length co35), rs, H', ⟨by have := HK1.out; omega⟩, ⟨rj (Kd.R_types HO1205.out BK1200.out (by decide)) (fun _ hk => trivial)⟩, ⟨by (with_reducible repeat (first | refine blk_drewN ?_ _ | refine blk_drew ?_ | refine blk_alloc ?_ _)); refine blk_far ?_ NB1192_1200.out _; (with_reducible repeat (first | refine blk_drewN ?_ _ | refine blk_drew ?_ | refine blk_alloc ?_ _)); exact BK1192.out⟩, ⟨by (with_reducible repeat (first | refine blk_drewN ?_ _ | refine blk_drew ?_ | refine blk_alloc ?_ _)); refine blk_far ?_ NB1193_1200.out _; (with_reducible repeat (first | refine blk_drewN ?_ _ | refine blk_drew ?_ | refine blk_alloc ?_ _)); exact BK1193.out⟩, ⟨by (with_reducible repeat (first | refine blk_drewN ?_ _ | refine blk_drew ?_ | refine blk_alloc ?_ _)); refine blk_far ?_ NB1194_1200.out _; (with_reducible repeat (first | refine blk_drewN ?_ _ | refine blk_drew ?_ | refine blk_alloc ?_ _)); exact BK1194.out⟩, ⟨pt0 BK1200⟩, ⟨u34HB⟩⟩

/-! ### spec_Merge: function 36 -/
theorem u36HB {p : Prop} (h : p := by repeat (first | (with_reducible first | exact HB.out | apply below_alloc | apply pw_below_drewN | apply below_drew1 | refine below_set ?_ GE1218.out | refine below_set ?_ GE1219.out | refine below_set ?_ GE1220.out | refine below_set ?_ GE1226.out) | exact HB.out)) : p := h
def spec_Merge.l0 : Nat → Int → Int → List (S116) → ByteArray → Int → List (S116) → ByteArray → Int → List (S116) → ByteArray → Option (Int × (List (S116)) × ByteArray)
 | 0, _, _, _, _, _, _, _, _, _, _ => none
 | k + 1, x6, x1219000, x1219001, x1219002, x1220000, x1220001, x1220002, x1227000, x1227001, x1227002 => if x6 < (x1220001.length : Int) then (if 0 ≤ x6 then ((spec_Put.f k x1227001 ((rd_T116 x1220001 x6).f0) ((rd_T116 x1220001 x6).f1)).bind fun t1229 => (spec_Merge.l0 k (wrap64 (x6 + 1)) x1219000 x1219001 x1219002 x1220000 x1220001 x1220002 x1227000 t1229 x1227002)) else (none)) else ((spec_RespOk.f k x1227000 x1227001 x1227002).bind fun t1232 => (if t1232 = true then (some (x1227000, x1227001, x1227002)) else ((spec_l9Resp.f x1219000 x1219001 x1219002).bind fun bt1233 => (some (bt1233.1, bt1233.2.1, bt1233.2.2)))))
def spec_Merge.f (k : Nat) (a0_0 : Int) (l0_1 : List (S116)) (a0_2 : ByteArray) (a1_0 : Int) (l1_1 : List (S116)) (a1_2 : ByteArray) : Option (Int × (List (S116)) × ByteArray) := (spec_l9Resp.f a0_0 l0_1 a0_2).bind fun bt1221 => (spec_Merge.l0 k 0 a0_0 l0_1 a0_2 a1_0 l1_1 a1_2 bt1221.1 bt1221.2.1 bt1221.2.2)
def spec_Merge.T5 : Bool × List (List Nat × List Nat) := (true, [([], []), ([0], [0]), ([], []), ([2], [2]), ([], []), ([3, 4], [3, 4]), ([5], [5]), ([6], [6]), ([], []), ([8], [8]), ([], []), ([9, 10], [9, 10]), ([11], [11]), ([12], [12]), ([1, 7, 13], [1, 7, 13]), ([0, 1, 2, 3, 4, 5, 6, 7, 8, 9, 10, 11, 12, 13, 14], []), ([15, 14, 14, 0, 1, 2, 3, 4, 5, 6, 7, 8, 9, 10, 11, 12, 13, 14], [14, 15])])
def spec_Merge.B5 : List Nat := [0, 1, 0, 4, 0, 28, 60, 124, 0, 256, 0, 1792, 3840, 7936, 16383, 32767, 65535]
theorem spec_Merge.tab5 : rtab .any (opsOf Tryz.f36 5) = spec_Merge.T5 := by kernel_rfl
theorem spec_Merge.bits5 : waitsOk spec_Merge.T5.2 spec_Merge.B5 = true := by kernel_rfl
set_option maxHeartbeats 8000000 in
set_option maxRecDepth 100000 in
theorem spec_Merge.calls (k : Nat) (a0_0 : Int) (A0_1 : Option Addr) (c0_1 : Nat) (l0_1 : List (S116)) (a0_2 : ByteArray) (a1_0 : Int) (A1_1 : Option Addr) (c1_1 : Nat) (l1_1 : List (S116)) (a1_2 : ByteArray) (r1 : Int) (r2 : List (S116)) (r3 : ByteArray) (w : World) (hr0_1 : Kd.C k116 w A0_1 l0_1.length l0_1) (hc0_1 : l0_1.length ≤ c0_1) (hr1_1 : Kd.C k116 w A1_1 l1_1.length l1_1) (hc1_1 : l1_1.length ≤ c1_1) (h : spec_Merge.f k a0_0 l0_1 a0_2 a1_0 l1_1 a1_2 = some (r1, r2, r3)) :
  Calls Tryz.prog 36 #[.agg #[.int .i64 a0_0, .slice A0_1 l0_1.length c0_1, .string a0_2], .agg #[.int .i64 a1_0, .slice A1_1 l1_1.length c1_1, .string a1_2]] w fun e w' => ∃ v1_ : Value, e = .returned (.agg #[.int .i64 r1, v1_, .string r3]) ∧ Kd.R k116 116 w' w.heap.size (fun _ => True) v1_ r2 ∧ Below w.heap.size w w' := by
 have hu29 := Tryz.underlying29
 have HR0_1 := am hr0_1
 have HC0_1 := am hc0_1
 clear hr0_1 hc0_1
 have HR1_1 := am hr1_1
 have HC1_1 := am hc1_1
 clear hr1_1 hc1_1
 have HB := am (Below.refl w.heap.size w)
 unfold spec_Merge.f at h
 have H := h
 clear h
 revert H
 refine ok3 fun t1221 t1222 t1225 A3 H => ?_
 (try dsimp only at H)
 have H' := am H
 clear H
 go_enter Tryz.func36, Tryz.ntmps36
 go_wp2_with ((with_reducible refine gw ?_); first | (refine bx 2 #[.int .i64 a0_0, .slice A0_1 l0_1.length c0_1, .string a0_2] 29 ?_; intro gb1218 hg w4 hbox hb; have BK1218 := am (hbox); have GW1218 := am (sz hg : w.heap.size ≤ gb1218); have GE1218 := am (sz hg : w.heap.size ≤ gb1218); replace HB := am (below_step bl hb); clear hb hbox hg) | (refine bx 3 #[.int .i64 a1_0, .slice A1_1 l1_1.length c1_1, .string a1_2] 29 ?_; intro gb1219 hg w5 hbox hb; have BK1219 := am (hbox); have GW1219 := am (sz hg : w.heap.size ≤ gb1219); have GE1219 := am (sz hg : w.heap.size ≤ gb1219); replace HB := am (below_step bl hb); have NB1218_1219 := am (nl hg BK1218 : gb1218 ≠ gb1219); have NB1219_1218 := am (ng hg BK1218 : gb1219 ≠ gb1218); replace BK1218 := kb BK1218 hb; clear hb hbox hg) | (refine bx 4 #[.int .i64 0, .slice none 0 0, .string (⟨#[]⟩ : ByteArray)] 29 ?_; intro gb1220 hg w6 hbox hb; have BK1220 := am (hbox); have GW1220 := am (sz hg : w.heap.size ≤ gb1220); have GE1220 := am (sz hg : w.heap.size ≤ gb1220); replace HB := am (below_step bl hb); have NB1218_1220 := am (nl hg BK1218 : gb1218 ≠ gb1220); have NB1220_1218 := am (ng hg BK1218 : gb1220 ≠ gb1218); replace BK1218 := kb BK1218 hb; have NB1219_1220 := am (nl hg BK1219 : gb1219 ≠ gb1220); have NB1220_1219 := am (ng hg BK1219 : gb1220 ≠ gb1219); replace BK1219 := kb BK1219 hb; clear hb hbox hg; have hnb7 := NB1218_1219.out; have hnc7 := NB1219_1218.out; have hnb8 := NB1218_1220.out; have hnc8 := NB1220_1218.out; obtain ⟨z9_0, y9_0, z9_1, y9_1, z9_2, y9_2⟩ := cl3 BK1218) | (refine gl 8 Tryz.func102 #[.agg #[.int .i64 a0_0, .slice A0_1 l0_1.length c0_1, .string a0_2]] ?_; (with_reducible refine (spec_l9Resp.calls a0_0 _ _ l0_1 a0_2 t1221 t1222 t1225 _ ?side1 ?side2 A3.out).mono ?_); (case side1 => exact cb HR0_1); (case side2 => exact HC0_1.out); rintro e w10 ⟨v1223, rfl, ho0, hb⟩; refine ⟨_, rfl, ?_⟩; have HO1224 := am (Kd.R_lower ho0 (below_size bl)); replace BK1218 := kb BK1218 hb; replace BK1219 := kb BK1219 hb; replace BK1220 := kb BK1220 hb; replace HB := am (below_step bl hb); clear hb ho0) | (refine bx 5 #[.int .i64 0, .slice none 0 0, .string (⟨#[]⟩ : ByteArray)] 29 ?_; intro gb1226 hg w11 hbox hb; replace HO1224 := am (Kd.R_below (ro HO1224) hb); have BK1226 := am (hbox); have GW1226 := am (sz hg : w.heap.size ≤ gb1226); have GE1226 := am (sz hg : w.heap.size ≤ gb1226); replace HB := am (below_step bl hb); have NB1218_1226 := am (nl hg BK1218 : gb1218 ≠ gb1226); have NB1226_1218 := am (ng hg BK1218 : gb1226 ≠ gb1218); replace BK1218 := kb BK1218 hb; have NB1219_1226 := am (nl hg BK1219 : gb1219 ≠ gb1226); have NB1226_1219 := am (ng hg BK1219 : gb1226 ≠ gb1219); replace BK1219 := kb BK1219 hb; have NB1220_1226 := am (nl hg BK1220 : gb1220 ≠ gb1226); have NB1226_1220 := am (ng hg BK1220 : gb1226 ≠ gb1220); replace BK1220 := kb BK1220 hb; clear hb hbox hg; have hnb12 := NB1226_1218.out; have hnc12 := NB1218_1226.out; have hnb13 := NB1226_1219.out; have hnc13 := NB1219_1226.out; have hnb14 := NB1226_1220.out; have hnc14 := NB1220_1226.out; obtain ⟨z15_0, y15_0, z15_1, y15_1, z15_2, y15_2⟩ := cl3 BK1226; obtain ⟨Ao16, co16, eo16⟩ := Kd.R_slice HO1224.out; subst eo16))
 (try simp only [Act.put, List.setIfInBounds_toArray, List.set_cons_zero, List.set_cons_succ])
 go_loopg [6] k (fun kq v6 w' => ∃ (x6_1 : Int) (x1227001_1 : List (S116)) (u1227001 : Value), v6 = .int .i64 x6_1 ∧ Aside0 (spec_Merge.l0 kq x6_1 a0_0 l0_1 a0_2 a1_0 l1_1 a1_2 t1221 x1227001_1 t1225 = some (r1, r2, r3)) ∧ Aside0 (kq ≤ k) ∧ Aside0 (Kd.R k116 116 w' w.heap.size (fun _ => True) u1227001 x1227001_1) ∧ Aside0 (w'.heap[gb1218]? = some (.cells #[.int .i64 a0_0, (.slice A0_1 l0_1.length c0_1), .string a0_2] 29 (0, 0))) ∧ Aside0 (w'.heap[gb1219]? = some (.cells #[.int .i64 a1_0, (.slice A1_1 l1_1.length c1_1), .string a1_2] 29 (0, 0))) ∧ Aside0 (w'.heap[gb1220]? = some (.cells #[.int .i64 0, (.slice none 0 0), .string (⟨#[]⟩ : ByteArray)] 29 (0, 0))) ∧ Aside0 (w'.heap[gb1226]? = some (.cells #[.int .i64 t1221, u1227001, .string t1225] 29 (0, 0))) ∧ Aside0 (Below w.heap.size w w'))
 case atStart => exact ⟨(0), (t1222), (.slice Ao16 t1222.length co16), rs, H', ⟨Nat.le_refl _⟩, ⟨rj (Kd.R_types HO1224.out BK1226.out (by decide)) (fun _ hk => trivial)⟩, ⟨by (with_reducible repeat (first | refine blk_drewN ?_ _ | refine blk_drew ?_ | refine blk_alloc ?_ _)); refine blk_far ?_ NB1218_1226.out _; (with_reducible repeat (first | refine blk_drewN ?_ _ | refine blk_drew ?_ | refine blk_alloc ?_ _)); refine blk_far ?_ NB1218_1226.out _; (with_reducible repeat (first | refine blk_drewN ?_ _ | refine blk_drew ?_ | refine blk_alloc ?_ _)); refine blk_far ?_ NB1218_1226.out _; (with_reducible repeat (first | refine blk_drewN ?_ _ | refine blk_drew ?_ | refine blk_alloc ?_ _)); exact BK1218.out⟩, ⟨by (with_reducible repeat (first | refine blk_drewN ?_ _ | refine blk_drew ?_ | refine blk_alloc ?_ _)); refine blk_far ?_ NB1219_1226.out _; (with_reducible repeat (first | refine blk_drewN ?_ _ | refine blk_drew ?_ | refine blk_alloc ?_ _)); refine blk_far ?_ NB1219_1226.out _; (with_reducible repeat (first | refine blk_drewN ?_ _ | refine blk_drew ?_ | refine blk_alloc ?_ _)); refine blk_far ?_ NB1219_1226.out _; (with_reducible repeat (first | refine blk_drewN ?_ _ | refine blk_drew ?_ | refine blk_alloc ?_ _)); exact BK1219.out⟩, ⟨by (with_reducible repeat (first | refine blk_drewN ?_ _ | refine blk_drew ?_ | refine blk_alloc ?_ _)); refine blk_far ?_ NB1220_1226.out _; (with_reducible repeat (first | refine blk_drewN ?_ _ | refine blk_drew ?_ | refine blk_alloc ?_ _)); refine blk_far ?_ NB1220_1226.out _; (with_reducible repeat (first | refine blk_drewN ?_ _ | refine blk_drew ?_ | refine blk_alloc ?_ _)); refine blk_far ?_ NB1220_1226.out _; (with_reducible repeat (first | refine blk_drewN ?_ _ | refine blk_drew ?_ | refine blk_alloc ?_ _)); exact BK1220.out⟩, ⟨pt0 BK1226⟩, ⟨u36HB⟩⟩
 case round =>
  clear H'
  try clear c1
  try clear p2
  try clear c3
  try clear c7
  try clear c8
  try clear c10
  try clear c12
  try clear c13
  try clear c14
  try clear z15_0
  try clear z15_1
  try clear z15_2
  try clear z9_0
  try clear z9_1
  try clear z9_2
  try clear y15_0
  try clear y15_1
  try clear y15_2
  try clear y9_0
  try clear y9_1
  try clear y9_2
  obtain ⟨x6_1, x1227001_1, u1227001, rfl, HA, HK1, HO_1227001, BK1218, BK1219, BK1220, BK1226, HB⟩ := hrel
  cases gk with
  | zero => exact absurd HA.out (by simp [spec_Merge.l0])
  | succ k1 =>
   have H := HA.out
   clear HA
   simp only [spec_Merge.l0] at H
   by_cases c17 : x6_1 < (l1_1.length : Int)
   rotate_left
   ·rw [if_neg c17] at H
    have c17b0 := decide_eq_false c17
    clear c17
    revert H
    refine ok1 fun t1232 A29 H => ?_
    by_cases c30 : t1232 = true
    ·subst c30
     rw [if_pos rfl] at H
     simp only [Option.some.injEq, Prod.mk.injEq] at H
     obtain ⟨rfl, rfl, rfl⟩ := H
     have hnb31 := NB1219_1218.out
     have hnc31 := NB1218_1219.out
     have hnb32 := NB1219_1220.out
     have hnc32 := NB1220_1219.out
     have hnb33 := NB1219_1226.out
     have hnc33 := NB1226_1219.out
     obtain ⟨z34_0, y34_0, z34_1, y34_1, z34_2, y34_2⟩ := cl3 BK1219
     have hnb35 := NB1226_1218.out
     have hnc35 := NB1218_1226.out
     have hnb36 := NB1226_1220.out
     have hnc36 := NB1220_1226.out
     obtain ⟨z37_0, y37_0, z37_1, y37_1, z37_2, y37_2⟩ := cl3 BK1226
     obtain ⟨Ao38, co38, eo38⟩ := Kd.R_slice HO_1227001.out
     subst eo38
     go_wp2_with ((with_reducible refine gw ?_); first | (refine gl 33 Tryz.func92 #[.agg #[.int .i64 t1221, .slice Ao38 x1227001_1.length co38, .string t1225]] ?_; (with_reducible refine (spec_RespOk.calls k1 t1221 _ _ x1227001_1 t1225 true _ ?side1 ?side2 A29.out).mono ?_); (case side1 => exact rc HO_1227001); (case side2 => exact (Kd.R_reads' HO_1227001.out).2.1); rintro e w39 ⟨rfl, hb⟩; refine ⟨_, rfl, ?_⟩; replace HO_1227001 := kr HO_1227001 hb; replace BK1218 := kb BK1218 hb; replace BK1219 := kb BK1219 hb; replace BK1220 := kb BK1220 hb; replace BK1226 := kb BK1226 hb; replace HB := am (below_step bl hb); clear hb; obtain ⟨z40_0, y40_0, z40_1, y40_1, z40_2, y40_2⟩ := cl3 BK1226; have hnb41 := NB1220_1218.out; have hnc41 := NB1218_1220.out; obtain ⟨z42_0, y42_0, z42_1, y42_1, z42_2, y42_2⟩ := cl3 BK1220))
     refine bodyPost_ret (results_cell_row rfl _ _ gb1220 29 #[.int .i64 t1221, .slice Ao38 x1227001_1.length co38, .string t1225] (0, 0) _ rfl (pt0 BK1220) Tryz.underlying29 rfl (by kernel_rfl)) rfl ?_
     exact ⟨_, rf, rj (Kd.R_types HO_1227001.out BK1220.out (by decide)) (fun _ hk => trivial), bl⟩
    replace c30 := Bool.eq_false_iff.mpr c30
    subst c30
    rw [if_neg (show ¬ (false = true) by decide)] at H
    revert H
    refine ok3 fun t1233 t1234 t1237 A43 H => ?_
    (try dsimp only at H)
    simp only [Option.some.injEq, Prod.mk.injEq] at H
    obtain ⟨rfl, rfl, rfl⟩ := H
    have hnb44 := NB1219_1218.out
    have hnc44 := NB1218_1219.out
    have hnb45 := NB1219_1220.out
    have hnc45 := NB1220_1219.out
    have hnb46 := NB1219_1226.out
    have hnc46 := NB1226_1219.out
    obtain ⟨z47_0, y47_0, z47_1, y47_1, z47_2, y47_2⟩ := cl3 BK1219
    have hnb48 := NB1226_1218.out
    have hnc48 := NB1218_1226.out
    have hnb49 := NB1226_1220.out
    have hnc49 := NB1220_1226.out
    obtain ⟨z50_0, y50_0, z50_1, y50_1, z50_2, y50_2⟩ := cl3 BK1226
    obtain ⟨Ao51, co51, eo51⟩ := Kd.R_slice HO_1227001.out
    subst eo51
    go_wp2_with ((with_reducible refine gw ?_); first | (refine gl 33 Tryz.func92 #[.agg #[.int .i64 t1221, .slice Ao51 x1227001_1.length co51, .string t1225]] ?_; (with_reducible refine (spec_RespOk.calls k1 t1221 _ _ x1227001_1 t1225 false _ ?side1 ?side2 A29.out).mono ?_); (case side1 => exact rc HO_1227001); (case side2 => exact (Kd.R_reads' HO_1227001.out).2.1); rintro e w52 ⟨rfl, hb⟩; refine ⟨_, rfl, ?_⟩; replace HO_1227001 := kr HO_1227001 hb; replace BK1218 := kb BK1218 hb; replace BK1219 := kb BK1219 hb; replace BK1220 := kb BK1220 hb; replace BK1226 := kb BK1226 hb; replace HB := am (below_step bl hb); clear hb; have hnb53 := NB1218_1220.out; have hnc53 := NB1220_1218.out; obtain ⟨z54_0, y54_0, z54_1, y54_1, z54_2, y54_2⟩ := cl3 BK1218) | (refine gl 36 Tryz.func102 #[.agg #[.int .i64 a0_0, .slice A0_1 l0_1.length c0_1, .string a0_2]] ?_; (with_reducible refine (spec_l9Resp.calls a0_0 _ _ l0_1 a0_2 t1233 t1234 t1237 _ ?side1 ?side2 A43.out).mono ?_); (case side1 => exact cb HR0_1); (case side2 => exact HC0_1.out); rintro e w55 ⟨v1235, rfl, ho0, hb⟩; refine ⟨_, rfl, ?_⟩; have HO1236 := am (Kd.R_lower (Kd.R_new' ho0 (Kd.R_lt (ro HO_1227001))) (below_size bl)); replace HO_1227001 := am (Kd.R_elder' (ro HO_1227001) (Kd.R_base ho0) hb); replace BK1218 := kb BK1218 hb; replace BK1219 := kb BK1219 hb; replace BK1220 := kb BK1220 hb; replace BK1226 := kb BK1226 hb; replace HB := am (below_step bl hb); clear hb ho0; obtain ⟨z56_0, y56_0, z56_1, y56_1, z56_2, y56_2⟩ := cl3 BK1220; obtain ⟨Ao57, co57, eo57⟩ := Kd.R_slice HO1236.out; subst eo57))
    refine bodyPost_ret (results_cell_row rfl _ _ gb1220 29 #[.int .i64 t1233, .slice Ao57 t1234.length co57, .string t1237] (0, 0) _ rfl (pt0 BK1220) Tryz.underlying29 rfl (by kernel_rfl)) rfl ?_
    exact ⟨_, rf, rj (Kd.R_types HO1236.out BK1220.out (by decide)) (fun _ hk => trivial), bl⟩
   rw [if_pos c17] at H
   have c17b0 := decide_eq_true c17
   clear c17
   revert H
   refine ifn fun c18 H => ?_
   have c18b0 := decide_eq_true c18
   clear c18
   revert H
   refine ok1 fun t1229 A19 H => ?_
   have H' := am H
   clear H
   have hnb20 := NB1219_1218.out
   have hnc20 := NB1218_1219.out
   have hnb21 := NB1219_1220.out
   have hnc21 := NB1220_1219.out
   have hnb22 := NB1219_1226.out
   have hnc22 := NB1226_1219.out
   obtain ⟨z23_0, y23_0, z23_1, y23_1, z23_2, y23_2⟩ := cl3 BK1219
   try go_wp2
   replace HO_1227001 := am (Kd.R_drew HO_1227001.out)
   replace BK1218 := am (blk_drew BK1218.out)
   replace BK1219 := am (blk_drew BK1219.out)
   replace BK1220 := am (blk_drew BK1220.out)
   replace BK1226 := am (blk_drew BK1226.out)
   replace HB := am (below_drew1 HB.out)
   have p1227 : 0 ≤ (x6_1 : Int) := od
   have q1227 : x6_1 < (l1_1.length : Int) := od
   obtain ⟨ad1227, e1227, hx1227_0, hx1227_1⟩ := at_T116 HR1_1.out x6_1 p1227 q1227
   have hw1227_1 := hx1227_1
   have hw1227_0 := hx1227_0
   cases e1227
   replace hx1227_0 := hcw hx1227_0
   replace hx1227_1 := hcw hx1227_1
   replace p1227 := eq_true p1227
   replace q1227 := eq_true q1227
   have p1228 : 0 ≤ (x6_1 : Int) := od
   have q1228 : x6_1 < (l1_1.length : Int) := od
   obtain ⟨ad1228, e1228, hx1228_0, hx1228_1⟩ := at_T116 HR1_1.out x6_1 p1228 q1228
   have hw1228_1 := hx1228_1
   have hw1228_0 := hx1228_0
   obtain rfl : ad1227 = ad1228 := (by injection e1228)
   replace hx1228_0 := hcw hx1228_0
   replace hx1228_1 := hcw hx1228_1
   replace p1228 := eq_true p1228
   replace q1228 := eq_true q1228
   obtain ⟨Ao25, co25, eo25⟩ := Kd.R_slice HO_1227001.out
   (first | subst eo25 | (injection eo25 with f1_ f2_ f3_; have f4_ := f1_.symm; have f5_ := f3_.symm; clear f1_ f2_ f3_; subst f4_; subst f5_))
   refine start_ (n := 17) (S := fun w' => w'.cell? ⟨gb1226, 0, none⟩ = some (.int .i64 t1221) ∧ w'.cell? ⟨gb1226, 1, none⟩ = some (.slice Ao25 x1227001_1.length co25) ∧ w'.cell? ⟨gb1226, 2, none⟩ = some (.string t1225) ∧ w'.cell? ⟨gb1219, 0, none⟩ = some (.int .i64 a1_0) ∧ w'.cell? ⟨gb1219, 1, none⟩ = some (.slice (some ad1227) l1_1.length c1_1) ∧ w'.cell? ⟨gb1219, 2, none⟩ = some (.string a1_2) ∧ w'.cell? (ad1227.add ((x6_1).toNat * 2)) = some (.string ((rd_T116 l1_1 x6_1).f0)) ∧ w'.cell? ⟨(ad1227.add ((x6_1).toNat * 2)).block, (ad1227.add ((x6_1).toNat * 2)).off + 1, none⟩ = some (.string ((rd_T116 l1_1 x6_1).f1)) ∧ w'.cell? (ad1227.add ((x6_1).toNat * 2)) = some (.string ((rd_T116 l1_1 x6_1).f0)) ∧ w'.cell? ⟨(ad1227.add ((x6_1).toNat * 2)).block, (ad1227.add ((x6_1).toNat * 2)).off + 1, none⟩ = some (.string ((rd_T116 l1_1 x6_1).f1))) (ds := [16]) ⟨br true [0, 17]⟩ (by kernel_rfl) rfl (by kernel_rfl) ⟨bc BK1226, bc BK1226, bc BK1226, bc BK1219, bc BK1219, bc BK1219, (hcw hw1227_0), (hcw hw1227_1), (hcw hw1228_0), (hcw hw1228_1)⟩ (fun hHeld => ?_); refine with_tabW spec_Merge.tab5 spec_Merge.bits5 (fun HT_ HW_ => ?_)
   generalize wr.drew = w24 at HO_1227001 BK1218 BK1219 BK1220 BK1226 HB hx1227_0 hx1227_1 hx1228_0 hx1228_1 hHeld ⊢
   refine pu 0 16 [1, 16] ?_
   refine pu 2 18 [1, 1, 1, 14] ?_
   refine pu 4 20 [1, 1, 1, 1, 1, 12] ?_
   refine pu 8 24 [1, 1, 1, 1, 1, 3, 1, 8] ?_
   refine pu 10 26 [1, 1, 1, 1, 1, 3, 1, 1, 1, 6] ?_
   refine tk 1 17 [3, 1, 1, 3, 1, 1, 1, 6] ?_
   refine tk 3 19 [5, 3, 1, 1, 1, 6] ?_
   refine pu 5 21 [6, 2, 1, 1, 1, 6] ?_
   refine pu 6 22 [7, 1, 1, 1, 1, 6] ?_
   refine tk 7 23 [9, 1, 1, 6] ?_
   refine tk 9 25 [11, 6] ?_
   refine pu 11 27 [12, 5] ?_
   refine pu 12 28 [13, 4] ?_
   refine tk 13 29 [14, 3] ?_
   refine og 14 30 [15, 2] Tryz.func103 #[.slice Ao25 x1227001_1.length co25, .string ((rd_T116 l1_1 x6_1).f0), .string ((rd_T116 l1_1 x6_1).f1)] (fun K hK => ?_)
   with_reducible refine (spec_Put.calls k1 _ _ x1227001_1 ((rd_T116 l1_1 x6_1).f0) ((rd_T116 l1_1 x6_1).f1) t1229 _ ?side1 ?side2 A19.out).mono ?_
   (case side1 => exact rc HO_1227001)
   (case side2 => exact (Kd.R_reads' HO_1227001.out).2.1)
   rintro e w26 ⟨v1230, rfl, ho0, hb⟩
   refine ⟨_, rfl, ?_⟩
   have HO1231 := am (Kd.R_lower (Kd.R_new' ho0 (Kd.R_lt (ro HO_1227001))) (below_size bl))
   replace HO_1227001 := am (Kd.R_elder' (ro HO_1227001) (Kd.R_base ho0) hb)
   replace BK1218 := kb BK1218 hb
   replace BK1219 := kb BK1219 hb
   replace BK1220 := kb BK1220 hb
   replace BK1226 := kb BK1226 hb
   replace HB := am (below_step bl hb)
   clear hb ho0
   obtain ⟨Ao27, co27, eo27⟩ := Kd.R_slice HO1231.out
   (first | subst eo27 | (injection eo27 with f1_ f2_ f3_; have f4_ := f1_.symm; have f5_ := f3_.symm; clear f1_ f2_ f3_; subst f4_; subst f5_))
   refine hK.out _ _ ⟨bc BK1226, bc BK1226, bc BK1226, bc BK1219, bc BK1219, bc BK1219, (hcw hw1227_0), (hcw hw1227_1), (hcw hw1228_0), (hcw hw1228_1)⟩ (fun hHeld => ?_)
   clear hK K
   refine nm 30 ?_
   refine pu 15 31 [16, 1] ?_
   refine last_ (i := 16) (N := none) #[true, true, true, true, true, true, true, true, true, true, true, true, true, true, true, true, true] rfl rfl (one_of HT_.out (by kernel_rfl)) (by decide) (fun K hK => ?_)
   have hs28 : w26.cell? ⟨gb1226, 1, none⟩ = some (.slice Ao25 x1227001_1.length co25) := bc BK1226
   have hfs28 := blk_frozen BK1226.out 1
   have hns28_0 := NB1218_1226.out
   have hns28_1 := NB1219_1226.out
   have hns28_2 := NB1220_1226.out
   have hms28_0 := NB1226_1218.out
   have hms28_1 := NB1226_1219.out
   have hms28_2 := NB1226_1220.out
   refine skip_ (w1 := ?_) (by rfl) rfl ?_ ?_
   rotate_left
   ·go_simp
    rfl
   refine hK.out _ _ ?_
   clear hK K
   refine done_ (done_of HT_.out (by kernel_rfl)) ?_
   try go_wp2
   go_roundg k1
   case measure => have := HK1.out; omega
   case rel => exact ⟨(wrap64 (x6_1 + 1)), (t1229), (.slice Ao27 t1229.length co27), rs, H', ⟨by have := HK1.out; omega⟩, ⟨rj (Kd.R_types HO1231.out BK1226.out (by decide)) (fun _ hk => trivial)⟩, ⟨by (with_reducible repeat (first | refine blk_drewN ?_ _ | refine blk_drew ?_ | refine blk_alloc ?_ _)); refine blk_far ?_ NB1218_1226.out _; (with_reducible repeat (first | refine blk_drewN ?_ _ | refine blk_drew ?_ | refine blk_alloc ?_ _)); exact BK1218.out⟩, ⟨by (with_reducible repeat (first | refine blk_drewN ?_ _ | refine blk_drew ?_ | refine blk_alloc ?_ _)); refine blk_far ?_ NB1219_1226.out _; (with_reducible repeat (first | refine blk_drewN ?_ _ | refine blk_drew ?_ | refine blk_alloc ?_ _)); exact BK1219.out⟩, ⟨by (with_reducible repeat (first | refine blk_drewN ?_ _ | refine blk_drew ?_ | refine blk_alloc ?_ _)); refine blk_far ?_ NB1220_1226.out _; (with_reducible repeat (first | refine blk_drewN ?_ _ | refine blk_drew ?_ | refine blk_alloc ?_ _)); exact BK1220.out⟩, ⟨pt0 BK1226⟩, ⟨u36HB⟩⟩

end Go.Proofs.YtjlpjbkpmmpojaaGreatDoor.All
