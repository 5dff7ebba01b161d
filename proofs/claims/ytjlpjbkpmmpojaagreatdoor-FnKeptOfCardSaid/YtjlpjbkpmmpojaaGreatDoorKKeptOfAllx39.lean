-- Written by a program of this session (wip/tools/hprint.py) out of the translation. Lean checks it.
import Derived.Test.YtjlpjbkpmmpojaaGreatDoorKKeptOfAllx0
import Derived.Test.YtjlpjbkpmmpojaaGreatDoorKKeptOfAllx2
import Derived.Test.YtjlpjbkpmmpojaaGreatDoorKKeptOfAllx4
import Derived.Test.YtjlpjbkpmmpojaaGreatDoorKKeptOfAllx5
import Derived.Test.YtjlpjbkpmmpojaaGreatDoorKKeptOfAllx6
import Derived.Test.YtjlpjbkpmmpojaaGreatDoorKKeptOfAllx13
import Derived.Test.YtjlpjbkpmmpojaaGreatDoorKKeptOfAllx24
import Derived.Test.YtjlpjbkpmmpojaaGreatDoorKKeptOfAllx36
namespace Go.Proofs.YtjlpjbkpmmpojaaGreatDoor.All
open Go.RowKit Go.Proofs.YtjlpjbkpmmpojaaGreatDoorW.PrintWords Go.Proofs.YtjlpjbkpmmpojaaGreatDoorW.PrintLast Go.Proofs.YtjlpjbkpmmpojaaGreatDoorW.PrintMore
attribute [local go_sem] max2_int min2_int max_two min_two max_three min_three max_four min_four  -- for this text's walks alone
set_option linter.unusedVariables false
set_option linter.unusedSimpArgs false

/-! ### spec_DrawObjOf: function 52 -/
theorem u52HB {p : Prop} (h : p := by repeat (first | (with_reducible first | exact HB.out | apply below_alloc | apply pw_below_drewN | apply below_drew1 | refine below_set ?_ GE1732.out | refine below_set ?_ GE1733.out | refine below_set ?_ (IsS139.ge HI1737.out) | refine below_set ?_ GE1749.out | refine below_set ?_ GE1760.out | refine below_set ?_ GE1778.out | refine below_set ?_ GE1779.out | refine below_set ?_ (IsS139.ge HI1783.out)) | exact HB.out)) : p := h
theorem u52HI1737 {p : Prop} (h : p := by repeat (first | (with_reducible first | exact HI1737.out | apply IsS139.alloc | apply IsS139.drewN | apply IsS139.drew | apply IsS139.set_1 | apply IsS139.set_2 | apply IsS139.far (p := ⟨gb1732, _, none⟩) (hne := NB1737_1732.out) | apply IsS139.far (p := ⟨gb1733, _, none⟩) (hne := NB1737_1733.out) | apply IsS139.far (p := ⟨gb1749, _, none⟩) (hne := NB1737_1749.out) | apply IsS139.far (p := ⟨gb1760, _, none⟩) (hne := NB1737_1760.out) | apply IsS139.far (p := ⟨gb1778, _, none⟩) (hne := NB1737_1778.out) | apply IsS139.far (p := ⟨gb1779, _, none⟩) (hne := NB1737_1779.out)) | exact HI1737.out)) : p := h
theorem u52HI1783 {p : Prop} (h : p := by repeat (first | (with_reducible first | exact HI1783.out | apply IsS139.alloc | apply IsS139.drewN | apply IsS139.drew | apply IsS139.set_1 | apply IsS139.set_2 | apply IsS139.far (p := ⟨gb1732, _, none⟩) (hne := NB1783_1732.out) | apply IsS139.far (p := ⟨gb1733, _, none⟩) (hne := NB1783_1733.out) | apply IsS139.far (p := ⟨gb1778, _, none⟩) (hne := NB1783_1778.out) | apply IsS139.far (p := ⟨gb1779, _, none⟩) (hne := NB1783_1779.out)) | exact HI1783.out)) : p := h
def spec_DrawObjOf.f (k : Nat) (l0 : List Int) : Option (Int × ByteArray × (List (S116)) × ByteArray × Int × (List (S116)) × ByteArray × Int) := (spec_l1New.f k l0).bind fun bt1734 => ((spec_l1Below.f bt1734.1 bt1734.2.1 bt1734.2.2 3).bind fun bt1738 => (if bt1738.1 > 0 then ((spec_l3DrawReq.f k bt1734.1 bt1738.2.1 bt1738.2.2).bind fun bt1741 => ((spec_Drop.f k bt1741.2.2.1 (⟨#[99, 97, 99, 104, 101, 45, 99, 111, 110, 116, 114, 111, 108]⟩ : ByteArray)).bind fun t1750 => ((spec_l3DrawResp.f k bt1734.1 bt1741.2.2.2.2.1 bt1741.2.2.2.2.2).bind fun bt1753 => ((spec_Put.f k bt1753.2.1 (⟨#[99, 97, 99, 104, 101, 45, 99, 111, 110, 116, 114, 111, 108]⟩ : ByteArray) (⟨#[109, 97, 120, 45, 97, 103, 101, 61, 53]⟩ : ByteArray)).bind fun t1761 => ((spec_l7DrawTime.f bt1734.1 bt1753.2.2.2.1 bt1753.2.2.2.2).bind fun bt1764 => (some (1, bt1741.2.1, t1750, (⟨#[]⟩ : ByteArray), 200, t1761, bt1753.2.2.1, bt1764.1))))))) else ((spec_l9Draw.f k l0).bind fun bt1767 => ((spec_l1New.f k l0).bind fun bt1780 => ((spec_l7DrawTime.f bt1780.1 bt1780.2.1 bt1780.2.2).bind fun bt1784 => (some (bt1767.1, bt1767.2.1, bt1767.2.2.1, bt1767.2.2.2.1, bt1767.2.2.2.2.1, bt1767.2.2.2.2.2.1, bt1767.2.2.2.2.2.2, bt1784.1)))))))
def spec_DrawObjOf.T12 : Bool × List (List Nat × List Nat) := (true, [([], []), ([], []), ([], []), ([2], [2]), ([3, 3], [3]), ([0, 4, 0], [0]), ([1, 5, 0, 1, 5], [1]), ([4, 6, 0, 1, 2, 3, 4, 5, 6], [4])])
def spec_DrawObjOf.B12 : List Nat := [0, 0, 0, 4, 12, 29, 63, 127]
theorem spec_DrawObjOf.tab12 : rtab .any (opsOf Tryz.f52 12) = spec_DrawObjOf.T12 := by kernel_rfl
theorem spec_DrawObjOf.bits12 : waitsOk spec_DrawObjOf.T12.2 spec_DrawObjOf.B12 = true := by kernel_rfl
set_option maxHeartbeats 8000000 in
set_option maxRecDepth 100000 in
theorem spec_DrawObjOf.calls (k : Nat) (A0 : Option Addr) (c0 : Nat) (l0 : List Int) (r1 : Int) (r2 : ByteArray) (r3 : List (S116)) (r4 : ByteArray) (r5 : Int) (r6 : List (S116)) (r7 : ByteArray) (r8 : Int) (w : World) (hr0 : Kd.C (Kd.int .u8) w A0 l0.length l0) (hc0 : l0.length ≤ c0) (h : spec_DrawObjOf.f k l0 = some (r1, r2, r3, r4, r5, r6, r7, r8)) :
  Calls Tryz.prog 52 #[.slice A0 l0.length c0] w fun e w' => ∃ v2_ v5_ : Value, e = .returned (.tuple #[.agg #[.int .i64 r1, .string r2, v2_, .string r4], .agg #[.int .i64 r5, v5_, .string r7], .int .i64 r8]) ∧ Kd.R k116 116 w' w.heap.size (fun k_ => some k_ ≠ (v5_ : Value).ownBlock) v2_ r3 ∧ Kd.R k116 116 w' w.heap.size (fun k_ => some k_ ≠ (v2_ : Value).ownBlock) v5_ r6 ∧ Below w.heap.size w w' := by
 have hu50 := Tryz.underlying50
 have hu29 := Tryz.underlying29
 have HR0 := am hr0
 have HC0 := am hc0
 clear hr0 hc0
 have HB := am (Below.refl w.heap.size w)
 unfold spec_DrawObjOf.f at h
 have H := h
 clear h
 revert H
 refine ok3 fun t1734 t1735 t1736 A2 H => ?_
 (try dsimp only at H)
 revert H
 refine ok3 fun t1738 t1739 t1740 A3 H => ?_
 (try dsimp only at H)
 have HH4 := am H
 clear H
 go_enter Tryz.func52, Tryz.ntmps52
 go_upto_if 14 with ((with_reducible refine gw ?_); first | (refine bx 2 #[.int .i64 0, .string (⟨#[]⟩ : ByteArray), .slice none 0 0, .string (⟨#[]⟩ : ByteArray)] 50 ?_; intro gb1732 hg w5 hbox hb; have BK1732 := am (hbox); have GW1732 := am (sz hg : w.heap.size ≤ gb1732); have GE1732 := am (sz hg : w.heap.size ≤ gb1732); replace HB := am (below_step bl hb); clear hb hbox hg) | (refine bx 3 #[.int .i64 0, .slice none 0 0, .string (⟨#[]⟩ : ByteArray)] 29 ?_; intro gb1733 hg w6 hbox hb; have BK1733 := am (hbox); have GW1733 := am (sz hg : w.heap.size ≤ gb1733); have GE1733 := am (sz hg : w.heap.size ≤ gb1733); replace HB := am (below_step bl hb); have NB1732_1733 := am (nl hg BK1732 : gb1732 ≠ gb1733); have NB1733_1732 := am (ng hg BK1732 : gb1733 ≠ gb1732); replace BK1732 := kb BK1732 hb; clear hb hbox hg) | (refine gl 11 Tryz.func59 #[.slice A0 l0.length c0] ?_; (with_reducible refine (spec_l1New.calls k _ _ l0 t1734 t1735 t1736 w _ ?side1 ?side2 ?side3 A2.out).mono ?_); (case side1 => exact u52HB); (case side2 => exact HR0.out); (case side3 => exact HC0.out); rintro e w7 ⟨g1737, rfl, hi, hb, hb2⟩; refine ⟨_, rfl, ?_⟩; replace HB := am (hb); have HI1737 := am (hi); have NB1737_1732 := am (IsS139.ne_blk hi (blk_below (g := gb1732) (o := .cells #[.int .i64 0, .string (⟨#[]⟩ : ByteArray), .slice none 0 0, .string (⟨#[]⟩ : ByteArray)] 50 (0, 0)) (bk BK1732) hb2) (by decide)); have NB1732_1737 := am (Ne.symm (IsS139.ne_blk hi (blk_below (g := gb1732) (o := .cells #[.int .i64 0, .string (⟨#[]⟩ : ByteArray), .slice none 0 0, .string (⟨#[]⟩ : ByteArray)] 50 (0, 0)) (bk BK1732) hb2) (by decide))); replace BK1732 := am (blk_below (g := gb1732) (o := .cells #[.int .i64 0, .string (⟨#[]⟩ : ByteArray), .slice none 0 0, .string (⟨#[]⟩ : ByteArray)] 50 (0, 0)) (bk BK1732) hb2); have NB1737_1733 := am (IsS139.ne_blk hi (blk_below (g := gb1733) (o := .cells #[.int .i64 0, .slice none 0 0, .string (⟨#[]⟩ : ByteArray)] 29 (0, 0)) (bk BK1733) hb2) (by decide)); have NB1733_1737 := am (Ne.symm (IsS139.ne_blk hi (blk_below (g := gb1733) (o := .cells #[.int .i64 0, .slice none 0 0, .string (⟨#[]⟩ : ByteArray)] 29 (0, 0)) (bk BK1733) hb2) (by decide))); replace BK1733 := am (blk_below (g := gb1733) (o := .cells #[.int .i64 0, .slice none 0 0, .string (⟨#[]⟩ : ByteArray)] 29 (0, 0)) (bk BK1733) hb2); clear hb hb2 hi) | (refine gl 13 Tryz.func74 #[.pointer (some ⟨g1737, 0, none⟩), .int .i64 3] ?_; (with_reducible refine (spec_l1Below.calls g1737 t1734 t1735 t1736 3 t1738 t1739 t1740 w _ ?side1 ?side2 A3.out).mono ?_); (case side1 => exact u52HI1737); (case side2 => exact u52HB); rintro e w8 ⟨rfl, hi, hb, hk⟩; refine ⟨_, rfl, ?_⟩; replace BK1732 := kp BK1732 hk NB1732_1737; replace BK1733 := kp BK1733 hk NB1733_1737; replace HB := am (hb); replace HI1737 := am (hi); clear hb hk hi))
 have H := HH4.out
 clear HH4
 by_cases c9 : t1738 > 0
 rotate_left
 ·rw [if_neg c9] at H
  have c9b0 := decide_eq_false c9
  clear c9
  (first | rw [c9b0] | (simp only [i64_w, i32_w]; rw [c9b0]) | skip)
  revert H
  refine ok7 fun t1767 t1768 t1769 t1772 t1773 t1774 t1777 A46 H => ?_
  (try dsimp only at H)
  revert H
  refine ok3 fun t1780 t1781 t1782 A47 H => ?_
  (try dsimp only at H)
  revert H
  refine ok3 fun t1784 t1785 t1786 A48 H => ?_
  (try dsimp only at H)
  simp only [Option.some.injEq, Prod.mk.injEq] at H
  obtain ⟨rfl, rfl, rfl, rfl, rfl, rfl, rfl, rfl⟩ := H
  try go_wp2_with ((with_reducible refine gw ?_); first | (refine gl 36 Tryz.func90 #[.slice A0 l0.length c0] ?_; (with_reducible refine (spec_l9Draw.calls k _ _ l0 t1767 t1768 t1769 t1772 t1773 t1774 t1777 _ ?side1 ?side2 A46.out).mono ?_); (case side1 => exact cb HR0); (case side2 => exact HC0.out); rintro e w49 ⟨v1770, v1775, rfl, ho0, ho1, hb⟩; refine ⟨_, rfl, ?_⟩; have HO1771 := am (Kd.R_lower ho0 (below_size u52HB)); have HO1776 := am (Kd.R_lower ho1 (below_size u52HB)); replace BK1732 := kb BK1732 hb; replace BK1733 := kb BK1733 hb; replace HB := am (below_step u52HB hb); replace HI1737 := am (IsS139.below u52HI1737 hb); clear hb ho0 ho1) | (refine bx 8 #[.int .i64 0, .string (⟨#[]⟩ : ByteArray), .slice none 0 0, .string (⟨#[]⟩ : ByteArray)] 50 ?_; intro gb1778 hg w50 hbox hb; have n0_ := am (Kd.R_below (ro HO1771) hb); have n1_ := am (Kd.R_below (ro HO1776) hb); have n2_ := kb BK1732 hb; have n3_ := kb BK1733 hb; have n4_ := am (IsS139.below u52HI1737 hb); have n5_ := am (below_step u52HB hb); have n6_ := am (hbox); have n7_ := am ((by rw [hg]; exact (below_size u52HB) : w.heap.size ≤ gb1778)); have n8_ := am ((by rw [hg]; exact (below_size u52HB) : w.heap.size ≤ gb1778)); have n9_ := am (nl hg BK1732 : gb1732 ≠ gb1778); have n10_ := am (ng hg BK1732 : gb1778 ≠ gb1732); have n11_ := am (nl hg BK1733 : gb1733 ≠ gb1778); have n12_ := am (ng hg BK1733 : gb1778 ≠ gb1733); have n13_ := am ((by rw [hg]; exact Nat.ne_of_lt (IsS139.lt (show IsS139 w _ g1737 t1734 t1739 t1740 from u52HI1737)) : g1737 ≠ gb1778)); have n14_ := am ((by rw [hg]; exact Nat.ne_of_gt (IsS139.lt (show IsS139 w _ g1737 t1734 t1739 t1740 from u52HI1737)) : gb1778 ≠ g1737)); clear HO1771; clear HO1776; clear BK1732; clear BK1733; clear HI1737; clear HB; have HO1771 := n0_; have HO1776 := n1_; have BK1732 := n2_; have BK1733 := n3_; have HI1737 := n4_; have HB := n5_; have BK1778 := n6_; have GW1778 := n7_; have GE1778 := n8_; have NB1732_1778 := n9_; have NB1778_1732 := n10_; have NB1733_1778 := n11_; have NB1778_1733 := n12_; have NB1737_1778 := n13_; have NB1778_1737 := n14_; clear n0_ n1_ n2_ n3_ n4_ n5_ n6_ n7_ n8_ n9_ n10_ n11_ n12_ n13_ n14_; clear hb hbox hg) | (refine bx 9 #[.int .i64 0, .slice none 0 0, .string (⟨#[]⟩ : ByteArray)] 29 ?_; intro gb1779 hg w51 hbox hb; have n0_ := am (Kd.R_below (ro HO1771) hb); have n1_ := am (Kd.R_below (ro HO1776) hb); have n2_ := kb BK1732 hb; have n3_ := kb BK1733 hb; have n4_ := am (IsS139.below u52HI1737 hb); have n5_ := kb BK1778 hb; have n6_ := am (below_step u52HB hb); have n7_ := am (hbox); have n8_ := am ((by rw [hg]; exact (below_size u52HB) : w.heap.size ≤ gb1779)); have n9_ := am ((by rw [hg]; exact (below_size u52HB) : w.heap.size ≤ gb1779)); have n10_ := am (nl hg BK1732 : gb1732 ≠ gb1779); have n11_ := am (ng hg BK1732 : gb1779 ≠ gb1732); have n12_ := am (nl hg BK1733 : gb1733 ≠ gb1779); have n13_ := am (ng hg BK1733 : gb1779 ≠ gb1733); have n14_ := am (nl hg BK1778 : gb1778 ≠ gb1779); have n15_ := am (ng hg BK1778 : gb1779 ≠ gb1778); have n16_ := am ((by rw [hg]; exact Nat.ne_of_lt (IsS139.lt (show IsS139 w _ g1737 t1734 t1739 t1740 from u52HI1737)) : g1737 ≠ gb1779)); have n17_ := am ((by rw [hg]; exact Nat.ne_of_gt (IsS139.lt (show IsS139 w _ g1737 t1734 t1739 t1740 from u52HI1737)) : gb1779 ≠ g1737)); clear HO1771; clear HO1776; clear BK1732; clear BK1733; clear HI1737; clear BK1778; clear HB; have HO1771 := n0_; have HO1776 := n1_; have BK1732 := n2_; have BK1733 := n3_; have HI1737 := n4_; have BK1778 := n5_; have HB := n6_; have BK1779 := n7_; have GW1779 := n8_; have GE1779 := n9_; have NB1732_1779 := n10_; have NB1779_1732 := n11_; have NB1733_1779 := n12_; have NB1779_1733 := n13_; have NB1778_1779 := n14_; have NB1779_1778 := n15_; have NB1737_1779 := n16_; have NB1779_1737 := n17_; clear n0_ n1_ n2_ n3_ n4_ n5_ n6_ n7_ n8_ n9_ n10_ n11_ n12_ n13_ n14_ n15_ n16_ n17_; clear hb hbox hg; have hnb52 := NB1778_1732.out; have hnc52 := NB1732_1778.out; have hnb53 := NB1778_1733.out; have hnc53 := NB1733_1778.out; have hnb54 := NB1778_1779.out; have hnc54 := NB1779_1778.out; have hnb55 := NB1778_1737.out; have hnc55 := NB1737_1778.out; obtain ⟨z56_0, y56_0, z56_1, y56_1, z56_2, y56_2, z56_3, y56_3⟩ := cl4 BK1778; obtain ⟨Ao57, co57, eo57⟩ := Kd.R_slice HO1771.out; subst eo57; have hnb58 := NB1779_1732.out; have hnc58 := NB1732_1779.out; have hnb59 := NB1779_1733.out; have hnc59 := NB1733_1779.out; have hnb60 := NB1779_1737.out; have hnc60 := NB1737_1779.out; obtain ⟨z61_0, y61_0, z61_1, y61_1, z61_2, y61_2⟩ := cl3 BK1779; obtain ⟨Ao62, co62, eo62⟩ := Kd.R_slice HO1776.out; subst eo62))
  have n0_ : Aside0 (Kd.R k116 116 (((((((w51.setCell ⟨gb1778, 0, none⟩ (.int .i64 t1767)).setCell ⟨gb1778, 1, none⟩ (.string t1768)).setCell ⟨gb1778, 2, none⟩ (.slice Ao57 t1769.length co57)).setCell ⟨gb1778, 3, none⟩ (.string t1772)).setCell ⟨gb1779, 0, none⟩ (.int .i64 t1773)).setCell ⟨gb1779, 1, none⟩ (.slice Ao62 t1774.length co62)).setCell ⟨gb1779, 2, none⟩ (.string t1777)) w.heap.size (fun k_ => some k_ ≠ (.slice Ao62 t1774.length co62 : Value).ownBlock) (.slice Ao57 t1769.length co57) t1769) := ⟨rj (Kd.R_types (Kd.R_types HO1771.out BK1778.out (by decide)) BK1779.out (by decide)) (fun _ hk => hk.1.1)⟩
  have n1_ : Aside0 (Kd.R k116 116 (((((((w51.setCell ⟨gb1778, 0, none⟩ (.int .i64 t1767)).setCell ⟨gb1778, 1, none⟩ (.string t1768)).setCell ⟨gb1778, 2, none⟩ (.slice Ao57 t1769.length co57)).setCell ⟨gb1778, 3, none⟩ (.string t1772)).setCell ⟨gb1779, 0, none⟩ (.int .i64 t1773)).setCell ⟨gb1779, 1, none⟩ (.slice Ao62 t1774.length co62)).setCell ⟨gb1779, 2, none⟩ (.string t1777)) w.heap.size (fun k_ => some k_ ≠ (.slice Ao57 t1769.length co57 : Value).ownBlock) (.slice Ao62 t1774.length co62) t1774) := ⟨rj (Kd.R_types (Kd.R_types HO1776.out BK1778.out (by decide)) BK1779.out (by decide)) (fun _ hk => hk.1.1)⟩
  have n2_ : Aside0 ((((((((w51.setCell ⟨gb1778, 0, none⟩ (.int .i64 t1767)).setCell ⟨gb1778, 1, none⟩ (.string t1768)).setCell ⟨gb1778, 2, none⟩ (.slice Ao57 t1769.length co57)).setCell ⟨gb1778, 3, none⟩ (.string t1772)).setCell ⟨gb1779, 0, none⟩ (.int .i64 t1773)).setCell ⟨gb1779, 1, none⟩ (.slice Ao62 t1774.length co62)).setCell ⟨gb1779, 2, none⟩ (.string t1777)).heap[gb1732]? = some (.cells #[.int .i64 0, .string (⟨#[]⟩ : ByteArray), .slice none 0 0, .string (⟨#[]⟩ : ByteArray)] 50 (0, 0))) := ⟨by (with_reducible repeat (first | refine blk_drewN ?_ _ | refine blk_drew ?_ | refine blk_alloc ?_ _)); refine blk_far ?_ NB1732_1779.out _; (with_reducible repeat (first | refine blk_drewN ?_ _ | refine blk_drew ?_ | refine blk_alloc ?_ _)); refine blk_far ?_ NB1732_1779.out _; (with_reducible repeat (first | refine blk_drewN ?_ _ | refine blk_drew ?_ | refine blk_alloc ?_ _)); refine blk_far ?_ NB1732_1779.out _; (with_reducible repeat (first | refine blk_drewN ?_ _ | refine blk_drew ?_ | refine blk_alloc ?_ _)); refine blk_far ?_ NB1732_1778.out _; (with_reducible repeat (first | refine blk_drewN ?_ _ | refine blk_drew ?_ | refine blk_alloc ?_ _)); refine blk_far ?_ NB1732_1778.out _; (with_reducible repeat (first | refine blk_drewN ?_ _ | refine blk_drew ?_ | refine blk_alloc ?_ _)); refine blk_far ?_ NB1732_1778.out _; (with_reducible repeat (first | refine blk_drewN ?_ _ | refine blk_drew ?_ | refine blk_alloc ?_ _)); refine blk_far ?_ NB1732_1778.out _; (with_reducible repeat (first | refine blk_drewN ?_ _ | refine blk_drew ?_ | refine blk_alloc ?_ _)); exact BK1732.out⟩
  have n3_ : Aside0 ((((((((w51.setCell ⟨gb1778, 0, none⟩ (.int .i64 t1767)).setCell ⟨gb1778, 1, none⟩ (.string t1768)).setCell ⟨gb1778, 2, none⟩ (.slice Ao57 t1769.length co57)).setCell ⟨gb1778, 3, none⟩ (.string t1772)).setCell ⟨gb1779, 0, none⟩ (.int .i64 t1773)).setCell ⟨gb1779, 1, none⟩ (.slice Ao62 t1774.length co62)).setCell ⟨gb1779, 2, none⟩ (.string t1777)).heap[gb1733]? = some (.cells #[.int .i64 0, .slice none 0 0, .string (⟨#[]⟩ : ByteArray)] 29 (0, 0))) := ⟨by (with_reducible repeat (first | refine blk_drewN ?_ _ | refine blk_drew ?_ | refine blk_alloc ?_ _)); refine blk_far ?_ NB1733_1779.out _; (with_reducible repeat (first | refine blk_drewN ?_ _ | refine blk_drew ?_ | refine blk_alloc ?_ _)); refine blk_far ?_ NB1733_1779.out _; (with_reducible repeat (first | refine blk_drewN ?_ _ | refine blk_drew ?_ | refine blk_alloc ?_ _)); refine blk_far ?_ NB1733_1779.out _; (with_reducible repeat (first | refine blk_drewN ?_ _ | refine blk_drew ?_ | refine blk_alloc ?_ _)); refine blk_far ?_ NB1733_1778.out _; (with_reducible repeat (first | refine blk_drewN ?_ _ | refine blk_drew ?_ | refine blk_alloc ?_ _)); refine blk_far ?_ NB1733_1778.out _; (with_reducible repeat (first | refine blk_drewN ?_ _ | refine blk_drew ?_ | refine blk_alloc ?_ _)); refine blk_far ?_ NB1733_1778.out _; (with_reducible repeat (first | refine blk_drewN ?_ _ | refine blk_drew ?_ | refine blk_alloc ?_ _)); refine blk_far ?_ NB1733_1778.out _; (with_reducible repeat (first | refine blk_drewN ?_ _ | refine blk_drew ?_ | refine blk_alloc ?_ _)); exact BK1733.out⟩
  have n4_ : Aside0 ((((((((w51.setCell ⟨gb1778, 0, none⟩ (.int .i64 t1767)).setCell ⟨gb1778, 1, none⟩ (.string t1768)).setCell ⟨gb1778, 2, none⟩ (.slice Ao57 t1769.length co57)).setCell ⟨gb1778, 3, none⟩ (.string t1772)).setCell ⟨gb1779, 0, none⟩ (.int .i64 t1773)).setCell ⟨gb1779, 1, none⟩ (.slice Ao62 t1774.length co62)).setCell ⟨gb1779, 2, none⟩ (.string t1777)).heap[gb1778]? = some (.cells #[.int .i64 t1767, .string t1768, .slice Ao57 t1769.length co57, .string t1772] 50 (0, 0))) := ⟨pt1 BK1778 NB1778_1779⟩
  have n5_ : Aside0 ((((((((w51.setCell ⟨gb1778, 0, none⟩ (.int .i64 t1767)).setCell ⟨gb1778, 1, none⟩ (.string t1768)).setCell ⟨gb1778, 2, none⟩ (.slice Ao57 t1769.length co57)).setCell ⟨gb1778, 3, none⟩ (.string t1772)).setCell ⟨gb1779, 0, none⟩ (.int .i64 t1773)).setCell ⟨gb1779, 1, none⟩ (.slice Ao62 t1774.length co62)).setCell ⟨gb1779, 2, none⟩ (.string t1777)).heap[gb1779]? = some (.cells #[.int .i64 t1773, .slice Ao62 t1774.length co62, .string t1777] 29 (0, 0))) := ⟨pt1 BK1779 NB1779_1778⟩
  have n6_ : Aside0 (IsS139 w (((((((w51.setCell ⟨gb1778, 0, none⟩ (.int .i64 t1767)).setCell ⟨gb1778, 1, none⟩ (.string t1768)).setCell ⟨gb1778, 2, none⟩ (.slice Ao57 t1769.length co57)).setCell ⟨gb1778, 3, none⟩ (.string t1772)).setCell ⟨gb1779, 0, none⟩ (.int .i64 t1773)).setCell ⟨gb1779, 1, none⟩ (.slice Ao62 t1774.length co62)).setCell ⟨gb1779, 2, none⟩ (.string t1777)) g1737 t1734 t1739 t1740) := ⟨u52HI1737⟩
  have n7_ : Aside0 (Below w.heap.size w (((((((w51.setCell ⟨gb1778, 0, none⟩ (.int .i64 t1767)).setCell ⟨gb1778, 1, none⟩ (.string t1768)).setCell ⟨gb1778, 2, none⟩ (.slice Ao57 t1769.length co57)).setCell ⟨gb1778, 3, none⟩ (.string t1772)).setCell ⟨gb1779, 0, none⟩ (.int .i64 t1773)).setCell ⟨gb1779, 1, none⟩ (.slice Ao62 t1774.length co62)).setCell ⟨gb1779, 2, none⟩ (.string t1777))) := ⟨u52HB⟩
  (try clear HO1771)
  (try clear HO1776)
  (try clear BK1732)
  (try clear BK1733)
  (try clear BK1778)
  (try clear BK1779)
  (try clear HI1737)
  (try clear HB)
  generalize (((((((w51.setCell ⟨gb1778, 0, none⟩ (.int .i64 t1767)).setCell ⟨gb1778, 1, none⟩ (.string t1768)).setCell ⟨gb1778, 2, none⟩ (.slice Ao57 t1769.length co57)).setCell ⟨gb1778, 3, none⟩ (.string t1772)).setCell ⟨gb1779, 0, none⟩ (.int .i64 t1773)).setCell ⟨gb1779, 1, none⟩ (.slice Ao62 t1774.length co62)).setCell ⟨gb1779, 2, none⟩ (.string t1777)) = w63 at n0_ n1_ n2_ n3_ n4_ n5_ n6_ n7_ ⊢
  have HO1771 := n0_
  have HO1776 := n1_
  have BK1732 := n2_
  have BK1733 := n3_
  have BK1778 := n4_
  have BK1779 := n5_
  have HI1737 := n6_
  have HB := n7_
  clear n0_ n1_ n2_ n3_ n4_ n5_ n6_ n7_
  replace HO1771 := am (Kd.R_drew HO1771.out)
  replace HO1776 := am (Kd.R_drew HO1776.out)
  replace BK1732 := am (blk_drew BK1732.out)
  replace BK1733 := am (blk_drew BK1733.out)
  replace BK1778 := am (blk_drew BK1778.out)
  replace BK1779 := am (blk_drew BK1779.out)
  replace HI1737 := am (IsS139.drew HI1737.out)
  replace HB := am (below_drew1 HB.out)
  refine start_ (n := 8) (S := fun w' => w'.cell? ⟨gb1778, 0, none⟩ = some (.int .i64 t1767) ∧ w'.cell? ⟨gb1778, 1, none⟩ = some (.string t1768) ∧ w'.cell? ⟨gb1778, 2, none⟩ = some (.slice Ao57 t1769.length co57) ∧ w'.cell? ⟨gb1778, 3, none⟩ = some (.string t1772) ∧ w'.cell? ⟨gb1779, 0, none⟩ = some (.int .i64 t1773) ∧ w'.cell? ⟨gb1779, 1, none⟩ = some (.slice Ao62 t1774.length co62) ∧ w'.cell? ⟨gb1779, 2, none⟩ = some (.string t1777)) (ds := []) ⟨br true [0, 8]⟩ (by kernel_rfl) rfl (by kernel_rfl) ⟨bc BK1778, bc BK1778, bc BK1778, bc BK1778, bc BK1779, bc BK1779, bc BK1779⟩ (fun hHeld => ?_); refine with_tabW spec_DrawObjOf.tab12 spec_DrawObjOf.bits12 (fun HT_ HW_ => ?_)
  generalize w63.drew = w64 at HO1771 HO1776 BK1732 BK1733 BK1778 BK1779 HI1737 HB hHeld ⊢
  refine pu 2 41 [0, 2, 1, 5] ?_
  refine tk 0 39 [1, 1, 1, 5] ?_
  refine tk 1 40 [3, 5] ?_
  refine og 3 42 [4, 4] Tryz.func59 #[.slice A0 l0.length c0] (fun K hK => ?_)
  with_reducible refine (spec_l1New.calls k _ _ l0 t1780 t1781 t1782 w _ ?side1 ?side2 ?side3 A47.out).mono ?_
  (case side1 => exact u52HB)
  (case side2 => exact HR0.out)
  (case side3 => exact HC0.out)
  rintro e w65 ⟨g1783, rfl, hi, hb, hb2⟩
  refine ⟨_, rfl, ?_⟩
  replace HO1771 := am (Kd.R_below (ro HO1771) hb2)
  replace HO1776 := am (Kd.R_below (ro HO1776) hb2)
  replace HB := am (hb)
  have HI1783 := am (hi)
  have NB1783_1732 := am (IsS139.ne_blk hi (blk_below (g := gb1732) (o := .cells #[.int .i64 0, .string (⟨#[]⟩ : ByteArray), .slice none 0 0, .string (⟨#[]⟩ : ByteArray)] 50 (0, 0)) (bk BK1732) hb2) (by decide))
  have NB1732_1783 := am (Ne.symm (IsS139.ne_blk hi (blk_below (g := gb1732) (o := .cells #[.int .i64 0, .string (⟨#[]⟩ : ByteArray), .slice none 0 0, .string (⟨#[]⟩ : ByteArray)] 50 (0, 0)) (bk BK1732) hb2) (by decide)))
  replace BK1732 := am (blk_below (g := gb1732) (o := .cells #[.int .i64 0, .string (⟨#[]⟩ : ByteArray), .slice none 0 0, .string (⟨#[]⟩ : ByteArray)] 50 (0, 0)) (bk BK1732) hb2)
  have NB1783_1733 := am (IsS139.ne_blk hi (blk_below (g := gb1733) (o := .cells #[.int .i64 0, .slice none 0 0, .string (⟨#[]⟩ : ByteArray)] 29 (0, 0)) (bk BK1733) hb2) (by decide))
  have NB1733_1783 := am (Ne.symm (IsS139.ne_blk hi (blk_below (g := gb1733) (o := .cells #[.int .i64 0, .slice none 0 0, .string (⟨#[]⟩ : ByteArray)] 29 (0, 0)) (bk BK1733) hb2) (by decide)))
  replace BK1733 := am (blk_below (g := gb1733) (o := .cells #[.int .i64 0, .slice none 0 0, .string (⟨#[]⟩ : ByteArray)] 29 (0, 0)) (bk BK1733) hb2)
  have NB1783_1778 := am (IsS139.ne_blk hi (blk_below (g := gb1778) (o := .cells #[.int .i64 t1767, .string t1768, .slice Ao57 t1769.length co57, .string t1772] 50 (0, 0)) (bk BK1778) hb2) (by decide))
  have NB1778_1783 := am (Ne.symm (IsS139.ne_blk hi (blk_below (g := gb1778) (o := .cells #[.int .i64 t1767, .string t1768, .slice Ao57 t1769.length co57, .string t1772] 50 (0, 0)) (bk BK1778) hb2) (by decide)))
  replace BK1778 := am (blk_below (g := gb1778) (o := .cells #[.int .i64 t1767, .string t1768, .slice Ao57 t1769.length co57, .string t1772] 50 (0, 0)) (bk BK1778) hb2)
  have NB1783_1779 := am (IsS139.ne_blk hi (blk_below (g := gb1779) (o := .cells #[.int .i64 t1773, .slice Ao62 t1774.length co62, .string t1777] 29 (0, 0)) (bk BK1779) hb2) (by decide))
  have NB1779_1783 := am (Ne.symm (IsS139.ne_blk hi (blk_below (g := gb1779) (o := .cells #[.int .i64 t1773, .slice Ao62 t1774.length co62, .string t1777] 29 (0, 0)) (bk BK1779) hb2) (by decide)))
  replace BK1779 := am (blk_below (g := gb1779) (o := .cells #[.int .i64 t1773, .slice Ao62 t1774.length co62, .string t1777] 29 (0, 0)) (bk BK1779) hb2)
  clear hb hb2 hi
  refine hK.out _ _ ⟨bc BK1778, bc BK1778, bc BK1778, bc BK1778, bc BK1779, bc BK1779, bc BK1779⟩ (fun hHeld => ?_)
  clear hK K
  refine nm 42 ?_
  refine og 4 43 [5, 3] Tryz.func125 #[.pointer (some ⟨g1783, 0, none⟩)] (fun K hK => ?_)
  with_reducible refine (spec_l7DrawTime.calls g1783 t1780 t1781 t1782 t1784 t1785 t1786 w _ ?side1 ?side2 A48.out).mono ?_
  (case side1 => exact u52HI1783)
  (case side2 => exact u52HB)
  rintro e w66 ⟨rfl, hi, hb, hk⟩
  refine ⟨_, rfl, ?_⟩
  replace BK1732 := kp BK1732 hk NB1732_1783
  replace BK1733 := kp BK1733 hk NB1733_1783
  replace HO1771 := am (Kd.R_mono (Kd.R_keep (IsS139.apart (show IsS139 w _ g1783 t1780 t1781 t1782 from u52HI1783) (ro HO1771) (by decide)) hk (fun _ h => h.2)) (fun _ h => h.1))
  replace HO1776 := am (Kd.R_mono (Kd.R_keep (IsS139.apart (show IsS139 w _ g1783 t1780 t1781 t1782 from u52HI1783) (ro HO1776) (by decide)) hk (fun _ h => h.2)) (fun _ h => h.1))
  replace BK1778 := kp BK1778 hk NB1778_1783
  replace BK1779 := kp BK1779 hk NB1779_1783
  replace HB := am (hb)
  replace HI1783 := am (hi)
  clear hb hk hi
  refine hK.out _ _ ⟨bc BK1778, bc BK1778, bc BK1778, bc BK1778, bc BK1779, bc BK1779, bc BK1779⟩ (fun hHeld => ?_)
  clear hK K
  refine nm 43 ?_
  refine one_ (i := 5) (N := none) #[true, true, true, true, true, true, false, false] rfl rfl (one_of HT_.out (by kernel_rfl)) (by decide) (fun K hK => ?_)
  have hs67 : w66.cell? ⟨gb1732, 0, none⟩ = some (.int .i64 0) := bc BK1732
  have hfs67 := blk_frozen BK1732.out 0
  have hns67_1 := NB1733_1732.out
  have hns67_2 := NB1778_1732.out
  have hns67_3 := NB1779_1732.out
  have hms67_1 := NB1732_1733.out
  have hms67_2 := NB1732_1778.out
  have hms67_3 := NB1732_1779.out
  have hs68 : w66.cell? ⟨gb1732, 1, none⟩ = some (.string (⟨#[]⟩ : ByteArray)) := bc BK1732
  have hfs68 := blk_frozen BK1732.out 1
  have hns68_1 := NB1733_1732.out
  have hns68_2 := NB1778_1732.out
  have hns68_3 := NB1779_1732.out
  have hms68_1 := NB1732_1733.out
  have hms68_2 := NB1732_1778.out
  have hms68_3 := NB1732_1779.out
  have hs69 : w66.cell? ⟨gb1732, 2, none⟩ = some (.slice none 0 0) := bc BK1732
  have hfs69 := blk_frozen BK1732.out 2
  have hns69_1 := NB1733_1732.out
  have hns69_2 := NB1778_1732.out
  have hns69_3 := NB1779_1732.out
  have hms69_1 := NB1732_1733.out
  have hms69_2 := NB1732_1778.out
  have hms69_3 := NB1732_1779.out
  have hs70 : w66.cell? ⟨gb1732, 3, none⟩ = some (.string (⟨#[]⟩ : ByteArray)) := bc BK1732
  have hfs70 := blk_frozen BK1732.out 3
  have hns70_1 := NB1733_1732.out
  have hns70_2 := NB1778_1732.out
  have hns70_3 := NB1779_1732.out
  have hms70_1 := NB1732_1733.out
  have hms70_2 := NB1732_1778.out
  have hms70_3 := NB1732_1779.out
  refine skip_ (w1 := ?_) (by rfl) rfl ?_ ?_
  rotate_left
  ·go_simp
   rfl
  refine hK.out _ _ ⟨((cell_far (p := ⟨gb1732, _, none⟩) NB1778_1732.out _).trans (((cell_far (p := ⟨gb1732, _, none⟩) NB1778_1732.out _).trans (((cell_far (p := ⟨gb1732, _, none⟩) NB1778_1732.out _).trans (((cell_far (p := ⟨gb1732, _, none⟩) NB1778_1732.out _).trans (hHeld.1)))))))), ((cell_far (p := ⟨gb1732, _, none⟩) NB1778_1732.out _).trans (((cell_far (p := ⟨gb1732, _, none⟩) NB1778_1732.out _).trans (((cell_far (p := ⟨gb1732, _, none⟩) NB1778_1732.out _).trans (((cell_far (p := ⟨gb1732, _, none⟩) NB1778_1732.out _).trans (hHeld.2.1)))))))), ((cell_far (p := ⟨gb1732, _, none⟩) NB1778_1732.out _).trans (((cell_far (p := ⟨gb1732, _, none⟩) NB1778_1732.out _).trans (((cell_far (p := ⟨gb1732, _, none⟩) NB1778_1732.out _).trans (((cell_far (p := ⟨gb1732, _, none⟩) NB1778_1732.out _).trans (hHeld.2.2.1)))))))), ((cell_far (p := ⟨gb1732, _, none⟩) NB1778_1732.out _).trans (((cell_far (p := ⟨gb1732, _, none⟩) NB1778_1732.out _).trans (((cell_far (p := ⟨gb1732, _, none⟩) NB1778_1732.out _).trans (((cell_far (p := ⟨gb1732, _, none⟩) NB1778_1732.out _).trans (hHeld.2.2.2.1)))))))), ((cell_far (p := ⟨gb1732, _, none⟩) NB1779_1732.out _).trans (((cell_far (p := ⟨gb1732, _, none⟩) NB1779_1732.out _).trans (((cell_far (p := ⟨gb1732, _, none⟩) NB1779_1732.out _).trans (((cell_far (p := ⟨gb1732, _, none⟩) NB1779_1732.out _).trans (hHeld.2.2.2.2.1)))))))), ((cell_far (p := ⟨gb1732, _, none⟩) NB1779_1732.out _).trans (((cell_far (p := ⟨gb1732, _, none⟩) NB1779_1732.out _).trans (((cell_far (p := ⟨gb1732, _, none⟩) NB1779_1732.out _).trans (((cell_far (p := ⟨gb1732, _, none⟩) NB1779_1732.out _).trans (hHeld.2.2.2.2.2.1)))))))), ((cell_far (p := ⟨gb1732, _, none⟩) NB1779_1732.out _).trans (((cell_far (p := ⟨gb1732, _, none⟩) NB1779_1732.out _).trans (((cell_far (p := ⟨gb1732, _, none⟩) NB1779_1732.out _).trans (((cell_far (p := ⟨gb1732, _, none⟩) NB1779_1732.out _).trans (hHeld.2.2.2.2.2.2))))))))⟩ (fun hHeld => ?_)
  clear hK K
  refine one_ (i := 6) (N := none) #[true, true, true, true, true, true, true, false] rfl rfl (one_of HT_.out (by kernel_rfl)) (by decide) (fun K hK => ?_)
  have hs71 : w66.cell? ⟨gb1733, 0, none⟩ = some (.int .i64 0) := bc BK1733
  have hfs71 := blk_frozen BK1733.out 0
  have hns71_0 := NB1732_1733.out
  have hns71_2 := NB1778_1733.out
  have hns71_3 := NB1779_1733.out
  have hms71_0 := NB1733_1732.out
  have hms71_2 := NB1733_1778.out
  have hms71_3 := NB1733_1779.out
  have hs72 : w66.cell? ⟨gb1733, 1, none⟩ = some (.slice none 0 0) := bc BK1733
  have hfs72 := blk_frozen BK1733.out 1
  have hns72_0 := NB1732_1733.out
  have hns72_2 := NB1778_1733.out
  have hns72_3 := NB1779_1733.out
  have hms72_0 := NB1733_1732.out
  have hms72_2 := NB1733_1778.out
  have hms72_3 := NB1733_1779.out
  have hs73 : w66.cell? ⟨gb1733, 2, none⟩ = some (.string (⟨#[]⟩ : ByteArray)) := bc BK1733
  have hfs73 := blk_frozen BK1733.out 2
  have hns73_0 := NB1732_1733.out
  have hns73_2 := NB1778_1733.out
  have hns73_3 := NB1779_1733.out
  have hms73_0 := NB1733_1732.out
  have hms73_2 := NB1733_1778.out
  have hms73_3 := NB1733_1779.out
  refine skip_ (w1 := ?_) (by rfl) rfl ?_ ?_
  rotate_left
  ·go_simp
   rfl
  refine hK.out _ _ ⟨((cell_far (p := ⟨gb1733, _, none⟩) NB1778_1733.out _).trans (((cell_far (p := ⟨gb1733, _, none⟩) NB1778_1733.out _).trans (((cell_far (p := ⟨gb1733, _, none⟩) NB1778_1733.out _).trans (hHeld.1)))))), ((cell_far (p := ⟨gb1733, _, none⟩) NB1778_1733.out _).trans (((cell_far (p := ⟨gb1733, _, none⟩) NB1778_1733.out _).trans (((cell_far (p := ⟨gb1733, _, none⟩) NB1778_1733.out _).trans (hHeld.2.1)))))), ((cell_far (p := ⟨gb1733, _, none⟩) NB1778_1733.out _).trans (((cell_far (p := ⟨gb1733, _, none⟩) NB1778_1733.out _).trans (((cell_far (p := ⟨gb1733, _, none⟩) NB1778_1733.out _).trans (hHeld.2.2.1)))))), ((cell_far (p := ⟨gb1733, _, none⟩) NB1778_1733.out _).trans (((cell_far (p := ⟨gb1733, _, none⟩) NB1778_1733.out _).trans (((cell_far (p := ⟨gb1733, _, none⟩) NB1778_1733.out _).trans (hHeld.2.2.2.1)))))), ((cell_far (p := ⟨gb1733, _, none⟩) NB1779_1733.out _).trans (((cell_far (p := ⟨gb1733, _, none⟩) NB1779_1733.out _).trans (((cell_far (p := ⟨gb1733, _, none⟩) NB1779_1733.out _).trans (hHeld.2.2.2.2.1)))))), ((cell_far (p := ⟨gb1733, _, none⟩) NB1779_1733.out _).trans (((cell_far (p := ⟨gb1733, _, none⟩) NB1779_1733.out _).trans (((cell_far (p := ⟨gb1733, _, none⟩) NB1779_1733.out _).trans (hHeld.2.2.2.2.2.1)))))), ((cell_far (p := ⟨gb1733, _, none⟩) NB1779_1733.out _).trans (((cell_far (p := ⟨gb1733, _, none⟩) NB1779_1733.out _).trans (((cell_far (p := ⟨gb1733, _, none⟩) NB1779_1733.out _).trans (hHeld.2.2.2.2.2.2))))))⟩ (fun hHeld => ?_)
  clear hK K
  refine pu 7 4 [8] ?_
  refine done_ (done_of HT_.out (by kernel_rfl)) ?_
  try go_wp2
  refine bodyPost_ret (results_list (rs := [.cell 2 50, .cell 3 29, .tmp 4]) rfl (by simp) (.cell gb1732 50 #[.int .i64 t1767, .string t1768, .slice Ao57 t1769.length co57, .string t1772] (0, 0) _ rfl (pt1 BK1732 NB1732_1733) Tryz.underlying50 rfl (by kernel_rfl) (.cell gb1733 29 #[.int .i64 t1773, .slice Ao62 t1774.length co62, .string t1777] (0, 0) _ rfl (pt1 BK1733 NB1733_1732) Tryz.underlying29 rfl (by kernel_rfl) (.tmp .nil)))) rfl ?_
  exact ⟨_, _, rf, rj (Kd.R_types (Kd.R_types HO1771.out BK1732.out (by decide)) BK1733.out (by decide)) (fun _ hk => hk.1.1), rj (Kd.R_types (Kd.R_types HO1776.out BK1732.out (by decide)) BK1733.out (by decide)) (fun _ hk => hk.1.1), u52HB⟩
 rw [if_pos c9] at H
 have c9b0 := decide_eq_true c9
 clear c9
 (first | rw [c9b0] | (simp only [i64_w, i32_w]; rw [c9b0]) | skip)
 revert H
 refine ok6 fun t1741 t1742 t1743 t1746 t1747 t1748 A10 H => ?_
 (try dsimp only at H)
 revert H
 refine ok1 fun t1750 A11 H => ?_
 revert H
 refine ok5 fun t1753 t1754 t1757 t1758 t1759 A12 H => ?_
 (try dsimp only at H)
 revert H
 refine ok1 fun t1761 A13 H => ?_
 revert H
 refine ok3 fun t1764 t1765 t1766 A14 H => ?_
 (try dsimp only at H)
 simp only [Option.some.injEq, Prod.mk.injEq] at H
 obtain ⟨rfl, rfl, rfl, rfl, rfl, rfl, rfl, rfl⟩ := H
 try go_wp2_with ((with_reducible refine gw ?_); first | (refine gl 16 Tryz.func122 #[.pointer (some ⟨g1737, 0, none⟩)] ?_; (with_reducible refine (spec_l3DrawReq.calls k g1737 t1734 t1739 t1740 t1741 t1742 t1743 t1746 t1747 t1748 w _ ?side1 ?side2 A10.out).mono ?_); (case side1 => exact u52HI1737); (case side2 => exact u52HB); rintro e w15 ⟨v1744, rfl, ho0, hi, hb, hk⟩; refine ⟨_, rfl, ?_⟩; replace BK1732 := kp BK1732 hk NB1732_1737; replace BK1733 := kp BK1733 hk NB1733_1737; have HO1745 := am (Kd.R_lower ho0 (below_size u52HB)); replace HB := am (hb); replace HI1737 := am (hi); clear hb hk hi ho0) | (refine bx 6 #[.int .i64 0, .string (⟨#[]⟩ : ByteArray), .slice none 0 0, .string (⟨#[]⟩ : ByteArray)] 50 ?_; intro gb1749 hg w16 hbox hb; have n0_ := am (Kd.R_below (ro HO1745) hb); have n1_ := kb BK1732 hb; have n2_ := kb BK1733 hb; have n3_ := am (IsS139.below u52HI1737 hb); have n4_ := am (below_step u52HB hb); have n5_ := am (hbox); have n6_ := am ((by rw [hg]; exact (below_size u52HB) : w.heap.size ≤ gb1749)); have n7_ := am ((by rw [hg]; exact (below_size u52HB) : w.heap.size ≤ gb1749)); have n8_ := am (nl hg BK1732 : gb1732 ≠ gb1749); have n9_ := am (ng hg BK1732 : gb1749 ≠ gb1732); have n10_ := am (nl hg BK1733 : gb1733 ≠ gb1749); have n11_ := am (ng hg BK1733 : gb1749 ≠ gb1733); have n12_ := am ((by rw [hg]; exact Nat.ne_of_lt (IsS139.lt (show IsS139 w _ g1737 t1734 t1747 t1748 from u52HI1737)) : g1737 ≠ gb1749)); have n13_ := am ((by rw [hg]; exact Nat.ne_of_gt (IsS139.lt (show IsS139 w _ g1737 t1734 t1747 t1748 from u52HI1737)) : gb1749 ≠ g1737)); clear HO1745; clear BK1732; clear BK1733; clear HI1737; clear HB; have HO1745 := n0_; have BK1732 := n1_; have BK1733 := n2_; have HI1737 := n3_; have HB := n4_; have BK1749 := n5_; have GW1749 := n6_; have GE1749 := n7_; have NB1732_1749 := n8_; have NB1749_1732 := n9_; have NB1733_1749 := n10_; have NB1749_1733 := n11_; have NB1737_1749 := n12_; have NB1749_1737 := n13_; clear n0_ n1_ n2_ n3_ n4_ n5_ n6_ n7_ n8_ n9_ n10_ n11_ n12_ n13_; clear hb hbox hg; have hnb17 := NB1749_1732.out; have hnc17 := NB1732_1749.out; have hnb18 := NB1749_1733.out; have hnc18 := NB1733_1749.out; have hnb19 := NB1749_1737.out; have hnc19 := NB1737_1749.out; obtain ⟨z20_0, y20_0, z20_1, y20_1, z20_2, y20_2, z20_3, y20_3⟩ := cl4 BK1749; obtain ⟨Ao21, co21, eo21⟩ := Kd.R_slice HO1745.out; subst eo21) | (refine gl 21 Tryz.func123 #[.slice Ao21 t1743.length co21, .string (⟨#[99, 97, 99, 104, 101, 45, 99, 111, 110, 116, 114, 111, 108]⟩ : ByteArray)] ?_; (with_reducible refine (spec_Drop.calls k _ _ t1743 (⟨#[99, 97, 99, 104, 101, 45, 99, 111, 110, 116, 114, 111, 108]⟩ : ByteArray) t1750 _ ?side1 ?side2 A11.out).mono ?_); (case side1 => refine (Kd.R_reads' (e := 116) (base := w.heap.size) (ok := fun k_ => True) (n := t1743.length) (c := co21) ?_).2.2; exact (rj (Kd.R_types HO1745.out BK1749.out (by decide)) (fun _ h_ => h_.1))); (case side2 => exact (Kd.R_reads' HO1745.out).2.1); rintro e w22 ⟨v1751, rfl, ho0, hb⟩; refine ⟨_, rfl, ?_⟩; have HO1752 := am (Kd.R_lower (Kd.R_new' ho0 (Kd.R_lt (rj (Kd.R_types HO1745.out BK1749.out (by decide)) (fun _ h_ => h_.1)))) (below_size u52HB)); replace HO1745 := am (Kd.R_elder' (rj (Kd.R_types HO1745.out BK1749.out (by decide)) (fun _ h_ => h_.1)) (Kd.R_base ho0) hb); replace BK1732 := kg1 BK1732 NB1732_1749 hb; replace BK1733 := kg1 BK1733 NB1733_1749 hb; replace HI1737 := am (IsS139.below (show IsS139 w ((((((w16.setCell ⟨gb1749, 0, none⟩ (.int .i64 t1741)).setCell ⟨gb1749, 1, none⟩ (.string t1742)).setCell ⟨gb1749, 2, none⟩ (.slice Ao21 t1743.length co21)).setCell ⟨gb1749, 3, none⟩ (.string t1746)).setCell ⟨gb1749, 0, none⟩ (.int .i64 1)).setCell ⟨gb1749, 3, none⟩ (.string (⟨#[]⟩ : ByteArray))) g1737 t1734 t1747 t1748 from u52HI1737) hb); replace BK1749 := am (blk_below (g := gb1749) (o := .cells #[.int .i64 1, .string t1742, .slice Ao21 t1743.length co21, .string (⟨#[]⟩ : ByteArray)] 50 (0, 0)) (pt0 BK1749) hb); replace HB := am (below_step u52HB hb); clear hb ho0; obtain ⟨Ao23, co23, eo23⟩ := Kd.R_slice HO1752.out; subst eo23; obtain ⟨z24_0, y24_0, z24_1, y24_1, z24_2, y24_2, z24_3, y24_3⟩ := cl4 BK1749) | (refine gl 24 Tryz.func124 #[.pointer (some ⟨g1737, 0, none⟩)] ?_; (with_reducible refine (spec_l3DrawResp.calls k g1737 t1734 t1747 t1748 t1753 t1754 t1757 t1758 t1759 w _ ?side1 ?side2 A12.out).mono ?_); (case side1 => exact u52HI1737); (case side2 => exact u52HB); rintro e w25 ⟨v1755, rfl, ho0, hi, hb, hk⟩; refine ⟨_, rfl, ?_⟩; replace BK1732 := am (KeepBut.blk hk (g' := gb1732) (o := .cells #[.int .i64 0, .string (⟨#[]⟩ : ByteArray), .slice none 0 0, .string (⟨#[]⟩ : ByteArray)] 50 (0, 0)) (bg1 BK1732 NB1732_1749) NB1732_1737.out (by simp)); replace BK1733 := am (KeepBut.blk hk (g' := gb1733) (o := .cells #[.int .i64 0, .slice none 0 0, .string (⟨#[]⟩ : ByteArray)] 29 (0, 0)) (bg1 BK1733 NB1733_1749) NB1733_1737.out (by simp)); have HO1756 := am (Kd.R_lower (Kd.R_new' (Kd.R_new' ho0 (Kd.R_lt (rj (Kd.R_types HO1745.out BK1749.out (by decide)) (fun _ h_ => h_.1)))) (Kd.R_lt (rj (Kd.R_types HO1752.out BK1749.out (by decide)) (fun _ h_ => h_.1)))) (below_size u52HB)); replace HO1745 := am (Kd.R_mono (Kd.R_told (Kd.R_oldK (IsS139.apart (show IsS139 w _ g1737 t1734 t1747 t1748 from u52HI1737) (rj (Kd.R_types HO1745.out BK1749.out (by decide)) (fun _ h_ => h_.1)) (by decide)) hk) (Kd.R_base ho0)) (fun _ h_ => h_.1)); replace HO1752 := am (Kd.R_mono (Kd.R_told (Kd.R_oldK (IsS139.apart (show IsS139 w _ g1737 t1734 t1747 t1748 from u52HI1737) (rj (Kd.R_types HO1752.out BK1749.out (by decide)) (fun _ h_ => h_.1)) (by decide)) hk) (Kd.R_base ho0)) (fun _ h_ => h_.1)); replace BK1749 := am (KeepBut.blk hk (g' := gb1749) (o := .cells #[.int .i64 1, .string t1742, .slice Ao23 t1750.length co23, .string (⟨#[]⟩ : ByteArray)] 50 (0, 0)) (pt0 BK1749) NB1749_1737.out (by simp)); replace HB := am (hb); replace HI1737 := am (hi); clear hb hk hi ho0) | (refine bx 7 #[.int .i64 0, .slice none 0 0, .string (⟨#[]⟩ : ByteArray)] 29 ?_; intro gb1760 hg w26 hbox hb; have n0_ := am (Kd.R_below (ro HO1745) hb); have n1_ := am (Kd.R_below (ro HO1752) hb); have n2_ := am (Kd.R_below (ro HO1756) hb); have n3_ := kb BK1732 hb; have n4_ := kb BK1733 hb; have n5_ := am (IsS139.below u52HI1737 hb); have n6_ := kb BK1749 hb; have n7_ := am (below_step u52HB hb); have n8_ := am (hbox); have n9_ := am ((by rw [hg]; exact (below_size u52HB) : w.heap.size ≤ gb1760)); have n10_ := am ((by rw [hg]; exact (below_size u52HB) : w.heap.size ≤ gb1760)); have n11_ := am (nl hg BK1732 : gb1732 ≠ gb1760); have n12_ := am (ng hg BK1732 : gb1760 ≠ gb1732); have n13_ := am (nl hg BK1733 : gb1733 ≠ gb1760); have n14_ := am (ng hg BK1733 : gb1760 ≠ gb1733); have n15_ := am (nl hg BK1749 : gb1749 ≠ gb1760); have n16_ := am (ng hg BK1749 : gb1760 ≠ gb1749); have n17_ := am ((by rw [hg]; exact Nat.ne_of_lt (IsS139.lt (show IsS139 w _ g1737 t1734 t1758 t1759 from u52HI1737)) : g1737 ≠ gb1760)); have n18_ := am ((by rw [hg]; exact Nat.ne_of_gt (IsS139.lt (show IsS139 w _ g1737 t1734 t1758 t1759 from u52HI1737)) : gb1760 ≠ g1737)); clear HO1745; clear HO1752; clear HO1756; clear BK1732; clear BK1733; clear HI1737; clear BK1749; clear HB; have HO1745 := n0_; have HO1752 := n1_; have HO1756 := n2_; have BK1732 := n3_; have BK1733 := n4_; have HI1737 := n5_; have BK1749 := n6_; have HB := n7_; have BK1760 := n8_; have GW1760 := n9_; have GE1760 := n10_; have NB1732_1760 := n11_; have NB1760_1732 := n12_; have NB1733_1760 := n13_; have NB1760_1733 := n14_; have NB1749_1760 := n15_; have NB1760_1749 := n16_; have NB1737_1760 := n17_; have NB1760_1737 := n18_; clear n0_ n1_ n2_ n3_ n4_ n5_ n6_ n7_ n8_ n9_ n10_ n11_ n12_ n13_ n14_ n15_ n16_ n17_ n18_; clear hb hbox hg; have hnb27 := NB1760_1732.out; have hnc27 := NB1732_1760.out; have hnb28 := NB1760_1733.out; have hnc28 := NB1733_1760.out; have hnb29 := NB1760_1749.out; have hnc29 := NB1749_1760.out; have hnb30 := NB1760_1737.out; have hnc30 := NB1737_1760.out; obtain ⟨z31_0, y31_0, z31_1, y31_1, z31_2, y31_2⟩ := cl3 BK1760; obtain ⟨Ao32, co32, eo32⟩ := Kd.R_slice HO1756.out; subst eo32) | (refine gl 28 Tryz.func103 #[.slice Ao32 t1754.length co32, .string (⟨#[99, 97, 99, 104, 101, 45, 99, 111, 110, 116, 114, 111, 108]⟩ : ByteArray), .string (⟨#[109, 97, 120, 45, 97, 103, 101, 61, 53]⟩ : ByteArray)] ?_; (with_reducible refine (spec_Put.calls k _ _ t1754 (⟨#[99, 97, 99, 104, 101, 45, 99, 111, 110, 116, 114, 111, 108]⟩ : ByteArray) (⟨#[109, 97, 120, 45, 97, 103, 101, 61, 53]⟩ : ByteArray) t1761 _ ?side1 ?side2 A13.out).mono ?_); (case side1 => refine (Kd.R_reads' (e := 116) (base := w.heap.size) (ok := fun k_ => ((True ∧ some k_ ≠ (.slice Ao21 t1743.length co21 : Value).ownBlock) ∧ some k_ ≠ (.slice Ao23 t1750.length co23 : Value).ownBlock)) (n := t1754.length) (c := co32) ?_).2.2; exact (rj (Kd.R_types HO1756.out BK1760.out (by decide)) (fun _ h_ => h_.1))); (case side2 => exact (Kd.R_reads' HO1756.out).2.1); rintro e w33 ⟨v1762, rfl, ho0, hb⟩; refine ⟨_, rfl, ?_⟩; have HO1763 := am (Kd.R_lower (Kd.R_new' (Kd.R_new' (Kd.R_new' ho0 (Kd.R_lt (rj (Kd.R_types HO1745.out BK1760.out (by decide)) (fun _ h_ => h_.1)))) (Kd.R_lt (rj (Kd.R_types HO1752.out BK1760.out (by decide)) (fun _ h_ => h_.1)))) (Kd.R_lt (rj (Kd.R_types HO1756.out BK1760.out (by decide)) (fun _ h_ => h_.1)))) (below_size u52HB)); replace HO1745 := am (Kd.R_elder' (rj (Kd.R_types HO1745.out BK1760.out (by decide)) (fun _ h_ => h_.1)) (Kd.R_base ho0) hb); replace HO1752 := am (Kd.R_elder' (rj (Kd.R_types HO1752.out BK1760.out (by decide)) (fun _ h_ => h_.1)) (Kd.R_base ho0) hb); replace HO1756 := am (Kd.R_elder' (rj (Kd.R_types HO1756.out BK1760.out (by decide)) (fun _ h_ => h_.1)) (Kd.R_base ho0) hb); replace BK1732 := kg1 BK1732 NB1732_1760 hb; replace BK1733 := kg1 BK1733 NB1733_1760 hb; replace HI1737 := am (IsS139.below (show IsS139 w ((((w26.setCell ⟨gb1760, 0, none⟩ (.int .i64 t1753)).setCell ⟨gb1760, 1, none⟩ (.slice Ao32 t1754.length co32)).setCell ⟨gb1760, 2, none⟩ (.string t1757)).setCell ⟨gb1760, 0, none⟩ (.int .i64 200)) g1737 t1734 t1758 t1759 from u52HI1737) hb); replace BK1749 := kg1 BK1749 NB1749_1760 hb; replace BK1760 := am (blk_below (g := gb1760) (o := .cells #[.int .i64 200, .slice Ao32 t1754.length co32, .string t1757] 29 (0, 0)) (pt0 BK1760) hb); replace HB := am (below_step u52HB hb); clear hb ho0; obtain ⟨Ao34, co34, eo34⟩ := Kd.R_slice HO1763.out; subst eo34; obtain ⟨z35_0, y35_0, z35_1, y35_1, z35_2, y35_2⟩ := cl3 BK1760))
 have n0_ : Aside0 (Kd.R k116 116 (w33.setCell ⟨gb1760, 1, none⟩ (.slice Ao34 t1761.length co34)) w.heap.size (fun k_ => some k_ ≠ (.slice Ao23 t1750.length co23 : Value).ownBlock ∧ some k_ ≠ (.slice Ao32 t1754.length co32 : Value).ownBlock ∧ some k_ ≠ (.slice Ao34 t1761.length co34 : Value).ownBlock) (.slice Ao21 t1743.length co21) t1743) := ⟨rj (Kd.R_types HO1745.out BK1760.out (by decide)) (fun _ hk => ⟨hk.1.1.1.2, ⟨hk.1.1.2, hk.1.2⟩⟩)⟩
 have n1_ : Aside0 (Kd.R k116 116 (w33.setCell ⟨gb1760, 1, none⟩ (.slice Ao34 t1761.length co34)) w.heap.size (fun k_ => some k_ ≠ (.slice Ao21 t1743.length co21 : Value).ownBlock ∧ some k_ ≠ (.slice Ao32 t1754.length co32 : Value).ownBlock ∧ some k_ ≠ (.slice Ao34 t1761.length co34 : Value).ownBlock) (.slice Ao23 t1750.length co23) t1750) := ⟨rj (Kd.R_types HO1752.out BK1760.out (by decide)) (fun _ hk => ⟨hk.1.1.1.2, ⟨hk.1.1.2, hk.1.2⟩⟩)⟩
 have n2_ : Aside0 (Kd.R k116 116 (w33.setCell ⟨gb1760, 1, none⟩ (.slice Ao34 t1761.length co34)) w.heap.size (fun k_ => some k_ ≠ (.slice Ao21 t1743.length co21 : Value).ownBlock ∧ some k_ ≠ (.slice Ao23 t1750.length co23 : Value).ownBlock ∧ some k_ ≠ (.slice Ao34 t1761.length co34 : Value).ownBlock) (.slice Ao32 t1754.length co32) t1754) := ⟨rj (Kd.R_types HO1756.out BK1760.out (by decide)) (fun _ hk => ⟨hk.1.1.1.2, ⟨hk.1.1.2, hk.1.2⟩⟩)⟩
 have n3_ : Aside0 (Kd.R k116 116 (w33.setCell ⟨gb1760, 1, none⟩ (.slice Ao34 t1761.length co34)) w.heap.size (fun k_ => some k_ ≠ (.slice Ao21 t1743.length co21 : Value).ownBlock ∧ some k_ ≠ (.slice Ao23 t1750.length co23 : Value).ownBlock ∧ some k_ ≠ (.slice Ao32 t1754.length co32 : Value).ownBlock) (.slice Ao34 t1761.length co34) t1761) := ⟨rj (Kd.R_types HO1763.out BK1760.out (by decide)) (fun _ hk => ⟨hk.1.1.1.2, ⟨hk.1.1.2, hk.1.2⟩⟩)⟩
 have n4_ : Aside0 ((w33.setCell ⟨gb1760, 1, none⟩ (.slice Ao34 t1761.length co34)).heap[gb1732]? = some (.cells #[.int .i64 0, .string (⟨#[]⟩ : ByteArray), .slice none 0 0, .string (⟨#[]⟩ : ByteArray)] 50 (0, 0))) := ⟨by (with_reducible repeat (first | refine blk_drewN ?_ _ | refine blk_drew ?_ | refine blk_alloc ?_ _)); refine blk_far ?_ NB1732_1760.out _; (with_reducible repeat (first | refine blk_drewN ?_ _ | refine blk_drew ?_ | refine blk_alloc ?_ _)); exact BK1732.out⟩
 have n5_ : Aside0 ((w33.setCell ⟨gb1760, 1, none⟩ (.slice Ao34 t1761.length co34)).heap[gb1733]? = some (.cells #[.int .i64 0, .slice none 0 0, .string (⟨#[]⟩ : ByteArray)] 29 (0, 0))) := ⟨by (with_reducible repeat (first | refine blk_drewN ?_ _ | refine blk_drew ?_ | refine blk_alloc ?_ _)); refine blk_far ?_ NB1733_1760.out _; (with_reducible repeat (first | refine blk_drewN ?_ _ | refine blk_drew ?_ | refine blk_alloc ?_ _)); exact BK1733.out⟩
 have n6_ : Aside0 ((w33.setCell ⟨gb1760, 1, none⟩ (.slice Ao34 t1761.length co34)).heap[gb1749]? = some (.cells #[.int .i64 1, .string t1742, .slice Ao23 t1750.length co23, .string (⟨#[]⟩ : ByteArray)] 50 (0, 0))) := ⟨by (with_reducible repeat (first | refine blk_drewN ?_ _ | refine blk_drew ?_ | refine blk_alloc ?_ _)); refine blk_far ?_ NB1749_1760.out _; (with_reducible repeat (first | refine blk_drewN ?_ _ | refine blk_drew ?_ | refine blk_alloc ?_ _)); exact BK1749.out⟩
 have n7_ : Aside0 ((w33.setCell ⟨gb1760, 1, none⟩ (.slice Ao34 t1761.length co34)).heap[gb1760]? = some (.cells #[.int .i64 200, .slice Ao34 t1761.length co34, .string t1757] 29 (0, 0))) := ⟨pt0 BK1760⟩
 have n8_ : Aside0 (IsS139 w (w33.setCell ⟨gb1760, 1, none⟩ (.slice Ao34 t1761.length co34)) g1737 t1734 t1758 t1759) := ⟨u52HI1737⟩
 have n9_ : Aside0 (Below w.heap.size w (w33.setCell ⟨gb1760, 1, none⟩ (.slice Ao34 t1761.length co34))) := ⟨u52HB⟩
 (try clear HO1745)
 (try clear HO1752)
 (try clear HO1756)
 (try clear HO1763)
 (try clear BK1732)
 (try clear BK1733)
 (try clear BK1749)
 (try clear BK1760)
 (try clear HI1737)
 (try clear HB)
 generalize (w33.setCell ⟨gb1760, 1, none⟩ (.slice Ao34 t1761.length co34)) = w36 at n0_ n1_ n2_ n3_ n4_ n5_ n6_ n7_ n8_ n9_ ⊢
 have HO1745 := n0_
 have HO1752 := n1_
 have HO1756 := n2_
 have HO1763 := n3_
 have BK1732 := n4_
 have BK1733 := n5_
 have BK1749 := n6_
 have BK1760 := n7_
 have HI1737 := n8_
 have HB := n9_
 clear n0_ n1_ n2_ n3_ n4_ n5_ n6_ n7_ n8_ n9_
 replace HO1745 := am (Kd.R_drew HO1745.out)
 replace HO1752 := am (Kd.R_drew HO1752.out)
 replace HO1756 := am (Kd.R_drew HO1756.out)
 replace HO1763 := am (Kd.R_drew HO1763.out)
 replace BK1732 := am (blk_drew BK1732.out)
 replace BK1733 := am (blk_drew BK1733.out)
 replace BK1749 := am (blk_drew BK1749.out)
 replace BK1760 := am (blk_drew BK1760.out)
 replace HI1737 := am (IsS139.drew HI1737.out)
 replace HB := am (below_drew1 HB.out)
 refine start_ (n := 7) (S := fun w' => w'.cell? ⟨gb1749, 0, none⟩ = some (.int .i64 1) ∧ w'.cell? ⟨gb1749, 1, none⟩ = some (.string t1742) ∧ w'.cell? ⟨gb1749, 2, none⟩ = some (.slice Ao23 t1750.length co23) ∧ w'.cell? ⟨gb1749, 3, none⟩ = some (.string (⟨#[]⟩ : ByteArray)) ∧ w'.cell? ⟨gb1760, 0, none⟩ = some (.int .i64 200) ∧ w'.cell? ⟨gb1760, 1, none⟩ = some (.slice Ao34 t1761.length co34) ∧ w'.cell? ⟨gb1760, 2, none⟩ = some (.string t1757)) (ds := []) ⟨br true [0, 7]⟩ (by kernel_rfl) rfl (by kernel_rfl) ⟨bc BK1749, bc BK1749, bc BK1749, bc BK1749, bc BK1760, bc BK1760, bc BK1760⟩ (fun hHeld => ?_)
 generalize w36.drew = w37 at HO1745 HO1752 HO1756 HO1763 BK1732 BK1733 BK1749 BK1760 HI1737 HB hHeld ⊢
 refine pu 2 32 [0, 2, 1, 4] ?_
 refine tk 0 30 [1, 1, 1, 4] ?_
 refine tk 1 31 [3, 4] ?_
 refine og 3 33 [4, 3] Tryz.func125 #[.pointer (some ⟨g1737, 0, none⟩)] (fun K hK => ?_)
 with_reducible refine (spec_l7DrawTime.calls g1737 t1734 t1758 t1759 t1764 t1765 t1766 w _ ?side1 ?side2 A14.out).mono ?_
 (case side1 => exact u52HI1737)
 (case side2 => exact u52HB)
 rintro e w38 ⟨rfl, hi, hb, hk⟩
 refine ⟨_, rfl, ?_⟩
 replace BK1732 := kp BK1732 hk NB1732_1737
 replace BK1733 := kp BK1733 hk NB1733_1737
 replace HO1745 := am (Kd.R_mono (Kd.R_keep (IsS139.apart (show IsS139 w _ g1737 t1734 t1758 t1759 from u52HI1737) (ro HO1745) (by decide)) hk (fun _ h => h.2)) (fun _ h => h.1))
 replace BK1749 := kp BK1749 hk NB1749_1737
 replace HO1752 := am (Kd.R_mono (Kd.R_keep (IsS139.apart (show IsS139 w _ g1737 t1734 t1758 t1759 from u52HI1737) (ro HO1752) (by decide)) hk (fun _ h => h.2)) (fun _ h => h.1))
 replace HO1756 := am (Kd.R_mono (Kd.R_keep (IsS139.apart (show IsS139 w _ g1737 t1734 t1758 t1759 from u52HI1737) (ro HO1756) (by decide)) hk (fun _ h => h.2)) (fun _ h => h.1))
 replace BK1760 := kp BK1760 hk NB1760_1737
 replace HO1763 := am (Kd.R_mono (Kd.R_keep (IsS139.apart (show IsS139 w _ g1737 t1734 t1758 t1759 from u52HI1737) (ro HO1763) (by decide)) hk (fun _ h => h.2)) (fun _ h => h.1))
 replace HB := am (hb)
 replace HI1737 := am (hi)
 clear hb hk hi
 refine hK.out _ _ ⟨bc BK1749, bc BK1749, bc BK1749, bc BK1749, bc BK1760, bc BK1760, bc BK1760⟩ (fun hHeld => ?_)
 clear hK K
 refine nm 33 ?_
 refine one_ (i := 4) (N := none) #[true, true, true, true, true, false, false] rfl rfl (by kernel_rfl) (by decide) (fun K hK => ?_)
 have hs39 : w38.cell? ⟨gb1732, 0, none⟩ = some (.int .i64 0) := bc BK1732
 have hfs39 := blk_frozen BK1732.out 0
 have hns39_1 := NB1733_1732.out
 have hns39_2 := NB1749_1732.out
 have hns39_3 := NB1760_1732.out
 have hms39_1 := NB1732_1733.out
 have hms39_2 := NB1732_1749.out
 have hms39_3 := NB1732_1760.out
 have hs40 : w38.cell? ⟨gb1732, 1, none⟩ = some (.string (⟨#[]⟩ : ByteArray)) := bc BK1732
 have hfs40 := blk_frozen BK1732.out 1
 have hns40_1 := NB1733_1732.out
 have hns40_2 := NB1749_1732.out
 have hns40_3 := NB1760_1732.out
 have hms40_1 := NB1732_1733.out
 have hms40_2 := NB1732_1749.out
 have hms40_3 := NB1732_1760.out
 have hs41 : w38.cell? ⟨gb1732, 2, none⟩ = some (.slice none 0 0) := bc BK1732
 have hfs41 := blk_frozen BK1732.out 2
 have hns41_1 := NB1733_1732.out
 have hns41_2 := NB1749_1732.out
 have hns41_3 := NB1760_1732.out
 have hms41_1 := NB1732_1733.out
 have hms41_2 := NB1732_1749.out
 have hms41_3 := NB1732_1760.out
 have hs42 : w38.cell? ⟨gb1732, 3, none⟩ = some (.string (⟨#[]⟩ : ByteArray)) := bc BK1732
 have hfs42 := blk_frozen BK1732.out 3
 have hns42_1 := NB1733_1732.out
 have hns42_2 := NB1749_1732.out
 have hns42_3 := NB1760_1732.out
 have hms42_1 := NB1732_1733.out
 have hms42_2 := NB1732_1749.out
 have hms42_3 := NB1732_1760.out
 refine skip_ (w1 := ?_) (by rfl) rfl ?_ ?_
 rotate_left
 ·go_simp
  rfl
 refine hK.out _ _ ⟨((cell_far (p := ⟨gb1732, _, none⟩) NB1749_1732.out _).trans (((cell_far (p := ⟨gb1732, _, none⟩) NB1749_1732.out _).trans (((cell_far (p := ⟨gb1732, _, none⟩) NB1749_1732.out _).trans (((cell_far (p := ⟨gb1732, _, none⟩) NB1749_1732.out _).trans (hHeld.1)))))))), ((cell_far (p := ⟨gb1732, _, none⟩) NB1749_1732.out _).trans (((cell_far (p := ⟨gb1732, _, none⟩) NB1749_1732.out _).trans (((cell_far (p := ⟨gb1732, _, none⟩) NB1749_1732.out _).trans (((cell_far (p := ⟨gb1732, _, none⟩) NB1749_1732.out _).trans (hHeld.2.1)))))))), ((cell_far (p := ⟨gb1732, _, none⟩) NB1749_1732.out _).trans (((cell_far (p := ⟨gb1732, _, none⟩) NB1749_1732.out _).trans (((cell_far (p := ⟨gb1732, _, none⟩) NB1749_1732.out _).trans (((cell_far (p := ⟨gb1732, _, none⟩) NB1749_1732.out _).trans (hHeld.2.2.1)))))))), ((cell_far (p := ⟨gb1732, _, none⟩) NB1749_1732.out _).trans (((cell_far (p := ⟨gb1732, _, none⟩) NB1749_1732.out _).trans (((cell_far (p := ⟨gb1732, _, none⟩) NB1749_1732.out _).trans (((cell_far (p := ⟨gb1732, _, none⟩) NB1749_1732.out _).trans (hHeld.2.2.2.1)))))))), ((cell_far (p := ⟨gb1732, _, none⟩) NB1760_1732.out _).trans (((cell_far (p := ⟨gb1732, _, none⟩) NB1760_1732.out _).trans (((cell_far (p := ⟨gb1732, _, none⟩) NB1760_1732.out _).trans (((cell_far (p := ⟨gb1732, _, none⟩) NB1760_1732.out _).trans (hHeld.2.2.2.2.1)))))))), ((cell_far (p := ⟨gb1732, _, none⟩) NB1760_1732.out _).trans (((cell_far (p := ⟨gb1732, _, none⟩) NB1760_1732.out _).trans (((cell_far (p := ⟨gb1732, _, none⟩) NB1760_1732.out _).trans (((cell_far (p := ⟨gb1732, _, none⟩) NB1760_1732.out _).trans (hHeld.2.2.2.2.2.1)))))))), ((cell_far (p := ⟨gb1732, _, none⟩) NB1760_1732.out _).trans (((cell_far (p := ⟨gb1732, _, none⟩) NB1760_1732.out _).trans (((cell_far (p := ⟨gb1732, _, none⟩) NB1760_1732.out _).trans (((cell_far (p := ⟨gb1732, _, none⟩) NB1760_1732.out _).trans (hHeld.2.2.2.2.2.2))))))))⟩ (fun hHeld => ?_)
 clear hK K
 refine one_ (i := 5) (N := none) #[true, true, true, true, true, true, false] rfl rfl (by kernel_rfl) (by decide) (fun K hK => ?_)
 have hs43 : w38.cell? ⟨gb1733, 0, none⟩ = some (.int .i64 0) := bc BK1733
 have hfs43 := blk_frozen BK1733.out 0
 have hns43_0 := NB1732_1733.out
 have hns43_2 := NB1749_1733.out
 have hns43_3 := NB1760_1733.out
 have hms43_0 := NB1733_1732.out
 have hms43_2 := NB1733_1749.out
 have hms43_3 := NB1733_1760.out
 have hs44 : w38.cell? ⟨gb1733, 1, none⟩ = some (.slice none 0 0) := bc BK1733
 have hfs44 := blk_frozen BK1733.out 1
 have hns44_0 := NB1732_1733.out
 have hns44_2 := NB1749_1733.out
 have hns44_3 := NB1760_1733.out
 have hms44_0 := NB1733_1732.out
 have hms44_2 := NB1733_1749.out
 have hms44_3 := NB1733_1760.out
 have hs45 : w38.cell? ⟨gb1733, 2, none⟩ = some (.string (⟨#[]⟩ : ByteArray)) := bc BK1733
 have hfs45 := blk_frozen BK1733.out 2
 have hns45_0 := NB1732_1733.out
 have hns45_2 := NB1749_1733.out
 have hns45_3 := NB1760_1733.out
 have hms45_0 := NB1733_1732.out
 have hms45_2 := NB1733_1749.out
 have hms45_3 := NB1733_1760.out
 refine skip_ (w1 := ?_) (by rfl) rfl ?_ ?_
 rotate_left
 ·go_simp
  rfl
 refine hK.out _ _ ⟨((cell_far (p := ⟨gb1733, _, none⟩) NB1749_1733.out _).trans (((cell_far (p := ⟨gb1733, _, none⟩) NB1749_1733.out _).trans (((cell_far (p := ⟨gb1733, _, none⟩) NB1749_1733.out _).trans (hHeld.1)))))), ((cell_far (p := ⟨gb1733, _, none⟩) NB1749_1733.out _).trans (((cell_far (p := ⟨gb1733, _, none⟩) NB1749_1733.out _).trans (((cell_far (p := ⟨gb1733, _, none⟩) NB1749_1733.out _).trans (hHeld.2.1)))))), ((cell_far (p := ⟨gb1733, _, none⟩) NB1749_1733.out _).trans (((cell_far (p := ⟨gb1733, _, none⟩) NB1749_1733.out _).trans (((cell_far (p := ⟨gb1733, _, none⟩) NB1749_1733.out _).trans (hHeld.2.2.1)))))), ((cell_far (p := ⟨gb1733, _, none⟩) NB1749_1733.out _).trans (((cell_far (p := ⟨gb1733, _, none⟩) NB1749_1733.out _).trans (((cell_far (p := ⟨gb1733, _, none⟩) NB1749_1733.out _).trans (hHeld.2.2.2.1)))))), ((cell_far (p := ⟨gb1733, _, none⟩) NB1760_1733.out _).trans (((cell_far (p := ⟨gb1733, _, none⟩) NB1760_1733.out _).trans (((cell_far (p := ⟨gb1733, _, none⟩) NB1760_1733.out _).trans (hHeld.2.2.2.2.1)))))), ((cell_far (p := ⟨gb1733, _, none⟩) NB1760_1733.out _).trans (((cell_far (p := ⟨gb1733, _, none⟩) NB1760_1733.out _).trans (((cell_far (p := ⟨gb1733, _, none⟩) NB1760_1733.out _).trans (hHeld.2.2.2.2.2.1)))))), ((cell_far (p := ⟨gb1733, _, none⟩) NB1760_1733.out _).trans (((cell_far (p := ⟨gb1733, _, none⟩) NB1760_1733.out _).trans (((cell_far (p := ⟨gb1733, _, none⟩) NB1760_1733.out _).trans (hHeld.2.2.2.2.2.2))))))⟩ (fun hHeld => ?_)
 clear hK K
 refine pu 6 4 [7] ?_
 refine done_ (by kernel_rfl) ?_
 try go_wp2
 refine bodyPost_ret (results_list (rs := [.cell 2 50, .cell 3 29, .tmp 4]) rfl (by simp) (.cell gb1732 50 #[.int .i64 1, .string t1742, .slice Ao23 t1750.length co23, .string (⟨#[]⟩ : ByteArray)] (0, 0) _ rfl (pt1 BK1732 NB1732_1733) Tryz.underlying50 rfl (by kernel_rfl) (.cell gb1733 29 #[.int .i64 200, .slice Ao34 t1761.length co34, .string t1757] (0, 0) _ rfl (pt1 BK1733 NB1733_1732) Tryz.underlying29 rfl (by kernel_rfl) (.tmp .nil)))) rfl ?_
 exact ⟨_, _, rf, rj (Kd.R_types (Kd.R_types HO1752.out BK1732.out (by decide)) BK1733.out (by decide)) (fun _ hk => hk.1.1.2.2), rj (Kd.R_types (Kd.R_types HO1763.out BK1732.out (by decide)) BK1733.out (by decide)) (fun _ hk => hk.1.1.2.1), u52HB⟩

/-! ### slices_Index_string_string: function 166 -/
def slices_Index_string_string.l0 : Nat → List ByteArray → ByteArray → Int → Int → Option (Int)
 | 0, _, _, _, _ => none
 | k + 1, x0, x1, x7, x8 => if x8 < x7 then (if 0 ≤ x8 then (if x8 < (x0.length : Int) then (if x1.toList = (rdOf ByteArray.empty x0 x8).toList then (some x8) else (slices_Index_string_string.l0 k x0 x1 x7 (wrap64 (x8 + 1)))) else (none)) else (none)) else (some (-1))
def slices_Index_string_string.f (k : Nat) (l0 : List ByteArray) (a1 : ByteArray) : Option (Int) := slices_Index_string_string.l0 k l0 a1 (l0.length : Int) 0
set_option maxHeartbeats 8000000 in
set_option maxRecDepth 100000 in
theorem slices_Index_string_string.calls (k : Nat) (A0 : Option Addr) (c0 : Nat) (l0 : List ByteArray) (a1 : ByteArray) (r : Int) (w : World) (hr0 : Kd.C Kd.string w A0 l0.length l0) (hc0 : l0.length ≤ c0) (h : slices_Index_string_string.f k l0 a1 = some r) :
  Calls Tryz.prog 166 #[.slice A0 l0.length c0, .string a1] w fun e w' => e = .returned (.int .i64 r) ∧ Drawn0 w w' := by
 have HR0 := am hr0
 have HC0 := am hc0
 clear hr0 hc0
 unfold slices_Index_string_string.f at h
 have H := h
 clear h
 have H' := am H
 clear H
 go_enter Tryz.func166, Tryz.ntmps166
 go_wp2
 (try simp only [Act.put, List.setIfInBounds_toArray, List.set_cons_zero, List.set_cons_succ])
 go_loopg [8] k (fun kq v8 w' => ∃ (x8_1 : Int), v8 = .int .i64 x8_1 ∧ Aside0 (slices_Index_string_string.l0 kq l0 a1 (l0.length : Int) x8_1 = some r) ∧ Aside0 (kq ≤ k) ∧ Drawn0 w w')
 case atStart => exact ⟨(0), rs, H', ⟨Nat.le_refl _⟩, dr⟩
 case round =>
  clear H'
  try clear c1
  try clear p2
  obtain ⟨x8_1, rfl, HA, HK1, ⟨m1, rfl⟩⟩ := hrel
  cases gk with
  | zero => exact absurd HA.out (by simp [slices_Index_string_string.l0])
  | succ k1 =>
   have H := HA.out
   clear HA
   simp only [slices_Index_string_string.l0] at H
   by_cases c3 : x8_1 < (l0.length : Int)
   rotate_left
   ·rw [if_neg c3] at H
    have c3b0 := decide_eq_false c3
    clear c3
    obtain rfl := Option.some.inj H
    go_wp2
    go_ret
    exact ⟨rs, dr⟩
   rw [if_pos c3] at H
   have c3b0 := decide_eq_true c3
   clear c3
   revert H
   refine ifn fun c4 H => ?_
   have c4b0 := decide_eq_true c4
   clear c4
   revert H
   refine ifn fun c5 H => ?_
   have c5b0 := decide_eq_true c5
   clear c5
   by_cases c6 : a1.toList = (rdOf ByteArray.empty l0 x8_1).toList
   ·rw [if_pos c6] at H
    have c6b0 : (a1.toList == (rdOf ByteArray.empty l0 x8_1).toList) = true := beq_iff_eq.mpr c6
    have c6b1 : (a1.toList != (rdOf ByteArray.empty l0 x8_1).toList) = false := bne_eq_false_iff_eq.mpr c6
    clear c6
    obtain rfl := Option.some.inj H
    have p1787 : 0 ≤ (x8_1 : Int) := od
    have q1787 : x8_1 < (l0.length : Int) := od
    obtain ⟨ad1787, e1787, hx1787_0⟩ := Kd.at_string HR0.out x8_1 p1787 q1787
    cases e1787
    replace p1787 := eq_true p1787
    replace q1787 := eq_true q1787
    go_wp2
    go_ret
    exact ⟨rs, dr⟩
   rw [if_neg c6] at H
   have c6b0 : (a1.toList == (rdOf ByteArray.empty l0 x8_1).toList) = false := beq_eq_false_iff_ne.mpr c6
   have c6b1 : (a1.toList != (rdOf ByteArray.empty l0 x8_1).toList) = true := bne_iff_ne.mpr c6
   have H' := am H
   clear H
   have p1787 : 0 ≤ (x8_1 : Int) := od
   have q1787 : x8_1 < (l0.length : Int) := od
   obtain ⟨ad1787, e1787, hx1787_0⟩ := Kd.at_string HR0.out x8_1 p1787 q1787
   cases e1787
   replace p1787 := eq_true p1787
   replace q1787 := eq_true q1787
   go_wp2
   go_roundg k1
   case measure => have := HK1.out; omega
   case rel => exact ⟨(wrap64 (x8_1 + 1)), rs, H', ⟨by have := HK1.out; omega⟩, dr⟩

/-! ### slices_Contains_string_string: function 126 -/
def slices_Contains_string_string.f (k : Nat) (l0 : List ByteArray) (a1 : ByteArray) : Option (Bool) := (slices_Index_string_string.f k l0 a1).bind fun t1788 => (some (decide (t1788 ≥ 0)))
set_option maxHeartbeats 8000000 in
set_option maxRecDepth 100000 in
theorem slices_Contains_string_string.calls (k : Nat) (A0 : Option Addr) (c0 : Nat) (l0 : List ByteArray) (a1 : ByteArray) (r : Bool) (w : World) (hr0 : Kd.C Kd.string w A0 l0.length l0) (hc0 : l0.length ≤ c0) (h : slices_Contains_string_string.f k l0 a1 = some r) :
  Calls Tryz.prog 126 #[.slice A0 l0.length c0, .string a1] w fun e w' => e = .returned (.bool r) ∧ Drawn0 w w' := by
 have HR0 := am hr0
 have HC0 := am hc0
 clear hr0 hc0
 unfold slices_Contains_string_string.f at h
 have H := h
 clear h
 revert H
 refine ok1 fun t1788 A3 H => ?_
 obtain rfl := Option.some.inj H
 go_enter Tryz.func126, Tryz.ntmps126
 go_wp2_with ((with_reducible refine gw ?_); first | (refine gl 7 Tryz.func166 #[.slice A0 l0.length c0, .string a1] ?_; (with_reducible refine (slices_Index_string_string.calls k _ _ l0 a1 t1788 _ ?side1 ?side2 A3.out).mono ?_); (case side1 => exact cc HR0); (case side2 => exact HC0.out); rintro e w' ⟨rfl, ⟨nd, rfl⟩⟩; refine ⟨_, rfl, ?_⟩))
 go_ret
 exact ⟨rs, dr⟩

/-! ### impl_Suits: function 53 -/
def impl_Suits.f (k : Nat) (l0 : List ByteArray) (l1 : List ByteArray) (l2 : List (S116)) : Option (Bool) := (slices_Contains_string_string.f k l0 (⟨#[42]⟩ : ByteArray)).bind fun t1789 => (if t1789 = true then (some false) else ((impl_ValuesOf.f k l0 l2).bind fun t1790 => ((slices_Equal_string_string.f k t1790 l1).bind fun t1793 => (some t1793))))
set_option maxHeartbeats 8000000 in
set_option maxRecDepth 100000 in
theorem impl_Suits.calls (k : Nat) (A0 : Option Addr) (c0 : Nat) (l0 : List ByteArray) (A1 : Option Addr) (c1 : Nat) (l1 : List ByteArray) (A2 : Option Addr) (c2 : Nat) (l2 : List (S116)) (r : Bool) (w : World) (hr0 : Kd.C Kd.string w A0 l0.length l0) (hc0 : l0.length ≤ c0) (hr1 : Kd.C Kd.string w A1 l1.length l1) (hc1 : l1.length ≤ c1) (hr2 : Kd.C k116 w A2 l2.length l2) (hc2 : l2.length ≤ c2) (h : impl_Suits.f k l0 l1 l2 = some r) :
  Calls Tryz.prog 53 #[.slice A0 l0.length c0, .slice A1 l1.length c1, .slice A2 l2.length c2] w fun e w' => e = .returned (.bool r) ∧ Below w.heap.size w w' := by
 have HR0 := am hr0
 have HC0 := am hc0
 clear hr0 hc0
 have HR1 := am hr1
 have HC1 := am hc1
 clear hr1 hc1
 have HR2 := am hr2
 have HC2 := am hc2
 clear hr2 hc2
 have HB := am (Below.refl w.heap.size w)
 unfold impl_Suits.f at h
 have H := h
 clear h
 revert H
 refine ok1 fun t1789 A4 H => ?_
 by_cases c5 : t1789 = true
 ·subst c5
  rw [if_pos rfl] at H
  obtain rfl := Option.some.inj H
  go_enter Tryz.func53, Tryz.ntmps53
  go_wp2_with ((with_reducible refine gw ?_); first | (refine gl 8 Tryz.func126 #[.slice A0 l0.length c0, .string (⟨#[42]⟩ : ByteArray)] ?_; (with_reducible refine (slices_Contains_string_string.calls k _ _ l0 (⟨#[42]⟩ : ByteArray) true _ ?side1 ?side2 A4.out).mono ?_); (case side1 => exact cc HR0); (case side2 => exact HC0.out); rintro e w' ⟨rfl, ⟨nd, rfl⟩⟩; refine ⟨_, rfl, ?_⟩))
  go_ret
  exact ⟨rf, bl⟩
 replace c5 := Bool.eq_false_iff.mpr c5
 subst c5
 rw [if_neg (show ¬ (false = true) by decide)] at H
 revert H
 refine ok1 fun t1790 A6 H => ?_
 revert H
 refine ok1 fun t1793 A7 H => ?_
 obtain rfl := Option.some.inj H
 go_enter Tryz.func53, Tryz.ntmps53
 go_wp2_with (first | ((with_reducible refine gw ?_); first | (refine gl 8 Tryz.func126 #[.slice A0 l0.length c0, .string (⟨#[42]⟩ : ByteArray)] ?_; (with_reducible refine (slices_Contains_string_string.calls k _ _ l0 (⟨#[42]⟩ : ByteArray) false _ ?side1 ?side2 A4.out).mono ?_); (case side1 => exact cc HR0); (case side2 => exact HC0.out); rintro e w' ⟨rfl, ⟨nd, rfl⟩⟩; refine ⟨_, rfl, ?_⟩)) | (go_at_call 119; (with_reducible refine (impl_ValuesOf.calls k _ _ l0 _ _ l2 t1790 _ ?side1 ?side2 ?side3 ?side4 A6.out).mono ?_); (case side1 => exact cc HR0); (case side2 => exact HC0.out); (case side3 => exact cc HR2); (case side4 => exact HC2.out); rintro e w8 ⟨v1791, rfl, ho0, hb⟩; have HO1792 := am (Kd.R_lower ho0 (below_size bl)); replace HB := am (below_step bl hb); clear hb ho0; obtain ⟨Ao9, co9, eo9⟩ := Kd.R_slice HO1792.out; subst eo9) | (go_at_call 72; (with_reducible refine (slices_Equal_string_string.calls k _ _ t1790 _ _ l1 t1793 _ ?side1 ?side2 ?side3 ?side4 A7.out).mono ?_); (case side1 => exact rc HO1792); (case side2 => exact (Kd.R_reads' HO1792.out).2.1); (case side3 => exact cb HR1); (case side4 => exact HC1.out); rintro e w' ⟨rfl, ⟨nd, rfl⟩⟩))
 go_ret
 exact ⟨rf, bl⟩

end Go.Proofs.YtjlpjbkpmmpojaaGreatDoor.All
