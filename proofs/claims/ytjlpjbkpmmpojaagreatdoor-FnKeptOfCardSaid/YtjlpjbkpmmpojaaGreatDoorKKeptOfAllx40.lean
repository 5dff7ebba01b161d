-- Written by a program of this session (wip/tools/hprint.py) out of the translation. Lean checks it.
import Derived.Test.YtjlpjbkpmmpojaaGreatDoorKKeptOfAllx0
import Derived.Test.YtjlpjbkpmmpojaaGreatDoorKKeptOfAllx2
import Derived.Test.YtjlpjbkpmmpojaaGreatDoorKKeptOfAllx13
import Derived.Test.YtjlpjbkpmmpojaaGreatDoorKKeptOfAllx14
import Derived.Test.YtjlpjbkpmmpojaaGreatDoorKKeptOfAllx25
import Derived.Test.YtjlpjbkpmmpojaaGreatDoorKKeptOfAllx26
import Derived.Test.YtjlpjbkpmmpojaaGreatDoorKKeptOfAllx36
import Derived.Test.YtjlpjbkpmmpojaaGreatDoorKKeptOfAllx39
namespace Go.Proofs.YtjlpjbkpmmpojaaGreatDoor.All
open Go.RowKit Go.Proofs.YtjlpjbkpmmpojaaGreatDoorW.PrintWords Go.Proofs.YtjlpjbkpmmpojaaGreatDoorW.PrintLast Go.Proofs.YtjlpjbkpmmpojaaGreatDoorW.PrintMore
attribute [local go_sem] max2_int min2_int max_two min_two max_three min_three max_four min_four  -- for this text's walks alone
set_option linter.unusedVariables false
set_option linter.unusedSimpArgs false

/-! ### laws_FnKeptOf: function 8 -/
theorem u8HB {p : Prop} (h : p := by repeat (first | (with_reducible first | exact HB.out | apply below_alloc | apply pw_below_drewN | apply below_drew1 | refine below_set ?_ GE1807.out | refine below_set ?_ GE1808.out | refine below_set ?_ GE1823.out | refine below_set ?_ GE1838.out) | exact HB.out)) : p := h
def laws_FnKeptOf.f (k : Nat) (l0 : List Int) : Option (Bool) := (laws_big.f l0).bind fun t1794 => (if t1794 = true then (some true) else ((spec_DrawObjOf.f k l0).bind fun bt1795 => ((impl_ObjOf.f k bt1795.1 bt1795.2.1 bt1795.2.2.1 bt1795.2.2.2.1 bt1795.2.2.2.2.1 bt1795.2.2.2.2.2.1 bt1795.2.2.2.2.2.2.1 bt1795.2.2.2.2.2.2.2).bind fun bt1809 => ((spec_ObjOf.f k bt1795.1 bt1795.2.1 bt1795.2.2.1 bt1795.2.2.2.1 bt1795.2.2.2.2.1 bt1795.2.2.2.2.2.1 bt1795.2.2.2.2.2.2.1 bt1795.2.2.2.2.2.2.2).bind fun bt1824 => (if (bt1809.2.2.2.2.2.2.2 != bt1824.2.2.2.2.2.2.2) = true then (some false) else (if bt1809.2.2.2.2.2.2.2 = true then ((impl_MayKeep.f k bt1795.1 bt1795.2.1 bt1795.2.2.1 bt1795.2.2.2.1 bt1795.2.2.2.2.1 bt1795.2.2.2.2.2.1 bt1795.2.2.2.2.2.2.1).bind fun t1839 => (if t1839 = true then ((impl_ObjOk.f k bt1809.1 bt1809.2.1 bt1809.2.2.1 bt1809.2.2.2.1 bt1809.2.2.2.2.1 bt1809.2.2.2.2.2.1 bt1809.2.2.2.2.2.2.1).bind fun t1840 => (if t1840 = true then ((impl_Suits.f k bt1809.2.1 bt1809.2.2.1 bt1795.2.2.1).bind fun t1841 => (if t1841 = true then (if bt1809.2.2.2.2.2.2.1 = bt1795.2.2.2.2.2.2.2 then (if bt1809.1.toList = bt1795.2.1.toList then ((impl_RespText.f k bt1809.2.2.2.1 bt1809.2.2.2.2.1 bt1809.2.2.2.2.2.1).bind fun t1842 => ((impl_RespText.f k bt1795.2.2.2.2.1 bt1795.2.2.2.2.2.1 bt1795.2.2.2.2.2.2.1).bind fun t1843 => (some (t1842.toList == t1843.toList)))) else (some false)) else (some false)) else (some false))) else (some false))) else (some false))) else (some (bt1809.1.toList == ([] : List UInt8)))))))))
def laws_FnKeptOf.T10 : Bool × List (List Nat × List Nat) := (true, [([], []), ([], []), ([0, 1], [0, 1]), ([2, 2], [2]), ([3], [3]), ([4, 3, 3], [3, 4]), ([3, 5], [3, 5]), ([6, 5], [6]), ([7], [7]), ([8, 7], [7, 8]), ([7], [7]), ([10, 7], [7, 10]), ([7], [7]), ([12, 7], [7, 12]), ([9, 11, 13, 7, 7], [7, 9, 11, 13]), ([7, 14], [7, 14]), ([15, 14], [15]), ([16], [16]), ([17, 16], [16, 17]), ([16], [16]), ([18, 19, 16], [16, 18, 19]), ([16, 20], [16, 20]), ([21, 16], [21]), ([22], [22]), ([23, 22], [22, 23]), ([22], [22]), ([25, 22], [22, 25]), ([24, 26, 22], [22, 24, 26]), ([22, 27], [22, 27]), ([28, 22], [28]), ([29], [29]), ([30, 29], [29, 30]), ([31, 29, 29], [29, 31]), ([29], [29]), ([33, 32, 29], [29, 33]), ([32, 34, 29], [29, 32, 34]), ([29, 35], [29, 35]), ([36, 34, 0, 1, 2, 3, 4, 5, 6, 7, 8, 9, 10, 11, 12, 13, 14, 15, 16, 17, 18, 19, 20, 21, 22, 23, 24, 25, 26, 27, 28, 29, 30, 31, 32, 33, 34, 35, 36], [36])])
def laws_FnKeptOf.B10 : List Nat := [0, 0, 3, 7, 15, 31, 63, 127, 255, 511, 255, 1279, 255, 4351, 16383, 32767, 65535, 131071, 262143, 131071, 1048575, 2097151, 4194303, 8388607, 16777215, 8388607, 41943039, 134217727, 268435455, 536870911, 1073741823, 2147483647, 4294967295, 1073741823, 17179869183, 34359738367, 68719476735, 137438953471]
theorem laws_FnKeptOf.tab10 : rtab .any (opsOf Tryz.f8 10) = laws_FnKeptOf.T10 := by kernel_rfl
theorem laws_FnKeptOf.bits10 : waitsOk laws_FnKeptOf.T10.2 laws_FnKeptOf.B10 = true := by kernel_rfl
set_option maxHeartbeats 8000000 in
set_option maxRecDepth 100000 in
theorem laws_FnKeptOf.calls (k : Nat) (A0 : Option Addr) (c0 : Nat) (l0 : List Int) (r : Bool) (w : World) (hGE : GLOBE w) (hGM : GLOBM w) (hGT : GLOBT w) (hr0 : Kd.C (Kd.int .u8) w A0 l0.length l0) (hc0 : l0.length ≤ c0) (ht_ : r = true) (h : laws_FnKeptOf.f k l0 = some r) :
  Calls Tryz.prog 8 #[.slice A0 l0.length c0] w fun e w' => e = .returned (.bool r) ∧ Below w.heap.size w w' := by
 have hu50 := Tryz.underlying50
 have hu29 := Tryz.underlying29
 have hu31 := Tryz.underlying31
 have HR0 := am hr0
 have HC0 := am hc0
 clear hr0 hc0
 have HGE := am hGE
 clear hGE
 have HGM := am hGM
 clear hGM
 have HGT := am hGT
 clear hGT
 have HB := am (Below.refl w.heap.size w)
 unfold laws_FnKeptOf.f at h
 have H := h
 clear h
 revert H
 refine ok1 fun t1794 A2 H => ?_
 have HH3 := am H
 clear H
 go_enter Tryz.func8, Tryz.ntmps8
 go_upto_if 11 with ((with_reducible refine gw ?_); first | (refine gl 11 Tryz.func10 #[.slice A0 l0.length c0] ?_; (with_reducible refine (laws_big.calls _ _ l0 t1794 _ ?side1 ?side2 A2.out).mono ?_); (case side1 => exact cc HR0); (case side2 => exact HC0.out); rintro e w' ⟨rfl, ⟨nd, rfl⟩⟩; refine ⟨_, rfl, ?_⟩))
 have H := HH3.out
 clear HH3
 by_cases c4 : t1794 = true
 ·subst c4
  rw [if_pos rfl] at H
  obtain rfl := Option.some.inj H
  go_wp2
  go_ret
  exact ⟨rf, bl⟩
 replace c4 := Bool.eq_false_iff.mpr c4
 subst c4
 rw [if_neg (show ¬ (false = true) by decide)] at H
 revert H
 refine ok8 fun t1795 t1796 t1797 t1800 t1801 t1802 t1805 t1806 A5 H => ?_
 (try dsimp only at H)
 revert H
 refine ok8 fun t1809 t1810 t1813 t1816 t1817 t1820 t1821 t1822 A6 H => ?_
 (try dsimp only at H)
 revert H
 refine ok8 fun t1824 t1825 t1828 t1831 t1832 t1835 t1836 t1837 A7 H => ?_
 (try dsimp only at H)
 by_cases c8 : (t1822 != t1837) = true
 ·rw [if_pos c8] at H
  have c8b0 : (t1822 != t1837) = true := c8
  (try (have c8b1 : decide (t1822 = t1837) = false := by simpa using c8))
  (try (have c8b2 : (t1822 == t1837) = false := by simpa using c8))
  (try (have c8b3 : ¬ (t1822 = t1837) := by simpa using c8))
  clear c8
  (first | rw [c8b0] | (simp only [i64_w, i32_w]; rw [c8b0]) | skip)
  exact absurd (Option.some.inj H) (by rw [ht_]; decide)
 rw [if_neg c8] at H
 have c8b0 : (t1822 != t1837) = false := by simpa using c8
 (try (have c8b1 : decide (t1822 = t1837) = true := by simpa using c8))
 (try (have c8b2 : (t1822 == t1837) = true := by simpa using c8))
 clear c8
 (first | rw [c8b0] | (simp only [i64_w, i32_w]; rw [c8b0]) | skip)
 have HH9 := am H
 clear H
 go_upto_if 36 with ((with_reducible refine gw ?_); first | (refine gl 14 Tryz.func52 #[.slice A0 l0.length c0] ?_; (with_reducible refine (spec_DrawObjOf.calls k _ _ l0 t1795 t1796 t1797 t1800 t1801 t1802 t1805 t1806 _ ?side1 ?side2 A5.out).mono ?_); (case side1 => exact cb HR0); (case side2 => exact HC0.out); rintro e w10 ⟨v1798, v1803, rfl, ho0, ho1, hb⟩; refine ⟨_, rfl, ?_⟩; have HO1799 := am (Kd.R_lower ho0 (below_size bl)); have HO1804 := am (Kd.R_lower ho1 (below_size bl)); replace HB := am (below_step bl hb); clear hb ho0 ho1) | (refine bx 3 #[.int .i64 0, .string (⟨#[]⟩ : ByteArray), .slice none 0 0, .string (⟨#[]⟩ : ByteArray)] 50 ?_; intro gb1807 hg w11 hbox hb; replace HO1799 := am (Kd.R_below (ro HO1799) hb); replace HO1804 := am (Kd.R_below (ro HO1804) hb); have BK1807 := am (hbox); have GW1807 := am (sz hg : w.heap.size ≤ gb1807); have GE1807 := am (sz hg : w.heap.size ≤ gb1807); replace HB := am (below_step bl hb); clear hb hbox hg) | (refine bx 4 #[.int .i64 0, .slice none 0 0, .string (⟨#[]⟩ : ByteArray)] 29 ?_; intro gb1808 hg w12 hbox hb; replace HO1799 := am (Kd.R_below (ro HO1799) hb); replace HO1804 := am (Kd.R_below (ro HO1804) hb); have BK1808 := am (hbox); have GW1808 := am (sz hg : w.heap.size ≤ gb1808); have GE1808 := am (sz hg : w.heap.size ≤ gb1808); replace HB := am (below_step bl hb); have NB1807_1808 := am (nl hg BK1807 : gb1807 ≠ gb1808); have NB1808_1807 := am (ng hg BK1807 : gb1808 ≠ gb1807); replace BK1807 := kb BK1807 hb; clear hb hbox hg; have hnb13 := NB1807_1808.out; have hnc13 := NB1808_1807.out; obtain ⟨z14_0, y14_0, z14_1, y14_1, z14_2, y14_2, z14_3, y14_3⟩ := cl4 BK1807; obtain ⟨Ao15, co15, eo15⟩ := Kd.R_slice HO1799.out; subst eo15; obtain ⟨z16_0, y16_0, z16_1, y16_1, z16_2, y16_2⟩ := cl3 BK1808; obtain ⟨Ao17, co17, eo17⟩ := Kd.R_slice HO1804.out; subst eo17) | (refine gl 22 Tryz.func47 #[.agg #[.int .i64 t1795, .string t1796, .slice Ao15 t1797.length co15, .string t1800], .agg #[.int .i64 t1801, .slice Ao17 t1802.length co17, .string t1805], .int .i64 t1806] ?_; (with_reducible refine (impl_ObjOf.calls k t1795 t1796 _ _ t1797 t1800 t1801 _ _ t1802 t1805 t1806 t1809 t1810 t1813 t1816 t1817 t1820 t1821 t1822 _ ?side1 ?side2 ?side3 ?side4 ?side5 ?side6 ?side7 A6.out).mono ?_); (case side1 => exact GLOBE.below HGE.out bl); (case side2 => exact GLOBM.below HGM.out bl); (case side3 => exact GLOBT.below HGT.out bl); (case side4 => refine (Kd.R_reads' (e := 116) (base := w.heap.size) (ok := fun k_ => some k_ ≠ (.slice Ao17 t1802.length co17 : Value).ownBlock) (n := t1797.length) (c := co15) ?_).2.2; exact (by (with_reducible repeat (first | apply Kd.R_alloc | apply Kd.R_drewN | apply Kd.R_drew)); exact (Kd.R_mono (rj (Kd.R_types (Kd.R_types HO1799.out BK1807.out (by decide)) BK1808.out (by decide)) (fun _ h_ => h_.1)) (fun _ h_ => h_.1)))); (case side5 => exact (Kd.R_reads' HO1799.out).2.1); (case side6 => refine (Kd.R_reads' (e := 116) (base := w.heap.size) (ok := fun k_ => some k_ ≠ (.slice Ao15 t1797.length co15 : Value).ownBlock) (n := t1802.length) (c := co17) ?_).2.2; exact (by (with_reducible repeat (first | apply Kd.R_alloc | apply Kd.R_drewN | apply Kd.R_drew)); exact (Kd.R_mono (rj (Kd.R_types (Kd.R_types HO1804.out BK1807.out (by decide)) BK1808.out (by decide)) (fun _ h_ => h_.1)) (fun _ h_ => h_.1)))); (case side7 => exact (Kd.R_reads' HO1804.out).2.1); rintro e w18 ⟨v1811, v1814, v1818, rfl, ho0, ho1, ho2, hb⟩; refine ⟨_, rfl, ?_⟩; have n0_ := am (Kd.R_elder' (by (with_reducible repeat (first | apply Kd.R_alloc | apply Kd.R_drewN | apply Kd.R_drew)); exact (Kd.R_mono (rj (Kd.R_types (Kd.R_types HO1799.out BK1807.out (by decide)) BK1808.out (by decide)) (fun _ h_ => h_.1)) (fun _ h_ => h_.1))) (Kd.R_base ho2) hb); have n1_ := am (Kd.R_elder' (by (with_reducible repeat (first | apply Kd.R_alloc | apply Kd.R_drewN | apply Kd.R_drew)); exact (Kd.R_mono (rj (Kd.R_types (Kd.R_types HO1804.out BK1807.out (by decide)) BK1808.out (by decide)) (fun _ h_ => h_.1)) (fun _ h_ => h_.1))) (Kd.R_base ho2) hb); have n2_ := am (Kd.R_lower ho0 (below_size bl)); have n3_ := am (Kd.R_lower ho1 (below_size bl)); have n4_ := am (Kd.R_lower (Kd.R_new' (Kd.R_new' ho2 (Kd.R_lt (by (with_reducible repeat (first | apply Kd.R_alloc | apply Kd.R_drewN | apply Kd.R_drew)); exact (Kd.R_mono (rj (Kd.R_types (Kd.R_types HO1799.out BK1807.out (by decide)) BK1808.out (by decide)) (fun _ h_ => h_.1)) (fun _ h_ => h_.1))))) (Kd.R_lt (by (with_reducible repeat (first | apply Kd.R_alloc | apply Kd.R_drewN | apply Kd.R_drew)); exact (Kd.R_mono (rj (Kd.R_types (Kd.R_types HO1804.out BK1807.out (by decide)) BK1808.out (by decide)) (fun _ h_ => h_.1)) (fun _ h_ => h_.1))))) (below_size bl)); have n5_ := am (blk_below (g := gb1807) (o := .cells #[.int .i64 t1795, .string t1796, .slice Ao15 t1797.length co15, .string t1800] 50 (0, 0)) (pt1 BK1807 NB1807_1808) hb); have n6_ := am (blk_below (g := gb1808) (o := .cells #[.int .i64 t1801, .slice Ao17 t1802.length co17, .string t1805] 29 (0, 0)) (pt1 BK1808 NB1808_1807) hb); have n7_ := am (below_step bl hb); clear HO1799; clear HO1804; clear BK1807; clear BK1808; clear HB; have HO1799 := n0_; have HO1804 := n1_; have HO1812 := n2_; have HO1815 := n3_; have HO1819 := n4_; have BK1807 := n5_; have BK1808 := n6_; have HB := n7_; clear n0_ n1_ n2_ n3_ n4_ n5_ n6_ n7_; clear hb ho0 ho1 ho2) | (refine bx 6 #[.string (⟨#[]⟩ : ByteArray), .slice none 0 0, .slice none 0 0, .int .i64 0, .slice none 0 0, .string (⟨#[]⟩ : ByteArray), .int .i64 0] 31 ?_; intro gb1823 hg w19 hbox hb; replace HO1799 := am (Kd.R_below (ro HO1799) hb); replace HO1804 := am (Kd.R_below (ro HO1804) hb); replace HO1812 := am (Kd.R_below (ro HO1812) hb); replace HO1815 := am (Kd.R_below (ro HO1815) hb); replace HO1819 := am (Kd.R_below (ro HO1819) hb); have BK1823 := am (hbox); have GW1823 := am (sz hg : w.heap.size ≤ gb1823); have GE1823 := am (sz hg : w.heap.size ≤ gb1823); replace HB := am (below_step bl hb); have NB1807_1823 := am (nl hg BK1807 : gb1807 ≠ gb1823); have NB1823_1807 := am (ng hg BK1807 : gb1823 ≠ gb1807); replace BK1807 := kb BK1807 hb; have NB1808_1823 := am (nl hg BK1808 : gb1808 ≠ gb1823); have NB1823_1808 := am (ng hg BK1808 : gb1823 ≠ gb1808); replace BK1808 := kb BK1808 hb; clear hb hbox hg; have hnb20 := NB1823_1807.out; have hnc20 := NB1807_1823.out; have hnb21 := NB1823_1808.out; have hnc21 := NB1808_1823.out; obtain ⟨z22_0, y22_0, z22_1, y22_1, z22_2, y22_2, z22_3, y22_3, z22_4, y22_4, z22_5, y22_5, z22_6, y22_6⟩ := cl7 BK1823; obtain ⟨Ao23, co23, eo23⟩ := Kd.R_slice HO1812.out; subst eo23; obtain ⟨Ao24, co24, eo24⟩ := Kd.R_slice HO1815.out; subst eo24; obtain ⟨Ao25, co25, eo25⟩ := Kd.R_slice HO1819.out; subst eo25; obtain ⟨z26_0, y26_0, z26_1, y26_1, z26_2, y26_2, z26_3, y26_3⟩ := cl4 BK1807; obtain ⟨z27_0, y27_0, z27_1, y27_1, z27_2, y27_2⟩ := cl3 BK1808) | (refine gl 29 Tryz.func44 #[.agg #[.int .i64 t1795, .string t1796, .slice Ao15 t1797.length co15, .string t1800], .agg #[.int .i64 t1801, .slice Ao17 t1802.length co17, .string t1805], .int .i64 t1806] ?_; (with_reducible refine (spec_ObjOf.calls k t1795 t1796 _ _ t1797 t1800 t1801 _ _ t1802 t1805 t1806 t1824 t1825 t1828 t1831 t1832 t1835 t1836 t1837 _ ?side1 ?side2 ?side3 ?side4 A7.out).mono ?_); (case side1 => refine (Kd.R_reads' (e := 116) (base := w.heap.size) (ok := fun k_ => (some k_ ≠ (.slice Ao17 t1802.length co17 : Value).ownBlock ∧ some k_ ≠ (.slice Ao25 t1817.length co25 : Value).ownBlock)) (n := t1797.length) (c := co15) ?_).2.2; exact (rj (Kd.R_types HO1799.out BK1823.out (by decide)) (fun _ h_ => h_.1))); (case side2 => exact (Kd.R_reads' HO1799.out).2.1); (case side3 => refine (Kd.R_reads' (e := 116) (base := w.heap.size) (ok := fun k_ => (some k_ ≠ (.slice Ao15 t1797.length co15 : Value).ownBlock ∧ some k_ ≠ (.slice Ao25 t1817.length co25 : Value).ownBlock)) (n := t1802.length) (c := co17) ?_).2.2; exact (rj (Kd.R_types HO1804.out BK1823.out (by decide)) (fun _ h_ => h_.1))); (case side4 => exact (Kd.R_reads' HO1804.out).2.1); rintro e w28 ⟨v1826, v1829, v1833, rfl, ho0, ho1, ho2, hb⟩; refine ⟨_, rfl, ?_⟩; have HO1827 := am (Kd.R_lower (Kd.R_new' (Kd.R_new' ho0 (Kd.R_lt (rj (Kd.R_types HO1812.out BK1823.out (by decide)) (fun _ h_ => h_.1)))) (Kd.R_lt (rj (Kd.R_types HO1815.out BK1823.out (by decide)) (fun _ h_ => h_.1)))) (below_size bl)); have HO1830 := am (Kd.R_lower (Kd.R_new' (Kd.R_new' ho1 (Kd.R_lt (rj (Kd.R_types HO1812.out BK1823.out (by decide)) (fun _ h_ => h_.1)))) (Kd.R_lt (rj (Kd.R_types HO1815.out BK1823.out (by decide)) (fun _ h_ => h_.1)))) (below_size bl)); replace HO1812 := am (Kd.R_mono (Kd.R_told (Kd.R_told (Kd.R_old (rj (Kd.R_types HO1812.out BK1823.out (by decide)) (fun _ h_ => h_.1)) hb) (Kd.R_base ho0)) (Kd.R_base ho1)) (fun _ h_ => h_.1)); replace HO1815 := am (Kd.R_mono (Kd.R_told (Kd.R_told (Kd.R_old (rj (Kd.R_types HO1815.out BK1823.out (by decide)) (fun _ h_ => h_.1)) hb) (Kd.R_base ho0)) (Kd.R_base ho1)) (fun _ h_ => h_.1)); have HO1834 := am (Kd.R_lower (Kd.R_new' (Kd.R_new' (Kd.R_new' ho2 (Kd.R_lt (rj (Kd.R_types HO1799.out BK1823.out (by decide)) (fun _ h_ => h_.1)))) (Kd.R_lt (rj (Kd.R_types HO1804.out BK1823.out (by decide)) (fun _ h_ => h_.1)))) (Kd.R_lt (rj (Kd.R_types HO1819.out BK1823.out (by decide)) (fun _ h_ => h_.1)))) (below_size bl)); replace HO1799 := am (Kd.R_elder' (rj (Kd.R_types HO1799.out BK1823.out (by decide)) (fun _ h_ => h_.1)) (Kd.R_base ho2) hb); replace HO1804 := am (Kd.R_elder' (rj (Kd.R_types HO1804.out BK1823.out (by decide)) (fun _ h_ => h_.1)) (Kd.R_base ho2) hb); replace HO1819 := am (Kd.R_elder' (rj (Kd.R_types HO1819.out BK1823.out (by decide)) (fun _ h_ => h_.1)) (Kd.R_base ho2) hb); replace BK1807 := kg1 BK1807 NB1807_1823 hb; replace BK1808 := kg1 BK1808 NB1808_1823 hb; replace BK1823 := am (blk_below (g := gb1823) (o := .cells #[.string t1809, .slice Ao23 t1810.length co23, .slice Ao24 t1813.length co24, .int .i64 t1816, .slice Ao25 t1817.length co25, .string t1820, .int .i64 t1821] 31 (0, 0)) (pt0 BK1823) hb); replace HB := am (below_step bl hb); clear hb ho0 ho1 ho2) | (refine bx 8 #[.string (⟨#[]⟩ : ByteArray), .slice none 0 0, .slice none 0 0, .int .i64 0, .slice none 0 0, .string (⟨#[]⟩ : ByteArray), .int .i64 0] 31 ?_; intro gb1838 hg w29 hbox hb; replace HO1799 := am (Kd.R_below (ro HO1799) hb); replace HO1804 := am (Kd.R_below (ro HO1804) hb); replace HO1812 := am (Kd.R_below (ro HO1812) hb); replace HO1815 := am (Kd.R_below (ro HO1815) hb); replace HO1819 := am (Kd.R_below (ro HO1819) hb); replace HO1827 := am (Kd.R_below (ro HO1827) hb); replace HO1830 := am (Kd.R_below (ro HO1830) hb); replace HO1834 := am (Kd.R_below (ro HO1834) hb); have BK1838 := am (hbox); have GW1838 := am (sz hg : w.heap.size ≤ gb1838); have GE1838 := am (sz hg : w.heap.size ≤ gb1838); replace HB := am (below_step bl hb); have NB1807_1838 := am (nl hg BK1807 : gb1807 ≠ gb1838); have NB1838_1807 := am (ng hg BK1807 : gb1838 ≠ gb1807); replace BK1807 := kb BK1807 hb; have NB1808_1838 := am (nl hg BK1808 : gb1808 ≠ gb1838); have NB1838_1808 := am (ng hg BK1808 : gb1838 ≠ gb1808); replace BK1808 := kb BK1808 hb; have NB1823_1838 := am (nl hg BK1823 : gb1823 ≠ gb1838); have NB1838_1823 := am (ng hg BK1823 : gb1838 ≠ gb1823); replace BK1823 := kb BK1823 hb; clear hb hbox hg; have hnb30 := NB1838_1807.out; have hnc30 := NB1807_1838.out; have hnb31 := NB1838_1808.out; have hnc31 := NB1808_1838.out; have hnb32 := NB1838_1823.out; have hnc32 := NB1823_1838.out; obtain ⟨z33_0, y33_0, z33_1, y33_1, z33_2, y33_2, z33_3, y33_3, z33_4, y33_4, z33_5, y33_5, z33_6, y33_6⟩ := cl7 BK1838; obtain ⟨Ao34, co34, eo34⟩ := Kd.R_slice HO1827.out; subst eo34; obtain ⟨Ao35, co35, eo35⟩ := Kd.R_slice HO1830.out; subst eo35; obtain ⟨Ao36, co36, eo36⟩ := Kd.R_slice HO1834.out; subst eo36))
 have H := HH9.out
 clear HH9
 by_cases c37 : t1822 = true
 rotate_left
 ·replace c37 := Bool.eq_false_iff.mpr c37
  subst c37
  rw [if_neg (show ¬ (false = true) by decide)] at H
  obtain rfl := Option.some.inj H
  have hnb55 := NB1823_1807.out
  have hnc55 := NB1807_1823.out
  have hnb56 := NB1823_1808.out
  have hnc56 := NB1808_1823.out
  have hnb57 := NB1823_1838.out
  have hnc57 := NB1838_1823.out
  obtain ⟨z58_0, y58_0, z58_1, y58_1, z58_2, y58_2, z58_3, y58_3, z58_4, y58_4, z58_5, y58_5, z58_6, y58_6⟩ := cl7 BK1823
  go_wp2
  go_ret
  exact ⟨rf, bl⟩
 subst c37
 rw [if_pos rfl] at H
 revert H
 refine ok1 fun t1839 A38 H => ?_
 by_cases c39 : t1839 = true
 rotate_left
 ·replace c39 := Bool.eq_false_iff.mpr c39
  subst c39
  rw [if_neg (show ¬ (false = true) by decide)] at H
  exact absurd (Option.some.inj H) (by rw [ht_]; decide)
 subst c39
 rw [if_pos rfl] at H
 revert H
 refine ok1 fun t1840 A40 H => ?_
 by_cases c41 : t1840 = true
 rotate_left
 ·replace c41 := Bool.eq_false_iff.mpr c41
  subst c41
  rw [if_neg (show ¬ (false = true) by decide)] at H
  exact absurd (Option.some.inj H) (by rw [ht_]; decide)
 subst c41
 rw [if_pos rfl] at H
 revert H
 refine ok1 fun t1841 A42 H => ?_
 by_cases c43 : t1841 = true
 rotate_left
 ·replace c43 := Bool.eq_false_iff.mpr c43
  subst c43
  rw [if_neg (show ¬ (false = true) by decide)] at H
  exact absurd (Option.some.inj H) (by rw [ht_]; decide)
 subst c43
 rw [if_pos rfl] at H
 by_cases c44 : t1821 = t1806
 rotate_left
 ·rw [if_neg c44] at H
  have c44b0 : (t1821 == t1806) = false := beq_eq_false_iff_ne.mpr c44
  have c44b1 : (t1821 != t1806) = true := bne_iff_ne.mpr c44
  (first | rw [c44b0] | (simp only [i64_w, i32_w]; rw [c44b0]) | skip)
  exact absurd (Option.some.inj H) (by rw [ht_]; decide)
 rw [if_pos c44] at H
 have c44b0 : (t1821 == t1806) = true := beq_iff_eq.mpr c44
 have c44b1 : (t1821 != t1806) = false := bne_eq_false_iff_eq.mpr c44
 clear c44
 (first | rw [c44b0] | (simp only [i64_w, i32_w]; rw [c44b0]) | skip)
 by_cases c45 : t1809.toList = t1796.toList
 rotate_left
 ·rw [if_neg c45] at H
  have c45b0 : (t1809.toList == t1796.toList) = false := beq_eq_false_iff_ne.mpr c45
  have c45b1 : (t1809.toList != t1796.toList) = true := bne_iff_ne.mpr c45
  exact absurd (Option.some.inj H) (by rw [ht_]; decide)
 rw [if_pos c45] at H
 have c45b0 : (t1809.toList == t1796.toList) = true := beq_iff_eq.mpr c45
 have c45b1 : (t1809.toList != t1796.toList) = false := bne_eq_false_iff_eq.mpr c45
 clear c45
 revert H
 refine ok1 fun t1842 A46 H => ?_
 revert H
 refine ok1 fun t1843 A47 H => ?_
 obtain rfl := Option.some.inj H
 try go_wp2
 have n0_ : Aside0 (Kd.R k116 116 (((((((w29.setCell ⟨gb1838, 0, none⟩ (.string t1824)).setCell ⟨gb1838, 1, none⟩ (.slice Ao34 t1825.length co34)).setCell ⟨gb1838, 2, none⟩ (.slice Ao35 t1828.length co35)).setCell ⟨gb1838, 3, none⟩ (.int .i64 t1831)).setCell ⟨gb1838, 4, none⟩ (.slice Ao36 t1832.length co36)).setCell ⟨gb1838, 5, none⟩ (.string t1835)).setCell ⟨gb1838, 6, none⟩ (.int .i64 t1836)) w.heap.size (fun k_ => some k_ ≠ (.slice Ao17 t1802.length co17 : Value).ownBlock ∧ some k_ ≠ (.slice Ao25 t1817.length co25 : Value).ownBlock ∧ some k_ ≠ (.slice Ao36 t1832.length co36 : Value).ownBlock) (.slice Ao15 t1797.length co15) t1797) := ⟨rj (Kd.R_types HO1799.out BK1838.out (by decide)) (fun _ hk => ⟨hk.1.1.1, ⟨hk.1.1.2, hk.1.2⟩⟩)⟩
 have n1_ : Aside0 (Kd.R k116 116 (((((((w29.setCell ⟨gb1838, 0, none⟩ (.string t1824)).setCell ⟨gb1838, 1, none⟩ (.slice Ao34 t1825.length co34)).setCell ⟨gb1838, 2, none⟩ (.slice Ao35 t1828.length co35)).setCell ⟨gb1838, 3, none⟩ (.int .i64 t1831)).setCell ⟨gb1838, 4, none⟩ (.slice Ao36 t1832.length co36)).setCell ⟨gb1838, 5, none⟩ (.string t1835)).setCell ⟨gb1838, 6, none⟩ (.int .i64 t1836)) w.heap.size (fun k_ => some k_ ≠ (.slice Ao15 t1797.length co15 : Value).ownBlock ∧ some k_ ≠ (.slice Ao25 t1817.length co25 : Value).ownBlock ∧ some k_ ≠ (.slice Ao36 t1832.length co36 : Value).ownBlock) (.slice Ao17 t1802.length co17) t1802) := ⟨rj (Kd.R_types HO1804.out BK1838.out (by decide)) (fun _ hk => ⟨hk.1.1.1, ⟨hk.1.1.2, hk.1.2⟩⟩)⟩
 have n2_ : Aside0 (Kd.R Kd.string 9 (((((((w29.setCell ⟨gb1838, 0, none⟩ (.string t1824)).setCell ⟨gb1838, 1, none⟩ (.slice Ao34 t1825.length co34)).setCell ⟨gb1838, 2, none⟩ (.slice Ao35 t1828.length co35)).setCell ⟨gb1838, 3, none⟩ (.int .i64 t1831)).setCell ⟨gb1838, 4, none⟩ (.slice Ao36 t1832.length co36)).setCell ⟨gb1838, 5, none⟩ (.string t1835)).setCell ⟨gb1838, 6, none⟩ (.int .i64 t1836)) w.heap.size (fun k_ => some k_ ≠ (.slice Ao24 t1813.length co24 : Value).ownBlock ∧ some k_ ≠ (.slice Ao34 t1825.length co34 : Value).ownBlock ∧ some k_ ≠ (.slice Ao35 t1828.length co35 : Value).ownBlock) (.slice Ao23 t1810.length co23) t1810) := ⟨rj (Kd.R_types HO1812.out BK1838.out (by decide)) (fun _ hk => ⟨hk.1.1.1, ⟨hk.1.1.2, hk.1.2⟩⟩)⟩
 have n3_ : Aside0 (Kd.R Kd.string 9 (((((((w29.setCell ⟨gb1838, 0, none⟩ (.string t1824)).setCell ⟨gb1838, 1, none⟩ (.slice Ao34 t1825.length co34)).setCell ⟨gb1838, 2, none⟩ (.slice Ao35 t1828.length co35)).setCell ⟨gb1838, 3, none⟩ (.int .i64 t1831)).setCell ⟨gb1838, 4, none⟩ (.slice Ao36 t1832.length co36)).setCell ⟨gb1838, 5, none⟩ (.string t1835)).setCell ⟨gb1838, 6, none⟩ (.int .i64 t1836)) w.heap.size (fun k_ => some k_ ≠ (.slice Ao23 t1810.length co23 : Value).ownBlock ∧ some k_ ≠ (.slice Ao34 t1825.length co34 : Value).ownBlock ∧ some k_ ≠ (.slice Ao35 t1828.length co35 : Value).ownBlock) (.slice Ao24 t1813.length co24) t1813) := ⟨rj (Kd.R_types HO1815.out BK1838.out (by decide)) (fun _ hk => ⟨hk.1.1.1, ⟨hk.1.1.2, hk.1.2⟩⟩)⟩
 have n4_ : Aside0 (Kd.R k116 116 (((((((w29.setCell ⟨gb1838, 0, none⟩ (.string t1824)).setCell ⟨gb1838, 1, none⟩ (.slice Ao34 t1825.length co34)).setCell ⟨gb1838, 2, none⟩ (.slice Ao35 t1828.length co35)).setCell ⟨gb1838, 3, none⟩ (.int .i64 t1831)).setCell ⟨gb1838, 4, none⟩ (.slice Ao36 t1832.length co36)).setCell ⟨gb1838, 5, none⟩ (.string t1835)).setCell ⟨gb1838, 6, none⟩ (.int .i64 t1836)) w.heap.size (fun k_ => some k_ ≠ (.slice Ao15 t1797.length co15 : Value).ownBlock ∧ some k_ ≠ (.slice Ao17 t1802.length co17 : Value).ownBlock ∧ some k_ ≠ (.slice Ao36 t1832.length co36 : Value).ownBlock) (.slice Ao25 t1817.length co25) t1817) := ⟨rj (Kd.R_types HO1819.out BK1838.out (by decide)) (fun _ hk => ⟨hk.1.1.1.2, ⟨hk.1.1.2, hk.1.2⟩⟩)⟩
 have n5_ : Aside0 (Kd.R Kd.string 9 (((((((w29.setCell ⟨gb1838, 0, none⟩ (.string t1824)).setCell ⟨gb1838, 1, none⟩ (.slice Ao34 t1825.length co34)).setCell ⟨gb1838, 2, none⟩ (.slice Ao35 t1828.length co35)).setCell ⟨gb1838, 3, none⟩ (.int .i64 t1831)).setCell ⟨gb1838, 4, none⟩ (.slice Ao36 t1832.length co36)).setCell ⟨gb1838, 5, none⟩ (.string t1835)).setCell ⟨gb1838, 6, none⟩ (.int .i64 t1836)) w.heap.size (fun k_ => some k_ ≠ (.slice Ao23 t1810.length co23 : Value).ownBlock ∧ some k_ ≠ (.slice Ao24 t1813.length co24 : Value).ownBlock ∧ some k_ ≠ (.slice Ao35 t1828.length co35 : Value).ownBlock) (.slice Ao34 t1825.length co34) t1825) := ⟨rj (Kd.R_types HO1827.out BK1838.out (by decide)) (fun _ hk => ⟨hk.1.1.2, ⟨hk.1.2, hk.1.1.1⟩⟩)⟩
 have n6_ : Aside0 (Kd.R Kd.string 9 (((((((w29.setCell ⟨gb1838, 0, none⟩ (.string t1824)).setCell ⟨gb1838, 1, none⟩ (.slice Ao34 t1825.length co34)).setCell ⟨gb1838, 2, none⟩ (.slice Ao35 t1828.length co35)).setCell ⟨gb1838, 3, none⟩ (.int .i64 t1831)).setCell ⟨gb1838, 4, none⟩ (.slice Ao36 t1832.length co36)).setCell ⟨gb1838, 5, none⟩ (.string t1835)).setCell ⟨gb1838, 6, none⟩ (.int .i64 t1836)) w.heap.size (fun k_ => some k_ ≠ (.slice Ao23 t1810.length co23 : Value).ownBlock ∧ some k_ ≠ (.slice Ao24 t1813.length co24 : Value).ownBlock ∧ some k_ ≠ (.slice Ao34 t1825.length co34 : Value).ownBlock) (.slice Ao35 t1828.length co35) t1828) := ⟨rj (Kd.R_types HO1830.out BK1838.out (by decide)) (fun _ hk => ⟨hk.1.1.2, ⟨hk.1.2, hk.1.1.1⟩⟩)⟩
 have n7_ : Aside0 (Kd.R k116 116 (((((((w29.setCell ⟨gb1838, 0, none⟩ (.string t1824)).setCell ⟨gb1838, 1, none⟩ (.slice Ao34 t1825.length co34)).setCell ⟨gb1838, 2, none⟩ (.slice Ao35 t1828.length co35)).setCell ⟨gb1838, 3, none⟩ (.int .i64 t1831)).setCell ⟨gb1838, 4, none⟩ (.slice Ao36 t1832.length co36)).setCell ⟨gb1838, 5, none⟩ (.string t1835)).setCell ⟨gb1838, 6, none⟩ (.int .i64 t1836)) w.heap.size (fun k_ => some k_ ≠ (.slice Ao15 t1797.length co15 : Value).ownBlock ∧ some k_ ≠ (.slice Ao17 t1802.length co17 : Value).ownBlock ∧ some k_ ≠ (.slice Ao25 t1817.length co25 : Value).ownBlock) (.slice Ao36 t1832.length co36) t1832) := ⟨rj (Kd.R_types HO1834.out BK1838.out (by decide)) (fun _ hk => ⟨hk.1.1.1.2, ⟨hk.1.1.2, hk.1.2⟩⟩)⟩
 have n8_ : Aside0 ((((((((w29.setCell ⟨gb1838, 0, none⟩ (.string t1824)).setCell ⟨gb1838, 1, none⟩ (.slice Ao34 t1825.length co34)).setCell ⟨gb1838, 2, none⟩ (.slice Ao35 t1828.length co35)).setCell ⟨gb1838, 3, none⟩ (.int .i64 t1831)).setCell ⟨gb1838, 4, none⟩ (.slice Ao36 t1832.length co36)).setCell ⟨gb1838, 5, none⟩ (.string t1835)).setCell ⟨gb1838, 6, none⟩ (.int .i64 t1836)).heap[gb1807]? = some (.cells #[.int .i64 t1795, .string t1796, .slice Ao15 t1797.length co15, .string t1800] 50 (0, 0))) := ⟨by (with_reducible repeat (first | refine blk_drewN ?_ _ | refine blk_drew ?_ | refine blk_alloc ?_ _)); refine blk_far ?_ NB1807_1838.out _; (with_reducible repeat (first | refine blk_drewN ?_ _ | refine blk_drew ?_ | refine blk_alloc ?_ _)); refine blk_far ?_ NB1807_1838.out _; (with_reducible repeat (first | refine blk_drewN ?_ _ | refine blk_drew ?_ | refine blk_alloc ?_ _)); refine blk_far ?_ NB1807_1838.out _; (with_reducible repeat (first | refine blk_drewN ?_ _ | refine blk_drew ?_ | refine blk_alloc ?_ _)); refine blk_far ?_ NB1807_1838.out _; (with_reducible repeat (first | refine blk_drewN ?_ _ | refine blk_drew ?_ | refine blk_alloc ?_ _)); refine blk_far ?_ NB1807_1838.out _; (with_reducible repeat (first | refine blk_drewN ?_ _ | refine blk_drew ?_ | refine blk_alloc ?_ _)); refine blk_far ?_ NB1807_1838.out _; (with_reducible repeat (first | refine blk_drewN ?_ _ | refine blk_drew ?_ | refine blk_alloc ?_ _)); refine blk_far ?_ NB1807_1838.out _; (with_reducible repeat (first | refine blk_drewN ?_ _ | refine blk_drew ?_ | refine blk_alloc ?_ _)); exact BK1807.out⟩
 have n9_ : Aside0 ((((((((w29.setCell ⟨gb1838, 0, none⟩ (.string t1824)).setCell ⟨gb1838, 1, none⟩ (.slice Ao34 t1825.length co34)).setCell ⟨gb1838, 2, none⟩ (.slice Ao35 t1828.length co35)).setCell ⟨gb1838, 3, none⟩ (.int .i64 t1831)).setCell ⟨gb1838, 4, none⟩ (.slice Ao36 t1832.length co36)).setCell ⟨gb1838, 5, none⟩ (.string t1835)).setCell ⟨gb1838, 6, none⟩ (.int .i64 t1836)).heap[gb1808]? = some (.cells #[.int .i64 t1801, .slice Ao17 t1802.length co17, .string t1805] 29 (0, 0))) := ⟨by (with_reducible repeat (first | refine blk_drewN ?_ _ | refine blk_drew ?_ | refine blk_alloc ?_ _)); refine blk_far ?_ NB1808_1838.out _; (with_reducible repeat (first | refine blk_drewN ?_ _ | refine blk_drew ?_ | refine blk_alloc ?_ _)); refine blk_far ?_ NB1808_1838.out _; (with_reducible repeat (first | refine blk_drewN ?_ _ | refine blk_drew ?_ | refine blk_alloc ?_ _)); refine blk_far ?_ NB1808_1838.out _; (with_reducible repeat (first | refine blk_drewN ?_ _ | refine blk_drew ?_ | refine blk_alloc ?_ _)); refine blk_far ?_ NB1808_1838.out _; (with_reducible repeat (first | refine blk_drewN ?_ _ | refine blk_drew ?_ | refine blk_alloc ?_ _)); refine blk_far ?_ NB1808_1838.out _; (with_reducible repeat (first | refine blk_drewN ?_ _ | refine blk_drew ?_ | refine blk_alloc ?_ _)); refine blk_far ?_ NB1808_1838.out _; (with_reducible repeat (first | refine blk_drewN ?_ _ | refine blk_drew ?_ | refine blk_alloc ?_ _)); refine blk_far ?_ NB1808_1838.out _; (with_reducible repeat (first | refine blk_drewN ?_ _ | refine blk_drew ?_ | refine blk_alloc ?_ _)); exact BK1808.out⟩
 have n10_ : Aside0 ((((((((w29.setCell ⟨gb1838, 0, none⟩ (.string t1824)).setCell ⟨gb1838, 1, none⟩ (.slice Ao34 t1825.length co34)).setCell ⟨gb1838, 2, none⟩ (.slice Ao35 t1828.length co35)).setCell ⟨gb1838, 3, none⟩ (.int .i64 t1831)).setCell ⟨gb1838, 4, none⟩ (.slice Ao36 t1832.length co36)).setCell ⟨gb1838, 5, none⟩ (.string t1835)).setCell ⟨gb1838, 6, none⟩ (.int .i64 t1836)).heap[gb1823]? = some (.cells #[.string t1809, .slice Ao23 t1810.length co23, .slice Ao24 t1813.length co24, .int .i64 t1816, .slice Ao25 t1817.length co25, .string t1820, .int .i64 t1821] 31 (0, 0))) := ⟨by (with_reducible repeat (first | refine blk_drewN ?_ _ | refine blk_drew ?_ | refine blk_alloc ?_ _)); refine blk_far ?_ NB1823_1838.out _; (with_reducible repeat (first | refine blk_drewN ?_ _ | refine blk_drew ?_ | refine blk_alloc ?_ _)); refine blk_far ?_ NB1823_1838.out _; (with_reducible repeat (first | refine blk_drewN ?_ _ | refine blk_drew ?_ | refine blk_alloc ?_ _)); refine blk_far ?_ NB1823_1838.out _; (with_reducible repeat (first | refine blk_drewN ?_ _ | refine blk_drew ?_ | refine blk_alloc ?_ _)); refine blk_far ?_ NB1823_1838.out _; (with_reducible repeat (first | refine blk_drewN ?_ _ | refine blk_drew ?_ | refine blk_alloc ?_ _)); refine blk_far ?_ NB1823_1838.out _; (with_reducible repeat (first | refine blk_drewN ?_ _ | refine blk_drew ?_ | refine blk_alloc ?_ _)); refine blk_far ?_ NB1823_1838.out _; (with_reducible repeat (first | refine blk_drewN ?_ _ | refine blk_drew ?_ | refine blk_alloc ?_ _)); refine blk_far ?_ NB1823_1838.out _; (with_reducible repeat (first | refine blk_drewN ?_ _ | refine blk_drew ?_ | refine blk_alloc ?_ _)); exact BK1823.out⟩
 have n11_ : Aside0 ((((((((w29.setCell ⟨gb1838, 0, none⟩ (.string t1824)).setCell ⟨gb1838, 1, none⟩ (.slice Ao34 t1825.length co34)).setCell ⟨gb1838, 2, none⟩ (.slice Ao35 t1828.length co35)).setCell ⟨gb1838, 3, none⟩ (.int .i64 t1831)).setCell ⟨gb1838, 4, none⟩ (.slice Ao36 t1832.length co36)).setCell ⟨gb1838, 5, none⟩ (.string t1835)).setCell ⟨gb1838, 6, none⟩ (.int .i64 t1836)).heap[gb1838]? = some (.cells #[.string t1824, .slice Ao34 t1825.length co34, .slice Ao35 t1828.length co35, .int .i64 t1831, .slice Ao36 t1832.length co36, .string t1835, .int .i64 t1836] 31 (0, 0))) := ⟨pt0 BK1838⟩
 have n12_ : Aside0 (Below w.heap.size w (((((((w29.setCell ⟨gb1838, 0, none⟩ (.string t1824)).setCell ⟨gb1838, 1, none⟩ (.slice Ao34 t1825.length co34)).setCell ⟨gb1838, 2, none⟩ (.slice Ao35 t1828.length co35)).setCell ⟨gb1838, 3, none⟩ (.int .i64 t1831)).setCell ⟨gb1838, 4, none⟩ (.slice Ao36 t1832.length co36)).setCell ⟨gb1838, 5, none⟩ (.string t1835)).setCell ⟨gb1838, 6, none⟩ (.int .i64 t1836))) := ⟨u8HB⟩
 (try clear HO1799)
 (try clear HO1804)
 (try clear HO1812)
 (try clear HO1815)
 (try clear HO1819)
 (try clear HO1827)
 (try clear HO1830)
 (try clear HO1834)
 (try clear BK1807)
 (try clear BK1808)
 (try clear BK1823)
 (try clear BK1838)
 (try clear HB)
 generalize (((((((w29.setCell ⟨gb1838, 0, none⟩ (.string t1824)).setCell ⟨gb1838, 1, none⟩ (.slice Ao34 t1825.length co34)).setCell ⟨gb1838, 2, none⟩ (.slice Ao35 t1828.length co35)).setCell ⟨gb1838, 3, none⟩ (.int .i64 t1831)).setCell ⟨gb1838, 4, none⟩ (.slice Ao36 t1832.length co36)).setCell ⟨gb1838, 5, none⟩ (.string t1835)).setCell ⟨gb1838, 6, none⟩ (.int .i64 t1836)) = w48 at n0_ n1_ n2_ n3_ n4_ n5_ n6_ n7_ n8_ n9_ n10_ n11_ n12_ ⊢
 have HO1799 := n0_
 have HO1804 := n1_
 have HO1812 := n2_
 have HO1815 := n3_
 have HO1819 := n4_
 have HO1827 := n5_
 have HO1830 := n6_
 have HO1834 := n7_
 have BK1807 := n8_
 have BK1808 := n9_
 have BK1823 := n10_
 have BK1838 := n11_
 have HB := n12_
 clear n0_ n1_ n2_ n3_ n4_ n5_ n6_ n7_ n8_ n9_ n10_ n11_ n12_
 replace HO1799 := am (Kd.R_drew HO1799.out)
 replace HO1804 := am (Kd.R_drew HO1804.out)
 replace HO1812 := am (Kd.R_drew HO1812.out)
 replace HO1815 := am (Kd.R_drew HO1815.out)
 replace HO1819 := am (Kd.R_drew HO1819.out)
 replace HO1827 := am (Kd.R_drew HO1827.out)
 replace HO1830 := am (Kd.R_drew HO1830.out)
 replace HO1834 := am (Kd.R_drew HO1834.out)
 replace BK1807 := am (blk_drew BK1807.out)
 replace BK1808 := am (blk_drew BK1808.out)
 replace BK1823 := am (blk_drew BK1823.out)
 replace BK1838 := am (blk_drew BK1838.out)
 replace HB := am (below_drew1 HB.out)
 refine start_ (n := 38) (S := fun w' => w'.cell? ⟨gb1807, 0, none⟩ = some (.int .i64 t1795) ∧ w'.cell? ⟨gb1807, 1, none⟩ = some (.string t1796) ∧ w'.cell? ⟨gb1807, 2, none⟩ = some (.slice Ao15 t1797.length co15) ∧ w'.cell? ⟨gb1807, 3, none⟩ = some (.string t1800) ∧ w'.cell? ⟨gb1808, 0, none⟩ = some (.int .i64 t1801) ∧ w'.cell? ⟨gb1808, 1, none⟩ = some (.slice Ao17 t1802.length co17) ∧ w'.cell? ⟨gb1808, 2, none⟩ = some (.string t1805) ∧ w'.cell? ⟨gb1823, 0, none⟩ = some (.string t1809) ∧ w'.cell? ⟨gb1823, 1, none⟩ = some (.slice Ao23 t1810.length co23) ∧ w'.cell? ⟨gb1823, 2, none⟩ = some (.slice Ao24 t1813.length co24) ∧ w'.cell? ⟨gb1823, 3, none⟩ = some (.int .i64 t1816) ∧ w'.cell? ⟨gb1823, 4, none⟩ = some (.slice Ao25 t1817.length co25) ∧ w'.cell? ⟨gb1823, 5, none⟩ = some (.string t1820) ∧ w'.cell? ⟨gb1823, 6, none⟩ = some (.int .i64 t1821)) (ds := []) ⟨br true [0, 38]⟩ (by kernel_rfl) rfl (by kernel_rfl) ⟨bc BK1807, bc BK1807, bc BK1807, bc BK1807, bc BK1808, bc BK1808, bc BK1808, bc BK1823, bc BK1823, bc BK1823, bc BK1823, bc BK1823, bc BK1823, bc BK1823⟩ (fun hHeld => ?_); refine with_tabW laws_FnKeptOf.tab10 laws_FnKeptOf.bits10 (fun HT_ HW_ => ?_)
 generalize w48.drew = w49 at HO1799 HO1804 HO1812 HO1815 HO1819 HO1827 HO1830 HO1834 BK1807 BK1808 BK1823 BK1838 HB hHeld ⊢
 refine tk 0 40 [1, 37] ?_
 refine tk 1 41 [2, 36] ?_
 refine og 2 42 [3, 35] Tryz.func29 #[.agg #[.int .i64 t1795, .string t1796, .slice Ao15 t1797.length co15, .string t1800], .agg #[.int .i64 t1801, .slice Ao17 t1802.length co17, .string t1805]] (fun K hK => ?_)
 with_reducible refine (impl_MayKeep.calls k t1795 t1796 _ _ t1797 t1800 t1801 _ _ t1802 t1805 true _ ?side1 ?side2 ?side3 ?side4 ?side5 ?side6 ?side7 A38.out).mono ?_
 (case side1 => exact GLOBE.below HGE.out bl)
 (case side2 => exact GLOBM.below HGM.out bl)
 (case side3 => exact GLOBT.below HGT.out bl)
 (case side4 => exact rc HO1799)
 (case side5 => exact (Kd.R_reads' HO1799.out).2.1)
 (case side6 => exact rc HO1804)
 (case side7 => exact (Kd.R_reads' HO1804.out).2.1)
 rintro e w50 ⟨rfl, hb⟩
 refine ⟨_, rfl, ?_⟩
 replace HO1799 := kr HO1799 hb
 replace HO1804 := kr HO1804 hb
 replace HO1812 := kr HO1812 hb
 replace HO1815 := kr HO1815 hb
 replace HO1819 := kr HO1819 hb
 replace HO1827 := kr HO1827 hb
 replace HO1830 := kr HO1830 hb
 replace HO1834 := kr HO1834 hb
 replace BK1807 := kb BK1807 hb
 replace BK1808 := kb BK1808 hb
 replace BK1823 := kb BK1823 hb
 replace BK1838 := kb BK1838 hb
 replace HB := am (below_step bl hb)
 clear hb
 refine hK.out _ _ ⟨bc BK1807, bc BK1807, bc BK1807, bc BK1807, bc BK1808, bc BK1808, bc BK1808, bc BK1823, bc BK1823, bc BK1823, bc BK1823, bc BK1823, bc BK1823, bc BK1823⟩ (fun hHeld => ?_)
 clear hK K
 refine nm 42 ?_
 refine pu 3 43 [4, 34] ?_
 refine tk 4 44 [5, 33] ?_
 refine og 5 45 [6, 32] Tryz.func15 #[.agg #[.string t1809, .slice Ao23 t1810.length co23, .slice Ao24 t1813.length co24, .int .i64 t1816, .slice Ao25 t1817.length co25, .string t1820, .int .i64 t1821]] (fun K hK => ?_)
 with_reducible refine (impl_ObjOk.calls k t1809 _ _ t1810 _ _ t1813 t1816 _ _ t1817 t1820 t1821 true _ ?side1 ?side2 ?side3 ?side4 ?side5 ?side6 ?side7 A40.out).mono ?_
 (case side1 => exact GLOBM.below HGM.out bl)
 (case side2 => exact rc HO1812)
 (case side3 => exact (Kd.R_reads' HO1812.out).2.1)
 (case side4 => exact rc HO1815)
 (case side5 => exact (Kd.R_reads' HO1815.out).2.1)
 (case side6 => exact rc HO1819)
 (case side7 => exact (Kd.R_reads' HO1819.out).2.1)
 rintro e w51 ⟨rfl, hb⟩
 refine ⟨_, rfl, ?_⟩
 replace HO1799 := kr HO1799 hb
 replace HO1804 := kr HO1804 hb
 replace HO1812 := kr HO1812 hb
 replace HO1815 := kr HO1815 hb
 replace HO1819 := kr HO1819 hb
 replace HO1827 := kr HO1827 hb
 replace HO1830 := kr HO1830 hb
 replace HO1834 := kr HO1834 hb
 replace BK1807 := kb BK1807 hb
 replace BK1808 := kb BK1808 hb
 replace BK1823 := kb BK1823 hb
 replace BK1838 := kb BK1838 hb
 replace HB := am (below_step bl hb)
 clear hb
 refine hK.out _ _ ⟨bc BK1807, bc BK1807, bc BK1807, bc BK1807, bc BK1808, bc BK1808, bc BK1808, bc BK1823, bc BK1823, bc BK1823, bc BK1823, bc BK1823, bc BK1823, bc BK1823⟩ (fun hHeld => ?_)
 clear hK K
 refine nm 45 ?_
 refine pu 6 46 [7, 31] ?_
 refine pu 7 47 [8, 30] ?_
 refine pu 8 48 [9, 29] ?_
 refine pu 10 50 [9, 1, 1, 27] ?_
 refine pu 12 52 [9, 1, 1, 1, 1, 25] ?_
 refine tk 9 49 [11, 1, 1, 25] ?_
 refine tk 11 51 [13, 25] ?_
 refine tk 13 53 [14, 24] ?_
 refine og 14 54 [15, 23] Tryz.func53 #[.slice Ao23 t1810.length co23, .slice Ao24 t1813.length co24, .slice Ao15 t1797.length co15] (fun K hK => ?_)
 with_reducible refine (impl_Suits.calls k _ _ t1810 _ _ t1813 _ _ t1797 true _ ?side1 ?side2 ?side3 ?side4 ?side5 ?side6 A42.out).mono ?_
 (case side1 => exact rc HO1812)
 (case side2 => exact (Kd.R_reads' HO1812.out).2.1)
 (case side3 => exact rc HO1815)
 (case side4 => exact (Kd.R_reads' HO1815.out).2.1)
 (case side5 => exact rc HO1799)
 (case side6 => exact (Kd.R_reads' HO1799.out).2.1)
 rintro e w52 ⟨rfl, hb⟩
 refine ⟨_, rfl, ?_⟩
 replace HO1799 := kr HO1799 hb
 replace HO1804 := kr HO1804 hb
 replace HO1812 := kr HO1812 hb
 replace HO1815 := kr HO1815 hb
 replace HO1819 := kr HO1819 hb
 replace HO1827 := kr HO1827 hb
 replace HO1830 := kr HO1830 hb
 replace HO1834 := kr HO1834 hb
 replace BK1807 := kb BK1807 hb
 replace BK1808 := kb BK1808 hb
 replace BK1823 := kb BK1823 hb
 replace BK1838 := kb BK1838 hb
 replace HB := am (below_step bl hb)
 clear hb
 refine hK.out _ _ ⟨bc BK1807, bc BK1807, bc BK1807, bc BK1807, bc BK1808, bc BK1808, bc BK1808, bc BK1823, bc BK1823, bc BK1823, bc BK1823, bc BK1823, bc BK1823, bc BK1823⟩ (fun hHeld => ?_)
 clear hK K
 refine nm 54 ?_
 refine pu 15 55 [16, 22] ?_
 refine pu 16 56 [17, 21] ?_
 refine pu 17 57 [18, 20] ?_
 refine pu 19 59 [18, 1, 1, 18] ?_
 refine tk 18 58 [20, 18] ?_
 refine pu 20 60 [21, 17] ?_
 refine pu 21 61 [22, 16] ?_
 refine pu 22 62 [23, 15] ?_
 refine pu 23 63 [24, 14] ?_
 refine pu 25 65 [24, 1, 1, 12] ?_
 refine tk 24 64 [26, 12] ?_
 refine tk 26 66 [27, 11] ?_
 refine pu 27 67 [28, 10] ?_
 refine pu 28 68 [29, 9] ?_
 refine pu 29 69 [30, 8] ?_
 refine pu 30 70 [31, 7] ?_
 refine tk 31 71 [32, 6] ?_
 refine tk 33 73 [32, 1, 1, 4] ?_
 refine og 32 72 [34, 4] Tryz.func35 #[.agg #[.int .i64 t1816, .slice Ao25 t1817.length co25, .string t1820]] (fun K hK => ?_)
 with_reducible refine (impl_RespText.calls k t1816 _ _ t1817 t1820 t1842 _ ?side1 ?side2 ?side3 A46.out).mono ?_
 (case side1 => exact GLOBT.below HGT.out bl)
 (case side2 => exact rc HO1819)
 (case side3 => exact (Kd.R_reads' HO1819.out).2.1)
 rintro e w53 ⟨rfl, hb⟩
 refine ⟨_, rfl, ?_⟩
 replace HO1799 := kr HO1799 hb
 replace HO1804 := kr HO1804 hb
 replace HO1812 := kr HO1812 hb
 replace HO1815 := kr HO1815 hb
 replace HO1819 := kr HO1819 hb
 replace HO1827 := kr HO1827 hb
 replace HO1830 := kr HO1830 hb
 replace HO1834 := kr HO1834 hb
 replace BK1807 := kb BK1807 hb
 replace BK1808 := kb BK1808 hb
 replace BK1823 := kb BK1823 hb
 replace BK1838 := kb BK1838 hb
 replace HB := am (below_step bl hb)
 clear hb
 refine hK.out _ _ ⟨bc BK1807, bc BK1807, bc BK1807, bc BK1807, bc BK1808, bc BK1808, bc BK1808, bc BK1823, bc BK1823, bc BK1823, bc BK1823, bc BK1823, bc BK1823, bc BK1823⟩ (fun hHeld => ?_)
 clear hK K
 refine nm 72 ?_
 refine og 34 74 [35, 3] Tryz.func35 #[.agg #[.int .i64 t1801, .slice Ao17 t1802.length co17, .string t1805]] (fun K hK => ?_)
 with_reducible refine (impl_RespText.calls k t1801 _ _ t1802 t1805 t1843 _ ?side1 ?side2 ?side3 A47.out).mono ?_
 (case side1 => exact GLOBT.below HGT.out bl)
 (case side2 => exact rc HO1804)
 (case side3 => exact (Kd.R_reads' HO1804.out).2.1)
 rintro e w54 ⟨rfl, hb⟩
 refine ⟨_, rfl, ?_⟩
 replace HO1799 := kr HO1799 hb
 replace HO1804 := kr HO1804 hb
 replace HO1812 := kr HO1812 hb
 replace HO1815 := kr HO1815 hb
 replace HO1819 := kr HO1819 hb
 replace HO1827 := kr HO1827 hb
 replace HO1830 := kr HO1830 hb
 replace HO1834 := kr HO1834 hb
 replace BK1807 := kb BK1807 hb
 replace BK1808 := kb BK1808 hb
 replace BK1823 := kb BK1823 hb
 replace BK1838 := kb BK1838 hb
 replace HB := am (below_step bl hb)
 clear hb
 refine hK.out _ _ ⟨bc BK1807, bc BK1807, bc BK1807, bc BK1807, bc BK1808, bc BK1808, bc BK1808, bc BK1823, bc BK1823, bc BK1823, bc BK1823, bc BK1823, bc BK1823, bc BK1823⟩ (fun hHeld => ?_)
 clear hK K
 refine nm 74 ?_
 refine pu 35 75 [36, 2] ?_
 refine pu 36 76 [37, 1] ?_
 refine pu 37 2 [38] ?_
 refine done_ (done_of HT_.out (by kernel_rfl)) ?_
 try go_wp2
 go_ret
 exact ⟨rf, bl⟩

end Go.Proofs.YtjlpjbkpmmpojaaGreatDoor.All
