-- Written by a program of this session (wip/tools/hprint.py) out of the translation. Lean checks it.
import Derived.Test.YtjckfmipegemcaaGreatDoorKPiecesAllx0
import Derived.Test.YtjckfmipegemcaaGreatDoorKPiecesAllx3
import Derived.Test.YtjckfmipegemcaaGreatDoorKPiecesAllx4
import Derived.Test.YtjckfmipegemcaaGreatDoorKPiecesAllx6
import Derived.Test.YtjckfmipegemcaaGreatDoorKPiecesAllx7
import Derived.Test.YtjckfmipegemcaaGreatDoorKPiecesAllx8
import Derived.Test.YtjckfmipegemcaaGreatDoorKPiecesAllx9
import Derived.Test.YtjckfmipegemcaaGreatDoorKPiecesAllx10
namespace Go.Proofs.YtjckfmipegemcaaGreatDoor.All
open Go.RowKit Go.Proofs.YtjckfmipegemcaaGreatDoorW.PrintWords Go.Proofs.YtjckfmipegemcaaGreatDoorW.PrintLast Go.Proofs.YtjckfmipegemcaaGreatDoorW.PrintMore
attribute [local go_sem] max2_int min2_int max_two min_two max_three min_three max_four min_four  -- for this text's walks alone
set_option linter.unusedVariables false
set_option linter.unusedSimpArgs false

/-! ### laws_FnPieces: function 3 -/
attribute [local go_sem high] eqA25
theorem u3HB {p : Prop} (h : p := by repeat (first | (with_reducible first | exact HB.out | apply below_alloc | apply pw_below_drewN | apply below_drew1 | refine below_set ?_ GE475.out | refine below_set ?_ GE481.out | refine below_set ?_ GE487.out | refine below_set ?_ GE506.out) | exact HB.out)) : p := h
mutual
def laws_FnPieces.j0 : Nat → List Int → ByteArray → List (S40) → Bool → ByteArray → Bool → ByteArray → Bool → Option (Bool)
 | 0, _, _, _, _, _, _, _, _ => none
 | k + 1, x0, x4, x6, x42, x476000, x476001, x482000, x482001 => if x42 = true then (some false) else (if (wrap64 ((x476000.size : Int) + (x4.size : Int))) > 1200 then (some (decide ((x6.length : Int) ≥ 0))) else ((spec_DrawPieces.f k x0).bind fun bt488 => ((impl_Pieces.f k x4 bt488.2).bind fun t492 => ((some (([(⟨#[]⟩ : ByteArray)] : List ByteArray) : List ByteArray)).bind fun y495 => (if t492.length + y495.length < 8796093022208 then ((impl_FeedAll.f k x476000 x476001 (t492 ++ y495)).bind fun bt501 => (if (!(x482000.toList == bt501.1.toList) || (!(x482001 == bt501.2.1))) = true then (laws_FnPieces.j1 k x6 bt501.2.2 true) else (laws_FnPieces.j1 k x6 bt501.2.2 ((x6.length : Int) != (bt501.2.2.length : Int))))) else (none))))))
def laws_FnPieces.j1 : Nat → List (S40) → List (S40) → Bool → Option (Bool)
 | 0, _, _, _ => none
 | k + 1, x6, x12, x77 => if x77 = true then (some false) else (laws_FnPieces.l0 k x6 x12 0)
def laws_FnPieces.l0 : Nat → List (S40) → List (S40) → Int → Option (Bool)
 | 0, _, _, _ => none
 | k + 1, x6, x12, x13 => if x13 < (x6.length : Int) then (if 0 ≤ x13 then ((impl_ReqText.f k ((rd_T40 x6 x13).f0) ((rd_T40 x6 x13).f1) ((rd_T40 x6 x13).f2) ((rd_T40 x6 x13).f3)).bind fun t508 => (if x13 < (x12.length : Int) then ((impl_ReqText.f k ((rd_T40 x12 x13).f0) ((rd_T40 x12 x13).f1) ((rd_T40 x12 x13).f2) ((rd_T40 x12 x13).f3)).bind fun t510 => (if t508.toList = t510.toList then (laws_FnPieces.l0 k x6 x12 (wrap64 (x13 + 1))) else (some false))) else (none))) else (none)) else (some true)
end
def laws_FnPieces.f (k : Nat) (l0 : List Int) : Option (Bool) := (laws_big.f l0).bind fun t471 => (if t471 = true then (some true) else ((spec_DrawFeed.f k l0).bind fun bt472 => ((impl_Feed.f k bt472.1 bt472.2.1 bt472.2.2).bind fun bt476 => ((spec_Feed.f k bt472.1 bt472.2.1 bt472.2.2).bind fun bt482 => (if (!(bt476.1.toList == bt482.1.toList) || (!(bt476.2.1 == bt482.2.1))) = true then (laws_FnPieces.j0 k l0 bt472.2.2 bt476.2.2 true bt472.1 bt472.2.1 bt476.1 bt476.2.1) else (laws_FnPieces.j0 k l0 bt472.2.2 bt476.2.2 ((bt476.2.2.length : Int) != (bt482.2.2.length : Int)) bt472.1 bt472.2.1 bt476.1 bt476.2.1))))))
def laws_FnPieces.T11 : Bool × List (List Nat × List Nat) := (true, [([], []), ([], []), ([], []), ([1, 2], [1, 2]), ([], []), ([3, 4, 3], [3, 4]), ([0, 5, 5], [0, 5]), ([6], [6]), ([7], [7]), ([7], [7]), ([], []), ([10, 8, 6, 0, 1, 2, 3, 4, 5, 6, 7, 8, 10], [8, 10]), ([9, 11, 0, 1, 2, 3, 4, 5, 6, 7, 8, 9, 10, 11], [9])])
def laws_FnPieces.B11 : List Nat := [0, 0, 0, 6, 0, 30, 63, 127, 255, 255, 0, 1535, 4095]
theorem laws_FnPieces.tab11 : rtab .any (opsOf Tryz.f3 11) = laws_FnPieces.T11 := by kernel_rfl
theorem laws_FnPieces.bits11 : waitsOk laws_FnPieces.T11.2 laws_FnPieces.B11 = true := by kernel_rfl
def laws_FnPieces.T17 : Bool × List (List Nat × List Nat) := (true, [([], []), ([], []), ([0, 1], [0, 1]), ([2], [2]), ([3], [3]), ([], []), ([], []), ([5, 6], [5, 6]), ([7], [7]), ([8, 4], [8]), ([4, 9], [4, 9])])
def laws_FnPieces.B17 : List Nat := [0, 0, 3, 7, 15, 0, 0, 96, 224, 511, 1023]
theorem laws_FnPieces.tab17 : rtab .any (opsOf Tryz.f3 17) = laws_FnPieces.T17 := by kernel_rfl
theorem laws_FnPieces.bits17 : waitsOk laws_FnPieces.T17.2 laws_FnPieces.B17 = true := by kernel_rfl
set_option maxHeartbeats 8000000 in
set_option maxRecDepth 100000 in
theorem laws_FnPieces.calls (k : Nat) (A0 : Option Addr) (c0 : Nat) (l0 : List Int) (r : Bool) (w : World) (hGE : GLOBE w) (hGM : GLOBM w) (hGT : GLOBT w) (hr0 : Kd.C (Kd.int .u8) w A0 l0.length l0) (hc0 : l0.length ≤ c0) (ht_ : r = true) (h : laws_FnPieces.f k l0 = some r) :
  Calls Tryz.prog 3 #[.slice A0 l0.length c0] w fun e w' => e = .returned (.bool r) ∧ Below w.heap.size w w' := by
 have hu25 := Tryz.underlying25
 have hu40 := Tryz.underlying40
 have HR0 := am hr0
 have HC0 := am hc0
 clear hr0 hc0
 have HGE := am hGE
 clear hGE
 have HGM := am hGM
 clear hGM
 have HGT := am hGT
 clear hGT
 have HB := am (Below.refl w.heap.size w)
 unfold laws_FnPieces.f at h
 have H := h
 clear h
 revert H
 refine ok1 fun t471 A2 H => ?_
 by_cases c3 : t471 = true
 ·subst c3
  rw [if_pos rfl] at H
  obtain rfl := Option.some.inj H
  go_enter Tryz.func3, Tryz.ntmps3
  go_wp2_with ((with_reducible refine gw ?_); first | (refine gl 15 Tryz.func7 #[.slice A0 l0.length c0] ?_; (with_reducible refine (laws_big.calls _ _ l0 true _ ?side1 ?side2 A2.out).mono ?_); (case side1 => exact cc HR0); (case side2 => exact HC0.out); rintro e w' ⟨rfl, ⟨nd, rfl⟩⟩; refine ⟨_, rfl, ?_⟩))
  go_ret
  exact ⟨rf, bl⟩
 replace c3 := Bool.eq_false_iff.mpr c3
 subst c3
 rw [if_neg (show ¬ (false = true) by decide)] at H
 revert H
 refine ok3 fun t472 t473 t474 A4 H => ?_
 (try dsimp only at H)
 revert H
 refine ok3 fun t476 t477 t478 A5 H => ?_
 (try dsimp only at H)
 revert H
 refine ok3 fun t482 t483 t484 A6 H => ?_
 (try dsimp only at H)
 have HC7 := am H
 clear H
 go_enter Tryz.func3, Tryz.ntmps3
 go_upto_region 6 with (first | ((with_reducible refine gw ?_); refine gl 15 Tryz.func7 #[.slice A0 l0.length c0] ?_; (with_reducible refine (laws_big.calls _ _ l0 false _ ?side1 ?side2 A2.out).mono ?_); (case side1 => exact cc HR0); (case side2 => exact HC0.out); rintro e w' ⟨rfl, ⟨nd, rfl⟩⟩; refine ⟨_, rfl, ?_⟩) | ((with_reducible refine gw ?_); refine gl 18 Tryz.func8 #[.slice A0 l0.length c0] ?_; (with_reducible refine (spec_DrawFeed.calls k _ _ l0 t472 t473 t474 _ ?side1 ?side2 A4.out).mono ?_); (case side1 => exact cc HR0); (case side2 => exact HC0.out); rintro e w8 ⟨rfl, hb⟩; refine ⟨_, rfl, ?_⟩; replace HB := am (below_step bl hb); clear hb) | ((with_reducible refine gate_dst (N := 3) rfl ?_); (try (refine gate_guard (by rfl) ?_; dsimp only)); refine box_event ?hg (N := 3) ?hd (cs := #[.string (⟨#[]⟩ : ByteArray), .bool false]) (t := 25) ?hr ?_; (case hd => rfl); (case hg => rfl); (case hr => first | (go_simp; done) | (go_simp; rfl)); intro gb475 hg w9 hbox hb; have BK475 := am (hbox); have GW475 := am (sz hg : w.heap.size ≤ gb475); have GE475 := am (sz hg : w.heap.size ≤ gb475); replace HB := am (below_step bl hb); clear hb hbox hg; obtain ⟨z10_0, y10_0, z10_1, y10_1⟩ := cl2 BK475) | ((with_reducible refine gw ?_); refine gl 24 Tryz.func9 #[.agg #[.string t472, .bool t473], .string t474] ?_; (with_reducible refine (impl_Feed.calls k t472 t473 t474 t476 t477 t478 _ ?side1 ?side2 ?side3 A5.out).mono ?_); (case side1 => exact GLOBE.below HGE.out bl); (case side2 => exact GLOBM.below HGM.out bl); (case side3 => exact GLOBT.below HGT.out bl); rintro e w11 ⟨v479, rfl, ho0, hb⟩; refine ⟨_, rfl, ?_⟩; have HO480 := am (Kd.S_lower ho0 (below_size bl)); replace BK475 := am (blk_below (g := gb475) (o := .cells #[.string t472, .bool t473] 25 (0, 0)) (pt0 BK475) hb); replace HB := am (below_step bl hb); clear hb ho0) | ((with_reducible refine gate_dst (N := 5) rfl ?_); (try (refine gate_guard (by rfl) ?_; dsimp only)); refine box_event ?hg (N := 5) ?hd (cs := #[.string (⟨#[]⟩ : ByteArray), .bool false]) (t := 25) ?hr ?_; (case hd => rfl); (case hg => rfl); (case hr => first | (go_simp; done) | (go_simp; rfl)); intro gb481 hg w12 hbox hb; have n0_ := am (Kd.S_below (by (with_reducible repeat (first | apply Kd.S_alloc | apply Kd.S_drewN | apply Kd.S_drew)); exact HO480.out) hb); have n1_ := kb BK475 hb; have n2_ := am (below_step bl hb); have n3_ := am (hbox); have n4_ := am (sz hg : w.heap.size ≤ gb481); have n5_ := am (sz hg : w.heap.size ≤ gb481); have n6_ := am (nl hg BK475 : gb475 ≠ gb481); have n7_ := am (ng hg BK475 : gb481 ≠ gb475); clear HO480; clear BK475; clear HB; have HO480 := n0_; have BK475 := n1_; have HB := n2_; have BK481 := n3_; have GW481 := n4_; have GE481 := n5_; have NB475_481 := n6_; have NB481_475 := n7_; clear n0_ n1_ n2_ n3_ n4_ n5_ n6_ n7_; clear hb hbox hg; have hnb13 := NB481_475.out; have hnc13 := NB475_481.out; obtain ⟨z14_0, y14_0, z14_1, y14_1⟩ := cl2 BK481; obtain ⟨z15_0, y15_0, z15_1, y15_1⟩ := cl2 BK475) | ((with_reducible refine gw ?_); refine gl 30 Tryz.func10 #[.agg #[.string t472, .bool t473], .string t474] ?_; (with_reducible refine (spec_Feed.calls k t472 t473 t474 t482 t483 t484 _ A6.out).mono ?_); rintro e w16 ⟨v485, rfl, ho0, hb⟩; refine ⟨_, rfl, ?_⟩; have n0_ := am (Kd.S_elder' (by (with_reducible repeat (first | apply Kd.S_alloc | apply Kd.S_drewN | apply Kd.S_drew)); exact (Kd.S_mono (Kd.S_far (p := ⟨gb481, 1, none⟩) (Kd.S_far (p := ⟨gb481, 0, none⟩) (Kd.S_types HO480.out BK481.out (by decide)) (fun _ hk => hk.2) (.string t476)) (fun _ hk => hk.2) (.bool t477)) (fun _ h_ => h_.1))) (Kd.S_base ho0) hb); have n1_ := am (Kd.S_lower (Kd.S_new' ho0 (Kd.S_lt (by (with_reducible repeat (first | apply Kd.S_alloc | apply Kd.S_drewN | apply Kd.S_drew)); exact (Kd.S_mono (Kd.S_far (p := ⟨gb481, 1, none⟩) (Kd.S_far (p := ⟨gb481, 0, none⟩) (Kd.S_types HO480.out BK481.out (by decide)) (fun _ hk => hk.2) (.string t476)) (fun _ hk => hk.2) (.bool t477)) (fun _ h_ => h_.1))))) (below_size bl)); have n2_ := kg1 BK475 NB475_481 hb; have n3_ := am (blk_below (g := gb481) (o := .cells #[.string t476, .bool t477] 25 (0, 0)) (pt0 BK481) hb); have n4_ := am (below_step bl hb); clear HO480; clear BK475; clear BK481; clear HB; have HO480 := n0_; have HO486 := n1_; have BK475 := n2_; have BK481 := n3_; have HB := n4_; clear n0_ n1_ n2_ n3_ n4_; clear hb ho0) | ((with_reducible refine gate_dst (N := 7) rfl ?_); (try (refine gate_guard (by rfl) ?_; dsimp only)); refine box_event ?hg (N := 7) ?hd (cs := #[.string (⟨#[]⟩ : ByteArray), .bool false]) (t := 25) ?hr ?_; (case hd => rfl); (case hg => rfl); (case hr => first | (go_simp; done) | (go_simp; rfl)); intro gb487 hg w17 hbox hb; have n0_ := am (Kd.S_below (by (with_reducible repeat (first | apply Kd.S_alloc | apply Kd.S_drewN | apply Kd.S_drew)); exact HO480.out) hb); have n1_ := am (Kd.S_below (by (with_reducible repeat (first | apply Kd.S_alloc | apply Kd.S_drewN | apply Kd.S_drew)); exact HO486.out) hb); have n2_ := kb BK475 hb; have n3_ := kb BK481 hb; have n4_ := am (below_step bl hb); have n5_ := am (hbox); have n6_ := am (sz hg : w.heap.size ≤ gb487); have n7_ := am (sz hg : w.heap.size ≤ gb487); have n8_ := am (nl hg BK475 : gb475 ≠ gb487); have n9_ := am (ng hg BK475 : gb487 ≠ gb475); have n10_ := am (nl hg BK481 : gb481 ≠ gb487); have n11_ := am (ng hg BK481 : gb487 ≠ gb481); clear HO480; clear HO486; clear BK475; clear BK481; clear HB; have HO480 := n0_; have HO486 := n1_; have BK475 := n2_; have BK481 := n3_; have HB := n4_; have BK487 := n5_; have GW487 := n6_; have GE487 := n7_; have NB475_487 := n8_; have NB487_475 := n9_; have NB481_487 := n10_; have NB487_481 := n11_; clear n0_ n1_ n2_ n3_ n4_ n5_ n6_ n7_ n8_ n9_ n10_ n11_; clear hb hbox hg; have hnb18 := NB487_475.out; have hnc18 := NB475_487.out; have hnb19 := NB487_481.out; have hnc19 := NB481_487.out; obtain ⟨z20_0, y20_0, z20_1, y20_1⟩ := cl2 BK487))
 (try simp only [Act.put, List.setIfInBounds_toArray, List.set_cons_zero, List.set_cons_succ])
 go_cut [42] (fun v42 wc => ∃ (kq : Nat) (x42_6 : Bool), v42 = .bool x42_6 ∧ Aside0 (laws_FnPieces.j0 kq l0 t474 t478 x42_6 t472 t473 t476 t477 = some r) ∧ Aside0 (kq ≤ k) ∧ Aside0 (Kd.S k40 40 wc w.heap.size (fun _ => True) v479 t478) ∧ Aside0 (wc.heap[gb475]? = some (.cells #[.string t472, .bool t473] 25 (0, 0))) ∧ Aside0 (wc.heap[gb481]? = some (.cells #[.string t476, .bool t477] 25 (0, 0))) ∧ Aside0 (wc.heap[gb487]? = some (.cells #[.string t482, .bool t483] 25 (0, 0))) ∧ Aside0 (Below w.heap.size w wc))
 case first =>
  have H := HC7.out
  clear HC7
  by_cases c21 : (!(t476.toList == t482.toList) || (!(t477 == t483))) = true
  ·rw [if_pos c21] at H
   have c21b0 : (!(t476.toList == t482.toList) || (!(t477 == t483))) = true := c21
   clear c21
   (first | rw [c21b0] | (simp only [i64_w, i32_w]; rw [c21b0]) | skip)
   cases k with
   | zero => exact absurd H (by simp [laws_FnPieces.j0])
   | succ k_ => simp only [laws_FnPieces.j0, if_true] at H; exact absurd (Option.some.inj H) (by rw [ht_]; decide)
  rw [if_neg c21] at H
  have c21b0 : (!(t476.toList == t482.toList) || (!(t477 == t483))) = false := Bool.eq_false_iff.mpr c21
  clear c21
  (first | rw [c21b0] | (simp only [i64_w, i32_w]; rw [c21b0]) | skip)
  have H' := am H
  clear H
  have hnb22 := NB481_475.out
  have hnc22 := NB475_481.out
  have hnb23 := NB481_487.out
  have hnc23 := NB487_481.out
  obtain ⟨z24_0, y24_0, z24_1, y24_1⟩ := cl2 BK481
  have hnb25 := NB487_475.out
  have hnc25 := NB475_487.out
  obtain ⟨z26_0, y26_0, z26_1, y26_1⟩ := cl2 BK487
  obtain ⟨Ao27, co27, eo27⟩ := Kd.S_slice HO480.out
  subst eo27
  obtain ⟨Ao28, co28, eo28⟩ := Kd.S_slice HO486.out
  subst eo28
  go_wp2
  go_meet
  case rel => exact ⟨_, (((t478.length : Int) != (t484.length : Int))), rs, H', ⟨by first | omega | exact Nat.le_refl _⟩, ⟨by (with_reducible repeat (first | apply Kd.S_alloc | apply Kd.S_drewN | apply Kd.S_drew)); exact Kd.S_mono (Kd.S_far (p := ⟨gb487, 1, none⟩) (Kd.S_far (p := ⟨gb487, 0, none⟩) (Kd.S_types HO480.out BK487.out (by decide)) (fun _ hk => hk.2) (.string t482)) (fun _ hk => hk.2) (.bool t483)) (fun _ hk => trivial)⟩, ⟨by (with_reducible repeat (first | refine blk_drewN ?_ _ | refine blk_drew ?_ | refine blk_alloc ?_ _)); refine blk_far ?_ NB475_487.out _; (with_reducible repeat (first | refine blk_drewN ?_ _ | refine blk_drew ?_ | refine blk_alloc ?_ _)); refine blk_far ?_ NB475_487.out _; (with_reducible repeat (first | refine blk_drewN ?_ _ | refine blk_drew ?_ | refine blk_alloc ?_ _)); exact BK475.out⟩, ⟨by (with_reducible repeat (first | refine blk_drewN ?_ _ | refine blk_drew ?_ | refine blk_alloc ?_ _)); refine blk_far ?_ NB481_487.out _; (with_reducible repeat (first | refine blk_drewN ?_ _ | refine blk_drew ?_ | refine blk_alloc ?_ _)); refine blk_far ?_ NB481_487.out _; (with_reducible repeat (first | refine blk_drewN ?_ _ | refine blk_drew ?_ | refine blk_alloc ?_ _)); exact BK481.out⟩, ⟨pt0 BK487⟩, ⟨u3HB⟩⟩
 case rest =>
  clear HC7
  try clear c1
  try clear c2
  try clear p2
  try clear c3
  try clear c7
  try clear c8
  try clear c9
  try clear c10
  try clear c13
  try clear c18
  try clear c19
  try clear c21
  try clear c21b0
  try clear c22
  try clear c23
  try clear c25
  try clear z10_0
  try clear z10_1
  try clear z14_0
  try clear z14_1
  try clear z15_0
  try clear z15_1
  try clear z20_0
  try clear z20_1
  try clear z24_0
  try clear z24_1
  try clear z26_0
  try clear z26_1
  try clear y10_0
  try clear y10_1
  try clear y14_0
  try clear y14_1
  try clear y15_0
  try clear y15_1
  try clear y20_0
  try clear y20_1
  try clear y24_0
  try clear y24_1
  try clear y26_0
  try clear y26_1
  obtain ⟨kq, x42_6, rfl, HA, HJ6, HO_6, BK475, BK481, BK487, HB⟩ := hcut
  cases kq with
  | zero => exact absurd HA.out (by simp [laws_FnPieces.j0])
  | succ kj6 =>
   have H := HA.out
   clear HA
   simp only [laws_FnPieces.j0] at H
   by_cases c29 : x42_6 = true
   ·subst c29
    rw [if_pos rfl] at H
    exact absurd (Option.some.inj H) (by rw [ht_]; decide)
   replace c29 := Bool.eq_false_iff.mpr c29
   subst c29
   rw [if_neg (show ¬ (false = true) by decide)] at H
   by_cases c30 : (wrap64 ((t472.size : Int) + (t474.size : Int))) > 1200
   ·rw [if_pos c30] at H
    have c30b0 := decide_eq_true c30
    clear c30
    obtain rfl := Option.some.inj H
    have hnb31 := NB475_481.out
    have hnc31 := NB481_475.out
    have hnb32 := NB475_487.out
    have hnc32 := NB487_475.out
    obtain ⟨z33_0, y33_0, z33_1, y33_1⟩ := cl2 BK475
    obtain ⟨Ao34, co34, eo34⟩ := Kd.S_slice HO_6.out
    subst eo34
    go_wp2
    go_ret
    exact ⟨rf, bl⟩
   rw [if_neg c30] at H
   have c30b0 := decide_eq_false c30
   clear c30
   revert H
   refine ok2 fun t488 t489 A35 H => ?_
   (try dsimp only at H)
   revert H
   refine ok1 fun t492 A36 H => ?_
   obtain ⟨y495, hy495⟩ : ∃ y_ : List ByteArray, y_ = (([(⟨#[]⟩ : ByteArray)] : List ByteArray)) := ⟨_, rfl⟩
   replace H : (if t492.length + y495.length < 8796093022208 then ((impl_FeedAll.f kj6 t472 t473 (t492 ++ y495)).bind fun bt501 => (if (!(t476.toList == bt501.1.toList) || (!(t477 == bt501.2.1))) = true then (laws_FnPieces.j1 kj6 t478 bt501.2.2 true) else (laws_FnPieces.j1 kj6 t478 bt501.2.2 ((t478.length : Int) != (bt501.2.2.length : Int))))) else (none)) = some r := by first | (rw [hy495]; with_reducible exact H) | (have H2_ := (Option.bind_some _ _).symm.trans H; rw [hy495]; with_reducible exact H2_) | (have H2_ := (Option.bind_some _ _).symm.trans H; with_reducible exact H2_) | with_reducible exact H | (rw [hy495]; exact H) | exact H
   have Ny495 := am hy495
   clear hy495
   revert H
   refine ifn fun c37 H => ?_
   have LMc37 := am c37
   clear c37
   obtain ⟨y498, hy498⟩ : ∃ y_ : List ByteArray, y_ = (t492 ++ y495) := ⟨_, rfl⟩
   replace H : ((impl_FeedAll.f kj6 t472 t473 y498).bind fun bt501 => (if (!(t476.toList == bt501.1.toList) || (!(t477 == bt501.2.1))) = true then (laws_FnPieces.j1 kj6 t478 bt501.2.2 true) else (laws_FnPieces.j1 kj6 t478 bt501.2.2 ((t478.length : Int) != (bt501.2.2.length : Int))))) = some r := by first | (rw [hy498]; with_reducible exact H) | (have H2_ := (Option.bind_some _ _).symm.trans H; rw [hy498]; with_reducible exact H2_) | (have H2_ := (Option.bind_some _ _).symm.trans H; with_reducible exact H2_) | with_reducible exact H | (rw [hy498]; exact H) | exact H
   have Ny498 := am hy498
   clear hy498
   revert H
   refine ok3 fun t501 t502 t503 A38 H => ?_
   (try dsimp only at H)
   have HC39 := am H
   clear H
   have hnb40 := NB475_481.out
   have hnc40 := NB481_475.out
   have hnb41 := NB475_487.out
   have hnc41 := NB487_475.out
   obtain ⟨z42_0, y42_0, z42_1, y42_1⟩ := cl2 BK475
   try go_wp2_with ((with_reducible refine gw ?_); first | (refine gl 55 Tryz.func11 #[.slice A0 l0.length c0] ?_; (with_reducible refine (spec_DrawPieces.calls kj6 _ _ l0 t488 t489 _ ?side1 ?side2 A35.out).mono ?_); (case side1 => exact cb HR0); (case side2 => exact HC0.out); rintro e w43 ⟨v490, rfl, ho0, hb⟩; refine ⟨_, rfl, ?_⟩; have n0_ := am (Kd.S_below (by (with_reducible repeat (first | apply Kd.S_alloc | apply Kd.S_drewN | apply Kd.S_drew)); exact HO_6.out) hb); have n1_ := am (Kd.R_lower ho0 (below_size bl)); have n2_ := kb BK475 hb; have n3_ := kb BK481 hb; have n4_ := kb BK487 hb; have n5_ := am (below_step bl hb); clear HO_6; clear BK475; clear BK481; clear BK487; clear HB; have HO_6 := n0_; have HO491 := n1_; have BK475 := n2_; have BK481 := n3_; have BK487 := n4_; have HB := n5_; clear n0_ n1_ n2_ n3_ n4_ n5_; clear hb ho0; obtain ⟨Ao44, co44, eo44⟩ := Kd.R_slice HO491.out; subst eo44))
   replace HO_6 := am (Kd.S_drew HO_6.out)
   replace HO491 := am (Kd.R_drew HO491.out)
   replace BK475 := am (blk_drew BK475.out)
   replace BK481 := am (blk_drew BK481.out)
   replace BK487 := am (blk_drew BK487.out)
   replace HB := am (below_drew1 HB.out)
   refine start_ (n := 13) (S := fun w' => w'.cell? ⟨gb475, 0, none⟩ = some (.string t472) ∧ w'.cell? ⟨gb475, 1, none⟩ = some (.bool t473)) (ds := []) ⟨br true [0, 13]⟩ (by kernel_rfl) rfl (by kernel_rfl) ⟨bc BK475, bc BK475⟩ (fun hHeld => ?_); refine with_tabW laws_FnPieces.tab11 laws_FnPieces.bits11 (fun HT_ HW_ => ?_)
   generalize w43.drew = w45 at HO_6 HO491 BK475 BK481 BK487 HB hHeld ⊢
   refine pu 1 60 [0, 1, 1, 11] ?_
   refine pu 2 61 [0, 1, 2, 10] ?_
   refine tk 0 59 [3, 10] ?_
   refine join_ (σ := Value × Value × Value × Value × Nat) 2 #[true, true, true, true, true, true, true, true, true, true, true, false, false] (fun s_ => [(62, s_.1), (63, s_.2.1), (64, s_.2.2.1), (65, .tuple #[.agg #[.string t501, .bool t502], s_.2.2.2.1]), (11, .pointer (some ⟨s_.2.2.2.2, 0, none⟩)), (58, .tuple #[.agg #[.string t501, .bool t502], s_.2.2.2.1]), (66, .agg #[.string t501, .bool t502]), (67, s_.2.2.2.1)]) (fun s_ w' => (w'.cell? ⟨gb475, 0, none⟩ = some (.string t472) ∧ w'.cell? ⟨gb475, 1, none⟩ = some (.bool t473)) ∧ (Kd.R (Kd.int .i64) 3 w' w.heap.size (fun _ => True) (.slice Ao44 t489.length co44) t489) ∧ (Kd.R Kd.string 9 w' w.heap.size (fun k_ => some k_ ≠ (s_.2.2.1 : Value).ownBlock) s_.2.1 y495) ∧ (Kd.R Kd.string 9 w' w.heap.size (fun k_ => some k_ ≠ (s_.2.1 : Value).ownBlock) s_.2.2.1 y498) ∧ (Kd.S k40 40 w' w.heap.size (fun k_ => some k_ ≠ (v479 : Value).ownBlock) s_.2.2.2.1 t503) ∧ (Kd.S k40 40 w' w.heap.size (fun k_ => some k_ ≠ (s_.2.2.2.1 : Value).ownBlock) v479 t478) ∧ (w'.heap[gb475]? = some (.cells #[.string t472, .bool t473] 25 (0, 0))) ∧ (w'.heap[gb481]? = some (.cells #[.string t476, .bool t477] 25 (0, 0))) ∧ (w'.heap[gb487]? = some (.cells #[.string t482, .bool t483] 25 (0, 0))) ∧ (w'.heap[s_.2.2.2.2]? = some (.cells #[.string (⟨#[]⟩ : ByteArray), .bool false] 25 (0, 0))) ∧ (w.heap.size ≤ s_.2.2.2.2) ∧ (w.heap.size ≤ s_.2.2.2.2) ∧ (gb475 ≠ s_.2.2.2.2) ∧ (s_.2.2.2.2 ≠ gb475) ∧ (gb481 ≠ s_.2.2.2.2) ∧ (s_.2.2.2.2 ≠ gb481) ∧ (gb487 ≠ s_.2.2.2.2) ∧ (s_.2.2.2.2 ≠ gb487) ∧ (Below w.heap.size w w')) ?_ ?_
   rotate_left
   ·intro hJ3_4_5_6_10
    refine join_ (σ := Value × Value × Value × Value) 3 #[true, true, true, true, true, true, true, true, true, true, false, false, false] (fun s_ => [(62, s_.1), (63, s_.2.1), (64, s_.2.2.1), (65, .tuple #[.agg #[.string t501, .bool t502], s_.2.2.2]), (58, .tuple #[.agg #[.string t501, .bool t502], s_.2.2.2]), (66, .agg #[.string t501, .bool t502]), (67, s_.2.2.2)]) (fun s_ w' => (w'.cell? ⟨gb475, 0, none⟩ = some (.string t472) ∧ w'.cell? ⟨gb475, 1, none⟩ = some (.bool t473)) ∧ (Kd.R (Kd.int .i64) 3 w' w.heap.size (fun _ => True) (.slice Ao44 t489.length co44) t489) ∧ (Kd.R Kd.string 9 w' w.heap.size (fun k_ => some k_ ≠ (s_.2.2.1 : Value).ownBlock) s_.2.1 y495) ∧ (Kd.R Kd.string 9 w' w.heap.size (fun k_ => some k_ ≠ (s_.2.1 : Value).ownBlock) s_.2.2.1 y498) ∧ (Kd.S k40 40 w' w.heap.size (fun k_ => some k_ ≠ (v479 : Value).ownBlock) s_.2.2.2 t503) ∧ (Kd.S k40 40 w' w.heap.size (fun k_ => some k_ ≠ (s_.2.2.2 : Value).ownBlock) v479 t478) ∧ (w'.heap[gb475]? = some (.cells #[.string t472, .bool t473] 25 (0, 0))) ∧ (w'.heap[gb481]? = some (.cells #[.string t476, .bool t477] 25 (0, 0))) ∧ (w'.heap[gb487]? = some (.cells #[.string t482, .bool t483] 25 (0, 0))) ∧ (Below w.heap.size w w')) ?_ ?_
    rotate_left
    ·intro hJ3_4_5_6
     refine join_ (σ := Value × Value × Value × Nat) 6 #[true, true, true, true, true, true, false, false, false, false, true, false, false] (fun s_ => [(62, s_.1), (63, s_.2.1), (64, s_.2.2.1), (11, .pointer (some ⟨s_.2.2.2, 0, none⟩))]) (fun s_ w' => (w'.cell? ⟨gb475, 0, none⟩ = some (.string t472) ∧ w'.cell? ⟨gb475, 1, none⟩ = some (.bool t473)) ∧ (Kd.R (Kd.int .i64) 3 w' w.heap.size (fun _ => True) (.slice Ao44 t489.length co44) t489) ∧ (Kd.R Kd.string 9 w' w.heap.size (fun k_ => some k_ ≠ (s_.2.2.1 : Value).ownBlock) s_.2.1 y495) ∧ (Kd.R Kd.string 9 w' w.heap.size (fun k_ => some k_ ≠ (s_.2.1 : Value).ownBlock) s_.2.2.1 y498) ∧ (Kd.S k40 40 w' w.heap.size (fun _ => True) v479 t478) ∧ (w'.heap[gb475]? = some (.cells #[.string t472, .bool t473] 25 (0, 0))) ∧ (w'.heap[gb481]? = some (.cells #[.string t476, .bool t477] 25 (0, 0))) ∧ (w'.heap[gb487]? = some (.cells #[.string t482, .bool t483] 25 (0, 0))) ∧ (w'.heap[s_.2.2.2]? = some (.cells #[.string (⟨#[]⟩ : ByteArray), .bool false] 25 (0, 0))) ∧ (w.heap.size ≤ s_.2.2.2) ∧ (w.heap.size ≤ s_.2.2.2) ∧ (gb475 ≠ s_.2.2.2) ∧ (s_.2.2.2 ≠ gb475) ∧ (gb481 ≠ s_.2.2.2) ∧ (s_.2.2.2 ≠ gb481) ∧ (gb487 ≠ s_.2.2.2) ∧ (s_.2.2.2 ≠ gb487) ∧ (Below w.heap.size w w')) ?_ ?_
     rotate_left
     ·intro hJ3_4_5_10
      refine join_ (σ := Value × Value × Value) 7 #[true, true, true, true, true, true, false, false, false, false, false, false, false] (fun s_ => [(62, s_.1), (63, s_.2.1), (64, s_.2.2)]) (fun s_ w' => (w'.cell? ⟨gb475, 0, none⟩ = some (.string t472) ∧ w'.cell? ⟨gb475, 1, none⟩ = some (.bool t473)) ∧ (Kd.R (Kd.int .i64) 3 w' w.heap.size (fun _ => True) (.slice Ao44 t489.length co44) t489) ∧ (Kd.R Kd.string 9 w' w.heap.size (fun k_ => some k_ ≠ (s_.2.2 : Value).ownBlock) s_.2.1 y495) ∧ (Kd.R Kd.string 9 w' w.heap.size (fun k_ => some k_ ≠ (s_.2.1 : Value).ownBlock) s_.2.2 y498) ∧ (Kd.S k40 40 w' w.heap.size (fun _ => True) v479 t478) ∧ (w'.heap[gb475]? = some (.cells #[.string t472, .bool t473] 25 (0, 0))) ∧ (w'.heap[gb481]? = some (.cells #[.string t476, .bool t477] 25 (0, 0))) ∧ (w'.heap[gb487]? = some (.cells #[.string t482, .bool t483] 25 (0, 0))) ∧ (Below w.heap.size w w')) ?_ ?_
      rotate_left
      ·intro hJ3_4_5
       refine join_ (σ := Value × Value × Nat) 7 #[true, true, true, true, true, false, false, false, false, false, true, false, false] (fun s_ => [(62, s_.1), (63, s_.2.1), (11, .pointer (some ⟨s_.2.2, 0, none⟩))]) (fun s_ w' => (w'.cell? ⟨gb475, 0, none⟩ = some (.string t472) ∧ w'.cell? ⟨gb475, 1, none⟩ = some (.bool t473)) ∧ (Kd.R (Kd.int .i64) 3 w' w.heap.size (fun _ => True) (.slice Ao44 t489.length co44) t489) ∧ (Kd.R Kd.string 9 w' w.heap.size (fun k_ => some k_ ≠ (s_.2.1 : Value).ownBlock) s_.1 t492) ∧ (Kd.R Kd.string 9 w' w.heap.size (fun k_ => some k_ ≠ (s_.1 : Value).ownBlock) s_.2.1 y495) ∧ (Kd.S k40 40 w' w.heap.size (fun _ => True) v479 t478) ∧ (w'.heap[gb475]? = some (.cells #[.string t472, .bool t473] 25 (0, 0))) ∧ (w'.heap[gb481]? = some (.cells #[.string t476, .bool t477] 25 (0, 0))) ∧ (w'.heap[gb487]? = some (.cells #[.string t482, .bool t483] 25 (0, 0))) ∧ (w'.heap[s_.2.2]? = some (.cells #[.string (⟨#[]⟩ : ByteArray), .bool false] 25 (0, 0))) ∧ (w.heap.size ≤ s_.2.2) ∧ (w.heap.size ≤ s_.2.2) ∧ (gb475 ≠ s_.2.2) ∧ (s_.2.2 ≠ gb475) ∧ (gb481 ≠ s_.2.2) ∧ (s_.2.2 ≠ gb481) ∧ (gb487 ≠ s_.2.2) ∧ (s_.2.2 ≠ gb487) ∧ (Below w.heap.size w w')) ?_ ?_
       rotate_left
       ·intro hJ3_4_10
        refine join_ (σ := Value × Value) 8 #[true, true, true, true, true, false, false, false, false, false, false, false, false] (fun s_ => [(62, s_.1), (63, s_.2)]) (fun s_ w' => (w'.cell? ⟨gb475, 0, none⟩ = some (.string t472) ∧ w'.cell? ⟨gb475, 1, none⟩ = some (.bool t473)) ∧ (Kd.R (Kd.int .i64) 3 w' w.heap.size (fun _ => True) (.slice Ao44 t489.length co44) t489) ∧ (Kd.R Kd.string 9 w' w.heap.size (fun k_ => some k_ ≠ (s_.2 : Value).ownBlock) s_.1 t492) ∧ (Kd.R Kd.string 9 w' w.heap.size (fun k_ => some k_ ≠ (s_.1 : Value).ownBlock) s_.2 y495) ∧ (Kd.S k40 40 w' w.heap.size (fun _ => True) v479 t478) ∧ (w'.heap[gb475]? = some (.cells #[.string t472, .bool t473] 25 (0, 0))) ∧ (w'.heap[gb481]? = some (.cells #[.string t476, .bool t477] 25 (0, 0))) ∧ (w'.heap[gb487]? = some (.cells #[.string t482, .bool t483] 25 (0, 0))) ∧ (Below w.heap.size w w')) ?_ ?_
        rotate_left
        ·intro hJ3_4
         refine join_ (σ := Value × Nat) 8 #[true, true, true, true, false, false, false, false, false, false, true, false, false] (fun s_ => [(62, s_.1), (11, .pointer (some ⟨s_.2, 0, none⟩))]) (fun s_ w' => (w'.cell? ⟨gb475, 0, none⟩ = some (.string t472) ∧ w'.cell? ⟨gb475, 1, none⟩ = some (.bool t473)) ∧ (Kd.R (Kd.int .i64) 3 w' w.heap.size (fun _ => True) (.slice Ao44 t489.length co44) t489) ∧ (Kd.R Kd.string 9 w' w.heap.size (fun _ => True) s_.1 t492) ∧ (Kd.S k40 40 w' w.heap.size (fun _ => True) v479 t478) ∧ (w'.heap[gb475]? = some (.cells #[.string t472, .bool t473] 25 (0, 0))) ∧ (w'.heap[gb481]? = some (.cells #[.string t476, .bool t477] 25 (0, 0))) ∧ (w'.heap[gb487]? = some (.cells #[.string t482, .bool t483] 25 (0, 0))) ∧ (w'.heap[s_.2]? = some (.cells #[.string (⟨#[]⟩ : ByteArray), .bool false] 25 (0, 0))) ∧ (w.heap.size ≤ s_.2) ∧ (w.heap.size ≤ s_.2) ∧ (gb475 ≠ s_.2) ∧ (s_.2 ≠ gb475) ∧ (gb481 ≠ s_.2) ∧ (s_.2 ≠ gb481) ∧ (gb487 ≠ s_.2) ∧ (s_.2 ≠ gb487) ∧ (Below w.heap.size w w')) ?_ ?_
         rotate_left
         ·intro hJ3_10
          refine join_ (σ := Value × Nat) 8 #[true, true, true, false, true, false, false, false, false, false, true, false, false] (fun s_ => [(63, s_.1), (11, .pointer (some ⟨s_.2, 0, none⟩))]) (fun s_ w' => (w'.cell? ⟨gb475, 0, none⟩ = some (.string t472) ∧ w'.cell? ⟨gb475, 1, none⟩ = some (.bool t473)) ∧ (Kd.R (Kd.int .i64) 3 w' w.heap.size (fun _ => True) (.slice Ao44 t489.length co44) t489) ∧ (Kd.R Kd.string 9 w' w.heap.size (fun _ => True) s_.1 y495) ∧ (Kd.S k40 40 w' w.heap.size (fun _ => True) v479 t478) ∧ (w'.heap[gb475]? = some (.cells #[.string t472, .bool t473] 25 (0, 0))) ∧ (w'.heap[gb481]? = some (.cells #[.string t476, .bool t477] 25 (0, 0))) ∧ (w'.heap[gb487]? = some (.cells #[.string t482, .bool t483] 25 (0, 0))) ∧ (w'.heap[s_.2]? = some (.cells #[.string (⟨#[]⟩ : ByteArray), .bool false] 25 (0, 0))) ∧ (w.heap.size ≤ s_.2) ∧ (w.heap.size ≤ s_.2) ∧ (gb475 ≠ s_.2) ∧ (s_.2 ≠ gb475) ∧ (gb481 ≠ s_.2) ∧ (s_.2 ≠ gb481) ∧ (gb487 ≠ s_.2) ∧ (s_.2 ≠ gb487) ∧ (Below w.heap.size w w')) ?_ ?_
          rotate_left
          ·intro hJ4_10
           refine join_ (σ := Value) 9 #[true, true, true, true, false, false, false, false, false, false, false, false, false] (fun s_ => [(62, s_)]) (fun s_ w' => (w'.cell? ⟨gb475, 0, none⟩ = some (.string t472) ∧ w'.cell? ⟨gb475, 1, none⟩ = some (.bool t473)) ∧ (Kd.R (Kd.int .i64) 3 w' w.heap.size (fun _ => True) (.slice Ao44 t489.length co44) t489) ∧ (Kd.R Kd.string 9 w' w.heap.size (fun _ => True) s_ t492) ∧ (Kd.S k40 40 w' w.heap.size (fun _ => True) v479 t478) ∧ (w'.heap[gb475]? = some (.cells #[.string t472, .bool t473] 25 (0, 0))) ∧ (w'.heap[gb481]? = some (.cells #[.string t476, .bool t477] 25 (0, 0))) ∧ (w'.heap[gb487]? = some (.cells #[.string t482, .bool t483] 25 (0, 0))) ∧ (Below w.heap.size w w')) ?_ ?_
           rotate_left
           ·intro hJ3
            refine join_ (σ := Value) 9 #[true, true, true, false, true, false, false, false, false, false, false, false, false] (fun s_ => [(63, s_)]) (fun s_ w' => (w'.cell? ⟨gb475, 0, none⟩ = some (.string t472) ∧ w'.cell? ⟨gb475, 1, none⟩ = some (.bool t473)) ∧ (Kd.R (Kd.int .i64) 3 w' w.heap.size (fun _ => True) (.slice Ao44 t489.length co44) t489) ∧ (Kd.R Kd.string 9 w' w.heap.size (fun _ => True) s_ y495) ∧ (Kd.S k40 40 w' w.heap.size (fun _ => True) v479 t478) ∧ (w'.heap[gb475]? = some (.cells #[.string t472, .bool t473] 25 (0, 0))) ∧ (w'.heap[gb481]? = some (.cells #[.string t476, .bool t477] 25 (0, 0))) ∧ (w'.heap[gb487]? = some (.cells #[.string t482, .bool t483] 25 (0, 0))) ∧ (Below w.heap.size w w')) ?_ ?_
            rotate_left
            ·intro hJ4
             refine join_ (σ := Nat) 9 #[true, true, true, false, false, false, false, false, false, false, true, false, false] (fun s_ => [(11, .pointer (some ⟨s_, 0, none⟩))]) (fun s_ w' => (w'.cell? ⟨gb475, 0, none⟩ = some (.string t472) ∧ w'.cell? ⟨gb475, 1, none⟩ = some (.bool t473)) ∧ (Kd.R (Kd.int .i64) 3 w' w.heap.size (fun _ => True) (.slice Ao44 t489.length co44) t489) ∧ (Kd.S k40 40 w' w.heap.size (fun _ => True) v479 t478) ∧ (w'.heap[gb475]? = some (.cells #[.string t472, .bool t473] 25 (0, 0))) ∧ (w'.heap[gb481]? = some (.cells #[.string t476, .bool t477] 25 (0, 0))) ∧ (w'.heap[gb487]? = some (.cells #[.string t482, .bool t483] 25 (0, 0))) ∧ (w'.heap[s_]? = some (.cells #[.string (⟨#[]⟩ : ByteArray), .bool false] 25 (0, 0))) ∧ (w.heap.size ≤ s_) ∧ (w.heap.size ≤ s_) ∧ (gb475 ≠ s_) ∧ (s_ ≠ gb475) ∧ (gb481 ≠ s_) ∧ (s_ ≠ gb481) ∧ (gb487 ≠ s_) ∧ (s_ ≠ gb487) ∧ (Below w.heap.size w w')) ?_ ?_
             rotate_left
             ·intro hJ10
              refine three_ (i := 3) (j := 4) (k := 10) (Ni := some 62) (Nj := some 63) (Nk := some 11) #[true, true, true, true, false, false, false, false, false, false, false, false, false] #[true, true, true, false, true, false, false, false, false, false, false, false, false] #[true, true, true, false, false, false, false, false, false, false, true, false, false] rfl rfl rfl rfl rfl rfl (three_of HT_.out (by kernel_rfl)) (by decide) (by decide) (by decide) (fun K hK => ?_) (fun K hK => ?_) (fun K hK => ?_)
              ·skip
               refine goes_ Tryz.func13 (by kernel_rfl) rfl #[.string t474, .slice Ao44 t489.length co44] (by rfl) rfl rfl ma ?_
               with_reducible refine (impl_Pieces.calls kj6 t474 _ _ t489 t492 _ ?side1 ?side2 A36.out).mono ?_
               (case side1 => exact rc HO491)
               (case side2 => exact (Kd.R_reads' HO491.out).2.1)
               rintro e w46 ⟨v493, rfl, ho0, hb⟩
               refine ⟨_, rfl, ?_⟩
               have n0_ := am (Kd.S_below (by (with_reducible repeat (first | apply Kd.S_alloc | apply Kd.S_drewN | apply Kd.S_drew)); exact HO_6.out) hb)
               have n1_ := am (Kd.R_below (ro HO491) hb)
               have n2_ := am (Kd.R_lower ho0 (below_size bl))
               have n3_ := kb BK475 hb
               have n4_ := kb BK481 hb
               have n5_ := kb BK487 hb
               have n6_ := am (below_step bl hb)
               clear HO_6
               clear HO491
               clear BK475
               clear BK481
               clear BK487
               clear HB
               have HO_6 := n0_
               have HO491 := n1_
               have HO494 := n2_
               have BK475 := n3_
               have BK481 := n4_
               have BK487 := n5_
               have HB := n6_
               clear n0_ n1_ n2_ n3_ n4_ n5_ n6_
               clear hb ho0
               refine hK.out _ _ ⟨bc BK475, bc BK475⟩ (fun hHeld => ?_)
               clear hK K
               refine nm 62 ?_
               exact norm_ (by first | (simp only [putAll, Act.put, List.setIfInBounds_toArray, List.set_cons_zero, List.set_cons_succ]; done) | (simp only [putAll, Act.put, List.setIfInBounds_toArray, List.set_cons_zero, List.set_cons_succ]; rfl)) (hJ3 (v493) _ ⟨hHeld, (ro HO491), (ro HO494), (by (with_reducible repeat (first | apply Kd.S_alloc | apply Kd.S_drewN | apply Kd.S_drew)); exact HO_6.out), (bk BK475), (bk BK481), (bk BK487), bl⟩)
              ·skip
               refine Kd.R_lit_step Kd.string _ 9 ?hg (N := 63) ?hd (xs := ([(⟨#[]⟩ : ByteArray)] : List ByteArray)) (inner := [.string (⟨#[]⟩ : ByteArray)]) (ok := fun _ => True) (okp := fun _ => True) ?hr ?hp (fun _ hk => hk) trivial (Below.refl _ _) (Nat.le_refl _) (by simp) ?_; (case hd => rfl); (case hg => rfl); (case hr => first | (go_simp; done) | (go_simp; rfl)); (case hp => exact rp)
               intro v496 w46 ho47 hb hg_ hnew_
               clear hg_ hnew_
               (first | rw [← Ny495.out] at ho47 | (simp only [Int.reduceToNat] at ho47; rw [← Ny495.out] at ho47))
               have n0_ := am (Kd.S_below (by (with_reducible repeat (first | apply Kd.S_alloc | apply Kd.S_drewN | apply Kd.S_drew)); exact HO_6.out) hb)
               have n1_ := am (Kd.R_below (ro HO491) hb)
               have n2_ := am (Kd.R_lower ho47 (below_size bl))
               have n3_ := kb BK475 hb
               have n4_ := kb BK481 hb
               have n5_ := kb BK487 hb
               have n6_ := am (below_step bl hb)
               clear HO_6
               clear HO491
               clear BK475
               clear BK481
               clear BK487
               clear HB
               have HO_6 := n0_
               have HO491 := n1_
               have HO497 := n2_
               have BK475 := n3_
               have BK481 := n4_
               have BK487 := n5_
               have HB := n6_
               clear n0_ n1_ n2_ n3_ n4_ n5_ n6_
               clear hb ho47
               refine hK.out _ _ ⟨bc BK475, bc BK475⟩ (fun hHeld => ?_)
               clear hK K
               refine nm 63 ?_
               exact norm_ (by first | (simp only [putAll, Act.put, List.setIfInBounds_toArray, List.set_cons_zero, List.set_cons_succ]; done) | (simp only [putAll, Act.put, List.setIfInBounds_toArray, List.set_cons_zero, List.set_cons_succ]; rfl)) (hJ4 (v496) _ ⟨hHeld, (ro HO491), (ro HO497), (by (with_reducible repeat (first | apply Kd.S_alloc | apply Kd.S_drewN | apply Kd.S_drew)); exact HO_6.out), (bk BK475), (bk BK481), (bk BK487), bl⟩)
              ·skip
               refine box_step ?hg (N := 11) ?hd (cs := #[.string (⟨#[]⟩ : ByteArray), .bool false]) (t := 25) ?hr ?_; (case hd => rfl); (case hg => rfl); (case hr => first | (go_simp; done) | (go_simp; rfl))
               intro gb506 hg w46 hbox hb
               have n0_ := am (Kd.S_below (by (with_reducible repeat (first | apply Kd.S_alloc | apply Kd.S_drewN | apply Kd.S_drew)); exact HO_6.out) hb)
               have n1_ := am (Kd.R_below (ro HO491) hb)
               have n2_ := kb BK475 hb
               have n3_ := kb BK481 hb
               have n4_ := kb BK487 hb
               have n5_ := am (below_step bl hb)
               have n6_ := am (hbox)
               have n7_ := am (sz hg : w.heap.size ≤ gb506)
               have n8_ := am (sz hg : w.heap.size ≤ gb506)
               have n9_ := am (nl hg BK475 : gb475 ≠ gb506)
               have n10_ := am (ng hg BK475 : gb506 ≠ gb475)
               have n11_ := am (nl hg BK481 : gb481 ≠ gb506)
               have n12_ := am (ng hg BK481 : gb506 ≠ gb481)
               have n13_ := am (nl hg BK487 : gb487 ≠ gb506)
               have n14_ := am (ng hg BK487 : gb506 ≠ gb487)
               clear HO_6
               clear HO491
               clear BK475
               clear BK481
               clear BK487
               clear HB
               have HO_6 := n0_
               have HO491 := n1_
               have BK475 := n2_
               have BK481 := n3_
               have BK487 := n4_
               have HB := n5_
               have BK506 := n6_
               have GW506 := n7_
               have GE506 := n8_
               have NB475_506 := n9_
               have NB506_475 := n10_
               have NB481_506 := n11_
               have NB506_481 := n12_
               have NB487_506 := n13_
               have NB506_487 := n14_
               clear n0_ n1_ n2_ n3_ n4_ n5_ n6_ n7_ n8_ n9_ n10_ n11_ n12_ n13_ n14_
               clear hb hbox hg
               refine hK.out _ _ ⟨bc BK475, bc BK475⟩ (fun hHeld => ?_)
               clear hK K
               refine nm 11 ?_
               exact norm_ (by first | (simp only [putAll, Act.put, List.setIfInBounds_toArray, List.set_cons_zero, List.set_cons_succ]; done) | (simp only [putAll, Act.put, List.setIfInBounds_toArray, List.set_cons_zero, List.set_cons_succ]; rfl)) (hJ10 (gb506) _ ⟨hHeld, (ro HO491), (by (with_reducible repeat (first | apply Kd.S_alloc | apply Kd.S_drewN | apply Kd.S_drew)); exact HO_6.out), (bk BK475), (bk BK481), (bk BK487), (bk BK506), GW506.out, GE506.out, NB475_506.out, NB506_475.out, NB481_506.out, NB506_481.out, NB487_506.out, NB506_487.out, bl⟩)
             ·skip
              rintro gb506 w47 ⟨hS_, h0_, h1_, h2_, h3_, h4_, h5_, h6_, h7_, h8_, h9_, h10_, h11_, h12_, h13_, h14_⟩
              have n0_ : Aside0 (Kd.R (Kd.int .i64) 3 w47 w.heap.size (fun _ => True) (.slice Ao44 t489.length co44) t489) := ⟨h0_⟩
              have n1_ : Aside0 (Kd.S k40 40 w47 w.heap.size (fun _ => True) v479 t478) := ⟨h1_⟩
              have n2_ : Aside0 (w47.heap[gb475]? = some (.cells #[.string t472, .bool t473] 25 (0, 0))) := ⟨h2_⟩
              have n3_ : Aside0 (w47.heap[gb481]? = some (.cells #[.string t476, .bool t477] 25 (0, 0))) := ⟨h3_⟩
              have n4_ : Aside0 (w47.heap[gb487]? = some (.cells #[.string t482, .bool t483] 25 (0, 0))) := ⟨h4_⟩
              have n5_ : Aside0 (w47.heap[gb506]? = some (.cells #[.string (⟨#[]⟩ : ByteArray), .bool false] 25 (0, 0))) := ⟨h5_⟩
              have n6_ : Aside0 (w.heap.size ≤ gb506) := ⟨h6_⟩
              have n7_ : Aside0 (w.heap.size ≤ gb506) := ⟨h7_⟩
              have n8_ : Aside0 (gb475 ≠ gb506) := ⟨h8_⟩
              have n9_ : Aside0 (gb506 ≠ gb475) := ⟨h9_⟩
              have n10_ : Aside0 (gb481 ≠ gb506) := ⟨h10_⟩
              have n11_ : Aside0 (gb506 ≠ gb481) := ⟨h11_⟩
              have n12_ : Aside0 (gb487 ≠ gb506) := ⟨h12_⟩
              have n13_ : Aside0 (gb506 ≠ gb487) := ⟨h13_⟩
              have n14_ : Aside0 (Below w.heap.size w w47) := ⟨h14_⟩
              clear HO_6
              clear HO491
              clear BK475
              clear BK481
              clear BK487
              clear HB
              clear h0_ h1_ h2_ h3_ h4_ h5_ h6_ h7_ h8_ h9_ h10_ h11_ h12_ h13_ h14_
              have HO491 := n0_
              have HO_6 := n1_
              have BK475 := n2_
              have BK481 := n3_
              have BK487 := n4_
              have BK506 := n5_
              have GW506 := n6_
              have GE506 := n7_
              have NB475_506 := n8_
              have NB506_475 := n9_
              have NB481_506 := n10_
              have NB506_481 := n11_
              have NB487_506 := n12_
              have NB506_487 := n13_
              have HB := n14_
              clear n0_ n1_ n2_ n3_ n4_ n5_ n6_ n7_ n8_ n9_ n10_ n11_ n12_ n13_ n14_
              have hHeld : w47.cell? ⟨gb475, 0, none⟩ = some (.string t472) ∧ w47.cell? ⟨gb475, 1, none⟩ = some (.bool t473) := hS_
              refine norm_ (a' := ?_) ?_ ?_
              rotate_left
              ·simp only [putAll, Act.put, List.setIfInBounds_toArray, List.set_cons_zero, List.set_cons_succ]
               rfl
              refine two_ (i := 3) (j := 4) (Ni := some 62) (Nj := some 63) #[true, true, true, true, false, false, false, false, false, false, true, false, false] #[true, true, true, false, true, false, false, false, false, false, true, false, false] rfl rfl rfl rfl (two_of HT_.out (by kernel_rfl)) (by decide) (by decide) (fun K hK => ?_) (fun K hK => ?_)
              ·skip
               refine goes_ Tryz.func13 (by kernel_rfl) rfl #[.string t474, .slice Ao44 t489.length co44] (by rfl) rfl rfl ma ?_
               with_reducible refine (impl_Pieces.calls kj6 t474 _ _ t489 t492 _ ?side1 ?side2 A36.out).mono ?_
               (case side1 => exact rc HO491)
               (case side2 => exact (Kd.R_reads' HO491.out).2.1)
               rintro e w48 ⟨v493, rfl, ho0, hb⟩
               refine ⟨_, rfl, ?_⟩
               have n0_ := am (Kd.S_below (by (with_reducible repeat (first | apply Kd.S_alloc | apply Kd.S_drewN | apply Kd.S_drew)); exact HO_6.out) hb)
               have n1_ := am (Kd.R_below (ro HO491) hb)
               have n2_ := am (Kd.R_lower ho0 (below_size bl))
               have n3_ := kb BK475 hb
               have n4_ := kb BK481 hb
               have n5_ := kb BK487 hb
               have n6_ := kb BK506 hb
               have n7_ := am (below_step bl hb)
               clear HO_6
               clear HO491
               clear BK475
               clear BK481
               clear BK487
               clear BK506
               clear HB
               have HO_6 := n0_
               have HO491 := n1_
               have HO494 := n2_
               have BK475 := n3_
               have BK481 := n4_
               have BK487 := n5_
               have BK506 := n6_
               have HB := n7_
               clear n0_ n1_ n2_ n3_ n4_ n5_ n6_ n7_
               clear hb ho0
               refine hK.out _ _ ⟨bc BK475, bc BK475⟩ (fun hHeld => ?_)
               clear hK K
               refine nm 62 ?_
               exact norm_ (by first | (simp only [putAll, Act.put, List.setIfInBounds_toArray, List.set_cons_zero, List.set_cons_succ]; done) | (simp only [putAll, Act.put, List.setIfInBounds_toArray, List.set_cons_zero, List.set_cons_succ]; rfl)) (hJ3_10 (v493, gb506) _ ⟨hHeld, (ro HO491), (ro HO494), (by (with_reducible repeat (first | apply Kd.S_alloc | apply Kd.S_drewN | apply Kd.S_drew)); exact HO_6.out), (bk BK475), (bk BK481), (bk BK487), (bk BK506), GW506.out, GE506.out, NB475_506.out, NB506_475.out, NB481_506.out, NB506_481.out, NB487_506.out, NB506_487.out, bl⟩)
              ·skip
               refine Kd.R_lit_step Kd.string _ 9 ?hg (N := 63) ?hd (xs := ([(⟨#[]⟩ : ByteArray)] : List ByteArray)) (inner := [.string (⟨#[]⟩ : ByteArray)]) (ok := fun _ => True) (okp := fun _ => True) ?hr ?hp (fun _ hk => hk) trivial (Below.refl _ _) (Nat.le_refl _) (by simp) ?_; (case hd => rfl); (case hg => rfl); (case hr => first | (go_simp; done) | (go_simp; rfl)); (case hp => exact rp)
               intro v496 w48 ho49 hb hg_ hnew_
               clear hg_ hnew_
               (first | rw [← Ny495.out] at ho49 | (simp only [Int.reduceToNat] at ho49; rw [← Ny495.out] at ho49))
               have n0_ := am (Kd.S_below (by (with_reducible repeat (first | apply Kd.S_alloc | apply Kd.S_drewN | apply Kd.S_drew)); exact HO_6.out) hb)
               have n1_ := am (Kd.R_below (ro HO491) hb)
               have n2_ := am (Kd.R_lower ho49 (below_size bl))
               have n3_ := kb BK475 hb
               have n4_ := kb BK481 hb
               have n5_ := kb BK487 hb
               have n6_ := kb BK506 hb
               have n7_ := am (below_step bl hb)
               clear HO_6
               clear HO491
               clear BK475
               clear BK481
               clear BK487
               clear BK506
               clear HB
               have HO_6 := n0_
               have HO491 := n1_
               have HO497 := n2_
               have BK475 := n3_
               have BK481 := n4_
               have BK487 := n5_
               have BK506 := n6_
               have HB := n7_
               clear n0_ n1_ n2_ n3_ n4_ n5_ n6_ n7_
               clear hb ho49
               refine hK.out _ _ ⟨bc BK475, bc BK475⟩ (fun hHeld => ?_)
               clear hK K
               refine nm 63 ?_
               exact norm_ (by first | (simp only [putAll, Act.put, List.setIfInBounds_toArray, List.set_cons_zero, List.set_cons_succ]; done) | (simp only [putAll, Act.put, List.setIfInBounds_toArray, List.set_cons_zero, List.set_cons_succ]; rfl)) (hJ4_10 (v496, gb506) _ ⟨hHeld, (ro HO491), (ro HO497), (by (with_reducible repeat (first | apply Kd.S_alloc | apply Kd.S_drewN | apply Kd.S_drew)); exact HO_6.out), (bk BK475), (bk BK481), (bk BK487), (bk BK506), GW506.out, GE506.out, NB475_506.out, NB506_475.out, NB481_506.out, NB506_481.out, NB487_506.out, NB506_487.out, bl⟩)
            ·skip
             rintro v496 w48 ⟨hS_, h0_, h1_, h2_, h3_, h4_, h5_, h6_⟩
             have n0_ : Aside0 (Kd.R (Kd.int .i64) 3 w48 w.heap.size (fun _ => True) (.slice Ao44 t489.length co44) t489) := ⟨h0_⟩
             have n1_ : Aside0 (Kd.R Kd.string 9 w48 w.heap.size (fun _ => True) v496 y495) := ⟨h1_⟩
             have n2_ : Aside0 (Kd.S k40 40 w48 w.heap.size (fun _ => True) v479 t478) := ⟨h2_⟩
             have n3_ : Aside0 (w48.heap[gb475]? = some (.cells #[.string t472, .bool t473] 25 (0, 0))) := ⟨h3_⟩
             have n4_ : Aside0 (w48.heap[gb481]? = some (.cells #[.string t476, .bool t477] 25 (0, 0))) := ⟨h4_⟩
             have n5_ : Aside0 (w48.heap[gb487]? = some (.cells #[.string t482, .bool t483] 25 (0, 0))) := ⟨h5_⟩
             have n6_ : Aside0 (Below w.heap.size w w48) := ⟨h6_⟩
             clear HO_6
             clear HO491
             clear BK475
             clear BK481
             clear BK487
             clear HB
             clear h0_ h1_ h2_ h3_ h4_ h5_ h6_
             have HO491 := n0_
             have HO497 := n1_
             have HO_6 := n2_
             have BK475 := n3_
             have BK481 := n4_
             have BK487 := n5_
             have HB := n6_
             clear n0_ n1_ n2_ n3_ n4_ n5_ n6_
             have hHeld : w48.cell? ⟨gb475, 0, none⟩ = some (.string t472) ∧ w48.cell? ⟨gb475, 1, none⟩ = some (.bool t473) := hS_
             refine norm_ (a' := ?_) ?_ ?_
             rotate_left
             ·simp only [putAll, Act.put, List.setIfInBounds_toArray, List.set_cons_zero, List.set_cons_succ]
              rfl
             refine two_ (i := 3) (j := 10) (Ni := some 62) (Nj := some 11) #[true, true, true, true, true, false, false, false, false, false, false, false, false] #[true, true, true, false, true, false, false, false, false, false, true, false, false] rfl rfl rfl rfl (two_of HT_.out (by kernel_rfl)) (by decide) (by decide) (fun K hK => ?_) (fun K hK => ?_)
             ·skip
              refine goes_ Tryz.func13 (by kernel_rfl) rfl #[.string t474, .slice Ao44 t489.length co44] (by rfl) rfl rfl ma ?_
              with_reducible refine (impl_Pieces.calls kj6 t474 _ _ t489 t492 _ ?side1 ?side2 A36.out).mono ?_
              (case side1 => exact rc HO491)
              (case side2 => exact (Kd.R_reads' HO491.out).2.1)
              rintro e w49 ⟨v493, rfl, ho0, hb⟩
              refine ⟨_, rfl, ?_⟩
              have n0_ := am (Kd.S_below (by (with_reducible repeat (first | apply Kd.S_alloc | apply Kd.S_drewN | apply Kd.S_drew)); exact HO_6.out) hb)
              have n1_ := am (Kd.R_below (ro HO491) hb)
              have n2_ := am (Kd.R_elder' (ro HO497) (Kd.R_base ho0) hb)
              have n3_ := am (Kd.R_lower (Kd.R_new' ho0 (Kd.R_lt (ro HO497))) (below_size bl))
              have n4_ := kb BK475 hb
              have n5_ := kb BK481 hb
              have n6_ := kb BK487 hb
              have n7_ := am (below_step bl hb)
              clear HO_6
              clear HO491
              clear HO497
              clear BK475
              clear BK481
              clear BK487
              clear HB
              have HO_6 := n0_
              have HO491 := n1_
              have HO497 := n2_
              have HO494 := n3_
              have BK475 := n4_
              have BK481 := n5_
              have BK487 := n6_
              have HB := n7_
              clear n0_ n1_ n2_ n3_ n4_ n5_ n6_ n7_
              clear hb ho0
              refine hK.out _ _ ⟨bc BK475, bc BK475⟩ (fun hHeld => ?_)
              clear hK K
              refine nm 62 ?_
              exact norm_ (by first | (simp only [putAll, Act.put, List.setIfInBounds_toArray, List.set_cons_zero, List.set_cons_succ]; done) | (simp only [putAll, Act.put, List.setIfInBounds_toArray, List.set_cons_zero, List.set_cons_succ]; rfl)) (hJ3_4 (v493, v496) _ ⟨hHeld, (ro HO491), (by (with_reducible repeat (first | apply Kd.R_alloc | apply Kd.R_drewN | apply Kd.R_drew)); exact Kd.R_mono HO494.out (fun _ hk => hk.2)), (by (with_reducible repeat (first | apply Kd.R_alloc | apply Kd.R_drewN | apply Kd.R_drew)); exact Kd.R_mono HO497.out (fun _ hk => hk.2)), (by (with_reducible repeat (first | apply Kd.S_alloc | apply Kd.S_drewN | apply Kd.S_drew)); exact HO_6.out), (bk BK475), (bk BK481), (bk BK487), bl⟩)
             ·skip
              refine box_step ?hg (N := 11) ?hd (cs := #[.string (⟨#[]⟩ : ByteArray), .bool false]) (t := 25) ?hr ?_; (case hd => rfl); (case hg => rfl); (case hr => first | (go_simp; done) | (go_simp; rfl))
              intro gb506 hg w49 hbox hb
              have n0_ := am (Kd.S_below (by (with_reducible repeat (first | apply Kd.S_alloc | apply Kd.S_drewN | apply Kd.S_drew)); exact HO_6.out) hb)
              have n1_ := am (Kd.R_below (ro HO491) hb)
              have n2_ := am (Kd.R_below (ro HO497) hb)
              have n3_ := kb BK475 hb
              have n4_ := kb BK481 hb
              have n5_ := kb BK487 hb
              have n6_ := am (below_step bl hb)
              have n7_ := am (hbox)
              have n8_ := am (sz hg : w.heap.size ≤ gb506)
              have n9_ := am (sz hg : w.heap.size ≤ gb506)
              have n10_ := am (nl hg BK475 : gb475 ≠ gb506)
              have n11_ := am (ng hg BK475 : gb506 ≠ gb475)
              have n12_ := am (nl hg BK481 : gb481 ≠ gb506)
              have n13_ := am (ng hg BK481 : gb506 ≠ gb481)
              have n14_ := am (nl hg BK487 : gb487 ≠ gb506)
              have n15_ := am (ng hg BK487 : gb506 ≠ gb487)
              clear HO_6
              clear HO491
              clear HO497
              clear BK475
              clear BK481
              clear BK487
              clear HB
              have HO_6 := n0_
              have HO491 := n1_
              have HO497 := n2_
              have BK475 := n3_
              have BK481 := n4_
              have BK487 := n5_
              have HB := n6_
              have BK506 := n7_
              have GW506 := n8_
              have GE506 := n9_
              have NB475_506 := n10_
              have NB506_475 := n11_
              have NB481_506 := n12_
              have NB506_481 := n13_
              have NB487_506 := n14_
              have NB506_487 := n15_
              clear n0_ n1_ n2_ n3_ n4_ n5_ n6_ n7_ n8_ n9_ n10_ n11_ n12_ n13_ n14_ n15_
              clear hb hbox hg
              refine hK.out _ _ ⟨bc BK475, bc BK475⟩ (fun hHeld => ?_)
              clear hK K
              refine nm 11 ?_
              exact norm_ (by first | (simp only [putAll, Act.put, List.setIfInBounds_toArray, List.set_cons_zero, List.set_cons_succ]; done) | (simp only [putAll, Act.put, List.setIfInBounds_toArray, List.set_cons_zero, List.set_cons_succ]; rfl)) (hJ4_10 (v496, gb506) _ ⟨hHeld, (ro HO491), (ro HO497), (by (with_reducible repeat (first | apply Kd.S_alloc | apply Kd.S_drewN | apply Kd.S_drew)); exact HO_6.out), (bk BK475), (bk BK481), (bk BK487), (bk BK506), GW506.out, GE506.out, NB475_506.out, NB506_475.out, NB481_506.out, NB506_481.out, NB487_506.out, NB506_487.out, bl⟩)
           ·skip
            rintro v493 w47 ⟨hS_, h0_, h1_, h2_, h3_, h4_, h5_, h6_⟩
            have n0_ : Aside0 (Kd.R (Kd.int .i64) 3 w47 w.heap.size (fun _ => True) (.slice Ao44 t489.length co44) t489) := ⟨h0_⟩
            have n1_ : Aside0 (Kd.R Kd.string 9 w47 w.heap.size (fun _ => True) v493 t492) := ⟨h1_⟩
            have n2_ : Aside0 (Kd.S k40 40 w47 w.heap.size (fun _ => True) v479 t478) := ⟨h2_⟩
            have n3_ : Aside0 (w47.heap[gb475]? = some (.cells #[.string t472, .bool t473] 25 (0, 0))) := ⟨h3_⟩
            have n4_ : Aside0 (w47.heap[gb481]? = some (.cells #[.string t476, .bool t477] 25 (0, 0))) := ⟨h4_⟩
            have n5_ : Aside0 (w47.heap[gb487]? = some (.cells #[.string t482, .bool t483] 25 (0, 0))) := ⟨h5_⟩
            have n6_ : Aside0 (Below w.heap.size w w47) := ⟨h6_⟩
            clear HO_6
            clear HO491
            clear BK475
            clear BK481
            clear BK487
            clear HB
            clear h0_ h1_ h2_ h3_ h4_ h5_ h6_
            have HO491 := n0_
            have HO494 := n1_
            have HO_6 := n2_
            have BK475 := n3_
            have BK481 := n4_
            have BK487 := n5_
            have HB := n6_
            clear n0_ n1_ n2_ n3_ n4_ n5_ n6_
            have hHeld : w47.cell? ⟨gb475, 0, none⟩ = some (.string t472) ∧ w47.cell? ⟨gb475, 1, none⟩ = some (.bool t473) := hS_
            refine norm_ (a' := ?_) ?_ ?_
            rotate_left
            ·simp only [putAll, Act.put, List.setIfInBounds_toArray, List.set_cons_zero, List.set_cons_succ]
             rfl
            refine two_ (i := 4) (j := 10) (Ni := some 63) (Nj := some 11) #[true, true, true, true, true, false, false, false, false, false, false, false, false] #[true, true, true, true, false, false, false, false, false, false, true, false, false] rfl rfl rfl rfl (two_of HT_.out (by kernel_rfl)) (by decide) (by decide) (fun K hK => ?_) (fun K hK => ?_)
            ·skip
             refine Kd.R_lit_step Kd.string _ 9 ?hg (N := 63) ?hd (xs := ([(⟨#[]⟩ : ByteArray)] : List ByteArray)) (inner := [.string (⟨#[]⟩ : ByteArray)]) (ok := fun _ => True) (okp := fun _ => True) ?hr ?hp (fun _ hk => hk) trivial (Below.refl _ _) (Nat.le_refl _) (by simp) ?_; (case hd => rfl); (case hg => rfl); (case hr => first | (go_simp; done) | (go_simp; rfl)); (case hp => exact rp)
             intro v496 w48 ho49 hb hg_ hnew_
             clear hg_ hnew_
             (first | rw [← Ny495.out] at ho49 | (simp only [Int.reduceToNat] at ho49; rw [← Ny495.out] at ho49))
             have n0_ := am (Kd.S_below (by (with_reducible repeat (first | apply Kd.S_alloc | apply Kd.S_drewN | apply Kd.S_drew)); exact HO_6.out) hb)
             have n1_ := am (Kd.R_below (ro HO491) hb)
             have n2_ := am (Kd.R_elder' (ro HO494) (Kd.R_base ho49) hb)
             have n3_ := am (Kd.R_lower (Kd.R_new' ho49 (Kd.R_lt (ro HO494))) (below_size bl))
             have n4_ := kb BK475 hb
             have n5_ := kb BK481 hb
             have n6_ := kb BK487 hb
             have n7_ := am (below_step bl hb)
             clear HO_6
             clear HO491
             clear HO494
             clear BK475
             clear BK481
             clear BK487
             clear HB
             have HO_6 := n0_
             have HO491 := n1_
             have HO494 := n2_
             have HO497 := n3_
             have BK475 := n4_
             have BK481 := n5_
             have BK487 := n6_
             have HB := n7_
             clear n0_ n1_ n2_ n3_ n4_ n5_ n6_ n7_
             clear hb ho49
             refine hK.out _ _ ⟨bc BK475, bc BK475⟩ (fun hHeld => ?_)
             clear hK K
             refine nm 63 ?_
             exact norm_ (by first | (simp only [putAll, Act.put, List.setIfInBounds_toArray, List.set_cons_zero, List.set_cons_succ]; done) | (simp only [putAll, Act.put, List.setIfInBounds_toArray, List.set_cons_zero, List.set_cons_succ]; rfl)) (hJ3_4 (v493, v496) _ ⟨hHeld, (ro HO491), (by (with_reducible repeat (first | apply Kd.R_alloc | apply Kd.R_drewN | apply Kd.R_drew)); exact Kd.R_mono HO494.out (fun _ hk => hk.2)), (by (with_reducible repeat (first | apply Kd.R_alloc | apply Kd.R_drewN | apply Kd.R_drew)); exact Kd.R_mono HO497.out (fun _ hk => hk.2)), (by (with_reducible repeat (first | apply Kd.S_alloc | apply Kd.S_drewN | apply Kd.S_drew)); exact HO_6.out), (bk BK475), (bk BK481), (bk BK487), bl⟩)
            ·skip
             refine box_step ?hg (N := 11) ?hd (cs := #[.string (⟨#[]⟩ : ByteArray), .bool false]) (t := 25) ?hr ?_; (case hd => rfl); (case hg => rfl); (case hr => first | (go_simp; done) | (go_simp; rfl))
             intro gb506 hg w48 hbox hb
             have n0_ := am (Kd.S_below (by (with_reducible repeat (first | apply Kd.S_alloc | apply Kd.S_drewN | apply Kd.S_drew)); exact HO_6.out) hb)
             have n1_ := am (Kd.R_below (ro HO491) hb)
             have n2_ := am (Kd.R_below (ro HO494) hb)
             have n3_ := kb BK475 hb
             have n4_ := kb BK481 hb
             have n5_ := kb BK487 hb
             have n6_ := am (below_step bl hb)
             have n7_ := am (hbox)
             have n8_ := am (sz hg : w.heap.size ≤ gb506)
             have n9_ := am (sz hg : w.heap.size ≤ gb506)
             have n10_ := am (nl hg BK475 : gb475 ≠ gb506)
             have n11_ := am (ng hg BK475 : gb506 ≠ gb475)
             have n12_ := am (nl hg BK481 : gb481 ≠ gb506)
             have n13_ := am (ng hg BK481 : gb506 ≠ gb481)
             have n14_ := am (nl hg BK487 : gb487 ≠ gb506)
             have n15_ := am (ng hg BK487 : gb506 ≠ gb487)
             clear HO_6
             clear HO491
             clear HO494
             clear BK475
             clear BK481
             clear BK487
             clear HB
             have HO_6 := n0_
             have HO491 := n1_
             have HO494 := n2_
             have BK475 := n3_
             have BK481 := n4_
             have BK487 := n5_
             have HB := n6_
             have BK506 := n7_
             have GW506 := n8_
             have GE506 := n9_
             have NB475_506 := n10_
             have NB506_475 := n11_
             have NB481_506 := n12_
             have NB506_481 := n13_
             have NB487_506 := n14_
             have NB506_487 := n15_
             clear n0_ n1_ n2_ n3_ n4_ n5_ n6_ n7_ n8_ n9_ n10_ n11_ n12_ n13_ n14_ n15_
             clear hb hbox hg
             refine hK.out _ _ ⟨bc BK475, bc BK475⟩ (fun hHeld => ?_)
             clear hK K
             refine nm 11 ?_
             exact norm_ (by first | (simp only [putAll, Act.put, List.setIfInBounds_toArray, List.set_cons_zero, List.set_cons_succ]; done) | (simp only [putAll, Act.put, List.setIfInBounds_toArray, List.set_cons_zero, List.set_cons_succ]; rfl)) (hJ3_10 (v493, gb506) _ ⟨hHeld, (ro HO491), (ro HO494), (by (with_reducible repeat (first | apply Kd.S_alloc | apply Kd.S_drewN | apply Kd.S_drew)); exact HO_6.out), (bk BK475), (bk BK481), (bk BK487), (bk BK506), GW506.out, GE506.out, NB475_506.out, NB506_475.out, NB481_506.out, NB506_481.out, NB487_506.out, NB506_487.out, bl⟩)
          ·skip
           rintro ⟨v496, gb506⟩ w49 ⟨hS_, h0_, h1_, h2_, h3_, h4_, h5_, h6_, h7_, h8_, h9_, h10_, h11_, h12_, h13_, h14_, h15_⟩
           have n0_ : Aside0 (Kd.R (Kd.int .i64) 3 w49 w.heap.size (fun _ => True) (.slice Ao44 t489.length co44) t489) := ⟨h0_⟩
           have n1_ : Aside0 (Kd.R Kd.string 9 w49 w.heap.size (fun _ => True) v496 y495) := ⟨h1_⟩
           have n2_ : Aside0 (Kd.S k40 40 w49 w.heap.size (fun _ => True) v479 t478) := ⟨h2_⟩
           have n3_ : Aside0 (w49.heap[gb475]? = some (.cells #[.string t472, .bool t473] 25 (0, 0))) := ⟨h3_⟩
           have n4_ : Aside0 (w49.heap[gb481]? = some (.cells #[.string t476, .bool t477] 25 (0, 0))) := ⟨h4_⟩
           have n5_ : Aside0 (w49.heap[gb487]? = some (.cells #[.string t482, .bool t483] 25 (0, 0))) := ⟨h5_⟩
           have n6_ : Aside0 (w49.heap[gb506]? = some (.cells #[.string (⟨#[]⟩ : ByteArray), .bool false] 25 (0, 0))) := ⟨h6_⟩
           have n7_ : Aside0 (w.heap.size ≤ gb506) := ⟨h7_⟩
           have n8_ : Aside0 (w.heap.size ≤ gb506) := ⟨h8_⟩
           have n9_ : Aside0 (gb475 ≠ gb506) := ⟨h9_⟩
           have n10_ : Aside0 (gb506 ≠ gb475) := ⟨h10_⟩
           have n11_ : Aside0 (gb481 ≠ gb506) := ⟨h11_⟩
           have n12_ : Aside0 (gb506 ≠ gb481) := ⟨h12_⟩
           have n13_ : Aside0 (gb487 ≠ gb506) := ⟨h13_⟩
           have n14_ : Aside0 (gb506 ≠ gb487) := ⟨h14_⟩
           have n15_ : Aside0 (Below w.heap.size w w49) := ⟨h15_⟩
           clear HO_6
           clear HO491
           clear BK475
           clear BK481
           clear BK487
           clear HB
           clear h0_ h1_ h2_ h3_ h4_ h5_ h6_ h7_ h8_ h9_ h10_ h11_ h12_ h13_ h14_ h15_
           have HO491 := n0_
           have HO497 := n1_
           have HO_6 := n2_
           have BK475 := n3_
           have BK481 := n4_
           have BK487 := n5_
           have BK506 := n6_
           have GW506 := n7_
           have GE506 := n8_
           have NB475_506 := n9_
           have NB506_475 := n10_
           have NB481_506 := n11_
           have NB506_481 := n12_
           have NB487_506 := n13_
           have NB506_487 := n14_
           have HB := n15_
           clear n0_ n1_ n2_ n3_ n4_ n5_ n6_ n7_ n8_ n9_ n10_ n11_ n12_ n13_ n14_ n15_
           have hHeld : w49.cell? ⟨gb475, 0, none⟩ = some (.string t472) ∧ w49.cell? ⟨gb475, 1, none⟩ = some (.bool t473) := hS_
           refine norm_ (a' := ?_) ?_ ?_
           rotate_left
           ·simp only [putAll, Act.put, List.setIfInBounds_toArray, List.set_cons_zero, List.set_cons_succ]
            rfl
           refine og 3 62 [5, 5, 1, 2] Tryz.func13 #[.string t474, .slice Ao44 t489.length co44] (fun K hK => ?_)
           with_reducible refine (impl_Pieces.calls kj6 t474 _ _ t489 t492 _ ?side1 ?side2 A36.out).mono ?_
           (case side1 => exact rc HO491)
           (case side2 => exact (Kd.R_reads' HO491.out).2.1)
           rintro e w50 ⟨v493, rfl, ho0, hb⟩
           refine ⟨_, rfl, ?_⟩
           have n0_ := am (Kd.S_below (by (with_reducible repeat (first | apply Kd.S_alloc | apply Kd.S_drewN | apply Kd.S_drew)); exact HO_6.out) hb)
           have n1_ := am (Kd.R_below (ro HO491) hb)
           have n2_ := am (Kd.R_elder' (ro HO497) (Kd.R_base ho0) hb)
           have n3_ := am (Kd.R_lower (Kd.R_new' ho0 (Kd.R_lt (ro HO497))) (below_size bl))
           have n4_ := kb BK475 hb
           have n5_ := kb BK481 hb
           have n6_ := kb BK487 hb
           have n7_ := kb BK506 hb
           have n8_ := am (below_step bl hb)
           clear HO_6
           clear HO491
           clear HO497
           clear BK475
           clear BK481
           clear BK487
           clear BK506
           clear HB
           have HO_6 := n0_
           have HO491 := n1_
           have HO497 := n2_
           have HO494 := n3_
           have BK475 := n4_
           have BK481 := n5_
           have BK487 := n6_
           have BK506 := n7_
           have HB := n8_
           clear n0_ n1_ n2_ n3_ n4_ n5_ n6_ n7_ n8_
           clear hb ho0
           refine hK.out _ _ ⟨bc BK475, bc BK475⟩ (fun hHeld => ?_)
           clear hK K
           refine nm 62 ?_
           exact norm_ (by first | (simp only [putAll, Act.put, List.setIfInBounds_toArray, List.set_cons_zero, List.set_cons_succ]; done) | (simp only [putAll, Act.put, List.setIfInBounds_toArray, List.set_cons_zero, List.set_cons_succ]; rfl)) (hJ3_4_10 (v493, v496, gb506) _ ⟨hHeld, (ro HO491), (by (with_reducible repeat (first | apply Kd.R_alloc | apply Kd.R_drewN | apply Kd.R_drew)); exact Kd.R_mono HO494.out (fun _ hk => hk.2)), (by (with_reducible repeat (first | apply Kd.R_alloc | apply Kd.R_drewN | apply Kd.R_drew)); exact Kd.R_mono HO497.out (fun _ hk => hk.2)), (by (with_reducible repeat (first | apply Kd.S_alloc | apply Kd.S_drewN | apply Kd.S_drew)); exact HO_6.out), (bk BK475), (bk BK481), (bk BK487), (bk BK506), GW506.out, GE506.out, NB475_506.out, NB506_475.out, NB481_506.out, NB506_481.out, NB487_506.out, NB506_487.out, bl⟩)
         ·skip
          rintro ⟨v493, gb506⟩ w48 ⟨hS_, h0_, h1_, h2_, h3_, h4_, h5_, h6_, h7_, h8_, h9_, h10_, h11_, h12_, h13_, h14_, h15_⟩
          have n0_ : Aside0 (Kd.R (Kd.int .i64) 3 w48 w.heap.size (fun _ => True) (.slice Ao44 t489.length co44) t489) := ⟨h0_⟩
          have n1_ : Aside0 (Kd.R Kd.string 9 w48 w.heap.size (fun _ => True) v493 t492) := ⟨h1_⟩
          have n2_ : Aside0 (Kd.S k40 40 w48 w.heap.size (fun _ => True) v479 t478) := ⟨h2_⟩
          have n3_ : Aside0 (w48.heap[gb475]? = some (.cells #[.string t472, .bool t473] 25 (0, 0))) := ⟨h3_⟩
          have n4_ : Aside0 (w48.heap[gb481]? = some (.cells #[.string t476, .bool t477] 25 (0, 0))) := ⟨h4_⟩
          have n5_ : Aside0 (w48.heap[gb487]? = some (.cells #[.string t482, .bool t483] 25 (0, 0))) := ⟨h5_⟩
          have n6_ : Aside0 (w48.heap[gb506]? = some (.cells #[.string (⟨#[]⟩ : ByteArray), .bool false] 25 (0, 0))) := ⟨h6_⟩
          have n7_ : Aside0 (w.heap.size ≤ gb506) := ⟨h7_⟩
          have n8_ : Aside0 (w.heap.size ≤ gb506) := ⟨h8_⟩
          have n9_ : Aside0 (gb475 ≠ gb506) := ⟨h9_⟩
          have n10_ : Aside0 (gb506 ≠ gb475) := ⟨h10_⟩
          have n11_ : Aside0 (gb481 ≠ gb506) := ⟨h11_⟩
          have n12_ : Aside0 (gb506 ≠ gb481) := ⟨h12_⟩
          have n13_ : Aside0 (gb487 ≠ gb506) := ⟨h13_⟩
          have n14_ : Aside0 (gb506 ≠ gb487) := ⟨h14_⟩
          have n15_ : Aside0 (Below w.heap.size w w48) := ⟨h15_⟩
          clear HO_6
          clear HO491
          clear BK475
          clear BK481
          clear BK487
          clear HB
          clear h0_ h1_ h2_ h3_ h4_ h5_ h6_ h7_ h8_ h9_ h10_ h11_ h12_ h13_ h14_ h15_
          have HO491 := n0_
          have HO494 := n1_
          have HO_6 := n2_
          have BK475 := n3_
          have BK481 := n4_
          have BK487 := n5_
          have BK506 := n6_
          have GW506 := n7_
          have GE506 := n8_
          have NB475_506 := n9_
          have NB506_475 := n10_
          have NB481_506 := n11_
          have NB506_481 := n12_
          have NB487_506 := n13_
          have NB506_487 := n14_
          have HB := n15_
          clear n0_ n1_ n2_ n3_ n4_ n5_ n6_ n7_ n8_ n9_ n10_ n11_ n12_ n13_ n14_ n15_
          have hHeld : w48.cell? ⟨gb475, 0, none⟩ = some (.string t472) ∧ w48.cell? ⟨gb475, 1, none⟩ = some (.bool t473) := hS_
          refine norm_ (a' := ?_) ?_ ?_
          rotate_left
          ·simp only [putAll, Act.put, List.setIfInBounds_toArray, List.set_cons_zero, List.set_cons_succ]
           rfl
          refine one_ (i := 4) (N := some 63) #[true, true, true, true, true, false, false, false, false, false, true, false, false] rfl rfl (one_of HT_.out (by kernel_rfl)) (by decide) (fun K hK => ?_)
          refine Kd.R_lit_step Kd.string _ 9 ?hg (N := 63) ?hd (xs := ([(⟨#[]⟩ : ByteArray)] : List ByteArray)) (inner := [.string (⟨#[]⟩ : ByteArray)]) (ok := fun _ => True) (okp := fun _ => True) ?hr ?hp (fun _ hk => hk) trivial (Below.refl _ _) (Nat.le_refl _) (by simp) ?_; (case hd => rfl); (case hg => rfl); (case hr => first | (go_simp; done) | (go_simp; rfl)); (case hp => exact rp)
          intro v496 w49 ho50 hb hg_ hnew_
          clear hg_ hnew_
          (first | rw [← Ny495.out] at ho50 | (simp only [Int.reduceToNat] at ho50; rw [← Ny495.out] at ho50))
          have n0_ := am (Kd.S_below (by (with_reducible repeat (first | apply Kd.S_alloc | apply Kd.S_drewN | apply Kd.S_drew)); exact HO_6.out) hb)
          have n1_ := am (Kd.R_below (ro HO491) hb)
          have n2_ := am (Kd.R_elder' (ro HO494) (Kd.R_base ho50) hb)
          have n3_ := am (Kd.R_lower (Kd.R_new' ho50 (Kd.R_lt (ro HO494))) (below_size bl))
          have n4_ := kb BK475 hb
          have n5_ := kb BK481 hb
          have n6_ := kb BK487 hb
          have n7_ := kb BK506 hb
          have n8_ := am (below_step bl hb)
          clear HO_6
          clear HO491
          clear HO494
          clear BK475
          clear BK481
          clear BK487
          clear BK506
          clear HB
          have HO_6 := n0_
          have HO491 := n1_
          have HO494 := n2_
          have HO497 := n3_
          have BK475 := n4_
          have BK481 := n5_
          have BK487 := n6_
          have BK506 := n7_
          have HB := n8_
          clear n0_ n1_ n2_ n3_ n4_ n5_ n6_ n7_ n8_
          clear hb ho50
          refine hK.out _ _ ⟨bc BK475, bc BK475⟩ (fun hHeld => ?_)
          clear hK K
          refine nm 63 ?_
          exact norm_ (by first | (simp only [putAll, Act.put, List.setIfInBounds_toArray, List.set_cons_zero, List.set_cons_succ]; done) | (simp only [putAll, Act.put, List.setIfInBounds_toArray, List.set_cons_zero, List.set_cons_succ]; rfl)) (hJ3_4_10 (v493, v496, gb506) _ ⟨hHeld, (ro HO491), (by (with_reducible repeat (first | apply Kd.R_alloc | apply Kd.R_drewN | apply Kd.R_drew)); exact Kd.R_mono HO494.out (fun _ hk => hk.2)), (by (with_reducible repeat (first | apply Kd.R_alloc | apply Kd.R_drewN | apply Kd.R_drew)); exact Kd.R_mono HO497.out (fun _ hk => hk.2)), (by (with_reducible repeat (first | apply Kd.S_alloc | apply Kd.S_drewN | apply Kd.S_drew)); exact HO_6.out), (bk BK475), (bk BK481), (bk BK487), (bk BK506), GW506.out, GE506.out, NB475_506.out, NB506_475.out, NB481_506.out, NB506_481.out, NB487_506.out, NB506_487.out, bl⟩)
        ·skip
         rintro ⟨v493, v496⟩ w49 ⟨hS_, h0_, h1_, h2_, h3_, h4_, h5_, h6_, h7_⟩
         have n0_ : Aside0 (Kd.R (Kd.int .i64) 3 w49 w.heap.size (fun _ => True) (.slice Ao44 t489.length co44) t489) := ⟨h0_⟩
         have n1_ : Aside0 (Kd.R Kd.string 9 w49 w.heap.size (fun k_ => some k_ ≠ (v496 : Value).ownBlock) v493 t492) := ⟨h1_⟩
         have n2_ : Aside0 (Kd.R Kd.string 9 w49 w.heap.size (fun k_ => some k_ ≠ (v493 : Value).ownBlock) v496 y495) := ⟨h2_⟩
         have n3_ : Aside0 (Kd.S k40 40 w49 w.heap.size (fun _ => True) v479 t478) := ⟨h3_⟩
         have n4_ : Aside0 (w49.heap[gb475]? = some (.cells #[.string t472, .bool t473] 25 (0, 0))) := ⟨h4_⟩
         have n5_ : Aside0 (w49.heap[gb481]? = some (.cells #[.string t476, .bool t477] 25 (0, 0))) := ⟨h5_⟩
         have n6_ : Aside0 (w49.heap[gb487]? = some (.cells #[.string t482, .bool t483] 25 (0, 0))) := ⟨h6_⟩
         have n7_ : Aside0 (Below w.heap.size w w49) := ⟨h7_⟩
         clear HO_6
         clear HO491
         clear BK475
         clear BK481
         clear BK487
         clear HB
         clear h0_ h1_ h2_ h3_ h4_ h5_ h6_ h7_
         have HO491 := n0_
         have HO494 := n1_
         have HO497 := n2_
         have HO_6 := n3_
         have BK475 := n4_
         have BK481 := n5_
         have BK487 := n6_
         have HB := n7_
         clear n0_ n1_ n2_ n3_ n4_ n5_ n6_ n7_
         have hHeld : w49.cell? ⟨gb475, 0, none⟩ = some (.string t472) ∧ w49.cell? ⟨gb475, 1, none⟩ = some (.bool t473) := hS_
         obtain ⟨Ao51, co51, eo51⟩ := Kd.R_slice HO497.out
         (first | subst eo51 | (injection eo51 with f1_ f2_ f3_; have f4_ := f1_.symm; have f5_ := f3_.symm; clear f1_ f2_ f3_; subst f4_; subst f5_))
         refine norm_ (a' := ?_) ?_ ?_
         rotate_left
         ·simp only [putAll, Act.put, List.setIfInBounds_toArray, List.set_cons_zero, List.set_cons_succ]
          rfl
         refine two_ (i := 5) (j := 10) (Ni := some 64) (Nj := some 11) #[true, true, true, true, true, true, false, false, false, false, false, false, false] #[true, true, true, true, true, false, false, false, false, false, true, false, false] rfl rfl rfl rfl (two_of HT_.out (by kernel_rfl)) (by decide) (by decide) (fun K hK => ?_) (fun K hK => ?_)
         ·skip
          refine Kd.R_append_rows_step Kd.string (w0 := w) w.heap.size (by rfl) (.tmp 62) (.tmp 63) 35 9 (.string ⟨#[]⟩) 16 rfl Tryz.underlying35 info9 rfl (by decide) (by omega) v493 t492 y495 _ _ _ (fun k_ => some k_ ≠ (.slice Ao51 y495.length co51 : Value).ownBlock) (fun _ => False) rfl rfl ?aO ?aR (fun _ _ h => h) (fun _ h => h.elim) ?aF ?aB ?aS ?aL ?_
          (case aR => exact rc HO497)
          (case aB => exact bl)
          (case aF => exact (fun k_ hk => Kd.fresh' (Kd.R_lt (ro HO497)) k_ hk))
          (case aO => exact (ro HO494))
          (case aS => exact (below_size bl))
          (case aL => have := LMc37.out; omega)
          intro v499 w50 ho hb hg hat
          rw [← Ny498.out] at ho
          have n0_ := am (Kd.S_over' (by (with_reducible repeat (first | apply Kd.S_alloc | apply Kd.S_drewN | apply Kd.S_drew)); exact HO_6.out) (Kd.R_typed (ro HO494)) (by decide) hg)
          have n1_ := am (blk_grown (g := gb475) (o := .cells #[.string t472, .bool t473] 25 (0, 0)) (bk BK475) hg (Kd.R_ne HO494.out BK475.out (by decide)))
          have n2_ := am (blk_grown (g := gb481) (o := .cells #[.string t476, .bool t477] 25 (0, 0)) (bk BK481) hg (Kd.R_ne HO494.out BK481.out (by decide)))
          have n3_ := am (blk_grown (g := gb487) (o := .cells #[.string t482, .bool t483] 25 (0, 0)) (bk BK487) hg (Kd.R_ne HO494.out BK487.out (by decide)))
          have n4_ := am (Kd.R_over' (ro HO491) (Kd.R_typed (ro HO494)) (by decide) hg)
          have n5_ := am (Kd.R_after (ok := (fun _ => True)) (by (with_reducible repeat (first | apply Kd.R_alloc | apply Kd.R_drewN | apply Kd.R_drew)); exact Kd.R_mono HO497.out (fun _ hk => ⟨trivial, hk⟩)) hg hat)
          have n6_ := am (hb)
          have n7_ := am (ho)
          clear HO_6
          clear BK475
          clear BK481
          clear BK487
          clear HO491
          clear HO497
          clear HB
          clear HO494
          have HO_6 := n0_
          have BK475 := n1_
          have BK481 := n2_
          have BK487 := n3_
          have HO491 := n4_
          have HO497 := n5_
          have HB := n6_
          have HO500 := n7_
          clear n0_ n1_ n2_ n3_ n4_ n5_ n6_ n7_
          clear ho hb hg hat
          refine hK.out _ _ ⟨bc BK475, bc BK475⟩ (fun hHeld => ?_)
          clear hK K
          refine nm 64 ?_
          exact norm_ (by first | (simp only [putAll, Act.put, List.setIfInBounds_toArray, List.set_cons_zero, List.set_cons_succ]; done) | (simp only [putAll, Act.put, List.setIfInBounds_toArray, List.set_cons_zero, List.set_cons_succ]; rfl)) (hJ3_4_5 (v493, .slice Ao51 y495.length co51, v499) _ ⟨hHeld, (ro HO491), (by (with_reducible repeat (first | apply Kd.R_alloc | apply Kd.R_drewN | apply Kd.R_drew)); exact Kd.R_mono HO497.out (fun _ hk => hk.2)), (ro HO500), (by (with_reducible repeat (first | apply Kd.S_alloc | apply Kd.S_drewN | apply Kd.S_drew)); exact HO_6.out), (bk BK475), (bk BK481), (bk BK487), bl⟩)
         ·skip
          refine box_step ?hg (N := 11) ?hd (cs := #[.string (⟨#[]⟩ : ByteArray), .bool false]) (t := 25) ?hr ?_; (case hd => rfl); (case hg => rfl); (case hr => first | (go_simp; done) | (go_simp; rfl))
          intro gb506 hg w50 hbox hb
          have n0_ := am (Kd.S_below (by (with_reducible repeat (first | apply Kd.S_alloc | apply Kd.S_drewN | apply Kd.S_drew)); exact HO_6.out) hb)
          have n1_ := am (Kd.R_below (ro HO491) hb)
          have n2_ := am (Kd.R_below (ro HO494) hb)
          have n3_ := am (Kd.R_below (ro HO497) hb)
          have n4_ := kb BK475 hb
          have n5_ := kb BK481 hb
          have n6_ := kb BK487 hb
          have n7_ := am (below_step bl hb)
          have n8_ := am (hbox)
          have n9_ := am (sz hg : w.heap.size ≤ gb506)
          have n10_ := am (sz hg : w.heap.size ≤ gb506)
          have n11_ := am (nl hg BK475 : gb475 ≠ gb506)
          have n12_ := am (ng hg BK475 : gb506 ≠ gb475)
          have n13_ := am (nl hg BK481 : gb481 ≠ gb506)
          have n14_ := am (ng hg BK481 : gb506 ≠ gb481)
          have n15_ := am (nl hg BK487 : gb487 ≠ gb506)
          have n16_ := am (ng hg BK487 : gb506 ≠ gb487)
          clear HO_6
          clear HO491
          clear HO494
          clear HO497
          clear BK475
          clear BK481
          clear BK487
          clear HB
          have HO_6 := n0_
          have HO491 := n1_
          have HO494 := n2_
          have HO497 := n3_
          have BK475 := n4_
          have BK481 := n5_
          have BK487 := n6_
          have HB := n7_
          have BK506 := n8_
          have GW506 := n9_
          have GE506 := n10_
          have NB475_506 := n11_
          have NB506_475 := n12_
          have NB481_506 := n13_
          have NB506_481 := n14_
          have NB487_506 := n15_
          have NB506_487 := n16_
          clear n0_ n1_ n2_ n3_ n4_ n5_ n6_ n7_ n8_ n9_ n10_ n11_ n12_ n13_ n14_ n15_ n16_
          clear hb hbox hg
          refine hK.out _ _ ⟨bc BK475, bc BK475⟩ (fun hHeld => ?_)
          clear hK K
          refine nm 11 ?_
          exact norm_ (by first | (simp only [putAll, Act.put, List.setIfInBounds_toArray, List.set_cons_zero, List.set_cons_succ]; done) | (simp only [putAll, Act.put, List.setIfInBounds_toArray, List.set_cons_zero, List.set_cons_succ]; rfl)) (hJ3_4_10 (v493, .slice Ao51 y495.length co51, gb506) _ ⟨hHeld, (ro HO491), (ro HO494), (ro HO497), (by (with_reducible repeat (first | apply Kd.S_alloc | apply Kd.S_drewN | apply Kd.S_drew)); exact HO_6.out), (bk BK475), (bk BK481), (bk BK487), (bk BK506), GW506.out, GE506.out, NB475_506.out, NB506_475.out, NB481_506.out, NB506_481.out, NB487_506.out, NB506_487.out, bl⟩)
       ·skip
        rintro ⟨v493, v496, gb506⟩ w50 ⟨hS_, h0_, h1_, h2_, h3_, h4_, h5_, h6_, h7_, h8_, h9_, h10_, h11_, h12_, h13_, h14_, h15_, h16_⟩
        have n0_ : Aside0 (Kd.R (Kd.int .i64) 3 w50 w.heap.size (fun _ => True) (.slice Ao44 t489.length co44) t489) := ⟨h0_⟩
        have n1_ : Aside0 (Kd.R Kd.string 9 w50 w.heap.size (fun k_ => some k_ ≠ (v496 : Value).ownBlock) v493 t492) := ⟨h1_⟩
        have n2_ : Aside0 (Kd.R Kd.string 9 w50 w.heap.size (fun k_ => some k_ ≠ (v493 : Value).ownBlock) v496 y495) := ⟨h2_⟩
        have n3_ : Aside0 (Kd.S k40 40 w50 w.heap.size (fun _ => True) v479 t478) := ⟨h3_⟩
        have n4_ : Aside0 (w50.heap[gb475]? = some (.cells #[.string t472, .bool t473] 25 (0, 0))) := ⟨h4_⟩
        have n5_ : Aside0 (w50.heap[gb481]? = some (.cells #[.string t476, .bool t477] 25 (0, 0))) := ⟨h5_⟩
        have n6_ : Aside0 (w50.heap[gb487]? = some (.cells #[.string t482, .bool t483] 25 (0, 0))) := ⟨h6_⟩
        have n7_ : Aside0 (w50.heap[gb506]? = some (.cells #[.string (⟨#[]⟩ : ByteArray), .bool false] 25 (0, 0))) := ⟨h7_⟩
        have n8_ : Aside0 (w.heap.size ≤ gb506) := ⟨h8_⟩
        have n9_ : Aside0 (w.heap.size ≤ gb506) := ⟨h9_⟩
        have n10_ : Aside0 (gb475 ≠ gb506) := ⟨h10_⟩
        have n11_ : Aside0 (gb506 ≠ gb475) := ⟨h11_⟩
        have n12_ : Aside0 (gb481 ≠ gb506) := ⟨h12_⟩
        have n13_ : Aside0 (gb506 ≠ gb481) := ⟨h13_⟩
        have n14_ : Aside0 (gb487 ≠ gb506) := ⟨h14_⟩
        have n15_ : Aside0 (gb506 ≠ gb487) := ⟨h15_⟩
        have n16_ : Aside0 (Below w.heap.size w w50) := ⟨h16_⟩
        clear HO_6
        clear HO491
        clear BK475
        clear BK481
        clear BK487
        clear HB
        clear h0_ h1_ h2_ h3_ h4_ h5_ h6_ h7_ h8_ h9_ h10_ h11_ h12_ h13_ h14_ h15_ h16_
        have HO491 := n0_
        have HO494 := n1_
        have HO497 := n2_
        have HO_6 := n3_
        have BK475 := n4_
        have BK481 := n5_
        have BK487 := n6_
        have BK506 := n7_
        have GW506 := n8_
        have GE506 := n9_
        have NB475_506 := n10_
        have NB506_475 := n11_
        have NB481_506 := n12_
        have NB506_481 := n13_
        have NB487_506 := n14_
        have NB506_487 := n15_
        have HB := n16_
        clear n0_ n1_ n2_ n3_ n4_ n5_ n6_ n7_ n8_ n9_ n10_ n11_ n12_ n13_ n14_ n15_ n16_
        have hHeld : w50.cell? ⟨gb475, 0, none⟩ = some (.string t472) ∧ w50.cell? ⟨gb475, 1, none⟩ = some (.bool t473) := hS_
        obtain ⟨Ao52, co52, eo52⟩ := Kd.R_slice HO497.out
        (first | subst eo52 | (injection eo52 with f1_ f2_ f3_; have f4_ := f1_.symm; have f5_ := f3_.symm; clear f1_ f2_ f3_; subst f4_; subst f5_))
        refine norm_ (a' := ?_) ?_ ?_
        rotate_left
        ·simp only [putAll, Act.put, List.setIfInBounds_toArray, List.set_cons_zero, List.set_cons_succ]
         rfl
        refine one_ (i := 5) (N := some 64) #[true, true, true, true, true, true, false, false, false, false, true, false, false] rfl rfl (one_of HT_.out (by kernel_rfl)) (by decide) (fun K hK => ?_)
        refine Kd.R_append_rows_step Kd.string (w0 := w) w.heap.size (by rfl) (.tmp 62) (.tmp 63) 35 9 (.string ⟨#[]⟩) 16 rfl Tryz.underlying35 info9 rfl (by decide) (by omega) v493 t492 y495 _ _ _ (fun k_ => some k_ ≠ (.slice Ao52 y495.length co52 : Value).ownBlock) (fun _ => False) rfl rfl ?aO ?aR (fun _ _ h => h) (fun _ h => h.elim) ?aF ?aB ?aS ?aL ?_
        (case aR => exact rc HO497)
        (case aB => exact bl)
        (case aF => exact (fun k_ hk => Kd.fresh' (Kd.R_lt (ro HO497)) k_ hk))
        (case aO => exact (ro HO494))
        (case aS => exact (below_size bl))
        (case aL => have := LMc37.out; omega)
        intro v499 w51 ho hb hg hat
        rw [← Ny498.out] at ho
        have n0_ := am (Kd.S_over' (by (with_reducible repeat (first | apply Kd.S_alloc | apply Kd.S_drewN | apply Kd.S_drew)); exact HO_6.out) (Kd.R_typed (ro HO494)) (by decide) hg)
        have n1_ := am (blk_grown (g := gb475) (o := .cells #[.string t472, .bool t473] 25 (0, 0)) (bk BK475) hg (Kd.R_ne HO494.out BK475.out (by decide)))
        have n2_ := am (blk_grown (g := gb481) (o := .cells #[.string t476, .bool t477] 25 (0, 0)) (bk BK481) hg (Kd.R_ne HO494.out BK481.out (by decide)))
        have n3_ := am (blk_grown (g := gb487) (o := .cells #[.string t482, .bool t483] 25 (0, 0)) (bk BK487) hg (Kd.R_ne HO494.out BK487.out (by decide)))
        have n4_ := am (Kd.R_over' (ro HO491) (Kd.R_typed (ro HO494)) (by decide) hg)
        have n5_ := am (Kd.R_after (ok := (fun _ => True)) (by (with_reducible repeat (first | apply Kd.R_alloc | apply Kd.R_drewN | apply Kd.R_drew)); exact Kd.R_mono HO497.out (fun _ hk => ⟨trivial, hk⟩)) hg hat)
        have n6_ := am (blk_grown (g := gb506) (o := .cells #[.string (⟨#[]⟩ : ByteArray), .bool false] 25 (0, 0)) (bk BK506) hg (Kd.R_ne HO494.out BK506.out (by decide)))
        have n7_ := am (hb)
        have n8_ := am (ho)
        clear HO_6
        clear BK475
        clear BK481
        clear BK487
        clear HO491
        clear HO497
        clear BK506
        clear HB
        clear HO494
        have HO_6 := n0_
        have BK475 := n1_
        have BK481 := n2_
        have BK487 := n3_
        have HO491 := n4_
        have HO497 := n5_
        have BK506 := n6_
        have HB := n7_
        have HO500 := n8_
        clear n0_ n1_ n2_ n3_ n4_ n5_ n6_ n7_ n8_
        clear ho hb hg hat
        refine hK.out _ _ ⟨bc BK475, bc BK475⟩ (fun hHeld => ?_)
        clear hK K
        refine nm 64 ?_
        exact norm_ (by first | (simp only [putAll, Act.put, List.setIfInBounds_toArray, List.set_cons_zero, List.set_cons_succ]; done) | (simp only [putAll, Act.put, List.setIfInBounds_toArray, List.set_cons_zero, List.set_cons_succ]; rfl)) (hJ3_4_5_10 (v493, .slice Ao52 y495.length co52, v499, gb506) _ ⟨hHeld, (ro HO491), (by (with_reducible repeat (first | apply Kd.R_alloc | apply Kd.R_drewN | apply Kd.R_drew)); exact Kd.R_mono HO497.out (fun _ hk => hk.2)), (ro HO500), (by (with_reducible repeat (first | apply Kd.S_alloc | apply Kd.S_drewN | apply Kd.S_drew)); exact HO_6.out), (bk BK475), (bk BK481), (bk BK487), (bk BK506), GW506.out, GE506.out, NB475_506.out, NB506_475.out, NB481_506.out, NB506_481.out, NB487_506.out, NB506_487.out, bl⟩)
      ·skip
       rintro ⟨v493, v496, v499⟩ w51 ⟨hS_, h0_, h1_, h2_, h3_, h4_, h5_, h6_, h7_⟩
       have n0_ : Aside0 (Kd.R (Kd.int .i64) 3 w51 w.heap.size (fun _ => True) (.slice Ao44 t489.length co44) t489) := ⟨h0_⟩
       have n1_ : Aside0 (Kd.R Kd.string 9 w51 w.heap.size (fun k_ => some k_ ≠ (v499 : Value).ownBlock) v496 y495) := ⟨h1_⟩
       have n2_ : Aside0 (Kd.R Kd.string 9 w51 w.heap.size (fun k_ => some k_ ≠ (v496 : Value).ownBlock) v499 y498) := ⟨h2_⟩
       have n3_ : Aside0 (Kd.S k40 40 w51 w.heap.size (fun _ => True) v479 t478) := ⟨h3_⟩
       have n4_ : Aside0 (w51.heap[gb475]? = some (.cells #[.string t472, .bool t473] 25 (0, 0))) := ⟨h4_⟩
       have n5_ : Aside0 (w51.heap[gb481]? = some (.cells #[.string t476, .bool t477] 25 (0, 0))) := ⟨h5_⟩
       have n6_ : Aside0 (w51.heap[gb487]? = some (.cells #[.string t482, .bool t483] 25 (0, 0))) := ⟨h6_⟩
       have n7_ : Aside0 (Below w.heap.size w w51) := ⟨h7_⟩
       clear HO_6
       clear HO491
       clear BK475
       clear BK481
       clear BK487
       clear HB
       clear h0_ h1_ h2_ h3_ h4_ h5_ h6_ h7_
       have HO491 := n0_
       have HO497 := n1_
       have HO500 := n2_
       have HO_6 := n3_
       have BK475 := n4_
       have BK481 := n5_
       have BK487 := n6_
       have HB := n7_
       clear n0_ n1_ n2_ n3_ n4_ n5_ n6_ n7_
       have hHeld : w51.cell? ⟨gb475, 0, none⟩ = some (.string t472) ∧ w51.cell? ⟨gb475, 1, none⟩ = some (.bool t473) := hS_
       obtain ⟨Ao52, co52, eo52⟩ := Kd.R_slice HO500.out
       (first | subst eo52 | (injection eo52 with f1_ f2_ f3_; have f4_ := f1_.symm; have f5_ := f3_.symm; clear f1_ f2_ f3_; subst f4_; subst f5_))
       refine norm_ (a' := ?_) ?_ ?_
       rotate_left
       ·simp only [putAll, Act.put, List.setIfInBounds_toArray, List.set_cons_zero, List.set_cons_succ]
        rfl
       refine two_ (i := 6) (j := 10) (Ni := some 65) (Nj := some 11) #[true, true, true, true, true, true, true, false, false, false, false, false, false] #[true, true, true, true, true, true, false, false, false, false, true, false, false] rfl rfl rfl rfl (two_of HT_.out (by kernel_rfl)) (by decide) (by decide) (fun K hK => ?_) (fun K hK => ?_)
       ·skip
        refine goes_ Tryz.func12 (by kernel_rfl) rfl #[.agg #[.string t472, .bool t473], .slice Ao52 y498.length co52] (by rfl) rfl rfl ma ?_
        with_reducible refine (impl_FeedAll.calls kj6 t472 t473 _ _ y498 t501 t502 t503 _ ?side1 ?side2 ?side3 ?side4 ?side5 A38.out).mono ?_
        (case side1 => exact GLOBE.below HGE.out bl)
        (case side2 => exact GLOBM.below HGM.out bl)
        (case side3 => exact GLOBT.below HGT.out bl)
        (case side4 => exact rc HO500)
        (case side5 => exact (Kd.R_reads' HO500.out).2.1)
        rintro e w53 ⟨v504, rfl, ho0, hb⟩
        refine ⟨_, rfl, ?_⟩
        have n0_ := am (Kd.S_elder' (by (with_reducible repeat (first | apply Kd.S_alloc | apply Kd.S_drewN | apply Kd.S_drew)); exact HO_6.out) (Kd.S_base ho0) hb)
        have n1_ := am (Kd.R_below (ro HO491) hb)
        have n2_ := am (Kd.R_below (ro HO497) hb)
        have n3_ := am (Kd.R_below (ro HO500) hb)
        have n4_ := am (Kd.S_lower (Kd.S_new' ho0 (Kd.S_lt (by (with_reducible repeat (first | apply Kd.S_alloc | apply Kd.S_drewN | apply Kd.S_drew)); exact HO_6.out))) (below_size bl))
        have n5_ := kb BK475 hb
        have n6_ := kb BK481 hb
        have n7_ := kb BK487 hb
        have n8_ := am (below_step bl hb)
        clear HO_6
        clear HO491
        clear HO497
        clear HO500
        clear BK475
        clear BK481
        clear BK487
        clear HB
        have HO_6 := n0_
        have HO491 := n1_
        have HO497 := n2_
        have HO500 := n3_
        have HO505 := n4_
        have BK475 := n5_
        have BK481 := n6_
        have BK487 := n7_
        have HB := n8_
        clear n0_ n1_ n2_ n3_ n4_ n5_ n6_ n7_ n8_
        clear hb ho0
        refine hK.out _ _ ⟨bc BK475, bc BK475⟩ (fun hHeld => ?_)
        clear hK K
        refine nm 65 ?_
        refine pu 7 58 [8, 5] ?_
        refine pu 8 66 [9, 4] ?_
        refine pu 9 67 [10, 3] ?_
        exact norm_ (by first | (simp only [putAll, Act.put, List.setIfInBounds_toArray, List.set_cons_zero, List.set_cons_succ]; done) | (simp only [putAll, Act.put, List.setIfInBounds_toArray, List.set_cons_zero, List.set_cons_succ]; rfl)) (hJ3_4_5_6 (v493, v496, .slice Ao52 y498.length co52, v504) _ ⟨hHeld, (ro HO491), (ro HO497), (ro HO500), (by (with_reducible repeat (first | apply Kd.S_alloc | apply Kd.S_drewN | apply Kd.S_drew)); exact Kd.S_mono HO505.out (fun _ hk => hk.2)), (by (with_reducible repeat (first | apply Kd.S_alloc | apply Kd.S_drewN | apply Kd.S_drew)); exact Kd.S_mono HO_6.out (fun _ hk => hk.2)), (bk BK475), (bk BK481), (bk BK487), bl⟩)
       ·skip
        refine box_step ?hg (N := 11) ?hd (cs := #[.string (⟨#[]⟩ : ByteArray), .bool false]) (t := 25) ?hr ?_; (case hd => rfl); (case hg => rfl); (case hr => first | (go_simp; done) | (go_simp; rfl))
        intro gb506 hg w52 hbox hb
        have n0_ := am (Kd.S_below (by (with_reducible repeat (first | apply Kd.S_alloc | apply Kd.S_drewN | apply Kd.S_drew)); exact HO_6.out) hb)
        have n1_ := am (Kd.R_below (ro HO491) hb)
        have n2_ := am (Kd.R_below (ro HO497) hb)
        have n3_ := am (Kd.R_below (ro HO500) hb)
        have n4_ := kb BK475 hb
        have n5_ := kb BK481 hb
        have n6_ := kb BK487 hb
        have n7_ := am (below_step bl hb)
        have n8_ := am (hbox)
        have n9_ := am (sz hg : w.heap.size ≤ gb506)
        have n10_ := am (sz hg : w.heap.size ≤ gb506)
        have n11_ := am (nl hg BK475 : gb475 ≠ gb506)
        have n12_ := am (ng hg BK475 : gb506 ≠ gb475)
        have n13_ := am (nl hg BK481 : gb481 ≠ gb506)
        have n14_ := am (ng hg BK481 : gb506 ≠ gb481)
        have n15_ := am (nl hg BK487 : gb487 ≠ gb506)
        have n16_ := am (ng hg BK487 : gb506 ≠ gb487)
        clear HO_6
        clear HO491
        clear HO497
        clear HO500
        clear BK475
        clear BK481
        clear BK487
        clear HB
        have HO_6 := n0_
        have HO491 := n1_
        have HO497 := n2_
        have HO500 := n3_
        have BK475 := n4_
        have BK481 := n5_
        have BK487 := n6_
        have HB := n7_
        have BK506 := n8_
        have GW506 := n9_
        have GE506 := n10_
        have NB475_506 := n11_
        have NB506_475 := n12_
        have NB481_506 := n13_
        have NB506_481 := n14_
        have NB487_506 := n15_
        have NB506_487 := n16_
        clear n0_ n1_ n2_ n3_ n4_ n5_ n6_ n7_ n8_ n9_ n10_ n11_ n12_ n13_ n14_ n15_ n16_
        clear hb hbox hg
        refine hK.out _ _ ⟨bc BK475, bc BK475⟩ (fun hHeld => ?_)
        clear hK K
        refine nm 11 ?_
        exact norm_ (by first | (simp only [putAll, Act.put, List.setIfInBounds_toArray, List.set_cons_zero, List.set_cons_succ]; done) | (simp only [putAll, Act.put, List.setIfInBounds_toArray, List.set_cons_zero, List.set_cons_succ]; rfl)) (hJ3_4_5_10 (v493, v496, .slice Ao52 y498.length co52, gb506) _ ⟨hHeld, (ro HO491), (ro HO497), (ro HO500), (by (with_reducible repeat (first | apply Kd.S_alloc | apply Kd.S_drewN | apply Kd.S_drew)); exact HO_6.out), (bk BK475), (bk BK481), (bk BK487), (bk BK506), GW506.out, GE506.out, NB475_506.out, NB506_475.out, NB481_506.out, NB506_481.out, NB487_506.out, NB506_487.out, bl⟩)
     ·skip
      rintro ⟨v493, v496, v499, gb506⟩ w52 ⟨hS_, h0_, h1_, h2_, h3_, h4_, h5_, h6_, h7_, h8_, h9_, h10_, h11_, h12_, h13_, h14_, h15_, h16_⟩
      have n0_ : Aside0 (Kd.R (Kd.int .i64) 3 w52 w.heap.size (fun _ => True) (.slice Ao44 t489.length co44) t489) := ⟨h0_⟩
      have n1_ : Aside0 (Kd.R Kd.string 9 w52 w.heap.size (fun k_ => some k_ ≠ (v499 : Value).ownBlock) v496 y495) := ⟨h1_⟩
      have n2_ : Aside0 (Kd.R Kd.string 9 w52 w.heap.size (fun k_ => some k_ ≠ (v496 : Value).ownBlock) v499 y498) := ⟨h2_⟩
      have n3_ : Aside0 (Kd.S k40 40 w52 w.heap.size (fun _ => True) v479 t478) := ⟨h3_⟩
      have n4_ : Aside0 (w52.heap[gb475]? = some (.cells #[.string t472, .bool t473] 25 (0, 0))) := ⟨h4_⟩
      have n5_ : Aside0 (w52.heap[gb481]? = some (.cells #[.string t476, .bool t477] 25 (0, 0))) := ⟨h5_⟩
      have n6_ : Aside0 (w52.heap[gb487]? = some (.cells #[.string t482, .bool t483] 25 (0, 0))) := ⟨h6_⟩
      have n7_ : Aside0 (w52.heap[gb506]? = some (.cells #[.string (⟨#[]⟩ : ByteArray), .bool false] 25 (0, 0))) := ⟨h7_⟩
      have n8_ : Aside0 (w.heap.size ≤ gb506) := ⟨h8_⟩
      have n9_ : Aside0 (w.heap.size ≤ gb506) := ⟨h9_⟩
      have n10_ : Aside0 (gb475 ≠ gb506) := ⟨h10_⟩
      have n11_ : Aside0 (gb506 ≠ gb475) := ⟨h11_⟩
      have n12_ : Aside0 (gb481 ≠ gb506) := ⟨h12_⟩
      have n13_ : Aside0 (gb506 ≠ gb481) := ⟨h13_⟩
      have n14_ : Aside0 (gb487 ≠ gb506) := ⟨h14_⟩
      have n15_ : Aside0 (gb506 ≠ gb487) := ⟨h15_⟩
      have n16_ : Aside0 (Below w.heap.size w w52) := ⟨h16_⟩
      clear HO_6
      clear HO491
      clear BK475
      clear BK481
      clear BK487
      clear HB
      clear h0_ h1_ h2_ h3_ h4_ h5_ h6_ h7_ h8_ h9_ h10_ h11_ h12_ h13_ h14_ h15_ h16_
      have HO491 := n0_
      have HO497 := n1_
      have HO500 := n2_
      have HO_6 := n3_
      have BK475 := n4_
      have BK481 := n5_
      have BK487 := n6_
      have BK506 := n7_
      have GW506 := n8_
      have GE506 := n9_
      have NB475_506 := n10_
      have NB506_475 := n11_
      have NB481_506 := n12_
      have NB506_481 := n13_
      have NB487_506 := n14_
      have NB506_487 := n15_
      have HB := n16_
      clear n0_ n1_ n2_ n3_ n4_ n5_ n6_ n7_ n8_ n9_ n10_ n11_ n12_ n13_ n14_ n15_ n16_
      have hHeld : w52.cell? ⟨gb475, 0, none⟩ = some (.string t472) ∧ w52.cell? ⟨gb475, 1, none⟩ = some (.bool t473) := hS_
      obtain ⟨Ao53, co53, eo53⟩ := Kd.R_slice HO500.out
      (first | subst eo53 | (injection eo53 with f1_ f2_ f3_; have f4_ := f1_.symm; have f5_ := f3_.symm; clear f1_ f2_ f3_; subst f4_; subst f5_))
      refine norm_ (a' := ?_) ?_ ?_
      rotate_left
      ·simp only [putAll, Act.put, List.setIfInBounds_toArray, List.set_cons_zero, List.set_cons_succ]
       rfl
      refine og 6 65 [7, 3, 1, 2] Tryz.func12 #[.agg #[.string t472, .bool t473], .slice Ao53 y498.length co53] (fun K hK => ?_)
      with_reducible refine (impl_FeedAll.calls kj6 t472 t473 _ _ y498 t501 t502 t503 _ ?side1 ?side2 ?side3 ?side4 ?side5 A38.out).mono ?_
      (case side1 => exact GLOBE.below HGE.out bl)
      (case side2 => exact GLOBM.below HGM.out bl)
      (case side3 => exact GLOBT.below HGT.out bl)
      (case side4 => exact rc HO500)
      (case side5 => exact (Kd.R_reads' HO500.out).2.1)
      rintro e w54 ⟨v504, rfl, ho0, hb⟩
      refine ⟨_, rfl, ?_⟩
      have n0_ := am (Kd.S_elder' (by (with_reducible repeat (first | apply Kd.S_alloc | apply Kd.S_drewN | apply Kd.S_drew)); exact HO_6.out) (Kd.S_base ho0) hb)
      have n1_ := am (Kd.R_below (ro HO491) hb)
      have n2_ := am (Kd.R_below (ro HO497) hb)
      have n3_ := am (Kd.R_below (ro HO500) hb)
      have n4_ := am (Kd.S_lower (Kd.S_new' ho0 (Kd.S_lt (by (with_reducible repeat (first | apply Kd.S_alloc | apply Kd.S_drewN | apply Kd.S_drew)); exact HO_6.out))) (below_size bl))
      have n5_ := kb BK475 hb
      have n6_ := kb BK481 hb
      have n7_ := kb BK487 hb
      have n8_ := kb BK506 hb
      have n9_ := am (below_step bl hb)
      clear HO_6
      clear HO491
      clear HO497
      clear HO500
      clear BK475
      clear BK481
      clear BK487
      clear BK506
      clear HB
      have HO_6 := n0_
      have HO491 := n1_
      have HO497 := n2_
      have HO500 := n3_
      have HO505 := n4_
      have BK475 := n5_
      have BK481 := n6_
      have BK487 := n7_
      have BK506 := n8_
      have HB := n9_
      clear n0_ n1_ n2_ n3_ n4_ n5_ n6_ n7_ n8_ n9_
      clear hb ho0
      refine hK.out _ _ ⟨bc BK475, bc BK475⟩ (fun hHeld => ?_)
      clear hK K
      refine nm 65 ?_
      refine pu 7 58 [8, 2, 1, 2] ?_
      refine pu 8 66 [9, 1, 1, 2] ?_
      refine pu 9 67 [11, 2] ?_
      exact norm_ (by first | (simp only [putAll, Act.put, List.setIfInBounds_toArray, List.set_cons_zero, List.set_cons_succ]; done) | (simp only [putAll, Act.put, List.setIfInBounds_toArray, List.set_cons_zero, List.set_cons_succ]; rfl)) (hJ3_4_5_6_10 (v493, v496, .slice Ao53 y498.length co53, v504, gb506) _ ⟨hHeld, (ro HO491), (ro HO497), (ro HO500), (by (with_reducible repeat (first | apply Kd.S_alloc | apply Kd.S_drewN | apply Kd.S_drew)); exact Kd.S_mono HO505.out (fun _ hk => hk.2)), (by (with_reducible repeat (first | apply Kd.S_alloc | apply Kd.S_drewN | apply Kd.S_drew)); exact Kd.S_mono HO_6.out (fun _ hk => hk.2)), (bk BK475), (bk BK481), (bk BK487), (bk BK506), GW506.out, GE506.out, NB475_506.out, NB506_475.out, NB481_506.out, NB506_481.out, NB487_506.out, NB506_487.out, bl⟩)
    ·skip
     rintro ⟨v493, v496, v499, v504⟩ w53 ⟨hS_, h0_, h1_, h2_, h3_, h4_, h5_, h6_, h7_, h8_⟩
     have n0_ : Aside0 (Kd.R (Kd.int .i64) 3 w53 w.heap.size (fun _ => True) (.slice Ao44 t489.length co44) t489) := ⟨h0_⟩
     have n1_ : Aside0 (Kd.R Kd.string 9 w53 w.heap.size (fun k_ => some k_ ≠ (v499 : Value).ownBlock) v496 y495) := ⟨h1_⟩
     have n2_ : Aside0 (Kd.R Kd.string 9 w53 w.heap.size (fun k_ => some k_ ≠ (v496 : Value).ownBlock) v499 y498) := ⟨h2_⟩
     have n3_ : Aside0 (Kd.S k40 40 w53 w.heap.size (fun k_ => some k_ ≠ (v479 : Value).ownBlock) v504 t503) := ⟨h3_⟩
     have n4_ : Aside0 (Kd.S k40 40 w53 w.heap.size (fun k_ => some k_ ≠ (v504 : Value).ownBlock) v479 t478) := ⟨h4_⟩
     have n5_ : Aside0 (w53.heap[gb475]? = some (.cells #[.string t472, .bool t473] 25 (0, 0))) := ⟨h5_⟩
     have n6_ : Aside0 (w53.heap[gb481]? = some (.cells #[.string t476, .bool t477] 25 (0, 0))) := ⟨h6_⟩
     have n7_ : Aside0 (w53.heap[gb487]? = some (.cells #[.string t482, .bool t483] 25 (0, 0))) := ⟨h7_⟩
     have n8_ : Aside0 (Below w.heap.size w w53) := ⟨h8_⟩
     clear HO_6
     clear HO491
     clear BK475
     clear BK481
     clear BK487
     clear HB
     clear h0_ h1_ h2_ h3_ h4_ h5_ h6_ h7_ h8_
     have HO491 := n0_
     have HO497 := n1_
     have HO500 := n2_
     have HO505 := n3_
     have HO_6 := n4_
     have BK475 := n5_
     have BK481 := n6_
     have BK487 := n7_
     have HB := n8_
     clear n0_ n1_ n2_ n3_ n4_ n5_ n6_ n7_ n8_
     have hHeld : w53.cell? ⟨gb475, 0, none⟩ = some (.string t472) ∧ w53.cell? ⟨gb475, 1, none⟩ = some (.bool t473) := hS_
     refine norm_ (a' := ?_) ?_ ?_
     rotate_left
     ·simp only [putAll, Act.put, List.setIfInBounds_toArray, List.set_cons_zero, List.set_cons_succ]
      rfl
     refine one_ (i := 10) (N := some 11) #[true, true, true, true, true, true, true, true, true, true, true, false, false] rfl rfl (one_of HT_.out (by kernel_rfl)) (by decide) (fun K hK => ?_)
     refine box_step ?hg (N := 11) ?hd (cs := #[.string (⟨#[]⟩ : ByteArray), .bool false]) (t := 25) ?hr ?_; (case hd => rfl); (case hg => rfl); (case hr => first | (go_simp; done) | (go_simp; rfl))
     intro gb506 hg w54 hbox hb
     have n0_ := am (Kd.S_below (by (with_reducible repeat (first | apply Kd.S_alloc | apply Kd.S_drewN | apply Kd.S_drew)); exact HO_6.out) hb)
     have n1_ := am (Kd.R_below (ro HO491) hb)
     have n2_ := am (Kd.R_below (ro HO497) hb)
     have n3_ := am (Kd.R_below (ro HO500) hb)
     have n4_ := am (Kd.S_below (by (with_reducible repeat (first | apply Kd.S_alloc | apply Kd.S_drewN | apply Kd.S_drew)); exact HO505.out) hb)
     have n5_ := kb BK475 hb
     have n6_ := kb BK481 hb
     have n7_ := kb BK487 hb
     have n8_ := am (below_step bl hb)
     have n9_ := am (hbox)
     have n10_ := am (sz hg : w.heap.size ≤ gb506)
     have n11_ := am (sz hg : w.heap.size ≤ gb506)
     have n12_ := am (nl hg BK475 : gb475 ≠ gb506)
     have n13_ := am (ng hg BK475 : gb506 ≠ gb475)
     have n14_ := am (nl hg BK481 : gb481 ≠ gb506)
     have n15_ := am (ng hg BK481 : gb506 ≠ gb481)
     have n16_ := am (nl hg BK487 : gb487 ≠ gb506)
     have n17_ := am (ng hg BK487 : gb506 ≠ gb487)
     clear HO_6
     clear HO491
     clear HO497
     clear HO500
     clear HO505
     clear BK475
     clear BK481
     clear BK487
     clear HB
     have HO_6 := n0_
     have HO491 := n1_
     have HO497 := n2_
     have HO500 := n3_
     have HO505 := n4_
     have BK475 := n5_
     have BK481 := n6_
     have BK487 := n7_
     have HB := n8_
     have BK506 := n9_
     have GW506 := n10_
     have GE506 := n11_
     have NB475_506 := n12_
     have NB506_475 := n13_
     have NB481_506 := n14_
     have NB506_481 := n15_
     have NB487_506 := n16_
     have NB506_487 := n17_
     clear n0_ n1_ n2_ n3_ n4_ n5_ n6_ n7_ n8_ n9_ n10_ n11_ n12_ n13_ n14_ n15_ n16_ n17_
     clear hb hbox hg
     refine hK.out _ _ ⟨bc BK475, bc BK475⟩ (fun hHeld => ?_)
     clear hK K
     refine nm 11 ?_
     exact norm_ (by first | (simp only [putAll, Act.put, List.setIfInBounds_toArray, List.set_cons_zero, List.set_cons_succ]; done) | (simp only [putAll, Act.put, List.setIfInBounds_toArray, List.set_cons_zero, List.set_cons_succ]; rfl)) (hJ3_4_5_6_10 (v493, v496, v499, v504, gb506) _ ⟨hHeld, (ro HO491), (ro HO497), (ro HO500), (by (with_reducible repeat (first | apply Kd.S_alloc | apply Kd.S_drewN | apply Kd.S_drew)); exact HO505.out), (by (with_reducible repeat (first | apply Kd.S_alloc | apply Kd.S_drewN | apply Kd.S_drew)); exact HO_6.out), (bk BK475), (bk BK481), (bk BK487), (bk BK506), GW506.out, GE506.out, NB475_506.out, NB506_475.out, NB481_506.out, NB506_481.out, NB487_506.out, NB506_487.out, bl⟩)
   rintro ⟨v493, v496, v499, v504, gb506⟩ w54 ⟨hS_, h0_, h1_, h2_, h3_, h4_, h5_, h6_, h7_, h8_, h9_, h10_, h11_, h12_, h13_, h14_, h15_, h16_, h17_⟩
   have n0_ : Aside0 (Kd.R (Kd.int .i64) 3 w54 w.heap.size (fun _ => True) (.slice Ao44 t489.length co44) t489) := ⟨h0_⟩
   have n1_ : Aside0 (Kd.R Kd.string 9 w54 w.heap.size (fun k_ => some k_ ≠ (v499 : Value).ownBlock) v496 y495) := ⟨h1_⟩
   have n2_ : Aside0 (Kd.R Kd.string 9 w54 w.heap.size (fun k_ => some k_ ≠ (v496 : Value).ownBlock) v499 y498) := ⟨h2_⟩
   have n3_ : Aside0 (Kd.S k40 40 w54 w.heap.size (fun k_ => some k_ ≠ (v479 : Value).ownBlock) v504 t503) := ⟨h3_⟩
   have n4_ : Aside0 (Kd.S k40 40 w54 w.heap.size (fun k_ => some k_ ≠ (v504 : Value).ownBlock) v479 t478) := ⟨h4_⟩
   have n5_ : Aside0 (w54.heap[gb475]? = some (.cells #[.string t472, .bool t473] 25 (0, 0))) := ⟨h5_⟩
   have n6_ : Aside0 (w54.heap[gb481]? = some (.cells #[.string t476, .bool t477] 25 (0, 0))) := ⟨h6_⟩
   have n7_ : Aside0 (w54.heap[gb487]? = some (.cells #[.string t482, .bool t483] 25 (0, 0))) := ⟨h7_⟩
   have n8_ : Aside0 (w54.heap[gb506]? = some (.cells #[.string (⟨#[]⟩ : ByteArray), .bool false] 25 (0, 0))) := ⟨h8_⟩
   have n9_ : Aside0 (w.heap.size ≤ gb506) := ⟨h9_⟩
   have n10_ : Aside0 (w.heap.size ≤ gb506) := ⟨h10_⟩
   have n11_ : Aside0 (gb475 ≠ gb506) := ⟨h11_⟩
   have n12_ : Aside0 (gb506 ≠ gb475) := ⟨h12_⟩
   have n13_ : Aside0 (gb481 ≠ gb506) := ⟨h13_⟩
   have n14_ : Aside0 (gb506 ≠ gb481) := ⟨h14_⟩
   have n15_ : Aside0 (gb487 ≠ gb506) := ⟨h15_⟩
   have n16_ : Aside0 (gb506 ≠ gb487) := ⟨h16_⟩
   have n17_ : Aside0 (Below w.heap.size w w54) := ⟨h17_⟩
   clear HO_6
   clear HO491
   clear BK475
   clear BK481
   clear BK487
   clear HB
   clear h0_ h1_ h2_ h3_ h4_ h5_ h6_ h7_ h8_ h9_ h10_ h11_ h12_ h13_ h14_ h15_ h16_ h17_
   have HO491 := n0_
   have HO497 := n1_
   have HO500 := n2_
   have HO505 := n3_
   have HO_6 := n4_
   have BK475 := n5_
   have BK481 := n6_
   have BK487 := n7_
   have BK506 := n8_
   have GW506 := n9_
   have GE506 := n10_
   have NB475_506 := n11_
   have NB506_475 := n12_
   have NB481_506 := n13_
   have NB506_481 := n14_
   have NB487_506 := n15_
   have NB506_487 := n16_
   have HB := n17_
   clear n0_ n1_ n2_ n3_ n4_ n5_ n6_ n7_ n8_ n9_ n10_ n11_ n12_ n13_ n14_ n15_ n16_ n17_
   have hHeld : w54.cell? ⟨gb475, 0, none⟩ = some (.string t472) ∧ w54.cell? ⟨gb475, 1, none⟩ = some (.bool t473) := hS_
   refine norm_ (a' := ?_) ?_ ?_
   rotate_left
   ·simp only [putAll, Act.put, List.setIfInBounds_toArray, List.set_cons_zero, List.set_cons_succ]
    rfl
   refine one_ (i := 11) (N := none) #[true, true, true, true, true, true, true, true, true, true, true, true, false] rfl rfl (one_of HT_.out (by kernel_rfl)) (by decide) (fun K hK => ?_)
   have hs55 : w54.cell? ⟨gb506, 0, none⟩ = some (.string (⟨#[]⟩ : ByteArray)) := bc BK506
   have hfs55 := blk_frozen BK506.out 0
   have hns55_0 := NB475_506.out
   have hns55_1 := NB481_506.out
   have hns55_2 := NB487_506.out
   have hms55_0 := NB506_475.out
   have hms55_1 := NB506_481.out
   have hms55_2 := NB506_487.out
   have hs56 : w54.cell? ⟨gb506, 1, none⟩ = some (.bool false) := bc BK506
   have hfs56 := blk_frozen BK506.out 1
   have hns56_0 := NB475_506.out
   have hns56_1 := NB481_506.out
   have hns56_2 := NB487_506.out
   have hms56_0 := NB506_475.out
   have hms56_1 := NB506_481.out
   have hms56_2 := NB506_487.out
   refine skip_ (w1 := ?_) (by rfl) rfl ?_ ?_
   rotate_left
   ·go_simp
    rfl
   refine hK.out _ _ ⟨((cell_far (p := ⟨gb506, _, none⟩) NB475_506.out _).trans (((cell_far (p := ⟨gb506, _, none⟩) NB475_506.out _).trans (hHeld.1)))), ((cell_far (p := ⟨gb506, _, none⟩) NB475_506.out _).trans (((cell_far (p := ⟨gb506, _, none⟩) NB475_506.out _).trans (hHeld.2))))⟩ (fun hHeld => ?_)
   clear hK K
   refine pu 12 12 [13] ?_
   refine done_ (done_of HT_.out (by kernel_rfl)) ?_
   go_upto_region 12 with (fail)
   go_cut [77] (fun v77 wc => ∃ (kq : Nat) (x77_38 : Bool), v77 = .bool x77_38 ∧ Aside0 (laws_FnPieces.j1 kq t478 t503 x77_38 = some r) ∧ Aside0 (kq ≤ kj6) ∧ Aside0 (Kd.S k40 40 wc w.heap.size (fun k_ => some k_ ≠ (v504 : Value).ownBlock) v479 t478) ∧ Aside0 (Kd.S k40 40 wc w.heap.size (fun k_ => some k_ ≠ (v479 : Value).ownBlock) v504 t503) ∧ Aside0 (wc.heap[gb475]? = some (.cells #[.string t472, .bool t473] 25 (0, 0))) ∧ Aside0 (wc.heap[gb481]? = some (.cells #[.string t476, .bool t477] 25 (0, 0))) ∧ Aside0 (wc.heap[gb487]? = some (.cells #[.string t482, .bool t483] 25 (0, 0))) ∧ Aside0 (wc.heap[gb506]? = some (.cells #[.string t501, .bool t502] 25 (0, 0))) ∧ Aside0 (Below w.heap.size w wc))
   case first =>
    have H := HC39.out
    clear HC39
    by_cases c57 : (!(t476.toList == t501.toList) || (!(t477 == t502))) = true
    ·rw [if_pos c57] at H
     have c57b0 : (!(t476.toList == t501.toList) || (!(t477 == t502))) = true := c57
     clear c57
     (first | rw [c57b0] | (simp only [i64_w, i32_w]; rw [c57b0]) | skip)
     cases kj6 with
     | zero => exact absurd H (by simp [laws_FnPieces.j1])
     | succ k_ => simp only [laws_FnPieces.j1, if_true] at H; exact absurd (Option.some.inj H) (by rw [ht_]; decide)
    rw [if_neg c57] at H
    have c57b0 : (!(t476.toList == t501.toList) || (!(t477 == t502))) = false := Bool.eq_false_iff.mpr c57
    clear c57
    (first | rw [c57b0] | (simp only [i64_w, i32_w]; rw [c57b0]) | skip)
    have H' := am H
    clear H
    have hnb58 := NB481_475.out
    have hnc58 := NB475_481.out
    have hnb59 := NB481_487.out
    have hnc59 := NB487_481.out
    have hnb60 := NB481_506.out
    have hnc60 := NB506_481.out
    obtain ⟨z61_0, y61_0, z61_1, y61_1⟩ := cl2 BK481
    have hnb62 := NB506_475.out
    have hnc62 := NB475_506.out
    have hnb63 := NB506_487.out
    have hnc63 := NB487_506.out
    obtain ⟨z64_0, y64_0, z64_1, y64_1⟩ := cl2 BK506
    obtain ⟨Ao65, co65, eo65⟩ := Kd.S_slice HO_6.out
    subst eo65
    obtain ⟨Ao66, co66, eo66⟩ := Kd.S_slice HO505.out
    subst eo66
    go_wp2
    go_meet
    case rel => exact ⟨_, (((t478.length : Int) != (t503.length : Int))), rs, H', ⟨by have := HJ6.out; first | omega | exact Nat.le_refl _⟩, ⟨by (with_reducible repeat (first | apply Kd.S_alloc | apply Kd.S_drewN | apply Kd.S_drew)); exact Kd.S_mono (Kd.S_far (p := ⟨gb506, 1, none⟩) (Kd.S_far (p := ⟨gb506, 0, none⟩) (Kd.S_types HO_6.out BK506.out (by decide)) (fun _ hk => hk.2) (.string t501)) (fun _ hk => hk.2) (.bool t502)) (fun _ hk => hk.1)⟩, ⟨by (with_reducible repeat (first | apply Kd.S_alloc | apply Kd.S_drewN | apply Kd.S_drew)); exact Kd.S_mono (Kd.S_far (p := ⟨gb506, 1, none⟩) (Kd.S_far (p := ⟨gb506, 0, none⟩) (Kd.S_types HO505.out BK506.out (by decide)) (fun _ hk => hk.2) (.string t501)) (fun _ hk => hk.2) (.bool t502)) (fun _ hk => hk.1)⟩, ⟨by (with_reducible repeat (first | refine blk_drewN ?_ _ | refine blk_drew ?_ | refine blk_alloc ?_ _)); refine blk_far ?_ NB475_506.out _; (with_reducible repeat (first | refine blk_drewN ?_ _ | refine blk_drew ?_ | refine blk_alloc ?_ _)); refine blk_far ?_ NB475_506.out _; (with_reducible repeat (first | refine blk_drewN ?_ _ | refine blk_drew ?_ | refine blk_alloc ?_ _)); exact BK475.out⟩, ⟨by (with_reducible repeat (first | refine blk_drewN ?_ _ | refine blk_drew ?_ | refine blk_alloc ?_ _)); refine blk_far ?_ NB481_506.out _; (with_reducible repeat (first | refine blk_drewN ?_ _ | refine blk_drew ?_ | refine blk_alloc ?_ _)); refine blk_far ?_ NB481_506.out _; (with_reducible repeat (first | refine blk_drewN ?_ _ | refine blk_drew ?_ | refine blk_alloc ?_ _)); exact BK481.out⟩, ⟨by (with_reducible repeat (first | refine blk_drewN ?_ _ | refine blk_drew ?_ | refine blk_alloc ?_ _)); refine blk_far ?_ NB487_506.out _; (with_reducible repeat (first | refine blk_drewN ?_ _ | refine blk_drew ?_ | refine blk_alloc ?_ _)); refine blk_far ?_ NB487_506.out _; (with_reducible repeat (first | refine blk_drewN ?_ _ | refine blk_drew ?_ | refine blk_alloc ?_ _)); exact BK487.out⟩, ⟨pt0 BK506⟩, ⟨u3HB⟩⟩
   case rest =>
    clear HC39
    try clear c1
    try clear p2
    try clear c3
    try clear c5
    try clear c6
    try clear c12
    try clear c37
    try clear c57
    try clear c57b0
    try clear c58
    try clear c59
    try clear c60
    try clear c62
    try clear c63
    try clear z61_0
    try clear z61_1
    try clear z64_0
    try clear z64_1
    try clear y61_0
    try clear y61_1
    try clear y64_0
    try clear y64_1
    obtain ⟨kq, x77_38, rfl, HA, HJ38, HO_6, HO_12, BK475, BK481, BK487, BK506, HB⟩ := hcut
    cases kq with
    | zero => exact absurd HA.out (by simp [laws_FnPieces.j1])
    | succ kj38 =>
     have H := HA.out
     clear HA
     simp only [laws_FnPieces.j1] at H
     by_cases c67 : x77_38 = true
     ·subst c67
      rw [if_pos rfl] at H
      exact absurd (Option.some.inj H) (by rw [ht_]; decide)
     replace c67 := Bool.eq_false_iff.mpr c67
     subst c67
     rw [if_neg (show ¬ (false = true) by decide)] at H
     have H' := am H
     clear H
     go_wp2
     (try simp only [Act.put, List.setIfInBounds_toArray, List.set_cons_zero, List.set_cons_succ])
     go_loopg [13] kj38 (fun kq v13 w' => ∃ (x13_3 : Int), v13 = .int .i64 x13_3 ∧ Aside0 (laws_FnPieces.l0 kq t478 t503 x13_3 = some r) ∧ Aside0 (kq ≤ kj38) ∧ Aside0 (Kd.S k40 40 w' w.heap.size (fun k_ => some k_ ≠ (v504 : Value).ownBlock) v479 t478) ∧ Aside0 (Kd.S k40 40 w' w.heap.size (fun k_ => some k_ ≠ (v479 : Value).ownBlock) v504 t503) ∧ Aside0 (w'.heap[gb475]? = some (.cells #[.string t472, .bool t473] 25 (0, 0))) ∧ Aside0 (w'.heap[gb481]? = some (.cells #[.string t476, .bool t477] 25 (0, 0))) ∧ Aside0 (w'.heap[gb487]? = some (.cells #[.string t482, .bool t483] 25 (0, 0))) ∧ Aside0 (w'.heap[gb506]? = some (.cells #[.string t501, .bool t502] 25 (0, 0))) ∧ Aside0 (Below w.heap.size w w'))
     case atStart => exact ⟨(0), rs, H', ⟨Nat.le_refl _⟩, ⟨by (with_reducible repeat (first | apply Kd.S_alloc | apply Kd.S_drewN | apply Kd.S_drew)); exact HO_6.out⟩, ⟨by (with_reducible repeat (first | apply Kd.S_alloc | apply Kd.S_drewN | apply Kd.S_drew)); exact HO_12.out⟩, ⟨by (with_reducible repeat (first | refine blk_drewN ?_ _ | refine blk_drew ?_ | refine blk_alloc ?_ _)); exact BK475.out⟩, ⟨by (with_reducible repeat (first | refine blk_drewN ?_ _ | refine blk_drew ?_ | refine blk_alloc ?_ _)); exact BK481.out⟩, ⟨by (with_reducible repeat (first | refine blk_drewN ?_ _ | refine blk_drew ?_ | refine blk_alloc ?_ _)); exact BK487.out⟩, ⟨by (with_reducible repeat (first | refine blk_drewN ?_ _ | refine blk_drew ?_ | refine blk_alloc ?_ _)); exact BK506.out⟩, ⟨u3HB⟩⟩
     case round =>
      clear H'
      try clear c1
      try clear p2
      try clear c3
      try clear c5
      try clear c6
      try clear c12
      try clear c37
      try clear c57
      try clear c57b0
      try clear c58
      try clear c59
      try clear c60
      try clear c62
      try clear c63
      try clear c67
      try clear z61_0
      try clear z61_1
      try clear z64_0
      try clear z64_1
      try clear y61_0
      try clear y61_1
      try clear y64_0
      try clear y64_1
      try clear p2
      obtain ⟨x13_3, rfl, HA, HK3, HO_6, HO_12, BK475, BK481, BK487, BK506, HB⟩ := hrel
      cases gk with
      | zero => exact absurd HA.out (by simp [laws_FnPieces.l0])
      | succ k3 =>
       have H := HA.out
       clear HA
       simp only [laws_FnPieces.l0] at H
       by_cases c68 : x13_3 < (t478.length : Int)
       rotate_left
       ·rw [if_neg c68] at H
        have c68b0 := decide_eq_false c68
        clear c68
        obtain rfl := Option.some.inj H
        obtain ⟨Ao79, co79, eo79⟩ := Kd.S_slice HO_6.out
        subst eo79
        go_wp2
        go_ret
        exact ⟨rf, bl⟩
       rw [if_pos c68] at H
       have c68b0 := decide_eq_true c68
       clear c68
       revert H
       refine ifn fun c69 H => ?_
       have c69b0 := decide_eq_true c69
       clear c69
       revert H
       refine ok1 fun t508 A70 H => ?_
       revert H
       refine ifn fun c71 H => ?_
       have c71b0 := decide_eq_true c71
       clear c71
       revert H
       refine ok1 fun t510 A72 H => ?_
       by_cases c73 : t508.toList = t510.toList
       rotate_left
       ·rw [if_neg c73] at H
        have c73b0 : (t508.toList == t510.toList) = false := beq_eq_false_iff_ne.mpr c73
        have c73b1 : (t508.toList != t510.toList) = true := bne_iff_ne.mpr c73
        exact absurd (Option.some.inj H) (by rw [ht_]; decide)
       rw [if_pos c73] at H
       have c73b0 : (t508.toList == t510.toList) = true := beq_iff_eq.mpr c73
       have c73b1 : (t508.toList != t510.toList) = false := bne_eq_false_iff_eq.mpr c73
       clear c73
       have H' := am H
       clear H
       obtain ⟨Ao74, co74, eo74⟩ := Kd.S_slice HO_6.out
       subst eo74
       try go_wp2
       replace HO_6 := am (Kd.S_drew HO_6.out)
       replace HO_12 := am (Kd.S_drew HO_12.out)
       replace BK475 := am (blk_drew BK475.out)
       replace BK481 := am (blk_drew BK481.out)
       replace BK487 := am (blk_drew BK487.out)
       replace BK506 := am (blk_drew BK506.out)
       replace HB := am (below_drew1 HB.out)
       have p507 : 0 ≤ (x13_3 : Int) := od
       have q507 : x13_3 < (t478.length : Int) := od
       obtain ⟨ad507, A507_2, c507_2, e507, hx507_0, hx507_1, hx507_2, hx507_3, hl507_2, hi507_2⟩ := at_T40 (Kd.S_reads' HO_6.out).2.2 x13_3 p507 q507
       cases e507
       obtain ⟨ce507, hce507, hMe507, hcc507⟩ := Kd.S_get HO_6.out z40 x13_3 p507 (by first | exact q507 | exact od | (have e_ := (Kd.S_reads' HO_6.out).1; omega))
       obtain ⟨ve507_2, rfl, ge507_2⟩ := k40_openM hMe507
       have hv507_2 := hcc507 2 _ rfl
       rw [add_field _ _ 2 (by omega)] at hv507_2
       replace hv507_2 := Option.some.inj (hv507_2.symm.trans hx507_2)
       rw [hv507_2] at ge507_2
       have HL507_2 := am (show Kd.R k81 81 _ _ _ _ ((rd_T40 t478 x13_3).f2) from ge507_2)
       clear hv507_2 ge507_2
       clear hcc507 hce507
       have HR507_2 := am hi507_2
       have HC507_2 := am hl507_2
       clear hi507_2 hl507_2
       replace p507 := eq_true p507
       replace q507 := eq_true q507
       obtain ⟨Ao76, co76, eo76⟩ := Kd.S_slice HO_12.out
       (first | subst eo76 | (injection eo76 with f1_ f2_ f3_; have f4_ := f1_.symm; have f5_ := f3_.symm; clear f1_ f2_ f3_; subst f4_; subst f5_))
       have p509 : 0 ≤ (x13_3 : Int) := od
       have q509 : x13_3 < (t503.length : Int) := od
       obtain ⟨ad509, A509_2, c509_2, e509, hx509_0, hx509_1, hx509_2, hx509_3, hl509_2, hi509_2⟩ := at_T40 (Kd.S_reads' HO_12.out).2.2 x13_3 p509 q509
       cases e509
       obtain ⟨ce509, hce509, hMe509, hcc509⟩ := Kd.S_get HO_12.out z40 x13_3 p509 (by first | exact q509 | exact od | (have e_ := (Kd.S_reads' HO_12.out).1; omega))
       obtain ⟨ve509_2, rfl, ge509_2⟩ := k40_openM hMe509
       have hv509_2 := hcc509 2 _ rfl
       rw [add_field _ _ 2 (by omega)] at hv509_2
       replace hv509_2 := Option.some.inj (hv509_2.symm.trans hx509_2)
       rw [hv509_2] at ge509_2
       have HL509_2 := am (show Kd.R k81 81 _ _ _ _ ((rd_T40 t503 x13_3).f2) from ge509_2)
       clear hv509_2 ge509_2
       clear hcc509 hce509
       have HR509_2 := am hi509_2
       have HC509_2 := am hl509_2
       clear hi509_2 hl509_2
       replace p509 := eq_true p509
       replace q509 := eq_true q509
       refine start_ (n := 11) (S := fun w' => w'.cell? (ad507.add ((x13_3).toNat * 4)) = some (.int .i64 ((rd_T40 t478 x13_3).f0)) ∧ w'.cell? ⟨(ad507.add ((x13_3).toNat * 4)).block, (ad507.add ((x13_3).toNat * 4)).off + 1, none⟩ = some (.string ((rd_T40 t478 x13_3).f1)) ∧ w'.cell? ⟨(ad507.add ((x13_3).toNat * 4)).block, (ad507.add ((x13_3).toNat * 4)).off + 2, none⟩ = some (.slice A507_2 ((rd_T40 t478 x13_3).f2).length c507_2) ∧ w'.cell? ⟨(ad507.add ((x13_3).toNat * 4)).block, (ad507.add ((x13_3).toNat * 4)).off + 3, none⟩ = some (.string ((rd_T40 t478 x13_3).f3)) ∧ w'.cell? (ad509.add ((x13_3).toNat * 4)) = some (.int .i64 ((rd_T40 t503 x13_3).f0)) ∧ w'.cell? ⟨(ad509.add ((x13_3).toNat * 4)).block, (ad509.add ((x13_3).toNat * 4)).off + 1, none⟩ = some (.string ((rd_T40 t503 x13_3).f1)) ∧ w'.cell? ⟨(ad509.add ((x13_3).toNat * 4)).block, (ad509.add ((x13_3).toNat * 4)).off + 2, none⟩ = some (.slice A509_2 ((rd_T40 t503 x13_3).f2).length c509_2) ∧ w'.cell? ⟨(ad509.add ((x13_3).toNat * 4)).block, (ad509.add ((x13_3).toNat * 4)).off + 3, none⟩ = some (.string ((rd_T40 t503 x13_3).f3))) (ds := []) ⟨br true [0, 11]⟩ (by kernel_rfl) rfl (by kernel_rfl) ⟨hx507_0, hx507_1, hx507_2, hx507_3, hx509_0, hx509_1, hx509_2, hx509_3⟩ (fun hHeld => ?_); refine with_tabW laws_FnPieces.tab17 laws_FnPieces.bits17 (fun HT_ HW_ => ?_)
       generalize wr.drew = w75 at HO_6 HO_12 BK475 BK481 BK487 BK506 HB HL507_2 HL509_2 HR507_2 HR509_2 hx507_0 hx507_1 hx507_2 hx507_3 hx509_0 hx509_1 hx509_2 hx509_3 hHeld ⊢
       refine pu 0 84 [1, 10] ?_
       refine pu 1 85 [2, 9] ?_
       refine pu 2 86 [3, 8] ?_
       refine pu 5 89 [3, 2, 1, 5] ?_
       refine pu 6 90 [3, 2, 2, 4] ?_
       refine pu 7 91 [3, 2, 3, 3] ?_
       refine tk 3 87 [4, 1, 3, 3] ?_
       refine tk 8 92 [4, 1, 4, 2] ?_
       refine og 4 88 [9, 2] Tryz.func14 #[.agg #[.int .i64 ((rd_T40 t478 x13_3).f0), .string ((rd_T40 t478 x13_3).f1), .slice A507_2 ((rd_T40 t478 x13_3).f2).length c507_2, .string ((rd_T40 t478 x13_3).f3)]] (fun K hK => ?_)
       with_reducible refine (impl_ReqText.calls k3 ((rd_T40 t478 x13_3).f0) ((rd_T40 t478 x13_3).f1) _ _ ((rd_T40 t478 x13_3).f2) ((rd_T40 t478 x13_3).f3) t508 _ ?side1 ?side2 ?side3 A70.out).mono ?_
       (case side1 => exact GLOBT.below HGT.out bl)
       (case side2 => repeat (first | exact (by repeat (first | (with_reducible exact HR507_2.out) | (with_reducible refine Kd.C_alloc ?_ _) | (with_reducible refine Kd.C_drewN ?_ _) | (with_reducible refine Kd.C_drew ?_) | exact HR507_2.out)) | (with_reducible refine Kd.C_alloc ?_ _) | (with_reducible refine Kd.C_drewN ?_ _) | (with_reducible refine Kd.C_drew ?_)))
       (case side3 => exact HC507_2.out)
       rintro e w77 ⟨rfl, hb⟩
       have HS0_ := (hb.cell (World.block_lt_of_cell? _ _ (hHeld.1))).trans (hHeld.1)
       have HS1_ := (hb.cell (World.block_lt_of_cell? _ _ (hHeld.2.1))).trans (hHeld.2.1)
       have HS2_ := (hb.cell (World.block_lt_of_cell? _ _ (hHeld.2.2.1))).trans (hHeld.2.2.1)
       have HS3_ := (hb.cell (World.block_lt_of_cell? _ _ (hHeld.2.2.2.1))).trans (hHeld.2.2.2.1)
       have HS4_ := (hb.cell (World.block_lt_of_cell? _ _ (hHeld.2.2.2.2.1))).trans (hHeld.2.2.2.2.1)
       have HS5_ := (hb.cell (World.block_lt_of_cell? _ _ (hHeld.2.2.2.2.2.1))).trans (hHeld.2.2.2.2.2.1)
       have HS6_ := (hb.cell (World.block_lt_of_cell? _ _ (hHeld.2.2.2.2.2.2.1))).trans (hHeld.2.2.2.2.2.2.1)
       have HS7_ := (hb.cell (World.block_lt_of_cell? _ _ (hHeld.2.2.2.2.2.2.2))).trans (hHeld.2.2.2.2.2.2.2)
       refine ⟨_, rfl, ?_⟩
       have n0_ := am (Kd.S_below (by (with_reducible repeat (first | apply Kd.S_alloc | apply Kd.S_drewN | apply Kd.S_drew)); exact HO_6.out) hb)
       have n1_ := am (Kd.S_below (by (with_reducible repeat (first | apply Kd.S_alloc | apply Kd.S_drewN | apply Kd.S_drew)); exact HO_12.out) hb)
       have n2_ := am (Kd.R_below (ro HL507_2) hb)
       have n3_ := am (Kd.R_below (ro HL509_2) hb)
       have n4_ := kb BK475 hb
       have n5_ := kb BK481 hb
       have n6_ := kb BK487 hb
       have n7_ := kb BK506 hb
       have n8_ := am (Kd.C_below (by repeat (first | (with_reducible exact HR507_2.out) | (with_reducible refine Kd.C_alloc ?_ _) | (with_reducible refine Kd.C_drewN ?_ _) | (with_reducible refine Kd.C_drew ?_) | exact HR507_2.out)) hb)
       have n9_ := am (Kd.C_below (by repeat (first | (with_reducible exact HR509_2.out) | (with_reducible refine Kd.C_alloc ?_ _) | (with_reducible refine Kd.C_drewN ?_ _) | (with_reducible refine Kd.C_drew ?_) | exact HR509_2.out)) hb)
       have n10_ := am (below_step bl hb)
       clear HO_6
       clear HO_12
       clear HL507_2
       clear HL509_2
       clear BK475
       clear BK481
       clear BK487
       clear BK506
       clear HR507_2
       clear HR509_2
       clear HB
       have HO_6 := n0_
       have HO_12 := n1_
       have HL507_2 := n2_
       have HL509_2 := n3_
       have BK475 := n4_
       have BK481 := n5_
       have BK487 := n6_
       have BK506 := n7_
       have HR507_2 := n8_
       have HR509_2 := n9_
       have HB := n10_
       clear n0_ n1_ n2_ n3_ n4_ n5_ n6_ n7_ n8_ n9_ n10_
       clear hb
       refine hK.out _ _ ⟨HS0_, HS1_, HS2_, HS3_, HS4_, HS5_, HS6_, HS7_⟩ (fun hHeld => ?_)
       clear hK K
       refine nm 88 ?_
       refine og 9 93 [10, 1] Tryz.func14 #[.agg #[.int .i64 ((rd_T40 t503 x13_3).f0), .string ((rd_T40 t503 x13_3).f1), .slice A509_2 ((rd_T40 t503 x13_3).f2).length c509_2, .string ((rd_T40 t503 x13_3).f3)]] (fun K hK => ?_)
       with_reducible refine (impl_ReqText.calls k3 ((rd_T40 t503 x13_3).f0) ((rd_T40 t503 x13_3).f1) _ _ ((rd_T40 t503 x13_3).f2) ((rd_T40 t503 x13_3).f3) t510 _ ?side1 ?side2 ?side3 A72.out).mono ?_
       (case side1 => exact GLOBT.below HGT.out bl)
       (case side2 => repeat (first | exact (by repeat (first | (with_reducible exact HR509_2.out) | (with_reducible refine Kd.C_alloc ?_ _) | (with_reducible refine Kd.C_drewN ?_ _) | (with_reducible refine Kd.C_drew ?_) | exact HR509_2.out)) | (with_reducible refine Kd.C_alloc ?_ _) | (with_reducible refine Kd.C_drewN ?_ _) | (with_reducible refine Kd.C_drew ?_)))
       (case side3 => exact HC509_2.out)
       rintro e w78 ⟨rfl, hb⟩
       have HS0_ := (hb.cell (World.block_lt_of_cell? _ _ (hHeld.1))).trans (hHeld.1)
       have HS1_ := (hb.cell (World.block_lt_of_cell? _ _ (hHeld.2.1))).trans (hHeld.2.1)
       have HS2_ := (hb.cell (World.block_lt_of_cell? _ _ (hHeld.2.2.1))).trans (hHeld.2.2.1)
       have HS3_ := (hb.cell (World.block_lt_of_cell? _ _ (hHeld.2.2.2.1))).trans (hHeld.2.2.2.1)
       have HS4_ := (hb.cell (World.block_lt_of_cell? _ _ (hHeld.2.2.2.2.1))).trans (hHeld.2.2.2.2.1)
       have HS5_ := (hb.cell (World.block_lt_of_cell? _ _ (hHeld.2.2.2.2.2.1))).trans (hHeld.2.2.2.2.2.1)
       have HS6_ := (hb.cell (World.block_lt_of_cell? _ _ (hHeld.2.2.2.2.2.2.1))).trans (hHeld.2.2.2.2.2.2.1)
       have HS7_ := (hb.cell (World.block_lt_of_cell? _ _ (hHeld.2.2.2.2.2.2.2))).trans (hHeld.2.2.2.2.2.2.2)
       refine ⟨_, rfl, ?_⟩
       have n0_ := am (Kd.S_below (by (with_reducible repeat (first | apply Kd.S_alloc | apply Kd.S_drewN | apply Kd.S_drew)); exact HO_6.out) hb)
       have n1_ := am (Kd.S_below (by (with_reducible repeat (first | apply Kd.S_alloc | apply Kd.S_drewN | apply Kd.S_drew)); exact HO_12.out) hb)
       have n2_ := am (Kd.R_below (ro HL507_2) hb)
       have n3_ := am (Kd.R_below (ro HL509_2) hb)
       have n4_ := kb BK475 hb
       have n5_ := kb BK481 hb
       have n6_ := kb BK487 hb
       have n7_ := kb BK506 hb
       have n8_ := am (Kd.C_below (by repeat (first | (with_reducible exact HR507_2.out) | (with_reducible refine Kd.C_alloc ?_ _) | (with_reducible refine Kd.C_drewN ?_ _) | (with_reducible refine Kd.C_drew ?_) | exact HR507_2.out)) hb)
       have n9_ := am (Kd.C_below (by repeat (first | (with_reducible exact HR509_2.out) | (with_reducible refine Kd.C_alloc ?_ _) | (with_reducible refine Kd.C_drewN ?_ _) | (with_reducible refine Kd.C_drew ?_) | exact HR509_2.out)) hb)
       have n10_ := am (below_step bl hb)
       clear HO_6
       clear HO_12
       clear HL507_2
       clear HL509_2
       clear BK475
       clear BK481
       clear BK487
       clear BK506
       clear HR507_2
       clear HR509_2
       clear HB
       have HO_6 := n0_
       have HO_12 := n1_
       have HL507_2 := n2_
       have HL509_2 := n3_
       have BK475 := n4_
       have BK481 := n5_
       have BK487 := n6_
       have BK506 := n7_
       have HR507_2 := n8_
       have HR509_2 := n9_
       have HB := n10_
       clear n0_ n1_ n2_ n3_ n4_ n5_ n6_ n7_ n8_ n9_ n10_
       clear hb
       refine hK.out _ _ ⟨HS0_, HS1_, HS2_, HS3_, HS4_, HS5_, HS6_, HS7_⟩ (fun hHeld => ?_)
       clear hK K
       refine nm 93 ?_
       refine pu 10 94 [11] ?_
       refine done_ (done_of HT_.out (by kernel_rfl)) ?_
       try go_wp2
       go_roundg k3
       case measure => have := HJ6.out; have := HJ38.out; have := HK3.out; omega
       case rel => exact ⟨(wrap64 (x13_3 + 1)), rs, H', ⟨by have := HJ6.out; have := HJ38.out; have := HK3.out; omega⟩, ⟨by (with_reducible repeat (first | apply Kd.S_alloc | apply Kd.S_drewN | apply Kd.S_drew)); exact HO_6.out⟩, ⟨by (with_reducible repeat (first | apply Kd.S_alloc | apply Kd.S_drewN | apply Kd.S_drew)); exact HO_12.out⟩, ⟨by (with_reducible repeat (first | refine blk_drewN ?_ _ | refine blk_drew ?_ | refine blk_alloc ?_ _)); exact BK475.out⟩, ⟨by (with_reducible repeat (first | refine blk_drewN ?_ _ | refine blk_drew ?_ | refine blk_alloc ?_ _)); exact BK481.out⟩, ⟨by (with_reducible repeat (first | refine blk_drewN ?_ _ | refine blk_drew ?_ | refine blk_alloc ?_ _)); exact BK487.out⟩, ⟨by (with_reducible repeat (first | refine blk_drewN ?_ _ | refine blk_drew ?_ | refine blk_alloc ?_ _)); exact BK506.out⟩, ⟨u3HB⟩⟩

end Go.Proofs.YtjckfmipegemcaaGreatDoor.All
