-- Written by a program of this session (wip/tools/hprint.py) out of the translation. Lean checks it.
import Derived.Test.YtjckfmipegemcaaGreatDoorAllx0
import Derived.Test.YtjckfmipegemcaaGreatDoorAllx6
namespace Go.Proofs.YtjckfmipegemcaaGreatDoor.All
open Go.RowKit Go.Proofs.YtjckfmipegemcaaGreatDoorW.PrintWords Go.Proofs.YtjckfmipegemcaaGreatDoorW.PrintLast Go.Proofs.YtjckfmipegemcaaGreatDoorW.PrintMore
attribute [local go_sem] max2_int min2_int max_two min_two max_three min_three max_four min_four   -- for this text's walks alone
set_option linter.unusedVariables false
set_option linter.unusedSimpArgs false

/-! ### spec_FeedAll: function 24 -/
theorem u24HB {p : Prop} (h : p := by repeat (first | (with_reducible first | exact HB.out | apply below_alloc | apply pw_below_drewN | apply below_drew1 | refine below_set ?_ GE577.out | refine below_set ?_ GE578.out | refine below_set ?_ GE588.out) | exact HB.out)) : p := h
def spec_FeedAll.l0 : Nat → List ByteArray → List (S40) → Int → ByteArray → Bool → Option (ByteArray × Bool × (List (S40)))
 | 0, _, _, _, _, _ => none
 | k + 1, x1, x6, x7, x578000, x578001 => if x7 < (x1.length : Int) then (if 0 ≤ x7 then ((spec_Feed.f k x578000 x578001 (rdOf ByteArray.empty x1 x7)).bind fun bt583 => (if x6.length + bt583.2.2.length < 2199023255552 then (spec_FeedAll.l0 k x1 (x6 ++ bt583.2.2) (wrap64 (x7 + 1)) bt583.1 bt583.2.1) else (none))) else (none)) else (some (x578000, x578001, x6))
def spec_FeedAll.f (k : Nat) (a0_0 : ByteArray) (a0_1 : Bool) (l1 : List ByteArray) : Option (ByteArray × Bool × (List (S40))) := spec_FeedAll.l0 k l1 (([] : List (S40))) 0 a0_0 a0_1
theorem spec_FeedAll.mono_l : ∀ k, (∀ y0 y1 y2 y3 y4, LeO (spec_FeedAll.l0 k y0 y1 y2 y3 y4) (spec_FeedAll.l0 (k + 1) y0 y1 y2 y3 y4))
 | 0 => fun _ _ _ _ _ r h => by simp [spec_FeedAll.l0] at h
 | k + 1 => by
  have ih0 := spec_FeedAll.mono_l k
  ·intro y0 y1 y2 y3 y4
   unfold spec_FeedAll.l0
   have m0 := @spec_Feed.mono
   exact mo
theorem spec_FeedAll.mono : ∀ a0 a1 a2 k, LeO (spec_FeedAll.f k a0 a1 a2) (spec_FeedAll.f (k + 1) a0 a1 a2) := by
 intro a0 a1 a2 k
 have ih0 := spec_FeedAll.mono_l k
 unfold spec_FeedAll.f
 have m0 := @spec_Feed.mono
 exact mo
def spec_FeedAll.T5 : Bool × List (List Nat × List Nat) := (true, [([], []), ([], []), ([], []), ([1, 2], [1, 2]), ([3], [3]), ([0, 4], [0, 4]), ([5], [5]), ([6], [6]), ([6], [6]), ([], []), ([9, 7, 5, 0, 1, 2, 3, 4, 5, 6, 7, 9], [7, 9]), ([8, 10, 0, 1, 2, 3, 4, 5, 6, 7, 8, 9, 10], [8])])
def spec_FeedAll.B5 : List Nat := [0, 0, 0, 6, 14, 31, 63, 127, 127, 0, 767, 2047]
theorem spec_FeedAll.tab5 : rtab .any (opsOf Tryz.f24 5) = spec_FeedAll.T5 := by kernel_rfl
theorem spec_FeedAll.bits5 : waitsOk spec_FeedAll.T5.2 spec_FeedAll.B5 = true := by kernel_rfl
set_option maxHeartbeats 8000000 in
set_option maxRecDepth 100000 in
theorem spec_FeedAll.calls (k : Nat) (a0_0 : ByteArray) (a0_1 : Bool) (A1 : Option Addr) (c1 : Nat) (l1 : List ByteArray) (r1 : ByteArray) (r2 : Bool) (r3 : List (S40)) (w : World) (hr1 : Kd.C Kd.string w A1 l1.length l1) (hc1 : l1.length ≤ c1) (h : spec_FeedAll.f k a0_0 a0_1 l1 = some (r1, r2, r3)) :
  Calls Tryz.prog 24 #[.agg #[.string a0_0, .bool a0_1], .slice A1 l1.length c1] w fun e w' => ∃ v2_ : Value, e = .returned (.tuple #[.agg #[.string r1, .bool r2], v2_]) ∧ Kd.N k40 40 w' w.heap.size (fun k_ => (w.heap.size ≤ k_)) v2_ r3 ∧ Below w.heap.size w w' := by
 have hu25 := Tryz.underlying25
 have HR1 := am hr1
 have HC1 := am hc1
 clear hr1 hc1
 have HB := am (Below.refl w.heap.size w)
 unfold spec_FeedAll.f at h
 have H := h
 clear h
 obtain ⟨y579, hy579⟩ : ∃ y_ : List (S40), y_ = (([] : List (S40))) := ⟨_, rfl⟩
 replace H : (spec_FeedAll.l0 k l1 y579 0 a0_0 a0_1) = some (r1, r2, r3) := by first | (rw [hy579]; with_reducible exact H) | (have H2_ := (Option.bind_some _ _).symm.trans H; rw [hy579]; with_reducible exact H2_) | (have H2_ := (Option.bind_some _ _).symm.trans H; with_reducible exact H2_) | with_reducible exact H | (rw [hy579]; exact H) | exact H
 have Ny579 := am hy579
 clear hy579
 have H' := am H
 clear H
 go_enter Tryz.func24, Tryz.ntmps24
 go_wp2_with (first | ((with_reducible refine gw ?_); first | (refine bx 2 #[.string a0_0, .bool a0_1] 25 ?_; intro gb577 hg w3 hbox hb; have BK577 := am (hbox); have GW577 := am (sz hg : w.heap.size ≤ gb577); have GE577 := am (sz hg : w.heap.size ≤ gb577); replace HB := am (below_step bl hb); clear hb hbox hg) | (refine bx 4 #[.string (⟨#[]⟩ : ByteArray), .bool false] 25 ?_; intro gb578 hg w4 hbox hb; have BK578 := am (hbox); have GW578 := am (sz hg : w.heap.size ≤ gb578); have GE578 := am (sz hg : w.heap.size ≤ gb578); replace HB := am (below_step bl hb); have NB577_578 := am (nl hg BK577 : gb577 ≠ gb578); have NB578_577 := am (ng hg BK577 : gb578 ≠ gb577); replace BK577 := kb BK577 hb; clear hb hbox hg)) | ((with_reducible refine gate_dst (N := 10) rfl ?_); refine Kd.N_lit k40 _ 40 ?hg (N' := 10) ?hd (xs := ([] : List (S40))) (inner := []) (ok := (fun k_ => (w.heap.size ≤ k_) ∧ k_ ≠ gb577 ∧ k_ ≠ gb578)) (okp := (fun k_ => (w.heap.size ≤ k_) ∧ k_ ≠ gb577 ∧ k_ ≠ gb578)) ?hr ?hp (fun _ hk => hk) ((show ∀ k_, w4.heap.size ≤ k_ → (fun k_ => (w.heap.size ≤ k_) ∧ k_ ≠ gb577 ∧ k_ ≠ gb578) k_ from fun k_ hk => ⟨(Nat.le_trans (below_size bl) hk), Kd.freshB (g := gb577) (o := .cells #[.string a0_0, .bool a0_1] 25 (0, 0)) (bk BK577) k_ hk, Kd.freshB (g := gb578) (o := .cells #[.string (⟨#[]⟩ : ByteArray), .bool false] 25 (0, 0)) (bk BK578) k_ hk⟩) _ (Nat.le_refl _)) (Below.refl _ _) (Nat.le_refl _) (by simp) ?_; (case hd => rfl); (case hg => rfl); (case hr => first | (go_simp; done) | (go_simp; rfl)); (case hp => exact (Reps.none _ _)); intro v580 w5 ho6 hb hg_ hnew_; clear hg_ hnew_; (first | rw [← Ny579.out] at ho6 | (simp only [Int.reduceToNat] at ho6; rw [← Ny579.out] at ho6)); have HO581 := am (Kd.N_lower ho6 (below_size bl)); replace BK577 := kb BK577 hb; replace BK578 := kb BK578 hb; replace HB := am (below_step bl hb); clear hb ho6))
 (try simp only [Act.put, List.setIfInBounds_toArray, List.set_cons_zero, List.set_cons_succ])
 go_loopg [6, 7] k (fun kq v6 v7 w' => ∃ (x6_1 : List (S40)) (x7_1 : Int) (x578000_1 : ByteArray) (x578001_1 : Bool), v7 = .int .i64 x7_1 ∧ Aside0 (spec_FeedAll.l0 kq l1 x6_1 x7_1 x578000_1 x578001_1 = some (r1, r2, r3)) ∧ Aside0 (kq ≤ k) ∧ Aside0 (Kd.N k40 40 w' w.heap.size (fun k_ => (w.heap.size ≤ k_) ∧ k_ ≠ gb577 ∧ k_ ≠ gb578) v6 x6_1) ∧ Aside0 (w'.heap[gb577]? = some (.cells #[.string x578000_1, .bool x578001_1] 25 (0, 0))) ∧ Aside0 (w'.heap[gb578]? = some (.cells #[.string (⟨#[]⟩ : ByteArray), .bool false] 25 (0, 0))) ∧ Aside0 (Below w.heap.size w w'))
 case atStart => exact ⟨(y579), (0), (a0_0), (a0_1), rs, H', ⟨Nat.le_refl _⟩, ⟨by (with_reducible repeat (first | apply Kd.N_alloc | apply Kd.N_drewN | apply Kd.N_drew)); exact HO581.out⟩, ⟨by (with_reducible repeat (first | refine blk_drewN ?_ _ | refine blk_drew ?_ | refine blk_alloc ?_ _)); exact BK577.out⟩, ⟨by (with_reducible repeat (first | refine blk_drewN ?_ _ | refine blk_drew ?_ | refine blk_alloc ?_ _)); exact BK578.out⟩, ⟨u24HB⟩⟩
 case round =>
  clear H'
  try clear c1
  try clear c2
  try clear p2
  obtain ⟨x6_1, x7_1, x578000_1, x578001_1, rfl, HA, HK1, HO_6, BK577, BK578, HB⟩ := hrel
  cases gk with
  | zero => exact absurd HA.out (by simp [spec_FeedAll.l0])
  | succ k1 =>
   have H := HA.out
   clear HA
   simp only [spec_FeedAll.l0] at H
   by_cases c7 : x7_1 < (l1.length : Int)
   rotate_left
   ·rw [if_neg c7] at H
    have c7b0 := decide_eq_false c7
    clear c7
    simp only [Option.some.injEq, Prod.mk.injEq] at H
    obtain ⟨rfl, rfl, rfl⟩ := H
    have hnb24 := NB577_578.out
    have hnc24 := NB578_577.out
    obtain ⟨z25_0, y25_0, z25_1, y25_1⟩ := cl2 BK577
    obtain ⟨z26_0, y26_0, z26_1, y26_1⟩ := cl2 BK578
    go_wp2
    refine bodyPost_ret (results_ct rfl _ _ gb578 25 #[.string x578000_1, .bool x578001_1] (0, 0) _ rfl (pt0 BK578) Tryz.underlying25 rfl (by kernel_rfl)) rfl ?_
    exact ⟨_, rf, by (with_reducible repeat (first | apply Kd.N_alloc | apply Kd.N_drewN | apply Kd.N_drew)); exact Kd.N_mono (Kd.N_far (p := ⟨gb578, 1, none⟩) (Kd.N_far (p := ⟨gb578, 0, none⟩) (Kd.N_mono HO_6.out (fun k_ hk => (⟨hk, hk.2.2⟩ : _ ∧ k_ ≠ gb578))) (fun _ hk => hk.2) (.string x578000_1)) (fun _ hk => hk.2) (.bool x578001_1)) (fun _ hk => hk.1.1), bl⟩
   rw [if_pos c7] at H
   have c7b0 := decide_eq_true c7
   clear c7
   revert H
   refine ifn fun c8 H => ?_
   have c8b0 := decide_eq_true c8
   clear c8
   revert H
   refine ok3 fun t583 t584 t585 A9 H => ?_
   (try dsimp only at H)
   revert H
   refine ifn fun c10 H => ?_
   have LMc10 := am c10
   clear c10
   obtain ⟨y589, hy589⟩ : ∃ y_ : List (S40), y_ = (x6_1 ++ t585) := ⟨_, rfl⟩
   replace H : (spec_FeedAll.l0 k1 l1 y589 (wrap64 (x7_1 + 1)) t583 t584) = some (r1, r2, r3) := by first | (rw [hy589]; with_reducible exact H) | (have H2_ := (Option.bind_some _ _).symm.trans H; rw [hy589]; with_reducible exact H2_) | (have H2_ := (Option.bind_some _ _).symm.trans H; with_reducible exact H2_) | with_reducible exact H | (rw [hy589]; exact H) | exact H
   have Ny589 := am hy589
   clear hy589
   have H' := am H
   clear H
   try go_wp2
   replace HO_6 := am (Kd.N_drew HO_6.out)
   replace BK577 := am (blk_drew BK577.out)
   replace BK578 := am (blk_drew BK578.out)
   replace HB := am (below_drew1 HB.out)
   have p582 : 0 ≤ (x7_1 : Int) := od
   have q582 : x7_1 < (l1.length : Int) := od
   obtain ⟨ad582, e582, hx582_0⟩ := Kd.at_string HR1.out x7_1 p582 q582
   have hw582_0 := hx582_0
   cases e582
   replace hx582_0 := hcw hx582_0
   replace p582 := eq_true p582
   replace q582 := eq_true q582
   refine start_ (n := 12) (S := fun w' => w'.cell? ⟨gb577, 0, none⟩ = some (.string x578000_1) ∧ w'.cell? ⟨gb577, 1, none⟩ = some (.bool x578001_1) ∧ w'.cell? (ad582.add (x7_1).toNat) = some (.string (rdOf ByteArray.empty l1 x7_1))) (ds := []) ⟨br true [0, 12]⟩ (by kernel_rfl) rfl (by kernel_rfl) ⟨bc BK577, bc BK577, (hcw hw582_0)⟩ (fun hHeld => ?_); refine with_tabW spec_FeedAll.tab5 spec_FeedAll.bits5 (fun HT_ HW_ => ?_)
   generalize wr.drew = w11 at HO_6 BK577 BK578 HB hx582_0 hHeld ⊢
   refine pu 1 19 [0, 1, 1, 10] ?_
   refine pu 2 20 [0, 1, 2, 9] ?_
   refine pu 3 21 [0, 1, 3, 8] ?_
   refine tk 0 18 [4, 8] ?_
   refine tk 4 22 [5, 7] ?_
   refine join_ (σ := Value × Nat) 2 #[true, true, true, true, true, true, true, true, true, true, false, false] (fun s_ => [(23, .tuple #[.agg #[.string t583, .bool t584], s_.1]), (8, .pointer (some ⟨s_.2, 0, none⟩)), (17, .tuple #[.agg #[.string t583, .bool t584], s_.1]), (24, .agg #[.string t583, .bool t584]), (25, s_.1)]) (fun s_ w' => (w'.cell? ⟨gb577, 0, none⟩ = some (.string x578000_1) ∧ w'.cell? ⟨gb577, 1, none⟩ = some (.bool x578001_1) ∧ w'.cell? (ad582.add (x7_1).toNat) = some (.string (rdOf ByteArray.empty l1 x7_1))) ∧ (Kd.N k40 40 w' w.heap.size (fun k_ => (w.heap.size ≤ k_) ∧ some k_ ≠ (u6 : Value).ownBlock ∧ k_ ≠ gb577 ∧ k_ ≠ gb578 ∧ k_ ≠ s_.2) s_.1 t585) ∧ (Kd.N k40 40 w' w.heap.size (fun k_ => (w.heap.size ≤ k_) ∧ some k_ ≠ (s_.1 : Value).ownBlock ∧ k_ ≠ gb577 ∧ k_ ≠ gb578 ∧ k_ ≠ s_.2) u6 x6_1) ∧ (w'.heap[gb577]? = some (.cells #[.string x578000_1, .bool x578001_1] 25 (0, 0))) ∧ (w'.heap[gb578]? = some (.cells #[.string (⟨#[]⟩ : ByteArray), .bool false] 25 (0, 0))) ∧ (w'.heap[s_.2]? = some (.cells #[.string (⟨#[]⟩ : ByteArray), .bool false] 25 (0, 0))) ∧ (w.heap.size ≤ s_.2) ∧ (w.heap.size ≤ s_.2) ∧ (gb577 ≠ s_.2) ∧ (s_.2 ≠ gb577) ∧ (gb578 ≠ s_.2) ∧ (s_.2 ≠ gb578) ∧ (Below w.heap.size w w')) ?_ ?_
   rotate_left
   ·intro hCont
    refine two_ (i := 5) (j := 9) (Ni := some 23) (Nj := some 8) #[true, true, true, true, true, true, false, false, false, false, false, false] #[true, true, true, true, true, false, false, false, false, true, false, false] rfl rfl rfl rfl (two_of HT_.out (by kernel_rfl)) (by decide) (by decide) (fun K hK => ?_) (fun K hK => ?_)
    ·skip
     refine goes_ Tryz.func10 (by kernel_rfl) rfl #[.agg #[.string x578000_1, .bool x578001_1], .string (rdOf ByteArray.empty l1 x7_1)] (by rfl) rfl rfl ma ?_
     with_reducible refine (spec_Feed.calls k1 x578000_1 x578001_1 (rdOf ByteArray.empty l1 x7_1) t583 t584 t585 _ A9.out).mono ?_
     rintro e w12 ⟨v586, rfl, ho0, hb⟩
     refine ⟨_, rfl, ?_⟩
     have n0_ := am (Kd.N_elder' (by (with_reducible repeat (first | apply Kd.N_alloc | apply Kd.N_drewN | apply Kd.N_drew)); exact HO_6.out) (Kd.S_base ho0) hb)
     have n1_ := am (Kd.N_lower (Kd.N_mono (ok' := fun k_ => (w.heap.size ≤ k_) ∧ some k_ ≠ (u6 : Value).ownBlock ∧ k_ ≠ gb577 ∧ k_ ≠ gb578) (Kd.S_N (Kd.S_bound ho0)) (fun k_ hk_ => ⟨(Nat.le_trans (below_size bl) hk_.2.1), (Kd.fresh' (Kd.N_lt (by (with_reducible repeat (first | apply Kd.N_alloc | apply Kd.N_drewN | apply Kd.N_drew)); exact HO_6.out)) k_ hk_.2.1), (Kd.freshB (g := gb577) (o := .cells #[.string x578000_1, .bool x578001_1] 25 (0, 0)) (bk BK577) k_ hk_.2.1), (Kd.freshB (g := gb578) (o := .cells #[.string (⟨#[]⟩ : ByteArray), .bool false] 25 (0, 0)) (bk BK578) k_ hk_.2.1)⟩)) (below_size bl))
     have n2_ := kb BK577 hb
     have n3_ := kb BK578 hb
     have n4_ := am (below_step bl hb)
     clear HO_6
     clear BK577
     clear BK578
     clear HB
     have HO_6 := n0_
     have HO587 := n1_
     have BK577 := n2_
     have BK578 := n3_
     have HB := n4_
     clear n0_ n1_ n2_ n3_ n4_
     clear hb ho0
     refine hK.out _ _ ⟨bc BK577, bc BK577, (hcw hw582_0)⟩ (fun hHeld => ?_)
     clear hK K
     refine nm 23 ?_
     refine pu 6 17 [7, 5] ?_
     refine pu 7 24 [8, 4] ?_
     refine pu 8 25 [9, 3] ?_
     refine one_ (i := 9) (N := some 8) #[true, true, true, true, true, true, true, true, true, true, false, false] rfl rfl (one_of HT_.out (by kernel_rfl)) (by decide) (fun K hK => ?_)
     refine box_step ?hg (N := 8) ?hd (cs := #[.string (⟨#[]⟩ : ByteArray), .bool false]) (t := 25) ?hr ?_; (case hd => rfl); (case hg => rfl); (case hr => first | (go_simp; done) | (go_simp; rfl))
     intro gb588 hg w13 hbox hb
     have n0_ := am (Kd.N_below (Kd.N_elderB (by (with_reducible repeat (first | apply Kd.N_alloc | apply Kd.N_drewN | apply Kd.N_drew)); exact HO_6.out) gb588 (Nat.le_of_eq hg.symm)) hb)
     have n1_ := am (Kd.N_below (Kd.N_elderB (by (with_reducible repeat (first | apply Kd.N_alloc | apply Kd.N_drewN | apply Kd.N_drew)); exact HO587.out) gb588 (Nat.le_of_eq hg.symm)) hb)
     have n2_ := kb BK577 hb
     have n3_ := kb BK578 hb
     have n4_ := am (below_step bl hb)
     have n5_ := am (hbox)
     have n6_ := am (sz hg : w.heap.size ≤ gb588)
     have n7_ := am (sz hg : w.heap.size ≤ gb588)
     have n8_ := am (nl hg BK577 : gb577 ≠ gb588)
     have n9_ := am (ng hg BK577 : gb588 ≠ gb577)
     have n10_ := am (nl hg BK578 : gb578 ≠ gb588)
     have n11_ := am (ng hg BK578 : gb588 ≠ gb578)
     clear HO_6
     clear HO587
     clear BK577
     clear BK578
     clear HB
     have HO_6 := n0_
     have HO587 := n1_
     have BK577 := n2_
     have BK578 := n3_
     have HB := n4_
     have BK588 := n5_
     have GW588 := n6_
     have GE588 := n7_
     have NB577_588 := n8_
     have NB588_577 := n9_
     have NB578_588 := n10_
     have NB588_578 := n11_
     clear n0_ n1_ n2_ n3_ n4_ n5_ n6_ n7_ n8_ n9_ n10_ n11_
     clear hb hbox hg
     refine hK.out _ _ ⟨bc BK577, bc BK577, (hcw hw582_0)⟩ (fun hHeld => ?_)
     clear hK K
     refine nm 8 ?_
     exact norm_ (by simp only [putAll, Act.put, List.setIfInBounds_toArray, List.set_cons_zero, List.set_cons_succ]) (hCont (v586, gb588) _ ⟨hHeld, (by (with_reducible repeat (first | apply Kd.N_alloc | apply Kd.N_drewN | apply Kd.N_drew)); exact Kd.N_mono HO587.out (fun _ hk => ⟨hk.1.1, ⟨hk.1.2.1, ⟨hk.1.2.2.1, ⟨hk.1.2.2.2, hk.2⟩⟩⟩⟩)), (by (with_reducible repeat (first | apply Kd.N_alloc | apply Kd.N_drewN | apply Kd.N_drew)); exact Kd.N_mono HO_6.out (fun _ hk => ⟨hk.1.1.1, ⟨hk.1.2, ⟨hk.1.1.2.1, ⟨hk.1.1.2.2, hk.2⟩⟩⟩⟩)), (bk BK577), (bk BK578), (bk BK588), GW588.out, GE588.out, NB577_588.out, NB588_577.out, NB578_588.out, NB588_578.out, bl⟩)
    ·skip
     refine box_step ?hg (N := 8) ?hd (cs := #[.string (⟨#[]⟩ : ByteArray), .bool false]) (t := 25) ?hr ?_; (case hd => rfl); (case hg => rfl); (case hr => first | (go_simp; done) | (go_simp; rfl))
     intro gb588 hg w12 hbox hb
     have n0_ := am (Kd.N_below (Kd.N_elderB (by (with_reducible repeat (first | apply Kd.N_alloc | apply Kd.N_drewN | apply Kd.N_drew)); exact HO_6.out) gb588 (Nat.le_of_eq hg.symm)) hb)
     have n1_ := kb BK577 hb
     have n2_ := kb BK578 hb
     have n3_ := am (below_step bl hb)
     have n4_ := am (hbox)
     have n5_ := am (sz hg : w.heap.size ≤ gb588)
     have n6_ := am (sz hg : w.heap.size ≤ gb588)
     have n7_ := am (nl hg BK577 : gb577 ≠ gb588)
     have n8_ := am (ng hg BK577 : gb588 ≠ gb577)
     have n9_ := am (nl hg BK578 : gb578 ≠ gb588)
     have n10_ := am (ng hg BK578 : gb588 ≠ gb578)
     clear HO_6
     clear BK577
     clear BK578
     clear HB
     have HO_6 := n0_
     have BK577 := n1_
     have BK578 := n2_
     have HB := n3_
     have BK588 := n4_
     have GW588 := n5_
     have GE588 := n6_
     have NB577_588 := n7_
     have NB588_577 := n8_
     have NB578_588 := n9_
     have NB588_578 := n10_
     clear n0_ n1_ n2_ n3_ n4_ n5_ n6_ n7_ n8_ n9_ n10_
     clear hb hbox hg
     refine hK.out _ _ ⟨bc BK577, bc BK577, (hcw hw582_0)⟩ (fun hHeld => ?_)
     clear hK K
     refine nm 8 ?_
     refine og 5 23 [6, 3, 1, 2] Tryz.func10 #[.agg #[.string x578000_1, .bool x578001_1], .string (rdOf ByteArray.empty l1 x7_1)] (fun K hK => ?_)
     with_reducible refine (spec_Feed.calls k1 x578000_1 x578001_1 (rdOf ByteArray.empty l1 x7_1) t583 t584 t585 _ A9.out).mono ?_
     rintro e w13 ⟨v586, rfl, ho0, hb⟩
     refine ⟨_, rfl, ?_⟩
     have n0_ := am (Kd.N_elder' (by (with_reducible repeat (first | apply Kd.N_alloc | apply Kd.N_drewN | apply Kd.N_drew)); exact HO_6.out) (Kd.S_base ho0) hb)
     have n1_ := am (Kd.N_lower (Kd.N_mono (ok' := fun k_ => (w.heap.size ≤ k_) ∧ some k_ ≠ (u6 : Value).ownBlock ∧ k_ ≠ gb577 ∧ k_ ≠ gb578 ∧ k_ ≠ gb588) (Kd.S_N (Kd.S_bound ho0)) (fun k_ hk_ => ⟨(Nat.le_trans (below_size bl) hk_.2.1), (Kd.fresh' (Kd.N_lt (by (with_reducible repeat (first | apply Kd.N_alloc | apply Kd.N_drewN | apply Kd.N_drew)); exact HO_6.out)) k_ hk_.2.1), (Kd.freshB (g := gb577) (o := .cells #[.string x578000_1, .bool x578001_1] 25 (0, 0)) (bk BK577) k_ hk_.2.1), (Kd.freshB (g := gb578) (o := .cells #[.string (⟨#[]⟩ : ByteArray), .bool false] 25 (0, 0)) (bk BK578) k_ hk_.2.1), (Kd.freshB (g := gb588) (o := .cells #[.string (⟨#[]⟩ : ByteArray), .bool false] 25 (0, 0)) (bk BK588) k_ hk_.2.1)⟩)) (below_size bl))
     have n2_ := kb BK577 hb
     have n3_ := kb BK578 hb
     have n4_ := kb BK588 hb
     have n5_ := am (below_step bl hb)
     clear HO_6
     clear BK577
     clear BK578
     clear BK588
     clear HB
     have HO_6 := n0_
     have HO587 := n1_
     have BK577 := n2_
     have BK578 := n3_
     have BK588 := n4_
     have HB := n5_
     clear n0_ n1_ n2_ n3_ n4_ n5_
     clear hb ho0
     refine hK.out _ _ ⟨bc BK577, bc BK577, (hcw hw582_0)⟩ (fun hHeld => ?_)
     clear hK K
     refine nm 23 ?_
     refine pu 6 17 [7, 2, 1, 2] ?_
     refine pu 7 24 [8, 1, 1, 2] ?_
     refine pu 8 25 [10, 2] ?_
     exact norm_ (by simp only [putAll, Act.put, List.setIfInBounds_toArray, List.set_cons_zero, List.set_cons_succ]) (hCont (v586, gb588) _ ⟨hHeld, (by (with_reducible repeat (first | apply Kd.N_alloc | apply Kd.N_drewN | apply Kd.N_drew)); exact HO587.out), (by (with_reducible repeat (first | apply Kd.N_alloc | apply Kd.N_drewN | apply Kd.N_drew)); exact Kd.N_mono HO_6.out (fun _ hk => ⟨hk.1.1.1, ⟨hk.2, ⟨hk.1.1.2.1, ⟨hk.1.1.2.2, hk.1.2⟩⟩⟩⟩)), (bk BK577), (bk BK578), (bk BK588), GW588.out, GE588.out, NB577_588.out, NB588_577.out, NB578_588.out, NB588_578.out, bl⟩)
   rintro ⟨v586, gb588⟩ w14 ⟨hS_, h0_, h1_, h2_, h3_, h4_, h5_, h6_, h7_, h8_, h9_, h10_, h11_⟩
   have n0_ : Aside0 (Kd.N k40 40 w14 w.heap.size (fun k_ => (w.heap.size ≤ k_) ∧ some k_ ≠ (u6 : Value).ownBlock ∧ k_ ≠ gb577 ∧ k_ ≠ gb578 ∧ k_ ≠ gb588) v586 t585) := ⟨h0_⟩
   have n1_ : Aside0 (Kd.N k40 40 w14 w.heap.size (fun k_ => (w.heap.size ≤ k_) ∧ some k_ ≠ (v586 : Value).ownBlock ∧ k_ ≠ gb577 ∧ k_ ≠ gb578 ∧ k_ ≠ gb588) u6 x6_1) := ⟨h1_⟩
   have n2_ : Aside0 (w14.heap[gb577]? = some (.cells #[.string x578000_1, .bool x578001_1] 25 (0, 0))) := ⟨h2_⟩
   have n3_ : Aside0 (w14.heap[gb578]? = some (.cells #[.string (⟨#[]⟩ : ByteArray), .bool false] 25 (0, 0))) := ⟨h3_⟩
   have n4_ : Aside0 (w14.heap[gb588]? = some (.cells #[.string (⟨#[]⟩ : ByteArray), .bool false] 25 (0, 0))) := ⟨h4_⟩
   have n5_ : Aside0 (w.heap.size ≤ gb588) := ⟨h5_⟩
   have n6_ : Aside0 (w.heap.size ≤ gb588) := ⟨h6_⟩
   have n7_ : Aside0 (gb577 ≠ gb588) := ⟨h7_⟩
   have n8_ : Aside0 (gb588 ≠ gb577) := ⟨h8_⟩
   have n9_ : Aside0 (gb578 ≠ gb588) := ⟨h9_⟩
   have n10_ : Aside0 (gb588 ≠ gb578) := ⟨h10_⟩
   have n11_ : Aside0 (Below w.heap.size w w14) := ⟨h11_⟩
   clear HO_6
   clear BK577
   clear BK578
   clear HB
   clear h0_ h1_ h2_ h3_ h4_ h5_ h6_ h7_ h8_ h9_ h10_ h11_
   have HO587 := n0_
   have HO_6 := n1_
   have BK577 := n2_
   have BK578 := n3_
   have BK588 := n4_
   have GW588 := n5_
   have GE588 := n6_
   have NB577_588 := n7_
   have NB588_577 := n8_
   have NB578_588 := n9_
   have NB588_578 := n10_
   have HB := n11_
   clear n0_ n1_ n2_ n3_ n4_ n5_ n6_ n7_ n8_ n9_ n10_ n11_
   have hHeld : w14.cell? ⟨gb577, 0, none⟩ = some (.string x578000_1) ∧ w14.cell? ⟨gb577, 1, none⟩ = some (.bool x578001_1) ∧ w14.cell? (ad582.add (x7_1).toNat) = some (.string (rdOf ByteArray.empty l1 x7_1)) := hS_
   refine norm_ (a' := ?_) ?_ ?_
   rotate_left
   ·simp only [putAll, Act.put, List.setIfInBounds_toArray, List.set_cons_zero, List.set_cons_succ]
    rfl
   refine one_ (i := 10) (N := none) #[true, true, true, true, true, true, true, true, true, true, true, false] rfl rfl (one_of HT_.out (by kernel_rfl)) (by decide) (fun K hK => ?_)
   have hs15 : w14.cell? ⟨gb588, 0, none⟩ = some (.string (⟨#[]⟩ : ByteArray)) := bc BK588
   have hfs15 := blk_frozen BK588.out 0
   have hns15_0 := NB577_588.out
   have hns15_1 := NB578_588.out
   have hms15_0 := NB588_577.out
   have hms15_1 := NB588_578.out
   have hs16 : w14.cell? ⟨gb588, 1, none⟩ = some (.bool false) := bc BK588
   have hfs16 := blk_frozen BK588.out 1
   have hns16_0 := NB577_588.out
   have hns16_1 := NB578_588.out
   have hms16_0 := NB588_577.out
   have hms16_1 := NB588_578.out
   refine skip_ (w1 := ?_) (by rfl) rfl ?_ ?_
   rotate_left
   ·go_simp
    rfl
   refine hK.out _ _ ⟨((cell_far (p := ⟨gb588, _, none⟩) NB577_588.out _).trans (((cell_far (p := ⟨gb588, _, none⟩) NB577_588.out _).trans (hHeld.1)))), ((cell_far (p := ⟨gb588, _, none⟩) NB577_588.out _).trans (((cell_far (p := ⟨gb588, _, none⟩) NB577_588.out _).trans (hHeld.2.1)))), ((cell_far (p := ⟨gb588, _, none⟩) (by first | exact Nat.ne_of_lt (Nat.lt_of_lt_of_le (by have := World.block_lt_of_cell? _ _ hw582_0; first | rwa [add_block] at this | exact this) GW588.out) | (rw [add_block]; exact Nat.ne_of_lt (Nat.lt_of_lt_of_le (by have := World.block_lt_of_cell? _ _ hw582_0; first | rwa [add_block] at this | exact this) GW588.out)) | (show (Addr.add _ _).block ≠ _; rw [add_block]; exact Nat.ne_of_lt (Nat.lt_of_lt_of_le (by have := World.block_lt_of_cell? _ _ hw582_0; first | rwa [add_block] at this | exact this) GW588.out)) | (dsimp only; exact Nat.ne_of_lt (Nat.lt_of_lt_of_le (by have := World.block_lt_of_cell? _ _ hw582_0; first | rwa [add_block] at this | exact this) GW588.out))) _).trans (((cell_far (p := ⟨gb588, _, none⟩) (by first | exact Nat.ne_of_lt (Nat.lt_of_lt_of_le (by have := World.block_lt_of_cell? _ _ hw582_0; first | rwa [add_block] at this | exact this) GW588.out) | (rw [add_block]; exact Nat.ne_of_lt (Nat.lt_of_lt_of_le (by have := World.block_lt_of_cell? _ _ hw582_0; first | rwa [add_block] at this | exact this) GW588.out)) | (show (Addr.add _ _).block ≠ _; rw [add_block]; exact Nat.ne_of_lt (Nat.lt_of_lt_of_le (by have := World.block_lt_of_cell? _ _ hw582_0; first | rwa [add_block] at this | exact this) GW588.out)) | (dsimp only; exact Nat.ne_of_lt (Nat.lt_of_lt_of_le (by have := World.block_lt_of_cell? _ _ hw582_0; first | rwa [add_block] at this | exact this) GW588.out))) _).trans (hHeld.2.2))))⟩ (fun hHeld => ?_)
   clear hK K
   refine pu 11 9 [12] ?_
   refine done_ (done_of HT_.out (by kernel_rfl)) ?_
   have hnb17 := NB588_577.out
   have hnc17 := NB577_588.out
   have hnb18 := NB588_578.out
   have hnc18 := NB578_588.out
   obtain ⟨z19_0, y19_0, z19_1, y19_1⟩ := cl2 BK588
   have hnb20 := NB577_578.out
   have hnc20 := NB578_577.out
   obtain ⟨z21_0, y21_0, z21_1, y21_1⟩ := cl2 BK577
   obtain ⟨Ao23, co23, eo23⟩ := Kd.N_slice HO587.out
   subst eo23
   try go_wp2_with (first | ((with_reducible refine gate_builtin (b := .append) (xs := #[.tmp 27, .tmp 28]) rfl ?_); at_builtin; refine Kd.N_append_rows k40 (w0 := w) w.heap.size rfl (.tmp 27) (.tmp 28) 28 40 (.agg #[(.int .i64 0), (.string ⟨#[]⟩), (.slice none 0 0), (.string ⟨#[]⟩)]) 64 rfl Tryz.underlying28 info40 rfl (by decide) (by omega) u6 x6_1 t585 _ _ _ (fun k_ => (w.heap.size ≤ k_) ∧ k_ ≠ gb577 ∧ k_ ≠ gb578 ∧ k_ ≠ gb588) (fun k_ => ((fun k_ => (w.heap.size ≤ k_) ∧ k_ ≠ gb577 ∧ k_ ≠ gb578 ∧ k_ ≠ gb588)) k_ ∧ some k_ ≠ (u6 : Value).ownBlock) rfl rfl ?aO ?aR (fun _ hk => hk) ?aF ?aB ?aS ?aL ?_; (case aR => exact (by skip; exact Kd.N_F (Kd.N_mono (ok' := (fun k_ => ((fun k_ => (w.heap.size ≤ k_) ∧ k_ ≠ gb577 ∧ k_ ≠ gb578 ∧ k_ ≠ gb588)) k_ ∧ some k_ ≠ (u6 : Value).ownBlock)) ((Kd.N_far (p := ⟨gb577, 1, none⟩) (Kd.N_far (p := ⟨gb577, 0, none⟩) (Kd.N_far (p := ⟨gb588, 1, none⟩) (Kd.N_far (p := ⟨gb588, 0, none⟩) (Kd.N_mono (Kd.N_mono HO587.out (fun k_ hk => (⟨hk, hk.2.2.2.2⟩ : _ ∧ k_ ≠ gb588))) (fun k_ hk => (⟨hk, hk.1.2.2.1⟩ : _ ∧ k_ ≠ gb577))) (fun _ hk => hk.1.2) (.string t583)) (fun _ hk => hk.1.2) (.bool t584)) (fun _ hk => hk.2) (.string t583)) (fun _ hk => hk.2) (.bool t584))) (fun k_ hk => ⟨⟨hk.1.1.1, ⟨hk.1.1.2.2.1, ⟨hk.1.1.2.2.2.1, hk.1.1.2.2.2.2⟩⟩⟩, hk.1.1.2.1⟩)))); (case aB => exact bl); (case aF => exact (fun k_ hk => ⟨(Nat.le_trans (below_size bl) hk), Kd.freshB (g := gb577) (o := .cells #[.string t583, .bool t584] 25 (0, 0)) (pt1 BK577 NB577_588) k_ hk, Kd.freshB (g := gb578) (o := .cells #[.string (⟨#[]⟩ : ByteArray), .bool false] 25 (0, 0)) (bg2 BK578 NB578_577 NB578_588) k_ hk, Kd.freshB (g := gb588) (o := .cells #[.string t583, .bool t584] 25 (0, 0)) (pt1 BK588 NB588_577) k_ hk⟩)); (case aO => exact (by (with_reducible repeat (first | apply Kd.N_alloc | apply Kd.N_drewN | apply Kd.N_drew)); exact Kd.N_mono (Kd.N_far (p := ⟨gb577, 1, none⟩) (Kd.N_far (p := ⟨gb577, 0, none⟩) (Kd.N_far (p := ⟨gb588, 1, none⟩) (Kd.N_far (p := ⟨gb588, 0, none⟩) (Kd.N_mono (Kd.N_mono HO_6.out (fun k_ hk => (⟨hk, hk.2.2.2.2⟩ : _ ∧ k_ ≠ gb588))) (fun k_ hk => (⟨hk, hk.1.2.2.1⟩ : _ ∧ k_ ≠ gb577))) (fun _ hk => hk.1.2) (.string t583)) (fun _ hk => hk.1.2) (.bool t584)) (fun _ hk => hk.2) (.string t583)) (fun _ hk => hk.2) (.bool t584)) (fun _ hk => ⟨hk.1.1.1, ⟨hk.1.1.2.2.1, ⟨hk.1.1.2.2.2.1, hk.1.1.2.2.2.2⟩⟩⟩))); (case aS => exact (below_size bl)); (case aL => have := LMc10.out; omega); intro v590 w22 ho hb hg hat; rw [← Ny589.out] at ho; have n0_ := am (blk_grown (g := gb577) (o := .cells #[.string t583, .bool t584] 25 (0, 0)) (pt1 BK577 NB577_588) hg (Kd.N_ne HO_6.out BK577.out (by decide))); have n1_ := am (blk_grown (g := gb578) (o := .cells #[.string (⟨#[]⟩ : ByteArray), .bool false] 25 (0, 0)) (bg2 BK578 NB578_577 NB578_588) hg (Kd.N_ne HO_6.out BK578.out (by decide))); have n2_ := am (Kd.N_afterv (ok := (fun k_ => (w.heap.size ≤ k_) ∧ k_ ≠ gb577 ∧ k_ ≠ gb578 ∧ k_ ≠ gb588)) (by (with_reducible repeat (first | apply Kd.N_alloc | apply Kd.N_drewN | apply Kd.N_drew)); exact Kd.N_mono (Kd.N_far (p := ⟨gb577, 1, none⟩) (Kd.N_far (p := ⟨gb577, 0, none⟩) (Kd.N_far (p := ⟨gb588, 1, none⟩) (Kd.N_far (p := ⟨gb588, 0, none⟩) (Kd.N_mono (Kd.N_mono HO587.out (fun k_ hk => (⟨hk, hk.2.2.2.2⟩ : _ ∧ k_ ≠ gb588))) (fun k_ hk => (⟨hk, hk.1.2.2.1⟩ : _ ∧ k_ ≠ gb577))) (fun _ hk => hk.1.2) (.string t583)) (fun _ hk => hk.1.2) (.bool t584)) (fun _ hk => hk.2) (.string t583)) (fun _ hk => hk.2) (.bool t584)) (fun _ hk => ⟨⟨hk.1.1.1, ⟨hk.1.1.2.2.1, ⟨hk.1.1.2.2.2.1, hk.1.1.2.2.2.2⟩⟩⟩, hk.1.1.2.1⟩)) hg hat); have n3_ := am (blk_grown (g := gb588) (o := .cells #[.string t583, .bool t584] 25 (0, 0)) (pt1 BK588 NB588_577) hg (Kd.N_ne HO_6.out BK588.out (by decide))); have n4_ := am (hb); have n5_ := am (ho); clear BK577; clear BK578; clear HO587; clear BK588; clear HB; clear HO_6; have BK577 := n0_; have BK578 := n1_; have HO587 := n2_; have BK588 := n3_; have HB := n4_; have HO591 := n5_; clear n0_ n1_ n2_ n3_ n4_ n5_; clear ho hb hg hat))
   go_roundg k1
   case measure => have := HK1.out; omega
   case rel => exact ⟨(y589), (wrap64 (x7_1 + 1)), (t583), (t584), rs, H', ⟨by have := HK1.out; omega⟩, ⟨by (with_reducible repeat (first | apply Kd.N_alloc | apply Kd.N_drewN | apply Kd.N_drew)); exact Kd.N_mono HO591.out (fun _ hk => ⟨hk.1, ⟨hk.2.1, hk.2.2.1⟩⟩)⟩, ⟨by (with_reducible repeat (first | refine blk_drewN ?_ _ | refine blk_drew ?_ | refine blk_alloc ?_ _)); exact BK577.out⟩, ⟨by (with_reducible repeat (first | refine blk_drewN ?_ _ | refine blk_drew ?_ | refine blk_alloc ?_ _)); exact BK578.out⟩, ⟨u24HB⟩⟩

end Go.Proofs.YtjckfmipegemcaaGreatDoor.All
