-- Written by a program of this session (wip/tools/hprint.py) out of the translation. Lean checks it.
import Derived.Test.YtjckfmipegemcaaGreatDoorKPiecesAllx0
import Derived.Test.YtjckfmipegemcaaGreatDoorKPiecesAllx4
import Derived.Test.YtjckfmipegemcaaGreatDoorKPiecesAllx5
namespace Go.Proofs.YtjckfmipegemcaaGreatDoor.All
open Go.RowKit Go.Proofs.YtjckfmipegemcaaGreatDoorW.PrintWords Go.Proofs.YtjckfmipegemcaaGreatDoorW.PrintLast Go.Proofs.YtjckfmipegemcaaGreatDoorW.PrintMore
attribute [local go_sem] max2_int min2_int max_two min_two max_three min_three max_four min_four  -- for this text's walks alone
set_option linter.unusedVariables false
set_option linter.unusedSimpArgs false

/-! ### spec_Feed: function 10 -/
theorem u10HB {p : Prop} (h : p := by repeat (first | (with_reducible first | exact HB.out | apply below_alloc | apply pw_below_drewN | apply below_drew1 | refine below_set ?_ GE418.out | refine below_set ?_ GE419.out | refine below_set ?_ GE423.out | refine below_set ?_ GE433.out) | exact HB.out)) : p := h
def spec_Feed.l0 : Nat → List (S40) → ByteArray → ByteArray → Bool → Option (ByteArray × Bool × (List (S40)))
 | 0, _, _, _, _ => none
 | k + 1, x6, x8, x424000, x424001 => (spec_l5Head.f k x8).bind fun t424 => (if t424 < 0 then (if (x8.size : Int) > 1200 then (some (x424000, x424001, x6)) else (some (x8, false, x6))) else (if 0 ≤ t424 then (if t424 ≤ (x8.size : Int) then ((spec_l5Length.f k (x8.extract 0 (t424 : Int).toNat)).bind fun t425 => (if t425 > 120 then (some (x424000, x424001, x6)) else (if (wrap64 (t424 + t425)) > (x8.size : Int) then (if (x8.size : Int) > 1200 then (some (x424000, x424001, x6)) else (some (x8, false, x6))) else (if 0 ≤ (wrap64 (t424 + t425)) then (if (wrap64 (t424 + t425)) ≤ (x8.size : Int) then ((spec_ReqRead.f k (x8.extract 0 ((wrap64 (t424 + t425)) : Int).toNat)).bind fun bt426 => (if bt426.2.2.2.2 = true then (if x6.length < 2199023255552 then (spec_Feed.l0 k (x6 ++ [(⟨bt426.1, bt426.2.1, bt426.2.2.1, bt426.2.2.2.1⟩ : S40)]) (x8.extract ((wrap64 (t424 + t425)) : Int).toNat x8.size) x424000 x424001) else (none)) else (some (x424000, x424001, x6)))) else (none)) else (none))))) else (none)) else (none)))
def spec_Feed.f (k : Nat) (a0_0 : ByteArray) (a0_1 : Bool) (a1 : ByteArray) : Option (ByteArray × Bool × (List (S40))) := (some (([] : List (S40)) : List (S40))).bind fun y420 => (if a0_1 = true then (some ((⟨#[]⟩ : ByteArray), true, y420)) else (if a0_0.size + a1.size ≤ 9223372036854775807 then (spec_Feed.l0 k y420 (a0_0 ++ a1) (⟨#[]⟩ : ByteArray) true) else (none)))
set_option maxHeartbeats 8000000 in
set_option maxRecDepth 100000 in
theorem spec_Feed.calls (k : Nat) (a0_0 : ByteArray) (a0_1 : Bool) (a1 : ByteArray) (r1 : ByteArray) (r2 : Bool) (r3 : List (S40)) (w : World) (h : spec_Feed.f k a0_0 a0_1 a1 = some (r1, r2, r3)) :
  Calls Tryz.prog 10 #[.agg #[.string a0_0, .bool a0_1], .string a1] w fun e w' => ∃ v2_ : Value, e = .returned (.tuple #[.agg #[.string r1, .bool r2], v2_]) ∧ Kd.S k40 40 w' w.heap.size (fun _ => True) v2_ r3 ∧ Below w.heap.size w w' := by
 have hu25 := Tryz.underlying25
 have hu40 := Tryz.underlying40
 have HB := am (Below.refl w.heap.size w)
 unfold spec_Feed.f at h
 have H := h
 clear h
 obtain ⟨y420, hy420⟩ : ∃ y_ : List (S40), y_ = (([] : List (S40))) := ⟨_, rfl⟩
 replace H : (if a0_1 = true then (some ((⟨#[]⟩ : ByteArray), true, y420)) else (if a0_0.size + a1.size ≤ 9223372036854775807 then (spec_Feed.l0 k y420 (a0_0 ++ a1) (⟨#[]⟩ : ByteArray) true) else (none))) = some (r1, r2, r3) := by first | (rw [hy420]; with_reducible exact H) | (have H2_ := (Option.bind_some _ _).symm.trans H; rw [hy420]; with_reducible exact H2_) | (have H2_ := (Option.bind_some _ _).symm.trans H; with_reducible exact H2_) | with_reducible exact H | (rw [hy420]; exact H) | exact H
 have Ny420 := am hy420
 clear hy420
 have HH3 := am H
 clear H
 go_enter Tryz.func10, Tryz.ntmps10
 go_upto_if 16 with (first | ((with_reducible refine gw ?_); refine bx 2 #[.string a0_0, .bool a0_1] 25 ?_; intro gb418 hg w4 hbox hb; have BK418 := am (hbox); have GW418 := am (sz hg : w.heap.size ≤ gb418); have GE418 := am (sz hg : w.heap.size ≤ gb418); replace HB := am (below_step bl hb); clear hb hbox hg) | ((with_reducible refine gw ?_); refine bx 4 #[.string (⟨#[]⟩ : ByteArray), .bool false] 25 ?_; intro gb419 hg w5 hbox hb; have BK419 := am (hbox); have GW419 := am (sz hg : w.heap.size ≤ gb419); have GE419 := am (sz hg : w.heap.size ≤ gb419); replace HB := am (below_step bl hb); have NB418_419 := am (nl hg BK418 : gb418 ≠ gb419); have NB419_418 := am (ng hg BK418 : gb419 ≠ gb418); replace BK418 := kb BK418 hb; clear hb hbox hg) | ((with_reducible refine gate_dst (N := 13) rfl ?_); refine Kd.S_lit k40 _ 40 ?hg (N := 13) ?hd (xs := ([] : List (S40))) (inner := []) (ok := fun _ => True) (okp := fun _ => True) ?hr ?hp (fun _ hk => hk) trivial (Below.refl _ _) (Nat.le_refl _) (by simp) ?_; (case hd => rfl); (case hg => rfl); (case hr => first | (go_simp; done) | (go_simp; rfl)); (case hp => exact (Reps.none _ _)); intro v421 w6 ho7 hb hg_ hnew_; clear hg_ hnew_; (first | rw [← Ny420.out] at ho7 | (simp only [Int.reduceToNat] at ho7; rw [← Ny420.out] at ho7)); have HO422 := am (Kd.S_lower ho7 (below_size bl)); replace BK418 := kb BK418 hb; replace BK419 := kb BK419 hb; replace HB := am (below_step bl hb); clear hb ho7) | ((with_reducible refine gw ?_); refine bx 7 #[.string (⟨#[]⟩ : ByteArray), .bool false] 25 ?_; intro gb423 hg w8 hbox hb; have n0_ := am (Kd.S_below (by (with_reducible repeat (first | apply Kd.S_alloc | apply Kd.S_drewN | apply Kd.S_drew)); exact HO422.out) hb); have n1_ := kb BK418 hb; have n2_ := kb BK419 hb; have n3_ := am (below_step bl hb); have n4_ := am (hbox); have n5_ := am (sz hg : w.heap.size ≤ gb423); have n6_ := am (sz hg : w.heap.size ≤ gb423); have n7_ := am (nl hg BK418 : gb418 ≠ gb423); have n8_ := am (ng hg BK418 : gb423 ≠ gb418); have n9_ := am (nl hg BK419 : gb419 ≠ gb423); have n10_ := am (ng hg BK419 : gb423 ≠ gb419); clear HO422; clear BK418; clear BK419; clear HB; have HO422 := n0_; have BK418 := n1_; have BK419 := n2_; have HB := n3_; have BK423 := n4_; have GW423 := n5_; have GE423 := n6_; have NB418_423 := n7_; have NB423_418 := n8_; have NB419_423 := n9_; have NB423_419 := n10_; clear n0_ n1_ n2_ n3_ n4_ n5_ n6_ n7_ n8_ n9_ n10_; clear hb hbox hg; have hnb9 := NB423_418.out; have hnc9 := NB418_423.out; have hnb10 := NB423_419.out; have hnc10 := NB419_423.out; obtain ⟨z11_0, y11_0, z11_1, y11_1⟩ := cl2 BK423; have hnb12 := NB418_419.out; have hnc12 := NB419_418.out; obtain ⟨z13_0, y13_0, z13_1, y13_1⟩ := cl2 BK418))
 have H := HH3.out
 clear HH3
 by_cases c14 : a0_1 = true
 ·subst c14
  rw [if_pos rfl] at H
  simp only [Option.some.injEq, Prod.mk.injEq] at H
  obtain ⟨rfl, rfl, rfl⟩ := H
  have hnb15 := NB423_418.out
  have hnc15 := NB418_423.out
  have hnb16 := NB423_419.out
  have hnc16 := NB419_423.out
  obtain ⟨z17_0, y17_0, z17_1, y17_1⟩ := cl2 BK423
  have hnb18 := NB419_418.out
  have hnc18 := NB418_419.out
  obtain ⟨z19_0, y19_0, z19_1, y19_1⟩ := cl2 BK419
  go_wp2
  refine bodyPost_ret (results_ct rfl _ _ gb419 25 #[.string (⟨#[]⟩ : ByteArray), .bool true] (0, 0) _ rfl (pt1 BK419 NB419_423) Tryz.underlying25 rfl (by kernel_rfl)) rfl ?_
  exact ⟨_, rf, by (with_reducible repeat (first | apply Kd.S_alloc | apply Kd.S_drewN | apply Kd.S_drew)); exact Kd.S_mono (Kd.S_far (p := ⟨gb419, 1, none⟩) (Kd.S_far (p := ⟨gb419, 0, none⟩) (Kd.S_far (p := ⟨gb423, 1, none⟩) (Kd.S_far (p := ⟨gb423, 0, none⟩) (Kd.S_types (Kd.S_types HO422.out BK423.out (by decide)) BK419.out (by decide)) (fun _ hk => hk.1.2) (.string (⟨#[]⟩ : ByteArray))) (fun _ hk => hk.1.2) (.bool true)) (fun _ hk => hk.2) (.string (⟨#[]⟩ : ByteArray))) (fun _ hk => hk.2) (.bool true)) (fun _ hk => trivial), bl⟩
 replace c14 := Bool.eq_false_iff.mpr c14
 subst c14
 rw [if_neg (show ¬ (false = true) by decide)] at H
 revert H
 refine ifn fun c20 H => ?_
 have c20b0 := eq_true c20
 have c20b1 := decide_eq_true c20
 try have c20b2 := eq_false (Nat.not_lt.2 c20)
 have H' := am H
 clear H
 have hnb21 := NB418_419.out
 have hnc21 := NB419_418.out
 have hnb22 := NB418_423.out
 have hnc22 := NB423_418.out
 obtain ⟨z23_0, y23_0, z23_1, y23_1⟩ := cl2 BK418
 go_wp2
 (try simp only [Act.put, List.setIfInBounds_toArray, List.set_cons_zero, List.set_cons_succ])
 go_loopg [6, 8] k (fun kq v6 v8 w' => ∃ (x6_1 : List (S40)) (x8_1 : ByteArray) (x420000_1 : ByteArray) (x420001_1 : Bool), v8 = .string x8_1 ∧ Aside0 (spec_Feed.l0 kq x6_1 x8_1 (⟨#[]⟩ : ByteArray) true = some (r1, r2, r3)) ∧ Aside0 (kq ≤ k) ∧ Aside0 (Kd.S k40 40 w' w.heap.size (fun _ => True) v6 x6_1) ∧ Aside0 (w'.heap[gb418]? = some (.cells #[.string a0_0, .bool false] 25 (0, 0))) ∧ Aside0 (w'.heap[gb419]? = some (.cells #[.string x420000_1, .bool x420001_1] 25 (0, 0))) ∧ Aside0 (w'.heap[gb423]? = some (.cells #[.string (⟨#[]⟩ : ByteArray), .bool true] 25 (0, 0))) ∧ Aside0 (Below w.heap.size w w'))
 case atStart => exact ⟨(y420), (a0_0 ++ a1), ((⟨#[]⟩ : ByteArray)), (false), rs, H', ⟨Nat.le_refl _⟩, ⟨by (with_reducible repeat (first | apply Kd.S_alloc | apply Kd.S_drewN | apply Kd.S_drew)); exact Kd.S_mono (Kd.S_far (p := ⟨gb423, 1, none⟩) (Kd.S_far (p := ⟨gb423, 0, none⟩) (Kd.S_types HO422.out BK423.out (by decide)) (fun _ hk => hk.2) (.string (⟨#[]⟩ : ByteArray))) (fun _ hk => hk.2) (.bool true)) (fun _ hk => trivial)⟩, ⟨by (with_reducible repeat (first | refine blk_drewN ?_ _ | refine blk_drew ?_ | refine blk_alloc ?_ _)); refine blk_far ?_ NB418_423.out _; (with_reducible repeat (first | refine blk_drewN ?_ _ | refine blk_drew ?_ | refine blk_alloc ?_ _)); refine blk_far ?_ NB418_423.out _; (with_reducible repeat (first | refine blk_drewN ?_ _ | refine blk_drew ?_ | refine blk_alloc ?_ _)); exact BK418.out⟩, ⟨by (with_reducible repeat (first | refine blk_drewN ?_ _ | refine blk_drew ?_ | refine blk_alloc ?_ _)); refine blk_far ?_ NB419_423.out _; (with_reducible repeat (first | refine blk_drewN ?_ _ | refine blk_drew ?_ | refine blk_alloc ?_ _)); refine blk_far ?_ NB419_423.out _; (with_reducible repeat (first | refine blk_drewN ?_ _ | refine blk_drew ?_ | refine blk_alloc ?_ _)); exact BK419.out⟩, ⟨pt0 BK423⟩, ⟨u10HB⟩⟩
 case round =>
  clear H'
  try clear c1
  try clear c2
  try clear p2
  try clear c9
  try clear c10
  try clear c12
  try clear c14
  try clear c15
  try clear c16
  try clear c18
  try clear c20
  try clear c20b0
  try clear c20b1
  try clear c20b2
  try clear c21
  try clear c22
  try clear z11_0
  try clear z11_1
  try clear z13_0
  try clear z13_1
  try clear z17_0
  try clear z17_1
  try clear z19_0
  try clear z19_1
  try clear z23_0
  try clear z23_1
  try clear y11_0
  try clear y11_1
  try clear y13_0
  try clear y13_1
  try clear y17_0
  try clear y17_1
  try clear y19_0
  try clear y19_1
  try clear y23_0
  try clear y23_1
  obtain ⟨x6_1, x8_1, x420000_1, x420001_1, rfl, HA, HK1, HO_6, BK418, BK419, BK423, HB⟩ := hrel
  cases gk with
  | zero => exact absurd HA.out (by simp [spec_Feed.l0])
  | succ k1 =>
   have H := HA.out
   clear HA
   simp only [spec_Feed.l0] at H
   revert H
   refine ok1 fun t424 A24 H => ?_
   have HH25 := am H
   clear H
   go_upto_if 26 with ((with_reducible refine gw ?_); first | (refine gl 24 Tryz.func36 #[.string x8_1] ?_; (with_reducible refine (spec_l5Head.calls k1 x8_1 t424 _ A24.out).mono ?_); rintro e w' ⟨rfl, ⟨nd, rfl⟩⟩; refine ⟨_, rfl, ?_⟩))
   have H := HH25.out
   clear HH25
   by_cases c26 : t424 < 0
   ·rw [if_pos c26] at H
    have c26b0 := decide_eq_true c26
    clear c26
    (first | rw [c26b0] | (simp only [i64_w, i32_w]; rw [c26b0]) | skip)
    by_cases c27 : (x8_1.size : Int) > 1200
    rotate_left
    ·rw [if_neg c27] at H
     have c27b0 := decide_eq_false c27
     have c27b1 : decide (1200 < x8_1.size) = false := decide_eq_false (by omega)
     clear c27
     simp only [Option.some.injEq, Prod.mk.injEq] at H
     obtain ⟨rfl, rfl, rfl⟩ := H
     have hnb33 := NB419_418.out
     have hnc33 := NB418_419.out
     have hnb34 := NB419_423.out
     have hnc34 := NB423_419.out
     obtain ⟨z35_0, y35_0, z35_1, y35_1⟩ := cl2 BK419
     go_wp2
     refine bodyPost_ret (results_ct rfl _ _ gb419 25 #[.string x8_1, .bool false] (0, 0) _ rfl (pt0 BK419) Tryz.underlying25 rfl (by kernel_rfl)) rfl ?_
     exact ⟨_, rf, by (with_reducible repeat (first | apply Kd.S_alloc | apply Kd.S_drewN | apply Kd.S_drew)); exact Kd.S_mono (Kd.S_far (p := ⟨gb419, 1, none⟩) (Kd.S_far (p := ⟨gb419, 0, none⟩) (Kd.S_types HO_6.out BK419.out (by decide)) (fun _ hk => hk.2) (.string x8_1)) (fun _ hk => hk.2) (.bool false)) (fun _ hk => trivial), bl⟩
    rw [if_pos c27] at H
    have c27b0 := decide_eq_true c27
    have c27b1 : decide (1200 < x8_1.size) = true := decide_eq_true (by omega)
    clear c27
    simp only [Option.some.injEq, Prod.mk.injEq] at H
    obtain ⟨rfl, rfl, rfl⟩ := H
    have hnb28 := NB423_418.out
    have hnc28 := NB418_423.out
    have hnb29 := NB423_419.out
    have hnc29 := NB419_423.out
    obtain ⟨z30_0, y30_0, z30_1, y30_1⟩ := cl2 BK423
    have hnb31 := NB419_418.out
    have hnc31 := NB418_419.out
    obtain ⟨z32_0, y32_0, z32_1, y32_1⟩ := cl2 BK419
    go_wp2
    refine bodyPost_ret (results_ct rfl _ _ gb419 25 #[.string (⟨#[]⟩ : ByteArray), .bool true] (0, 0) _ rfl (pt0 BK419) Tryz.underlying25 rfl (by kernel_rfl)) rfl ?_
    exact ⟨_, rf, by (with_reducible repeat (first | apply Kd.S_alloc | apply Kd.S_drewN | apply Kd.S_drew)); exact Kd.S_mono (Kd.S_far (p := ⟨gb419, 1, none⟩) (Kd.S_far (p := ⟨gb419, 0, none⟩) (Kd.S_types HO_6.out BK419.out (by decide)) (fun _ hk => hk.2) (.string (⟨#[]⟩ : ByteArray))) (fun _ hk => hk.2) (.bool true)) (fun _ hk => trivial), bl⟩
   rw [if_neg c26] at H
   have c26b0 := decide_eq_false c26
   clear c26
   (first | rw [c26b0] | (simp only [i64_w, i32_w]; rw [c26b0]) | skip)
   revert H
   refine ifn fun c36 H => ?_
   have c36b0 := eq_true c36
   have c36b1 := decide_eq_true c36
   clear c36
   revert H
   refine ifn fun c37 H => ?_
   have c37b0 := eq_true c37
   have c37b1 := decide_eq_true c37
   clear c37
   revert H
   refine ok1 fun t425 A38 H => ?_
   have HH39 := am H
   clear H
   go_upto_if 32 with ((with_reducible refine gw ?_); first | (refine gl 30 Tryz.func37 #[.string (x8_1.extract 0 (t424 : Int).toNat)] ?_; (with_reducible refine (spec_l5Length.calls k1 (x8_1.extract 0 (t424 : Int).toNat) t425 _ A38.out).mono ?_); rintro e w40 ⟨rfl, hb⟩; refine ⟨_, rfl, ?_⟩; have n0_ := am (Kd.S_below (by (with_reducible repeat (first | apply Kd.S_alloc | apply Kd.S_drewN | apply Kd.S_drew)); exact HO_6.out) hb); have n1_ := kb BK418 hb; have n2_ := kb BK419 hb; have n3_ := kb BK423 hb; have n4_ := am (below_step bl hb); clear HO_6; clear BK418; clear BK419; clear BK423; clear HB; have HO_6 := n0_; have BK418 := n1_; have BK419 := n2_; have BK423 := n3_; have HB := n4_; clear n0_ n1_ n2_ n3_ n4_; clear hb))
   have H := HH39.out
   clear HH39
   by_cases c41 : t425 > 120
   ·rw [if_pos c41] at H
    have c41b0 := decide_eq_true c41
    clear c41
    (first | rw [c41b0] | (simp only [i64_w, i32_w]; rw [c41b0]) | skip)
    simp only [Option.some.injEq, Prod.mk.injEq] at H
    obtain ⟨rfl, rfl, rfl⟩ := H
    have hnb42 := NB423_418.out
    have hnc42 := NB418_423.out
    have hnb43 := NB423_419.out
    have hnc43 := NB419_423.out
    obtain ⟨z44_0, y44_0, z44_1, y44_1⟩ := cl2 BK423
    have hnb45 := NB419_418.out
    have hnc45 := NB418_419.out
    obtain ⟨z46_0, y46_0, z46_1, y46_1⟩ := cl2 BK419
    go_wp2
    refine bodyPost_ret (results_ct rfl _ _ gb419 25 #[.string (⟨#[]⟩ : ByteArray), .bool true] (0, 0) _ rfl (pt0 BK419) Tryz.underlying25 rfl (by kernel_rfl)) rfl ?_
    exact ⟨_, rf, by (with_reducible repeat (first | apply Kd.S_alloc | apply Kd.S_drewN | apply Kd.S_drew)); exact Kd.S_mono (Kd.S_far (p := ⟨gb419, 1, none⟩) (Kd.S_far (p := ⟨gb419, 0, none⟩) (Kd.S_types HO_6.out BK419.out (by decide)) (fun _ hk => hk.2) (.string (⟨#[]⟩ : ByteArray))) (fun _ hk => hk.2) (.bool true)) (fun _ hk => trivial), bl⟩
   rw [if_neg c41] at H
   have c41b0 := decide_eq_false c41
   clear c41
   (first | rw [c41b0] | (simp only [i64_w, i32_w]; rw [c41b0]) | skip)
   by_cases c47 : (wrap64 (t424 + t425)) > (x8_1.size : Int)
   ·rw [if_pos c47] at H
    have c47b0 := decide_eq_true c47
    clear c47
    by_cases c48 : (x8_1.size : Int) > 1200
    rotate_left
    ·rw [if_neg c48] at H
     have c48b0 := decide_eq_false c48
     have c48b1 : decide (1200 < x8_1.size) = false := decide_eq_false (by omega)
     clear c48
     simp only [Option.some.injEq, Prod.mk.injEq] at H
     obtain ⟨rfl, rfl, rfl⟩ := H
     have hnb54 := NB419_418.out
     have hnc54 := NB418_419.out
     have hnb55 := NB419_423.out
     have hnc55 := NB423_419.out
     obtain ⟨z56_0, y56_0, z56_1, y56_1⟩ := cl2 BK419
     go_wp2
     refine bodyPost_ret (results_ct rfl _ _ gb419 25 #[.string x8_1, .bool false] (0, 0) _ rfl (pt0 BK419) Tryz.underlying25 rfl (by kernel_rfl)) rfl ?_
     exact ⟨_, rf, by (with_reducible repeat (first | apply Kd.S_alloc | apply Kd.S_drewN | apply Kd.S_drew)); exact Kd.S_mono (Kd.S_far (p := ⟨gb419, 1, none⟩) (Kd.S_far (p := ⟨gb419, 0, none⟩) (Kd.S_types HO_6.out BK419.out (by decide)) (fun _ hk => hk.2) (.string x8_1)) (fun _ hk => hk.2) (.bool false)) (fun _ hk => trivial), bl⟩
    rw [if_pos c48] at H
    have c48b0 := decide_eq_true c48
    have c48b1 : decide (1200 < x8_1.size) = true := decide_eq_true (by omega)
    clear c48
    simp only [Option.some.injEq, Prod.mk.injEq] at H
    obtain ⟨rfl, rfl, rfl⟩ := H
    have hnb49 := NB423_418.out
    have hnc49 := NB418_423.out
    have hnb50 := NB423_419.out
    have hnc50 := NB419_423.out
    obtain ⟨z51_0, y51_0, z51_1, y51_1⟩ := cl2 BK423
    have hnb52 := NB419_418.out
    have hnc52 := NB418_419.out
    obtain ⟨z53_0, y53_0, z53_1, y53_1⟩ := cl2 BK419
    go_wp2
    refine bodyPost_ret (results_ct rfl _ _ gb419 25 #[.string (⟨#[]⟩ : ByteArray), .bool true] (0, 0) _ rfl (pt0 BK419) Tryz.underlying25 rfl (by kernel_rfl)) rfl ?_
    exact ⟨_, rf, by (with_reducible repeat (first | apply Kd.S_alloc | apply Kd.S_drewN | apply Kd.S_drew)); exact Kd.S_mono (Kd.S_far (p := ⟨gb419, 1, none⟩) (Kd.S_far (p := ⟨gb419, 0, none⟩) (Kd.S_types HO_6.out BK419.out (by decide)) (fun _ hk => hk.2) (.string (⟨#[]⟩ : ByteArray))) (fun _ hk => hk.2) (.bool true)) (fun _ hk => trivial), bl⟩
   rw [if_neg c47] at H
   have c47b0 := decide_eq_false c47
   clear c47
   obtain ⟨ji57, hji57⟩ : ∃ j_ : Int, (wrap64 (t424 + t425)) = j_ := ⟨_, rfl⟩
   replace H : (if 0 ≤ (ji57) then (if (ji57) ≤ (x8_1.size : Int) then ((spec_ReqRead.f k1 (x8_1.extract 0 ((ji57) : Int).toNat)).bind fun bt426 => (if bt426.2.2.2.2 = true then (if x6_1.length < 2199023255552 then (spec_Feed.l0 k1 (x6_1 ++ [(⟨bt426.1, bt426.2.1, bt426.2.2.1, bt426.2.2.2.1⟩ : S40)]) (x8_1.extract ((ji57) : Int).toNat x8_1.size) (⟨#[]⟩ : ByteArray) true) else (none)) else (some ((⟨#[]⟩ : ByteArray), true, x6_1)))) else (none)) else (none)) = some (r1, r2, r3) := by first | (rw [hji57] at H; exact H) | (simp only [hji57] at H ⊢; exact H)
   (try rw [hji57] at c47b0)
   have hji57w : (IntKind.i64.wrap (t424 + t425)) = ji57 := (i64_w _).trans hji57
   revert H
   refine ifn fun c58 H => ?_
   have c58b0 := eq_true c58
   have c58b1 := decide_eq_true c58
   clear c58
   revert H
   refine ifn fun c59 H => ?_
   have c59b0 := eq_true c59
   have c59b1 := decide_eq_true c59
   clear c59
   revert H
   refine ok5 fun t426 t427 t428 t431 t432 A60 H => ?_
   (try dsimp only at H)
   by_cases c61 : t432 = true
   rotate_left
   ·replace c61 := Bool.eq_false_iff.mpr c61
    subst c61
    rw [if_neg (show ¬ (false = true) by decide)] at H
    simp only [Option.some.injEq, Prod.mk.injEq] at H
    obtain ⟨rfl, rfl, rfl⟩ := H
    go_wp2_with ((with_reducible refine gw ?_); first | (refine gl 47 Tryz.func38 #[.string (x8_1.extract 0 ((ji57) : Int).toNat)] ?_ (hargs := (by (try simp only [List.map_toArray, List.map_cons, List.map_nil]); first | done | (simp only [hji57]; rfl) | rfl | (simp only [List.length_drop, List.length_take]; rfl))); (with_reducible refine (spec_ReqRead.calls k1 (x8_1.extract 0 ((ji57) : Int).toNat) t426 t427 t428 t431 false _ A60.out).mono ?_); rintro e w75 ⟨v429, rfl, ho0, hb⟩; refine ⟨_, rfl, ?_⟩; have n0_ := am (Kd.S_elder' (by (with_reducible repeat (first | apply Kd.S_alloc | apply Kd.S_drewN | apply Kd.S_drew)); exact HO_6.out) (Kd.R_base ho0) hb); have n1_ := am (Kd.R_lower ho0 (below_size bl)); have n2_ := kb BK418 hb; have n3_ := kb BK419 hb; have n4_ := kb BK423 hb; have n5_ := am (below_step bl hb); clear HO_6; clear BK418; clear BK419; clear BK423; clear HB; have HO_6 := n0_; have HO430 := n1_; have BK418 := n2_; have BK419 := n3_; have BK423 := n4_; have HB := n5_; clear n0_ n1_ n2_ n3_ n4_ n5_; clear hb ho0) | (refine bx 11 #[.int .i64 0, .string (⟨#[]⟩ : ByteArray), .slice none 0 0, .string (⟨#[]⟩ : ByteArray)] 40 ?_; intro gb433 hg w76 hbox hb; have n0_ := am (Kd.S_below (Kd.S_elderB (by (with_reducible repeat (first | apply Kd.S_alloc | apply Kd.S_drewN | apply Kd.S_drew)); exact HO_6.out) gb433 (Nat.le_of_eq hg.symm)) hb); have n1_ := am (Kd.R_below (ro HO430) hb); have n2_ := kb BK418 hb; have n3_ := kb BK419 hb; have n4_ := kb BK423 hb; have n5_ := am (below_step bl hb); have n6_ := am (hbox); have n7_ := am (sz hg : w.heap.size ≤ gb433); have n8_ := am (sz hg : w.heap.size ≤ gb433); have n9_ := am (nl hg BK418 : gb418 ≠ gb433); have n10_ := am (ng hg BK418 : gb433 ≠ gb418); have n11_ := am (nl hg BK419 : gb419 ≠ gb433); have n12_ := am (ng hg BK419 : gb433 ≠ gb419); have n13_ := am (nl hg BK423 : gb423 ≠ gb433); have n14_ := am (ng hg BK423 : gb433 ≠ gb423); clear HO_6; clear HO430; clear BK418; clear BK419; clear BK423; clear HB; have HO_6 := n0_; have HO430 := n1_; have BK418 := n2_; have BK419 := n3_; have BK423 := n4_; have HB := n5_; have BK433 := n6_; have GW433 := n7_; have GE433 := n8_; have NB418_433 := n9_; have NB433_418 := n10_; have NB419_433 := n11_; have NB433_419 := n12_; have NB423_433 := n13_; have NB433_423 := n14_; clear n0_ n1_ n2_ n3_ n4_ n5_ n6_ n7_ n8_ n9_ n10_ n11_ n12_ n13_ n14_; clear hb hbox hg; have hnb77 := NB433_418.out; have hnc77 := NB418_433.out; have hnb78 := NB433_419.out; have hnc78 := NB419_433.out; have hnb79 := NB433_423.out; have hnc79 := NB423_433.out; obtain ⟨z80_0, y80_0, z80_1, y80_1, z80_2, y80_2, z80_3, y80_3⟩ := cl4 BK433; obtain ⟨Ao81, co81, eo81⟩ := Kd.R_slice HO430.out; subst eo81; have hnb82 := NB423_418.out; have hnc82 := NB418_423.out; have hnb83 := NB423_419.out; have hnc83 := NB419_423.out; obtain ⟨z84_0, y84_0, z84_1, y84_1⟩ := cl2 BK423; have hnb85 := NB419_418.out; have hnc85 := NB418_419.out; obtain ⟨z86_0, y86_0, z86_1, y86_1⟩ := cl2 BK419))
    refine bodyPost_ret (results_ct rfl _ _ gb419 25 #[.string (⟨#[]⟩ : ByteArray), .bool true] (0, 0) _ rfl (pt1 BK419 NB419_433) Tryz.underlying25 rfl (by kernel_rfl)) rfl ?_
    exact ⟨_, by first | rfl | (simp [errW_none, errW_some] <;> rfl) | (simp only [← hji57]; first | rfl | (simp [errW_none, errW_some] <;> rfl)) | (simp [*, errW_none, errW_some] <;> rfl), by (with_reducible repeat (first | apply Kd.S_alloc | apply Kd.S_drewN | apply Kd.S_drew)); exact Kd.S_mono (Kd.S_far (p := ⟨gb419, 1, none⟩) (Kd.S_far (p := ⟨gb419, 0, none⟩) (Kd.S_far (p := ⟨gb433, 3, none⟩) (Kd.S_far (p := ⟨gb433, 2, none⟩) (Kd.S_far (p := ⟨gb433, 1, none⟩) (Kd.S_far (p := ⟨gb433, 0, none⟩) (Kd.S_types (Kd.S_mono HO_6.out (fun k_ hk => (⟨hk, hk.2⟩ : _ ∧ k_ ≠ gb433))) BK419.out (by decide)) (fun _ hk => hk.1.2) (.int .i64 t426)) (fun _ hk => hk.1.2) (.string t427)) (fun _ hk => hk.1.2) (.slice Ao81 t428.length co81)) (fun _ hk => hk.1.2) (.string t431)) (fun _ hk => hk.2) (.string (⟨#[]⟩ : ByteArray))) (fun _ hk => hk.2) (.bool true)) (fun _ hk => trivial), bl⟩
   subst c61
   rw [if_pos rfl] at H
   revert H
   refine ifn fun c62 H => ?_
   have LMc62 := am c62
   clear c62
   obtain ⟨y434, hy434⟩ : ∃ y_ : List (S40), y_ = (x6_1 ++ [(⟨t426, t427, t428, t431⟩ : S40)]) := ⟨_, rfl⟩
   replace H : (spec_Feed.l0 k1 y434 (x8_1.extract ((ji57) : Int).toNat x8_1.size) (⟨#[]⟩ : ByteArray) true) = some (r1, r2, r3) := by first | (rw [hy434]; with_reducible exact H) | (have H2_ := (Option.bind_some _ _).symm.trans H; rw [hy434]; with_reducible exact H2_) | (have H2_ := (Option.bind_some _ _).symm.trans H; with_reducible exact H2_) | with_reducible exact H | (rw [hy434]; exact H) | exact H
   have Ny434 := am hy434
   clear hy434
   have c63b0 := eq_true (od : 0 ≤ (ji57))
   have c64b0 := eq_true (od : (ji57) ≤ (x8_1.size : Int))
   have H' := am H
   clear H
   go_wp2_with (first | ((with_reducible refine gw ?_); first | (refine gl 47 Tryz.func38 #[.string (x8_1.extract 0 ((ji57) : Int).toNat)] ?_ (hargs := (by (try simp only [List.map_toArray, List.map_cons, List.map_nil]); first | done | (simp only [hji57]; rfl) | rfl | (simp only [List.length_drop, List.length_take]; rfl))); (with_reducible refine (spec_ReqRead.calls k1 (x8_1.extract 0 ((ji57) : Int).toNat) t426 t427 t428 t431 true _ A60.out).mono ?_); rintro e w65 ⟨v429, rfl, ho0, hb⟩; refine ⟨_, rfl, ?_⟩; have n0_ := am (Kd.S_elder' (by (with_reducible repeat (first | apply Kd.S_alloc | apply Kd.S_drewN | apply Kd.S_drew)); exact HO_6.out) (Kd.R_base ho0) hb); have n1_ := am (Kd.R_lower ho0 (below_size bl)); have n2_ := kb BK418 hb; have n3_ := kb BK419 hb; have n4_ := kb BK423 hb; have n5_ := am (below_step bl hb); clear HO_6; clear BK418; clear BK419; clear BK423; clear HB; have HO_6 := n0_; have HO430 := n1_; have BK418 := n2_; have BK419 := n3_; have BK423 := n4_; have HB := n5_; clear n0_ n1_ n2_ n3_ n4_ n5_; clear hb ho0) | (refine bx 11 #[.int .i64 0, .string (⟨#[]⟩ : ByteArray), .slice none 0 0, .string (⟨#[]⟩ : ByteArray)] 40 ?_; intro gb433 hg w66 hbox hb; have n0_ := am (Kd.S_below (Kd.S_elderB (by (with_reducible repeat (first | apply Kd.S_alloc | apply Kd.S_drewN | apply Kd.S_drew)); exact HO_6.out) gb433 (Nat.le_of_eq hg.symm)) hb); have n1_ := am (Kd.R_below (ro HO430) hb); have n2_ := kb BK418 hb; have n3_ := kb BK419 hb; have n4_ := kb BK423 hb; have n5_ := am (below_step bl hb); have n6_ := am (hbox); have n7_ := am (sz hg : w.heap.size ≤ gb433); have n8_ := am (sz hg : w.heap.size ≤ gb433); have n9_ := am (nl hg BK418 : gb418 ≠ gb433); have n10_ := am (ng hg BK418 : gb433 ≠ gb418); have n11_ := am (nl hg BK419 : gb419 ≠ gb433); have n12_ := am (ng hg BK419 : gb433 ≠ gb419); have n13_ := am (nl hg BK423 : gb423 ≠ gb433); have n14_ := am (ng hg BK423 : gb433 ≠ gb423); clear HO_6; clear HO430; clear BK418; clear BK419; clear BK423; clear HB; have HO_6 := n0_; have HO430 := n1_; have BK418 := n2_; have BK419 := n3_; have BK423 := n4_; have HB := n5_; have BK433 := n6_; have GW433 := n7_; have GE433 := n8_; have NB418_433 := n9_; have NB433_418 := n10_; have NB419_433 := n11_; have NB433_419 := n12_; have NB423_433 := n13_; have NB433_423 := n14_; clear n0_ n1_ n2_ n3_ n4_ n5_ n6_ n7_ n8_ n9_ n10_ n11_ n12_ n13_ n14_; clear hb hbox hg; have hnb67 := NB433_418.out; have hnc67 := NB418_433.out; have hnb68 := NB433_419.out; have hnc68 := NB419_433.out; have hnb69 := NB433_423.out; have hnc69 := NB423_433.out; obtain ⟨z70_0, y70_0, z70_1, y70_1, z70_2, y70_2, z70_3, y70_3⟩ := cl4 BK433; obtain ⟨Ao71, co71, eo71⟩ := Kd.R_slice HO430.out; subst eo71)) | ((with_reducible refine gate_store (t := 40) (p := 11) rfl ?_); refine store_event (t := 40) (p := 11) (v := ?vo_w72) (w1 := ((((w66.setCell ⟨gb433, 0, none⟩ (.int .i64 t426)).setCell ⟨gb433, 1, none⟩ (.string t427)).setCell ⟨gb433, 2, none⟩ (.slice Ao71 t428.length co71)).setCell ⟨gb433, 3, none⟩ (.string t431))) ?hg ?ho ?hn ?hr ?_; (case ho => rfl); (case hg => rfl); (case hn => rfl); (case hr => first | (go_simp; done) | (go_simp; rfl)); intro w72 hw; have n0_ : Aside0 (Kd.S k40 40 w72 w.heap.size (fun k_ => some k_ ≠ (.slice Ao71 t428.length co71 : Value).ownBlock ∧ k_ ≠ gb433) u6 x6_1) := ⟨(by rw [hw]; exact (by (with_reducible repeat (first | apply Kd.S_alloc | apply Kd.S_drewN | apply Kd.S_drew)); exact Kd.S_mono (Kd.S_far (p := ⟨gb433, 3, none⟩) (Kd.S_far (p := ⟨gb433, 2, none⟩) (Kd.S_far (p := ⟨gb433, 1, none⟩) (Kd.S_far (p := ⟨gb433, 0, none⟩) (Kd.S_mono HO_6.out (fun k_ hk => (⟨hk, hk.2⟩ : _ ∧ k_ ≠ gb433))) (fun _ hk => hk.2) (.int .i64 t426)) (fun _ hk => hk.2) (.string t427)) (fun _ hk => hk.2) (.slice Ao71 t428.length co71)) (fun _ hk => hk.2) (.string t431)) (fun _ hk => ⟨hk.1.1.2, hk.1.2⟩)))⟩; have n1_ : Aside0 (Kd.R k81 81 w72 w.heap.size (fun _ => True) (.slice Ao71 t428.length co71) t428) := ⟨(by rw [hw]; exact (rj (Kd.R_types HO430.out BK433.out (by decide)) (fun _ hk => trivial)))⟩; have n2_ : Aside0 (w72.heap[gb418]? = some (.cells #[.string a0_0, .bool false] 25 (0, 0))) := ⟨(by rw [hw]; exact (bg1 BK418 NB418_433))⟩; have n3_ : Aside0 (w72.heap[gb419]? = some (.cells #[.string x420000_1, .bool x420001_1] 25 (0, 0))) := ⟨(by rw [hw]; exact (bg1 BK419 NB419_433))⟩; have n4_ : Aside0 (w72.heap[gb423]? = some (.cells #[.string (⟨#[]⟩ : ByteArray), .bool true] 25 (0, 0))) := ⟨(by rw [hw]; exact (bg1 BK423 NB423_433))⟩; have n5_ : Aside0 (w72.heap[gb433]? = some (.cells #[.int .i64 t426, .string t427, .slice Ao71 t428.length co71, .string t431] 40 (0, 0))) := ⟨(by rw [hw]; exact (pt0 BK433))⟩; have n6_ : Aside0 (Below w.heap.size w w72) := ⟨(by rw [hw]; exact bl)⟩; clear hw; clear HO_6; clear HO430; clear BK418; clear BK419; clear BK423; clear BK433; clear HB; have HO_6 := n0_; have HO430 := n1_; have BK418 := n2_; have BK419 := n3_; have BK423 := n4_; have BK433 := n5_; have HB := n6_; clear n0_ n1_ n2_ n3_ n4_ n5_ n6_; obtain ⟨z73_0, y73_0, z73_1, y73_1, z73_2, y73_2, z73_3, y73_3⟩ := cl4 BK433) | ((with_reducible refine gate_builtin (b := .append) (xs := #[.tmp 54, .tmp 56]) rfl ?_); at_builtin; refine Kd.S_append k40 (w0 := w) w.heap.size rfl (.tmp 54) (.tmp 56) 28 40 (.agg #[(.int .i64 0), (.string ⟨#[]⟩), (.slice none 0 0), (.string ⟨#[]⟩)]) 64 rfl Tryz.underlying28 info40 rfl (by decide) (by omega) u6 x6_1 (⟨t426, t427, t428, t431⟩ : S40) [.int .i64 t426, .string t427, .slice Ao71 t428.length co71, .string t431] (fun k_ => k_ ≠ gb433) (fun k_ => some k_ = (.slice Ao71 t428.length co71 : Value).ownBlock) rfl rfl ?aP (fun k_ hk_ => ((Kd.R_mono (ok' := fun k_ => ((fun k_ => k_ ≠ gb433)) k_ ∧ some k_ ≠ (u6 : Value).ownBlock) (Kd.R_types (Kd.R_apart' (HO430.out) (Kd.S_typed HO_6.out) (by decide)) BK433.out (by decide)) (fun k_ hk => ⟨hk.2, hk.1.2⟩))).1 k_ hk_.symm) ?aF ?aO ?aB ?aS ?aL ?_; (case aP => exact k40_mkM _ _ _ (⟨t426, t427, t428, t431⟩ : S40) (Kd.R_mono (Kd.R_tight rfl (Kd.R_mono (ok' := fun k_ => ((fun k_ => k_ ≠ gb433)) k_ ∧ some k_ ≠ (u6 : Value).ownBlock) (Kd.R_types (Kd.R_apart' (HO430.out) (Kd.S_typed HO_6.out) (by decide)) BK433.out (by decide)) (fun k_ hk => ⟨hk.2, hk.1.2⟩))) (fun _ h_ => h_))); (case aB => exact bl); (case aF => exact (fun k_ hk => Kd.freshB (g := gb433) (o := .cells #[.int .i64 t426, .string t427, .slice Ao71 t428.length co71, .string t431] 40 (0, 0)) (bk BK433) k_ hk)); (case aO => exact (by (with_reducible repeat (first | apply Kd.S_alloc | apply Kd.S_drewN | apply Kd.S_drew)); exact Kd.S_mono HO_6.out (fun k_ hk => ⟨hk.2, fun e_ => hk.1 e_⟩))); (case aS => exact (below_size bl)); (case aL => have := LMc62.out; omega); intro v435 w74 ho hb hg hat; rw [← Ny434.out] at ho; have n0_ := am (blk_grown (g := gb418) (o := .cells #[.string a0_0, .bool false] 25 (0, 0)) (bk BK418) hg (Kd.S_ne HO_6.out BK418.out (by decide))); have n1_ := am (blk_grown (g := gb419) (o := .cells #[.string x420000_1, .bool x420001_1] 25 (0, 0)) (bk BK419) hg (Kd.S_ne HO_6.out BK419.out (by decide))); have n2_ := am (blk_grown (g := gb423) (o := .cells #[.string (⟨#[]⟩ : ByteArray), .bool true] 25 (0, 0)) (bk BK423) hg (Kd.S_ne HO_6.out BK423.out (by decide))); have n3_ := am (blk_grown (g := gb433) (o := .cells #[.int .i64 t426, .string t427, .slice Ao71 t428.length co71, .string t431] 40 (0, 0)) (bk BK433) hg (Kd.S_away HO_6.out (fun _ hk => hk.2))); have n4_ := am (hb); have n5_ := am (ho); clear BK418; clear BK419; clear BK423; clear BK433; clear HB; clear HO_6; clear HO430; have BK418 := n0_; have BK419 := n1_; have BK423 := n2_; have BK433 := n3_; have HB := n4_; have HO436 := n5_; clear n0_ n1_ n2_ n3_ n4_ n5_; clear ho hb hg hat))
   go_roundg k1
   case measure => have := HK1.out; omega
   case rel => exact ⟨(y434), (x8_1.extract ((ji57) : Int).toNat x8_1.size), (x420000_1), (x420001_1), (by first | rfl | (simp; done) | (simp only [← hji57] <;> (first | rfl | simp)) | (simp [*]; done)), H', ⟨by have := HK1.out; omega⟩, ⟨by (with_reducible repeat (first | apply Kd.S_alloc | apply Kd.S_drewN | apply Kd.S_drew)); exact Kd.S_mono HO436.out (fun _ hk => trivial)⟩, ⟨by (with_reducible repeat (first | refine blk_drewN ?_ _ | refine blk_drew ?_ | refine blk_alloc ?_ _)); exact BK418.out⟩, ⟨by (with_reducible repeat (first | refine blk_drewN ?_ _ | refine blk_drew ?_ | refine blk_alloc ?_ _)); exact BK419.out⟩, ⟨by (with_reducible repeat (first | refine blk_drewN ?_ _ | refine blk_drew ?_ | refine blk_alloc ?_ _)); exact BK423.out⟩, ⟨u10HB⟩⟩

end Go.Proofs.YtjckfmipegemcaaGreatDoor.All
