-- Written by a program of this session (wip/tools/hprint.py) out of the translation. Lean checks it.
import Derived.Test.YtjlpjbkpmmpojaaGreatDoorAllx0
import Derived.Test.YtjlpjbkpmmpojaaGreatDoorAllx1
import Derived.Test.YtjlpjbkpmmpojaaGreatDoorAllx8
import Derived.Test.YtjlpjbkpmmpojaaGreatDoorAllx19
import Derived.Test.YtjlpjbkpmmpojaaGreatDoorAllx25
import Derived.Test.YtjlpjbkpmmpojaaGreatDoorAllx31
namespace Go.Proofs.YtjlpjbkpmmpojaaGreatDoor.All
open Go.RowKit Go.Proofs.YtjlpjbkpmmpojaaGreatDoorW.PrintWords Go.Proofs.YtjlpjbkpmmpojaaGreatDoorW.PrintLast Go.Proofs.YtjlpjbkpmmpojaaGreatDoorW.PrintMore
attribute [local go_sem] max2_int min2_int max_two min_two max_three min_three max_four min_four   -- for this text's walks alone
set_option linter.unusedVariables false
set_option linter.unusedSimpArgs false

/-! ### impl_RespRead: function 111 -/
theorem u111HB {p : Prop} (h : p := by repeat (first | (with_reducible first | exact HB.out | apply below_alloc | apply pw_below_drewN | apply below_drew1 | refine below_set ?_ GE1415.out) | exact HB.out)) : p := h
def impl_RespRead.j0 : Nat → ByteArray → List (S116) → ByteArray → List ByteArray → Bool → Option (Int × (List (S116)) × ByteArray × Bool)
 | 0, _, _, _, _, _ => none
 | k + 1, x0, x5, x6, x8, x27 => if x27 = true then (some (0, ([] : List (S116)), (⟨#[]⟩ : ByteArray), false)) else (if 1 < (x8.length : Int) then ((impl_NumRead.f (rdOf ByteArray.empty x8 1)).bind fun bt1426 => (if x0.toList = ([] : List UInt8) then (some (0, ([] : List (S116)), (⟨#[]⟩ : ByteArray), false)) else ((impl_RespText.f k bt1426.1 x5 x6).bind fun t1429 => (if t1429.toList = x0.toList then (some (bt1426.1, x5, x6, true)) else (some (0, ([] : List (S116)), (⟨#[]⟩ : ByteArray), false)))))) else (none))
def impl_RespRead.f (k : Nat) (a0 : ByteArray) : Option (Int × (List (S116)) × ByteArray × Bool) := (impl_parts.f k a0).bind fun bt1416 => ((strings_Split.f bt1416.1 (⟨#[32]⟩ : ByteArray)).bind fun t1422 => (if bt1416.2.2.2 = true then (impl_RespRead.j0 k a0 bt1416.2.1 bt1416.2.2.1 t1422 ((t1422.length : Int) != 3)) else (impl_RespRead.j0 k a0 bt1416.2.1 bt1416.2.2.1 t1422 true)))
theorem impl_RespRead.mono_l : ∀ k, (∀ y0 y1 y2 y3 y4, LeO (impl_RespRead.j0 k y0 y1 y2 y3 y4) (impl_RespRead.j0 (k + 1) y0 y1 y2 y3 y4))
 | 0 => fun _ _ _ _ _ r h => by simp [impl_RespRead.j0] at h
 | k + 1 => by
  have ih0 := impl_RespRead.mono_l k
  ·intro y0 y1 y2 y3 y4
   unfold impl_RespRead.j0
   have m0 := @impl_RespText.mono
   have m1 := @impl_parts.mono
   exact mo
theorem impl_RespRead.mono : ∀ a0 k, LeO (impl_RespRead.f k a0) (impl_RespRead.f (k + 1) a0) := by
 intro a0 k
 have ih0 := impl_RespRead.mono_l k
 unfold impl_RespRead.f
 have m0 := @impl_RespText.mono
 have m1 := @impl_parts.mono
 exact mo
set_option maxHeartbeats 8000000 in
set_option maxRecDepth 100000 in
theorem impl_RespRead.calls (k : Nat) (a0 : ByteArray) (r1 : Int) (r2 : List (S116)) (r3 : ByteArray) (r4 : Bool) (w : World) (hGE : GLOBE w) (hGM : GLOBM w) (hGT : GLOBT w) (h : impl_RespRead.f k a0 = some (r1, r2, r3, r4)) :
  Calls Tryz.prog 111 #[.string a0] w fun e w' => ∃ v1_ : Value, e = .returned (.tuple #[.agg #[.int .i64 r1, v1_, .string r3], .bool r4]) ∧ Kd.R k116 116 w' w.heap.size (fun _ => True) v1_ r2 ∧ Below w.heap.size w w' := by
 have hu29 := Tryz.underlying29
 have HGE := am hGE
 clear hGE
 have HGM := am hGM
 clear hGM
 have HGT := am hGT
 clear hGT
 have HB := am (Below.refl w.heap.size w)
 unfold impl_RespRead.f at h
 have H := h
 clear h
 revert H
 refine ok4 fun t1416 t1417 t1418 t1419 A2 H => ?_
 (try dsimp only at H)
 revert H
 refine ok1 fun t1422 A3 H => ?_
 have HC4 := am H
 clear H
 go_enter Tryz.func111, Tryz.ntmps111
 go_upto_region 3 with (first | ((with_reducible refine gate_dst (N := 2) rfl ?_); (try (refine gate_guard (by rfl) ?_; dsimp only)); refine box_event ?hg (N := 2) ?hd (cs := #[.int .i64 0, .slice none 0 0, .string (⟨#[]⟩ : ByteArray)]) (t := 29) ?hr ?_; (case hd => rfl); (case hg => rfl); (case hr => first | (go_simp; done) | (go_simp; rfl)); intro gb1415 hg w5 hbox hb; have BK1415 := am (hbox); have GW1415 := am (sz hg : w.heap.size ≤ gb1415); have GE1415 := am (sz hg : w.heap.size ≤ gb1415); replace HB := am (below_step bl hb); clear hb hbox hg) | ((with_reducible refine gw ?_); first | (refine gl 14 Tryz.func158 #[.string a0] ?_; (with_reducible refine (impl_parts.calls k a0 t1416 t1417 t1418 t1419 _ ?side1 A2.out).mono ?_); (case side1 => exact GLOBM.below HGM.out bl); rintro e w6 ⟨v1420, rfl, ho0, hb⟩; refine ⟨_, rfl, ?_⟩; have HO1421 := am (Kd.R_lower ho0 (below_size bl)); replace BK1415 := kb BK1415 hb; replace HB := am (below_step bl hb); clear hb ho0) | (refine gl 20 Tryz.func109 #[.string t1416, .string (⟨#[32]⟩ : ByteArray)] ?_; (with_reducible refine (strings_Split.calls t1416 (⟨#[32]⟩ : ByteArray) t1422 _ ?side1 A3.out).mono ?_); (case side1 => exact GLOBM.below HGM.out bl); rintro e w7 ⟨v1423, rfl, ho0, hb⟩; refine ⟨_, rfl, ?_⟩; replace HO1421 := kr HO1421 hb; have HO1424 := am (Kd.R_lower ho0 (below_size bl)); replace BK1415 := kb BK1415 hb; replace HB := am (below_step bl hb); clear hb ho0)))
 (try simp only [Act.put, List.setIfInBounds_toArray, List.set_cons_zero, List.set_cons_succ])
 go_cut [27] (fun v27 wc => ∃ (kq : Nat) (x27_3 : Bool), v27 = .bool x27_3 ∧ Aside0 (impl_RespRead.j0 kq a0 t1417 t1418 t1422 x27_3 = some (r1, r2, r3, r4)) ∧ Aside0 (kq ≤ k) ∧ Aside0 (Kd.R k116 116 wc w.heap.size (fun _ => True) v1420 t1417) ∧ Aside0 (Kd.R Kd.string 9 wc w.heap.size (fun _ => True) v1423 t1422) ∧ Aside0 (wc.heap[gb1415]? = some (.cells #[.int .i64 0, (.slice none 0 0), .string (⟨#[]⟩ : ByteArray)] 29 (0, 0))) ∧ Aside0 (Below w.heap.size w wc))
 case first =>
  have H := HC4.out
  clear HC4
  by_cases c8 : t1419 = true
  rotate_left
  ·replace c8 := Bool.eq_false_iff.mpr c8
   subst c8
   rw [if_neg (show ¬ (false = true) by decide)] at H
   have H' := am H
   clear H
   go_wp2
   go_meet
   case rel => exact ⟨_, (true), rs, H', ⟨by first | omega | exact Nat.le_refl _⟩, ⟨by (with_reducible repeat (first | apply Kd.R_alloc | apply Kd.R_drewN | apply Kd.R_drew)); exact HO1421.out⟩, ⟨by (with_reducible repeat (first | apply Kd.R_alloc | apply Kd.R_drewN | apply Kd.R_drew)); exact HO1424.out⟩, ⟨by (with_reducible repeat (first | refine blk_drewN ?_ _ | refine blk_drew ?_ | refine blk_alloc ?_ _)); exact BK1415.out⟩, ⟨u111HB⟩⟩
  subst c8
  rw [if_pos rfl] at H
  have H' := am H
  clear H
  obtain ⟨Ao9, co9, eo9⟩ := Kd.R_slice HO1424.out
  subst eo9
  go_wp2
  go_meet
  case rel => exact ⟨_, (((t1422.length : Int) != 3)), rs, H', ⟨by first | omega | exact Nat.le_refl _⟩, ⟨by (with_reducible repeat (first | apply Kd.R_alloc | apply Kd.R_drewN | apply Kd.R_drew)); exact HO1421.out⟩, ⟨by (with_reducible repeat (first | apply Kd.R_alloc | apply Kd.R_drewN | apply Kd.R_drew)); exact HO1424.out⟩, ⟨by (with_reducible repeat (first | refine blk_drewN ?_ _ | refine blk_drew ?_ | refine blk_alloc ?_ _)); exact BK1415.out⟩, ⟨u111HB⟩⟩
 case rest =>
  clear HC4
  try clear c1
  try clear p2
  try clear c8
  obtain ⟨kq, x27_3, rfl, HA, HJ3, HO_5, HO_8, BK1415, HB⟩ := hcut
  cases kq with
  | zero => exact absurd HA.out (by simp [impl_RespRead.j0])
  | succ kj3 =>
   have H := HA.out
   clear HA
   simp only [impl_RespRead.j0] at H
   by_cases c10 : x27_3 = true
   ·subst c10
    rw [if_pos rfl] at H
    simp only [Option.some.injEq, Prod.mk.injEq] at H
    obtain ⟨rfl, rfl, rfl, rfl⟩ := H
    obtain ⟨z11_0, y11_0, z11_1, y11_1, z11_2, y11_2⟩ := cl3 BK1415
    go_wp2
    refine bodyPost_ret (results_ct rfl _ _ gb1415 29 #[.int .i64 0, .slice none 0 0, .string (⟨#[]⟩ : ByteArray)] (0, 0) _ rfl (pt0 BK1415) Tryz.underlying29 rfl (by kernel_rfl)) rfl ?_
    exact ⟨_, rf, by first | exact Kd.R_nil _ _ _ _ _ | exact Kd.N_nil _ _ _ _ _ | exact Kd.V_nil _ _ _ _ _ | exact Kd.Q_nil _ _ _ _ _ | exact Kd.S_nil _ _ _ _ _, bl⟩
   replace c10 := Bool.eq_false_iff.mpr c10
   subst c10
   rw [if_neg (show ¬ (false = true) by decide)] at H
   revert H
   refine ifn fun c12 H => ?_
   have c12b0 := decide_eq_true c12
   have c12b1 : decide (1 < t1422.length) = true := decide_eq_true (by omega)
   clear c12
   revert H
   refine ok2 fun t1426 t1427 A13 H => ?_
   (try dsimp only at H)
   by_cases c14 : a0.toList = ([] : List UInt8)
   ·rw [if_pos c14] at H
    have c14b0 : (a0.toList == ([] : List UInt8)) = true := beq_iff_eq.mpr c14
    have c14b1 : (a0.toList != ([] : List UInt8)) = false := bne_eq_false_iff_eq.mpr c14
    clear c14
    simp only [Option.some.injEq, Prod.mk.injEq] at H
    obtain ⟨rfl, rfl, rfl, rfl⟩ := H
    obtain ⟨Ao15, co15, eo15⟩ := Kd.R_slice HO_8.out
    subst eo15
    have p1425 : 0 ≤ (1 : Int) := (by omega)
    have q1425 : 1 < (t1422.length : Int) := od
    obtain ⟨ad1425, e1425, hx1425_0⟩ := Kd.at_string (Kd.R_reads' HO_8.out).2.2 1 p1425 q1425
    cases e1425
    (try simp only [show (1 : Int).toNat = 1 from rfl, Nat.reduceMul, Nat.reduceEqDiff, Go.Addr.add, ↓reduceIte] at hx1425_0)
    have qi1425 : (1 < t1422.length) = True := eq_true (by omega)
    (try rw [show ((1 : Int)).toNat = 1 from rfl] at hx1425_0)
    replace p1425 := eq_true p1425
    replace q1425 := eq_true q1425
    go_wp2_with (first | ((with_reducible refine gw ?_); first | (refine gl 33 Tryz.func110 #[.string (rdOf ByteArray.empty t1422 1)] ?_; (with_reducible refine (impl_NumRead.calls (rdOf ByteArray.empty t1422 1) t1426 t1427 _ ?side1 ?side2 A13.out).mono ?_); (case side1 => exact GLOBE.below HGE.out bl); (case side2 => exact GLOBT.below HGT.out bl); rintro e w16 ⟨rfl, hb⟩; refine ⟨_, rfl, ?_⟩; replace HO_5 := kr HO_5 hb; replace HO_8 := kr HO_8 hb; replace BK1415 := kb BK1415 hb; replace HB := am (below_step bl hb); clear hb; obtain ⟨Ao17, co17, eo17⟩ := Kd.R_slice HO_5.out; subst eo17)) | ((with_reducible refine gate_dst (N := 11) rfl ?_); (try (refine gate_guard (by rfl) ?_; dsimp only)); refine box_event ?hg (N := 11) ?hd (cs := #[.int .i64 0, .slice none 0 0, .string (⟨#[]⟩ : ByteArray)]) (t := 29) ?hr ?_; (case hd => rfl); (case hg => rfl); (case hr => first | (go_simp; done) | (go_simp; rfl)); intro gb1428 hg w18 hbox hb; replace HO_5 := am (Kd.R_below (ro HO_5) hb); replace HO_8 := am (Kd.R_below (ro HO_8) hb); have BK1428 := am (hbox); have GW1428 := am (sz hg : w.heap.size ≤ gb1428); have GE1428 := am (sz hg : w.heap.size ≤ gb1428); replace HB := am (below_step bl hb); have NB1415_1428 := am (nl hg BK1415 : gb1415 ≠ gb1428); have NB1428_1415 := am (ng hg BK1415 : gb1428 ≠ gb1415); replace BK1415 := kb BK1415 hb; clear hb hbox hg; have hnb19 := NB1428_1415.out; have hnc19 := NB1415_1428.out; obtain ⟨z20_0, y20_0, z20_1, y20_1, z20_2, y20_2⟩ := cl3 BK1428; obtain ⟨z21_0, y21_0, z21_1, y21_1, z21_2, y21_2⟩ := cl3 BK1415))
    refine bodyPost_ret (results_ct rfl _ _ gb1415 29 #[.int .i64 0, .slice none 0 0, .string (⟨#[]⟩ : ByteArray)] (0, 0) _ rfl (pt1 BK1415 NB1415_1428) Tryz.underlying29 rfl (by kernel_rfl)) rfl ?_
    exact ⟨_, rf, by first | exact Kd.R_nil _ _ _ _ _ | exact Kd.N_nil _ _ _ _ _ | exact Kd.V_nil _ _ _ _ _ | exact Kd.Q_nil _ _ _ _ _ | exact Kd.S_nil _ _ _ _ _, bl⟩
   rw [if_neg c14] at H
   have c14b0 : (a0.toList == ([] : List UInt8)) = false := beq_eq_false_iff_ne.mpr c14
   have c14b1 : (a0.toList != ([] : List UInt8)) = true := bne_iff_ne.mpr c14
   revert H
   refine ok1 fun t1429 A22 H => ?_
   have HH23 := am H
   clear H
   obtain ⟨Ao24, co24, eo24⟩ := Kd.R_slice HO_8.out
   subst eo24
   have p1425 : 0 ≤ (1 : Int) := (by omega)
   have q1425 : 1 < (t1422.length : Int) := od
   obtain ⟨ad1425, e1425, hx1425_0⟩ := Kd.at_string (Kd.R_reads' HO_8.out).2.2 1 p1425 q1425
   cases e1425
   (try simp only [show (1 : Int).toNat = 1 from rfl, Nat.reduceMul, Nat.reduceEqDiff, Go.Addr.add, ↓reduceIte] at hx1425_0)
   have qi1425 : (1 < t1422.length) = True := eq_true (by omega)
   (try rw [show ((1 : Int)).toNat = 1 from rfl] at hx1425_0)
   replace p1425 := eq_true p1425
   replace q1425 := eq_true q1425
   go_upto_if 47 with (first | ((with_reducible refine gw ?_); first | (refine gl 33 Tryz.func110 #[.string (rdOf ByteArray.empty t1422 1)] ?_; (with_reducible refine (impl_NumRead.calls (rdOf ByteArray.empty t1422 1) t1426 t1427 _ ?side1 ?side2 A13.out).mono ?_); (case side1 => exact GLOBE.below HGE.out bl); (case side2 => exact GLOBT.below HGT.out bl); rintro e w25 ⟨rfl, hb⟩; refine ⟨_, rfl, ?_⟩; replace HO_5 := kr HO_5 hb; replace HO_8 := kr HO_8 hb; replace BK1415 := kb BK1415 hb; replace HB := am (below_step bl hb); clear hb; obtain ⟨Ao26, co26, eo26⟩ := Kd.R_slice HO_5.out; subst eo26)) | ((with_reducible refine gate_dst (N := 11) rfl ?_); (try (refine gate_guard (by rfl) ?_; dsimp only)); refine box_event ?hg (N := 11) ?hd (cs := #[.int .i64 0, .slice none 0 0, .string (⟨#[]⟩ : ByteArray)]) (t := 29) ?hr ?_; (case hd => rfl); (case hg => rfl); (case hr => first | (go_simp; done) | (go_simp; rfl)); intro gb1428 hg w27 hbox hb; replace HO_5 := am (Kd.R_below (ro HO_5) hb); replace HO_8 := am (Kd.R_below (ro HO_8) hb); have BK1428 := am (hbox); have GW1428 := am (sz hg : w.heap.size ≤ gb1428); have GE1428 := am (sz hg : w.heap.size ≤ gb1428); replace HB := am (below_step bl hb); have NB1415_1428 := am (nl hg BK1415 : gb1415 ≠ gb1428); have NB1428_1415 := am (ng hg BK1415 : gb1428 ≠ gb1415); replace BK1415 := kb BK1415 hb; clear hb hbox hg; have hnb28 := NB1428_1415.out; have hnc28 := NB1415_1428.out; obtain ⟨z29_0, y29_0, z29_1, y29_1, z29_2, y29_2⟩ := cl3 BK1428) | (go_at_call 35; (with_reducible refine (impl_RespText.calls kj3 t1426 _ _ t1417 t1418 t1429 _ ?side1 ?side2 ?side3 A22.out).mono ?_); (case side1 => exact GLOBT.below HGT.out bl); (case side2 => refine (Kd.R_reads' (e := 116) (base := w.heap.size) (ok := fun k_ => True) (n := t1417.length) (c := co26) ?_).2.2; exact (by (with_reducible repeat (first | apply Kd.R_alloc | apply Kd.R_drewN | apply Kd.R_drew)); exact (Kd.R_mono (Kd.R_far (p := ⟨gb1428, 2, none⟩) (Kd.R_far (p := ⟨gb1428, 1, none⟩) (Kd.R_far (p := ⟨gb1428, 0, none⟩) (Kd.R_types HO_5.out BK1428.out (by decide)) (fun _ hk => hk.2) (.int .i64 t1426)) (fun _ hk => hk.2) (.slice Ao26 t1417.length co26)) (fun _ hk => hk.2) (.string t1418)) (fun _ h_ => h_.1)))); (case side3 => exact (Kd.R_reads' HO_5.out).2.1); rintro e w30 ⟨rfl, hb⟩; have n0_ := am (Kd.R_below (by (with_reducible repeat (first | apply Kd.R_alloc | apply Kd.R_drewN | apply Kd.R_drew)); exact (Kd.R_mono (Kd.R_far (p := ⟨gb1428, 2, none⟩) (Kd.R_far (p := ⟨gb1428, 1, none⟩) (Kd.R_far (p := ⟨gb1428, 0, none⟩) (Kd.R_types HO_5.out BK1428.out (by decide)) (fun _ hk => hk.2) (.int .i64 t1426)) (fun _ hk => hk.2) (.slice Ao26 t1417.length co26)) (fun _ hk => hk.2) (.string t1418)) (fun _ h_ => h_.1))) hb); have n1_ := am (Kd.R_below (by (with_reducible repeat (first | apply Kd.R_alloc | apply Kd.R_drewN | apply Kd.R_drew)); exact (Kd.R_mono (Kd.R_far (p := ⟨gb1428, 2, none⟩) (Kd.R_far (p := ⟨gb1428, 1, none⟩) (Kd.R_far (p := ⟨gb1428, 0, none⟩) (Kd.R_types HO_8.out BK1428.out (by decide)) (fun _ hk => hk.2) (.int .i64 t1426)) (fun _ hk => hk.2) (.slice Ao26 t1417.length co26)) (fun _ hk => hk.2) (.string t1418)) (fun _ h_ => h_.1))) hb); have n2_ := kg1 BK1415 NB1415_1428 hb; have n3_ := am (blk_below (g := gb1428) (o := .cells #[.int .i64 t1426, .slice Ao26 t1417.length co26, .string t1418] 29 (0, 0)) (pt0 BK1428) hb); have n4_ := am (below_step bl hb); clear HO_5; clear HO_8; clear BK1415; clear BK1428; clear HB; have HO_5 := n0_; have HO_8 := n1_; have BK1415 := n2_; have BK1428 := n3_; have HB := n4_; clear n0_ n1_ n2_ n3_ n4_; clear hb))
   have H := HH23.out
   clear HH23
   by_cases c31 : t1429.toList = a0.toList
   ·rw [if_pos c31] at H
    have c31b0 : (t1429.toList == a0.toList) = true := beq_iff_eq.mpr c31
    have c31b1 : (t1429.toList != a0.toList) = false := bne_eq_false_iff_eq.mpr c31
    clear c31
    (first | rw [c31b0] | (simp only [i64_w, i32_w]; rw [c31b0]) | skip)
    simp only [Option.some.injEq, Prod.mk.injEq] at H
    obtain ⟨rfl, rfl, rfl, rfl⟩ := H
    have hnb32 := NB1428_1415.out
    have hnc32 := NB1415_1428.out
    obtain ⟨z33_0, y33_0, z33_1, y33_1, z33_2, y33_2⟩ := cl3 BK1428
    obtain ⟨z34_0, y34_0, z34_1, y34_1, z34_2, y34_2⟩ := cl3 BK1415
    go_wp2
    refine bodyPost_ret (results_ct rfl _ _ gb1415 29 #[.int .i64 t1426, .slice Ao26 t1417.length co26, .string t1418] (0, 0) _ rfl (pt0 BK1415) Tryz.underlying29 rfl (by kernel_rfl)) rfl ?_
    exact ⟨_, rf, rg (Kd.R_types HO_5.out BK1415.out (by decide)), bl⟩
   rw [if_neg c31] at H
   have c31b0 : (t1429.toList == a0.toList) = false := beq_eq_false_iff_ne.mpr c31
   have c31b1 : (t1429.toList != a0.toList) = true := bne_iff_ne.mpr c31
   (first | rw [c31b0] | (simp only [i64_w, i32_w]; rw [c31b0]) | skip)
   simp only [Option.some.injEq, Prod.mk.injEq] at H
   obtain ⟨rfl, rfl, rfl, rfl⟩ := H
   have hnb35 := NB1415_1428.out
   have hnc35 := NB1428_1415.out
   obtain ⟨z36_0, y36_0, z36_1, y36_1, z36_2, y36_2⟩ := cl3 BK1415
   go_wp2
   refine bodyPost_ret (results_ct rfl _ _ gb1415 29 #[.int .i64 0, .slice none 0 0, .string (⟨#[]⟩ : ByteArray)] (0, 0) _ rfl (pt0 BK1415) Tryz.underlying29 rfl (by kernel_rfl)) rfl ?_
   exact ⟨_, rf, by first | exact Kd.R_nil _ _ _ _ _ | exact Kd.N_nil _ _ _ _ _ | exact Kd.V_nil _ _ _ _ _ | exact Kd.Q_nil _ _ _ _ _ | exact Kd.S_nil _ _ _ _ _, bl⟩

/-! ### impl_ObjRead: function 38 -/
theorem u38HB {p : Prop} (h : p := by repeat (first | (with_reducible first | exact HB.out | apply below_alloc | apply pw_below_drewN | apply below_drew1 | refine below_set ?_ GE1430.out | refine below_set ?_ GE1444.out | refine below_set ?_ GE1457.out) | exact HB.out)) : p := h
mutual
def impl_ObjRead.j0 : Nat → ByteArray → ByteArray → List ByteArray → Int → Int → Bool → Option (ByteArray × List ByteArray × List ByteArray × Int × (List (S116)) × ByteArray × Int × Bool)
 | 0, _, _, _, _, _, _ => none
 | k + 1, x0, x5, x7, x8, x10, x53 => if x53 = true then (some ((⟨#[]⟩ : ByteArray), ([] : List ByteArray), ([] : List ByteArray), 0, ([] : List (S116)), (⟨#[]⟩ : ByteArray), 0, false)) else (if 1 < (x7.length : Int) then (impl_ObjRead.l0 k x0 x5 x10 0 (rdOf ByteArray.empty x7 1) ([] : List ByteArray) 0 (⟨#[]⟩ : ByteArray) x8) else (none))
def impl_ObjRead.l0 : Nat → ByteArray → ByteArray → Int → Int → ByteArray → List ByteArray → Int → ByteArray → Int → Option (ByteArray × List ByteArray × List ByteArray × Int × (List (S116)) × ByteArray × Int × Bool)
 | 0, _, _, _, _, _, _, _, _, _ => none
 | k + 1, x0, x5, x60, x61, x1445000, x1445002, x1445003, x1445005, x1445006 => if x61 < x60 then ((strings_Cut.f x5 (⟨#[10]⟩ : ByteArray)).bind fun bt1445 => (if x1445002.length < 8796093022208 then (impl_ObjRead.l0 k x0 bt1445.2.1 x60 (wrap64 (x61 + 1)) x1445000 (x1445002 ++ [bt1445.1]) x1445003 x1445005 x1445006) else (none))) else ((impl_RespRead.f k x5).bind fun bt1451 => ((impl_VaryOf.f k bt1451.2.1).bind fun t1458 => (if bt1451.2.2.2 = true then ((impl_ObjText.f k x1445000 t1458 x1445002 bt1451.1 bt1451.2.1 bt1451.2.2.1 x1445006).bind fun t1461 => (if t1461.toList = x0.toList then (some (x1445000, t1458, x1445002, bt1451.1, bt1451.2.1, bt1451.2.2.1, x1445006, true)) else (some ((⟨#[]⟩ : ByteArray), ([] : List ByteArray), ([] : List ByteArray), 0, ([] : List (S116)), (⟨#[]⟩ : ByteArray), 0, false)))) else (some ((⟨#[]⟩ : ByteArray), ([] : List ByteArray), ([] : List ByteArray), 0, ([] : List (S116)), (⟨#[]⟩ : ByteArray), 0, false)))))
end
def impl_ObjRead.f (k : Nat) (a0 : ByteArray) : Option (ByteArray × List ByteArray × List ByteArray × Int × (List (S116)) × ByteArray × Int × Bool) := (strings_Cut.f a0 (⟨#[10]⟩ : ByteArray)).bind fun bt1431 => ((strings_Split.f bt1431.1 (⟨#[32]⟩ : ByteArray)).bind fun t1434 => (if (t1434.length : Int) = 4 then (if 2 < (t1434.length : Int) then ((impl_NumRead.f (rdOf ByteArray.empty t1434 2)).bind fun bt1438 => (if 3 < (t1434.length : Int) then ((impl_NumRead.f (rdOf ByteArray.empty t1434 3)).bind fun bt1441 => (if bt1438.2 = true then (if bt1441.2 = true then (impl_ObjRead.j0 k a0 bt1431.2.1 t1434 bt1438.1 bt1441.1 (decide (bt1441.1 > 4))) else (impl_ObjRead.j0 k a0 bt1431.2.1 t1434 bt1438.1 bt1441.1 true)) else (impl_ObjRead.j0 k a0 bt1431.2.1 t1434 bt1438.1 bt1441.1 true))) else (none))) else (none)) else (some ((⟨#[]⟩ : ByteArray), ([] : List ByteArray), ([] : List ByteArray), 0, ([] : List (S116)), (⟨#[]⟩ : ByteArray), 0, false))))
theorem impl_ObjRead.mono_l : ∀ k, (∀ y0 y1 y2 y3 y4 y5, LeO (impl_ObjRead.j0 k y0 y1 y2 y3 y4 y5) (impl_ObjRead.j0 (k + 1) y0 y1 y2 y3 y4 y5)) ∧ (∀ y0 y1 y2 y3 y4 y5 y6 y7 y8, LeO (impl_ObjRead.l0 k y0 y1 y2 y3 y4 y5 y6 y7 y8) (impl_ObjRead.l0 (k + 1) y0 y1 y2 y3 y4 y5 y6 y7 y8))
 | 0 => ⟨fun _ _ _ _ _ _ r h => by simp [impl_ObjRead.j0] at h, fun _ _ _ _ _ _ _ _ _ r h => by simp [impl_ObjRead.l0] at h⟩
 | k + 1 => by
  obtain ⟨ih0, ih1⟩ := impl_ObjRead.mono_l k
  refine ⟨?_, ?_⟩
  ·intro y0 y1 y2 y3 y4 y5
   unfold impl_ObjRead.j0
   have m0 := @impl_ObjText.mono
   have m1 := @impl_RespRead.mono
   have m2 := @impl_VaryOf.mono
   exact mo
  ·intro y0 y1 y2 y3 y4 y5 y6 y7 y8
   unfold impl_ObjRead.l0
   have m0 := @impl_ObjText.mono
   have m1 := @impl_RespRead.mono
   have m2 := @impl_VaryOf.mono
   exact mo
theorem impl_ObjRead.mono : ∀ a0 k, LeO (impl_ObjRead.f k a0) (impl_ObjRead.f (k + 1) a0) := by
 intro a0 k
 obtain ⟨ih0, ih1⟩ := impl_ObjRead.mono_l k
 unfold impl_ObjRead.f
 have m0 := @impl_ObjText.mono
 have m1 := @impl_RespRead.mono
 have m2 := @impl_VaryOf.mono
 exact mo
def impl_ObjRead.T17 : Bool × List (List Nat × List Nat) := (true, [([], []), ([], []), ([1], [1]), ([2], [2]), ([0], []), ([4, 0, 3, 0], [0, 4]), ([0, 1, 2, 3, 4, 5], []), ([6, 3, 5, 0, 1, 2, 3, 4, 5], [3, 6])])
def impl_ObjRead.B17 : List Nat := [0, 0, 2, 6, 1, 31, 63, 127]
theorem impl_ObjRead.tab17 : rtab .any (opsOf Tryz.f38 17) = impl_ObjRead.T17 := by kernel_rfl
theorem impl_ObjRead.bits17 : waitsOk impl_ObjRead.T17.2 impl_ObjRead.B17 = true := by kernel_rfl
set_option maxHeartbeats 8000000 in
set_option maxRecDepth 100000 in
theorem impl_ObjRead.calls (k : Nat) (a0 : ByteArray) (r1 : ByteArray) (r2 : List ByteArray) (r3 : List ByteArray) (r4 : Int) (r5 : List (S116)) (r6 : ByteArray) (r7 : Int) (r8 : Bool) (w : World) (hGE : GLOBE w) (hGM : GLOBM w) (hGT : GLOBT w) (h : impl_ObjRead.f k a0 = some (r1, r2, r3, r4, r5, r6, r7, r8)) :
  Calls Tryz.prog 38 #[.string a0] w fun e w' => ∃ v1_ v2_ v4_ : Value, e = .returned (.tuple #[.agg #[.string r1, v1_, v2_, .int .i64 r4, v4_, .string r6, .int .i64 r7], .bool r8]) ∧ Kd.R Kd.string 9 w' w.heap.size (fun k_ => some k_ ≠ (v2_ : Value).ownBlock) v1_ r2 ∧ Kd.R Kd.string 9 w' w.heap.size (fun k_ => some k_ ≠ (v1_ : Value).ownBlock) v2_ r3 ∧ Kd.R k116 116 w' w.heap.size (fun _ => True) v4_ r5 ∧ Below w.heap.size w w' := by
 have hu31 := Tryz.underlying31
 have hu29 := Tryz.underlying29
 have HGE := am hGE
 clear hGE
 have HGM := am hGM
 clear hGM
 have HGT := am hGT
 clear hGT
 have HB := am (Below.refl w.heap.size w)
 unfold impl_ObjRead.f at h
 have H := h
 clear h
 revert H
 refine ok3 fun t1431 t1432 t1433 A2 H => ?_
 (try dsimp only at H)
 revert H
 refine ok1 fun t1434 A3 H => ?_
 have HH4 := am H
 clear H
 go_enter Tryz.func38, Tryz.ntmps38
 go_upto_if 28 with ((with_reducible refine gw ?_); first | (refine bx 2 #[.string (⟨#[]⟩ : ByteArray), .slice none 0 0, .slice none 0 0, .int .i64 0, .slice none 0 0, .string (⟨#[]⟩ : ByteArray), .int .i64 0] 31 ?_; intro gb1430 hg w5 hbox hb; have BK1430 := am (hbox); have GW1430 := am (sz hg : w.heap.size ≤ gb1430); have GE1430 := am (sz hg : w.heap.size ≤ gb1430); replace HB := am (below_step bl hb); clear hb hbox hg) | (refine gl 20 Tryz.func108 #[.string a0, .string (⟨#[10]⟩ : ByteArray)] ?_; (with_reducible refine (strings_Cut.calls a0 (⟨#[10]⟩ : ByteArray) t1431 t1432 t1433 _ ?side1 A2.out).mono ?_); (case side1 => exact GLOBM.below HGM.out bl); rintro e w6 ⟨rfl, hb⟩; refine ⟨_, rfl, ?_⟩; replace BK1430 := kb BK1430 hb; replace HB := am (below_step bl hb); clear hb) | (refine gl 25 Tryz.func109 #[.string t1431, .string (⟨#[32]⟩ : ByteArray)] ?_; (with_reducible refine (strings_Split.calls t1431 (⟨#[32]⟩ : ByteArray) t1434 _ ?side1 A3.out).mono ?_); (case side1 => exact GLOBM.below HGM.out bl); rintro e w7 ⟨v1435, rfl, ho0, hb⟩; refine ⟨_, rfl, ?_⟩; have HO1436 := am (Kd.R_lower ho0 (below_size bl)); replace BK1430 := kb BK1430 hb; replace HB := am (below_step bl hb); clear hb ho0; obtain ⟨Ao8, co8, eo8⟩ := Kd.R_slice HO1436.out; subst eo8))
 have H := HH4.out
 clear HH4
 by_cases c9 : (t1434.length : Int) = 4
 rotate_left
 ·rw [if_neg c9] at H
  have c9b0 : ((t1434.length : Int) == 4) = false := beq_eq_false_iff_ne.mpr c9
  have c9b1 : ((t1434.length : Int) != 4) = true := bne_iff_ne.mpr c9
  (first | rw [c9b0] | (simp only [i64_w, i32_w]; rw [c9b0]) | skip)
  simp only [Option.some.injEq, Prod.mk.injEq] at H
  obtain ⟨rfl, rfl, rfl, rfl, rfl, rfl, rfl, rfl⟩ := H
  obtain ⟨z82_0, y82_0, z82_1, y82_1, z82_2, y82_2, z82_3, y82_3, z82_4, y82_4, z82_5, y82_5, z82_6, y82_6⟩ := cl7 BK1430
  go_wp2
  refine bodyPost_ret (results_ct rfl _ _ gb1430 31 #[.string (⟨#[]⟩ : ByteArray), .slice none 0 0, .slice none 0 0, .int .i64 0, .slice none 0 0, .string (⟨#[]⟩ : ByteArray), .int .i64 0] (0, 0) _ rfl (pt0 BK1430) Tryz.underlying31 rfl (by kernel_rfl)) rfl ?_
  exact ⟨_, _, _, rf, by first | exact Kd.R_nil _ _ _ _ _ | exact Kd.N_nil _ _ _ _ _ | exact Kd.V_nil _ _ _ _ _ | exact Kd.Q_nil _ _ _ _ _ | exact Kd.S_nil _ _ _ _ _, by first | exact Kd.R_nil _ _ _ _ _ | exact Kd.N_nil _ _ _ _ _ | exact Kd.V_nil _ _ _ _ _ | exact Kd.Q_nil _ _ _ _ _ | exact Kd.S_nil _ _ _ _ _, by first | exact Kd.R_nil _ _ _ _ _ | exact Kd.N_nil _ _ _ _ _ | exact Kd.V_nil _ _ _ _ _ | exact Kd.Q_nil _ _ _ _ _ | exact Kd.S_nil _ _ _ _ _, bl⟩
 rw [if_pos c9] at H
 have c9b0 : ((t1434.length : Int) == 4) = true := beq_iff_eq.mpr c9
 have c9b1 : ((t1434.length : Int) != 4) = false := bne_eq_false_iff_eq.mpr c9
 clear c9
 (first | rw [c9b0] | (simp only [i64_w, i32_w]; rw [c9b0]) | skip)
 revert H
 refine ifn fun c10 H => ?_
 have c10b0 := decide_eq_true c10
 have c10b1 : decide (2 < t1434.length) = true := decide_eq_true (by omega)
 clear c10
 revert H
 refine ok2 fun t1438 t1439 A11 H => ?_
 (try dsimp only at H)
 revert H
 refine ifn fun c12 H => ?_
 have c12b0 := decide_eq_true c12
 have c12b1 : decide (3 < t1434.length) = true := decide_eq_true (by omega)
 clear c12
 revert H
 refine ok2 fun t1441 t1442 A13 H => ?_
 (try dsimp only at H)
 have HC14 := am H
 clear H
 have p1437 : 0 ≤ (2 : Int) := (by omega)
 have q1437 : 2 < (t1434.length : Int) := od
 obtain ⟨ad1437, e1437, hx1437_0⟩ := Kd.at_string (Kd.R_reads' HO1436.out).2.2 2 p1437 q1437
 cases e1437
 (try simp only [show (2 : Int).toNat = 2 from rfl, Nat.reduceMul, Nat.reduceEqDiff, Go.Addr.add, ↓reduceIte] at hx1437_0)
 have qi1437 : (2 < t1434.length) = True := eq_true (by omega)
 (try rw [show ((2 : Int)).toNat = 2 from rfl] at hx1437_0)
 replace p1437 := eq_true p1437
 replace q1437 := eq_true q1437
 go_upto_region 7 with ((with_reducible refine gw ?_); first | (refine gl 34 Tryz.func110 #[.string (rdOf ByteArray.empty t1434 2)] ?_; (with_reducible refine (impl_NumRead.calls (rdOf ByteArray.empty t1434 2) t1438 t1439 _ ?side1 ?side2 A11.out).mono ?_); (case side1 => exact GLOBE.below HGE.out bl); (case side2 => exact GLOBT.below HGT.out bl); rintro e w15 ⟨rfl, hb⟩; refine ⟨_, rfl, ?_⟩; replace HO1436 := kr HO1436 hb; replace BK1430 := kb BK1430 hb; replace HB := am (below_step bl hb); clear hb; have p1440 : 0 ≤ (3 : Int) := (by omega); have q1440 : 3 < (t1434.length : Int) := od; obtain ⟨ad1440, e1440, hx1440_0⟩ := Kd.at_string (Kd.R_reads' HO1436.out).2.2 3 p1440 q1440; obtain rfl : ad1437 = ad1440 := (by injection e1440); (try simp only [show (3 : Int).toNat = 3 from rfl, Nat.reduceMul, Nat.reduceEqDiff, Go.Addr.add, ↓reduceIte] at hx1440_0); have qi1440 : (3 < t1434.length) = True := eq_true (by omega); (try rw [show ((3 : Int)).toNat = 3 from rfl] at hx1440_0); replace p1440 := eq_true p1440; replace q1440 := eq_true q1440) | (refine gl 41 Tryz.func110 #[.string (rdOf ByteArray.empty t1434 3)] ?_; (with_reducible refine (impl_NumRead.calls (rdOf ByteArray.empty t1434 3) t1441 t1442 _ ?side1 ?side2 A13.out).mono ?_); (case side1 => exact GLOBE.below HGE.out bl); (case side2 => exact GLOBT.below HGT.out bl); rintro e w16 ⟨rfl, hb⟩; refine ⟨_, rfl, ?_⟩; replace HO1436 := kr HO1436 hb; replace BK1430 := kb BK1430 hb; replace HB := am (below_step bl hb); clear hb))
 (try simp only [Act.put, List.setIfInBounds_toArray, List.set_cons_zero, List.set_cons_succ])
 go_cut [53] (fun v53 wc => ∃ (kq : Nat) (x53_13 : Bool), v53 = .bool x53_13 ∧ Aside0 (impl_ObjRead.j0 kq a0 t1432 t1434 t1438 t1441 x53_13 = some (r1, r2, r3, r4, r5, r6, r7, r8)) ∧ Aside0 (kq ≤ k) ∧ Aside0 (Kd.R Kd.string 9 wc w.heap.size (fun _ => True) (.slice (some ad1437) t1434.length co8) t1434) ∧ Aside0 (wc.heap[gb1430]? = some (.cells #[.string (⟨#[]⟩ : ByteArray), (.slice none 0 0), (.slice none 0 0), .int .i64 0, (.slice none 0 0), .string (⟨#[]⟩ : ByteArray), .int .i64 0] 31 (0, 0))) ∧ Aside0 (Below w.heap.size w wc))
 case first =>
  have H := HC14.out
  clear HC14
  by_cases c17 : t1439 = true
  rotate_left
  ·replace c17 := Bool.eq_false_iff.mpr c17
   subst c17
   rw [if_neg (show ¬ (false = true) by decide)] at H
   have H' := am H
   clear H
   go_wp2
   go_meet
   case rel => exact ⟨_, (true), rs, H', ⟨by first | omega | exact Nat.le_refl _⟩, ⟨by (with_reducible repeat (first | apply Kd.R_alloc | apply Kd.R_drewN | apply Kd.R_drew)); exact HO1436.out⟩, ⟨by (with_reducible repeat (first | refine blk_drewN ?_ _ | refine blk_drew ?_ | refine blk_alloc ?_ _)); exact BK1430.out⟩, ⟨u38HB⟩⟩
  subst c17
  rw [if_pos rfl] at H
  by_cases c18 : t1442 = true
  ·subst c18
   rw [if_pos rfl] at H
   have H' := am H
   clear H
   go_wp2
   go_meet
   case rel => exact ⟨_, (decide (t1441 > 4)), rs, H', ⟨by first | omega | exact Nat.le_refl _⟩, ⟨by (with_reducible repeat (first | apply Kd.R_alloc | apply Kd.R_drewN | apply Kd.R_drew)); exact HO1436.out⟩, ⟨by (with_reducible repeat (first | refine blk_drewN ?_ _ | refine blk_drew ?_ | refine blk_alloc ?_ _)); exact BK1430.out⟩, ⟨u38HB⟩⟩
  replace c18 := Bool.eq_false_iff.mpr c18
  subst c18
  rw [if_neg (show ¬ (false = true) by decide)] at H
  have H' := am H
  clear H
  go_wp2
  go_meet
  case rel => exact ⟨_, (true), rs, H', ⟨by first | omega | exact Nat.le_refl _⟩, ⟨by (with_reducible repeat (first | apply Kd.R_alloc | apply Kd.R_drewN | apply Kd.R_drew)); exact HO1436.out⟩, ⟨by (with_reducible repeat (first | refine blk_drewN ?_ _ | refine blk_drew ?_ | refine blk_alloc ?_ _)); exact BK1430.out⟩, ⟨u38HB⟩⟩
 case rest =>
  clear HC14
  try clear c1
  try clear p1
  try clear q1
  try clear hx1
  try clear qi1
  try clear p2
  try clear c3
  try clear c9
  try clear c9b0
  try clear c9b1
  try clear c10
  try clear c10b0
  try clear c10b1
  try clear c11
  try clear c12
  try clear c12b0
  try clear c12b1
  try clear p14
  try clear q14
  try clear hx14
  try clear qi14
  try clear c17
  try clear c18
  try clear hx1437_0
  try clear hx1440_0
  try clear p1437
  try clear p1440
  try clear q1437
  try clear q1440
  obtain ⟨kq, x53_13, rfl, HA, HJ13, HO_7, BK1430, HB⟩ := hcut
  cases kq with
  | zero => exact absurd HA.out (by simp [impl_ObjRead.j0])
  | succ kj13 =>
   have H := HA.out
   clear HA
   simp only [impl_ObjRead.j0] at H
   by_cases c19 : x53_13 = true
   ·subst c19
    rw [if_pos rfl] at H
    simp only [Option.some.injEq, Prod.mk.injEq] at H
    obtain ⟨rfl, rfl, rfl, rfl, rfl, rfl, rfl, rfl⟩ := H
    obtain ⟨z20_0, y20_0, z20_1, y20_1, z20_2, y20_2, z20_3, y20_3, z20_4, y20_4, z20_5, y20_5, z20_6, y20_6⟩ := cl7 BK1430
    go_wp2
    refine bodyPost_ret (results_ct rfl _ _ gb1430 31 #[.string (⟨#[]⟩ : ByteArray), .slice none 0 0, .slice none 0 0, .int .i64 0, .slice none 0 0, .string (⟨#[]⟩ : ByteArray), .int .i64 0] (0, 0) _ rfl (pt0 BK1430) Tryz.underlying31 rfl (by kernel_rfl)) rfl ?_
    exact ⟨_, _, _, rf, by first | exact Kd.R_nil _ _ _ _ _ | exact Kd.N_nil _ _ _ _ _ | exact Kd.V_nil _ _ _ _ _ | exact Kd.Q_nil _ _ _ _ _ | exact Kd.S_nil _ _ _ _ _, by first | exact Kd.R_nil _ _ _ _ _ | exact Kd.N_nil _ _ _ _ _ | exact Kd.V_nil _ _ _ _ _ | exact Kd.Q_nil _ _ _ _ _ | exact Kd.S_nil _ _ _ _ _, by first | exact Kd.R_nil _ _ _ _ _ | exact Kd.N_nil _ _ _ _ _ | exact Kd.V_nil _ _ _ _ _ | exact Kd.Q_nil _ _ _ _ _ | exact Kd.S_nil _ _ _ _ _, bl⟩
   replace c19 := Bool.eq_false_iff.mpr c19
   subst c19
   rw [if_neg (show ¬ (false = true) by decide)] at H
   revert H
   refine ifn fun c21 H => ?_
   have c21b0 := decide_eq_true c21
   have c21b1 : decide (1 < t1434.length) = true := decide_eq_true (by omega)
   clear c21
   have H' := am H
   clear H
   have p1443 : 0 ≤ (1 : Int) := (by omega)
   have q1443 : 1 < (t1434.length : Int) := od
   obtain ⟨ad1443, e1443, hx1443_0⟩ := Kd.at_string (Kd.R_reads' HO_7.out).2.2 1 p1443 q1443
   obtain rfl : ad1437 = ad1443 := (by injection e1443)
   (try simp only [show (1 : Int).toNat = 1 from rfl, Nat.reduceMul, Nat.reduceEqDiff, Go.Addr.add, ↓reduceIte] at hx1443_0)
   have qi1443 : (1 < t1434.length) = True := eq_true (by omega)
   (try rw [show ((1 : Int)).toNat = 1 from rfl] at hx1443_0)
   replace p1443 := eq_true p1443
   replace q1443 := eq_true q1443
   go_wp2_with ((with_reducible refine gw ?_); first | (refine bx 12 #[.string (⟨#[]⟩ : ByteArray), .slice none 0 0, .slice none 0 0, .int .i64 0, .slice none 0 0, .string (⟨#[]⟩ : ByteArray), .int .i64 0] 31 ?_; intro gb1444 hg w22 hbox hb; replace HO_7 := am (Kd.R_below (ro HO_7) hb); have BK1444 := am (hbox); have GW1444 := am (sz hg : w.heap.size ≤ gb1444); have GE1444 := am (sz hg : w.heap.size ≤ gb1444); replace HB := am (below_step bl hb); have NB1430_1444 := am (nl hg BK1430 : gb1430 ≠ gb1444); have NB1444_1430 := am (ng hg BK1430 : gb1444 ≠ gb1430); replace BK1430 := kb BK1430 hb; clear hb hbox hg; have hnb23 := NB1444_1430.out; have hnc23 := NB1430_1444.out; obtain ⟨z24_0, y24_0, z24_1, y24_1, z24_2, y24_2, z24_3, y24_3, z24_4, y24_4, z24_5, y24_5, z24_6, y24_6⟩ := cl7 BK1444))
   (try simp only [Act.put, List.setIfInBounds_toArray, List.set_cons_zero, List.set_cons_succ])
   go_loopg [5, 61] kj13 (fun kq v5 v61 w' => ∃ (x5_2 : ByteArray) (x61_2 : Int) (x1445002_2 : List ByteArray) (u1445002 : Value), v5 = .string x5_2 ∧ v61 = .int .i64 x61_2 ∧ Aside0 (impl_ObjRead.l0 kq a0 x5_2 t1441 x61_2 (rdOf ByteArray.empty t1434 1) x1445002_2 0 (⟨#[]⟩ : ByteArray) t1438 = some (r1, r2, r3, r4, r5, r6, r7, r8)) ∧ Aside0 (kq ≤ kj13) ∧ Aside0 (Kd.R Kd.string 9 w' w.heap.size (fun _ => True) u1445002 x1445002_2) ∧ Aside0 (w'.heap[gb1430]? = some (.cells #[.string (⟨#[]⟩ : ByteArray), (.slice none 0 0), (.slice none 0 0), .int .i64 0, (.slice none 0 0), .string (⟨#[]⟩ : ByteArray), .int .i64 0] 31 (0, 0))) ∧ Aside0 (w'.heap[gb1444]? = some (.cells #[.string (rdOf ByteArray.empty t1434 1), (.slice none 0 0), u1445002, .int .i64 0, (.slice none 0 0), .string (⟨#[]⟩ : ByteArray), .int .i64 t1438] 31 (0, 0))) ∧ Aside0 (Below w.heap.size w w'))
   case atStart => exact ⟨(t1432), (0), (([] : List ByteArray)), (.slice none 0 0), rs, rs, H', ⟨Nat.le_refl _⟩, ⟨by first | exact Kd.R_nil _ _ _ _ _ | exact Kd.N_nil _ _ _ _ _ | exact Kd.V_nil _ _ _ _ _ | exact Kd.Q_nil _ _ _ _ _ | exact Kd.S_nil _ _ _ _ _⟩, ⟨by (with_reducible repeat (first | refine blk_drewN ?_ _ | refine blk_drew ?_ | refine blk_alloc ?_ _)); refine blk_far ?_ NB1430_1444.out _; (with_reducible repeat (first | refine blk_drewN ?_ _ | refine blk_drew ?_ | refine blk_alloc ?_ _)); refine blk_far ?_ NB1430_1444.out _; (with_reducible repeat (first | refine blk_drewN ?_ _ | refine blk_drew ?_ | refine blk_alloc ?_ _)); refine blk_far ?_ NB1430_1444.out _; (with_reducible repeat (first | refine blk_drewN ?_ _ | refine blk_drew ?_ | refine blk_alloc ?_ _)); refine blk_far ?_ NB1430_1444.out _; (with_reducible repeat (first | refine blk_drewN ?_ _ | refine blk_drew ?_ | refine blk_alloc ?_ _)); refine blk_far ?_ NB1430_1444.out _; (with_reducible repeat (first | refine blk_drewN ?_ _ | refine blk_drew ?_ | refine blk_alloc ?_ _)); refine blk_far ?_ NB1430_1444.out _; (with_reducible repeat (first | refine blk_drewN ?_ _ | refine blk_drew ?_ | refine blk_alloc ?_ _)); refine blk_far ?_ NB1430_1444.out _; (with_reducible repeat (first | refine blk_drewN ?_ _ | refine blk_drew ?_ | refine blk_alloc ?_ _)); exact BK1430.out⟩, ⟨pt0 BK1444⟩, ⟨u38HB⟩⟩
   case round =>
    clear H'
    try clear c1
    try clear p1
    try clear q1
    try clear hx1
    try clear qi1
    try clear c2
    try clear p2
    try clear c3
    try clear c9
    try clear c9b0
    try clear c9b1
    try clear c10
    try clear c10b0
    try clear c10b1
    try clear c11
    try clear c12
    try clear c12b0
    try clear c12b1
    try clear p14
    try clear q14
    try clear hx14
    try clear qi14
    try clear c17
    try clear c18
    try clear c19
    try clear c21
    try clear c21b0
    try clear c21b1
    try clear c23
    try clear z20_0
    try clear z20_1
    try clear z20_2
    try clear z20_3
    try clear z20_4
    try clear z20_5
    try clear z20_6
    try clear z24_0
    try clear z24_1
    try clear z24_2
    try clear z24_3
    try clear z24_4
    try clear z24_5
    try clear z24_6
    try clear y20_0
    try clear y20_1
    try clear y20_2
    try clear y20_3
    try clear y20_4
    try clear y20_5
    try clear y20_6
    try clear y24_0
    try clear y24_1
    try clear y24_2
    try clear y24_3
    try clear y24_4
    try clear y24_5
    try clear y24_6
    try clear hx1437_0
    try clear hx1440_0
    try clear hx1443_0
    try clear p1
    try clear p14
    try clear p1437
    try clear p1440
    try clear p1443
    try clear p2
    try clear q1
    try clear q14
    try clear q1437
    try clear q1440
    try clear q1443
    obtain ⟨x5_2, x61_2, x1445002_2, u1445002, rfl, rfl, HA, HK2, HO_1445002, BK1430, BK1444, HB⟩ := hrel
    cases gk with
    | zero => exact absurd HA.out (by simp [impl_ObjRead.l0])
    | succ k2 =>
     have H := HA.out
     clear HA
     simp only [impl_ObjRead.l0] at H
     by_cases c25 : x61_2 < t1441
     ·rw [if_pos c25] at H
      have c25b0 := decide_eq_true c25
      clear c25
      revert H
      refine ok3 fun t1445 t1446 t1447 A26 H => ?_
      (try dsimp only at H)
      revert H
      refine ifn fun c27 H => ?_
      have LMc27 := am c27
      clear c27
      obtain ⟨y1448, hy1448⟩ : ∃ y_ : List ByteArray, y_ = (x1445002_2 ++ [t1445]) := ⟨_, rfl⟩
      replace H : (impl_ObjRead.l0 k2 a0 t1446 t1441 (wrap64 (x61_2 + 1)) (rdOf ByteArray.empty t1434 1) y1448 0 (⟨#[]⟩ : ByteArray) t1438) = some (r1, r2, r3, r4, r5, r6, r7, r8) := by first | (rw [hy1448]; with_reducible exact H) | (have H2_ := (Option.bind_some _ _).symm.trans H; rw [hy1448]; with_reducible exact H2_) | (have H2_ := (Option.bind_some _ _).symm.trans H; with_reducible exact H2_) | with_reducible exact H | (rw [hy1448]; exact H) | exact H
      have Ny1448 := am hy1448
      clear hy1448
      have H' := am H
      clear H
      go_wp2_with (first | ((with_reducible refine gw ?_); first | (refine gl 65 Tryz.func108 #[.string x5_2, .string (⟨#[10]⟩ : ByteArray)] ?_; (with_reducible refine (strings_Cut.calls x5_2 (⟨#[10]⟩ : ByteArray) t1445 t1446 t1447 _ ?side1 A26.out).mono ?_); (case side1 => exact GLOBM.below HGM.out bl); rintro e w28 ⟨rfl, hb⟩; refine ⟨_, rfl, ?_⟩; replace HO_1445002 := kr HO_1445002 hb; replace BK1430 := kb BK1430 hb; replace BK1444 := kb BK1444 hb; replace HB := am (below_step bl hb); clear hb; have hnb29 := NB1444_1430.out; have hnc29 := NB1430_1444.out; obtain ⟨z30_0, y30_0, z30_1, y30_1, z30_2, y30_2, z30_3, y30_3, z30_4, y30_4, z30_5, y30_5, z30_6, y30_6⟩ := cl7 BK1444)) | ((with_reducible refine gate_builtin (b := .append) (xs := #[.tmp 70, .tmp 72]) rfl ?_); at_builtin; refine Kd.R_append Kd.string (w0 := w) w.heap.size rfl (.tmp 70) (.tmp 72) 26 9 (.string ⟨#[]⟩) 16 rfl Tryz.underlying26 info9 rfl (by decide) (by omega) u1445002 x1445002_2 t1445 [.string t1445] (fun _ => True) (fun _ => False) rfl rfl ?aP (fun _ hk => hk.elim) ?aF ?aO ?aB ?aS ?aL ?_; (case aP => exact rfl); (case aB => exact bl); (case aF => exact (fun _ _ => trivial)); (case aO => exact (ro HO_1445002)); (case aS => exact (below_size bl)); (case aL => have := LMc27.out; omega); intro v1449 w31 ho hb hg hat; rw [← Ny1448.out] at ho; have n0_ := am (blk_grown (g := gb1430) (o := .cells #[.string (⟨#[]⟩ : ByteArray), .slice none 0 0, .slice none 0 0, .int .i64 0, .slice none 0 0, .string (⟨#[]⟩ : ByteArray), .int .i64 0] 31 (0, 0)) (bk BK1430) hg (Kd.R_ne HO_1445002.out BK1430.out (by decide))); have n1_ := am (blk_grown (g := gb1444) (o := .cells #[.string (rdOf ByteArray.empty t1434 1), .slice none 0 0, u1445002, .int .i64 0, .slice none 0 0, .string (⟨#[]⟩ : ByteArray), .int .i64 t1438] 31 (0, 0)) (bk BK1444) hg (Kd.R_ne HO_1445002.out BK1444.out (by decide))); have n2_ := am (hb); have n3_ := am (ho); clear BK1430; clear BK1444; clear HB; clear HO_1445002; have BK1430 := n0_; have BK1444 := n1_; have HB := n2_; have HO1450 := n3_; clear n0_ n1_ n2_ n3_; clear ho hb hg hat; obtain ⟨Ao32, co32, eo32⟩ := Kd.R_slice HO1450.out; subst eo32; obtain ⟨z33_0, y33_0, z33_1, y33_1, z33_2, y33_2, z33_3, y33_3, z33_4, y33_4, z33_5, y33_5, z33_6, y33_6⟩ := cl7 BK1444))
      go_roundg k2
      case measure => have := HJ13.out; have := HK2.out; omega
      case rel => exact ⟨(t1446), (wrap64 (x61_2 + 1)), (y1448), (.slice Ao32 y1448.length co32), rs, rs, H', ⟨by have := HJ13.out; have := HK2.out; omega⟩, ⟨rg (Kd.R_types HO1450.out BK1444.out (by decide))⟩, ⟨by (with_reducible repeat (first | refine blk_drewN ?_ _ | refine blk_drew ?_ | refine blk_alloc ?_ _)); refine blk_far ?_ NB1430_1444.out _; (with_reducible repeat (first | refine blk_drewN ?_ _ | refine blk_drew ?_ | refine blk_alloc ?_ _)); exact BK1430.out⟩, ⟨pt0 BK1444⟩, ⟨u38HB⟩⟩
     rw [if_neg c25] at H
     have c25b0 := decide_eq_false c25
     clear c25
     revert H
     refine ok4 fun t1451 t1452 t1455 t1456 A34 H => ?_
     (try dsimp only at H)
     revert H
     refine ok1 fun t1458 A35 H => ?_
     by_cases c36 : t1456 = true
     rotate_left
     ·replace c36 := Bool.eq_false_iff.mpr c36
      subst c36
      rw [if_neg (show ¬ (false = true) by decide)] at H
      simp only [Option.some.injEq, Prod.mk.injEq] at H
      obtain ⟨rfl, rfl, rfl, rfl, rfl, rfl, rfl, rfl⟩ := H
      try go_wp2_with ((with_reducible refine gw ?_); first | (refine gl 79 Tryz.func111 #[.string x5_2] ?_; (with_reducible refine (impl_RespRead.calls k2 x5_2 t1451 t1452 t1455 false _ ?side1 ?side2 ?side3 A34.out).mono ?_); (case side1 => exact GLOBE.below HGE.out bl); (case side2 => exact GLOBM.below HGM.out bl); (case side3 => exact GLOBT.below HGT.out bl); rintro e w66 ⟨v1453, rfl, ho0, hb⟩; refine ⟨_, rfl, ?_⟩; replace HO_1445002 := kr HO_1445002 hb; have HO1454 := am (Kd.R_lower ho0 (below_size bl)); replace BK1430 := kb BK1430 hb; replace BK1444 := kb BK1444 hb; replace HB := am (below_step bl hb); clear hb ho0) | (refine bx 16 #[.int .i64 0, .slice none 0 0, .string (⟨#[]⟩ : ByteArray)] 29 ?_; intro gb1457 hg w67 hbox hb; replace HO_1445002 := am (Kd.R_below (ro HO_1445002) hb); replace HO1454 := am (Kd.R_below (ro HO1454) hb); have BK1457 := am (hbox); have GW1457 := am (sz hg : w.heap.size ≤ gb1457); have GE1457 := am (sz hg : w.heap.size ≤ gb1457); replace HB := am (below_step bl hb); have NB1430_1457 := am (nl hg BK1430 : gb1430 ≠ gb1457); have NB1457_1430 := am (ng hg BK1430 : gb1457 ≠ gb1430); replace BK1430 := kb BK1430 hb; have NB1444_1457 := am (nl hg BK1444 : gb1444 ≠ gb1457); have NB1457_1444 := am (ng hg BK1444 : gb1457 ≠ gb1444); replace BK1444 := kb BK1444 hb; clear hb hbox hg; have hnb68 := NB1457_1430.out; have hnc68 := NB1430_1457.out; have hnb69 := NB1457_1444.out; have hnc69 := NB1444_1457.out; obtain ⟨z70_0, y70_0, z70_1, y70_1, z70_2, y70_2⟩ := cl3 BK1457; obtain ⟨Ao71, co71, eo71⟩ := Kd.R_slice HO1454.out; subst eo71))
      have n0_ : Aside0 (Kd.R Kd.string 9 (((w67.setCell ⟨gb1457, 0, none⟩ (.int .i64 t1451)).setCell ⟨gb1457, 1, none⟩ (.slice Ao71 t1452.length co71)).setCell ⟨gb1457, 2, none⟩ (.string t1455)) w.heap.size (fun _ => True) u1445002 x1445002_2) := ⟨rg (Kd.R_types HO_1445002.out BK1457.out (by decide))⟩
      have n1_ : Aside0 (Kd.R k116 116 (((w67.setCell ⟨gb1457, 0, none⟩ (.int .i64 t1451)).setCell ⟨gb1457, 1, none⟩ (.slice Ao71 t1452.length co71)).setCell ⟨gb1457, 2, none⟩ (.string t1455)) w.heap.size (fun _ => True) (.slice Ao71 t1452.length co71) t1452) := ⟨rg (Kd.R_types HO1454.out BK1457.out (by decide))⟩
      have n2_ : Aside0 ((((w67.setCell ⟨gb1457, 0, none⟩ (.int .i64 t1451)).setCell ⟨gb1457, 1, none⟩ (.slice Ao71 t1452.length co71)).setCell ⟨gb1457, 2, none⟩ (.string t1455)).heap[gb1430]? = some (.cells #[.string (⟨#[]⟩ : ByteArray), .slice none 0 0, .slice none 0 0, .int .i64 0, .slice none 0 0, .string (⟨#[]⟩ : ByteArray), .int .i64 0] 31 (0, 0))) := ⟨by (with_reducible repeat (first | refine blk_drewN ?_ _ | refine blk_drew ?_ | refine blk_alloc ?_ _)); refine blk_far ?_ NB1430_1457.out _; (with_reducible repeat (first | refine blk_drewN ?_ _ | refine blk_drew ?_ | refine blk_alloc ?_ _)); refine blk_far ?_ NB1430_1457.out _; (with_reducible repeat (first | refine blk_drewN ?_ _ | refine blk_drew ?_ | refine blk_alloc ?_ _)); refine blk_far ?_ NB1430_1457.out _; (with_reducible repeat (first | refine blk_drewN ?_ _ | refine blk_drew ?_ | refine blk_alloc ?_ _)); exact BK1430.out⟩
      have n3_ : Aside0 ((((w67.setCell ⟨gb1457, 0, none⟩ (.int .i64 t1451)).setCell ⟨gb1457, 1, none⟩ (.slice Ao71 t1452.length co71)).setCell ⟨gb1457, 2, none⟩ (.string t1455)).heap[gb1444]? = some (.cells #[.string (rdOf ByteArray.empty t1434 1), .slice none 0 0, u1445002, .int .i64 0, .slice none 0 0, .string (⟨#[]⟩ : ByteArray), .int .i64 t1438] 31 (0, 0))) := ⟨by (with_reducible repeat (first | refine blk_drewN ?_ _ | refine blk_drew ?_ | refine blk_alloc ?_ _)); refine blk_far ?_ NB1444_1457.out _; (with_reducible repeat (first | refine blk_drewN ?_ _ | refine blk_drew ?_ | refine blk_alloc ?_ _)); refine blk_far ?_ NB1444_1457.out _; (with_reducible repeat (first | refine blk_drewN ?_ _ | refine blk_drew ?_ | refine blk_alloc ?_ _)); refine blk_far ?_ NB1444_1457.out _; (with_reducible repeat (first | refine blk_drewN ?_ _ | refine blk_drew ?_ | refine blk_alloc ?_ _)); exact BK1444.out⟩
      have n4_ : Aside0 ((((w67.setCell ⟨gb1457, 0, none⟩ (.int .i64 t1451)).setCell ⟨gb1457, 1, none⟩ (.slice Ao71 t1452.length co71)).setCell ⟨gb1457, 2, none⟩ (.string t1455)).heap[gb1457]? = some (.cells #[.int .i64 t1451, .slice Ao71 t1452.length co71, .string t1455] 29 (0, 0))) := ⟨pt0 BK1457⟩
      have n5_ : Aside0 (Below w.heap.size w (((w67.setCell ⟨gb1457, 0, none⟩ (.int .i64 t1451)).setCell ⟨gb1457, 1, none⟩ (.slice Ao71 t1452.length co71)).setCell ⟨gb1457, 2, none⟩ (.string t1455))) := ⟨u38HB⟩
      (try clear HO_1445002)
      (try clear HO1454)
      (try clear BK1430)
      (try clear BK1444)
      (try clear BK1457)
      (try clear HB)
      generalize (((w67.setCell ⟨gb1457, 0, none⟩ (.int .i64 t1451)).setCell ⟨gb1457, 1, none⟩ (.slice Ao71 t1452.length co71)).setCell ⟨gb1457, 2, none⟩ (.string t1455)) = w72 at n0_ n1_ n2_ n3_ n4_ n5_ ⊢
      have HO_1445002 := n0_
      have HO1454 := n1_
      have BK1430 := n2_
      have BK1444 := n3_
      have BK1457 := n4_
      have HB := n5_
      clear n0_ n1_ n2_ n3_ n4_ n5_
      replace HO_1445002 := am (Kd.R_drew HO_1445002.out)
      replace HO1454 := am (Kd.R_drew HO1454.out)
      replace BK1430 := am (blk_drew BK1430.out)
      replace BK1444 := am (blk_drew BK1444.out)
      replace BK1457 := am (blk_drew BK1457.out)
      replace HB := am (below_drew1 HB.out)
      refine start_ (n := 8) (S := fun w' => w'.cell? ⟨gb1457, 0, none⟩ = some (.int .i64 t1451) ∧ w'.cell? ⟨gb1457, 1, none⟩ = some (.slice Ao71 t1452.length co71) ∧ w'.cell? ⟨gb1457, 2, none⟩ = some (.string t1455)) (ds := []) ⟨br true [0, 8]⟩ (by kernel_rfl) rfl (by kernel_rfl) ⟨bc BK1457, bc BK1457, bc BK1457⟩ (fun hHeld => ?_); refine with_tabW impl_ObjRead.tab17 impl_ObjRead.bits17 (fun HT_ HW_ => ?_)
      generalize w72.drew = w73 at HO_1445002 HO1454 BK1430 BK1444 BK1457 HB hHeld ⊢
      refine pu 1 83 [0, 1, 1, 6] ?_
      refine tk 0 82 [2, 6] ?_
      refine pu 4 86 [2, 2, 1, 3] ?_
      refine tk 2 84 [3, 1, 1, 3] ?_
      refine og 3 85 [5, 3] Tryz.func73 #[.slice Ao71 t1452.length co71] (fun K hK => ?_)
      with_reducible refine (impl_VaryOf.calls k2 _ _ t1452 t1458 _ ?side1 ?side2 ?side3 A35.out).mono ?_
      (case side1 => exact GLOBM.below HGM.out bl)
      (case side2 => exact rc HO1454)
      (case side3 => exact (Kd.R_reads' HO1454.out).2.1)
      rintro e w74 ⟨v1459, rfl, ho0, hb⟩
      refine ⟨_, rfl, ?_⟩
      replace HO1454 := kr HO1454 hb
      have HO1460 := am (Kd.R_lower (Kd.R_new' ho0 (Kd.R_lt (ro HO_1445002))) (below_size bl))
      replace HO_1445002 := am (Kd.R_elder' (ro HO_1445002) (Kd.R_base ho0) hb)
      replace BK1430 := kb BK1430 hb
      replace BK1444 := kb BK1444 hb
      replace BK1457 := kb BK1457 hb
      replace HB := am (below_step bl hb)
      clear hb ho0
      obtain ⟨Ao78, co78, eo78⟩ := Kd.R_slice HO1460.out
      (first | subst eo78 | (injection eo78 with f1_ f2_ f3_; have f4_ := f1_.symm; have f5_ := f3_.symm; clear f1_ f2_ f3_; subst f4_; subst f5_))
      refine hK.out _ _ ⟨bc BK1457, bc BK1457, bc BK1457⟩ (fun hHeld => ?_)
      clear hK K
      refine nm 85 ?_
      refine one_ (i := 5) (N := none) #[true, true, true, true, true, true, false, false] rfl rfl (one_of HT_.out (by kernel_rfl)) (by decide) (fun K hK => ?_)
      have hs75 : w74.cell? ⟨gb1444, 3, none⟩ = some (.int .i64 0) := bc BK1444
      have hfs75 := blk_frozen BK1444.out 3
      have hns75_0 := NB1430_1444.out
      have hns75_2 := NB1457_1444.out
      have hms75_0 := NB1444_1430.out
      have hms75_2 := NB1444_1457.out
      have hs76 : w74.cell? ⟨gb1444, 4, none⟩ = some (.slice none 0 0) := bc BK1444
      have hfs76 := blk_frozen BK1444.out 4
      have hns76_0 := NB1430_1444.out
      have hns76_2 := NB1457_1444.out
      have hms76_0 := NB1444_1430.out
      have hms76_2 := NB1444_1457.out
      have hs77 : w74.cell? ⟨gb1444, 5, none⟩ = some (.string (⟨#[]⟩ : ByteArray)) := bc BK1444
      have hfs77 := blk_frozen BK1444.out 5
      have hns77_0 := NB1430_1444.out
      have hns77_2 := NB1457_1444.out
      have hms77_0 := NB1444_1430.out
      have hms77_2 := NB1444_1457.out
      refine skip_ (w1 := ?_) (by rfl) rfl ?_ ?_
      rotate_left
      ·go_simp
       rfl
      refine hK.out _ _ ⟨((cell_far (p := ⟨gb1444, _, none⟩) NB1457_1444.out _).trans (((cell_far (p := ⟨gb1444, _, none⟩) NB1457_1444.out _).trans (((cell_far (p := ⟨gb1444, _, none⟩) NB1457_1444.out _).trans (hHeld.1)))))), ((cell_far (p := ⟨gb1444, _, none⟩) NB1457_1444.out _).trans (((cell_far (p := ⟨gb1444, _, none⟩) NB1457_1444.out _).trans (((cell_far (p := ⟨gb1444, _, none⟩) NB1457_1444.out _).trans (hHeld.2.1)))))), ((cell_far (p := ⟨gb1444, _, none⟩) NB1457_1444.out _).trans (((cell_far (p := ⟨gb1444, _, none⟩) NB1457_1444.out _).trans (((cell_far (p := ⟨gb1444, _, none⟩) NB1457_1444.out _).trans (hHeld.2.2))))))⟩ (fun hHeld => ?_)
      clear hK K
      refine pu 6 87 [7, 1] ?_
      refine one_ (i := 7) (N := none) #[true, true, true, true, true, true, true, true] rfl rfl (one_of HT_.out (by kernel_rfl)) (by decide) (fun K hK => ?_)
      have hs79 : w74.cell? ⟨gb1444, 1, none⟩ = some (.slice none 0 0) := bc BK1444
      have hfs79 := blk_frozen BK1444.out 1
      have hns79_0 := NB1430_1444.out
      have hns79_2 := NB1457_1444.out
      have hms79_0 := NB1444_1430.out
      have hms79_2 := NB1444_1457.out
      refine skip_ (w1 := ?_) (by rfl) rfl ?_ ?_
      rotate_left
      ·go_simp
       rfl
      refine hK.out _ _ ⟨((cell_far (p := ⟨gb1444, _, none⟩) NB1457_1444.out _).trans (hHeld.1)), ((cell_far (p := ⟨gb1444, _, none⟩) NB1457_1444.out _).trans (hHeld.2.1)), ((cell_far (p := ⟨gb1444, _, none⟩) NB1457_1444.out _).trans (hHeld.2.2))⟩ (fun hHeld => ?_)
      clear hK K
      refine done_ (done_of HT_.out (by kernel_rfl)) ?_
      have hnb80 := NB1430_1444.out
      have hnc80 := NB1444_1430.out
      obtain ⟨z81_0, y81_0, z81_1, y81_1, z81_2, y81_2, z81_3, y81_3, z81_4, y81_4, z81_5, y81_5, z81_6, y81_6⟩ := cl7 BK1430
      try go_wp2
      refine bodyPost_ret (results_ct rfl _ _ gb1430 31 #[.string (⟨#[]⟩ : ByteArray), .slice none 0 0, .slice none 0 0, .int .i64 0, .slice none 0 0, .string (⟨#[]⟩ : ByteArray), .int .i64 0] (0, 0) _ rfl (pt1 BK1430 NB1430_1444) Tryz.underlying31 rfl (by kernel_rfl)) rfl ?_
      exact ⟨_, _, _, rf, by first | exact Kd.R_nil _ _ _ _ _ | exact Kd.N_nil _ _ _ _ _ | exact Kd.V_nil _ _ _ _ _ | exact Kd.Q_nil _ _ _ _ _ | exact Kd.S_nil _ _ _ _ _, by first | exact Kd.R_nil _ _ _ _ _ | exact Kd.N_nil _ _ _ _ _ | exact Kd.V_nil _ _ _ _ _ | exact Kd.Q_nil _ _ _ _ _ | exact Kd.S_nil _ _ _ _ _, by first | exact Kd.R_nil _ _ _ _ _ | exact Kd.N_nil _ _ _ _ _ | exact Kd.V_nil _ _ _ _ _ | exact Kd.Q_nil _ _ _ _ _ | exact Kd.S_nil _ _ _ _ _, bl⟩
     subst c36
     rw [if_pos rfl] at H
     revert H
     refine ok1 fun t1461 A37 H => ?_
     have HH38 := am H
     clear H
     try go_wp2_with ((with_reducible refine gw ?_); first | (refine gl 79 Tryz.func111 #[.string x5_2] ?_; (with_reducible refine (impl_RespRead.calls k2 x5_2 t1451 t1452 t1455 true _ ?side1 ?side2 ?side3 A34.out).mono ?_); (case side1 => exact GLOBE.below HGE.out bl); (case side2 => exact GLOBM.below HGM.out bl); (case side3 => exact GLOBT.below HGT.out bl); rintro e w39 ⟨v1453, rfl, ho0, hb⟩; refine ⟨_, rfl, ?_⟩; replace HO_1445002 := kr HO_1445002 hb; have HO1454 := am (Kd.R_lower ho0 (below_size bl)); replace BK1430 := kb BK1430 hb; replace BK1444 := kb BK1444 hb; replace HB := am (below_step bl hb); clear hb ho0) | (refine bx 16 #[.int .i64 0, .slice none 0 0, .string (⟨#[]⟩ : ByteArray)] 29 ?_; intro gb1457 hg w40 hbox hb; replace HO_1445002 := am (Kd.R_below (ro HO_1445002) hb); replace HO1454 := am (Kd.R_below (ro HO1454) hb); have BK1457 := am (hbox); have GW1457 := am (sz hg : w.heap.size ≤ gb1457); have GE1457 := am (sz hg : w.heap.size ≤ gb1457); replace HB := am (below_step bl hb); have NB1430_1457 := am (nl hg BK1430 : gb1430 ≠ gb1457); have NB1457_1430 := am (ng hg BK1430 : gb1457 ≠ gb1430); replace BK1430 := kb BK1430 hb; have NB1444_1457 := am (nl hg BK1444 : gb1444 ≠ gb1457); have NB1457_1444 := am (ng hg BK1444 : gb1457 ≠ gb1444); replace BK1444 := kb BK1444 hb; clear hb hbox hg; have hnb41 := NB1457_1430.out; have hnc41 := NB1430_1457.out; have hnb42 := NB1457_1444.out; have hnc42 := NB1444_1457.out; obtain ⟨z43_0, y43_0, z43_1, y43_1, z43_2, y43_2⟩ := cl3 BK1457; obtain ⟨Ao44, co44, eo44⟩ := Kd.R_slice HO1454.out; subst eo44))
     have n0_ : Aside0 (Kd.R Kd.string 9 (((w40.setCell ⟨gb1457, 0, none⟩ (.int .i64 t1451)).setCell ⟨gb1457, 1, none⟩ (.slice Ao44 t1452.length co44)).setCell ⟨gb1457, 2, none⟩ (.string t1455)) w.heap.size (fun _ => True) u1445002 x1445002_2) := ⟨rg (Kd.R_types HO_1445002.out BK1457.out (by decide))⟩
     have n1_ : Aside0 (Kd.R k116 116 (((w40.setCell ⟨gb1457, 0, none⟩ (.int .i64 t1451)).setCell ⟨gb1457, 1, none⟩ (.slice Ao44 t1452.length co44)).setCell ⟨gb1457, 2, none⟩ (.string t1455)) w.heap.size (fun _ => True) (.slice Ao44 t1452.length co44) t1452) := ⟨rg (Kd.R_types HO1454.out BK1457.out (by decide))⟩
     have n2_ : Aside0 ((((w40.setCell ⟨gb1457, 0, none⟩ (.int .i64 t1451)).setCell ⟨gb1457, 1, none⟩ (.slice Ao44 t1452.length co44)).setCell ⟨gb1457, 2, none⟩ (.string t1455)).heap[gb1430]? = some (.cells #[.string (⟨#[]⟩ : ByteArray), .slice none 0 0, .slice none 0 0, .int .i64 0, .slice none 0 0, .string (⟨#[]⟩ : ByteArray), .int .i64 0] 31 (0, 0))) := ⟨by (with_reducible repeat (first | refine blk_drewN ?_ _ | refine blk_drew ?_ | refine blk_alloc ?_ _)); refine blk_far ?_ NB1430_1457.out _; (with_reducible repeat (first | refine blk_drewN ?_ _ | refine blk_drew ?_ | refine blk_alloc ?_ _)); refine blk_far ?_ NB1430_1457.out _; (with_reducible repeat (first | refine blk_drewN ?_ _ | refine blk_drew ?_ | refine blk_alloc ?_ _)); refine blk_far ?_ NB1430_1457.out _; (with_reducible repeat (first | refine blk_drewN ?_ _ | refine blk_drew ?_ | refine blk_alloc ?_ _)); exact BK1430.out⟩
     have n3_ : Aside0 ((((w40.setCell ⟨gb1457, 0, none⟩ (.int .i64 t1451)).setCell ⟨gb1457, 1, none⟩ (.slice Ao44 t1452.length co44)).setCell ⟨gb1457, 2, none⟩ (.string t1455)).heap[gb1444]? = some (.cells #[.string (rdOf ByteArray.empty t1434 1), .slice none 0 0, u1445002, .int .i64 0, .slice none 0 0, .string (⟨#[]⟩ : ByteArray), .int .i64 t1438] 31 (0, 0))) := ⟨by (with_reducible repeat (first | refine blk_drewN ?_ _ | refine blk_drew ?_ | refine blk_alloc ?_ _)); refine blk_far ?_ NB1444_1457.out _; (with_reducible repeat (first | refine blk_drewN ?_ _ | refine blk_drew ?_ | refine blk_alloc ?_ _)); refine blk_far ?_ NB1444_1457.out _; (with_reducible repeat (first | refine blk_drewN ?_ _ | refine blk_drew ?_ | refine blk_alloc ?_ _)); refine blk_far ?_ NB1444_1457.out _; (with_reducible repeat (first | refine blk_drewN ?_ _ | refine blk_drew ?_ | refine blk_alloc ?_ _)); exact BK1444.out⟩
     have n4_ : Aside0 ((((w40.setCell ⟨gb1457, 0, none⟩ (.int .i64 t1451)).setCell ⟨gb1457, 1, none⟩ (.slice Ao44 t1452.length co44)).setCell ⟨gb1457, 2, none⟩ (.string t1455)).heap[gb1457]? = some (.cells #[.int .i64 t1451, .slice Ao44 t1452.length co44, .string t1455] 29 (0, 0))) := ⟨pt0 BK1457⟩
     have n5_ : Aside0 (Below w.heap.size w (((w40.setCell ⟨gb1457, 0, none⟩ (.int .i64 t1451)).setCell ⟨gb1457, 1, none⟩ (.slice Ao44 t1452.length co44)).setCell ⟨gb1457, 2, none⟩ (.string t1455))) := ⟨u38HB⟩
     (try clear HO_1445002)
     (try clear HO1454)
     (try clear BK1430)
     (try clear BK1444)
     (try clear BK1457)
     (try clear HB)
     generalize (((w40.setCell ⟨gb1457, 0, none⟩ (.int .i64 t1451)).setCell ⟨gb1457, 1, none⟩ (.slice Ao44 t1452.length co44)).setCell ⟨gb1457, 2, none⟩ (.string t1455)) = w45 at n0_ n1_ n2_ n3_ n4_ n5_ ⊢
     have HO_1445002 := n0_
     have HO1454 := n1_
     have BK1430 := n2_
     have BK1444 := n3_
     have BK1457 := n4_
     have HB := n5_
     clear n0_ n1_ n2_ n3_ n4_ n5_
     replace HO_1445002 := am (Kd.R_drew HO_1445002.out)
     replace HO1454 := am (Kd.R_drew HO1454.out)
     replace BK1430 := am (blk_drew BK1430.out)
     replace BK1444 := am (blk_drew BK1444.out)
     replace BK1457 := am (blk_drew BK1457.out)
     replace HB := am (below_drew1 HB.out)
     refine start_ (n := 8) (S := fun w' => w'.cell? ⟨gb1457, 0, none⟩ = some (.int .i64 t1451) ∧ w'.cell? ⟨gb1457, 1, none⟩ = some (.slice Ao44 t1452.length co44) ∧ w'.cell? ⟨gb1457, 2, none⟩ = some (.string t1455)) (ds := []) ⟨br true [0, 8]⟩ (by kernel_rfl) rfl (by kernel_rfl) ⟨bc BK1457, bc BK1457, bc BK1457⟩ (fun hHeld => ?_); refine with_tabW impl_ObjRead.tab17 impl_ObjRead.bits17 (fun HT_ HW_ => ?_)
     generalize w45.drew = w46 at HO_1445002 HO1454 BK1430 BK1444 BK1457 HB hHeld ⊢
     refine pu 1 83 [0, 1, 1, 6] ?_
     refine tk 0 82 [2, 6] ?_
     refine pu 4 86 [2, 2, 1, 3] ?_
     refine tk 2 84 [3, 1, 1, 3] ?_
     refine og 3 85 [5, 3] Tryz.func73 #[.slice Ao44 t1452.length co44] (fun K hK => ?_)
     with_reducible refine (impl_VaryOf.calls k2 _ _ t1452 t1458 _ ?side1 ?side2 ?side3 A35.out).mono ?_
     (case side1 => exact GLOBM.below HGM.out bl)
     (case side2 => exact rc HO1454)
     (case side3 => exact (Kd.R_reads' HO1454.out).2.1)
     rintro e w47 ⟨v1459, rfl, ho0, hb⟩
     refine ⟨_, rfl, ?_⟩
     replace HO1454 := kr HO1454 hb
     have HO1460 := am (Kd.R_lower (Kd.R_new' ho0 (Kd.R_lt (ro HO_1445002))) (below_size bl))
     replace HO_1445002 := am (Kd.R_elder' (ro HO_1445002) (Kd.R_base ho0) hb)
     replace BK1430 := kb BK1430 hb
     replace BK1444 := kb BK1444 hb
     replace BK1457 := kb BK1457 hb
     replace HB := am (below_step bl hb)
     clear hb ho0
     obtain ⟨Ao51, co51, eo51⟩ := Kd.R_slice HO1460.out
     (first | subst eo51 | (injection eo51 with f1_ f2_ f3_; have f4_ := f1_.symm; have f5_ := f3_.symm; clear f1_ f2_ f3_; subst f4_; subst f5_))
     refine hK.out _ _ ⟨bc BK1457, bc BK1457, bc BK1457⟩ (fun hHeld => ?_)
     clear hK K
     refine nm 85 ?_
     refine one_ (i := 5) (N := none) #[true, true, true, true, true, true, false, false] rfl rfl (one_of HT_.out (by kernel_rfl)) (by decide) (fun K hK => ?_)
     have hs48 : w47.cell? ⟨gb1444, 3, none⟩ = some (.int .i64 0) := bc BK1444
     have hfs48 := blk_frozen BK1444.out 3
     have hns48_0 := NB1430_1444.out
     have hns48_2 := NB1457_1444.out
     have hms48_0 := NB1444_1430.out
     have hms48_2 := NB1444_1457.out
     have hs49 : w47.cell? ⟨gb1444, 4, none⟩ = some (.slice none 0 0) := bc BK1444
     have hfs49 := blk_frozen BK1444.out 4
     have hns49_0 := NB1430_1444.out
     have hns49_2 := NB1457_1444.out
     have hms49_0 := NB1444_1430.out
     have hms49_2 := NB1444_1457.out
     have hs50 : w47.cell? ⟨gb1444, 5, none⟩ = some (.string (⟨#[]⟩ : ByteArray)) := bc BK1444
     have hfs50 := blk_frozen BK1444.out 5
     have hns50_0 := NB1430_1444.out
     have hns50_2 := NB1457_1444.out
     have hms50_0 := NB1444_1430.out
     have hms50_2 := NB1444_1457.out
     refine skip_ (w1 := ?_) (by rfl) rfl ?_ ?_
     rotate_left
     ·go_simp
      rfl
     refine hK.out _ _ ⟨((cell_far (p := ⟨gb1444, _, none⟩) NB1457_1444.out _).trans (((cell_far (p := ⟨gb1444, _, none⟩) NB1457_1444.out _).trans (((cell_far (p := ⟨gb1444, _, none⟩) NB1457_1444.out _).trans (hHeld.1)))))), ((cell_far (p := ⟨gb1444, _, none⟩) NB1457_1444.out _).trans (((cell_far (p := ⟨gb1444, _, none⟩) NB1457_1444.out _).trans (((cell_far (p := ⟨gb1444, _, none⟩) NB1457_1444.out _).trans (hHeld.2.1)))))), ((cell_far (p := ⟨gb1444, _, none⟩) NB1457_1444.out _).trans (((cell_far (p := ⟨gb1444, _, none⟩) NB1457_1444.out _).trans (((cell_far (p := ⟨gb1444, _, none⟩) NB1457_1444.out _).trans (hHeld.2.2))))))⟩ (fun hHeld => ?_)
     clear hK K
     refine pu 6 87 [7, 1] ?_
     refine one_ (i := 7) (N := none) #[true, true, true, true, true, true, true, true] rfl rfl (one_of HT_.out (by kernel_rfl)) (by decide) (fun K hK => ?_)
     have hs52 : w47.cell? ⟨gb1444, 1, none⟩ = some (.slice none 0 0) := bc BK1444
     have hfs52 := blk_frozen BK1444.out 1
     have hns52_0 := NB1430_1444.out
     have hns52_2 := NB1457_1444.out
     have hms52_0 := NB1444_1430.out
     have hms52_2 := NB1444_1457.out
     refine skip_ (w1 := ?_) (by rfl) rfl ?_ ?_
     rotate_left
     ·go_simp
      rfl
     refine hK.out _ _ ⟨((cell_far (p := ⟨gb1444, _, none⟩) NB1457_1444.out _).trans (hHeld.1)), ((cell_far (p := ⟨gb1444, _, none⟩) NB1457_1444.out _).trans (hHeld.2.1)), ((cell_far (p := ⟨gb1444, _, none⟩) NB1457_1444.out _).trans (hHeld.2.2))⟩ (fun hHeld => ?_)
     clear hK K
     refine done_ (done_of HT_.out (by kernel_rfl)) ?_
     have hnb53 := NB1444_1430.out
     have hnc53 := NB1430_1444.out
     obtain ⟨z54_0, y54_0, z54_1, y54_1, z54_2, y54_2, z54_3, y54_3, z54_4, y54_4, z54_5, y54_5, z54_6, y54_6⟩ := cl7 BK1444
     obtain ⟨Ao55, co55, eo55⟩ := Kd.R_slice HO_1445002.out
     subst eo55
     go_upto_if 95 with (first | (go_at_call 55; (with_reducible refine (impl_ObjText.calls k2 (rdOf ByteArray.empty t1434 1) _ _ t1458 _ _ x1445002_2 t1451 _ _ t1452 t1455 t1438 t1461 _ ?side1 ?side2 ?side3 ?side4 ?side5 ?side6 ?side7 ?side8 A37.out).mono ?_); (case side1 => exact GLOBM.below HGM.out bl); (case side2 => exact GLOBT.below HGT.out bl); (case side3 => refine (Kd.R_reads' (e := 9) (base := w.heap.size) (ok := fun k_ => (True ∧ some k_ ≠ (.slice Ao55 x1445002_2.length co55 : Value).ownBlock)) (n := t1458.length) (c := co51) ?_).2.2; exact (by (with_reducible repeat (first | apply Kd.R_alloc | apply Kd.R_drewN | apply Kd.R_drew)); exact (Kd.R_mono (Kd.R_far (p := ⟨gb1444, 1, none⟩) (Kd.R_far (p := ⟨gb1444, 5, none⟩) (Kd.R_far (p := ⟨gb1444, 4, none⟩) (Kd.R_far (p := ⟨gb1444, 3, none⟩) (Kd.R_types HO1460.out BK1444.out (by decide)) (fun _ hk => hk.2) (.int .i64 t1451)) (fun _ hk => hk.2) (.slice Ao44 t1452.length co44)) (fun _ hk => hk.2) (.string t1455)) (fun _ hk => hk.2) (.slice Ao51 t1458.length co51)) (fun _ h_ => h_.1)))); (case side4 => exact (Kd.R_reads' HO1460.out).2.1); (case side5 => refine (Kd.R_reads' (e := 9) (base := w.heap.size) (ok := fun k_ => (True ∧ some k_ ≠ (.slice Ao51 t1458.length co51 : Value).ownBlock)) (n := x1445002_2.length) (c := co55) ?_).2.2; exact (by (with_reducible repeat (first | apply Kd.R_alloc | apply Kd.R_drewN | apply Kd.R_drew)); exact (Kd.R_mono (Kd.R_far (p := ⟨gb1444, 1, none⟩) (Kd.R_far (p := ⟨gb1444, 5, none⟩) (Kd.R_far (p := ⟨gb1444, 4, none⟩) (Kd.R_far (p := ⟨gb1444, 3, none⟩) (Kd.R_types HO_1445002.out BK1444.out (by decide)) (fun _ hk => hk.2) (.int .i64 t1451)) (fun _ hk => hk.2) (.slice Ao44 t1452.length co44)) (fun _ hk => hk.2) (.string t1455)) (fun _ hk => hk.2) (.slice Ao51 t1458.length co51)) (fun _ h_ => h_.1)))); (case side6 => exact (Kd.R_reads' HO_1445002.out).2.1); (case side7 => refine (Kd.R_reads' (e := 116) (base := w.heap.size) (ok := fun k_ => True) (n := t1452.length) (c := co44) ?_).2.2; exact (by (with_reducible repeat (first | apply Kd.R_alloc | apply Kd.R_drewN | apply Kd.R_drew)); exact (Kd.R_mono (Kd.R_far (p := ⟨gb1444, 1, none⟩) (Kd.R_far (p := ⟨gb1444, 5, none⟩) (Kd.R_far (p := ⟨gb1444, 4, none⟩) (Kd.R_far (p := ⟨gb1444, 3, none⟩) (Kd.R_types HO1454.out BK1444.out (by decide)) (fun _ hk => hk.2) (.int .i64 t1451)) (fun _ hk => hk.2) (.slice Ao44 t1452.length co44)) (fun _ hk => hk.2) (.string t1455)) (fun _ hk => hk.2) (.slice Ao51 t1458.length co51)) (fun _ h_ => h_.1)))); (case side8 => exact (Kd.R_reads' HO1454.out).2.1); rintro e w56 ⟨rfl, hb⟩; have n0_ := am (Kd.R_below (by (with_reducible repeat (first | apply Kd.R_alloc | apply Kd.R_drewN | apply Kd.R_drew)); exact (Kd.R_mono (Kd.R_far (p := ⟨gb1444, 1, none⟩) (Kd.R_far (p := ⟨gb1444, 5, none⟩) (Kd.R_far (p := ⟨gb1444, 4, none⟩) (Kd.R_far (p := ⟨gb1444, 3, none⟩) (Kd.R_types HO_1445002.out BK1444.out (by decide)) (fun _ hk => hk.2) (.int .i64 t1451)) (fun _ hk => hk.2) (.slice Ao44 t1452.length co44)) (fun _ hk => hk.2) (.string t1455)) (fun _ hk => hk.2) (.slice Ao51 t1458.length co51)) (fun _ h_ => h_.1))) hb); have n1_ := am (Kd.R_below (by (with_reducible repeat (first | apply Kd.R_alloc | apply Kd.R_drewN | apply Kd.R_drew)); exact (Kd.R_mono (Kd.R_far (p := ⟨gb1444, 1, none⟩) (Kd.R_far (p := ⟨gb1444, 5, none⟩) (Kd.R_far (p := ⟨gb1444, 4, none⟩) (Kd.R_far (p := ⟨gb1444, 3, none⟩) (Kd.R_types HO1454.out BK1444.out (by decide)) (fun _ hk => hk.2) (.int .i64 t1451)) (fun _ hk => hk.2) (.slice Ao44 t1452.length co44)) (fun _ hk => hk.2) (.string t1455)) (fun _ hk => hk.2) (.slice Ao51 t1458.length co51)) (fun _ h_ => h_.1))) hb); have n2_ := am (Kd.R_below (by (with_reducible repeat (first | apply Kd.R_alloc | apply Kd.R_drewN | apply Kd.R_drew)); exact (Kd.R_mono (Kd.R_far (p := ⟨gb1444, 1, none⟩) (Kd.R_far (p := ⟨gb1444, 5, none⟩) (Kd.R_far (p := ⟨gb1444, 4, none⟩) (Kd.R_far (p := ⟨gb1444, 3, none⟩) (Kd.R_types HO1460.out BK1444.out (by decide)) (fun _ hk => hk.2) (.int .i64 t1451)) (fun _ hk => hk.2) (.slice Ao44 t1452.length co44)) (fun _ hk => hk.2) (.string t1455)) (fun _ hk => hk.2) (.slice Ao51 t1458.length co51)) (fun _ h_ => h_.1))) hb); have n3_ := kg1 BK1430 NB1430_1444 hb; have n4_ := am (blk_below (g := gb1444) (o := .cells #[.string (rdOf ByteArray.empty t1434 1), .slice Ao51 t1458.length co51, .slice Ao55 x1445002_2.length co55, .int .i64 t1451, .slice Ao44 t1452.length co44, .string t1455, .int .i64 t1438] 31 (0, 0)) (pt0 BK1444) hb); have n5_ := kg1 BK1457 NB1457_1444 hb; have n6_ := am (below_step bl hb); clear HO_1445002; clear HO1454; clear HO1460; clear BK1430; clear BK1444; clear BK1457; clear HB; have HO_1445002 := n0_; have HO1454 := n1_; have HO1460 := n2_; have BK1430 := n3_; have BK1444 := n4_; have BK1457 := n5_; have HB := n6_; clear n0_ n1_ n2_ n3_ n4_ n5_ n6_; clear hb))
     have H := HH38.out
     clear HH38
     by_cases c57 : t1461.toList = a0.toList
     ·rw [if_pos c57] at H
      have c57b0 : (t1461.toList == a0.toList) = true := beq_iff_eq.mpr c57
      have c57b1 : (t1461.toList != a0.toList) = false := bne_eq_false_iff_eq.mpr c57
      clear c57
      (first | rw [c57b0] | (simp only [i64_w, i32_w]; rw [c57b0]) | skip)
      simp only [Option.some.injEq, Prod.mk.injEq] at H
      obtain ⟨rfl, rfl, rfl, rfl, rfl, rfl, rfl, rfl⟩ := H
      have hnb58 := NB1444_1430.out
      have hnc58 := NB1430_1444.out
      have hnb59 := NB1444_1457.out
      have hnc59 := NB1457_1444.out
      obtain ⟨z60_0, y60_0, z60_1, y60_1, z60_2, y60_2, z60_3, y60_3, z60_4, y60_4, z60_5, y60_5, z60_6, y60_6⟩ := cl7 BK1444
      have hnb61 := NB1430_1457.out
      have hnc61 := NB1457_1430.out
      obtain ⟨z62_0, y62_0, z62_1, y62_1, z62_2, y62_2, z62_3, y62_3, z62_4, y62_4, z62_5, y62_5, z62_6, y62_6⟩ := cl7 BK1430
      go_wp2
      refine bodyPost_ret (results_ct rfl _ _ gb1430 31 #[.string (rdOf ByteArray.empty t1434 1), .slice Ao51 t1458.length co51, .slice Ao55 x1445002_2.length co55, .int .i64 t1451, .slice Ao44 t1452.length co44, .string t1455, .int .i64 t1438] (0, 0) _ rfl (pt0 BK1430) Tryz.underlying31 rfl (by kernel_rfl)) rfl ?_
      exact ⟨_, _, _, rf, rg (Kd.R_types HO1460.out BK1430.out (by decide)), rg (Kd.R_types HO_1445002.out BK1430.out (by decide)), rg (Kd.R_types HO1454.out BK1430.out (by decide)), bl⟩
     rw [if_neg c57] at H
     have c57b0 : (t1461.toList == a0.toList) = false := beq_eq_false_iff_ne.mpr c57
     have c57b1 : (t1461.toList != a0.toList) = true := bne_iff_ne.mpr c57
     (first | rw [c57b0] | (simp only [i64_w, i32_w]; rw [c57b0]) | skip)
     simp only [Option.some.injEq, Prod.mk.injEq] at H
     obtain ⟨rfl, rfl, rfl, rfl, rfl, rfl, rfl, rfl⟩ := H
     have hnb63 := NB1430_1444.out
     have hnc63 := NB1444_1430.out
     have hnb64 := NB1430_1457.out
     have hnc64 := NB1457_1430.out
     obtain ⟨z65_0, y65_0, z65_1, y65_1, z65_2, y65_2, z65_3, y65_3, z65_4, y65_4, z65_5, y65_5, z65_6, y65_6⟩ := cl7 BK1430
     go_wp2
     refine bodyPost_ret (results_ct rfl _ _ gb1430 31 #[.string (⟨#[]⟩ : ByteArray), .slice none 0 0, .slice none 0 0, .int .i64 0, .slice none 0 0, .string (⟨#[]⟩ : ByteArray), .int .i64 0] (0, 0) _ rfl (pt0 BK1430) Tryz.underlying31 rfl (by kernel_rfl)) rfl ?_
     exact ⟨_, _, _, rf, by first | exact Kd.R_nil _ _ _ _ _ | exact Kd.N_nil _ _ _ _ _ | exact Kd.V_nil _ _ _ _ _ | exact Kd.Q_nil _ _ _ _ _ | exact Kd.S_nil _ _ _ _ _, by first | exact Kd.R_nil _ _ _ _ _ | exact Kd.N_nil _ _ _ _ _ | exact Kd.V_nil _ _ _ _ _ | exact Kd.Q_nil _ _ _ _ _ | exact Kd.S_nil _ _ _ _ _, by first | exact Kd.R_nil _ _ _ _ _ | exact Kd.N_nil _ _ _ _ _ | exact Kd.V_nil _ _ _ _ _ | exact Kd.Q_nil _ _ _ _ _ | exact Kd.S_nil _ _ _ _ _, bl⟩

end Go.Proofs.YtjlpjbkpmmpojaaGreatDoor.All
