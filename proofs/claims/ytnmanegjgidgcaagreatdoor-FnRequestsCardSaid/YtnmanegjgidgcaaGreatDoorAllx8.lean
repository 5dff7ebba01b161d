-- Written by a program of this session (wip/tools/hprint.py) out of the translation. Lean checks it.
import Derived.Test.YtnmanegjgidgcaaGreatDoorAllx0
import Derived.Test.YtnmanegjgidgcaaGreatDoorAllx2
import Derived.Test.YtnmanegjgidgcaaGreatDoorAllx6
import Derived.Test.YtnmanegjgidgcaaGreatDoorAllx7
namespace Go.Proofs.YtnmanegjgidgcaaGreatDoor.All
open Go.RowKit Go.Proofs.YtnmanegjgidgcaaGreatDoorW.PrintWords Go.Proofs.YtnmanegjgidgcaaGreatDoorW.PrintLast Go.Proofs.YtnmanegjgidgcaaGreatDoorW.PrintMore
attribute [local go_sem] max2_int min2_int max_two min_two max_three min_three max_four min_four   -- for this text's walks alone
set_option linter.unusedVariables false
set_option linter.unusedSimpArgs false

/-! ### spec_l2Draw: function 124 -/
theorem u124HI0 {p : Prop} (h : p := by repeat (first | (with_reducible first | exact HI0.out | apply IsS122.alloc | apply IsS122.drewN | apply IsS122.drew | apply IsS122.set_1 | apply IsS122.set_2) | exact HI0.out)) : p := h
theorem u124HB {p : Prop} (h : p := by repeat (first | (with_reducible first | exact HB.out | apply below_alloc | apply pw_below_drewN | apply below_drew1 | refine below_set ?_ (IsS122.ge HI0.out)) | exact HB.out)) : p := h
theorem u124HK {p : Prop} (h : p := by repeat (first | (with_reducible first | exact HK.out | apply KeepBut.set_ | apply keep_drewN | apply keep_drew | apply keep_alloc) | exact HK.out)) : p := h
def spec_l2Draw.l0 : Nat → List (S100) → List Int → Int → Int → Option ((List (S100)) × Int × Int)
 | 0, _, _, _, _ => none
 | k + 1, x3, x1000, x1001, x1002 => (spec_l1Below.f x1000 x1001 x1002 2).bind fun bt582 => (if (x3.length : Int) < (wrap64 (8 + bt582.1)) then ((spec_NumText.f k (x3.length : Int)).bind fun t585 => (if 1 + t585.size ≤ 9223372036854775807 then (if x3.length < 4398046511104 then (spec_l2Draw.l0 k (x3 ++ [(⟨(⟨#[110]⟩ : ByteArray) ++ t585, (⟨#[118]⟩ : ByteArray)⟩ : S100)]) x1000 bt582.2.1 bt582.2.2) else (none)) else (none))) else (some (x3, bt582.2.1, bt582.2.2)))
def spec_l2Draw.f (k : Nat) (s0_0 : List Int) (s0_1 : Int) (s0_2 : Int) : Option ((List (S100)) × Int × Int) := (spec_l2DrawRight.f k s0_0 s0_1 s0_2).bind fun bt545 => ((spec_l1Below.f s0_0 bt545.2.1 bt545.2.2 15).bind fun bt550 => (if bt550.1 = 0 then ((spec_l2DrawField.f s0_0 bt550.2.1 bt550.2.2).bind fun bt553 => ((spec_l2DrawField.f s0_0 bt553.2.2.1 bt553.2.2.2).bind fun bt557 => ((some (([(⟨bt553.1, bt553.2.1⟩ : S100), (⟨bt557.1, bt557.2.1⟩ : S100)] : List (S100)) : List (S100))).bind fun y561 => (if bt545.1.length + y561.length < 4398046511104 then (some ((bt545.1 ++ y561), bt557.2.2.1, bt557.2.2.2)) else (none))))) else (if bt550.1 = 1 then ((spec_l1Pick.f s0_0 bt550.2.1 bt550.2.2 (([(⟨#[]⟩ : ByteArray), (⟨#[65]⟩ : ByteArray), (⟨#[99, 111, 110, 116, 101, 110, 116, 45, 108, 101, 110, 103, 116, 104]⟩ : ByteArray)] : List ByteArray))).bind fun bt570 => ((spec_l1Pick.f s0_0 bt570.2.1 bt570.2.2 (([(⟨#[]⟩ : ByteArray), (⟨#[32, 97]⟩ : ByteArray), (⟨#[49]⟩ : ByteArray)] : List ByteArray))).bind fun bt576 => (if bt545.1.length < 4398046511104 then (some ((bt545.1 ++ [(⟨bt570.1, bt576.1⟩ : S100)]), bt576.2.1, bt576.2.2)) else (none)))) else (if bt550.1 = 2 then (spec_l2Draw.l0 k bt545.1 s0_0 bt550.2.1 bt550.2.2) else (some (bt545.1, bt550.2.1, bt550.2.2))))))
theorem spec_l2Draw.mono_l : ∀ k, (∀ y0 y1 y2 y3, LeO (spec_l2Draw.l0 k y0 y1 y2 y3) (spec_l2Draw.l0 (k + 1) y0 y1 y2 y3))
 | 0 => fun _ _ _ _ r h => by simp [spec_l2Draw.l0] at h
 | k + 1 => by
  have ih0 := spec_l2Draw.mono_l k
  ·intro y0 y1 y2 y3
   unfold spec_l2Draw.l0
   have m0 := @spec_NumText.mono
   have m1 := @spec_l2DrawRight.mono
   exact mo
theorem spec_l2Draw.mono : ∀ a0 a1 a2 k, LeO (spec_l2Draw.f k a0 a1 a2) (spec_l2Draw.f (k + 1) a0 a1 a2) := by
 intro a0 a1 a2 k
 have ih0 := spec_l2Draw.mono_l k
 unfold spec_l2Draw.f
 have m0 := @spec_NumText.mono
 have m1 := @spec_l2DrawRight.mono
 exact mo
set_option maxHeartbeats 8000000 in
set_option maxRecDepth 100000 in
theorem spec_l2Draw.calls (k : Nat) (g : Nat) (s0_0 : List Int) (s0_1 : Int) (s0_2 : Int) (r1 : List (S100)) (r2 : Int) (r3 : Int) (w0 w : World) (hI : IsS122 w0 w g s0_0 s0_1 s0_2) (hB : Below w0.heap.size w0 w) (h : spec_l2Draw.f k s0_0 s0_1 s0_2 = some (r1, r2, r3)) :
  Calls Tryz.prog 124 #[.pointer (some ⟨g, 0, none⟩)] w fun e w' => ∃ v0_ : Value, e = .returned (v0_) ∧ Kd.R k100 100 w' w.heap.size (fun _ => True) v0_ r1 ∧ IsS122 w0 w' g s0_0 r2 r3 ∧ Below w0.heap.size w0 w' ∧ KeepBut w w' g none := by
 have hu100 := Tryz.underlying100
 have HI0 := am hI
 have HK := am (KeepBut.refl w g none)
 have HL := am hB.size
 clear hI
 have HW0 := am hB.size
 have HB := am hB
 clear hB
 unfold spec_l2Draw.f at h
 have H := h
 clear h
 revert H
 refine ok3 fun t545 t548 t549 A2 H => ?_
 (try dsimp only at H)
 revert H
 refine ok3 fun t550 t551 t552 A3 H => ?_
 (try dsimp only at H)
 by_cases c4 : t550 = 0
 ·rw [if_pos c4] at H
  have c4b0 : (t550 == 0) = true := beq_iff_eq.mpr c4
  have c4b1 : (t550 != 0) = false := bne_eq_false_iff_eq.mpr c4
  clear c4
  revert H
  refine ok4 fun t553 t554 t555 t556 A5 H => ?_
  (try dsimp only at H)
  revert H
  refine ok4 fun t557 t558 t559 t560 A6 H => ?_
  (try dsimp only at H)
  obtain ⟨y561, hy561⟩ : ∃ y_ : List (S100), y_ = (([(⟨t553, t554⟩ : S100), (⟨t557, t558⟩ : S100)] : List (S100))) := ⟨_, rfl⟩
  replace H : (if t545.length + y561.length < 4398046511104 then (some ((t545 ++ y561), t559, t560)) else (none)) = some (r1, r2, r3) := by first | (rw [hy561]; with_reducible exact H) | (have H2_ := (Option.bind_some _ _).symm.trans H; rw [hy561]; with_reducible exact H2_) | (have H2_ := (Option.bind_some _ _).symm.trans H; with_reducible exact H2_) | with_reducible exact H | (rw [hy561]; exact H) | exact H
  have Ny561 := am hy561
  clear hy561
  revert H
  refine ifn fun c7 H => ?_
  have LMc7 := am c7
  clear c7
  obtain ⟨y564, hy564⟩ : ∃ y_ : List (S100), y_ = (t545 ++ y561) := ⟨_, rfl⟩
  replace H : (some (y564, t559, t560)) = some (r1, r2, r3) := by first | (rw [hy564]; with_reducible exact H) | (have H2_ := (Option.bind_some _ _).symm.trans H; rw [hy564]; with_reducible exact H2_) | (have H2_ := (Option.bind_some _ _).symm.trans H; with_reducible exact H2_) | with_reducible exact H | (rw [hy564]; exact H) | exact H
  have Ny564 := am hy564
  clear hy564
  simp only [Option.some.injEq, Prod.mk.injEq] at H
  obtain ⟨rfl, rfl, rfl⟩ := H
  go_enter Tryz.func124, Tryz.ntmps124
  go_wp2_with (first | (refine gl 5 Tryz.func135 #[.pointer (some ⟨g, 0, none⟩)] ?_; (with_reducible refine (spec_l2DrawRight.calls k g s0_0 s0_1 s0_2 t545 t548 t549 w0 _ ?side1 ?side2 A2.out).mono ?_); (case side1 => exact u124HI0); (case side2 => exact u124HB); rintro e w8 ⟨v546, rfl, ho0, hi, hb, hk⟩; refine ⟨_, rfl, ?_⟩; have HO547 := am (Kd.R_lower ho0 (keep_size (w := w) (g := g) (row := none) u124HK)); replace HK := am (KeepBut.trans u124HK hk (.inl rfl)); replace HB := am (hb); replace HI0 := am (hi); clear hb hk hi ho0) | (refine gl 7 Tryz.func62 #[.pointer (some ⟨g, 0, none⟩), .int .i64 15] ?_; (with_reducible refine (spec_l1Below.calls g s0_0 t548 t549 15 t550 t551 t552 w0 _ ?side1 ?side2 A3.out).mono ?_); (case side1 => exact u124HI0); (case side2 => exact u124HB); rintro e w9 ⟨rfl, hi, hb, hk⟩; refine ⟨_, rfl, ?_⟩; replace HO547 := am (Kd.R_mono (Kd.R_keep (IsS122.apart (show IsS122 w0 _ g s0_0 t548 t549 from u124HI0) (ro HO547) (by decide)) hk (fun _ h => h.2)) (fun _ h => h.1)); replace HK := am (KeepBut.trans u124HK hk (.inl rfl)); replace HB := am (hb); replace HI0 := am (hi); clear hb hk hi) | (refine gl 12 Tryz.func154 #[.pointer (some ⟨g, 0, none⟩)] ?_; (with_reducible refine (spec_l2DrawField.calls g s0_0 t551 t552 t553 t554 t555 t556 w0 _ ?side1 ?side2 A5.out).mono ?_); (case side1 => exact u124HI0); (case side2 => exact u124HB); rintro e w10 ⟨rfl, hi, hb, hk⟩; refine ⟨_, rfl, ?_⟩; replace HO547 := am (Kd.R_mono (Kd.R_keep (IsS122.apart (show IsS122 w0 _ g s0_0 t551 t552 from u124HI0) (ro HO547) (by decide)) hk (fun _ h => h.2)) (fun _ h => h.1)); replace HK := am (KeepBut.trans u124HK hk (.inl rfl)); replace HB := am (hb); replace HI0 := am (hi); clear hb hk hi) | (refine gl 14 Tryz.func154 #[.pointer (some ⟨g, 0, none⟩)] ?_; (with_reducible refine (spec_l2DrawField.calls g s0_0 t555 t556 t557 t558 t559 t560 w0 _ ?side1 ?side2 A6.out).mono ?_); (case side1 => exact u124HI0); (case side2 => exact u124HB); rintro e w11 ⟨rfl, hi, hb, hk⟩; refine ⟨_, rfl, ?_⟩; replace HO547 := am (Kd.R_mono (Kd.R_keep (IsS122.apart (show IsS122 w0 _ g s0_0 t555 t556 from u124HI0) (ro HO547) (by decide)) hk (fun _ h => h.2)) (fun _ h => h.1)); replace HK := am (KeepBut.trans u124HK hk (.inl rfl)); replace HB := am (hb); replace HI0 := am (hi); clear hb hk hi) | ((with_reducible refine gate_dst (N := 15) rfl ?_); refine Kd.R_lit k100 _ 100 ?hg (N := 15) ?hd (xs := ([(⟨t553, t554⟩ : S100), (⟨t557, t558⟩ : S100)] : List (S100))) (inner := [.string t553, .string t554, .string t557, .string t558]) (ok := fun _ => True) (okp := fun _ => True) ?hr ?hp (fun _ hk => hk) trivial (Below.refl _ _) (Nat.le_refl _) (by simp) ?_; (case hd => rfl); (case hg => rfl); (case hr => first | (go_simp; done) | (go_simp; rfl)); (case hp => exact (Reps.c2 (show Kd.M k100 _ _ _ (⟨t553, t554⟩ : S100) [.string t553, .string t554] from (k100_mkM _ _ _ (⟨t553, t554⟩ : S100) )) (Reps.c2 (show Kd.M k100 _ _ _ (⟨t557, t558⟩ : S100) [.string t557, .string t558] from (k100_mkM _ _ _ (⟨t557, t558⟩ : S100) )) (Reps.none _ _)))); intro v562 w12 ho13 hb hg_ hnew_; clear hg_ hnew_; (first | rw [← Ny561.out] at ho13 | (simp only [Int.reduceToNat] at ho13; rw [← Ny561.out] at ho13)); have HO563 := am (Kd.R_lower (Kd.R_new' ho13 (Kd.R_lt (ro HO547))) (keep_size (w := w) (g := g) (row := none) u124HK)); replace HO547 := am (Kd.R_elder' (ro HO547) (Kd.R_base ho13) hb); replace HK := am (KeepBut.trans u124HK (KeepBut.of_below hb g none) (.inl rfl)); replace HB := am (below_step u124HB hb); replace HI0 := am (IsS122.below u124HI0 hb); clear hb ho13; obtain ⟨Ao15, co15, eo15⟩ := Kd.R_slice HO563.out; subst eo15) | ((with_reducible refine gate_builtin (b := .append) (xs := #[.tmp 10, .tmp 15]) rfl ?_); at_builtin; refine Kd.R_append_rows k100 w.heap.size rfl (.tmp 10) (.tmp 15) 38 100 (.agg #[(.string ⟨#[]⟩), (.string ⟨#[]⟩)]) 32 rfl Tryz.underlying38 info100 rfl (by decide) (by omega) v546 t545 y561 _ _ _ (fun k_ => some k_ ≠ (.slice Ao15 y561.length co15 : Value).ownBlock) (fun _ => False) rfl rfl ?aO ?aR (fun _ _ h => h) (fun _ h => h.elim) ?aF (Below.refl _ _) ?aS ?aL ?_; (case aR => exact rc HO563); (case aF => exact (fun k_ hk => Kd.fresh' (Kd.R_lt (ro HO563)) k_ hk)); (case aO => exact (by (with_reducible repeat (first | apply Kd.R_alloc | apply Kd.R_drewN | apply Kd.R_drew)); exact Kd.R_mono HO547.out (fun _ hk => hk.2))); (case aS => exact (keep_size (w := w) (g := g) (row := none) u124HK)); (case aL => have := LMc7.out; omega); intro v565 w14 ho hb hg hat; rw [← Ny564.out] at ho; have n0_ := am (IsS122.grown u124HI0 hg (IsS122.own_ne HI0.out HO547.out (by decide))); have n1_ := am (Kd.R_after (ok := (fun _ => True)) (ro HO563) hg hat); have n2_ := am (below_weaken u124HB HL.out hb); have n3_ := am (KeepBut.trans u124HK (KeepBut.of_grown hg g) (Kd.R_base2 HO547.out)); have n4_ := am (ho); clear HI0; clear HO563; clear HB; clear HK; clear HO547; have HI0 := n0_; have HO563 := n1_; have HB := n2_; have HK := n3_; have HO566 := n4_; clear n0_ n1_ n2_ n3_ n4_; clear ho hb hg hat))
  go_ret
  exact ⟨_, rf, by (with_reducible repeat (first | apply Kd.R_alloc | apply Kd.R_drewN | apply Kd.R_drew)); exact Kd.R_mono HO566.out (fun _ hk => trivial), u124HI0, u124HB, u124HK⟩
 rw [if_neg c4] at H
 have c4b0 : (t550 == 0) = false := beq_eq_false_iff_ne.mpr c4
 have c4b1 : (t550 != 0) = true := bne_iff_ne.mpr c4
 by_cases c16 : t550 = 1
 rotate_left
 ·rw [if_neg c16] at H
  have c16b0 : (t550 == 1) = false := beq_eq_false_iff_ne.mpr c16
  have c16b1 : (t550 != 1) = true := bne_iff_ne.mpr c16
  by_cases c31 : t550 = 2
  rotate_left
  ·rw [if_neg c31] at H
   have c31b0 : (t550 == 2) = false := beq_eq_false_iff_ne.mpr c31
   have c31b1 : (t550 != 2) = true := bne_iff_ne.mpr c31
   simp only [Option.some.injEq, Prod.mk.injEq] at H
   obtain ⟨rfl, rfl, rfl⟩ := H
   go_enter Tryz.func124, Tryz.ntmps124
   go_wp2_with (first | (refine gl 5 Tryz.func135 #[.pointer (some ⟨g, 0, none⟩)] ?_; (with_reducible refine (spec_l2DrawRight.calls k g s0_0 s0_1 s0_2 t545 t548 t549 w0 _ ?side1 ?side2 A2.out).mono ?_); (case side1 => exact u124HI0); (case side2 => exact u124HB); rintro e w45 ⟨v546, rfl, ho0, hi, hb, hk⟩; refine ⟨_, rfl, ?_⟩; have HO547 := am (Kd.R_lower ho0 (keep_size (w := w) (g := g) (row := none) u124HK)); replace HK := am (KeepBut.trans u124HK hk (.inl rfl)); replace HB := am (hb); replace HI0 := am (hi); clear hb hk hi ho0) | (refine gl 7 Tryz.func62 #[.pointer (some ⟨g, 0, none⟩), .int .i64 15] ?_; (with_reducible refine (spec_l1Below.calls g s0_0 t548 t549 15 t550 t551 t552 w0 _ ?side1 ?side2 A3.out).mono ?_); (case side1 => exact u124HI0); (case side2 => exact u124HB); rintro e w46 ⟨rfl, hi, hb, hk⟩; refine ⟨_, rfl, ?_⟩; replace HO547 := am (Kd.R_mono (Kd.R_keep (IsS122.apart (show IsS122 w0 _ g s0_0 t548 t549 from u124HI0) (ro HO547) (by decide)) hk (fun _ h => h.2)) (fun _ h => h.1)); replace HK := am (KeepBut.trans u124HK hk (.inl rfl)); replace HB := am (hb); replace HI0 := am (hi); clear hb hk hi))
   go_ret
   exact ⟨_, rf, by (with_reducible repeat (first | apply Kd.R_alloc | apply Kd.R_drewN | apply Kd.R_drew)); exact HO547.out, u124HI0, u124HB, u124HK⟩
  rw [if_pos c31] at H
  have c31b0 : (t550 == 2) = true := beq_iff_eq.mpr c31
  have c31b1 : (t550 != 2) = false := bne_eq_false_iff_eq.mpr c31
  clear c31
  have H' := am H
  clear H
  go_enter Tryz.func124, Tryz.ntmps124
  go_wp2_with (first | (refine gl 5 Tryz.func135 #[.pointer (some ⟨g, 0, none⟩)] ?_; (with_reducible refine (spec_l2DrawRight.calls k g s0_0 s0_1 s0_2 t545 t548 t549 w0 _ ?side1 ?side2 A2.out).mono ?_); (case side1 => exact u124HI0); (case side2 => exact u124HB); rintro e w32 ⟨v546, rfl, ho0, hi, hb, hk⟩; refine ⟨_, rfl, ?_⟩; have HO547 := am (Kd.R_lower ho0 (keep_size (w := w) (g := g) (row := none) u124HK)); replace HK := am (KeepBut.trans u124HK hk (.inl rfl)); replace HB := am (hb); replace HI0 := am (hi); clear hb hk hi ho0) | (refine gl 7 Tryz.func62 #[.pointer (some ⟨g, 0, none⟩), .int .i64 15] ?_; (with_reducible refine (spec_l1Below.calls g s0_0 t548 t549 15 t550 t551 t552 w0 _ ?side1 ?side2 A3.out).mono ?_); (case side1 => exact u124HI0); (case side2 => exact u124HB); rintro e w33 ⟨rfl, hi, hb, hk⟩; refine ⟨_, rfl, ?_⟩; replace HO547 := am (Kd.R_mono (Kd.R_keep (IsS122.apart (show IsS122 w0 _ g s0_0 t548 t549 from u124HI0) (ro HO547) (by decide)) hk (fun _ h => h.2)) (fun _ h => h.1)); replace HK := am (KeepBut.trans u124HK hk (.inl rfl)); replace HB := am (hb); replace HI0 := am (hi); clear hb hk hi))
  (try simp only [Act.put, List.setIfInBounds_toArray, List.set_cons_zero, List.set_cons_succ])
  go_loopg [3] k (fun kq v3 w' => ∃ (x3_1 : List (S100)) (x1001_1 : Int) (x1002_1 : Int), Aside0 (spec_l2Draw.l0 kq x3_1 s0_0 x1001_1 x1002_1 = some (r1, r2, r3)) ∧ Aside0 (kq ≤ k) ∧ Aside0 (Kd.R k100 100 w' w.heap.size (fun _ => True) v3 x3_1) ∧ Aside0 (IsS122 w0 w' g s0_0 x1001_1 x1002_1) ∧ Aside0 (KeepBut w w' g none) ∧ Aside0 (Below w0.heap.size w0 w'))
  case atStart => exact ⟨(t545), (t551), (t552), H', ⟨Nat.le_refl _⟩, ⟨by (with_reducible repeat (first | apply Kd.R_alloc | apply Kd.R_drewN | apply Kd.R_drew)); exact HO547.out⟩, ⟨u124HI0⟩, ⟨u124HK⟩, ⟨u124HB⟩⟩
  case round =>
   clear H'
   try clear c1
   try clear c2
   try clear p2
   try clear c3
   try clear c4
   try clear c4b0
   try clear c4b1
   try clear c6
   try clear c7
   try clear c12
   try clear c13
   try clear c15
   try clear c16
   try clear c16b0
   try clear c16b1
   try clear c19
   try clear c31
   try clear c31b0
   try clear c31b1
   obtain ⟨x3_1, x1001_1, x1002_1, HA, HK1, HO_3, HI0, HK, HB⟩ := hrel
   cases gk with
   | zero => exact absurd HA.out (by simp [spec_l2Draw.l0])
   | succ k1 =>
    have H := HA.out
    clear HA
    simp only [spec_l2Draw.l0] at H
    revert H
    refine ok3 fun t582 t583 t584 A34 H => ?_
    (try dsimp only at H)
    by_cases c35 : (x3_1.length : Int) < (wrap64 (8 + t582))
    rotate_left
    ·rw [if_neg c35] at H
     have c35b0 := decide_eq_false c35
     clear c35
     simp only [Option.some.injEq, Prod.mk.injEq] at H
     obtain ⟨rfl, rfl, rfl⟩ := H
     obtain ⟨Ao43, co43, eo43⟩ := Kd.R_slice HO_3.out
     subst eo43
     go_wp2_with (first | (refine gl 34 Tryz.func62 #[.pointer (some ⟨g, 0, none⟩), .int .i64 2] ?_; (with_reducible refine (spec_l1Below.calls g s0_0 x1001_1 x1002_1 2 t582 t583 t584 w0 _ ?side1 ?side2 A34.out).mono ?_); (case side1 => exact u124HI0); (case side2 => exact u124HB); rintro e w44 ⟨rfl, hi, hb, hk⟩; refine ⟨_, rfl, ?_⟩; replace HO_3 := am (Kd.R_mono (Kd.R_keep (IsS122.apart (show IsS122 w0 _ g s0_0 x1001_1 x1002_1 from u124HI0) (ro HO_3) (by decide)) hk (fun _ h => h.2)) (fun _ h => h.1)); replace HK := am (KeepBut.trans u124HK hk (.inl rfl)); replace HB := am (hb); replace HI0 := am (hi); clear hb hk hi))
     go_ret
     exact ⟨_, rf, by (with_reducible repeat (first | apply Kd.R_alloc | apply Kd.R_drewN | apply Kd.R_drew)); exact HO_3.out, u124HI0, u124HB, u124HK⟩
    rw [if_pos c35] at H
    have c35b0 := decide_eq_true c35
    clear c35
    revert H
    refine ok1 fun t585 A36 H => ?_
    revert H
    refine ifn fun c37 H => ?_
    have c37b0 := eq_true c37
    have c37b1 := decide_eq_true c37
    try have c37b2 := eq_false (Nat.not_lt.2 c37)
    revert H
    refine ifn fun c38 H => ?_
    have LMc38 := am c38
    clear c38
    obtain ⟨y586, hy586⟩ : ∃ y_ : List (S100), y_ = (x3_1 ++ [(⟨(⟨#[110]⟩ : ByteArray) ++ t585, (⟨#[118]⟩ : ByteArray)⟩ : S100)]) := ⟨_, rfl⟩
    replace H : (spec_l2Draw.l0 k1 y586 s0_0 t583 t584) = some (r1, r2, r3) := by first | (rw [hy586]; with_reducible exact H) | (have H2_ := (Option.bind_some _ _).symm.trans H; rw [hy586]; with_reducible exact H2_) | (have H2_ := (Option.bind_some _ _).symm.trans H; with_reducible exact H2_) | with_reducible exact H | (rw [hy586]; exact H) | exact H
    have Ny586 := am hy586
    clear hy586
    have H' := am H
    clear H
    obtain ⟨Ao39, co39, eo39⟩ := Kd.R_slice HO_3.out
    subst eo39
    go_wp2_with (first | (refine gl 34 Tryz.func62 #[.pointer (some ⟨g, 0, none⟩), .int .i64 2] ?_; (with_reducible refine (spec_l1Below.calls g s0_0 x1001_1 x1002_1 2 t582 t583 t584 w0 _ ?side1 ?side2 A34.out).mono ?_); (case side1 => exact u124HI0); (case side2 => exact u124HB); rintro e w40 ⟨rfl, hi, hb, hk⟩; refine ⟨_, rfl, ?_⟩; replace HO_3 := am (Kd.R_mono (Kd.R_keep (IsS122.apart (show IsS122 w0 _ g s0_0 x1001_1 x1002_1 from u124HI0) (ro HO_3) (by decide)) hk (fun _ h => h.2)) (fun _ h => h.1)); replace HK := am (KeepBut.trans u124HK hk (.inl rfl)); replace HB := am (hb); replace HI0 := am (hi); clear hb hk hi) | (refine gl 40 Tryz.func79 #[.int .i64 (x3_1.length : Int)] ?_; (with_reducible refine (spec_NumText.calls k1 (x3_1.length : Int) t585 _ A36.out).mono ?_); rintro e w41 ⟨rfl, hb⟩; refine ⟨_, rfl, ?_⟩; replace HO_3 := kr HO_3 hb; replace HK := am (KeepBut.trans u124HK (KeepBut.of_below hb g none) (.inl rfl)); replace HB := am (below_step u124HB hb); replace HI0 := am (IsS122.below u124HI0 hb); clear hb) | ((with_reducible refine gate_builtin (b := .append) (xs := #[.tmp 37, .tmp 43]) rfl ?_); at_builtin; refine Kd.R_append k100 w.heap.size rfl (.tmp 37) (.tmp 43) 38 100 (.agg #[(.string ⟨#[]⟩), (.string ⟨#[]⟩)]) 32 rfl Tryz.underlying38 info100 rfl (by decide) (by omega) (.slice Ao39 x3_1.length co39) x3_1 (⟨(⟨#[110]⟩ : ByteArray) ++ t585, (⟨#[118]⟩ : ByteArray)⟩ : S100) [.string ((⟨#[110]⟩ : ByteArray) ++ t585), .string (⟨#[118]⟩ : ByteArray)] (fun _ => True) (fun _ => False) rfl rfl ?aP (fun _ hk => hk.elim) ?aF ?aO (Below.refl _ _) ?aS ?aL ?_; (case aP => exact k100_mkM _ _ _ (⟨(⟨#[110]⟩ : ByteArray) ++ t585, (⟨#[118]⟩ : ByteArray)⟩ : S100)); (case aF => exact (fun _ _ => trivial)); (case aO => exact (ro HO_3)); (case aS => exact (keep_size (w := w) (g := g) (row := none) u124HK)); (case aL => have := LMc38.out; omega); intro v587 w42 ho hb hg hat; rw [← Ny586.out] at ho; have n0_ := am (IsS122.grown u124HI0 hg (IsS122.own_ne HI0.out HO_3.out (by decide))); have n1_ := am (below_weaken u124HB HL.out hb); have n2_ := am (KeepBut.trans u124HK (KeepBut.of_grown hg g) (Kd.R_base2 HO_3.out)); have n3_ := am (ho); clear HI0; clear HB; clear HK; clear HO_3; have HI0 := n0_; have HB := n1_; have HK := n2_; have HO588 := n3_; clear n0_ n1_ n2_ n3_; clear ho hb hg hat))
    go_roundg k1
    case measure => have := HK1.out; omega
    case rel => exact ⟨(y586), (t583), (t584), H', ⟨by have := HK1.out; omega⟩, ⟨by (with_reducible repeat (first | apply Kd.R_alloc | apply Kd.R_drewN | apply Kd.R_drew)); exact HO588.out⟩, ⟨u124HI0⟩, ⟨u124HK⟩, ⟨u124HB⟩⟩
 rw [if_pos c16] at H
 have c16b0 : (t550 == 1) = true := beq_iff_eq.mpr c16
 have c16b1 : (t550 != 1) = false := bne_eq_false_iff_eq.mpr c16
 clear c16
 obtain ⟨y567, hy567⟩ : ∃ y_ : List ByteArray, y_ = (([(⟨#[]⟩ : ByteArray), (⟨#[65]⟩ : ByteArray), (⟨#[99, 111, 110, 116, 101, 110, 116, 45, 108, 101, 110, 103, 116, 104]⟩ : ByteArray)] : List ByteArray)) := ⟨_, rfl⟩
 replace H : ((spec_l1Pick.f s0_0 t551 t552 y567).bind fun bt570 => ((spec_l1Pick.f s0_0 bt570.2.1 bt570.2.2 (([(⟨#[]⟩ : ByteArray), (⟨#[32, 97]⟩ : ByteArray), (⟨#[49]⟩ : ByteArray)] : List ByteArray))).bind fun bt576 => (if t545.length < 4398046511104 then (some ((t545 ++ [(⟨bt570.1, bt576.1⟩ : S100)]), bt576.2.1, bt576.2.2)) else (none)))) = some (r1, r2, r3) := by first | (rw [hy567]; with_reducible exact H) | (have H2_ := (Option.bind_some _ _).symm.trans H; rw [hy567]; with_reducible exact H2_) | (have H2_ := (Option.bind_some _ _).symm.trans H; with_reducible exact H2_) | with_reducible exact H | (rw [hy567]; exact H) | exact H
 have Ny567 := am hy567
 clear hy567
 revert H
 refine ok3 fun t570 t571 t572 A17 H => ?_
 (try dsimp only at H)
 obtain ⟨y573, hy573⟩ : ∃ y_ : List ByteArray, y_ = (([(⟨#[]⟩ : ByteArray), (⟨#[32, 97]⟩ : ByteArray), (⟨#[49]⟩ : ByteArray)] : List ByteArray)) := ⟨_, rfl⟩
 replace H : ((spec_l1Pick.f s0_0 t571 t572 y573).bind fun bt576 => (if t545.length < 4398046511104 then (some ((t545 ++ [(⟨t570, bt576.1⟩ : S100)]), bt576.2.1, bt576.2.2)) else (none))) = some (r1, r2, r3) := by first | (rw [hy573]; with_reducible exact H) | (have H2_ := (Option.bind_some _ _).symm.trans H; rw [hy573]; with_reducible exact H2_) | (have H2_ := (Option.bind_some _ _).symm.trans H; with_reducible exact H2_) | with_reducible exact H | (rw [hy573]; exact H) | exact H
 have Ny573 := am hy573
 clear hy573
 revert H
 refine ok3 fun t576 t577 t578 A18 H => ?_
 (try dsimp only at H)
 revert H
 refine ifn fun c19 H => ?_
 have LMc19 := am c19
 clear c19
 obtain ⟨y579, hy579⟩ : ∃ y_ : List (S100), y_ = (t545 ++ [(⟨t570, t576⟩ : S100)]) := ⟨_, rfl⟩
 replace H : (some (y579, t577, t578)) = some (r1, r2, r3) := by first | (rw [hy579]; with_reducible exact H) | (have H2_ := (Option.bind_some _ _).symm.trans H; rw [hy579]; with_reducible exact H2_) | (have H2_ := (Option.bind_some _ _).symm.trans H; with_reducible exact H2_) | with_reducible exact H | (rw [hy579]; exact H) | exact H
 have Ny579 := am hy579
 clear hy579
 simp only [Option.some.injEq, Prod.mk.injEq] at H
 obtain ⟨rfl, rfl, rfl⟩ := H
 go_enter Tryz.func124, Tryz.ntmps124
 go_wp2_with (first | (refine gl 5 Tryz.func135 #[.pointer (some ⟨g, 0, none⟩)] ?_; (with_reducible refine (spec_l2DrawRight.calls k g s0_0 s0_1 s0_2 t545 t548 t549 w0 _ ?side1 ?side2 A2.out).mono ?_); (case side1 => exact u124HI0); (case side2 => exact u124HB); rintro e w20 ⟨v546, rfl, ho0, hi, hb, hk⟩; refine ⟨_, rfl, ?_⟩; have HO547 := am (Kd.R_lower ho0 (keep_size (w := w) (g := g) (row := none) u124HK)); replace HK := am (KeepBut.trans u124HK hk (.inl rfl)); replace HB := am (hb); replace HI0 := am (hi); clear hb hk hi ho0) | (refine gl 7 Tryz.func62 #[.pointer (some ⟨g, 0, none⟩), .int .i64 15] ?_; (with_reducible refine (spec_l1Below.calls g s0_0 t548 t549 15 t550 t551 t552 w0 _ ?side1 ?side2 A3.out).mono ?_); (case side1 => exact u124HI0); (case side2 => exact u124HB); rintro e w21 ⟨rfl, hi, hb, hk⟩; refine ⟨_, rfl, ?_⟩; replace HO547 := am (Kd.R_mono (Kd.R_keep (IsS122.apart (show IsS122 w0 _ g s0_0 t548 t549 from u124HI0) (ro HO547) (by decide)) hk (fun _ h => h.2)) (fun _ h => h.1)); replace HK := am (KeepBut.trans u124HK hk (.inl rfl)); replace HB := am (hb); replace HI0 := am (hi); clear hb hk hi) | ((with_reducible refine gate_dst (N := 21) rfl ?_); refine Kd.R_lit Kd.string _ 9 ?hg (N := 21) ?hd (xs := ([(⟨#[]⟩ : ByteArray), (⟨#[65]⟩ : ByteArray), (⟨#[99, 111, 110, 116, 101, 110, 116, 45, 108, 101, 110, 103, 116, 104]⟩ : ByteArray)] : List ByteArray)) (inner := [.string (⟨#[]⟩ : ByteArray), .string (⟨#[65]⟩ : ByteArray), .string (⟨#[99, 111, 110, 116, 101, 110, 116, 45, 108, 101, 110, 103, 116, 104]⟩ : ByteArray)]) (ok := fun _ => True) (okp := fun _ => True) ?hr ?hp (fun _ hk => hk) trivial (Below.refl _ _) (Nat.le_refl _) (by simp) ?_; (case hd => rfl); (case hg => rfl); (case hr => first | (go_simp; done) | (go_simp; rfl)); (case hp => exact rp); intro v568 w22 ho23 hb hg_ hnew_; clear hg_ hnew_; (first | rw [← Ny567.out] at ho23 | (simp only [Int.reduceToNat] at ho23; rw [← Ny567.out] at ho23)); replace HO547 := kr HO547 hb; have HO569 := am (Kd.R_lower ho23 (keep_size (w := w) (g := g) (row := none) u124HK)); replace HK := am (KeepBut.trans u124HK (KeepBut.of_below hb g none) (.inl rfl)); replace HB := am (below_step u124HB hb); replace HI0 := am (IsS122.below u124HI0 hb); clear hb ho23; obtain ⟨Ao24, co24, eo24⟩ := Kd.R_slice HO569.out; subst eo24) | (refine gl 22 Tryz.func64 #[.pointer (some ⟨g, 0, none⟩), .slice Ao24 y567.length co24] ?_; (with_reducible refine (spec_l1Pick.calls g s0_0 t551 t552 _ _ y567 t570 t571 t572 w0 _ ?side1 ?side2 ?side3 ?side4 ?side5 A17.out).mono ?_); (case side1 => exact u124HI0); (case side2 => exact u124HB); (case side3 => exact rc HO569); (case side4 => exact (Kd.R_reads' HO569.out).2.1); (case side5 => exact far_slice (IsS122.own_ne HI0.out HO569.out (by decide))); rintro e w25 ⟨rfl, hi, hb, hk⟩; refine ⟨_, rfl, ?_⟩; replace HO547 := am (Kd.R_mono (Kd.R_keep (IsS122.apart (show IsS122 w0 _ g s0_0 t551 t552 from u124HI0) (ro HO547) (by decide)) hk (fun _ h => h.2)) (fun _ h => h.1)); replace HO569 := am (Kd.R_mono (Kd.R_keep (IsS122.apart (show IsS122 w0 _ g s0_0 t551 t552 from u124HI0) (ro HO569) (by decide)) hk (fun _ h => h.2)) (fun _ h => h.1)); replace HK := am (KeepBut.trans u124HK hk (.inl rfl)); replace HB := am (hb); replace HI0 := am (hi); clear hb hk hi) | ((with_reducible refine gate_dst (N := 24) rfl ?_); refine Kd.R_lit Kd.string _ 9 ?hg (N := 24) ?hd (xs := ([(⟨#[]⟩ : ByteArray), (⟨#[32, 97]⟩ : ByteArray), (⟨#[49]⟩ : ByteArray)] : List ByteArray)) (inner := [.string (⟨#[]⟩ : ByteArray), .string (⟨#[32, 97]⟩ : ByteArray), .string (⟨#[49]⟩ : ByteArray)]) (ok := fun _ => True) (okp := fun _ => True) ?hr ?hp (fun _ hk => hk) trivial (Below.refl _ _) (Nat.le_refl _) (by simp) ?_; (case hd => rfl); (case hg => rfl); (case hr => first | (go_simp; done) | (go_simp; rfl)); (case hp => exact rp); intro v574 w26 ho27 hb hg_ hnew_; clear hg_ hnew_; (first | rw [← Ny573.out] at ho27 | (simp only [Int.reduceToNat] at ho27; rw [← Ny573.out] at ho27)); replace HO547 := kr HO547 hb; have HO575 := am (Kd.R_lower (Kd.R_new' ho27 (Kd.R_lt (ro HO569))) (keep_size (w := w) (g := g) (row := none) u124HK)); replace HO569 := am (Kd.R_elder' (ro HO569) (Kd.R_base ho27) hb); replace HK := am (KeepBut.trans u124HK (KeepBut.of_below hb g none) (.inl rfl)); replace HB := am (below_step u124HB hb); replace HI0 := am (IsS122.below u124HI0 hb); clear hb ho27; obtain ⟨Ao28, co28, eo28⟩ := Kd.R_slice HO575.out; subst eo28) | (refine gl 25 Tryz.func64 #[.pointer (some ⟨g, 0, none⟩), .slice Ao28 y573.length co28] ?_; (with_reducible refine (spec_l1Pick.calls g s0_0 t571 t572 _ _ y573 t576 t577 t578 w0 _ ?side1 ?side2 ?side3 ?side4 ?side5 A18.out).mono ?_); (case side1 => exact u124HI0); (case side2 => exact u124HB); (case side3 => exact rc HO575); (case side4 => exact (Kd.R_reads' HO575.out).2.1); (case side5 => exact far_slice (IsS122.own_ne HI0.out HO575.out (by decide))); rintro e w29 ⟨rfl, hi, hb, hk⟩; refine ⟨_, rfl, ?_⟩; replace HO547 := am (Kd.R_mono (Kd.R_keep (IsS122.apart (show IsS122 w0 _ g s0_0 t571 t572 from u124HI0) (ro HO547) (by decide)) hk (fun _ h => h.2)) (fun _ h => h.1)); replace HO569 := am (Kd.R_mono (Kd.R_keep (IsS122.apart (show IsS122 w0 _ g s0_0 t571 t572 from u124HI0) (ro HO569) (by decide)) hk (fun _ h => h.2)) (fun _ h => h.1)); replace HO575 := am (Kd.R_mono (Kd.R_keep (IsS122.apart (show IsS122 w0 _ g s0_0 t571 t572 from u124HI0) (ro HO575) (by decide)) hk (fun _ h => h.2)) (fun _ h => h.1)); replace HK := am (KeepBut.trans u124HK hk (.inl rfl)); replace HB := am (hb); replace HI0 := am (hi); clear hb hk hi) | ((with_reducible refine gate_builtin (b := .append) (xs := #[.tmp 19, .tmp 27]) rfl ?_); at_builtin; refine Kd.R_append k100 w.heap.size rfl (.tmp 19) (.tmp 27) 38 100 (.agg #[(.string ⟨#[]⟩), (.string ⟨#[]⟩)]) 32 rfl Tryz.underlying38 info100 rfl (by decide) (by omega) v546 t545 (⟨t570, t576⟩ : S100) [.string t570, .string t576] (fun _ => True) (fun _ => False) rfl rfl ?aP (fun _ hk => hk.elim) ?aF ?aO (Below.refl _ _) ?aS ?aL ?_; (case aP => exact k100_mkM _ _ _ (⟨t570, t576⟩ : S100)); (case aF => exact (fun _ _ => trivial)); (case aO => exact (ro HO547)); (case aS => exact (keep_size (w := w) (g := g) (row := none) u124HK)); (case aL => have := LMc19.out; omega); intro v580 w30 ho hb hg hat; rw [← Ny579.out] at ho; have n0_ := am (IsS122.grown u124HI0 hg (IsS122.own_ne HI0.out HO547.out (by decide))); have n1_ := am (Kd.R_over' (ro HO569) (Kd.R_typed (ro HO547)) (by decide) hg); have n2_ := am (Kd.R_over' (ro HO575) (Kd.R_typed (ro HO547)) (by decide) hg); have n3_ := am (below_weaken u124HB HL.out hb); have n4_ := am (KeepBut.trans u124HK (KeepBut.of_grown hg g) (Kd.R_base2 HO547.out)); have n5_ := am (ho); clear HI0; clear HO569; clear HO575; clear HB; clear HK; clear HO547; have HI0 := n0_; have HO569 := n1_; have HO575 := n2_; have HB := n3_; have HK := n4_; have HO581 := n5_; clear n0_ n1_ n2_ n3_ n4_ n5_; clear ho hb hg hat))
 go_ret
 exact ⟨_, rf, by (with_reducible repeat (first | apply Kd.R_alloc | apply Kd.R_drewN | apply Kd.R_drew)); exact HO581.out, u124HI0, u124HB, u124HK⟩

/-! ### spec_l3Dent: function 85 -/
theorem u85HI0 {p : Prop} (h : p := by repeat (first | (with_reducible first | exact HI0.out | apply IsS122.alloc | apply IsS122.drewN | apply IsS122.drew | apply IsS122.set_1 | apply IsS122.set_2) | exact HI0.out)) : p := h
theorem u85HB {p : Prop} (h : p := by repeat (first | (with_reducible first | exact HB.out | apply below_alloc | apply pw_below_drewN | apply below_drew1 | refine below_set ?_ (IsS122.ge HI0.out)) | exact HB.out)) : p := h
theorem u85HK {p : Prop} (h : p := by repeat (first | (with_reducible first | exact HK.out | apply KeepBut.set_ | apply keep_drewN | apply keep_drew | apply keep_alloc) | exact HK.out)) : p := h
def spec_l3Dent.f (s0_0 : List Int) (s0_1 : Int) (s0_2 : Int) (a1 : ByteArray) (l2 : List ByteArray) : Option (ByteArray × Int × Int) := (spec_l1Below.f s0_0 s0_1 s0_2 (wrap64 ((a1.size : Int) + 1))).bind fun bt634 => ((spec_l1Below.f s0_0 bt634.2.1 bt634.2.2 5).bind fun bt637 => (if bt637.1 = 0 then (if 0 ≤ bt634.1 then (if bt634.1 ≤ (a1.size : Int) then (some (a1.extract 0 (bt634.1 : Int).toNat, bt637.2.1, bt637.2.2)) else (none)) else (none)) else (if bt637.1 = 1 then (if 0 ≤ bt634.1 then (if bt634.1 ≤ (a1.size : Int) then ((spec_l1Pick.f s0_0 bt637.2.1 bt637.2.2 l2).bind fun bt640 => (if (a1.extract 0 (bt634.1 : Int).toNat).size + bt640.1.size ≤ 9223372036854775807 then (if ((a1.extract 0 (bt634.1 : Int).toNat) ++ bt640.1).size + (a1.extract (bt634.1 : Int).toNat a1.size).size ≤ 9223372036854775807 then (some (((a1.extract 0 (bt634.1 : Int).toNat) ++ bt640.1) ++ (a1.extract (bt634.1 : Int).toNat a1.size), bt640.2.1, bt640.2.2)) else (none)) else (none))) else (none)) else (none)) else (some (a1, bt637.2.1, bt637.2.2)))))
def spec_l3Dent.T6 : Bool × List (List Nat × List Nat) := (true, [([], []), ([], []), ([0, 1], [0, 1]), ([], []), ([], []), ([3, 4], [3, 4]), ([2, 5], [2, 5]), ([], []), ([], []), ([7, 8], [7, 8]), ([6, 9], [6, 9]), ([10, 5, 0, 1, 2, 3, 4, 5, 6, 7, 8, 9, 10], [10])])
def spec_l3Dent.B6 : List Nat := [0, 0, 3, 0, 0, 24, 63, 0, 0, 384, 1023, 2047]
theorem spec_l3Dent.tab6 : rtab .any (opsOf Tryz.f85 6) = spec_l3Dent.T6 := by kernel_rfl
theorem spec_l3Dent.bits6 : waitsOk spec_l3Dent.T6.2 spec_l3Dent.B6 = true := by kernel_rfl
set_option maxHeartbeats 8000000 in
set_option maxRecDepth 100000 in
theorem spec_l3Dent.calls (g : Nat) (s0_0 : List Int) (s0_1 : Int) (s0_2 : Int) (a1 : ByteArray) (A2 : Option Addr) (c2 : Nat) (l2 : List ByteArray) (r1 : ByteArray) (r2 : Int) (r3 : Int) (w0 w : World) (hI : IsS122 w0 w g s0_0 s0_1 s0_2) (hB : Below w0.heap.size w0 w) (hr2 : Kd.C Kd.string w A2 l2.length l2) (hc2 : l2.length ≤ c2) (hf2 : ∀ ad, A2 = some ad → 0 < l2.length → ad.block ≠ g) (h : spec_l3Dent.f s0_0 s0_1 s0_2 a1 l2 = some (r1, r2, r3)) :
  Calls Tryz.prog 85 #[.pointer (some ⟨g, 0, none⟩), .string a1, .slice A2 l2.length c2] w fun e w' => e = .returned (.string r1) ∧ IsS122 w0 w' g s0_0 r2 r3 ∧ Below w0.heap.size w0 w' ∧ KeepBut w w' g none := by
 have HR2 := am hr2
 have HC2 := am hc2
 clear hr2 hc2
 have HI0 := am hI
 have HK := am (KeepBut.refl w g none)
 have HL := am hB.size
 clear hI
 have HW0 := am hB.size
 have HB := am hB
 clear hB
 unfold spec_l3Dent.f at h
 have H := h
 clear h
 revert H
 refine ok3 fun t634 t635 t636 A4 H => ?_
 (try dsimp only at H)
 revert H
 refine ok3 fun t637 t638 t639 A5 H => ?_
 (try dsimp only at H)
 by_cases c6 : t637 = 0
 ·rw [if_pos c6] at H
  have c6b0 : (t637 == 0) = true := beq_iff_eq.mpr c6
  have c6b1 : (t637 != 0) = false := bne_eq_false_iff_eq.mpr c6
  clear c6
  revert H
  refine ifn fun c7 H => ?_
  have c7b0 := eq_true c7
  have c7b1 := decide_eq_true c7
  clear c7
  revert H
  refine ifn fun c8 H => ?_
  have c8b0 := eq_true c8
  have c8b1 := decide_eq_true c8
  clear c8
  simp only [Option.some.injEq, Prod.mk.injEq] at H
  obtain ⟨rfl, rfl, rfl⟩ := H
  go_enter Tryz.func85, Tryz.ntmps85
  go_wp2_with (first | (refine gl 12 Tryz.func62 #[.pointer (some ⟨g, 0, none⟩), .int .i64 (wrap64 ((a1.size : Int) + 1))] ?_; (with_reducible refine (spec_l1Below.calls g s0_0 s0_1 s0_2 (wrap64 ((a1.size : Int) + 1)) t634 t635 t636 w0 _ ?side1 ?side2 A4.out).mono ?_); (case side1 => exact u85HI0); (case side2 => exact u85HB); rintro e w9 ⟨rfl, hi, hb, hk⟩; refine ⟨_, rfl, ?_⟩; replace HK := am (KeepBut.trans u85HK hk (.inl rfl)); replace HB := am (hb); replace HI0 := am (hi); clear hb hk hi) | (refine gl 14 Tryz.func62 #[.pointer (some ⟨g, 0, none⟩), .int .i64 5] ?_; (with_reducible refine (spec_l1Below.calls g s0_0 t635 t636 5 t637 t638 t639 w0 _ ?side1 ?side2 A5.out).mono ?_); (case side1 => exact u85HI0); (case side2 => exact u85HB); rintro e w10 ⟨rfl, hi, hb, hk⟩; refine ⟨_, rfl, ?_⟩; replace HK := am (KeepBut.trans u85HK hk (.inl rfl)); replace HB := am (hb); replace HI0 := am (hi); clear hb hk hi))
  go_ret
  exact ⟨rf, u85HI0, u85HB, u85HK⟩
 rw [if_neg c6] at H
 have c6b0 : (t637 == 0) = false := beq_eq_false_iff_ne.mpr c6
 have c6b1 : (t637 != 0) = true := bne_iff_ne.mpr c6
 by_cases c11 : t637 = 1
 rotate_left
 ·rw [if_neg c11] at H
  have c11b0 : (t637 == 1) = false := beq_eq_false_iff_ne.mpr c11
  have c11b1 : (t637 != 1) = true := bne_iff_ne.mpr c11
  simp only [Option.some.injEq, Prod.mk.injEq] at H
  obtain ⟨rfl, rfl, rfl⟩ := H
  go_enter Tryz.func85, Tryz.ntmps85
  go_wp2_with (first | (refine gl 12 Tryz.func62 #[.pointer (some ⟨g, 0, none⟩), .int .i64 (wrap64 ((a1.size : Int) + 1))] ?_; (with_reducible refine (spec_l1Below.calls g s0_0 s0_1 s0_2 (wrap64 ((a1.size : Int) + 1)) t634 t635 t636 w0 _ ?side1 ?side2 A4.out).mono ?_); (case side1 => exact u85HI0); (case side2 => exact u85HB); rintro e w23 ⟨rfl, hi, hb, hk⟩; refine ⟨_, rfl, ?_⟩; replace HK := am (KeepBut.trans u85HK hk (.inl rfl)); replace HB := am (hb); replace HI0 := am (hi); clear hb hk hi) | (refine gl 14 Tryz.func62 #[.pointer (some ⟨g, 0, none⟩), .int .i64 5] ?_; (with_reducible refine (spec_l1Below.calls g s0_0 t635 t636 5 t637 t638 t639 w0 _ ?side1 ?side2 A5.out).mono ?_); (case side1 => exact u85HI0); (case side2 => exact u85HB); rintro e w24 ⟨rfl, hi, hb, hk⟩; refine ⟨_, rfl, ?_⟩; replace HK := am (KeepBut.trans u85HK hk (.inl rfl)); replace HB := am (hb); replace HI0 := am (hi); clear hb hk hi))
  go_ret
  exact ⟨rf, u85HI0, u85HB, u85HK⟩
 rw [if_pos c11] at H
 have c11b0 : (t637 == 1) = true := beq_iff_eq.mpr c11
 have c11b1 : (t637 != 1) = false := bne_eq_false_iff_eq.mpr c11
 clear c11
 revert H
 refine ifn fun c12 H => ?_
 have c12b0 := eq_true c12
 have c12b1 := decide_eq_true c12
 clear c12
 revert H
 refine ifn fun c13 H => ?_
 have c13b0 := eq_true c13
 have c13b1 := decide_eq_true c13
 clear c13
 revert H
 refine ok3 fun t640 t641 t642 A14 H => ?_
 (try dsimp only at H)
 revert H
 refine ifn fun c15 H => ?_
 have c15b0 := eq_true c15
 have c15b1 := decide_eq_true c15
 try have c15b2 := eq_false (Nat.not_lt.2 c15)
 have c16b0 := eq_true (od : 0 ≤ t634)
 have c17b0 := eq_true (od : t634 ≤ (a1.size : Int))
 revert H
 refine ifn fun c18 H => ?_
 have c18b0 := eq_true c18
 have c18b1 := decide_eq_true c18
 try have c18b2 := eq_false (Nat.not_lt.2 c18)
 have c18b3 : (9223372036854775807 < (a1.extract 0 (t634 : Int).toNat).size + (t640).size + (a1.extract (t634 : Int).toNat a1.size).size) = False := b3 c18
 have e0_ : (a1.extract 0 t634.toNat).size = t634.toNat := by rw [ByteArray.size_extract]; have h1_ := of_eq_true c16b0; have h2_ := of_eq_true c17b0; omega
 have e1_ : (a1.extract t634.toNat a1.size).size = a1.size - t634.toNat := by rw [ByteArray.size_extract]; omega
 have e2_ : (9223372036854775807 < t634.toNat + t640.size) = False := by have h_ := c15b2; rw [e0_] at h_; exact h_
 have e3_ : (9223372036854775807 < t634.toNat + t640.size + (a1.size - t634.toNat)) = False := by have h_ := c18b3; rw [e0_, e1_] at h_; exact h_
 simp only [Option.some.injEq, Prod.mk.injEq] at H
 obtain ⟨rfl, rfl, rfl⟩ := H
 go_enter Tryz.func85, Tryz.ntmps85
 try go_wp2_with (first | (refine gl 12 Tryz.func62 #[.pointer (some ⟨g, 0, none⟩), .int .i64 (wrap64 ((a1.size : Int) + 1))] ?_; (with_reducible refine (spec_l1Below.calls g s0_0 s0_1 s0_2 (wrap64 ((a1.size : Int) + 1)) t634 t635 t636 w0 _ ?side1 ?side2 A4.out).mono ?_); (case side1 => exact u85HI0); (case side2 => exact u85HB); rintro e w19 ⟨rfl, hi, hb, hk⟩; refine ⟨_, rfl, ?_⟩; replace HK := am (KeepBut.trans u85HK hk (.inl rfl)); replace HB := am (hb); replace HI0 := am (hi); clear hb hk hi) | (refine gl 14 Tryz.func62 #[.pointer (some ⟨g, 0, none⟩), .int .i64 5] ?_; (with_reducible refine (spec_l1Below.calls g s0_0 t635 t636 5 t637 t638 t639 w0 _ ?side1 ?side2 A5.out).mono ?_); (case side1 => exact u85HI0); (case side2 => exact u85HB); rintro e w20 ⟨rfl, hi, hb, hk⟩; refine ⟨_, rfl, ?_⟩; replace HK := am (KeepBut.trans u85HK hk (.inl rfl)); replace HB := am (hb); replace HI0 := am (hi); clear hb hk hi))
 replace HI0 := am (IsS122.drew HI0.out)
 replace HK := am (keep_drew HK.out)
 replace HB := am (below_drew1 HB.out)
 refine start_ (n := 12) (S := fun w' => True) (ds := []) ⟨br true [0, 12]⟩ (by kernel_rfl) rfl (by kernel_rfl) trivial (fun hHeld => ?_); refine with_tabW spec_l3Dent.tab6 spec_l3Dent.bits6 (fun HT_ HW_ => ?_)
 generalize w20.drew = w21 at HI0 HK HB hHeld ⊢
 refine pu 0 22 [1, 11] ?_
 refine pu 1 23 [2, 10] ?_
 refine pu 2 24 [3, 9] ?_
 refine pu 3 25 [4, 8] ?_
 refine pu 4 26 [5, 7] ?_
 refine pu 7 29 [5, 2, 1, 4] ?_
 refine pu 8 30 [5, 2, 2, 3] ?_
 refine pu 9 31 [5, 2, 3, 2] ?_
 refine og 5 27 [6, 1, 3, 2] Tryz.func64 #[.pointer (some ⟨g, 0, none⟩), .slice A2 l2.length c2] (fun K hK => ?_)
 with_reducible refine (spec_l1Pick.calls g s0_0 t638 t639 _ _ l2 t640 t641 t642 w0 _ ?side1 ?side2 ?side3 ?side4 ?side5 A14.out).mono ?_
 (case side1 => exact u85HI0)
 (case side2 => exact u85HB)
 (case side3 => exact Kd.C_keep (⟨#[]⟩ : ByteArray) HR2.out u85HK hf2)
 (case side4 => exact HC2.out)
 (case side5 => exact hf2)
 rintro e w22 ⟨rfl, hi, hb, hk⟩
 refine ⟨_, rfl, ?_⟩
 replace HK := am (KeepBut.trans u85HK hk (.inl rfl))
 replace HB := am (hb)
 replace HI0 := am (hi)
 clear hb hk hi
 refine hK.out _ _ trivial (fun hHeld => ?_)
 clear hK K
 refine nm 27 ?_
 refine pu 6 28 [10, 2] ?_
 refine pu 10 32 [11, 1] ?_
 refine pu 11 6 [12] ?_
 refine done_ (done_of HT_.out (by kernel_rfl)) ?_
 try go_wp2
 go_ret
 exact ⟨rf, u85HI0, u85HB, u85HK⟩

end Go.Proofs.YtnmanegjgidgcaaGreatDoor.All
