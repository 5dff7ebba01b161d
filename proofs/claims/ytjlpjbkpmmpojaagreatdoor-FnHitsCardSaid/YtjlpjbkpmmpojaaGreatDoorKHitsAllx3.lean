-- Written by a program of this session (wip/tools/hprint.py) out of the translation. Lean checks it.
import Derived.Test.YtjlpjbkpmmpojaaGreatDoorKHitsAllx0
import Derived.Test.YtjlpjbkpmmpojaaGreatDoorKHitsAllx1
import Derived.Test.YtjlpjbkpmmpojaaGreatDoorKHitsAllx2
namespace Go.Proofs.YtjlpjbkpmmpojaaGreatDoor.All
open Go.RowKit Go.Proofs.YtjlpjbkpmmpojaaGreatDoorW.PrintWords Go.Proofs.YtjlpjbkpmmpojaaGreatDoorW.PrintLast Go.Proofs.YtjlpjbkpmmpojaaGreatDoorW.PrintMore
attribute [local go_sem] max2_int min2_int max_two min_two max_three min_three max_four min_four  -- for this text's walks alone
set_option linter.unusedVariables false
set_option linter.unusedSimpArgs false

/-! ### spec_l2Draw: function 85 -/
theorem u85HI0 {p : Prop} (h : p := by repeat (first | (with_reducible first | exact HI0.out | apply IsS139.alloc | apply IsS139.drewN | apply IsS139.drew | apply IsS139.set_1 | apply IsS139.set_2) | exact HI0.out)) : p := h
theorem u85HB {p : Prop} (h : p := by repeat (first | (with_reducible first | exact HB.out | apply below_alloc | apply pw_below_drewN | apply below_drew1 | refine below_set ?_ (IsS139.ge HI0.out)) | exact HB.out)) : p := h
theorem u85HK {p : Prop} (h : p := by repeat (first | (with_reducible first | exact HK.out | apply KeepBut.set_ | apply keep_drewN | apply keep_drew | apply keep_alloc) | exact HK.out)) : p := h
def spec_l2Draw.l0 : Nat → List (S116) → List Int → Int → Int → Option ((List (S116)) × Int × Int)
 | 0, _, _, _, _ => none
 | k + 1, x3, x1000, x1001, x1002 => (spec_l1Below.f x1000 x1001 x1002 2).bind fun bt318 => (if (x3.length : Int) < (wrap64 (8 + bt318.1)) then ((spec_NumText.f k (x3.length : Int)).bind fun t321 => (if 1 + t321.size ≤ 9223372036854775807 then (if x3.length < 4398046511104 then (spec_l2Draw.l0 k (x3 ++ [(⟨(⟨#[110]⟩ : ByteArray) ++ t321, (⟨#[118]⟩ : ByteArray)⟩ : S116)]) x1000 bt318.2.1 bt318.2.2) else (none)) else (none))) else (some (x3, bt318.2.1, bt318.2.2)))
def spec_l2Draw.f (k : Nat) (s0_0 : List Int) (s0_1 : Int) (s0_2 : Int) : Option ((List (S116)) × Int × Int) := (spec_l2DrawRight.f k s0_0 s0_1 s0_2).bind fun bt281 => ((spec_l1Below.f s0_0 bt281.2.1 bt281.2.2 15).bind fun bt286 => (if bt286.1 = 0 then ((spec_l2DrawField.f s0_0 bt286.2.1 bt286.2.2).bind fun bt289 => ((spec_l2DrawField.f s0_0 bt289.2.2.1 bt289.2.2.2).bind fun bt293 => ((some (([(⟨bt289.1, bt289.2.1⟩ : S116), (⟨bt293.1, bt293.2.1⟩ : S116)] : List (S116)) : List (S116))).bind fun y297 => (if bt281.1.length + y297.length < 4398046511104 then (some ((bt281.1 ++ y297), bt293.2.2.1, bt293.2.2.2)) else (none))))) else (if bt286.1 = 1 then ((spec_l1Pick.f s0_0 bt286.2.1 bt286.2.2 (([(⟨#[]⟩ : ByteArray), (⟨#[65]⟩ : ByteArray), (⟨#[99, 111, 110, 116, 101, 110, 116, 45, 108, 101, 110, 103, 116, 104]⟩ : ByteArray)] : List ByteArray))).bind fun bt306 => ((spec_l1Pick.f s0_0 bt306.2.1 bt306.2.2 (([(⟨#[]⟩ : ByteArray), (⟨#[32, 97]⟩ : ByteArray), (⟨#[49]⟩ : ByteArray)] : List ByteArray))).bind fun bt312 => (if bt281.1.length < 4398046511104 then (some ((bt281.1 ++ [(⟨bt306.1, bt312.1⟩ : S116)]), bt312.2.1, bt312.2.2)) else (none)))) else (if bt286.1 = 2 then (spec_l2Draw.l0 k bt281.1 s0_0 bt286.2.1 bt286.2.2) else (some (bt281.1, bt286.2.1, bt286.2.2))))))
set_option maxHeartbeats 8000000 in
set_option maxRecDepth 100000 in
theorem spec_l2Draw.calls (k : Nat) (g : Nat) (s0_0 : List Int) (s0_1 : Int) (s0_2 : Int) (r1 : List (S116)) (r2 : Int) (r3 : Int) (w0 w : World) (hI : IsS139 w0 w g s0_0 s0_1 s0_2) (hB : Below w0.heap.size w0 w) (h : spec_l2Draw.f k s0_0 s0_1 s0_2 = some (r1, r2, r3)) :
  Calls Tryz.prog 85 #[.pointer (some ⟨g, 0, none⟩)] w fun e w' => ∃ v0_ : Value, e = .returned (v0_) ∧ Kd.R k116 116 w' w.heap.size (fun _ => True) v0_ r1 ∧ IsS139 w0 w' g s0_0 r2 r3 ∧ Below w0.heap.size w0 w' ∧ KeepBut w w' g none := by
 have hu116 := Tryz.underlying116
 have HI0 := am hI
 have HK := am (KeepBut.refl w g none)
 have HL := am hB.size
 clear hI
 have HW0 := am hB.size
 have HB := am hB
 clear hB
 unfold spec_l2Draw.f at h
 have H := h
 clear h
 revert H
 refine ok3 fun t281 t284 t285 A2 H => ?_
 (try dsimp only at H)
 revert H
 refine ok3 fun t286 t287 t288 A3 H => ?_
 (try dsimp only at H)
 have HH4 := am H
 clear H
 go_enter Tryz.func85, Tryz.ntmps85
 go_upto_if 8 with ((with_reducible refine gw ?_); first | (refine gl 5 Tryz.func145 #[.pointer (some ⟨g, 0, none⟩)] ?_; (with_reducible refine (spec_l2DrawRight.calls k g s0_0 s0_1 s0_2 t281 t284 t285 w0 _ ?side1 ?side2 A2.out).mono ?_); (case side1 => exact u85HI0); (case side2 => exact u85HB); rintro e w5 ⟨v282, rfl, ho0, hi, hb, hk⟩; refine ⟨_, rfl, ?_⟩; have HO283 := am (Kd.R_lower ho0 (keep_size (w := w) (g := g) (row := none) u85HK)); replace HK := am (KeepBut.trans u85HK hk (.inl rfl)); replace HB := am (hb); replace HI0 := am (hi); clear hb hk hi ho0) | (refine gl 7 Tryz.func74 #[.pointer (some ⟨g, 0, none⟩), .int .i64 15] ?_; (with_reducible refine (spec_l1Below.calls g s0_0 t284 t285 15 t286 t287 t288 w0 _ ?side1 ?side2 A3.out).mono ?_); (case side1 => exact u85HI0); (case side2 => exact u85HB); rintro e w6 ⟨rfl, hi, hb, hk⟩; refine ⟨_, rfl, ?_⟩; replace HO283 := am (Kd.R_mono (Kd.R_keep (IsS139.apart (show IsS139 w0 _ g s0_0 t284 t285 from u85HI0) (ro HO283) (by decide)) hk (fun _ h => h.2)) (fun _ h => h.1)); replace HK := am (KeepBut.trans u85HK hk (.inl rfl)); replace HB := am (hb); replace HI0 := am (hi); clear hb hk hi))
 have H := HH4.out
 clear HH4
 by_cases c7 : t286 = 0
 ·rw [if_pos c7] at H
  have c7b0 : (t286 == 0) = true := beq_iff_eq.mpr c7
  have c7b1 : (t286 != 0) = false := bne_eq_false_iff_eq.mpr c7
  clear c7
  (first | rw [c7b0] | (simp only [i64_w, i32_w]; rw [c7b0]) | skip)
  revert H
  refine ok4 fun t289 t290 t291 t292 A8 H => ?_
  (try dsimp only at H)
  revert H
  refine ok4 fun t293 t294 t295 t296 A9 H => ?_
  (try dsimp only at H)
  obtain ⟨y297, hy297⟩ : ∃ y_ : List (S116), y_ = (([(⟨t289, t290⟩ : S116), (⟨t293, t294⟩ : S116)] : List (S116))) := ⟨_, rfl⟩
  replace H : (if t281.length + y297.length < 4398046511104 then (some ((t281 ++ y297), t295, t296)) else (none)) = some (r1, r2, r3) := by first | (rw [hy297]; with_reducible exact H) | (have H2_ := (Option.bind_some _ _).symm.trans H; rw [hy297]; with_reducible exact H2_) | (have H2_ := (Option.bind_some _ _).symm.trans H; with_reducible exact H2_) | with_reducible exact H | (rw [hy297]; exact H) | exact H
  have Ny297 := am hy297
  clear hy297
  revert H
  refine ifn fun c10 H => ?_
  have LMc10 := am c10
  clear c10
  obtain ⟨y300, hy300⟩ : ∃ y_ : List (S116), y_ = (t281 ++ y297) := ⟨_, rfl⟩
  replace H : (some (y300, t295, t296)) = some (r1, r2, r3) := by first | (rw [hy300]; with_reducible exact H) | (have H2_ := (Option.bind_some _ _).symm.trans H; rw [hy300]; with_reducible exact H2_) | (have H2_ := (Option.bind_some _ _).symm.trans H; with_reducible exact H2_) | with_reducible exact H | (rw [hy300]; exact H) | exact H
  have Ny300 := am hy300
  clear hy300
  simp only [Option.some.injEq, Prod.mk.injEq] at H
  obtain ⟨rfl, rfl, rfl⟩ := H
  go_wp2_with (first | ((with_reducible refine gw ?_); first | (refine gl 12 Tryz.func146 #[.pointer (some ⟨g, 0, none⟩)] ?_; (with_reducible refine (spec_l2DrawField.calls g s0_0 t287 t288 t289 t290 t291 t292 w0 _ ?side1 ?side2 A8.out).mono ?_); (case side1 => exact u85HI0); (case side2 => exact u85HB); rintro e w11 ⟨rfl, hi, hb, hk⟩; refine ⟨_, rfl, ?_⟩; replace HO283 := am (Kd.R_mono (Kd.R_keep (IsS139.apart (show IsS139 w0 _ g s0_0 t287 t288 from u85HI0) (ro HO283) (by decide)) hk (fun _ h => h.2)) (fun _ h => h.1)); replace HK := am (KeepBut.trans u85HK hk (.inl rfl)); replace HB := am (hb); replace HI0 := am (hi); clear hb hk hi) | (refine gl 14 Tryz.func146 #[.pointer (some ⟨g, 0, none⟩)] ?_; (with_reducible refine (spec_l2DrawField.calls g s0_0 t291 t292 t293 t294 t295 t296 w0 _ ?side1 ?side2 A9.out).mono ?_); (case side1 => exact u85HI0); (case side2 => exact u85HB); rintro e w12 ⟨rfl, hi, hb, hk⟩; refine ⟨_, rfl, ?_⟩; replace HO283 := am (Kd.R_mono (Kd.R_keep (IsS139.apart (show IsS139 w0 _ g s0_0 t291 t292 from u85HI0) (ro HO283) (by decide)) hk (fun _ h => h.2)) (fun _ h => h.1)); replace HK := am (KeepBut.trans u85HK hk (.inl rfl)); replace HB := am (hb); replace HI0 := am (hi); clear hb hk hi)) | ((with_reducible refine gate_dst (N := 15) rfl ?_); refine Kd.R_lit k116 _ 116 ?hg (N := 15) ?hd (xs := ([(⟨t289, t290⟩ : S116), (⟨t293, t294⟩ : S116)] : List (S116))) (inner := [.string t289, .string t290, .string t293, .string t294]) (ok := fun _ => True) (okp := fun _ => True) ?hr ?hp (fun _ hk => hk) trivial (Below.refl _ _) (Nat.le_refl _) (by simp) ?_; (case hd => rfl); (case hg => rfl); (case hr => first | (go_simp; done) | (go_simp; rfl)); (case hp => exact (Reps.c2 (show Kd.M k116 _ _ _ (⟨t289, t290⟩ : S116) [.string t289, .string t290] from (k116_mkM _ _ _ (⟨t289, t290⟩ : S116) )) (Reps.c2 (show Kd.M k116 _ _ _ (⟨t293, t294⟩ : S116) [.string t293, .string t294] from (k116_mkM _ _ _ (⟨t293, t294⟩ : S116) )) (Reps.none _ _)))); intro v298 w13 ho14 hb hg_ hnew_; clear hg_ hnew_; (first | rw [← Ny297.out] at ho14 | (simp only [Int.reduceToNat] at ho14; rw [← Ny297.out] at ho14)); have HO299 := am (Kd.R_lower (Kd.R_new' ho14 (Kd.R_lt (ro HO283))) (keep_size (w := w) (g := g) (row := none) u85HK)); replace HO283 := am (Kd.R_elder' (ro HO283) (Kd.R_base ho14) hb); replace HK := am (KeepBut.trans u85HK (KeepBut.of_below hb g none) (.inl rfl)); replace HB := am (below_step u85HB hb); replace HI0 := am (IsS139.below u85HI0 hb); clear hb ho14; obtain ⟨Ao16, co16, eo16⟩ := Kd.R_slice HO299.out; subst eo16) | ((with_reducible refine gate_builtin (b := .append) (xs := #[.tmp 10, .tmp 15]) rfl ?_); at_builtin; refine Kd.R_append_rows k116 w.heap.size rfl (.tmp 10) (.tmp 15) 27 116 (.agg #[(.string ⟨#[]⟩), (.string ⟨#[]⟩)]) 32 rfl Tryz.underlying27 info116 rfl (by decide) (by omega) v282 t281 y297 _ _ _ (fun k_ => some k_ ≠ (.slice Ao16 y297.length co16 : Value).ownBlock) (fun _ => False) rfl rfl ?aO ?aR (fun _ _ h => h) (fun _ h => h.elim) ?aF (Below.refl _ _) ?aS ?aL ?_; (case aR => exact rc HO299); (case aF => exact (fun k_ hk => Kd.fresh' (Kd.R_lt (ro HO299)) k_ hk)); (case aO => exact (by (with_reducible repeat (first | apply Kd.R_alloc | apply Kd.R_drewN | apply Kd.R_drew)); exact Kd.R_mono HO283.out (fun _ hk => hk.2))); (case aS => exact (keep_size (w := w) (g := g) (row := none) u85HK)); (case aL => have := LMc10.out; omega); intro v301 w15 ho hb hg hat; rw [← Ny300.out] at ho; have n0_ := am (IsS139.grown u85HI0 hg (IsS139.own_ne HI0.out HO283.out (by decide))); have n1_ := am (Kd.R_after (ok := (fun _ => True)) (ro HO299) hg hat); have n2_ := am (below_weaken u85HB HL.out hb); have n3_ := am (KeepBut.trans u85HK (KeepBut.of_grown hg g) (Kd.R_base2 HO283.out)); have n4_ := am (ho); clear HI0; clear HO299; clear HB; clear HK; clear HO283; have HI0 := n0_; have HO299 := n1_; have HB := n2_; have HK := n3_; have HO302 := n4_; clear n0_ n1_ n2_ n3_ n4_; clear ho hb hg hat))
  go_ret
  exact ⟨_, rf, by (with_reducible repeat (first | apply Kd.R_alloc | apply Kd.R_drewN | apply Kd.R_drew)); exact Kd.R_mono HO302.out (fun _ hk => trivial), u85HI0, u85HB, u85HK⟩
 rw [if_neg c7] at H
 have c7b0 : (t286 == 0) = false := beq_eq_false_iff_ne.mpr c7
 have c7b1 : (t286 != 0) = true := bne_iff_ne.mpr c7
 (first | rw [c7b0] | (simp only [i64_w, i32_w]; rw [c7b0]) | skip)
 by_cases c17 : t286 = 1
 rotate_left
 ·rw [if_neg c17] at H
  have c17b0 : (t286 == 1) = false := beq_eq_false_iff_ne.mpr c17
  have c17b1 : (t286 != 1) = true := bne_iff_ne.mpr c17
  by_cases c30 : t286 = 2
  rotate_left
  ·rw [if_neg c30] at H
   have c30b0 : (t286 == 2) = false := beq_eq_false_iff_ne.mpr c30
   have c30b1 : (t286 != 2) = true := bne_iff_ne.mpr c30
   simp only [Option.some.injEq, Prod.mk.injEq] at H
   obtain ⟨rfl, rfl, rfl⟩ := H
   go_wp2
   go_ret
   exact ⟨_, rf, by (with_reducible repeat (first | apply Kd.R_alloc | apply Kd.R_drewN | apply Kd.R_drew)); exact HO283.out, u85HI0, u85HB, u85HK⟩
  rw [if_pos c30] at H
  have c30b0 : (t286 == 2) = true := beq_iff_eq.mpr c30
  have c30b1 : (t286 != 2) = false := bne_eq_false_iff_eq.mpr c30
  clear c30
  have H' := am H
  clear H
  go_wp2
  (try simp only [Act.put, List.setIfInBounds_toArray, List.set_cons_zero, List.set_cons_succ])
  go_loopg [3] k (fun kq v3 w' => ∃ (x3_1 : List (S116)) (x1001_1 : Int) (x1002_1 : Int), Aside0 (spec_l2Draw.l0 kq x3_1 s0_0 x1001_1 x1002_1 = some (r1, r2, r3)) ∧ Aside0 (kq ≤ k) ∧ Aside0 (Kd.R k116 116 w' w.heap.size (fun _ => True) v3 x3_1) ∧ Aside0 (IsS139 w0 w' g s0_0 x1001_1 x1002_1) ∧ Aside0 (KeepBut w w' g none) ∧ Aside0 (Below w0.heap.size w0 w'))
  case atStart => exact ⟨(t281), (t287), (t288), H', ⟨Nat.le_refl _⟩, ⟨by (with_reducible repeat (first | apply Kd.R_alloc | apply Kd.R_drewN | apply Kd.R_drew)); exact HO283.out⟩, ⟨u85HI0⟩, ⟨u85HK⟩, ⟨u85HB⟩⟩
  case round =>
   clear H'
   try clear c1
   try clear c2
   try clear p2
   try clear c3
   try clear c7
   try clear c7b0
   try clear c7b1
   try clear c8
   try clear c10
   try clear c14
   try clear c17
   try clear c17b0
   try clear c17b1
   try clear c20
   try clear c30
   try clear c30b0
   try clear c30b1
   obtain ⟨x3_1, x1001_1, x1002_1, HA, HK1, HO_3, HI0, HK, HB⟩ := hrel
   cases gk with
   | zero => exact absurd HA.out (by simp [spec_l2Draw.l0])
   | succ k1 =>
    have H := HA.out
    clear HA
    simp only [spec_l2Draw.l0] at H
    revert H
    refine ok3 fun t318 t319 t320 A31 H => ?_
    (try dsimp only at H)
    by_cases c32 : (x3_1.length : Int) < (wrap64 (8 + t318))
    rotate_left
    ·rw [if_neg c32] at H
     have c32b0 := decide_eq_false c32
     clear c32
     simp only [Option.some.injEq, Prod.mk.injEq] at H
     obtain ⟨rfl, rfl, rfl⟩ := H
     obtain ⟨Ao40, co40, eo40⟩ := Kd.R_slice HO_3.out
     subst eo40
     go_wp2_with ((with_reducible refine gw ?_); first | (refine gl 34 Tryz.func74 #[.pointer (some ⟨g, 0, none⟩), .int .i64 2] ?_; (with_reducible refine (spec_l1Below.calls g s0_0 x1001_1 x1002_1 2 t318 t319 t320 w0 _ ?side1 ?side2 A31.out).mono ?_); (case side1 => exact u85HI0); (case side2 => exact u85HB); rintro e w41 ⟨rfl, hi, hb, hk⟩; refine ⟨_, rfl, ?_⟩; replace HO_3 := am (Kd.R_mono (Kd.R_keep (IsS139.apart (show IsS139 w0 _ g s0_0 x1001_1 x1002_1 from u85HI0) (ro HO_3) (by decide)) hk (fun _ h => h.2)) (fun _ h => h.1)); replace HK := am (KeepBut.trans u85HK hk (.inl rfl)); replace HB := am (hb); replace HI0 := am (hi); clear hb hk hi))
     go_ret
     exact ⟨_, rf, by (with_reducible repeat (first | apply Kd.R_alloc | apply Kd.R_drewN | apply Kd.R_drew)); exact HO_3.out, u85HI0, u85HB, u85HK⟩
    rw [if_pos c32] at H
    have c32b0 := decide_eq_true c32
    clear c32
    revert H
    refine ok1 fun t321 A33 H => ?_
    revert H
    refine ifn fun c34 H => ?_
    have c34b0 := eq_true c34
    have c34b1 := decide_eq_true c34
    try have c34b2 := eq_false (Nat.not_lt.2 c34)
    revert H
    refine ifn fun c35 H => ?_
    have LMc35 := am c35
    clear c35
    obtain ⟨y322, hy322⟩ : ∃ y_ : List (S116), y_ = (x3_1 ++ [(⟨(⟨#[110]⟩ : ByteArray) ++ t321, (⟨#[118]⟩ : ByteArray)⟩ : S116)]) := ⟨_, rfl⟩
    replace H : (spec_l2Draw.l0 k1 y322 s0_0 t319 t320) = some (r1, r2, r3) := by first | (rw [hy322]; with_reducible exact H) | (have H2_ := (Option.bind_some _ _).symm.trans H; rw [hy322]; with_reducible exact H2_) | (have H2_ := (Option.bind_some _ _).symm.trans H; with_reducible exact H2_) | with_reducible exact H | (rw [hy322]; exact H) | exact H
    have Ny322 := am hy322
    clear hy322
    have H' := am H
    clear H
    obtain ⟨Ao36, co36, eo36⟩ := Kd.R_slice HO_3.out
    subst eo36
    go_wp2_with (first | ((with_reducible refine gw ?_); first | (refine gl 34 Tryz.func74 #[.pointer (some ⟨g, 0, none⟩), .int .i64 2] ?_; (with_reducible refine (spec_l1Below.calls g s0_0 x1001_1 x1002_1 2 t318 t319 t320 w0 _ ?side1 ?side2 A31.out).mono ?_); (case side1 => exact u85HI0); (case side2 => exact u85HB); rintro e w37 ⟨rfl, hi, hb, hk⟩; refine ⟨_, rfl, ?_⟩; replace HO_3 := am (Kd.R_mono (Kd.R_keep (IsS139.apart (show IsS139 w0 _ g s0_0 x1001_1 x1002_1 from u85HI0) (ro HO_3) (by decide)) hk (fun _ h => h.2)) (fun _ h => h.1)); replace HK := am (KeepBut.trans u85HK hk (.inl rfl)); replace HB := am (hb); replace HI0 := am (hi); clear hb hk hi) | (refine gl 40 Tryz.func80 #[.int .i64 (x3_1.length : Int)] ?_; (with_reducible refine (spec_NumText.calls k1 (x3_1.length : Int) t321 _ A33.out).mono ?_); rintro e w38 ⟨rfl, hb⟩; refine ⟨_, rfl, ?_⟩; replace HO_3 := kr HO_3 hb; replace HK := am (KeepBut.trans u85HK (KeepBut.of_below hb g none) (.inl rfl)); replace HB := am (below_step u85HB hb); replace HI0 := am (IsS139.below u85HI0 hb); clear hb)) | ((with_reducible refine gate_builtin (b := .append) (xs := #[.tmp 37, .tmp 43]) rfl ?_); at_builtin; refine Kd.R_append k116 w.heap.size rfl (.tmp 37) (.tmp 43) 27 116 (.agg #[(.string ⟨#[]⟩), (.string ⟨#[]⟩)]) 32 rfl Tryz.underlying27 info116 rfl (by decide) (by omega) (.slice Ao36 x3_1.length co36) x3_1 (⟨(⟨#[110]⟩ : ByteArray) ++ t321, (⟨#[118]⟩ : ByteArray)⟩ : S116) [.string ((⟨#[110]⟩ : ByteArray) ++ t321), .string (⟨#[118]⟩ : ByteArray)] (fun _ => True) (fun _ => False) rfl rfl ?aP (fun _ hk => hk.elim) ?aF ?aO (Below.refl _ _) ?aS ?aL ?_; (case aP => exact k116_mkM _ _ _ (⟨(⟨#[110]⟩ : ByteArray) ++ t321, (⟨#[118]⟩ : ByteArray)⟩ : S116)); (case aF => exact (fun _ _ => trivial)); (case aO => exact (ro HO_3)); (case aS => exact (keep_size (w := w) (g := g) (row := none) u85HK)); (case aL => have := LMc35.out; omega); intro v323 w39 ho hb hg hat; rw [← Ny322.out] at ho; have n0_ := am (IsS139.grown u85HI0 hg (IsS139.own_ne HI0.out HO_3.out (by decide))); have n1_ := am (below_weaken u85HB HL.out hb); have n2_ := am (KeepBut.trans u85HK (KeepBut.of_grown hg g) (Kd.R_base2 HO_3.out)); have n3_ := am (ho); clear HI0; clear HB; clear HK; clear HO_3; have HI0 := n0_; have HB := n1_; have HK := n2_; have HO324 := n3_; clear n0_ n1_ n2_ n3_; clear ho hb hg hat))
    go_roundg k1
    case measure => have := HK1.out; omega
    case rel => exact ⟨(y322), (t319), (t320), H', ⟨by have := HK1.out; omega⟩, ⟨by (with_reducible repeat (first | apply Kd.R_alloc | apply Kd.R_drewN | apply Kd.R_drew)); exact HO324.out⟩, ⟨u85HI0⟩, ⟨u85HK⟩, ⟨u85HB⟩⟩
 rw [if_pos c17] at H
 have c17b0 : (t286 == 1) = true := beq_iff_eq.mpr c17
 have c17b1 : (t286 != 1) = false := bne_eq_false_iff_eq.mpr c17
 clear c17
 obtain ⟨y303, hy303⟩ : ∃ y_ : List ByteArray, y_ = (([(⟨#[]⟩ : ByteArray), (⟨#[65]⟩ : ByteArray), (⟨#[99, 111, 110, 116, 101, 110, 116, 45, 108, 101, 110, 103, 116, 104]⟩ : ByteArray)] : List ByteArray)) := ⟨_, rfl⟩
 replace H : ((spec_l1Pick.f s0_0 t287 t288 y303).bind fun bt306 => ((spec_l1Pick.f s0_0 bt306.2.1 bt306.2.2 (([(⟨#[]⟩ : ByteArray), (⟨#[32, 97]⟩ : ByteArray), (⟨#[49]⟩ : ByteArray)] : List ByteArray))).bind fun bt312 => (if t281.length < 4398046511104 then (some ((t281 ++ [(⟨bt306.1, bt312.1⟩ : S116)]), bt312.2.1, bt312.2.2)) else (none)))) = some (r1, r2, r3) := by first | (rw [hy303]; with_reducible exact H) | (have H2_ := (Option.bind_some _ _).symm.trans H; rw [hy303]; with_reducible exact H2_) | (have H2_ := (Option.bind_some _ _).symm.trans H; with_reducible exact H2_) | with_reducible exact H | (rw [hy303]; exact H) | exact H
 have Ny303 := am hy303
 clear hy303
 revert H
 refine ok3 fun t306 t307 t308 A18 H => ?_
 (try dsimp only at H)
 obtain ⟨y309, hy309⟩ : ∃ y_ : List ByteArray, y_ = (([(⟨#[]⟩ : ByteArray), (⟨#[32, 97]⟩ : ByteArray), (⟨#[49]⟩ : ByteArray)] : List ByteArray)) := ⟨_, rfl⟩
 replace H : ((spec_l1Pick.f s0_0 t307 t308 y309).bind fun bt312 => (if t281.length < 4398046511104 then (some ((t281 ++ [(⟨t306, bt312.1⟩ : S116)]), bt312.2.1, bt312.2.2)) else (none))) = some (r1, r2, r3) := by first | (rw [hy309]; with_reducible exact H) | (have H2_ := (Option.bind_some _ _).symm.trans H; rw [hy309]; with_reducible exact H2_) | (have H2_ := (Option.bind_some _ _).symm.trans H; with_reducible exact H2_) | with_reducible exact H | (rw [hy309]; exact H) | exact H
 have Ny309 := am hy309
 clear hy309
 revert H
 refine ok3 fun t312 t313 t314 A19 H => ?_
 (try dsimp only at H)
 revert H
 refine ifn fun c20 H => ?_
 have LMc20 := am c20
 clear c20
 obtain ⟨y315, hy315⟩ : ∃ y_ : List (S116), y_ = (t281 ++ [(⟨t306, t312⟩ : S116)]) := ⟨_, rfl⟩
 replace H : (some (y315, t313, t314)) = some (r1, r2, r3) := by first | (rw [hy315]; with_reducible exact H) | (have H2_ := (Option.bind_some _ _).symm.trans H; rw [hy315]; with_reducible exact H2_) | (have H2_ := (Option.bind_some _ _).symm.trans H; with_reducible exact H2_) | with_reducible exact H | (rw [hy315]; exact H) | exact H
 have Ny315 := am hy315
 clear hy315
 simp only [Option.some.injEq, Prod.mk.injEq] at H
 obtain ⟨rfl, rfl, rfl⟩ := H
 go_wp2_with (first | ((with_reducible refine gate_dst (N := 21) rfl ?_); refine Kd.R_lit Kd.string _ 9 ?hg (N := 21) ?hd (xs := ([(⟨#[]⟩ : ByteArray), (⟨#[65]⟩ : ByteArray), (⟨#[99, 111, 110, 116, 101, 110, 116, 45, 108, 101, 110, 103, 116, 104]⟩ : ByteArray)] : List ByteArray)) (inner := [.string (⟨#[]⟩ : ByteArray), .string (⟨#[65]⟩ : ByteArray), .string (⟨#[99, 111, 110, 116, 101, 110, 116, 45, 108, 101, 110, 103, 116, 104]⟩ : ByteArray)]) (ok := fun _ => True) (okp := fun _ => True) ?hr ?hp (fun _ hk => hk) trivial (Below.refl _ _) (Nat.le_refl _) (by simp) ?_; (case hd => rfl); (case hg => rfl); (case hr => first | (go_simp; done) | (go_simp; rfl)); (case hp => exact rp); intro v304 w21 ho22 hb hg_ hnew_; clear hg_ hnew_; (first | rw [← Ny303.out] at ho22 | (simp only [Int.reduceToNat] at ho22; rw [← Ny303.out] at ho22)); replace HO283 := kr HO283 hb; have HO305 := am (Kd.R_lower ho22 (keep_size (w := w) (g := g) (row := none) u85HK)); replace HK := am (KeepBut.trans u85HK (KeepBut.of_below hb g none) (.inl rfl)); replace HB := am (below_step u85HB hb); replace HI0 := am (IsS139.below u85HI0 hb); clear hb ho22; obtain ⟨Ao23, co23, eo23⟩ := Kd.R_slice HO305.out; subst eo23) | ((with_reducible refine gw ?_); refine gl 22 Tryz.func84 #[.pointer (some ⟨g, 0, none⟩), .slice Ao23 y303.length co23] ?_; (with_reducible refine (spec_l1Pick.calls g s0_0 t287 t288 _ _ y303 t306 t307 t308 w0 _ ?side1 ?side2 ?side3 ?side4 ?side5 A18.out).mono ?_); (case side1 => exact u85HI0); (case side2 => exact u85HB); (case side3 => exact rc HO305); (case side4 => exact (Kd.R_reads' HO305.out).2.1); (case side5 => exact far_slice (IsS139.own_ne HI0.out HO305.out (by decide))); rintro e w24 ⟨rfl, hi, hb, hk⟩; refine ⟨_, rfl, ?_⟩; replace HO283 := am (Kd.R_mono (Kd.R_keep (IsS139.apart (show IsS139 w0 _ g s0_0 t287 t288 from u85HI0) (ro HO283) (by decide)) hk (fun _ h => h.2)) (fun _ h => h.1)); replace HO305 := am (Kd.R_mono (Kd.R_keep (IsS139.apart (show IsS139 w0 _ g s0_0 t287 t288 from u85HI0) (ro HO305) (by decide)) hk (fun _ h => h.2)) (fun _ h => h.1)); replace HK := am (KeepBut.trans u85HK hk (.inl rfl)); replace HB := am (hb); replace HI0 := am (hi); clear hb hk hi) | ((with_reducible refine gate_dst (N := 24) rfl ?_); refine Kd.R_lit Kd.string _ 9 ?hg (N := 24) ?hd (xs := ([(⟨#[]⟩ : ByteArray), (⟨#[32, 97]⟩ : ByteArray), (⟨#[49]⟩ : ByteArray)] : List ByteArray)) (inner := [.string (⟨#[]⟩ : ByteArray), .string (⟨#[32, 97]⟩ : ByteArray), .string (⟨#[49]⟩ : ByteArray)]) (ok := fun _ => True) (okp := fun _ => True) ?hr ?hp (fun _ hk => hk) trivial (Below.refl _ _) (Nat.le_refl _) (by simp) ?_; (case hd => rfl); (case hg => rfl); (case hr => first | (go_simp; done) | (go_simp; rfl)); (case hp => exact rp); intro v310 w25 ho26 hb hg_ hnew_; clear hg_ hnew_; (first | rw [← Ny309.out] at ho26 | (simp only [Int.reduceToNat] at ho26; rw [← Ny309.out] at ho26)); replace HO283 := kr HO283 hb; have HO311 := am (Kd.R_lower (Kd.R_new' ho26 (Kd.R_lt (ro HO305))) (keep_size (w := w) (g := g) (row := none) u85HK)); replace HO305 := am (Kd.R_elder' (ro HO305) (Kd.R_base ho26) hb); replace HK := am (KeepBut.trans u85HK (KeepBut.of_below hb g none) (.inl rfl)); replace HB := am (below_step u85HB hb); replace HI0 := am (IsS139.below u85HI0 hb); clear hb ho26; obtain ⟨Ao27, co27, eo27⟩ := Kd.R_slice HO311.out; subst eo27) | ((with_reducible refine gw ?_); refine gl 25 Tryz.func84 #[.pointer (some ⟨g, 0, none⟩), .slice Ao27 y309.length co27] ?_; (with_reducible refine (spec_l1Pick.calls g s0_0 t307 t308 _ _ y309 t312 t313 t314 w0 _ ?side1 ?side2 ?side3 ?side4 ?side5 A19.out).mono ?_); (case side1 => exact u85HI0); (case side2 => exact u85HB); (case side3 => exact rc HO311); (case side4 => exact (Kd.R_reads' HO311.out).2.1); (case side5 => exact far_slice (IsS139.own_ne HI0.out HO311.out (by decide))); rintro e w28 ⟨rfl, hi, hb, hk⟩; refine ⟨_, rfl, ?_⟩; replace HO283 := am (Kd.R_mono (Kd.R_keep (IsS139.apart (show IsS139 w0 _ g s0_0 t307 t308 from u85HI0) (ro HO283) (by decide)) hk (fun _ h => h.2)) (fun _ h => h.1)); replace HO305 := am (Kd.R_mono (Kd.R_keep (IsS139.apart (show IsS139 w0 _ g s0_0 t307 t308 from u85HI0) (ro HO305) (by decide)) hk (fun _ h => h.2)) (fun _ h => h.1)); replace HO311 := am (Kd.R_mono (Kd.R_keep (IsS139.apart (show IsS139 w0 _ g s0_0 t307 t308 from u85HI0) (ro HO311) (by decide)) hk (fun _ h => h.2)) (fun _ h => h.1)); replace HK := am (KeepBut.trans u85HK hk (.inl rfl)); replace HB := am (hb); replace HI0 := am (hi); clear hb hk hi) | ((with_reducible refine gate_builtin (b := .append) (xs := #[.tmp 19, .tmp 27]) rfl ?_); at_builtin; refine Kd.R_append k116 w.heap.size rfl (.tmp 19) (.tmp 27) 27 116 (.agg #[(.string ⟨#[]⟩), (.string ⟨#[]⟩)]) 32 rfl Tryz.underlying27 info116 rfl (by decide) (by omega) v282 t281 (⟨t306, t312⟩ : S116) [.string t306, .string t312] (fun _ => True) (fun _ => False) rfl rfl ?aP (fun _ hk => hk.elim) ?aF ?aO (Below.refl _ _) ?aS ?aL ?_; (case aP => exact k116_mkM _ _ _ (⟨t306, t312⟩ : S116)); (case aF => exact (fun _ _ => trivial)); (case aO => exact (ro HO283)); (case aS => exact (keep_size (w := w) (g := g) (row := none) u85HK)); (case aL => have := LMc20.out; omega); intro v316 w29 ho hb hg hat; rw [← Ny315.out] at ho; have n0_ := am (IsS139.grown u85HI0 hg (IsS139.own_ne HI0.out HO283.out (by decide))); have n1_ := am (Kd.R_over' (ro HO305) (Kd.R_typed (ro HO283)) (by decide) hg); have n2_ := am (Kd.R_over' (ro HO311) (Kd.R_typed (ro HO283)) (by decide) hg); have n3_ := am (below_weaken u85HB HL.out hb); have n4_ := am (KeepBut.trans u85HK (KeepBut.of_grown hg g) (Kd.R_base2 HO283.out)); have n5_ := am (ho); clear HI0; clear HO305; clear HO311; clear HB; clear HK; clear HO283; have HI0 := n0_; have HO305 := n1_; have HO311 := n2_; have HB := n3_; have HK := n4_; have HO317 := n5_; clear n0_ n1_ n2_ n3_ n4_ n5_; clear ho hb hg hat))
 go_ret
 exact ⟨_, rf, by (with_reducible repeat (first | apply Kd.R_alloc | apply Kd.R_drewN | apply Kd.R_drew)); exact HO317.out, u85HI0, u85HB, u85HK⟩

end Go.Proofs.YtjlpjbkpmmpojaaGreatDoor.All
