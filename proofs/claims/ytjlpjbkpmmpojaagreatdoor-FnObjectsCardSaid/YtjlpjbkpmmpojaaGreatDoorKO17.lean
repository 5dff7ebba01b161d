import Derived.Test.YtjlpjbkpmmpojaaGreatDoorKO13
namespace Go.Proofs.YtjlpjbkpmmpojaaGreatDoor.All
open Go.RowKit Go.Proofs.YtjlpjbkpmmpojaaGreatDoorW.PrintWords Go.Proofs.YtjlpjbkpmmpojaaGreatDoorW.PrintLast Go.Proofs.YtjlpjbkpmmpojaaGreatDoorW.PrintMore
set_option maxHeartbeats 8000000
set_option maxRecDepth 100000
attribute [local go_sem] min2_int min_two
set_option linter.unusedVariables false
set_option linter.unusedSimpArgs false
theorem u85HI0 {p : Prop} (h : p := by repeat (first | (with_reducible first | exact HI0.out | apply IsS139.alloc | apply IsS139.drewN | apply IsS139.drew | apply IsS139.set_1 | apply IsS139.set_2) | exact HI0.out)) : p := h
theorem u85HB {p : Prop} (h : p := by repeat (first | (with_reducible first | exact HB.out | apply below_alloc | apply pw_below_drewN | apply below_drew1 | refine below_set ?_ (IsS139.ge HI0.out)) | exact HB.out)) : p := h
theorem u85HK {p : Prop} (h : p := by repeat (first | (with_reducible first | exact HK.out | apply KeepBut.set_ | apply keep_drewN | apply keep_drew | apply keep_alloc) | exact HK.out)) : p := h
def spec_l2Draw.l0 : Nat → List (S116) → List Int → Int → Int → Option ((List (S116)) × Int × Int)
 | 0, _, _, _, _ => none
 | k + 1, x3, x76, x50, x51 => (spec_l1Below.f x76 x50 x51 2).bind fun bt52 => (if (x3.length : Int) < (wrap64 (8 + bt52.1)) then ((spec_NumText.f k (x3.length : Int)).bind fun t60 => (if 1 + t60.size ≤ 9223372036854775807 then (if x3.length < 4398046511104 then (spec_l2Draw.l0 k (x3 ++ [(⟨(⟨#[110]⟩ : ByteArray) ++ t60, (⟨#[118]⟩ : ByteArray)⟩ : S116)]) x76 bt52.2.1 bt52.2.2) else (none)) else (none))) else (some (x3, bt52.2.1, bt52.2.2)))
def spec_l2Draw.f (k : Nat) (s0_0 : List Int) (s0_1 : Int) (s0_2 : Int) : Option ((List (S116)) × Int × Int) := (spec_l2DrawRight.f k s0_0 s0_1 s0_2).bind fun bt44 => ((spec_l1Below.f s0_0 bt44.2.1 bt44.2.2 15).bind fun bt43 => (if bt43.1 = 0 then ((spec_l2DrawField.f s0_0 bt43.2.1 bt43.2.2).bind fun bt47 => ((spec_l2DrawField.f s0_0 bt47.2.2.1 bt47.2.2.2).bind fun bt48 => ((some (([(⟨bt47.1, bt47.2.1⟩ : S116), (⟨bt48.1, bt48.2.1⟩ : S116)] : List (S116)) : List (S116))).bind fun y46 => (if bt44.1.length + y46.length < 4398046511104 then (some ((bt44.1 ++ y46), bt48.2.2.1, bt48.2.2.2)) else (none))))) else (if bt43.1 = 1 then ((spec_l1Pick.f s0_0 bt43.2.1 bt43.2.2 (([(⟨#[]⟩ : ByteArray), (⟨#[65]⟩ : ByteArray), (⟨#[99, 111, 110, 116, 101, 110, 116, 45, 108, 101, 110, 103, 116, 104]⟩ : ByteArray)] : List ByteArray))).bind fun bt53 => ((spec_l1Pick.f s0_0 bt53.2.1 bt53.2.2 (([(⟨#[]⟩ : ByteArray), (⟨#[32, 97]⟩ : ByteArray), (⟨#[49]⟩ : ByteArray)] : List ByteArray))).bind fun bt54 => (if bt44.1.length < 4398046511104 then (some ((bt44.1 ++ [(⟨bt53.1, bt54.1⟩ : S116)]), bt54.2.1, bt54.2.2)) else (none)))) else (if bt43.1 = 2 then (spec_l2Draw.l0 k bt44.1 s0_0 bt43.2.1 bt43.2.2) else (some (bt44.1, bt43.2.1, bt43.2.2))))))
theorem spec_l2Draw.calls (k : Nat) (g : Nat) (s0_0 : List Int) (s0_1 : Int) (s0_2 : Int) (r1 : List (S116)) (r2 : Int) (r3 : Int) (w0 w : World) (hI : IsS139 w0 w g s0_0 s0_1 s0_2) (hB : Below w0.heap.size w0 w) (h : spec_l2Draw.f k s0_0 s0_1 s0_2 = some (r1, r2, r3)) :
  Calls Tryz.prog 85 #[.pointer (some ⟨g, 0, none⟩)] w fun e w' => ∃ v0_ : Value, e = .returned (v0_) ∧ Kd.R k116 116 w' w.heap.size (fun _ => True) v0_ r1 ∧ IsS139 w0 w' g s0_0 r2 r3 ∧ Below w0.heap.size w0 w' ∧ KeepBut w w' g none := by
 have hu116 := Tryz.underlying116
 have HI0 := am hI
 have HK := am (KeepBut.refl w g none)
 have HL := am hB.size
 clear hI
 have HW0 := am hB.size
 have HB := am hB
 clear hB
 unfold spec_l2Draw.f at h
 have H := h
 clear h
 revert H
 refine ok3 fun t44 t71 t72 A2 H => ?_
 (try dsimp only at H)
 revert H
 refine ok3 fun t43 t61 t62 A3 H => ?_
 (try dsimp only at H)
 have HH4 := am H
 clear H
 go_enter Tryz.func85, Tryz.ntmps85
 go_upto_if 8 with ((with_reducible refine gw ?_); first | (refine gl 5 Tryz.func145 #[.pointer (some ⟨g, 0, none⟩)] ?_; refine (spec_l2DrawRight.calls k g s0_0 s0_1 s0_2 t44 t71 t72 w0 _ u85HI0 u85HB A2.out).mono ?_; rintro e w5 ⟨v77, rfl, ho0, hi, hb, hk⟩; refine ⟨_, rfl, ?_⟩; have HO42 := am (Kd.R_lower ho0 (keep_size (w := w) (g := g) (row := none) u85HK)); replace HK := am (KeepBut.trans u85HK hk (.inl rfl)); replace HB := am (hb); replace HI0 := am (hi); clear hb hk hi ho0) | (refine gl 7 Tryz.func74 #[.pointer (some ⟨g, 0, none⟩), .int .i64 15] ?_; refine (spec_l1Below.calls g s0_0 t71 t72 15 t43 t61 t62 w0 _ u85HI0 u85HB A3.out).mono ?_; rintro e w6 ⟨rfl, hi, hb, hk⟩; refine ⟨_, rfl, ?_⟩; replace HO42 := am (Kd.R_mono (Kd.R_keep (IsS139.apart (show IsS139 w0 _ g s0_0 t71 t72 from u85HI0) (ro HO42) (by decide)) hk (fun _ h => h.2)) (fun _ h => h.1)); replace HK := am (KeepBut.trans u85HK hk (.inl rfl)); replace HB := am (hb); replace HI0 := am (hi); clear hb hk hi))
 have H := HH4.out
 clear HH4
 by_cases c7 : t43 = 0
 ·rw [if_pos c7] at H
  have c7b0 := eqt c7
  have c7b1 := nef c7
  clear c7
  (first | rw [c7b0] | (simp only [i64_w, i32_w]; rw [c7b0]) | skip)
  revert H
  refine ok4 fun t47 t63 t73 t75 A8 H => ?_
  (try dsimp only at H)
  revert H
  refine ok4 fun t48 t65 t78 t79 A9 H => ?_
  (try dsimp only at H)
  obtain ⟨y46, hy46⟩ : ∃ y_, y_ = (([(⟨t47, t63⟩ : S116), (⟨t48, t65⟩ : S116)] : List (S116))) := ⟨_, rfl⟩
  (try with_reducible replace H := bs_ H)
  rw [← hy46] at H
  have Ny46 := am hy46
  clear hy46
  revert H
  refine ifn fun c10 H => ?_
  have LMc10 := am c10
  clear c10
  obtain ⟨y55, hy55⟩ : ∃ y_ : List (S116), y_ = (t44 ++ y46) := ⟨_, rfl⟩
  replace H : (some (y55, t78, t79)) = some (r1, r2, r3) := by first | (rw [hy55]; with_reducible exact H) | (have H2_ := (Option.bind_some _ _).symm.trans H; rw [hy55]; with_reducible exact H2_) | (have H2_ := (Option.bind_some _ _).symm.trans H; with_reducible exact H2_) | with_reducible exact H | (rw [hy55]; exact H) | exact H
  have Ny55 := am hy55
  clear hy55
  simp only [Option.some.injEq, Prod.mk.injEq] at H
  obtain ⟨rfl, rfl, rfl⟩ := H
  go_wp2_with (first | ((with_reducible refine gw ?_); first | (refine gl 12 Tryz.func146 #[.pointer (some ⟨g, 0, none⟩)] ?_; refine (spec_l2DrawField.calls g s0_0 t61 t62 t47 t63 t73 t75 w0 _ u85HI0 u85HB A8.out).mono ?_; rintro e w11 ⟨rfl, hi, hb, hk⟩; refine ⟨_, rfl, ?_⟩; replace HO42 := am (Kd.R_mono (Kd.R_keep (IsS139.apart (show IsS139 w0 _ g s0_0 t61 t62 from u85HI0) (ro HO42) (by decide)) hk (fun _ h => h.2)) (fun _ h => h.1)); replace HK := am (KeepBut.trans u85HK hk (.inl rfl)); replace HB := am (hb); replace HI0 := am (hi); clear hb hk hi) | (refine gl 14 Tryz.func146 #[.pointer (some ⟨g, 0, none⟩)] ?_; refine (spec_l2DrawField.calls g s0_0 t73 t75 t48 t65 t78 t79 w0 _ u85HI0 u85HB A9.out).mono ?_; rintro e w12 ⟨rfl, hi, hb, hk⟩; refine ⟨_, rfl, ?_⟩; replace HO42 := am (Kd.R_mono (Kd.R_keep (IsS139.apart (show IsS139 w0 _ g s0_0 t73 t75 from u85HI0) (ro HO42) (by decide)) hk (fun _ h => h.2)) (fun _ h => h.1)); replace HK := am (KeepBut.trans u85HK hk (.inl rfl)); replace HB := am (hb); replace HI0 := am (hi); clear hb hk hi)) | ((with_reducible refine gate_dst (N := 15) rfl ?_); refine Kd.R_lit k116 _ 116 ?hg (N := 15) ?hd (xs := ([(⟨t47, t63⟩ : S116), (⟨t48, t65⟩ : S116)] : List (S116))) (inner := [.string t47, .string t63, .string t48, .string t65]) (ok := fun _ => True) (okp := fun _ => True) ?hr ?hp (fun _ hk => hk) trivial (Below.refl _ _) (Nat.le_refl _) (by simp) ?_; (case hd => rfl); (case hg => rfl); (case hr => first | (go_simp; done) | (go_simp; rfl)); (case hp => exact (Reps.c2 (show Kd.M k116 _ _ _ (⟨t47, t63⟩ : S116) [.string t47, .string t63] from (k116_mkM _ _ _ (⟨t47, t63⟩ : S116) )) (Reps.c2 (show Kd.M k116 _ _ _ (⟨t48, t65⟩ : S116) [.string t48, .string t65] from (k116_mkM _ _ _ (⟨t48, t65⟩ : S116) )) (Reps.none _ _)))); intro v88 w13 ho14 hb hg_ hnew_; clear hg_ hnew_; (first | rw [← Ny46.out] at ho14 | (simp only [Int.reduceToNat] at ho14; rw [← Ny46.out] at ho14)); have HO66 := am (Kd.R_lower (Kd.R_new' ho14 (Kd.R_lt (ro HO42))) (keep_size (w := w) (g := g) (row := none) u85HK)); replace HO42 := am (Kd.R_elder' (ro HO42) (Kd.R_base ho14) hb); replace HK := am (KeepBut.trans u85HK (KeepBut.of_below hb g none) (.inl rfl)); replace HB := am (below_step u85HB hb); replace HI0 := am (IsS139.below u85HI0 hb); clear hb ho14; obtain ⟨Ao16, co16, eo16⟩ := Kd.R_slice HO66.out; subst eo16) | ((with_reducible refine gate_builtin (b := .append) (xs := #[.tmp 10, .tmp 15]) rfl ?_); at_builtin; refine Kd.R_append_rows k116 w.heap.size rfl (.tmp 10) (.tmp 15) 27 116 (.agg #[(.string ⟨#[]⟩), (.string ⟨#[]⟩)]) 32 rfl Tryz.underlying27 info116 rfl (by decide) (by omega) v77 t44 y46 _ _ _ (fun k_ => some k_ ≠ (.slice Ao16 y46.length co16 : Value).ownBlock) (fun _ => False) rfl rfl ?aO ?aR (fun _ _ h => h) (fun _ h => h.elim) ?aF (Below.refl _ _) ?aS ?aL ?_; (case aR => exact rc HO66); (case aF => exact (fun k_ hk => Kd.fresh' (Kd.R_lt (ro HO66)) k_ hk)); (case aO => exact (rm HO42 (fun _ hk => hk.2))); (case aS => exact (keep_size (w := w) (g := g) (row := none) u85HK)); (case aL => have := LMc10.out; omega); intro v89 w15 ho hb hg hat; rw [← Ny55.out] at ho; have n0_ := am (IsS139.grown u85HI0 hg (IsS139.own_ne HI0.out HO42.out (by decide))); have n1_ := am (Kd.R_after (ok := (fun _ => True)) (ro HO66) hg hat); have n2_ := am (below_weaken u85HB HL.out hb); have n3_ := am (KeepBut.trans u85HK (KeepBut.of_grown hg g) (Kd.R_base2 HO42.out)); have n4_ := am (ho); clear HI0; clear HO66; clear HB; clear HK; clear HO42; have HI0 := n0_; have HO66 := n1_; have HB := n2_; have HK := n3_; have HO83 := n4_; clear n0_ n1_ n2_ n3_ n4_; clear ho hb hg hat))
  go_ret
  exact ⟨_, rf, by (with_reducible repeat (first | apply Kd.R_alloc | apply Kd.R_drewN | apply Kd.R_drew)); exact Kd.R_mono HO83.out (fun _ hk => trivial), u85HI0, u85HB, u85HK⟩
 rw [if_neg c7] at H
 have c7b0 := eqf c7
 have c7b1 := net c7
 (first | rw [c7b0] | (simp only [i64_w, i32_w]; rw [c7b0]) | skip)
 by_cases c17 : t43 = 1
 rotate_left
 ·rw [if_neg c17] at H
  have c17b0 := eqf c17
  have c17b1 := net c17
  by_cases c30 : t43 = 2
  rotate_left
  ·rw [if_neg c30] at H
   have c30b0 := eqf c30
   have c30b1 := net c30
   simp only [Option.some.injEq, Prod.mk.injEq] at H
   obtain ⟨rfl, rfl, rfl⟩ := H
   go_wp2
   go_ret
   exact ⟨_, rf, by (with_reducible repeat (first | apply Kd.R_alloc | apply Kd.R_drewN | apply Kd.R_drew)); exact HO42.out, u85HI0, u85HB, u85HK⟩
  rw [if_pos c30] at H
  have c30b0 := eqt c30
  have c30b1 := nef c30
  clear c30
  have H' := am H
  clear H
  go_wp2
  (try simp only [Act.put, List.setIfInBounds_toArray, List.set_cons_zero, List.set_cons_succ])
  go_loopg [3] k (fun kq v3 w' => ∃ (x3_1 : List (S116)) (x50_1 : Int) (x51_1 : Int), Aside0 (spec_l2Draw.l0 kq x3_1 s0_0 x50_1 x51_1 = some (r1, r2, r3)) ∧ Aside0 (kq ≤ k) ∧ Aside0 (Kd.R k116 116 w' w.heap.size (fun _ => True) v3 x3_1) ∧ Aside0 (IsS139 w0 w' g s0_0 x50_1 x51_1) ∧ Aside0 (KeepBut w w' g none) ∧ Aside0 (Below w0.heap.size w0 w'))
  case atStart => exact ⟨(t44), (t61), (t62), H', ⟨Nat.le_refl _⟩, ⟨ro HO42⟩, ⟨u85HI0⟩, ⟨u85HK⟩, ⟨u85HB⟩⟩
  case round =>
   clear H'
   obtain ⟨x3_1, x50_1, x51_1, HA, HK1, HO_3, HI0, HK, HB⟩ := hrel
   cases gk with
   | zero => exact absurd HA.out (by simp [spec_l2Draw.l0])
   | succ k1 =>
    have H := HA.out
    clear HA
    simp only [spec_l2Draw.l0] at H
    revert H
    refine ok3 fun t52 t69 t70 A31 H => ?_
    (try dsimp only at H)
    by_cases c32 : (x3_1.length : Int) < (wrap64 (8 + t52))
    rotate_left
    ·rw [if_neg c32] at H
     have c32b0 := decide_eq_false c32
     clear c32
     simp only [Option.some.injEq, Prod.mk.injEq] at H
     obtain ⟨rfl, rfl, rfl⟩ := H
     obtain ⟨Ao40, co40, eo40⟩ := Kd.R_slice HO_3.out
     subst eo40
     go_wp2_with ((with_reducible refine gw ?_); first | (refine gl 34 Tryz.func74 #[.pointer (some ⟨g, 0, none⟩), .int .i64 2] ?_; refine (spec_l1Below.calls g s0_0 x50_1 x51_1 2 t52 t69 t70 w0 _ u85HI0 u85HB A31.out).mono ?_; rintro e w41 ⟨rfl, hi, hb, hk⟩; refine ⟨_, rfl, ?_⟩; replace HO_3 := am (Kd.R_mono (Kd.R_keep (IsS139.apart (show IsS139 w0 _ g s0_0 x50_1 x51_1 from u85HI0) (ro HO_3) (by decide)) hk (fun _ h => h.2)) (fun _ h => h.1)); replace HK := am (KeepBut.trans u85HK hk (.inl rfl)); replace HB := am (hb); replace HI0 := am (hi); clear hb hk hi))
     go_ret
     exact ⟨_, rf, by (with_reducible repeat (first | apply Kd.R_alloc | apply Kd.R_drewN | apply Kd.R_drew)); exact HO_3.out, u85HI0, u85HB, u85HK⟩
    rw [if_pos c32] at H
    have c32b0 := decide_eq_true c32
    clear c32
    revert H
    refine ok1 fun t60 A33 H => ?_
    revert H
    refine ifn fun c34 H => ?_
    have c34b0 := eq_true c34
    have c34b1 := decide_eq_true c34
    try have c34b2 := eq_false (Nat.not_lt.2 c34)
    revert H
    refine ifn fun c35 H => ?_
    have LMc35 := am c35
    clear c35
    obtain ⟨y49, hy49⟩ : ∃ y_ : List (S116), y_ = (x3_1 ++ [(⟨(⟨#[110]⟩ : ByteArray) ++ t60, (⟨#[118]⟩ : ByteArray)⟩ : S116)]) := ⟨_, rfl⟩
    replace H : (spec_l2Draw.l0 k1 y49 s0_0 t69 t70) = some (r1, r2, r3) := by first | (rw [hy49]; with_reducible exact H) | (have H2_ := (Option.bind_some _ _).symm.trans H; rw [hy49]; with_reducible exact H2_) | (have H2_ := (Option.bind_some _ _).symm.trans H; with_reducible exact H2_) | with_reducible exact H | (rw [hy49]; exact H) | exact H
    have Ny49 := am hy49
    clear hy49
    have H' := am H
    clear H
    obtain ⟨Ao36, co36, eo36⟩ := Kd.R_slice HO_3.out
    subst eo36
    go_wp2_with (first | ((with_reducible refine gw ?_); first | (refine gl 34 Tryz.func74 #[.pointer (some ⟨g, 0, none⟩), .int .i64 2] ?_; refine (spec_l1Below.calls g s0_0 x50_1 x51_1 2 t52 t69 t70 w0 _ u85HI0 u85HB A31.out).mono ?_; rintro e w37 ⟨rfl, hi, hb, hk⟩; refine ⟨_, rfl, ?_⟩; replace HO_3 := am (Kd.R_mono (Kd.R_keep (IsS139.apart (show IsS139 w0 _ g s0_0 x50_1 x51_1 from u85HI0) (ro HO_3) (by decide)) hk (fun _ h => h.2)) (fun _ h => h.1)); replace HK := am (KeepBut.trans u85HK hk (.inl rfl)); replace HB := am (hb); replace HI0 := am (hi); clear hb hk hi) | (refine gl 40 Tryz.func80 #[.int .i64 (x3_1.length : Int)] ?_; (with_reducible refine (spec_NumText.calls k1 (x3_1.length : Int) t60 _ A33.out).mono ?_); rintro e w38 ⟨rfl, hb⟩; refine ⟨_, rfl, ?_⟩; replace HO_3 := kr HO_3 hb; replace HK := am (KeepBut.trans u85HK (KeepBut.of_below hb g none) (.inl rfl)); replace HB := am (below_step u85HB hb); replace HI0 := am (IsS139.below u85HI0 hb); clear hb)) | ((with_reducible refine gate_builtin (b := .append) (xs := #[.tmp 37, .tmp 43]) rfl ?_); at_builtin; refine Kd.R_append k116 w.heap.size rfl (.tmp 37) (.tmp 43) 27 116 (.agg #[(.string ⟨#[]⟩), (.string ⟨#[]⟩)]) 32 rfl Tryz.underlying27 info116 rfl (by decide) (by omega) (.slice Ao36 x3_1.length co36) x3_1 (⟨(⟨#[110]⟩ : ByteArray) ++ t60, (⟨#[118]⟩ : ByteArray)⟩ : S116) [.string ((⟨#[110]⟩ : ByteArray) ++ t60), .string (⟨#[118]⟩ : ByteArray)] (fun _ => True) (fun _ => False) rfl rfl ?aP (fun _ hk => hk.elim) ?aF ?aO (Below.refl _ _) ?aS ?aL ?_; (case aP => exact k116_mkM _ _ _ (⟨(⟨#[110]⟩ : ByteArray) ++ t60, (⟨#[118]⟩ : ByteArray)⟩ : S116)); (case aF => exact (fun _ _ => trivial)); (case aO => exact (ro HO_3)); (case aS => exact (keep_size (w := w) (g := g) (row := none) u85HK)); (case aL => have := LMc35.out; omega); intro v90 w39 ho hb hg hat; rw [← Ny49.out] at ho; have n0_ := am (IsS139.grown u85HI0 hg (IsS139.own_ne HI0.out HO_3.out (by decide))); have n1_ := am (below_weaken u85HB HL.out hb); have n2_ := am (KeepBut.trans u85HK (KeepBut.of_grown hg g) (Kd.R_base2 HO_3.out)); have n3_ := am (ho); clear HI0; clear HB; clear HK; clear HO_3; have HI0 := n0_; have HB := n1_; have HK := n2_; have HO86 := n3_; clear n0_ n1_ n2_ n3_; clear ho hb hg hat))
    go_roundg k1
    case measure => have := HK1.out; omega
    case rel => exact ⟨(y49), (t69), (t70), H', ⟨by have := HK1.out; omega⟩, ⟨ro HO86⟩, ⟨u85HI0⟩, ⟨u85HK⟩, ⟨u85HB⟩⟩
 rw [if_pos c17] at H
 have c17b0 := eqt c17
 have c17b1 := nef c17
 clear c17
 obtain ⟨y56, hy56⟩ : ∃ y_, y_ = (([(⟨#[]⟩ : ByteArray), (⟨#[65]⟩ : ByteArray), (⟨#[99, 111, 110, 116, 101, 110, 116, 45, 108, 101, 110, 103, 116, 104]⟩ : ByteArray)] : List ByteArray)) := ⟨_, rfl⟩
 (try with_reducible replace H := bs_ H)
 rw [← hy56] at H
 have Ny56 := am hy56
 clear hy56
 revert H
 refine ok3 fun t53 t67 t68 A18 H => ?_
 (try dsimp only at H)
 obtain ⟨y57, hy57⟩ : ∃ y_, y_ = (([(⟨#[]⟩ : ByteArray), (⟨#[32, 97]⟩ : ByteArray), (⟨#[49]⟩ : ByteArray)] : List ByteArray)) := ⟨_, rfl⟩
 (try with_reducible replace H := bs_ H)
 rw [← hy57] at H
 have Ny57 := am hy57
 clear hy57
 revert H
 refine ok3 fun t54 t81 t82 A19 H => ?_
 (try dsimp only at H)
 revert H
 refine ifn fun c20 H => ?_
 have LMc20 := am c20
 clear c20
 obtain ⟨y58, hy58⟩ : ∃ y_ : List (S116), y_ = (t44 ++ [(⟨t53, t54⟩ : S116)]) := ⟨_, rfl⟩
 replace H : (some (y58, t81, t82)) = some (r1, r2, r3) := by first | (rw [hy58]; with_reducible exact H) | (have H2_ := (Option.bind_some _ _).symm.trans H; rw [hy58]; with_reducible exact H2_) | (have H2_ := (Option.bind_some _ _).symm.trans H; with_reducible exact H2_) | with_reducible exact H | (rw [hy58]; exact H) | exact H
 have Ny58 := am hy58
 clear hy58
 simp only [Option.some.injEq, Prod.mk.injEq] at H
 obtain ⟨rfl, rfl, rfl⟩ := H
 go_wp2_with (first | ((with_reducible refine gate_dst (N := 21) rfl ?_); refine rl Kd.string 9 21 ([(⟨#[]⟩ : ByteArray), (⟨#[65]⟩ : ByteArray), (⟨#[99, 111, 110, 116, 101, 110, 116, 45, 108, 101, 110, 103, 116, 104]⟩ : ByteArray)] : List ByteArray) [.string (⟨#[]⟩ : ByteArray), .string (⟨#[65]⟩ : ByteArray), .string (⟨#[99, 111, 110, 116, 101, 110, 116, 45, 108, 101, 110, 103, 116, 104]⟩ : ByteArray)] ?_; intro v91 w21 ho22 hb; (first | rw [← Ny56.out] at ho22 | (simp only [Int.reduceToNat] at ho22; rw [← Ny56.out] at ho22)); replace HO42 := kr HO42 hb; have HO45 := am (Kd.R_lower ho22 (keep_size (w := w) (g := g) (row := none) u85HK)); replace HK := am (KeepBut.trans u85HK (KeepBut.of_below hb g none) (.inl rfl)); replace HB := am (below_step u85HB hb); replace HI0 := am (IsS139.below u85HI0 hb); clear hb ho22; obtain ⟨Ao23, co23, eo23⟩ := Kd.R_slice HO45.out; subst eo23) | ((with_reducible refine gw ?_); refine gl 22 Tryz.func84 #[.pointer (some ⟨g, 0, none⟩), .slice Ao23 y56.length co23] ?_; refine (spec_l1Pick.calls g s0_0 t61 t62 _ _ y56 t53 t67 t68 w0 _ u85HI0 u85HB (rc HO45) ((Kd.R_reads' HO45.out).2.1) (far_slice (IsS139.own_ne HI0.out HO45.out (by decide))) A18.out).mono ?_; rintro e w24 ⟨rfl, hi, hb, hk⟩; refine ⟨_, rfl, ?_⟩; replace HO42 := am (Kd.R_mono (Kd.R_keep (IsS139.apart (show IsS139 w0 _ g s0_0 t61 t62 from u85HI0) (ro HO42) (by decide)) hk (fun _ h => h.2)) (fun _ h => h.1)); replace HO45 := am (Kd.R_mono (Kd.R_keep (IsS139.apart (show IsS139 w0 _ g s0_0 t61 t62 from u85HI0) (ro HO45) (by decide)) hk (fun _ h => h.2)) (fun _ h => h.1)); replace HK := am (KeepBut.trans u85HK hk (.inl rfl)); replace HB := am (hb); replace HI0 := am (hi); clear hb hk hi) | ((with_reducible refine gate_dst (N := 24) rfl ?_); refine rl Kd.string 9 24 ([(⟨#[]⟩ : ByteArray), (⟨#[32, 97]⟩ : ByteArray), (⟨#[49]⟩ : ByteArray)] : List ByteArray) [.string (⟨#[]⟩ : ByteArray), .string (⟨#[32, 97]⟩ : ByteArray), .string (⟨#[49]⟩ : ByteArray)] ?_; intro v92 w25 ho26 hb; (first | rw [← Ny57.out] at ho26 | (simp only [Int.reduceToNat] at ho26; rw [← Ny57.out] at ho26)); replace HO42 := kr HO42 hb; have HO59 := am (Kd.R_lower (Kd.R_new' ho26 (Kd.R_lt (ro HO45))) (keep_size (w := w) (g := g) (row := none) u85HK)); replace HO45 := am (Kd.R_elder' (ro HO45) (Kd.R_base ho26) hb); replace HK := am (KeepBut.trans u85HK (KeepBut.of_below hb g none) (.inl rfl)); replace HB := am (below_step u85HB hb); replace HI0 := am (IsS139.below u85HI0 hb); clear hb ho26; obtain ⟨Ao27, co27, eo27⟩ := Kd.R_slice HO59.out; subst eo27) | ((with_reducible refine gw ?_); refine gl 25 Tryz.func84 #[.pointer (some ⟨g, 0, none⟩), .slice Ao27 y57.length co27] ?_; refine (spec_l1Pick.calls g s0_0 t67 t68 _ _ y57 t54 t81 t82 w0 _ u85HI0 u85HB (rc HO59) ((Kd.R_reads' HO59.out).2.1) (far_slice (IsS139.own_ne HI0.out HO59.out (by decide))) A19.out).mono ?_; rintro e w28 ⟨rfl, hi, hb, hk⟩; refine ⟨_, rfl, ?_⟩; replace HO42 := am (Kd.R_mono (Kd.R_keep (IsS139.apart (show IsS139 w0 _ g s0_0 t67 t68 from u85HI0) (ro HO42) (by decide)) hk (fun _ h => h.2)) (fun _ h => h.1)); replace HO45 := am (Kd.R_mono (Kd.R_keep (IsS139.apart (show IsS139 w0 _ g s0_0 t67 t68 from u85HI0) (ro HO45) (by decide)) hk (fun _ h => h.2)) (fun _ h => h.1)); replace HO59 := am (Kd.R_mono (Kd.R_keep (IsS139.apart (show IsS139 w0 _ g s0_0 t67 t68 from u85HI0) (ro HO59) (by decide)) hk (fun _ h => h.2)) (fun _ h => h.1)); replace HK := am (KeepBut.trans u85HK hk (.inl rfl)); replace HB := am (hb); replace HI0 := am (hi); clear hb hk hi) | ((with_reducible refine gate_builtin (b := .append) (xs := #[.tmp 19, .tmp 27]) rfl ?_); at_builtin; refine Kd.R_append k116 w.heap.size rfl (.tmp 19) (.tmp 27) 27 116 (.agg #[(.string ⟨#[]⟩), (.string ⟨#[]⟩)]) 32 rfl Tryz.underlying27 info116 rfl (by decide) (by omega) v77 t44 (⟨t53, t54⟩ : S116) [.string t53, .string t54] (fun _ => True) (fun _ => False) rfl rfl ?aP (fun _ hk => hk.elim) ?aF ?aO (Below.refl _ _) ?aS ?aL ?_; (case aP => exact k116_mkM _ _ _ (⟨t53, t54⟩ : S116)); (case aF => exact (fun _ _ => trivial)); (case aO => exact (ro HO42)); (case aS => exact (keep_size (w := w) (g := g) (row := none) u85HK)); (case aL => have := LMc20.out; omega); intro v93 w29 ho hb hg hat; rw [← Ny58.out] at ho; have n0_ := am (IsS139.grown u85HI0 hg (IsS139.own_ne HI0.out HO42.out (by decide))); have n1_ := am (Kd.R_over' (ro HO45) (Kd.R_typed (ro HO42)) (by decide) hg); have n2_ := am (Kd.R_over' (ro HO59) (Kd.R_typed (ro HO42)) (by decide) hg); have n3_ := am (below_weaken u85HB HL.out hb); have n4_ := am (KeepBut.trans u85HK (KeepBut.of_grown hg g) (Kd.R_base2 HO42.out)); have n5_ := am (ho); clear HI0; clear HO45; clear HO59; clear HB; clear HK; clear HO42; have HI0 := n0_; have HO45 := n1_; have HO59 := n2_; have HB := n3_; have HK := n4_; have HO87 := n5_; clear n0_ n1_ n2_ n3_ n4_ n5_; clear ho hb hg hat))
 go_ret
 exact ⟨_, rf, by (with_reducible repeat (first | apply Kd.R_alloc | apply Kd.R_drewN | apply Kd.R_drew)); exact HO87.out, u85HI0, u85HB, u85HK⟩
end Go.Proofs.YtjlpjbkpmmpojaaGreatDoor.All
