-- Written by a program of this session (wip/tools/hprint.py) out of the translation. Lean checks it.
import Derived.Test.YtjckfmipegemcaaGreatDoorKPiecesAllx0
import Derived.Test.YtjckfmipegemcaaGreatDoorKPiecesAllx7
namespace Go.Proofs.YtjckfmipegemcaaGreatDoor.All
open Go.RowKit Go.Proofs.YtjckfmipegemcaaGreatDoorW.PrintWords Go.Proofs.YtjckfmipegemcaaGreatDoorW.PrintLast Go.Proofs.YtjckfmipegemcaaGreatDoorW.PrintMore
attribute [local go_sem] max2_int min2_int max_two min_two max_three min_three max_four min_four  -- for this text's walks alone
set_option linter.unusedVariables false
set_option linter.unusedSimpArgs false

/-! ### spec_l4DrawSizes: function 40 -/
theorem u40HK {p : Prop} (h : p := by repeat (first | (with_reducible first | exact HK.out | apply KeepBut.set_ | apply keep_drewN | apply keep_drew | apply keep_alloc) | exact HK.out)) : p := h
theorem u40HB {p : Prop} (h : p := by repeat (first | (with_reducible first | exact HB.out | apply below_alloc | apply pw_below_drewN | apply below_drew1 | refine below_set ?_ (IsS75.ge HI0.out)) | exact HB.out)) : p := h
theorem u40HI0 {p : Prop} (h : p := by repeat (first | (with_reducible first | exact HI0.out | apply IsS75.alloc | apply IsS75.drewN | apply IsS75.drew | apply IsS75.set_1 | apply IsS75.set_2) | exact HI0.out)) : p := h
def spec_l4DrawSizes.l0 : Nat → List Int → Int → List Int → Int → Int → Option (List Int × Int × Int)
 | 0, _, _, _, _, _ => none
 | k + 1, x3, x4, x1000, x1001, x1002 => (spec_l1Below.f x1000 x1001 x1002 6).bind fun bt440 => (if x4 < bt440.1 then ((spec_l1PickInt.f x1000 bt440.2.1 bt440.2.2 (([0, 1, 2, 5, 7, 17, (-1), 100] : List Int))).bind fun bt446 => (if x3.length < 17592186044416 then (spec_l4DrawSizes.l0 k (x3 ++ [bt446.1]) (wrap64 (x4 + 1)) x1000 bt446.2.1 bt446.2.2) else (none))) else (some (x3, bt440.2.1, bt440.2.2)))
def spec_l4DrawSizes.f (k : Nat) (s0_0 : List Int) (s0_1 : Int) (s0_2 : Int) : Option (List Int × Int × Int) := spec_l4DrawSizes.l0 k (([] : List Int)) 0 s0_0 s0_1 s0_2
set_option maxHeartbeats 8000000 in
set_option maxRecDepth 100000 in
theorem spec_l4DrawSizes.calls (k : Nat) (g : Nat) (s0_0 : List Int) (s0_1 : Int) (s0_2 : Int) (r1 : List Int) (r2 : Int) (r3 : Int) (w0 w : World) (hI : IsS75 w0 w g s0_0 s0_1 s0_2) (hB : Below w0.heap.size w0 w) (h : spec_l4DrawSizes.f k s0_0 s0_1 s0_2 = some (r1, r2, r3)) :
  Calls Tryz.prog 40 #[.pointer (some ⟨g, 0, none⟩)] w fun e w' => ∃ v0_ : Value, e = .returned (v0_) ∧ Kd.R (Kd.int .i64) 3 w' w.heap.size (fun _ => True) v0_ r1 ∧ IsS75 w0 w' g s0_0 r2 r3 ∧ Below w0.heap.size w0 w' ∧ KeepBut w w' g none := by
 have HI0 := am hI
 have HK := am (KeepBut.refl w g none)
 have HL := am hB.size
 clear hI
 have HW0 := am hB.size
 have HB := am hB
 clear hB
 unfold spec_l4DrawSizes.f at h
 have H := h
 clear h
 obtain ⟨y437, hy437⟩ : ∃ y_ : List Int, y_ = (([] : List Int)) := ⟨_, rfl⟩
 replace H : (spec_l4DrawSizes.l0 k y437 0 s0_0 s0_1 s0_2) = some (r1, r2, r3) := by first | (rw [hy437]; with_reducible exact H) | (have H2_ := (Option.bind_some _ _).symm.trans H; rw [hy437]; with_reducible exact H2_) | (have H2_ := (Option.bind_some _ _).symm.trans H; with_reducible exact H2_) | with_reducible exact H | (rw [hy437]; exact H) | exact H
 have Ny437 := am hy437
 clear hy437
 have H' := am H
 clear H
 go_enter Tryz.func40, Tryz.ntmps40
 go_wp2_with (first | ((with_reducible refine gate_dst (N := 5) rfl ?_); refine Kd.R_lit (Kd.int .i64) _ 3 ?hg (N := 5) ?hd (xs := ([] : List Int)) (inner := []) (ok := fun _ => True) (okp := fun _ => True) ?hr ?hp (fun _ hk => hk) trivial (Below.refl _ _) (Nat.le_refl _) (by simp) ?_; (case hd => rfl); (case hg => rfl); (case hr => first | (go_simp; done) | (go_simp; rfl)); (case hp => exact (Reps.none _ _)); intro v438 w2 ho3 hb hg_ hnew_; clear hg_ hnew_; (first | rw [← Ny437.out] at ho3 | (simp only [Int.reduceToNat] at ho3; rw [← Ny437.out] at ho3)); have HO439 := am (Kd.R_lower ho3 (keep_size (w := w) (g := g) (row := none) u40HK)); replace HK := am (KeepBut.trans u40HK (KeepBut.of_below hb g none) (.inl rfl)); replace HB := am (below_step u40HB hb); replace HI0 := am (IsS75.below u40HI0 hb); clear hb ho3))
 (try simp only [Act.put, List.setIfInBounds_toArray, List.set_cons_zero, List.set_cons_succ])
 go_loopg [3, 4] k (fun kq v3 v4 w' => ∃ (x3_1 : List Int) (x4_1 : Int) (x1001_1 : Int) (x1002_1 : Int), v4 = .int .i64 x4_1 ∧ Aside0 (spec_l4DrawSizes.l0 kq x3_1 x4_1 s0_0 x1001_1 x1002_1 = some (r1, r2, r3)) ∧ Aside0 (kq ≤ k) ∧ Aside0 (Kd.R (Kd.int .i64) 3 w' w.heap.size (fun _ => True) v3 x3_1) ∧ Aside0 (IsS75 w0 w' g s0_0 x1001_1 x1002_1) ∧ Aside0 (KeepBut w w' g none) ∧ Aside0 (Below w0.heap.size w0 w'))
 case atStart => exact ⟨(y437), (0), (s0_1), (s0_2), rs, H', ⟨Nat.le_refl _⟩, ⟨by (with_reducible repeat (first | apply Kd.R_alloc | apply Kd.R_drewN | apply Kd.R_drew)); exact HO439.out⟩, ⟨u40HI0⟩, ⟨u40HK⟩, ⟨u40HB⟩⟩
 case round =>
  clear H'
  try clear p2
  obtain ⟨x3_1, x4_1, x1001_1, x1002_1, rfl, HA, HK1, HO_3, HI0, HK, HB⟩ := hrel
  cases gk with
  | zero => exact absurd HA.out (by simp [spec_l4DrawSizes.l0])
  | succ k1 =>
   have H := HA.out
   clear HA
   simp only [spec_l4DrawSizes.l0] at H
   revert H
   refine ok3 fun t440 t441 t442 A4 H => ?_
   (try dsimp only at H)
   by_cases c5 : x4_1 < t440
   rotate_left
   ·rw [if_neg c5] at H
    have c5b0 := decide_eq_false c5
    clear c5
    simp only [Option.some.injEq, Prod.mk.injEq] at H
    obtain ⟨rfl, rfl, rfl⟩ := H
    go_wp2_with ((with_reducible refine gw ?_); first | (refine gl 8 Tryz.func30 #[.pointer (some ⟨g, 0, none⟩), .int .i64 6] ?_; (with_reducible refine (spec_l1Below.calls g s0_0 x1001_1 x1002_1 6 t440 t441 t442 w0 _ ?side1 ?side2 A4.out).mono ?_); (case side1 => exact u40HI0); (case side2 => exact u40HB); rintro e w14 ⟨rfl, hi, hb, hk⟩; refine ⟨_, rfl, ?_⟩; replace HO_3 := am (Kd.R_mono (Kd.R_keep (IsS75.apart (show IsS75 w0 _ g s0_0 x1001_1 x1002_1 from u40HI0) (ro HO_3) (by decide)) hk (fun _ h => h.2)) (fun _ h => h.1)); replace HK := am (KeepBut.trans u40HK hk (.inl rfl)); replace HB := am (hb); replace HI0 := am (hi); clear hb hk hi))
    go_ret
    exact ⟨_, rf, by (with_reducible repeat (first | apply Kd.R_alloc | apply Kd.R_drewN | apply Kd.R_drew)); exact HO_3.out, u40HI0, u40HB, u40HK⟩
   rw [if_pos c5] at H
   have c5b0 := decide_eq_true c5
   clear c5
   obtain ⟨y443, hy443⟩ : ∃ y_ : List Int, y_ = (([0, 1, 2, 5, 7, 17, (-1), 100] : List Int)) := ⟨_, rfl⟩
   replace H : ((spec_l1PickInt.f s0_0 t441 t442 y443).bind fun bt446 => (if x3_1.length < 17592186044416 then (spec_l4DrawSizes.l0 k1 (x3_1 ++ [bt446.1]) (wrap64 (x4_1 + 1)) s0_0 bt446.2.1 bt446.2.2) else (none))) = some (r1, r2, r3) := by first | (rw [hy443]; with_reducible exact H) | (have H2_ := (Option.bind_some _ _).symm.trans H; rw [hy443]; with_reducible exact H2_) | (have H2_ := (Option.bind_some _ _).symm.trans H; with_reducible exact H2_) | with_reducible exact H | (rw [hy443]; exact H) | exact H
   have Ny443 := am hy443
   clear hy443
   revert H
   refine ok3 fun t446 t447 t448 A6 H => ?_
   (try dsimp only at H)
   revert H
   refine ifn fun c7 H => ?_
   have LMc7 := am c7
   clear c7
   obtain ⟨y449, hy449⟩ : ∃ y_ : List Int, y_ = (x3_1 ++ [t446]) := ⟨_, rfl⟩
   replace H : (spec_l4DrawSizes.l0 k1 y449 (wrap64 (x4_1 + 1)) s0_0 t447 t448) = some (r1, r2, r3) := by first | (rw [hy449]; with_reducible exact H) | (have H2_ := (Option.bind_some _ _).symm.trans H; rw [hy449]; with_reducible exact H2_) | (have H2_ := (Option.bind_some _ _).symm.trans H; with_reducible exact H2_) | with_reducible exact H | (rw [hy449]; exact H) | exact H
   have Ny449 := am hy449
   clear hy449
   have H' := am H
   clear H
   go_wp2_with (first | ((with_reducible refine gw ?_); refine gl 8 Tryz.func30 #[.pointer (some ⟨g, 0, none⟩), .int .i64 6] ?_; (with_reducible refine (spec_l1Below.calls g s0_0 x1001_1 x1002_1 6 t440 t441 t442 w0 _ ?side1 ?side2 A4.out).mono ?_); (case side1 => exact u40HI0); (case side2 => exact u40HB); rintro e w8 ⟨rfl, hi, hb, hk⟩; refine ⟨_, rfl, ?_⟩; replace HO_3 := am (Kd.R_mono (Kd.R_keep (IsS75.apart (show IsS75 w0 _ g s0_0 x1001_1 x1002_1 from u40HI0) (ro HO_3) (by decide)) hk (fun _ h => h.2)) (fun _ h => h.1)); replace HK := am (KeepBut.trans u40HK hk (.inl rfl)); replace HB := am (hb); replace HI0 := am (hi); clear hb hk hi) | ((with_reducible refine gate_dst (N := 14) rfl ?_); refine Kd.R_lit (Kd.int .i64) _ 3 ?hg (N := 14) ?hd (xs := ([0, 1, 2, 5, 7, 17, (-1), 100] : List Int)) (inner := [.int .i64 0, .int .i64 1, .int .i64 2, .int .i64 5, .int .i64 7, .int .i64 17, .int .i64 (-1), .int .i64 100]) (ok := fun _ => True) (okp := fun _ => True) ?hr ?hp (fun _ hk => hk) trivial (Below.refl _ _) (Nat.le_refl _) (by simp) ?_; (case hd => rfl); (case hg => rfl); (case hr => first | (go_simp; done) | (go_simp; rfl)); (case hp => exact rp); intro v444 w9 ho10 hb hg_ hnew_; clear hg_ hnew_; (first | rw [← Ny443.out] at ho10 | (simp only [Int.reduceToNat] at ho10; rw [← Ny443.out] at ho10)); have HO445 := am (Kd.R_lower (Kd.R_new' ho10 (Kd.R_lt (ro HO_3))) (keep_size (w := w) (g := g) (row := none) u40HK)); replace HO_3 := am (Kd.R_elder' (ro HO_3) (Kd.R_base ho10) hb); replace HK := am (KeepBut.trans u40HK (KeepBut.of_below hb g none) (.inl rfl)); replace HB := am (below_step u40HB hb); replace HI0 := am (IsS75.below u40HI0 hb); clear hb ho10; obtain ⟨Ao11, co11, eo11⟩ := Kd.R_slice HO445.out; subst eo11) | ((with_reducible refine gw ?_); refine gl 15 Tryz.func57 #[.pointer (some ⟨g, 0, none⟩), .slice Ao11 y443.length co11] ?_; (with_reducible refine (spec_l1PickInt.calls g s0_0 t441 t442 _ _ y443 t446 t447 t448 w0 _ ?side1 ?side2 ?side3 ?side4 ?side5 A6.out).mono ?_); (case side1 => exact u40HI0); (case side2 => exact u40HB); (case side3 => exact rc HO445); (case side4 => exact (Kd.R_reads' HO445.out).2.1); (case side5 => exact far_slice (IsS75.own_ne HI0.out HO445.out (by decide))); rintro e w12 ⟨rfl, hi, hb, hk⟩; refine ⟨_, rfl, ?_⟩; replace HO_3 := am (Kd.R_mono (Kd.R_keep (IsS75.apart (show IsS75 w0 _ g s0_0 t441 t442 from u40HI0) (ro HO_3) (by decide)) hk (fun _ h => h.2)) (fun _ h => h.1)); replace HO445 := am (Kd.R_mono (Kd.R_keep (IsS75.apart (show IsS75 w0 _ g s0_0 t441 t442 from u40HI0) (ro HO445) (by decide)) hk (fun _ h => h.2)) (fun _ h => h.1)); replace HK := am (KeepBut.trans u40HK hk (.inl rfl)); replace HB := am (hb); replace HI0 := am (hi); clear hb hk hi) | ((with_reducible refine gate_builtin (b := .append) (xs := #[.tmp 12, .tmp 16]) rfl ?_); at_builtin; refine Kd.R_append (Kd.int .i64) w.heap.size rfl (.tmp 12) (.tmp 16) 31 3 (.int .i64 0) 8 rfl Tryz.underlying31 info3 rfl (by decide) (by omega) u3 x3_1 t446 [.int .i64 t446] (fun k_ => some k_ ≠ (.slice Ao11 y443.length co11 : Value).ownBlock) (fun _ => False) rfl rfl ?aP (fun _ hk => hk.elim) ?aF ?aO (Below.refl _ _) ?aS ?aL ?_; (case aP => exact rfl); (case aF => exact (fun k_ hk => Kd.fresh' (Kd.R_lt (ro HO445)) k_ hk)); (case aO => exact (by (with_reducible repeat (first | apply Kd.R_alloc | apply Kd.R_drewN | apply Kd.R_drew)); exact Kd.R_mono HO_3.out (fun _ hk => hk.2))); (case aS => exact (keep_size (w := w) (g := g) (row := none) u40HK)); (case aL => have := LMc7.out; omega); intro v450 w13 ho hb hg hat; rw [← Ny449.out] at ho; have n0_ := am (IsS75.grown u40HI0 hg (IsS75.own_ne HI0.out HO_3.out (by decide))); have n1_ := am (Kd.R_after (ok := (fun _ => True)) (ro HO445) hg hat); have n2_ := am (below_weaken u40HB HL.out hb); have n3_ := am (KeepBut.trans u40HK (KeepBut.of_grown hg g) (Kd.R_base2 HO_3.out)); have n4_ := am (ho); clear HI0; clear HO445; clear HB; clear HK; clear HO_3; have HI0 := n0_; have HO445 := n1_; have HB := n2_; have HK := n3_; have HO451 := n4_; clear n0_ n1_ n2_ n3_ n4_; clear ho hb hg hat))
   go_roundg k1
   case measure => have := HK1.out; omega
   case rel => exact ⟨(y449), (wrap64 (x4_1 + 1)), (t447), (t448), rs, H', ⟨by have := HK1.out; omega⟩, ⟨by (with_reducible repeat (first | apply Kd.R_alloc | apply Kd.R_drewN | apply Kd.R_drew)); exact Kd.R_mono HO451.out (fun _ hk => trivial)⟩, ⟨u40HI0⟩, ⟨u40HK⟩, ⟨u40HB⟩⟩

/-! ### spec_DrawPieces: function 11 -/
theorem u11HB {p : Prop} (h : p := by repeat (first | (with_reducible first | exact HB.out | apply below_alloc | apply pw_below_drewN | apply below_drew1 | refine below_set ?_ (IsS75.ge HI455.out)) | exact HB.out)) : p := h
theorem u11HI455 {p : Prop} (h : p := by repeat (first | (with_reducible first | exact HI455.out | apply IsS75.alloc | apply IsS75.drewN | apply IsS75.drew | apply IsS75.set_1 | apply IsS75.set_2) | exact HI455.out)) : p := h
def spec_DrawPieces.f (k : Nat) (l0 : List Int) : Option (ByteArray × List Int) := (spec_l1New.f k l0).bind fun bt452 => ((spec_l1DrawText.f k bt452.1 bt452.2.1 bt452.2.2).bind fun bt456 => ((spec_l4DrawSizes.f k bt452.1 bt456.2.1 bt456.2.2).bind fun bt459 => (some (bt456.1, bt459.1))))
set_option maxHeartbeats 8000000 in
set_option maxRecDepth 100000 in
theorem spec_DrawPieces.calls (k : Nat) (A0 : Option Addr) (c0 : Nat) (l0 : List Int) (r1 : ByteArray) (r2 : List Int) (w : World) (hr0 : Kd.C (Kd.int .u8) w A0 l0.length l0) (hc0 : l0.length ≤ c0) (h : spec_DrawPieces.f k l0 = some (r1, r2)) :
  Calls Tryz.prog 11 #[.slice A0 l0.length c0] w fun e w' => ∃ v1_ : Value, e = .returned (.tuple #[.string r1, v1_]) ∧ Kd.R (Kd.int .i64) 3 w' w.heap.size (fun _ => True) v1_ r2 ∧ Below w.heap.size w w' := by
 have HR0 := am hr0
 have HC0 := am hc0
 clear hr0 hc0
 have HB := am (Below.refl w.heap.size w)
 unfold spec_DrawPieces.f at h
 have H := h
 clear h
 revert H
 refine ok3 fun t452 t453 t454 A2 H => ?_
 (try dsimp only at H)
 revert H
 refine ok3 fun t456 t457 t458 A3 H => ?_
 (try dsimp only at H)
 revert H
 refine ok3 fun t459 t462 t463 A4 H => ?_
 (try dsimp only at H)
 simp only [Option.some.injEq, Prod.mk.injEq] at H
 obtain ⟨rfl, rfl⟩ := H
 go_enter Tryz.func11, Tryz.ntmps11
 go_wp2_with ((with_reducible refine gw ?_); first | (refine gl 7 Tryz.func29 #[.slice A0 l0.length c0] ?_; (with_reducible refine (spec_l1New.calls k _ _ l0 t452 t453 t454 w _ ?side1 ?side2 ?side3 A2.out).mono ?_); (case side1 => exact u11HB); (case side2 => exact HR0.out); (case side3 => exact HC0.out); rintro e w5 ⟨g455, rfl, hi, hb, hb2⟩; refine ⟨_, rfl, ?_⟩; replace HB := am (hb); have HI455 := am (hi); clear hb hb2 hi) | (refine gl 9 Tryz.func39 #[.pointer (some ⟨g455, 0, none⟩)] ?_; (with_reducible refine (spec_l1DrawText.calls k g455 t452 t453 t454 t456 t457 t458 w _ ?side1 ?side2 A3.out).mono ?_); (case side1 => exact u11HI455); (case side2 => exact u11HB); rintro e w6 ⟨rfl, hi, hb, hk⟩; refine ⟨_, rfl, ?_⟩; replace HB := am (hb); replace HI455 := am (hi); clear hb hk hi) | (refine gl 12 Tryz.func40 #[.pointer (some ⟨g455, 0, none⟩)] ?_; (with_reducible refine (spec_l4DrawSizes.calls k g455 t452 t457 t458 t459 t462 t463 w _ ?side1 ?side2 A4.out).mono ?_); (case side1 => exact u11HI455); (case side2 => exact u11HB); rintro e w7 ⟨v460, rfl, ho0, hi, hb, hk⟩; refine ⟨_, rfl, ?_⟩; have HO461 := am (Kd.R_lower ho0 (below_size u11HB)); replace HB := am (hb); replace HI455 := am (hi); clear hb hk hi ho0))
 go_ret2
 exact ⟨_, rf, by (with_reducible repeat (first | apply Kd.R_alloc | apply Kd.R_drewN | apply Kd.R_drew)); exact HO461.out, u11HB⟩

/-! ### impl_Pieces: function 13 -/
theorem u13HB {p : Prop} (h : p := by repeat (first | (with_reducible first | exact HB.out | apply below_alloc | apply pw_below_drewN | apply below_drew1) | exact HB.out)) : p := h
def impl_Pieces.l0 : Nat → ByteArray → List ByteArray → List Int → Int → Int → Option (List ByteArray)
 | 0, _, _, _, _, _ => none
 | k + 1, x0, x5, x9, x10, x11 => if x11 < x10 then (if 0 ≤ x11 then (if x11 < (x9.length : Int) then (if 0 ≤ (mx 0 (mn (rd x9 x11) (x0.size : Int))) then (if (mx 0 (mn (rd x9 x11) (x0.size : Int))) ≤ (x0.size : Int) then (if x5.length < 8796093022208 then (impl_Pieces.l0 k (x0.extract ((mx 0 (mn (rd x9 x11) (x0.size : Int))) : Int).toNat x0.size) (x5 ++ [x0.extract 0 ((mx 0 (mn (rd x9 x11) (x0.size : Int))) : Int).toNat]) x9 x10 (wrap64 (x11 + 1))) else (none)) else (none)) else (none)) else (none)) else (none)) else (if x0.toList = ([] : List UInt8) then (some x5) else (if x5.length < 8796093022208 then (some (x5 ++ [x0])) else (none)))
def impl_Pieces.f (k : Nat) (a0 : ByteArray) (l1 : List Int) : Option (List ByteArray) := impl_Pieces.l0 k a0 ([] : List ByteArray) l1 (l1.length : Int) 0
set_option maxHeartbeats 8000000 in
set_option maxRecDepth 100000 in
theorem impl_Pieces.calls (k : Nat) (a0 : ByteArray) (A1 : Option Addr) (c1 : Nat) (l1 : List Int) (r : List ByteArray) (w : World) (hr1 : Kd.C (Kd.int .i64) w A1 l1.length l1) (hc1 : l1.length ≤ c1) (h : impl_Pieces.f k a0 l1 = some r) :
  Calls Tryz.prog 13 #[.string a0, .slice A1 l1.length c1] w fun e w' => ∃ v0_ : Value, e = .returned (v0_) ∧ Kd.R Kd.string 9 w' w.heap.size (fun _ => True) v0_ r ∧ Below w.heap.size w w' := by
 have HR1 := am hr1
 have HC1 := am hc1
 clear hr1 hc1
 have HB := am (Below.refl w.heap.size w)
 unfold impl_Pieces.f at h
 have H := h
 clear h
 have H' := am H
 clear H
 go_enter Tryz.func13, Tryz.ntmps13
 go_wp2
 (try simp only [Act.put, List.setIfInBounds_toArray, List.set_cons_zero, List.set_cons_succ])
 go_loopg [0, 5, 11] k (fun kq v0 v5 v11 w' => ∃ (x0_1 : ByteArray) (x5_1 : List ByteArray) (x11_1 : Int), v0 = .string x0_1 ∧ v11 = .int .i64 x11_1 ∧ Aside0 (impl_Pieces.l0 kq x0_1 x5_1 l1 (l1.length : Int) x11_1 = some r) ∧ Aside0 (kq ≤ k) ∧ Aside0 (Kd.R Kd.string 9 w' w.heap.size (fun _ => True) v5 x5_1) ∧ Aside0 (Below w.heap.size w w'))
 case atStart => exact ⟨(a0), (([] : List ByteArray)), (0), rs, rs, H', ⟨Nat.le_refl _⟩, ⟨by first | exact Kd.R_nil _ _ _ _ _ | exact Kd.N_nil _ _ _ _ _ | exact Kd.V_nil _ _ _ _ _ | exact Kd.Q_nil _ _ _ _ _ | exact Kd.S_nil _ _ _ _ _⟩, ⟨u13HB⟩⟩
 case round =>
  clear H'
  try clear c1
  try clear p2
  obtain ⟨x0_1, x5_1, x11_1, rfl, rfl, HA, HK1, HO_5, HB⟩ := hrel
  cases gk with
  | zero => exact absurd HA.out (by simp [impl_Pieces.l0])
  | succ k1 =>
   have H := HA.out
   clear HA
   simp only [impl_Pieces.l0] at H
   by_cases c3 : x11_1 < (l1.length : Int)
   rotate_left
   ·rw [if_neg c3] at H
    have c3b0 := decide_eq_false c3
    clear c3
    by_cases c14 : x0_1.toList = ([] : List UInt8)
    ·rw [if_pos c14] at H
     have c14b0 : (x0_1.toList == ([] : List UInt8)) = true := beq_iff_eq.mpr c14
     have c14b1 : (x0_1.toList != ([] : List UInt8)) = false := bne_eq_false_iff_eq.mpr c14
     clear c14
     obtain rfl := Option.some.inj H
     go_wp2
     go_ret
     exact ⟨_, rf, by (with_reducible repeat (first | apply Kd.R_alloc | apply Kd.R_drewN | apply Kd.R_drew)); exact HO_5.out, bl⟩
    rw [if_neg c14] at H
    have c14b0 : (x0_1.toList == ([] : List UInt8)) = false := beq_eq_false_iff_ne.mpr c14
    have c14b1 : (x0_1.toList != ([] : List UInt8)) = true := bne_iff_ne.mpr c14
    revert H
    refine ifn fun c15 H => ?_
    have LMc15 := am c15
    clear c15
    obtain ⟨y468, hy468⟩ : ∃ y_ : List ByteArray, y_ = (x5_1 ++ [x0_1]) := ⟨_, rfl⟩
    replace H : (some y468) = some r := by first | (rw [hy468]; with_reducible exact H) | (have H2_ := (Option.bind_some _ _).symm.trans H; rw [hy468]; with_reducible exact H2_) | (have H2_ := (Option.bind_some _ _).symm.trans H; with_reducible exact H2_) | with_reducible exact H | (rw [hy468]; exact H) | exact H
    have Ny468 := am hy468
    clear hy468
    obtain rfl := Option.some.inj H
    go_wp2_with (first | ((with_reducible refine gate_builtin (b := .append) (xs := #[.tmp 32, .tmp 34]) rfl ?_); at_builtin; refine Kd.R_append Kd.string (w0 := w) w.heap.size rfl (.tmp 32) (.tmp 34) 35 9 (.string ⟨#[]⟩) 16 rfl Tryz.underlying35 info9 rfl (by decide) (by omega) u5 x5_1 x0_1 [.string x0_1] (fun _ => True) (fun _ => False) rfl rfl ?aP (fun _ hk => hk.elim) ?aF ?aO ?aB ?aS ?aL ?_; (case aP => exact rfl); (case aB => exact bl); (case aF => exact (fun _ _ => trivial)); (case aO => exact (ro HO_5)); (case aS => exact (below_size bl)); (case aL => have := LMc15.out; omega); intro v469 w16 ho hb hg hat; rw [← Ny468.out] at ho; have n0_ := am (hb); have n1_ := am (ho); clear HB; clear HO_5; have HB := n0_; have HO470 := n1_; clear n0_ n1_; clear ho hb hg hat))
    go_ret
    exact ⟨_, rf, by (with_reducible repeat (first | apply Kd.R_alloc | apply Kd.R_drewN | apply Kd.R_drew)); exact HO470.out, bl⟩
   rw [if_pos c3] at H
   have c3b0 := decide_eq_true c3
   clear c3
   revert H
   refine ifn fun c4 H => ?_
   have c4b0 := decide_eq_true c4
   clear c4
   revert H
   refine ifn fun c5 H => ?_
   have c5b0 := decide_eq_true c5
   clear c5
   obtain ⟨ji6, hji6⟩ : ∃ j_ : Int, (mn (rd l1 x11_1) (x0_1.size : Int)) = j_ := ⟨_, rfl⟩
   replace H : (if 0 ≤ (mx 0 (ji6)) then (if (mx 0 (ji6)) ≤ (x0_1.size : Int) then (if x5_1.length < 8796093022208 then (impl_Pieces.l0 k1 (x0_1.extract ((mx 0 (ji6)) : Int).toNat x0_1.size) (x5_1 ++ [x0_1.extract 0 ((mx 0 (ji6)) : Int).toNat]) l1 (l1.length : Int) (wrap64 (x11_1 + 1))) else (none)) else (none)) else (none)) = some r := by first | (rw [hji6] at H; exact H) | (simp only [hji6] at H ⊢; exact H)
   have hji6_ : (if (x0_1.size : Int) < (rd l1 x11_1) then (x0_1.size : Int) else (rd l1 x11_1)) = ji6 := hji6
   obtain ⟨ji7, hji7⟩ : ∃ j_ : Int, (mx 0 (ji6)) = j_ := ⟨_, rfl⟩
   replace H : (if 0 ≤ (ji7) then (if (ji7) ≤ (x0_1.size : Int) then (if x5_1.length < 8796093022208 then (impl_Pieces.l0 k1 (x0_1.extract ((ji7) : Int).toNat x0_1.size) (x5_1 ++ [x0_1.extract 0 ((ji7) : Int).toNat]) l1 (l1.length : Int) (wrap64 (x11_1 + 1))) else (none)) else (none)) else (none)) = some r := by first | (rw [hji7] at H; exact H) | (simp only [hji7] at H ⊢; exact H)
   have hji7_ : (if 0 < (ji6) then (ji6) else 0) = ji7 := hji7
   revert H
   refine ifn fun c8 H => ?_
   have c8b0 := eq_true c8
   have c8b1 := decide_eq_true c8
   clear c8
   revert H
   refine ifn fun c9 H => ?_
   have c9b0 := eq_true c9
   have c9b1 := decide_eq_true c9
   clear c9
   revert H
   refine ifn fun c10 H => ?_
   have LMc10 := am c10
   clear c10
   obtain ⟨y465, hy465⟩ : ∃ y_ : List ByteArray, y_ = (x5_1 ++ [x0_1.extract 0 ((ji7) : Int).toNat]) := ⟨_, rfl⟩
   replace H : (impl_Pieces.l0 k1 (x0_1.extract ((ji7) : Int).toNat x0_1.size) y465 l1 (l1.length : Int) (wrap64 (x11_1 + 1))) = some r := by first | (rw [hy465]; with_reducible exact H) | (have H2_ := (Option.bind_some _ _).symm.trans H; rw [hy465]; with_reducible exact H2_) | (have H2_ := (Option.bind_some _ _).symm.trans H; with_reducible exact H2_) | with_reducible exact H | (rw [hy465]; exact H) | exact H
   have Ny465 := am hy465
   clear hy465
   have c11b0 := eq_true (od : 0 ≤ (ji7))
   have c12b0 := eq_true (od : (ji7) ≤ (x0_1.size : Int))
   have H' := am H
   clear H
   have p464 : 0 ≤ (x11_1 : Int) := od
   have q464 : x11_1 < (l1.length : Int) := od
   obtain ⟨ad464, e464, hx464_0⟩ := Kd.at_int HR1.out x11_1 p464 q464
   cases e464
   replace hx464_0 := hcw hx464_0
   replace p464 := eq_true p464
   replace q464 := eq_true q464
   go_wp2_with (first | ((with_reducible refine gate_builtin (b := .append) (xs := #[.tmp 20, .tmp 24]) rfl ?_); at_builtin; refine Kd.R_append Kd.string (w0 := w) w.heap.size rfl (.tmp 20) (.tmp 24) 35 9 (.string ⟨#[]⟩) 16 rfl Tryz.underlying35 info9 rfl (by decide) (by omega) u5 x5_1 (x0_1.extract 0 ((ji7) : Int).toNat) [.string (x0_1.extract 0 ((ji7) : Int).toNat)] (fun _ => True) (fun _ => False) rfl rfl ?aP (fun _ hk => hk.elim) ?aF ?aO ?aB ?aS ?aL ?_; (case aP => exact rfl); (case aB => exact bl); (case aF => exact (fun _ _ => trivial)); (case aO => exact (ro HO_5)); (case aS => exact (below_size bl)); (case aL => have := LMc10.out; omega); intro v466 w13 ho hb hg hat; rw [← Ny465.out] at ho; have n0_ := am (hb); have n1_ := am (ho); clear HB; clear HO_5; have HB := n0_; have HO467 := n1_; clear n0_ n1_; clear ho hb hg hat))
   go_roundg k1
   case measure => have := HK1.out; omega
   case rel => exact ⟨(x0_1.extract ((ji7) : Int).toNat x0_1.size), (y465), (wrap64 (x11_1 + 1)), (by first | rfl | (simp; done) | (simp only [← hji7] <;> (first | rfl | simp)) | (simp [*]; done)), rs, H', ⟨by have := HK1.out; omega⟩, ⟨by (with_reducible repeat (first | apply Kd.R_alloc | apply Kd.R_drewN | apply Kd.R_drew)); exact HO467.out⟩, ⟨u13HB⟩⟩

end Go.Proofs.YtjckfmipegemcaaGreatDoor.All
