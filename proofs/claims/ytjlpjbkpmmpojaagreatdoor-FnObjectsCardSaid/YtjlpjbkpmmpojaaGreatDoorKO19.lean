import Derived.Test.YtjlpjbkpmmpojaaGreatDoorKO18
namespace Go.Proofs.YtjlpjbkpmmpojaaGreatDoor.All
open Go.RowKit Go.Proofs.YtjlpjbkpmmpojaaGreatDoorW.PrintWords Go.Proofs.YtjlpjbkpmmpojaaGreatDoorW.PrintLast Go.Proofs.YtjlpjbkpmmpojaaGreatDoorW.PrintMore
set_option maxHeartbeats 8000000
set_option maxRecDepth 100000
attribute [local go_sem] min2_int min_two
set_option linter.unusedVariables false
set_option linter.unusedSimpArgs false
theorem u122HI0 {p : Prop} (h : p := by repeat (first | (with_reducible first | exact HI0.out | apply IsS139.alloc | apply IsS139.drewN | apply IsS139.drew | apply IsS139.set_1 | apply IsS139.set_2 | apply IsS139.far (p := ⟨gb30, _, none⟩) (hne := NB0_30.out) | apply IsS139.far (p := ⟨gb16, _, none⟩) (hne := NB0_16.out)) | exact HI0.out)) : p := h
theorem u122HK {p : Prop} (h : p := by repeat (first | (with_reducible first | exact HK.out | apply KeepBut.set_ | apply keep_drewN | apply keep_drew | apply keep_alloc | refine keep_far ?_ GW30.out _ | refine keep_far ?_ GW16.out _) | exact HK.out)) : p := h
theorem u122HB {p : Prop} (h : p := by repeat (first | (with_reducible first | exact HB.out | apply below_alloc | apply pw_below_drewN | apply below_drew1 | refine below_set ?_ (IsS139.ge HI0.out) | refine below_set ?_ GE30.out | refine below_set ?_ GE16.out) | exact HB.out)) : p := h
def spec_l3DrawReq.l0 : Nat → Int → List Int → Int → Int → Int → ByteArray → List (S116) → ByteArray → Option (Int × ByteArray × (List (S116)) × ByteArray × Int × Int)
 | 0, _, _, _, _, _, _, _, _ => none
 | k + 1, x4, x99, x102, x103, x101, x104, x48, x105 => (spec_l1Below.f x99 x102 x103 4).bind fun bt577 => (if x4 < bt577.1 then ((spec_l1Pick.f x99 bt577.2.1 bt577.2.2 (([(⟨#[108, 97, 110, 103]⟩ : ByteArray), (⟨#[107, 105, 110, 100]⟩ : ByteArray), (⟨#[99, 97, 99, 104, 101, 45, 99, 111, 110, 116, 114, 111, 108]⟩ : ByteArray), (⟨#[105, 102, 45, 110, 111, 110, 101, 45, 109, 97, 116, 99, 104]⟩ : ByteArray), (⟨#[120, 45, 97]⟩ : ByteArray)] : List ByteArray))).bind fun bt61 => ((spec_l2At.f k x48 bt61.1).bind fun t589 => (if t589 < 0 then ((spec_l1Pick.f x99 bt61.2.1 bt61.2.2 (([(⟨#[100, 101]⟩ : ByteArray), (⟨#[101, 110]⟩ : ByteArray)] : List ByteArray))).bind fun bt97 => (if bt61.1.toList = ([107, 105, 110, 100] : List UInt8) then ((spec_l1Pick.f x99 bt97.2.1 bt97.2.2 (([(⟨#[120]⟩ : ByteArray), (⟨#[121]⟩ : ByteArray)] : List ByteArray))).bind fun bt599 => (if x48.length < 4398046511104 then (spec_l3DrawReq.l0 k (wrap64 (x4 + 1)) x99 bt599.2.1 bt599.2.2 x101 x104 (x48 ++ [(⟨bt61.1, bt599.1⟩ : S116)]) x105) else (none))) else (if bt61.1.toList = ([99, 97, 99, 104, 101, 45, 99, 111, 110, 116, 114, 111, 108] : List UInt8) then ((spec_l1Pick.f x99 bt97.2.1 bt97.2.2 (([(⟨#[110, 111, 45, 99, 97, 99, 104, 101]⟩ : ByteArray), (⟨#[110, 111, 45, 115, 116, 111, 114, 101]⟩ : ByteArray), (⟨#[109, 97, 120, 45, 97, 103, 101, 61, 51]⟩ : ByteArray)] : List ByteArray))).bind fun bt608 => (if x48.length < 4398046511104 then (spec_l3DrawReq.l0 k (wrap64 (x4 + 1)) x99 bt608.2.1 bt608.2.2 x101 x104 (x48 ++ [(⟨bt61.1, bt608.1⟩ : S116)]) x105) else (none))) else (if bt61.1.toList = ([105, 102, 45, 110, 111, 110, 101, 45, 109, 97, 116, 99, 104] : List UInt8) then ((spec_l1Pick.f x99 bt97.2.1 bt97.2.2 (([(⟨#[97]⟩ : ByteArray), (⟨#[98]⟩ : ByteArray)] : List ByteArray))).bind fun bt617 => (if x48.length < 4398046511104 then (spec_l3DrawReq.l0 k (wrap64 (x4 + 1)) x99 bt617.2.1 bt617.2.2 x101 x104 (x48 ++ [(⟨bt61.1, bt617.1⟩ : S116)]) x105) else (none))) else (if x48.length < 4398046511104 then (spec_l3DrawReq.l0 k (wrap64 (x4 + 1)) x99 bt97.2.1 bt97.2.2 x101 x104 (x48 ++ [(⟨bt61.1, bt97.1⟩ : S116)]) x105) else (none)))))) else (spec_l3DrawReq.l0 k (wrap64 (x4 + 1)) x99 bt61.2.1 bt61.2.2 x101 x104 x48 x105)))) else (if x101 = 3 then ((spec_l3DrawBody.f k x99 bt577.2.1 bt577.2.2).bind fun bt580 => (some (x101, x104, x48, bt580.1, bt580.2.1, bt580.2.2))) else (some (x101, x104, x48, x105, bt577.2.1, bt577.2.2))))
def spec_l3DrawReq.f (k : Nat) (s0_0 : List Int) (s0_1 : Int) (s0_2 : Int) : Option (Int × ByteArray × (List (S116)) × ByteArray × Int × Int) := (spec_l1PickInt.f s0_0 s0_1 s0_2 (([1, 1, 1, 1, 2, 3, 4] : List Int))).bind fun bt81 => ((spec_l1Pick.f s0_0 bt81.2.1 bt81.2.2 (([(⟨#[47]⟩ : ByteArray), (⟨#[47, 97]⟩ : ByteArray), (⟨#[47, 97, 47, 98]⟩ : ByteArray), (⟨#[47, 98]⟩ : ByteArray)] : List ByteArray))).bind fun bt93 => (spec_l3DrawReq.l0 k 0 s0_0 bt93.2.1 bt93.2.2 bt81.1 bt93.1 ([] : List (S116)) (⟨#[]⟩ : ByteArray)))
theorem spec_l3DrawReq.calls (k : Nat) (g : Nat) (s0_0 : List Int) (s0_1 : Int) (s0_2 : Int) (r1 : Int) (r2 : ByteArray) (r3 : List (S116)) (r4 : ByteArray) (r5 : Int) (r6 : Int) (w0 w : World) (hI : IsS139 w0 w g s0_0 s0_1 s0_2) (hB : Below w0.heap.size w0 w) (h : spec_l3DrawReq.f k s0_0 s0_1 s0_2 = some (r1, r2, r3, r4, r5, r6)) :
  Calls Tryz.prog 122 #[.pointer (some ⟨g, 0, none⟩)] w fun e w' => ∃ v2_ : Value, e = .returned (.agg #[.int .i64 r1, .string r2, v2_, .string r4]) ∧ Kd.R k116 116 w' w.heap.size (fun _ => True) v2_ r3 ∧ IsS139 w0 w' g s0_0 r5 r6 ∧ Below w0.heap.size w0 w' ∧ KeepBut w w' g none := by
 have hu50 := Tryz.underlying50
 have hu116 := Tryz.underlying116
 have HI0 := am hI
 have HK := am (KeepBut.refl w g none)
 have HL := am hB.size
 clear hI
 have HW0 := am hB.size
 have HB := am hB
 clear hB
 unfold spec_l3DrawReq.f at h
 have H := h
 clear h
 obtain ⟨y564, hy564⟩ : ∃ y_, y_ = (([1, 1, 1, 1, 2, 3, 4] : List Int)) := ⟨_, rfl⟩
 (try with_reducible replace H := bs_ H)
 rw [← hy564] at H
 have Ny564 := am hy564
 clear hy564
 revert H
 refine ok3 fun t81 t568 t569 A2 H => ?_
 (try dsimp only at H)
 obtain ⟨y570, hy570⟩ : ∃ y_, y_ = (([(⟨#[47]⟩ : ByteArray), (⟨#[47, 97]⟩ : ByteArray), (⟨#[47, 97, 47, 98]⟩ : ByteArray), (⟨#[47, 98]⟩ : ByteArray)] : List ByteArray)) := ⟨_, rfl⟩
 (try with_reducible replace H := bs_ H)
 rw [← hy570] at H
 have Ny570 := am hy570
 clear hy570
 revert H
 refine ok3 fun t93 t574 t575 A3 H => ?_
 (try dsimp only at H)
 have H' := am H
 clear H
 go_enter Tryz.func122, Tryz.ntmps122
 go_wp2_with (first | ((with_reducible refine gw ?_); refine bx 2 #[.int .i64 0, .string (⟨#[]⟩ : ByteArray), .slice none 0 0, .string (⟨#[]⟩ : ByteArray)] 50 ?_; intro gb30 hg w4 hbox hb; replace HB := am (below_step u122HB hb); have BK30 := am (hbox); have GW30 := am (hs hg (keep_size (w := w) (g := g) (row := none) u122HK)); have GE30 := am (Nat.le_trans HW0.out (hs hg (keep_size (w := w) (g := g) (row := none) u122HK))); replace HK := am (KeepBut.trans u122HK (KeepBut.of_below hb g none) (.inl rfl)); have NB0_30 := am (hl hg (IsS139.lt (show IsS139 w0 _ g s0_0 s0_1 s0_2 from u122HI0))); have NB30_0 := am (hh hg (IsS139.lt (show IsS139 w0 _ g s0_0 s0_1 s0_2 from u122HI0))); replace HI0 := am (IsS139.below u122HI0 hb); clear hb hbox hg) | ((with_reducible refine gate_dst (N := 8) rfl ?_); refine rl (Kd.int .i64) 3 8 ([1, 1, 1, 1, 2, 3, 4] : List Int) [.int .i64 1, .int .i64 1, .int .i64 1, .int .i64 1, .int .i64 2, .int .i64 3, .int .i64 4] ?_; intro v565 w5 ho6 hb; (first | rw [← Ny564.out] at ho6 | (simp only [Int.reduceToNat] at ho6; rw [← Ny564.out] at ho6)); have HO566 := am (Kd.R_lower ho6 (keep_size (w := w) (g := g) (row := none) u122HK)); replace BK30 := kb BK30 hb; replace HK := am (KeepBut.trans u122HK (KeepBut.of_below hb g none) (.inl rfl)); replace HB := am (below_step u122HB hb); replace HI0 := am (IsS139.below u122HI0 hb); clear hb ho6; obtain ⟨Ao7, co7, eo7⟩ := Kd.R_slice HO566.out; subst eo7) | ((with_reducible refine gw ?_); refine gl 9 Tryz.func75 #[.pointer (some ⟨g, 0, none⟩), .slice Ao7 y564.length co7] ?_; refine (spec_l1PickInt.calls g s0_0 s0_1 s0_2 _ _ y564 t81 t568 t569 w0 _ u122HI0 u122HB (rc HO566) ((Kd.R_reads' HO566.out).2.1) (far_slice (IsS139.own_ne HI0.out HO566.out (by decide))) A2.out).mono ?_; rintro e w8 ⟨rfl, hi, hb, hk⟩; refine ⟨_, rfl, ?_⟩; replace BK30 := kp BK30 hk NB30_0; replace HO566 := am (Kd.R_mono (Kd.R_keep (IsS139.apart (show IsS139 w0 _ g s0_0 s0_1 s0_2 from u122HI0) (ro HO566) (by decide)) hk (fun _ h => h.2)) (fun _ h => h.1)); replace HK := am (KeepBut.trans u122HK hk (.inl rfl)); replace HB := am (hb); replace HI0 := am (hi); clear hb hk hi) | ((with_reducible refine gate_dst (N := 11) rfl ?_); refine rl Kd.string 9 11 ([(⟨#[47]⟩ : ByteArray), (⟨#[47, 97]⟩ : ByteArray), (⟨#[47, 97, 47, 98]⟩ : ByteArray), (⟨#[47, 98]⟩ : ByteArray)] : List ByteArray) [.string (⟨#[47]⟩ : ByteArray), .string (⟨#[47, 97]⟩ : ByteArray), .string (⟨#[47, 97, 47, 98]⟩ : ByteArray), .string (⟨#[47, 98]⟩ : ByteArray)] ?_; intro v571 w9 ho10 hb; (first | rw [← Ny570.out] at ho10 | (simp only [Int.reduceToNat] at ho10; rw [← Ny570.out] at ho10)); replace HO566 := kr HO566 hb; have HO572 := am (Kd.R_lower ho10 (keep_size (w := w) (g := g) (row := none) u122HK)); replace BK30 := kb BK30 hb; replace HK := am (KeepBut.trans u122HK (KeepBut.of_below hb g none) (.inl rfl)); replace HB := am (below_step u122HB hb); replace HI0 := am (IsS139.below u122HI0 hb); clear hb ho10; obtain ⟨Ao11, co11, eo11⟩ := Kd.R_slice HO572.out; subst eo11) | ((with_reducible refine gw ?_); refine gl 12 Tryz.func84 #[.pointer (some ⟨g, 0, none⟩), .slice Ao11 y570.length co11] ?_; refine (spec_l1Pick.calls g s0_0 t568 t569 _ _ y570 t93 t574 t575 w0 _ u122HI0 u122HB (rc HO572) ((Kd.R_reads' HO572.out).2.1) (far_slice (IsS139.own_ne HI0.out HO572.out (by decide))) A3.out).mono ?_; rintro e w12 ⟨rfl, hi, hb, hk⟩; refine ⟨_, rfl, ?_⟩; replace BK30 := kp BK30 hk NB30_0; replace HO566 := am (Kd.R_mono (Kd.R_keep (IsS139.apart (show IsS139 w0 _ g s0_0 t568 t569 from u122HI0) (ro HO566) (by decide)) hk (fun _ h => h.2)) (fun _ h => h.1)); replace HO572 := am (Kd.R_mono (Kd.R_keep (IsS139.apart (show IsS139 w0 _ g s0_0 t568 t569 from u122HI0) (ro HO572) (by decide)) hk (fun _ h => h.2)) (fun _ h => h.1)); replace HK := am (KeepBut.trans u122HK hk (.inl rfl)); replace HB := am (hb); replace HI0 := am (hi); clear hb hk hi) | ((with_reducible refine gw ?_); refine bx 3 #[.int .i64 0, .string (⟨#[]⟩ : ByteArray), .slice none 0 0, .string (⟨#[]⟩ : ByteArray)] 50 ?_; intro gb16 hg w13 hbox hb; replace HO566 := am (Kd.R_below (ro HO566) hb); replace HO572 := am (Kd.R_below (ro HO572) hb); replace HB := am (below_step u122HB hb); have BK16 := am (hbox); have GW16 := am (hs hg (keep_size (w := w) (g := g) (row := none) u122HK)); have GE16 := am (Nat.le_trans HW0.out (hs hg (keep_size (w := w) (g := g) (row := none) u122HK))); replace HK := am (KeepBut.trans u122HK (KeepBut.of_below hb g none) (.inl rfl)); have NB30_16 := am (nl hg BK30 : gb30 ≠ gb16); have NB16_30 := am (ng hg BK30 : gb16 ≠ gb30); replace BK30 := kb BK30 hb; have NB0_16 := am (hl hg (IsS139.lt (show IsS139 w0 _ g s0_0 t574 t575 from u122HI0))); have NB16_0 := am (hh hg (IsS139.lt (show IsS139 w0 _ g s0_0 t574 t575 from u122HI0))); replace HI0 := am (IsS139.below u122HI0 hb); clear hb hbox hg; have hnb14 := NB16_30.out; have hnc14 := NB30_16.out; have hnb15 := NB16_0.out; have hnc15 := NB0_16.out; obtain ⟨_, _, _, _, _, _, _, _⟩ := cl4 BK16))
 (try simp only [Act.put, List.setIfInBounds_toArray, List.set_cons_zero, List.set_cons_succ])
 go_loopg [4] k (fun kq v4 w' => ∃ (x4_1 : Int) (x102_1 : Int) (x103_1 : Int) (x48_1 : List (S116)) (u48 : Value), v4 = .int .i64 x4_1 ∧ Aside0 (spec_l3DrawReq.l0 kq x4_1 s0_0 x102_1 x103_1 t81 t93 x48_1 (⟨#[]⟩ : ByteArray) = some (r1, r2, r3, r4, r5, r6)) ∧ Aside0 (kq ≤ k) ∧ Aside0 (Kd.R k116 116 w' w.heap.size (fun _ => True) u48 x48_1) ∧ Aside0 (w'.heap[gb30]? = some (.cells #[.int .i64 0, .string (⟨#[]⟩ : ByteArray), (.slice none 0 0), .string (⟨#[]⟩ : ByteArray)] 50 (0, 0))) ∧ Aside0 (w'.heap[gb16]? = some (.cells #[.int .i64 t81, .string t93, u48, .string (⟨#[]⟩ : ByteArray)] 50 (0, 0))) ∧ Aside0 (IsS139 w0 w' g s0_0 x102_1 x103_1) ∧ Aside0 (KeepBut w w' g none) ∧ Aside0 (Below w0.heap.size w0 w'))
 case atStart => exact ⟨(0), (t574), (t575), (([] : List (S116))), (.slice none 0 0), rs, H', ⟨Nat.le_refl _⟩, ⟨by first | exact Kd.R_nil _ _ _ _ _ | exact Kd.N_nil _ _ _ _ _ | exact Kd.V_nil _ _ _ _ _ | exact Kd.Q_nil _ _ _ _ _ | exact Kd.S_nil _ _ _ _ _⟩, ⟨bg1 BK30 NB30_16⟩, ⟨pt0 BK16⟩, ⟨u122HI0⟩, ⟨u122HK⟩, ⟨u122HB⟩⟩
 case round =>
  clear H'
  obtain ⟨x4_1, x102_1, x103_1, x48_1, u48, rfl, HA, HK1, HO_577002, BK30, BK16, HI0, HK, HB⟩ := hrel
  cases gk with
  | zero => exact absurd HA.out (by simp [spec_l3DrawReq.l0])
  | succ k1 =>
   have H := HA.out
   clear HA
   simp only [spec_l3DrawReq.l0] at H
   revert H
   refine ok3 fun t577 t578 t579 A17 H => ?_
   (try dsimp only at H)
   have HH18 := am H
   clear H
   go_upto_if 17 with ((with_reducible refine gw ?_); first | (refine gl 16 Tryz.func74 #[.pointer (some ⟨g, 0, none⟩), .int .i64 4] ?_; refine (spec_l1Below.calls g s0_0 x102_1 x103_1 4 t577 t578 t579 w0 _ u122HI0 u122HB A17.out).mono ?_; rintro e w19 ⟨rfl, hi, hb, hk⟩; refine ⟨_, rfl, ?_⟩; replace HO_577002 := am (Kd.R_mono (Kd.R_keep (IsS139.apart (show IsS139 w0 _ g s0_0 x102_1 x103_1 from u122HI0) (ro HO_577002) (by decide)) hk (fun _ h => h.2)) (fun _ h => h.1)); replace BK30 := kp BK30 hk NB30_0; replace BK16 := kp BK16 hk NB16_0; replace HK := am (KeepBut.trans u122HK hk (.inl rfl)); replace HB := am (hb); replace HI0 := am (hi); clear hb hk hi))
   have H := HH18.out
   clear HH18
   by_cases c20 : x4_1 < t577
   rotate_left
   ·rw [if_neg c20] at H
    have c20b0 := decide_eq_false c20
    clear c20
    (first | rw [c20b0] | (simp only [i64_w, i32_w]; rw [c20b0]) | skip)
    by_cases c85 : t81 = 3
    rotate_left
    ·rw [if_neg c85] at H
     have c85b0 := eqf c85
     have c85b1 := net c85
     simp only [Option.some.injEq, Prod.mk.injEq] at H
     obtain ⟨rfl, rfl, rfl, rfl, rfl, rfl⟩ := H
     have hnb95 := NB16_30.out
     have hnc95 := NB30_16.out
     have hnb96 := NB16_0.out
     have hnc96 := NB0_16.out
     obtain ⟨_, _, _, _, _, _, _, _⟩ := cl4 BK16
     have hnb98 := NB30_0.out
     have hnc98 := NB0_30.out
     obtain ⟨_, _, _, _, _, _, _, _⟩ := cl4 BK30
     obtain ⟨Ao100, co100, eo100⟩ := Kd.R_slice HO_577002.out
     subst eo100
     go_wp2
     refine bodyPost_ret (results_cell_row rfl _ _ gb30 50 #[.int .i64 t81, .string t93, .slice Ao100 x48_1.length co100, .string (⟨#[]⟩ : ByteArray)] (0, 0) _ rfl (pt0 BK30) Tryz.underlying50 rfl (by kernel_rfl)) rfl ?_
     exact ⟨_, rf, rj (Kd.R_types HO_577002.out BK30.out (by decide)) (fun _ hk => trivial), u122HI0, u122HB, u122HK⟩
    rw [if_pos c85] at H
    have c85b0 := eqt c85
    have c85b1 := nef c85
    clear c85
    revert H
    refine ok3 fun t580 t581 t582 A86 H => ?_
    (try dsimp only at H)
    simp only [Option.some.injEq, Prod.mk.injEq] at H
    obtain ⟨rfl, rfl, rfl, rfl, rfl, rfl⟩ := H
    have hnb87 := NB16_30.out
    have hnc87 := NB30_16.out
    have hnb88 := NB16_0.out
    have hnc88 := NB0_16.out
    obtain ⟨_, _, _, _, _, _, _, _⟩ := cl4 BK16
    go_wp2_with ((with_reducible refine gw ?_); first | (refine gl 59 Tryz.func164 #[.pointer (some ⟨g, 0, none⟩)] ?_; refine (spec_l3DrawBody.calls k1 g s0_0 t578 t579 t580 t581 t582 w0 _ u122HI0 u122HB A86.out).mono ?_; rintro e w90 ⟨rfl, hi, hb, hk⟩; refine ⟨_, rfl, ?_⟩; replace HO_577002 := am (Kd.R_mono (Kd.R_keep (IsS139.apart (show IsS139 w0 _ g s0_0 t578 t579 from u122HI0) (ro HO_577002) (by decide)) hk (fun _ h => h.2)) (fun _ h => h.1)); replace BK30 := kp BK30 hk NB30_0; replace BK16 := kp BK16 hk NB16_0; replace HK := am (KeepBut.trans u122HK hk (.inl rfl)); replace HB := am (hb); replace HI0 := am (hi); clear hb hk hi; obtain ⟨_, _, _, _, _, _, _, _⟩ := cl4 BK16; have hnb92 := NB30_0.out; have hnc92 := NB0_30.out; obtain ⟨_, _, _, _, _, _, _, _⟩ := cl4 BK30; obtain ⟨Ao94, co94, eo94⟩ := Kd.R_slice HO_577002.out; subst eo94))
    refine bodyPost_ret (results_cell_row rfl _ _ gb30 50 #[.int .i64 t81, .string t93, .slice Ao94 x48_1.length co94, .string t580] (0, 0) _ rfl (pt1 BK30 NB30_16) Tryz.underlying50 rfl (by kernel_rfl)) rfl ?_
    exact ⟨_, rf, rj (Kd.R_types (Kd.R_types HO_577002.out BK16.out (by decide)) BK30.out (by decide)) (fun _ hk => trivial), u122HI0, u122HB, u122HK⟩
   rw [if_pos c20] at H
   have c20b0 := decide_eq_true c20
   clear c20
   (first | rw [c20b0] | (simp only [i64_w, i32_w]; rw [c20b0]) | skip)
   obtain ⟨y583, hy583⟩ : ∃ y_, y_ = (([(⟨#[108, 97, 110, 103]⟩ : ByteArray), (⟨#[107, 105, 110, 100]⟩ : ByteArray), (⟨#[99, 97, 99, 104, 101, 45, 99, 111, 110, 116, 114, 111, 108]⟩ : ByteArray), (⟨#[105, 102, 45, 110, 111, 110, 101, 45, 109, 97, 116, 99, 104]⟩ : ByteArray), (⟨#[120, 45, 97]⟩ : ByteArray)] : List ByteArray)) := ⟨_, rfl⟩
   (try with_reducible replace H := bs_ H)
   rw [← hy583] at H
   have Ny583 := am hy583
   clear hy583
   revert H
   refine ok3 fun t61 t587 t588 A21 H => ?_
   (try dsimp only at H)
   revert H
   refine ok1 fun t589 A22 H => ?_
   have HH23 := am H
   clear H
   go_upto_if 27 with (first | ((with_reducible refine gate_dst (N := 21) rfl ?_); refine rl Kd.string 9 21 ([(⟨#[108, 97, 110, 103]⟩ : ByteArray), (⟨#[107, 105, 110, 100]⟩ : ByteArray), (⟨#[99, 97, 99, 104, 101, 45, 99, 111, 110, 116, 114, 111, 108]⟩ : ByteArray), (⟨#[105, 102, 45, 110, 111, 110, 101, 45, 109, 97, 116, 99, 104]⟩ : ByteArray), (⟨#[120, 45, 97]⟩ : ByteArray)] : List ByteArray) [.string (⟨#[108, 97, 110, 103]⟩ : ByteArray), .string (⟨#[107, 105, 110, 100]⟩ : ByteArray), .string (⟨#[99, 97, 99, 104, 101, 45, 99, 111, 110, 116, 114, 111, 108]⟩ : ByteArray), .string (⟨#[105, 102, 45, 110, 111, 110, 101, 45, 109, 97, 116, 99, 104]⟩ : ByteArray), .string (⟨#[120, 45, 97]⟩ : ByteArray)] ?_; intro v584 w24 ho25 hb; (first | rw [← Ny583.out] at ho25 | (simp only [Int.reduceToNat] at ho25; rw [← Ny583.out] at ho25)); replace HO_577002 := kr HO_577002 hb; have HO51 := am (Kd.R_lower ho25 (keep_size (w := w) (g := g) (row := none) u122HK)); replace BK30 := kb BK30 hb; replace BK16 := kb BK16 hb; replace HK := am (KeepBut.trans u122HK (KeepBut.of_below hb g none) (.inl rfl)); replace HB := am (below_step u122HB hb); replace HI0 := am (IsS139.below u122HI0 hb); clear hb ho25; obtain ⟨Ao26, co26, eo26⟩ := Kd.R_slice HO51.out; subst eo26) | ((with_reducible refine gw ?_); first | (refine gl 22 Tryz.func84 #[.pointer (some ⟨g, 0, none⟩), .slice Ao26 y583.length co26] ?_; refine (spec_l1Pick.calls g s0_0 t578 t579 _ _ y583 t61 t587 t588 w0 _ u122HI0 u122HB (rc HO51) ((Kd.R_reads' HO51.out).2.1) (far_slice (IsS139.own_ne HI0.out HO51.out (by decide))) A21.out).mono ?_; rintro e w27 ⟨rfl, hi, hb, hk⟩; refine ⟨_, rfl, ?_⟩; replace HO_577002 := am (Kd.R_mono (Kd.R_keep (IsS139.apart (show IsS139 w0 _ g s0_0 t578 t579 from u122HI0) (ro HO_577002) (by decide)) hk (fun _ h => h.2)) (fun _ h => h.1)); replace BK30 := kp BK30 hk NB30_0; replace BK16 := kp BK16 hk NB16_0; replace HO51 := am (Kd.R_mono (Kd.R_keep (IsS139.apart (show IsS139 w0 _ g s0_0 t578 t579 from u122HI0) (ro HO51) (by decide)) hk (fun _ h => h.2)) (fun _ h => h.1)); replace HK := am (KeepBut.trans u122HK hk (.inl rfl)); replace HB := am (hb); replace HI0 := am (hi); clear hb hk hi; have hnb28 := NB16_30.out; have hnc28 := NB30_16.out; have hnb29 := NB16_0.out; have hnc29 := NB0_16.out; obtain ⟨_, _, _, _, _, _, _, _⟩ := cl4 BK16; obtain ⟨Ao31, co31, eo31⟩ := Kd.R_slice HO_577002.out; subst eo31) | (refine gl 26 Tryz.func137 #[.slice Ao31 x48_1.length co31, .string t61] ?_; refine (spec_l2At.calls k1 _ _ x48_1 t61 t589 _ (rc HO_577002) ((Kd.R_reads' HO_577002.out).2.1) A22.out).mono ?_; rintro e w' ⟨rfl, ⟨nd, rfl⟩⟩; refine ⟨_, rfl, ?_⟩)))
   have H := HH23.out
   clear HH23
   by_cases c32 : t589 < 0
   rotate_left
   ·rw [if_neg c32] at H
    have c32b0 := decide_eq_false c32
    clear c32
    (first | rw [c32b0] | (simp only [i64_w, i32_w]; rw [c32b0]) | skip)
    have H' := am H
    clear H
    go_wp2
    go_roundg k1
    case measure => have := HK1.out; omega
    case rel => exact ⟨(wrap64 (x4_1 + 1)), (t587), (t588), (x48_1), (.slice Ao31 x48_1.length co31), rs, H', ⟨by have := HK1.out; omega⟩, ⟨ro HO_577002⟩, ⟨bk BK30⟩, ⟨bk BK16⟩, ⟨u122HI0⟩, ⟨u122HK⟩, ⟨u122HB⟩⟩
   rw [if_pos c32] at H
   have c32b0 := decide_eq_true c32
   clear c32
   (first | rw [c32b0] | (simp only [i64_w, i32_w]; rw [c32b0]) | skip)
   obtain ⟨y590, hy590⟩ : ∃ y_, y_ = (([(⟨#[100, 101]⟩ : ByteArray), (⟨#[101, 110]⟩ : ByteArray)] : List ByteArray)) := ⟨_, rfl⟩
   (try with_reducible replace H := bs_ H)
   rw [← hy590] at H
   have Ny590 := am hy590
   clear hy590
   revert H
   refine ok3 fun t97 t89 t91 A33 H => ?_
   (try dsimp only at H)
   have HH34 := am H
   clear H
   go_upto_if 32 with (first | ((with_reducible refine gate_dst (N := 29) rfl ?_); refine rl Kd.string 9 29 ([(⟨#[100, 101]⟩ : ByteArray), (⟨#[101, 110]⟩ : ByteArray)] : List ByteArray) [.string (⟨#[100, 101]⟩ : ByteArray), .string (⟨#[101, 110]⟩ : ByteArray)] ?_; intro v591 w35 ho36 hb; (first | rw [← Ny590.out] at ho36 | (simp only [Int.reduceToNat] at ho36; rw [← Ny590.out] at ho36)); replace HO_577002 := kr HO_577002 hb; have HO77 := am (Kd.R_lower (Kd.R_new' ho36 (Kd.R_lt (ro HO51))) (keep_size (w := w) (g := g) (row := none) u122HK)); replace HO51 := am (Kd.R_elder' (ro HO51) (Kd.R_base ho36) hb); replace BK30 := kb BK30 hb; replace BK16 := kb BK16 hb; replace HK := am (KeepBut.trans u122HK (KeepBut.of_below hb g none) (.inl rfl)); replace HB := am (below_step u122HB hb); replace HI0 := am (IsS139.below u122HI0 hb); clear hb ho36; obtain ⟨Ao37, co37, eo37⟩ := Kd.R_slice HO77.out; subst eo37) | ((with_reducible refine gw ?_); first | (refine gl 30 Tryz.func84 #[.pointer (some ⟨g, 0, none⟩), .slice Ao37 y590.length co37] ?_; refine (spec_l1Pick.calls g s0_0 t587 t588 _ _ y590 t97 t89 t91 w0 _ u122HI0 u122HB (rc HO77) ((Kd.R_reads' HO77.out).2.1) (far_slice (IsS139.own_ne HI0.out HO77.out (by decide))) A33.out).mono ?_; rintro e w38 ⟨rfl, hi, hb, hk⟩; refine ⟨_, rfl, ?_⟩; replace HO_577002 := am (Kd.R_mono (Kd.R_keep (IsS139.apart (show IsS139 w0 _ g s0_0 t587 t588 from u122HI0) (ro HO_577002) (by decide)) hk (fun _ h => h.2)) (fun _ h => h.1)); replace BK30 := kp BK30 hk NB30_0; replace BK16 := kp BK16 hk NB16_0; replace HO51 := am (Kd.R_mono (Kd.R_keep (IsS139.apart (show IsS139 w0 _ g s0_0 t587 t588 from u122HI0) (ro HO51) (by decide)) hk (fun _ h => h.2)) (fun _ h => h.1)); replace HO77 := am (Kd.R_mono (Kd.R_keep (IsS139.apart (show IsS139 w0 _ g s0_0 t587 t588 from u122HI0) (ro HO77) (by decide)) hk (fun _ h => h.2)) (fun _ h => h.1)); replace HK := am (KeepBut.trans u122HK hk (.inl rfl)); replace HB := am (hb); replace HI0 := am (hi); clear hb hk hi)))
   have H := HH34.out
   clear HH34
   by_cases c39 : t61.toList = ([107, 105, 110, 100] : List UInt8)
   ·rw [if_pos c39] at H
    have c39b0 := eqt c39
    have c39b1 := nef c39
    clear c39
    (first | rw [c39b0] | (simp only [i64_w, i32_w]; rw [c39b0]) | skip)
    obtain ⟨y596, hy596⟩ : ∃ y_, y_ = (([(⟨#[120]⟩ : ByteArray), (⟨#[121]⟩ : ByteArray)] : List ByteArray)) := ⟨_, rfl⟩
    (try with_reducible replace H := bs_ H)
    rw [← hy596] at H
    have Ny596 := am hy596
    clear hy596
    revert H
    refine ok3 fun t599 t600 t601 A40 H => ?_
    (try dsimp only at H)
    revert H
    refine ifn fun c41 H => ?_
    have LMc41 := am c41
    clear c41
    obtain ⟨y602, hy602⟩ : ∃ y_ : List (S116), y_ = (x48_1 ++ [(⟨t61, t599⟩ : S116)]) := ⟨_, rfl⟩
    replace H : (spec_l3DrawReq.l0 k1 (wrap64 (x4_1 + 1)) s0_0 t600 t601 t81 t93 y602 (⟨#[]⟩ : ByteArray)) = some (r1, r2, r3, r4, r5, r6) := by first | (rw [hy602]; with_reducible exact H) | (have H2_ := (Option.bind_some _ _).symm.trans H; rw [hy602]; with_reducible exact H2_) | (have H2_ := (Option.bind_some _ _).symm.trans H; with_reducible exact H2_) | with_reducible exact H | (rw [hy602]; exact H) | exact H
    have Ny602 := am hy602
    clear hy602
    have H' := am H
    clear H
    go_wp2_with (first | ((with_reducible refine gate_dst (N := 35) rfl ?_); refine rl Kd.string 9 35 ([(⟨#[120]⟩ : ByteArray), (⟨#[121]⟩ : ByteArray)] : List ByteArray) [.string (⟨#[120]⟩ : ByteArray), .string (⟨#[121]⟩ : ByteArray)] ?_; intro v597 w42 ho43 hb; (first | rw [← Ny596.out] at ho43 | (simp only [Int.reduceToNat] at ho43; rw [← Ny596.out] at ho43)); replace HO_577002 := kr HO_577002 hb; have HO598 := am (Kd.R_lower (Kd.R_new' (Kd.R_new' ho43 (Kd.R_lt (ro HO51))) (Kd.R_lt (ro HO77))) (keep_size (w := w) (g := g) (row := none) u122HK)); replace HO51 := am (Kd.R_elder' (ro HO51) (Kd.R_base ho43) hb); replace HO77 := am (Kd.R_elder' (ro HO77) (Kd.R_base ho43) hb); replace BK30 := kb BK30 hb; replace BK16 := kb BK16 hb; replace HK := am (KeepBut.trans u122HK (KeepBut.of_below hb g none) (.inl rfl)); replace HB := am (below_step u122HB hb); replace HI0 := am (IsS139.below u122HI0 hb); clear hb ho43; obtain ⟨Ao44, co44, eo44⟩ := Kd.R_slice HO598.out; subst eo44) | ((with_reducible refine gw ?_); first | (refine gl 36 Tryz.func84 #[.pointer (some ⟨g, 0, none⟩), .slice Ao44 y596.length co44] ?_; refine (spec_l1Pick.calls g s0_0 t89 t91 _ _ y596 t599 t600 t601 w0 _ u122HI0 u122HB (rc HO598) ((Kd.R_reads' HO598.out).2.1) (far_slice (IsS139.own_ne HI0.out HO598.out (by decide))) A40.out).mono ?_; rintro e w45 ⟨rfl, hi, hb, hk⟩; refine ⟨_, rfl, ?_⟩; replace HO_577002 := am (Kd.R_mono (Kd.R_keep (IsS139.apart (show IsS139 w0 _ g s0_0 t89 t91 from u122HI0) (ro HO_577002) (by decide)) hk (fun _ h => h.2)) (fun _ h => h.1)); replace BK30 := kp BK30 hk NB30_0; replace BK16 := kp BK16 hk NB16_0; replace HO51 := am (Kd.R_mono (Kd.R_keep (IsS139.apart (show IsS139 w0 _ g s0_0 t89 t91 from u122HI0) (ro HO51) (by decide)) hk (fun _ h => h.2)) (fun _ h => h.1)); replace HO77 := am (Kd.R_mono (Kd.R_keep (IsS139.apart (show IsS139 w0 _ g s0_0 t89 t91 from u122HI0) (ro HO77) (by decide)) hk (fun _ h => h.2)) (fun _ h => h.1)); replace HO598 := am (Kd.R_mono (Kd.R_keep (IsS139.apart (show IsS139 w0 _ g s0_0 t89 t91 from u122HI0) (ro HO598) (by decide)) hk (fun _ h => h.2)) (fun _ h => h.1)); replace HK := am (KeepBut.trans u122HK hk (.inl rfl)); replace HB := am (hb); replace HI0 := am (hi); clear hb hk hi; have hnb46 := NB16_30.out; have hnc46 := NB30_16.out; have hnb47 := NB16_0.out; have hnc47 := NB0_16.out; obtain ⟨_, _, _, _, _, _, _, _⟩ := cl4 BK16)) | ((with_reducible refine gate_builtin (b := .append) (xs := #[.tmp 48, .tmp 52]) rfl ?_); at_builtin; refine Kd.R_append k116 w.heap.size rfl (.tmp 48) (.tmp 52) 27 116 (.agg #[(.string ⟨#[]⟩), (.string ⟨#[]⟩)]) 32 rfl Tryz.underlying27 info116 rfl (by decide) (by omega) (.slice Ao31 x48_1.length co31) x48_1 (⟨t61, t599⟩ : S116) [.string t61, .string t599] (fun _ => True) (fun _ => False) rfl rfl ?aP (fun _ hk => hk.elim) ?aF ?aO (Below.refl _ _) ?aS ?aL ?_; (case aP => exact k116_mkM _ _ _ (⟨t61, t599⟩ : S116)); (case aF => exact (fun _ _ => trivial)); (case aO => exact (ro HO_577002)); (case aS => exact (keep_size (w := w) (g := g) (row := none) u122HK)); (case aL => have := LMc41.out; omega); intro v603 w49 ho hb hg hat; rw [← Ny602.out] at ho; have n0_ := am (blk_grown (g := gb30) (o := .cells #[.int .i64 0, .string (⟨#[]⟩ : ByteArray), .slice none 0 0, .string (⟨#[]⟩ : ByteArray)] 50 (0, 0)) (bk BK30) hg (Kd.R_ne HO_577002.out BK30.out (by decide))); have n1_ := am (blk_grown (g := gb16) (o := .cells #[.int .i64 t81, .string t93, .slice Ao31 x48_1.length co31, .string (⟨#[]⟩ : ByteArray)] 50 (0, 0)) (bk BK16) hg (Kd.R_ne HO_577002.out BK16.out (by decide))); have n2_ := am (IsS139.grown u122HI0 hg (IsS139.own_ne HI0.out HO_577002.out (by decide))); have n3_ := am (Kd.R_over' (ro HO51) (Kd.R_typed (ro HO_577002)) (by decide) hg); have n4_ := am (Kd.R_over' (ro HO77) (Kd.R_typed (ro HO_577002)) (by decide) hg); have n5_ := am (Kd.R_over' (ro HO598) (Kd.R_typed (ro HO_577002)) (by decide) hg); have n6_ := am (below_weaken u122HB HL.out hb); have n7_ := am (KeepBut.trans u122HK (KeepBut.of_grown hg g) (Kd.R_base2 HO_577002.out)); have n8_ := am (ho); clear BK30; clear BK16; clear HI0; clear HO51; clear HO77; clear HO598; clear HB; clear HK; clear HO_577002; have BK30 := n0_; have BK16 := n1_; have HI0 := n2_; have HO51 := n3_; have HO77 := n4_; have HO598 := n5_; have HB := n6_; have HK := n7_; have HO604 := n8_; clear n0_ n1_ n2_ n3_ n4_ n5_ n6_ n7_ n8_; clear ho hb hg hat; obtain ⟨Ao50, co50, eo50⟩ := Kd.R_slice HO604.out; subst eo50; obtain ⟨_, _, _, _, _, _, _, _⟩ := cl4 BK16))
    go_roundg k1
    case measure => have := HK1.out; omega
    case rel => exact ⟨(wrap64 (x4_1 + 1)), (t600), (t601), (y602), (.slice Ao50 y602.length co50), rs, H', ⟨by have := HK1.out; omega⟩, ⟨rj (Kd.R_types HO604.out BK16.out (by decide)) (fun _ hk => trivial)⟩, ⟨bg1 BK30 NB30_16⟩, ⟨pt0 BK16⟩, ⟨u122HI0⟩, ⟨u122HK⟩, ⟨u122HB⟩⟩
   rw [if_neg c39] at H
   have c39b0 := eqf c39
   have c39b1 := net c39
   (first | rw [c39b0] | (simp only [i64_w, i32_w]; rw [c39b0]) | skip)
   by_cases c52 : t61.toList = ([99, 97, 99, 104, 101, 45, 99, 111, 110, 116, 114, 111, 108] : List UInt8)
   ·rw [if_pos c52] at H
    have c52b0 := eqt c52
    have c52b1 := nef c52
    clear c52
    obtain ⟨y605, hy605⟩ : ∃ y_, y_ = (([(⟨#[110, 111, 45, 99, 97, 99, 104, 101]⟩ : ByteArray), (⟨#[110, 111, 45, 115, 116, 111, 114, 101]⟩ : ByteArray), (⟨#[109, 97, 120, 45, 97, 103, 101, 61, 51]⟩ : ByteArray)] : List ByteArray)) := ⟨_, rfl⟩
    (try with_reducible replace H := bs_ H)
    rw [← hy605] at H
    have Ny605 := am hy605
    clear hy605
    revert H
    refine ok3 fun t608 t609 t610 A53 H => ?_
    (try dsimp only at H)
    revert H
    refine ifn fun c54 H => ?_
    have LMc54 := am c54
    clear c54
    obtain ⟨y611, hy611⟩ : ∃ y_ : List (S116), y_ = (x48_1 ++ [(⟨t61, t608⟩ : S116)]) := ⟨_, rfl⟩
    replace H : (spec_l3DrawReq.l0 k1 (wrap64 (x4_1 + 1)) s0_0 t609 t610 t81 t93 y611 (⟨#[]⟩ : ByteArray)) = some (r1, r2, r3, r4, r5, r6) := by first | (rw [hy611]; with_reducible exact H) | (have H2_ := (Option.bind_some _ _).symm.trans H; rw [hy611]; with_reducible exact H2_) | (have H2_ := (Option.bind_some _ _).symm.trans H; with_reducible exact H2_) | with_reducible exact H | (rw [hy611]; exact H) | exact H
    have Ny611 := am hy611
    clear hy611
    have H' := am H
    clear H
    go_wp2_with (first | ((with_reducible refine gate_dst (N := 40) rfl ?_); refine rl Kd.string 9 40 ([(⟨#[110, 111, 45, 99, 97, 99, 104, 101]⟩ : ByteArray), (⟨#[110, 111, 45, 115, 116, 111, 114, 101]⟩ : ByteArray), (⟨#[109, 97, 120, 45, 97, 103, 101, 61, 51]⟩ : ByteArray)] : List ByteArray) [.string (⟨#[110, 111, 45, 99, 97, 99, 104, 101]⟩ : ByteArray), .string (⟨#[110, 111, 45, 115, 116, 111, 114, 101]⟩ : ByteArray), .string (⟨#[109, 97, 120, 45, 97, 103, 101, 61, 51]⟩ : ByteArray)] ?_; intro v606 w55 ho56 hb; (first | rw [← Ny605.out] at ho56 | (simp only [Int.reduceToNat] at ho56; rw [← Ny605.out] at ho56)); replace HO_577002 := kr HO_577002 hb; have HO607 := am (Kd.R_lower (Kd.R_new' (Kd.R_new' ho56 (Kd.R_lt (ro HO51))) (Kd.R_lt (ro HO77))) (keep_size (w := w) (g := g) (row := none) u122HK)); replace HO51 := am (Kd.R_elder' (ro HO51) (Kd.R_base ho56) hb); replace HO77 := am (Kd.R_elder' (ro HO77) (Kd.R_base ho56) hb); replace BK30 := kb BK30 hb; replace BK16 := kb BK16 hb; replace HK := am (KeepBut.trans u122HK (KeepBut.of_below hb g none) (.inl rfl)); replace HB := am (below_step u122HB hb); replace HI0 := am (IsS139.below u122HI0 hb); clear hb ho56; obtain ⟨Ao57, co57, eo57⟩ := Kd.R_slice HO607.out; subst eo57) | ((with_reducible refine gw ?_); first | (refine gl 41 Tryz.func84 #[.pointer (some ⟨g, 0, none⟩), .slice Ao57 y605.length co57] ?_; refine (spec_l1Pick.calls g s0_0 t89 t91 _ _ y605 t608 t609 t610 w0 _ u122HI0 u122HB (rc HO607) ((Kd.R_reads' HO607.out).2.1) (far_slice (IsS139.own_ne HI0.out HO607.out (by decide))) A53.out).mono ?_; rintro e w58 ⟨rfl, hi, hb, hk⟩; refine ⟨_, rfl, ?_⟩; replace HO_577002 := am (Kd.R_mono (Kd.R_keep (IsS139.apart (show IsS139 w0 _ g s0_0 t89 t91 from u122HI0) (ro HO_577002) (by decide)) hk (fun _ h => h.2)) (fun _ h => h.1)); replace BK30 := kp BK30 hk NB30_0; replace BK16 := kp BK16 hk NB16_0; replace HO51 := am (Kd.R_mono (Kd.R_keep (IsS139.apart (show IsS139 w0 _ g s0_0 t89 t91 from u122HI0) (ro HO51) (by decide)) hk (fun _ h => h.2)) (fun _ h => h.1)); replace HO77 := am (Kd.R_mono (Kd.R_keep (IsS139.apart (show IsS139 w0 _ g s0_0 t89 t91 from u122HI0) (ro HO77) (by decide)) hk (fun _ h => h.2)) (fun _ h => h.1)); replace HO607 := am (Kd.R_mono (Kd.R_keep (IsS139.apart (show IsS139 w0 _ g s0_0 t89 t91 from u122HI0) (ro HO607) (by decide)) hk (fun _ h => h.2)) (fun _ h => h.1)); replace HK := am (KeepBut.trans u122HK hk (.inl rfl)); replace HB := am (hb); replace HI0 := am (hi); clear hb hk hi; have hnb59 := NB16_30.out; have hnc59 := NB30_16.out; have hnb60 := NB16_0.out; have hnc60 := NB0_16.out; obtain ⟨_, _, _, _, _, _, _, _⟩ := cl4 BK16)) | ((with_reducible refine gate_builtin (b := .append) (xs := #[.tmp 48, .tmp 52]) rfl ?_); at_builtin; refine Kd.R_append k116 w.heap.size rfl (.tmp 48) (.tmp 52) 27 116 (.agg #[(.string ⟨#[]⟩), (.string ⟨#[]⟩)]) 32 rfl Tryz.underlying27 info116 rfl (by decide) (by omega) (.slice Ao31 x48_1.length co31) x48_1 (⟨t61, t608⟩ : S116) [.string t61, .string t608] (fun _ => True) (fun _ => False) rfl rfl ?aP (fun _ hk => hk.elim) ?aF ?aO (Below.refl _ _) ?aS ?aL ?_; (case aP => exact k116_mkM _ _ _ (⟨t61, t608⟩ : S116)); (case aF => exact (fun _ _ => trivial)); (case aO => exact (ro HO_577002)); (case aS => exact (keep_size (w := w) (g := g) (row := none) u122HK)); (case aL => have := LMc54.out; omega); intro v612 w62 ho hb hg hat; rw [← Ny611.out] at ho; have n0_ := am (blk_grown (g := gb30) (o := .cells #[.int .i64 0, .string (⟨#[]⟩ : ByteArray), .slice none 0 0, .string (⟨#[]⟩ : ByteArray)] 50 (0, 0)) (bk BK30) hg (Kd.R_ne HO_577002.out BK30.out (by decide))); have n1_ := am (blk_grown (g := gb16) (o := .cells #[.int .i64 t81, .string t93, .slice Ao31 x48_1.length co31, .string (⟨#[]⟩ : ByteArray)] 50 (0, 0)) (bk BK16) hg (Kd.R_ne HO_577002.out BK16.out (by decide))); have n2_ := am (IsS139.grown u122HI0 hg (IsS139.own_ne HI0.out HO_577002.out (by decide))); have n3_ := am (Kd.R_over' (ro HO51) (Kd.R_typed (ro HO_577002)) (by decide) hg); have n4_ := am (Kd.R_over' (ro HO77) (Kd.R_typed (ro HO_577002)) (by decide) hg); have n5_ := am (Kd.R_over' (ro HO607) (Kd.R_typed (ro HO_577002)) (by decide) hg); have n6_ := am (below_weaken u122HB HL.out hb); have n7_ := am (KeepBut.trans u122HK (KeepBut.of_grown hg g) (Kd.R_base2 HO_577002.out)); have n8_ := am (ho); clear BK30; clear BK16; clear HI0; clear HO51; clear HO77; clear HO607; clear HB; clear HK; clear HO_577002; have BK30 := n0_; have BK16 := n1_; have HI0 := n2_; have HO51 := n3_; have HO77 := n4_; have HO607 := n5_; have HB := n6_; have HK := n7_; have HO613 := n8_; clear n0_ n1_ n2_ n3_ n4_ n5_ n6_ n7_ n8_; clear ho hb hg hat; obtain ⟨Ao63, co63, eo63⟩ := Kd.R_slice HO613.out; subst eo63; obtain ⟨_, _, _, _, _, _, _, _⟩ := cl4 BK16))
    go_roundg k1
    case measure => have := HK1.out; omega
    case rel => exact ⟨(wrap64 (x4_1 + 1)), (t609), (t610), (y611), (.slice Ao63 y611.length co63), rs, H', ⟨by have := HK1.out; omega⟩, ⟨rj (Kd.R_types HO613.out BK16.out (by decide)) (fun _ hk => trivial)⟩, ⟨bg1 BK30 NB30_16⟩, ⟨pt0 BK16⟩, ⟨u122HI0⟩, ⟨u122HK⟩, ⟨u122HB⟩⟩
   rw [if_neg c52] at H
   have c52b0 := eqf c52
   have c52b1 := net c52
   by_cases c65 : t61.toList = ([105, 102, 45, 110, 111, 110, 101, 45, 109, 97, 116, 99, 104] : List UInt8)
   rotate_left
   ·rw [if_neg c65] at H
    have c65b0 := eqf c65
    have c65b1 := net c65
    revert H
    refine ifn fun c78 H => ?_
    have LMc78 := am c78
    clear c78
    obtain ⟨y623, hy623⟩ : ∃ y_ : List (S116), y_ = (x48_1 ++ [(⟨t61, t97⟩ : S116)]) := ⟨_, rfl⟩
    replace H : (spec_l3DrawReq.l0 k1 (wrap64 (x4_1 + 1)) s0_0 t89 t91 t81 t93 y623 (⟨#[]⟩ : ByteArray)) = some (r1, r2, r3, r4, r5, r6) := by first | (rw [hy623]; with_reducible exact H) | (have H2_ := (Option.bind_some _ _).symm.trans H; rw [hy623]; with_reducible exact H2_) | (have H2_ := (Option.bind_some _ _).symm.trans H; with_reducible exact H2_) | with_reducible exact H | (rw [hy623]; exact H) | exact H
    have Ny623 := am hy623
    clear hy623
    have H' := am H
    clear H
    have hnb79 := NB16_30.out
    have hnc79 := NB30_16.out
    have hnb80 := NB16_0.out
    have hnc80 := NB0_16.out
    obtain ⟨_, _, _, _, _, _, _, _⟩ := cl4 BK16
    go_wp2_with (first | ((with_reducible refine gate_builtin (b := .append) (xs := #[.tmp 48, .tmp 52]) rfl ?_); at_builtin; refine Kd.R_append k116 w.heap.size rfl (.tmp 48) (.tmp 52) 27 116 (.agg #[(.string ⟨#[]⟩), (.string ⟨#[]⟩)]) 32 rfl Tryz.underlying27 info116 rfl (by decide) (by omega) (.slice Ao31 x48_1.length co31) x48_1 (⟨t61, t97⟩ : S116) [.string t61, .string t97] (fun _ => True) (fun _ => False) rfl rfl ?aP (fun _ hk => hk.elim) ?aF ?aO (Below.refl _ _) ?aS ?aL ?_; (case aP => exact k116_mkM _ _ _ (⟨t61, t97⟩ : S116)); (case aF => exact (fun _ _ => trivial)); (case aO => exact (ro HO_577002)); (case aS => exact (keep_size (w := w) (g := g) (row := none) u122HK)); (case aL => have := LMc78.out; omega); intro v624 w82 ho hb hg hat; rw [← Ny623.out] at ho; have n0_ := am (blk_grown (g := gb30) (o := .cells #[.int .i64 0, .string (⟨#[]⟩ : ByteArray), .slice none 0 0, .string (⟨#[]⟩ : ByteArray)] 50 (0, 0)) (bk BK30) hg (Kd.R_ne HO_577002.out BK30.out (by decide))); have n1_ := am (blk_grown (g := gb16) (o := .cells #[.int .i64 t81, .string t93, .slice Ao31 x48_1.length co31, .string (⟨#[]⟩ : ByteArray)] 50 (0, 0)) (bk BK16) hg (Kd.R_ne HO_577002.out BK16.out (by decide))); have n2_ := am (IsS139.grown u122HI0 hg (IsS139.own_ne HI0.out HO_577002.out (by decide))); have n3_ := am (Kd.R_over' (ro HO51) (Kd.R_typed (ro HO_577002)) (by decide) hg); have n4_ := am (Kd.R_over' (ro HO77) (Kd.R_typed (ro HO_577002)) (by decide) hg); have n5_ := am (below_weaken u122HB HL.out hb); have n6_ := am (KeepBut.trans u122HK (KeepBut.of_grown hg g) (Kd.R_base2 HO_577002.out)); have n7_ := am (ho); clear BK30; clear BK16; clear HI0; clear HO51; clear HO77; clear HB; clear HK; clear HO_577002; have BK30 := n0_; have BK16 := n1_; have HI0 := n2_; have HO51 := n3_; have HO77 := n4_; have HB := n5_; have HK := n6_; have HO625 := n7_; clear n0_ n1_ n2_ n3_ n4_ n5_ n6_ n7_; clear ho hb hg hat; obtain ⟨Ao83, co83, eo83⟩ := Kd.R_slice HO625.out; subst eo83; obtain ⟨_, _, _, _, _, _, _, _⟩ := cl4 BK16))
    go_roundg k1
    case measure => have := HK1.out; omega
    case rel => exact ⟨(wrap64 (x4_1 + 1)), (t89), (t91), (y623), (.slice Ao83 y623.length co83), rs, H', ⟨by have := HK1.out; omega⟩, ⟨rj (Kd.R_types HO625.out BK16.out (by decide)) (fun _ hk => trivial)⟩, ⟨bg1 BK30 NB30_16⟩, ⟨pt0 BK16⟩, ⟨u122HI0⟩, ⟨u122HK⟩, ⟨u122HB⟩⟩
   rw [if_pos c65] at H
   have c65b0 := eqt c65
   have c65b1 := nef c65
   clear c65
   obtain ⟨y614, hy614⟩ : ∃ y_, y_ = (([(⟨#[97]⟩ : ByteArray), (⟨#[98]⟩ : ByteArray)] : List ByteArray)) := ⟨_, rfl⟩
   (try with_reducible replace H := bs_ H)
   rw [← hy614] at H
   have Ny614 := am hy614
   clear hy614
   revert H
   refine ok3 fun t617 t618 t619 A66 H => ?_
   (try dsimp only at H)
   revert H
   refine ifn fun c67 H => ?_
   have LMc67 := am c67
   clear c67
   obtain ⟨y620, hy620⟩ : ∃ y_ : List (S116), y_ = (x48_1 ++ [(⟨t61, t617⟩ : S116)]) := ⟨_, rfl⟩
   replace H : (spec_l3DrawReq.l0 k1 (wrap64 (x4_1 + 1)) s0_0 t618 t619 t81 t93 y620 (⟨#[]⟩ : ByteArray)) = some (r1, r2, r3, r4, r5, r6) := by first | (rw [hy620]; with_reducible exact H) | (have H2_ := (Option.bind_some _ _).symm.trans H; rw [hy620]; with_reducible exact H2_) | (have H2_ := (Option.bind_some _ _).symm.trans H; with_reducible exact H2_) | with_reducible exact H | (rw [hy620]; exact H) | exact H
   have Ny620 := am hy620
   clear hy620
   have H' := am H
   clear H
   go_wp2_with (first | ((with_reducible refine gate_dst (N := 45) rfl ?_); refine rl Kd.string 9 45 ([(⟨#[97]⟩ : ByteArray), (⟨#[98]⟩ : ByteArray)] : List ByteArray) [.string (⟨#[97]⟩ : ByteArray), .string (⟨#[98]⟩ : ByteArray)] ?_; intro v615 w68 ho69 hb; (first | rw [← Ny614.out] at ho69 | (simp only [Int.reduceToNat] at ho69; rw [← Ny614.out] at ho69)); replace HO_577002 := kr HO_577002 hb; have HO616 := am (Kd.R_lower (Kd.R_new' (Kd.R_new' ho69 (Kd.R_lt (ro HO51))) (Kd.R_lt (ro HO77))) (keep_size (w := w) (g := g) (row := none) u122HK)); replace HO51 := am (Kd.R_elder' (ro HO51) (Kd.R_base ho69) hb); replace HO77 := am (Kd.R_elder' (ro HO77) (Kd.R_base ho69) hb); replace BK30 := kb BK30 hb; replace BK16 := kb BK16 hb; replace HK := am (KeepBut.trans u122HK (KeepBut.of_below hb g none) (.inl rfl)); replace HB := am (below_step u122HB hb); replace HI0 := am (IsS139.below u122HI0 hb); clear hb ho69; obtain ⟨Ao70, co70, eo70⟩ := Kd.R_slice HO616.out; subst eo70) | ((with_reducible refine gw ?_); first | (refine gl 46 Tryz.func84 #[.pointer (some ⟨g, 0, none⟩), .slice Ao70 y614.length co70] ?_; refine (spec_l1Pick.calls g s0_0 t89 t91 _ _ y614 t617 t618 t619 w0 _ u122HI0 u122HB (rc HO616) ((Kd.R_reads' HO616.out).2.1) (far_slice (IsS139.own_ne HI0.out HO616.out (by decide))) A66.out).mono ?_; rintro e w71 ⟨rfl, hi, hb, hk⟩; refine ⟨_, rfl, ?_⟩; replace HO_577002 := am (Kd.R_mono (Kd.R_keep (IsS139.apart (show IsS139 w0 _ g s0_0 t89 t91 from u122HI0) (ro HO_577002) (by decide)) hk (fun _ h => h.2)) (fun _ h => h.1)); replace BK30 := kp BK30 hk NB30_0; replace BK16 := kp BK16 hk NB16_0; replace HO51 := am (Kd.R_mono (Kd.R_keep (IsS139.apart (show IsS139 w0 _ g s0_0 t89 t91 from u122HI0) (ro HO51) (by decide)) hk (fun _ h => h.2)) (fun _ h => h.1)); replace HO77 := am (Kd.R_mono (Kd.R_keep (IsS139.apart (show IsS139 w0 _ g s0_0 t89 t91 from u122HI0) (ro HO77) (by decide)) hk (fun _ h => h.2)) (fun _ h => h.1)); replace HO616 := am (Kd.R_mono (Kd.R_keep (IsS139.apart (show IsS139 w0 _ g s0_0 t89 t91 from u122HI0) (ro HO616) (by decide)) hk (fun _ h => h.2)) (fun _ h => h.1)); replace HK := am (KeepBut.trans u122HK hk (.inl rfl)); replace HB := am (hb); replace HI0 := am (hi); clear hb hk hi; have hnb72 := NB16_30.out; have hnc72 := NB30_16.out; have hnb73 := NB16_0.out; have hnc73 := NB0_16.out; obtain ⟨_, _, _, _, _, _, _, _⟩ := cl4 BK16)) | ((with_reducible refine gate_builtin (b := .append) (xs := #[.tmp 48, .tmp 52]) rfl ?_); at_builtin; refine Kd.R_append k116 w.heap.size rfl (.tmp 48) (.tmp 52) 27 116 (.agg #[(.string ⟨#[]⟩), (.string ⟨#[]⟩)]) 32 rfl Tryz.underlying27 info116 rfl (by decide) (by omega) (.slice Ao31 x48_1.length co31) x48_1 (⟨t61, t617⟩ : S116) [.string t61, .string t617] (fun _ => True) (fun _ => False) rfl rfl ?aP (fun _ hk => hk.elim) ?aF ?aO (Below.refl _ _) ?aS ?aL ?_; (case aP => exact k116_mkM _ _ _ (⟨t61, t617⟩ : S116)); (case aF => exact (fun _ _ => trivial)); (case aO => exact (ro HO_577002)); (case aS => exact (keep_size (w := w) (g := g) (row := none) u122HK)); (case aL => have := LMc67.out; omega); intro v621 w75 ho hb hg hat; rw [← Ny620.out] at ho; have n0_ := am (blk_grown (g := gb30) (o := .cells #[.int .i64 0, .string (⟨#[]⟩ : ByteArray), .slice none 0 0, .string (⟨#[]⟩ : ByteArray)] 50 (0, 0)) (bk BK30) hg (Kd.R_ne HO_577002.out BK30.out (by decide))); have n1_ := am (blk_grown (g := gb16) (o := .cells #[.int .i64 t81, .string t93, .slice Ao31 x48_1.length co31, .string (⟨#[]⟩ : ByteArray)] 50 (0, 0)) (bk BK16) hg (Kd.R_ne HO_577002.out BK16.out (by decide))); have n2_ := am (IsS139.grown u122HI0 hg (IsS139.own_ne HI0.out HO_577002.out (by decide))); have n3_ := am (Kd.R_over' (ro HO51) (Kd.R_typed (ro HO_577002)) (by decide) hg); have n4_ := am (Kd.R_over' (ro HO77) (Kd.R_typed (ro HO_577002)) (by decide) hg); have n5_ := am (Kd.R_over' (ro HO616) (Kd.R_typed (ro HO_577002)) (by decide) hg); have n6_ := am (below_weaken u122HB HL.out hb); have n7_ := am (KeepBut.trans u122HK (KeepBut.of_grown hg g) (Kd.R_base2 HO_577002.out)); have n8_ := am (ho); clear BK30; clear BK16; clear HI0; clear HO51; clear HO77; clear HO616; clear HB; clear HK; clear HO_577002; have BK30 := n0_; have BK16 := n1_; have HI0 := n2_; have HO51 := n3_; have HO77 := n4_; have HO616 := n5_; have HB := n6_; have HK := n7_; have HO622 := n8_; clear n0_ n1_ n2_ n3_ n4_ n5_ n6_ n7_ n8_; clear ho hb hg hat; obtain ⟨Ao76, co76, eo76⟩ := Kd.R_slice HO622.out; subst eo76; obtain ⟨_, _, _, _, _, _, _, _⟩ := cl4 BK16))
   go_roundg k1
   case measure => have := HK1.out; omega
   case rel => exact ⟨(wrap64 (x4_1 + 1)), (t618), (t619), (y620), (.slice Ao76 y620.length co76), rs, H', ⟨by have := HK1.out; omega⟩, ⟨rj (Kd.R_types HO622.out BK16.out (by decide)) (fun _ hk => trivial)⟩, ⟨bg1 BK30 NB30_16⟩, ⟨pt0 BK16⟩, ⟨u122HI0⟩, ⟨u122HK⟩, ⟨u122HB⟩⟩
end Go.Proofs.YtjlpjbkpmmpojaaGreatDoor.All
