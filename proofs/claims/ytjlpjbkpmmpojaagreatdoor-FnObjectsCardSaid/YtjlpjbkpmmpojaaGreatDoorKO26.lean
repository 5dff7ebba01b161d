import Derived.Test.YtjlpjbkpmmpojaaGreatDoorKO19
import Derived.Test.YtjlpjbkpmmpojaaGreatDoorKO20
import Derived.Test.YtjlpjbkpmmpojaaGreatDoorKO25
namespace Go.Proofs.YtjlpjbkpmmpojaaGreatDoor.All
open Go.RowKit Go.Proofs.YtjlpjbkpmmpojaaGreatDoorW.PrintWords Go.Proofs.YtjlpjbkpmmpojaaGreatDoorW.PrintLast Go.Proofs.YtjlpjbkpmmpojaaGreatDoorW.PrintMore
set_option maxHeartbeats 8000000
set_option maxRecDepth 100000
attribute [local go_sem] min2_int min_two
set_option linter.unusedVariables false
set_option linter.unusedSimpArgs false
theorem u129HI0 {p : Prop} (h : p := by repeat (first | (with_reducible first | exact HI0.out | apply IsS139.alloc | apply IsS139.drewN | apply IsS139.drew | apply IsS139.set_1 | apply IsS139.set_2 | apply IsS139.far (p := ⟨gb17, _, none⟩) (hne := NB0_17.out) | apply IsS139.far (p := ⟨gb33, _, none⟩) (hne := NB0_33.out) | apply IsS139.far (p := ⟨gb27, _, none⟩) (hne := NB0_27.out) | apply IsS139.far (p := ⟨gb37, _, none⟩) (hne := NB0_37.out)) | exact HI0.out)) : p := h
theorem u129HK {p : Prop} (h : p := by repeat (first | (with_reducible first | exact HK.out | apply KeepBut.set_ | apply keep_drewN | apply keep_drew | apply keep_alloc | refine keep_far ?_ GW17.out _ | refine keep_far ?_ GW33.out _ | refine keep_far ?_ GW27.out _ | refine keep_far ?_ GW37.out _) | exact HK.out)) : p := h
theorem u129HB {p : Prop} (h : p := by repeat (first | (with_reducible first | exact HB.out | apply below_alloc | apply pw_below_drewN | apply below_drew1 | refine below_set ?_ (IsS139.ge HI0.out) | refine below_set ?_ GE17.out | refine below_set ?_ GE33.out | refine below_set ?_ GE27.out | refine below_set ?_ GE37.out) | exact HB.out)) : p := h
def spec_l10DrawRight.l0 : Nat → Int → Int → List Int → Int → Int → Option (ByteArray × List ByteArray × List ByteArray × Int × (List (S116)) × ByteArray × Int × Int × Int)
 | 0, _, _, _, _, _ => none
 | k + 1, x1, x5, x83, x75, x76 => if x5 < 4 then ((spec_l3DrawResp.f k x83 x75 x76).bind fun bt77 => ((spec_Drop.f k bt77.2.1 (⟨#[99, 97, 99, 104, 101, 45, 99, 111, 110, 116, 114, 111, 108]⟩ : ByteArray)).bind fun t68 => ((spec_l1Pick.f x83 bt77.2.2.2.1 bt77.2.2.2.2 (([(⟨#[109, 97, 120, 45, 97, 103, 101, 61, 53]⟩ : ByteArray), (⟨#[109, 97, 120, 45, 97, 103, 101, 61, 50, 48]⟩ : ByteArray)] : List ByteArray))).bind fun bt78 => ((spec_Put.f k t68 (⟨#[99, 97, 99, 104, 101, 45, 99, 111, 110, 116, 114, 111, 108]⟩ : ByteArray) bt78.1).bind fun t62 => ((spec_l3DrawReq.f k x83 bt78.2.1 bt78.2.2).bind fun bt63 => ((spec_Drop.f k bt63.2.2.1 (⟨#[99, 97, 99, 104, 101, 45, 99, 111, 110, 116, 114, 111, 108]⟩ : ByteArray)).bind fun t65 => ((spec_ObjOf.f k 1 bt63.2.1 t65 (⟨#[]⟩ : ByteArray) 200 t62 bt77.2.2.1 x1).bind fun bt61 => (if bt61.2.2.2.2.2.2.2 = true then (some (bt61.1, bt61.2.1, bt61.2.2.1, bt61.2.2.2.1, bt61.2.2.2.2.1, bt61.2.2.2.2.2.1, bt61.2.2.2.2.2.2.1, bt63.2.2.2.2.1, bt63.2.2.2.2.2)) else (spec_l10DrawRight.l0 k x1 (wrap64 (x5 + 1)) x83 bt63.2.2.2.2.1 bt63.2.2.2.2.2))))))))) else (some ((⟨#[47, 97]⟩ : ByteArray), ([] : List ByteArray), ([] : List ByteArray), 200, ([] : List (S116)), (⟨#[]⟩ : ByteArray), x1, x75, x76))
def spec_l10DrawRight.f (k : Nat) (s0_0 : List Int) (s0_1 : Int) (s0_2 : Int) (a1 : Int) : Option (ByteArray × List ByteArray × List ByteArray × Int × (List (S116)) × ByteArray × Int × Int × Int) := spec_l10DrawRight.l0 k a1 0 s0_0 s0_1 s0_2
theorem spec_l10DrawRight.calls (k : Nat) (g : Nat) (s0_0 : List Int) (s0_1 : Int) (s0_2 : Int) (a1 : Int) (r1 : ByteArray) (r2 : List ByteArray) (r3 : List ByteArray) (r4 : Int) (r5 : List (S116)) (r6 : ByteArray) (r7 : Int) (r8 : Int) (r9 : Int) (w0 w : World) (hI : IsS139 w0 w g s0_0 s0_1 s0_2) (hB : Below w0.heap.size w0 w) (h : spec_l10DrawRight.f k s0_0 s0_1 s0_2 a1 = some (r1, r2, r3, r4, r5, r6, r7, r8, r9)) :
  Calls Tryz.prog 129 #[.pointer (some ⟨g, 0, none⟩), .int .i64 a1] w fun e w' => ∃ v1_ v2_ v4_ : Value, e = .returned (.agg #[.string r1, v1_, v2_, .int .i64 r4, v4_, .string r6, .int .i64 r7]) ∧ Kd.R Kd.string 9 w' w.heap.size (fun k_ => some k_ ≠ (v2_ : Value).ownBlock) v1_ r2 ∧ Kd.R Kd.string 9 w' w.heap.size (fun k_ => some k_ ≠ (v1_ : Value).ownBlock) v2_ r3 ∧ Kd.R k116 116 w' w.heap.size (fun _ => True) v4_ r5 ∧ IsS139 w0 w' g s0_0 r8 r9 ∧ Below w0.heap.size w0 w' ∧ KeepBut w w' g none := by
 have hu31 := Tryz.underlying31
 have hu29 := Tryz.underlying29
 have hu50 := Tryz.underlying50
 have HI0 := am hI
 have HK := am (KeepBut.refl w g none)
 have HL := am hB.size
 clear hI
 have HW0 := am hB.size
 have HB := am hB
 clear hB
 unfold spec_l10DrawRight.f at h
 have H := h
 clear h
 have H' := am H
 clear H
 go_enter Tryz.func129, Tryz.ntmps129
 go_wp2_with ((with_reducible refine gw ?_); first | (refine bx 4 #[.string (⟨#[]⟩ : ByteArray), .slice none 0 0, .slice none 0 0, .int .i64 0, .slice none 0 0, .string (⟨#[]⟩ : ByteArray), .int .i64 0] 31 ?_; intro gb17 hg w3 hbox hb; replace HB := am (below_step u129HB hb); have BK17 := am (hbox); have GW17 := am (hs hg (keep_size (w := w) (g := g) (row := none) u129HK)); have GE17 := am (Nat.le_trans HW0.out (hs hg (keep_size (w := w) (g := g) (row := none) u129HK))); replace HK := am (KeepBut.trans u129HK (KeepBut.of_below hb g none) (.inl rfl)); have NB0_17 := am (hl hg (IsS139.lt (show IsS139 w0 _ g s0_0 s0_1 s0_2 from u129HI0))); have NB17_0 := am (hh hg (IsS139.lt (show IsS139 w0 _ g s0_0 s0_1 s0_2 from u129HI0))); replace HI0 := am (IsS139.below u129HI0 hb); clear hb hbox hg))
 (try simp only [Act.put, List.setIfInBounds_toArray, List.set_cons_zero, List.set_cons_succ])
 go_loopg [5] k (fun kq v5 w' => ∃ (x5_1 : Int) (x75_1 : Int) (x76_1 : Int) (x85_1 : ByteArray) (x86_1 : Int) (x87_1 : ByteArray) (x88_1 : Int), v5 = .int .i64 x5_1 ∧ Aside0 (spec_l10DrawRight.l0 kq a1 x5_1 s0_0 x75_1 x76_1 = some (r1, r2, r3, r4, r5, r6, r7, r8, r9)) ∧ Aside0 (kq ≤ k) ∧ Aside0 (w'.heap[gb17]? = some (.cells #[.string x85_1, (.slice none 0 0), (.slice none 0 0), .int .i64 x86_1, (.slice none 0 0), .string x87_1, .int .i64 x88_1] 31 (0, 0))) ∧ Aside0 (IsS139 w0 w' g s0_0 x75_1 x76_1) ∧ Aside0 (KeepBut w w' g none) ∧ Aside0 (Below w0.heap.size w0 w'))
 case atStart => exact ⟨(0), (s0_1), (s0_2), ((⟨#[]⟩ : ByteArray)), (0), ((⟨#[]⟩ : ByteArray)), (0), rs, H', ⟨Nat.le_refl _⟩, ⟨bk BK17⟩, ⟨u129HI0⟩, ⟨u129HK⟩, ⟨u129HB⟩⟩
 case round =>
  clear H'
  obtain ⟨x5_1, x75_1, x76_1, x85_1, x86_1, x87_1, x88_1, rfl, HA, HK1, BK17, HI0, HK, HB⟩ := hrel
  cases gk with
  | zero => exact absurd HA.out (by simp [spec_l10DrawRight.l0])
  | succ k1 =>
   have H := HA.out
   clear HA
   simp only [spec_l10DrawRight.l0] at H
   by_cases c4 : x5_1 < 4
   rotate_left
   ·rw [if_neg c4] at H
    have c4b0 := decide_eq_false c4
    clear c4
    simp only [Option.some.injEq, Prod.mk.injEq] at H
    obtain ⟨rfl, rfl, rfl, rfl, rfl, rfl, rfl, rfl, rfl⟩ := H
    have hnb59 := NB17_0.out
    have hnc59 := NB0_17.out
    obtain ⟨_, _, _, _, _, _, _, _, _, _, _, _, _, _⟩ := cl7 BK17
    go_wp2
    refine bodyPost_ret (results_cell_row rfl _ _ gb17 31 #[.string (⟨#[47, 97]⟩ : ByteArray), .slice none 0 0, .slice none 0 0, .int .i64 200, .slice none 0 0, .string (⟨#[]⟩ : ByteArray), .int .i64 a1] (0, 0) _ rfl (pt0 BK17) Tryz.underlying31 rfl (by kernel_rfl)) rfl ?_
    exact ⟨_, _, _, rf, by first | exact Kd.R_nil _ _ _ _ _ | exact Kd.N_nil _ _ _ _ _ | exact Kd.V_nil _ _ _ _ _ | exact Kd.Q_nil _ _ _ _ _ | exact Kd.S_nil _ _ _ _ _, by first | exact Kd.R_nil _ _ _ _ _ | exact Kd.N_nil _ _ _ _ _ | exact Kd.V_nil _ _ _ _ _ | exact Kd.Q_nil _ _ _ _ _ | exact Kd.S_nil _ _ _ _ _, by first | exact Kd.R_nil _ _ _ _ _ | exact Kd.N_nil _ _ _ _ _ | exact Kd.V_nil _ _ _ _ _ | exact Kd.Q_nil _ _ _ _ _ | exact Kd.S_nil _ _ _ _ _, u129HI0, u129HB, u129HK⟩
   rw [if_pos c4] at H
   have c4b0 := decide_eq_true c4
   clear c4
   revert H
   refine ok5 fun t77 t66 t79 t69 t70 A5 H => ?_
   (try dsimp only at H)
   revert H
   refine ok1 fun t68 A6 H => ?_
   obtain ⟨y67, hy67⟩ : ∃ y_, y_ = (([(⟨#[109, 97, 120, 45, 97, 103, 101, 61, 53]⟩ : ByteArray), (⟨#[109, 97, 120, 45, 97, 103, 101, 61, 50, 48]⟩ : ByteArray)] : List ByteArray)) := ⟨_, rfl⟩
   (try with_reducible replace H := bs_ H)
   rw [← hy67] at H
   have Ny67 := am hy67
   clear hy67
   revert H
   refine ok3 fun t78 t80 t81 A7 H => ?_
   (try dsimp only at H)
   revert H
   refine ok1 fun t62 A8 H => ?_
   revert H
   refine ok6 fun t63 t82 t71 t92 t72 t73 A9 H => ?_
   (try dsimp only at H)
   revert H
   refine ok1 fun t65 A10 H => ?_
   revert H
   refine ok8 fun t61 t93 t94 t95 t96 t97 t98 t99 A11 H => ?_
   (try dsimp only at H)
   have HH12 := am H
   clear H
   go_upto_if 40 with (first | ((with_reducible refine gw ?_); refine gl 15 Tryz.func124 #[.pointer (some ⟨g, 0, none⟩)] ?_; refine (spec_l3DrawResp.calls k1 g s0_0 x75_1 x76_1 t77 t66 t79 t69 t70 w0 _ u129HI0 u129HB A5.out).mono ?_; rintro e w13 ⟨v637, rfl, ho0, hi, hb, hk⟩; refine ⟨_, rfl, ?_⟩; replace BK17 := kp BK17 hk NB17_0; have HO38 := am (Kd.R_lower ho0 (keep_size (w := w) (g := g) (row := none) u129HK)); replace HK := am (KeepBut.trans u129HK hk (.inl rfl)); replace HB := am (hb); replace HI0 := am (hi); clear hb hk hi ho0) | ((with_reducible refine gw ?_); refine bx 6 #[.int .i64 0, .slice none 0 0, .string (⟨#[]⟩ : ByteArray)] 29 ?_; intro gb33 hg w14 hbox hb; replace HO38 := am (Kd.R_below (ro HO38) hb); replace HB := am (below_step u129HB hb); have BK33 := am (hbox); have GW33 := am (hs hg (keep_size (w := w) (g := g) (row := none) u129HK)); have GE33 := am (Nat.le_trans HW0.out (hs hg (keep_size (w := w) (g := g) (row := none) u129HK))); replace HK := am (KeepBut.trans u129HK (KeepBut.of_below hb g none) (.inl rfl)); have NB17_33 := am (nl hg BK17 : gb17 ≠ gb33); have NB33_17 := am (ng hg BK17 : gb33 ≠ gb17); replace BK17 := kb BK17 hb; have NB0_33 := am (hl hg (IsS139.lt (show IsS139 w0 _ g s0_0 t69 t70 from u129HI0))); have NB33_0 := am (hh hg (IsS139.lt (show IsS139 w0 _ g s0_0 t69 t70 from u129HI0))); replace HI0 := am (IsS139.below u129HI0 hb); clear hb hbox hg; have hnb15 := NB33_17.out; have hnc15 := NB17_33.out; have hnb16 := NB33_0.out; have hnc16 := NB0_33.out; obtain ⟨_, _, _, _, _, _⟩ := cl3 BK33; obtain ⟨Ao18, co18, eo18⟩ := Kd.R_slice HO38.out; subst eo18) | ((with_reducible refine gw ?_); refine gl 19 Tryz.func123 #[.slice Ao18 t66.length co18, .string (⟨#[99, 97, 99, 104, 101, 45, 99, 111, 110, 116, 114, 111, 108]⟩ : ByteArray)] ?_; (with_reducible refine (spec_Drop.calls k1 _ _ t66 (⟨#[99, 97, 99, 104, 101, 45, 99, 111, 110, 116, 114, 111, 108]⟩ : ByteArray) t68 _ ?side1 ?side2 A6.out).mono ?_); (case side1 => refine (Kd.R_reads' (e := 116) (base := w.heap.size) (ok := fun k_ => True) (n := t66.length) (c := co18) ?_).2.2; exact (rj (Kd.R_types HO38.out BK33.out (by decide)) (fun _ h_ => h_.1))); (case side2 => exact (Kd.R_reads' HO38.out).2.1); rintro e w19 ⟨v644, rfl, ho0, hb⟩; refine ⟨_, rfl, ?_⟩; have HO45 := am (Kd.R_lower (Kd.R_new' ho0 (Kd.R_lt (rj (Kd.R_types HO38.out BK33.out (by decide)) (fun _ h_ => h_.1)))) (keep_size (w := w) (g := g) (row := none) u129HK)); replace HO38 := am (Kd.R_elder' (rj (Kd.R_types HO38.out BK33.out (by decide)) (fun _ h_ => h_.1)) (Kd.R_base ho0) hb); replace BK17 := kg1 BK17 NB17_33 hb; replace HI0 := am (IsS139.below (show IsS139 w0 ((((w14.setCell ⟨gb33, 0, none⟩ (.int .i64 t77)).setCell ⟨gb33, 1, none⟩ (.slice Ao18 t66.length co18)).setCell ⟨gb33, 2, none⟩ (.string t79)).setCell ⟨gb33, 0, none⟩ (.int .i64 200)) g s0_0 t69 t70 from u129HI0) hb); replace BK33 := am (blk_below (g := gb33) (o := .cells #[.int .i64 200, .slice Ao18 t66.length co18, .string t79] 29 (0, 0)) (pt0 BK33) hb); replace HK := am (KeepBut.trans u129HK (KeepBut.of_below hb g none) (.inl rfl)); replace HB := am (below_step u129HB hb); clear hb ho0) | ((with_reducible refine gate_dst (N := 21) rfl ?_); refine rl Kd.string 9 21 ([(⟨#[109, 97, 120, 45, 97, 103, 101, 61, 53]⟩ : ByteArray), (⟨#[109, 97, 120, 45, 97, 103, 101, 61, 50, 48]⟩ : ByteArray)] : List ByteArray) [.string (⟨#[109, 97, 120, 45, 97, 103, 101, 61, 53]⟩ : ByteArray), .string (⟨#[109, 97, 120, 45, 97, 103, 101, 61, 50, 48]⟩ : ByteArray)] ?_; intro v647 w20 ho21 hb; (first | rw [← Ny67.out] at ho21 | (simp only [Int.reduceToNat] at ho21; rw [← Ny67.out] at ho21)); replace HO38 := kr HO38 hb; replace HO45 := kr HO45 hb; have HO54 := am (Kd.R_lower ho21 (keep_size (w := w) (g := g) (row := none) u129HK)); replace BK17 := kb BK17 hb; replace BK33 := kb BK33 hb; replace HK := am (KeepBut.trans u129HK (KeepBut.of_below hb g none) (.inl rfl)); replace HB := am (below_step u129HB hb); replace HI0 := am (IsS139.below u129HI0 hb); clear hb ho21; obtain ⟨Ao22, co22, eo22⟩ := Kd.R_slice HO54.out; subst eo22) | ((with_reducible refine gw ?_); refine gl 22 Tryz.func84 #[.pointer (some ⟨g, 0, none⟩), .slice Ao22 y67.length co22] ?_; refine (spec_l1Pick.calls g s0_0 t69 t70 _ _ y67 t78 t80 t81 w0 _ u129HI0 u129HB (rc HO54) ((Kd.R_reads' HO54.out).2.1) (far_slice (IsS139.own_ne HI0.out HO54.out (by decide))) A7.out).mono ?_; rintro e w23 ⟨rfl, hi, hb, hk⟩; refine ⟨_, rfl, ?_⟩; replace BK17 := kp BK17 hk NB17_0; replace HO38 := am (Kd.R_mono (Kd.R_keep (IsS139.apart (show IsS139 w0 _ g s0_0 t69 t70 from u129HI0) (ro HO38) (by decide)) hk (fun _ h => h.2)) (fun _ h => h.1)); replace BK33 := kp BK33 hk NB33_0; replace HO45 := am (Kd.R_mono (Kd.R_keep (IsS139.apart (show IsS139 w0 _ g s0_0 t69 t70 from u129HI0) (ro HO45) (by decide)) hk (fun _ h => h.2)) (fun _ h => h.1)); replace HO54 := am (Kd.R_mono (Kd.R_keep (IsS139.apart (show IsS139 w0 _ g s0_0 t69 t70 from u129HI0) (ro HO54) (by decide)) hk (fun _ h => h.2)) (fun _ h => h.1)); replace HK := am (KeepBut.trans u129HK hk (.inl rfl)); replace HB := am (hb); replace HI0 := am (hi); clear hb hk hi; obtain ⟨Ao24, co24, eo24⟩ := Kd.R_slice HO45.out; subst eo24) | ((with_reducible refine gw ?_); refine gl 23 Tryz.func103 #[.slice Ao24 t68.length co24, .string (⟨#[99, 97, 99, 104, 101, 45, 99, 111, 110, 116, 114, 111, 108]⟩ : ByteArray), .string t78] ?_; refine (spec_Put.calls k1 _ _ t68 (⟨#[99, 97, 99, 104, 101, 45, 99, 111, 110, 116, 114, 111, 108]⟩ : ByteArray) t78 t62 _ (rc HO45) ((Kd.R_reads' HO45.out).2.1) A8.out).mono ?_; rintro e w25 ⟨v653, rfl, ho0, hb⟩; refine ⟨_, rfl, ?_⟩; replace HO54 := kr HO54 hb; have HO58 := am (Kd.R_lower (Kd.R_new' (Kd.R_new' ho0 (Kd.R_lt (ro HO38))) (Kd.R_lt (ro HO45))) (keep_size (w := w) (g := g) (row := none) u129HK)); replace HO38 := am (Kd.R_elder' (ro HO38) (Kd.R_base ho0) hb); replace HO45 := am (Kd.R_elder' (ro HO45) (Kd.R_base ho0) hb); replace BK17 := kb BK17 hb; replace BK33 := kb BK33 hb; replace HK := am (KeepBut.trans u129HK (KeepBut.of_below hb g none) (.inl rfl)); replace HB := am (below_step u129HB hb); replace HI0 := am (IsS139.below u129HI0 hb); clear hb ho0; obtain ⟨Ao26, co26, eo26⟩ := Kd.R_slice HO58.out; subst eo26; obtain ⟨_, _, _, _, _, _⟩ := cl3 BK33) | ((with_reducible refine gw ?_); refine gl 26 Tryz.func122 #[.pointer (some ⟨g, 0, none⟩)] ?_; refine (spec_l3DrawReq.calls k1 g s0_0 t80 t81 t63 t82 t71 t92 t72 t73 w0 _ u129HI0 u129HB A9.out).mono ?_; rintro e w28 ⟨v658, rfl, ho0, hi, hb, hk⟩; refine ⟨_, rfl, ?_⟩; replace BK17 := am (KeepBut.blk hk (g' := gb17) (o := .cells #[.string x85_1, .slice none 0 0, .slice none 0 0, .int .i64 x86_1, .slice none 0 0, .string x87_1, .int .i64 x88_1] 31 (0, 0)) (bg1 BK17 NB17_33) NB17_0.out (by simp)); replace HO54 := am (Kd.R_mono (Kd.R_keep (IsS139.apart (show IsS139 w0 _ g s0_0 t80 t81 from u129HI0) (rj (Kd.R_types HO54.out BK33.out (by decide)) (fun _ h_ => h_.1)) (by decide)) hk (fun _ h => h.2)) (fun _ h => h.1)); have HO60 := am (Kd.R_lower (Kd.R_new' (Kd.R_new' (Kd.R_new' ho0 (Kd.R_lt (rj (Kd.R_types HO38.out BK33.out (by decide)) (fun _ h_ => h_.1)))) (Kd.R_lt (rj (Kd.R_types HO45.out BK33.out (by decide)) (fun _ h_ => h_.1)))) (Kd.R_lt (rj (Kd.R_types HO58.out BK33.out (by decide)) (fun _ h_ => h_.1)))) (keep_size (w := w) (g := g) (row := none) u129HK)); replace HO38 := am (Kd.R_mono (Kd.R_told (Kd.R_oldK (IsS139.apart (show IsS139 w0 _ g s0_0 t80 t81 from u129HI0) (rj (Kd.R_types HO38.out BK33.out (by decide)) (fun _ h_ => h_.1)) (by decide)) hk) (Kd.R_base ho0)) (fun _ h_ => h_.1)); replace HO45 := am (Kd.R_mono (Kd.R_told (Kd.R_oldK (IsS139.apart (show IsS139 w0 _ g s0_0 t80 t81 from u129HI0) (rj (Kd.R_types HO45.out BK33.out (by decide)) (fun _ h_ => h_.1)) (by decide)) hk) (Kd.R_base ho0)) (fun _ h_ => h_.1)); replace HO58 := am (Kd.R_mono (Kd.R_told (Kd.R_oldK (IsS139.apart (show IsS139 w0 _ g s0_0 t80 t81 from u129HI0) (rj (Kd.R_types HO58.out BK33.out (by decide)) (fun _ h_ => h_.1)) (by decide)) hk) (Kd.R_base ho0)) (fun _ h_ => h_.1)); replace BK33 := am (KeepBut.blk hk (g' := gb33) (o := .cells #[.int .i64 200, .slice Ao26 t62.length co26, .string t79] 29 (0, 0)) (pt0 BK33) NB33_0.out (by simp)); replace HK := am (KeepBut.trans u129HK hk (.inl rfl)); replace HB := am (hb); replace HI0 := am (hi); clear hb hk hi ho0) | ((with_reducible refine gw ?_); refine bx 7 #[.int .i64 0, .string (⟨#[]⟩ : ByteArray), .slice none 0 0, .string (⟨#[]⟩ : ByteArray)] 50 ?_; intro gb27 hg w29 hbox hb; replace HO38 := am (Kd.R_below (ro HO38) hb); replace HO45 := am (Kd.R_below (ro HO45) hb); replace HO54 := am (Kd.R_below (ro HO54) hb); replace HO58 := am (Kd.R_below (ro HO58) hb); replace HO60 := am (Kd.R_below (ro HO60) hb); replace HB := am (below_step u129HB hb); have BK27 := am (hbox); have GW27 := am (hs hg (keep_size (w := w) (g := g) (row := none) u129HK)); have GE27 := am (Nat.le_trans HW0.out (hs hg (keep_size (w := w) (g := g) (row := none) u129HK))); replace HK := am (KeepBut.trans u129HK (KeepBut.of_below hb g none) (.inl rfl)); have NB17_27 := am (nl hg BK17 : gb17 ≠ gb27); have NB27_17 := am (ng hg BK17 : gb27 ≠ gb17); replace BK17 := kb BK17 hb; have NB33_27 := am (nl hg BK33 : gb33 ≠ gb27); have NB27_33 := am (ng hg BK33 : gb27 ≠ gb33); replace BK33 := kb BK33 hb; have NB0_27 := am (hl hg (IsS139.lt (show IsS139 w0 _ g s0_0 t72 t73 from u129HI0))); have NB27_0 := am (hh hg (IsS139.lt (show IsS139 w0 _ g s0_0 t72 t73 from u129HI0))); replace HI0 := am (IsS139.below u129HI0 hb); clear hb hbox hg; have hnb30 := NB27_17.out; have hnc30 := NB17_27.out; have hnb31 := NB27_33.out; have hnc31 := NB33_27.out; have hnb32 := NB27_0.out; have hnc32 := NB0_27.out; obtain ⟨_, _, _, _, _, _, _, _⟩ := cl4 BK27; obtain ⟨Ao34, co34, eo34⟩ := Kd.R_slice HO60.out; subst eo34) | ((with_reducible refine gw ?_); refine gl 31 Tryz.func123 #[.slice Ao34 t71.length co34, .string (⟨#[99, 97, 99, 104, 101, 45, 99, 111, 110, 116, 114, 111, 108]⟩ : ByteArray)] ?_; (with_reducible refine (spec_Drop.calls k1 _ _ t71 (⟨#[99, 97, 99, 104, 101, 45, 99, 111, 110, 116, 114, 111, 108]⟩ : ByteArray) t65 _ ?side1 ?side2 A10.out).mono ?_); (case side1 => refine (Kd.R_reads' (e := 116) (base := w.heap.size) (ok := fun k_ => (((True ∧ some k_ ≠ (.slice Ao18 t66.length co18 : Value).ownBlock) ∧ some k_ ≠ (.slice Ao24 t68.length co24 : Value).ownBlock) ∧ some k_ ≠ (.slice Ao26 t62.length co26 : Value).ownBlock)) (n := t71.length) (c := co34) ?_).2.2; exact (rj (Kd.R_types HO60.out BK27.out (by decide)) (fun _ h_ => h_.1))); (case side2 => exact (Kd.R_reads' HO60.out).2.1); rintro e w35 ⟨v665, rfl, ho0, hb⟩; refine ⟨_, rfl, ?_⟩; replace HO54 := am (Kd.R_below (rj (Kd.R_types HO54.out BK27.out (by decide)) (fun _ h_ => h_.1)) hb); have HO74 := am (Kd.R_lower (Kd.R_new' (Kd.R_new' (Kd.R_new' (Kd.R_new' ho0 (Kd.R_lt (rj (Kd.R_types HO38.out BK27.out (by decide)) (fun _ h_ => h_.1)))) (Kd.R_lt (rj (Kd.R_types HO45.out BK27.out (by decide)) (fun _ h_ => h_.1)))) (Kd.R_lt (rj (Kd.R_types HO58.out BK27.out (by decide)) (fun _ h_ => h_.1)))) (Kd.R_lt (rj (Kd.R_types HO60.out BK27.out (by decide)) (fun _ h_ => h_.1)))) (keep_size (w := w) (g := g) (row := none) u129HK)); replace HO38 := am (Kd.R_elder' (rj (Kd.R_types HO38.out BK27.out (by decide)) (fun _ h_ => h_.1)) (Kd.R_base ho0) hb); replace HO45 := am (Kd.R_elder' (rj (Kd.R_types HO45.out BK27.out (by decide)) (fun _ h_ => h_.1)) (Kd.R_base ho0) hb); replace HO58 := am (Kd.R_elder' (rj (Kd.R_types HO58.out BK27.out (by decide)) (fun _ h_ => h_.1)) (Kd.R_base ho0) hb); replace HO60 := am (Kd.R_elder' (rj (Kd.R_types HO60.out BK27.out (by decide)) (fun _ h_ => h_.1)) (Kd.R_base ho0) hb); replace BK17 := kg1 BK17 NB17_27 hb; replace HI0 := am (IsS139.below (show IsS139 w0 ((((((w29.setCell ⟨gb27, 0, none⟩ (.int .i64 t63)).setCell ⟨gb27, 1, none⟩ (.string t82)).setCell ⟨gb27, 2, none⟩ (.slice Ao34 t71.length co34)).setCell ⟨gb27, 3, none⟩ (.string t92)).setCell ⟨gb27, 0, none⟩ (.int .i64 1)).setCell ⟨gb27, 3, none⟩ (.string (⟨#[]⟩ : ByteArray))) g s0_0 t72 t73 from u129HI0) hb); replace BK33 := kg1 BK33 NB33_27 hb; replace BK27 := am (blk_below (g := gb27) (o := .cells #[.int .i64 1, .string t82, .slice Ao34 t71.length co34, .string (⟨#[]⟩ : ByteArray)] 50 (0, 0)) (pt0 BK27) hb); replace HK := am (KeepBut.trans u129HK (KeepBut.of_below hb g none) (.inl rfl)); replace HB := am (below_step u129HB hb); clear hb ho0; obtain ⟨Ao36, co36, eo36⟩ := Kd.R_slice HO74.out; subst eo36; obtain ⟨_, _, _, _, _, _, _, _⟩ := cl4 BK27; obtain ⟨_, _, _, _, _, _⟩ := cl3 BK33) | ((with_reducible refine gw ?_); refine gl 37 Tryz.func44 #[.agg #[.int .i64 1, .string t82, .slice Ao36 t65.length co36, .string (⟨#[]⟩ : ByteArray)], .agg #[.int .i64 200, .slice Ao26 t62.length co26, .string t79], .int .i64 a1] ?_; (with_reducible refine (spec_ObjOf.calls k1 1 t82 _ _ t65 (⟨#[]⟩ : ByteArray) 200 _ _ t62 t79 a1 t61 t93 t94 t95 t96 t97 t98 t99 _ ?side1 ?side2 ?side3 ?side4 A11.out).mono ?_); (case side1 => refine (Kd.R_reads' (e := 116) (base := w.heap.size) (ok := fun k_ => ((((True ∧ some k_ ≠ (.slice Ao18 t66.length co18 : Value).ownBlock) ∧ some k_ ≠ (.slice Ao24 t68.length co24 : Value).ownBlock) ∧ some k_ ≠ (.slice Ao26 t62.length co26 : Value).ownBlock) ∧ some k_ ≠ (.slice Ao34 t71.length co34 : Value).ownBlock)) (n := t65.length) (c := co36) ?_).2.2; exact (rj (Kd.R_types HO74.out BK27.out (by decide)) (fun _ h_ => h_.1))); (case side2 => exact (Kd.R_reads' HO74.out).2.1); (case side3 => refine (Kd.R_reads' (e := 116) (base := w.heap.size) (ok := fun k_ => ((((True ∧ some k_ ≠ (.slice Ao18 t66.length co18 : Value).ownBlock) ∧ some k_ ≠ (.slice Ao24 t68.length co24 : Value).ownBlock) ∧ some k_ ≠ (.slice Ao34 t71.length co34 : Value).ownBlock) ∧ some k_ ≠ (.slice Ao36 t65.length co36 : Value).ownBlock)) (n := t62.length) (c := co26) ?_).2.2; exact (rj (Kd.R_types HO58.out BK27.out (by decide)) (fun _ h_ => h_.1))); (case side4 => exact (Kd.R_reads' HO58.out).2.1); rintro e w39 ⟨v669, v672, v676, rfl, ho0, ho1, ho2, hb⟩; refine ⟨_, rfl, ?_⟩; have HO89 := am (Kd.R_lower (Kd.R_new' ho0 (Kd.R_lt (rj (Kd.R_types HO54.out BK27.out (by decide)) (fun _ h_ => h_.1)))) (keep_size (w := w) (g := g) (row := none) u129HK)); have HO90 := am (Kd.R_lower (Kd.R_new' ho1 (Kd.R_lt (rj (Kd.R_types HO54.out BK27.out (by decide)) (fun _ h_ => h_.1)))) (keep_size (w := w) (g := g) (row := none) u129HK)); replace HO54 := am (Kd.R_mono (Kd.R_told (Kd.R_told (Kd.R_old (rj (Kd.R_types HO54.out BK27.out (by decide)) (fun _ h_ => h_.1)) hb) (Kd.R_base ho0)) (Kd.R_base ho1)) (fun _ h_ => h_.1)); have HO91 := am (Kd.R_lower (Kd.R_new' (Kd.R_new' (Kd.R_new' (Kd.R_new' (Kd.R_new' ho2 (Kd.R_lt (rj (Kd.R_types HO38.out BK27.out (by decide)) (fun _ h_ => h_.1)))) (Kd.R_lt (rj (Kd.R_types HO45.out BK27.out (by decide)) (fun _ h_ => h_.1)))) (Kd.R_lt (rj (Kd.R_types HO58.out BK27.out (by decide)) (fun _ h_ => h_.1)))) (Kd.R_lt (rj (Kd.R_types HO60.out BK27.out (by decide)) (fun _ h_ => h_.1)))) (Kd.R_lt (rj (Kd.R_types HO74.out BK27.out (by decide)) (fun _ h_ => h_.1)))) (keep_size (w := w) (g := g) (row := none) u129HK)); replace HO38 := am (Kd.R_elder' (rj (Kd.R_types HO38.out BK27.out (by decide)) (fun _ h_ => h_.1)) (Kd.R_base ho2) hb); replace HO45 := am (Kd.R_elder' (rj (Kd.R_types HO45.out BK27.out (by decide)) (fun _ h_ => h_.1)) (Kd.R_base ho2) hb); replace HO58 := am (Kd.R_elder' (rj (Kd.R_types HO58.out BK27.out (by decide)) (fun _ h_ => h_.1)) (Kd.R_base ho2) hb); replace HO60 := am (Kd.R_elder' (rj (Kd.R_types HO60.out BK27.out (by decide)) (fun _ h_ => h_.1)) (Kd.R_base ho2) hb); replace HO74 := am (Kd.R_elder' (rj (Kd.R_types HO74.out BK27.out (by decide)) (fun _ h_ => h_.1)) (Kd.R_base ho2) hb); replace BK17 := kg1 BK17 NB17_27 hb; replace HI0 := am (IsS139.below (show IsS139 w0 (w35.setCell ⟨gb27, 2, none⟩ (.slice Ao36 t65.length co36)) g s0_0 t72 t73 from u129HI0) hb); replace BK33 := kg1 BK33 NB33_27 hb; replace BK27 := am (blk_below (g := gb27) (o := .cells #[.int .i64 1, .string t82, .slice Ao36 t65.length co36, .string (⟨#[]⟩ : ByteArray)] 50 (0, 0)) (pt0 BK27) hb); replace HK := am (KeepBut.trans u129HK (KeepBut.of_below hb g none) (.inl rfl)); replace HB := am (below_step u129HB hb); clear hb ho0 ho1 ho2) | ((with_reducible refine gw ?_); refine bx 8 #[.string (⟨#[]⟩ : ByteArray), .slice none 0 0, .slice none 0 0, .int .i64 0, .slice none 0 0, .string (⟨#[]⟩ : ByteArray), .int .i64 0] 31 ?_; intro gb37 hg w40 hbox hb; replace HO38 := am (Kd.R_below (ro HO38) hb); replace HO45 := am (Kd.R_below (ro HO45) hb); replace HO54 := am (Kd.R_below (ro HO54) hb); replace HO58 := am (Kd.R_below (ro HO58) hb); replace HO60 := am (Kd.R_below (ro HO60) hb); replace HO74 := am (Kd.R_below (ro HO74) hb); replace HO89 := am (Kd.R_below (ro HO89) hb); replace HO90 := am (Kd.R_below (ro HO90) hb); replace HO91 := am (Kd.R_below (ro HO91) hb); replace HB := am (below_step u129HB hb); have BK37 := am (hbox); have GW37 := am (hs hg (keep_size (w := w) (g := g) (row := none) u129HK)); have GE37 := am (Nat.le_trans HW0.out (hs hg (keep_size (w := w) (g := g) (row := none) u129HK))); replace HK := am (KeepBut.trans u129HK (KeepBut.of_below hb g none) (.inl rfl)); have NB17_37 := am (nl hg BK17 : gb17 ≠ gb37); have NB37_17 := am (ng hg BK17 : gb37 ≠ gb17); replace BK17 := kb BK17 hb; have NB33_37 := am (nl hg BK33 : gb33 ≠ gb37); have NB37_33 := am (ng hg BK33 : gb37 ≠ gb33); replace BK33 := kb BK33 hb; have NB27_37 := am (nl hg BK27 : gb27 ≠ gb37); have NB37_27 := am (ng hg BK27 : gb37 ≠ gb27); replace BK27 := kb BK27 hb; have NB0_37 := am (hl hg (IsS139.lt (show IsS139 w0 _ g s0_0 t72 t73 from u129HI0))); have NB37_0 := am (hh hg (IsS139.lt (show IsS139 w0 _ g s0_0 t72 t73 from u129HI0))); replace HI0 := am (IsS139.below u129HI0 hb); clear hb hbox hg; have hnb41 := NB37_17.out; have hnc41 := NB17_37.out; have hnb42 := NB37_33.out; have hnc42 := NB33_37.out; have hnb43 := NB37_27.out; have hnc43 := NB27_37.out; have hnb44 := NB37_0.out; have hnc44 := NB0_37.out; obtain ⟨_, _, _, _, _, _, _, _, _, _, _, _, _, _⟩ := cl7 BK37; obtain ⟨Ao46, co46, eo46⟩ := Kd.R_slice HO89.out; subst eo46; obtain ⟨Ao47, co47, eo47⟩ := Kd.R_slice HO90.out; subst eo47; obtain ⟨Ao48, co48, eo48⟩ := Kd.R_slice HO91.out; subst eo48))
   have H := HH12.out
   clear HH12
   by_cases c49 : t99 = true
   rotate_left
   ·replace c49 := nb_ c49
    subst c49
    rw [if_neg ff_] at H
    have H' := am H
    clear H
    go_wp2
    go_roundg k1
    case measure => have := HK1.out; omega
    case rel => exact ⟨(wrap64 (x5_1 + 1)), (t72), (t73), (x85_1), (x86_1), (x87_1), (x88_1), rs, H', ⟨by have := HK1.out; omega⟩, ⟨bg1 BK17 NB17_37⟩, ⟨u129HI0⟩, ⟨u129HK⟩, ⟨u129HB⟩⟩
   subst c49
   rw [if_pos rfl] at H
   simp only [Option.some.injEq, Prod.mk.injEq] at H
   obtain ⟨rfl, rfl, rfl, rfl, rfl, rfl, rfl, rfl, rfl⟩ := H
   have hnb50 := NB37_17.out
   have hnc50 := NB17_37.out
   have hnb51 := NB37_33.out
   have hnc51 := NB33_37.out
   have hnb52 := NB37_27.out
   have hnc52 := NB27_37.out
   have hnb53 := NB37_0.out
   have hnc53 := NB0_37.out
   obtain ⟨_, _, _, _, _, _, _, _, _, _, _, _, _, _⟩ := cl7 BK37
   have hnb55 := NB17_33.out
   have hnc55 := NB33_17.out
   have hnb56 := NB17_27.out
   have hnc56 := NB27_17.out
   have hnb57 := NB17_0.out
   have hnc57 := NB0_17.out
   obtain ⟨_, _, _, _, _, _, _, _, _, _, _, _, _, _⟩ := cl7 BK17
   go_wp2
   refine bodyPost_ret (results_cell_row rfl _ _ gb17 31 #[.string t61, .slice Ao46 t93.length co46, .slice Ao47 t94.length co47, .int .i64 t95, .slice Ao48 t96.length co48, .string t97, .int .i64 t98] (0, 0) _ rfl (pt1 BK17 NB17_37) Tryz.underlying31 rfl (by kernel_rfl)) rfl ?_
   exact ⟨_, _, _, rf, rj (Kd.R_types (Kd.R_types HO89.out BK37.out (by decide)) BK17.out (by decide)) (fun _ hk => hk.1.1.1), rj (Kd.R_types (Kd.R_types HO90.out BK37.out (by decide)) BK17.out (by decide)) (fun _ hk => hk.1.1.1), rj (Kd.R_types (Kd.R_types HO91.out BK37.out (by decide)) BK17.out (by decide)) (fun _ hk => trivial), u129HI0, u129HB, u129HK⟩
theorem u61HI0 {p : Prop} (h : p := by repeat (first | (with_reducible first | exact HI0.out | apply IsS139.alloc | apply IsS139.drewN | apply IsS139.drew | apply IsS139.set_1 | apply IsS139.set_2 | apply IsS139.far (p := ⟨gb12, _, none⟩) (hne := NB0_12.out) | apply IsS139.far (p := ⟨gb22, _, none⟩) (hne := NB0_22.out)) | exact HI0.out)) : p := h
theorem u61HK {p : Prop} (h : p := by repeat (first | (with_reducible first | exact HK.out | apply KeepBut.set_ | apply keep_drewN | apply keep_drew | apply keep_alloc | refine keep_far ?_ GW12.out _ | refine keep_far ?_ GW22.out _) | exact HK.out)) : p := h
theorem u61HB {p : Prop} (h : p := by repeat (first | (with_reducible first | exact HB.out | apply below_alloc | apply pw_below_drewN | apply below_drew1 | refine below_set ?_ (IsS139.ge HI0.out) | refine below_set ?_ GE12.out | refine below_set ?_ GE22.out) | exact HB.out)) : p := h
def spec_l10Draw.f (k : Nat) (s0_0 : List Int) (s0_1 : Int) (s0_2 : Int) : Option (ByteArray × List ByteArray × List ByteArray × Int × (List (S116)) × ByteArray × Int × Int × Int) := (spec_l1Below.f s0_0 s0_1 s0_2 30).bind fun bt81 => ((spec_l10DrawRight.f k s0_0 bt81.2.1 bt81.2.2 bt81.1).bind fun bt24 => ((spec_l1Below.f s0_0 bt24.2.2.2.2.2.2.2.1 bt24.2.2.2.2.2.2.2.2 20).bind fun bt33 => (if bt33.1 = 0 then ((spec_l7DrawTime.f s0_0 bt33.2.1 bt33.2.2).bind fun bt73 => (some (bt24.1, bt24.2.1, bt24.2.2.1, bt24.2.2.2.1, bt24.2.2.2.2.1, bt24.2.2.2.2.2.1, bt73.1, bt73.2.1, bt73.2.2))) else (if bt33.1 = 1 then ((spec_l1Pick.f s0_0 bt33.2.1 bt33.2.2 (([(⟨#[]⟩ : ByteArray), (⟨#[120]⟩ : ByteArray), (⟨#[47, 32]⟩ : ByteArray)] : List ByteArray))).bind fun bt75 => (some (bt75.1, bt24.2.1, bt24.2.2.1, bt24.2.2.2.1, bt24.2.2.2.2.1, bt24.2.2.2.2.2.1, bt24.2.2.2.2.2.2.1, bt75.2.1, bt75.2.2))) else (if bt33.1 = 2 then (if bt24.2.2.1.length < 8796093022208 then (some (bt24.1, bt24.2.1, (bt24.2.2.1 ++ [(⟨#[118]⟩ : ByteArray)]), bt24.2.2.2.1, bt24.2.2.2.2.1, bt24.2.2.2.2.2.1, bt24.2.2.2.2.2.2.1, bt33.2.1, bt33.2.2)) else (none)) else (if bt33.1 = 3 then (if bt24.2.1.length < 8796093022208 then (some (bt24.1, (bt24.2.1 ++ [(⟨#[108, 97, 110, 103]⟩ : ByteArray)]), bt24.2.2.1, bt24.2.2.2.1, bt24.2.2.2.2.1, bt24.2.2.2.2.2.1, bt24.2.2.2.2.2.2.1, bt33.2.1, bt33.2.2)) else (none)) else (if bt33.1 = 4 then ((spec_l3DrawBadResp.f k s0_0 bt33.2.1 bt33.2.2).bind fun bt72 => (some (bt24.1, bt24.2.1, bt24.2.2.1, bt72.1, bt72.2.1, bt72.2.2.1, bt24.2.2.2.2.2.2.1, bt72.2.2.2.1, bt72.2.2.2.2))) else (some (bt24.1, bt24.2.1, bt24.2.2.1, bt24.2.2.2.1, bt24.2.2.2.2.1, bt24.2.2.2.2.2.1, bt24.2.2.2.2.2.2.1, bt33.2.1, bt33.2.2)))))))))
theorem spec_l10Draw.calls (k : Nat) (g : Nat) (s0_0 : List Int) (s0_1 : Int) (s0_2 : Int) (r1 : ByteArray) (r2 : List ByteArray) (r3 : List ByteArray) (r4 : Int) (r5 : List (S116)) (r6 : ByteArray) (r7 : Int) (r8 : Int) (r9 : Int) (w0 w : World) (hI : IsS139 w0 w g s0_0 s0_1 s0_2) (hB : Below w0.heap.size w0 w) (h : spec_l10Draw.f k s0_0 s0_1 s0_2 = some (r1, r2, r3, r4, r5, r6, r7, r8, r9)) :
  Calls Tryz.prog 61 #[.pointer (some ⟨g, 0, none⟩)] w fun e w' => ∃ v1_ v2_ v4_ : Value, e = .returned (.agg #[.string r1, v1_, v2_, .int .i64 r4, v4_, .string r6, .int .i64 r7]) ∧ Kd.R Kd.string 9 w' w.heap.size (fun k_ => some k_ ≠ (v2_ : Value).ownBlock) v1_ r2 ∧ Kd.R Kd.string 9 w' w.heap.size (fun k_ => some k_ ≠ (v1_ : Value).ownBlock) v2_ r3 ∧ Kd.R k116 116 w' w.heap.size (fun _ => True) v4_ r5 ∧ IsS139 w0 w' g s0_0 r8 r9 ∧ Below w0.heap.size w0 w' ∧ KeepBut w w' g none := by
 have hu31 := Tryz.underlying31
 have hu29 := Tryz.underlying29
 have HI0 := am hI
 have HK := am (KeepBut.refl w g none)
 have HL := am hB.size
 clear hI
 have HW0 := am hB.size
 have HB := am hB
 clear hB
 unfold spec_l10Draw.f at h
 have H := h
 clear h
 revert H
 refine ok3 fun t81 t83 t85 A2 H => ?_
 (try dsimp only at H)
 replace H := ob H
 obtain ⟨⟨t24, t45, t50, t53, t55, t67, t69, t79, t80⟩, A30, H⟩ := H
 replace H : ((spec_l1Below.f s0_0 t79 t80 20).bind fun bt33 => (if bt33.1 = 0 then ((spec_l7DrawTime.f s0_0 bt33.2.1 bt33.2.2).bind fun bt73 => (some (t24, t45, t50, t53, t55, t67, bt73.1, bt73.2.1, bt73.2.2))) else (if bt33.1 = 1 then ((spec_l1Pick.f s0_0 bt33.2.1 bt33.2.2 (([(⟨#[]⟩ : ByteArray), (⟨#[120]⟩ : ByteArray), (⟨#[47, 32]⟩ : ByteArray)] : List ByteArray))).bind fun bt75 => (some (bt75.1, t45, t50, t53, t55, t67, t69, bt75.2.1, bt75.2.2))) else (if bt33.1 = 2 then (if t50.length < 8796093022208 then (some (t24, t45, (t50 ++ [(⟨#[118]⟩ : ByteArray)]), t53, t55, t67, t69, bt33.2.1, bt33.2.2)) else (none)) else (if bt33.1 = 3 then (if t45.length < 8796093022208 then (some (t24, (t45 ++ [(⟨#[108, 97, 110, 103]⟩ : ByteArray)]), t50, t53, t55, t67, t69, bt33.2.1, bt33.2.2)) else (none)) else (if bt33.1 = 4 then ((spec_l3DrawBadResp.f k s0_0 bt33.2.1 bt33.2.2).bind fun bt72 => (some (t24, t45, t50, bt72.1, bt72.2.1, bt72.2.2.1, t69, bt72.2.2.2.1, bt72.2.2.2.2))) else (some (t24, t45, t50, t53, t55, t67, t69, bt33.2.1, bt33.2.2)))))))) = some (r1, r2, r3, r4, r5, r6, r7, r8, r9) := H
 have A3 := am A30
 clear A30
 revert H
 refine ok3 fun t33 t70 t71 A4 H => ?_
 (try dsimp only at H)
 have HH5 := am H
 clear H
 go_enter Tryz.func61, Tryz.ntmps61
 go_upto_if 10 with ((with_reducible refine gw ?_); first | (refine bx 2 #[.string (⟨#[]⟩ : ByteArray), .slice none 0 0, .slice none 0 0, .int .i64 0, .slice none 0 0, .string (⟨#[]⟩ : ByteArray), .int .i64 0] 31 ?_; intro gb12 hg w6 hbox hb; replace HB := am (below_step u61HB hb); have BK12 := am (hbox); have GW12 := am (hs hg (keep_size (w := w) (g := g) (row := none) u61HK)); have GE12 := am (Nat.le_trans HW0.out (hs hg (keep_size (w := w) (g := g) (row := none) u61HK))); replace HK := am (KeepBut.trans u61HK (KeepBut.of_below hb g none) (.inl rfl)); have NB0_12 := am (hl hg (IsS139.lt (show IsS139 w0 _ g s0_0 s0_1 s0_2 from u61HI0))); have NB12_0 := am (hh hg (IsS139.lt (show IsS139 w0 _ g s0_0 s0_1 s0_2 from u61HI0))); replace HI0 := am (IsS139.below u61HI0 hb); clear hb hbox hg) | (refine gl 6 Tryz.func74 #[.pointer (some ⟨g, 0, none⟩), .int .i64 30] ?_; refine (spec_l1Below.calls g s0_0 s0_1 s0_2 30 t81 t83 t85 w0 _ u61HI0 u61HB A2.out).mono ?_; rintro e w7 ⟨rfl, hi, hb, hk⟩; refine ⟨_, rfl, ?_⟩; replace BK12 := kp BK12 hk NB12_0; replace HK := am (KeepBut.trans u61HK hk (.inl rfl)); replace HB := am (hb); replace HI0 := am (hi); clear hb hk hi) | (refine gl 7 Tryz.func129 #[.pointer (some ⟨g, 0, none⟩), .int .i64 t81] ?_; refine (spec_l10DrawRight.calls k g s0_0 t83 t85 t81 t24 t45 t50 t53 t55 t67 t69 t79 t80 w0 _ u61HI0 u61HB A3.out).mono ?_; rintro e w8 ⟨v98, v99, v695, rfl, ho0, ho1, ho2, hi, hb, hk⟩; refine ⟨_, rfl, ?_⟩; replace BK12 := kp BK12 hk NB12_0; have HO35 := am (Kd.R_lower ho0 (keep_size (w := w) (g := g) (row := none) u61HK)); have HO40 := am (Kd.R_lower ho1 (keep_size (w := w) (g := g) (row := none) u61HK)); have HO43 := am (Kd.R_lower ho2 (keep_size (w := w) (g := g) (row := none) u61HK)); replace HK := am (KeepBut.trans u61HK hk (.inl rfl)); replace HB := am (hb); replace HI0 := am (hi); clear hb hk hi ho0 ho1 ho2) | (refine bx 3 #[.string (⟨#[]⟩ : ByteArray), .slice none 0 0, .slice none 0 0, .int .i64 0, .slice none 0 0, .string (⟨#[]⟩ : ByteArray), .int .i64 0] 31 ?_; intro gb22 hg w9 hbox hb; replace HO35 := am (Kd.R_below (ro HO35) hb); replace HO40 := am (Kd.R_below (ro HO40) hb); replace HO43 := am (Kd.R_below (ro HO43) hb); replace HB := am (below_step u61HB hb); have BK22 := am (hbox); have GW22 := am (hs hg (keep_size (w := w) (g := g) (row := none) u61HK)); have GE22 := am (Nat.le_trans HW0.out (hs hg (keep_size (w := w) (g := g) (row := none) u61HK))); replace HK := am (KeepBut.trans u61HK (KeepBut.of_below hb g none) (.inl rfl)); have NB12_22 := am (nl hg BK12 : gb12 ≠ gb22); have NB22_12 := am (ng hg BK12 : gb22 ≠ gb12); replace BK12 := kb BK12 hb; have NB0_22 := am (hl hg (IsS139.lt (show IsS139 w0 _ g s0_0 t79 t80 from u61HI0))); have NB22_0 := am (hh hg (IsS139.lt (show IsS139 w0 _ g s0_0 t79 t80 from u61HI0))); replace HI0 := am (IsS139.below u61HI0 hb); clear hb hbox hg; have hnb10 := NB22_12.out; have hnc10 := NB12_22.out; have hnb11 := NB22_0.out; have hnc11 := NB0_22.out; obtain ⟨_, _, _, _, _, _, _, _, _, _, _, _, _, _⟩ := cl7 BK22; obtain ⟨Ao13, co13, eo13⟩ := Kd.R_slice HO35.out; subst eo13; obtain ⟨Ao14, co14, eo14⟩ := Kd.R_slice HO40.out; subst eo14; obtain ⟨Ao15, co15, eo15⟩ := Kd.R_slice HO43.out; subst eo15) | (refine gl 9 Tryz.func74 #[.pointer (some ⟨g, 0, none⟩), .int .i64 20] ?_; refine (spec_l1Below.calls g s0_0 t79 t80 20 t33 t70 t71 w0 _ u61HI0 u61HB A4.out).mono ?_; rintro e w16 ⟨rfl, hi, hb, hk⟩; refine ⟨_, rfl, ?_⟩; replace BK12 := am (KeepBut.blk hk (g' := gb12) (o := .cells #[.string (⟨#[]⟩ : ByteArray), .slice none 0 0, .slice none 0 0, .int .i64 0, .slice none 0 0, .string (⟨#[]⟩ : ByteArray), .int .i64 0] 31 (0, 0)) (bg1 BK12 NB12_22) NB12_0.out (by simp)); replace HO35 := am (Kd.R_mono (Kd.R_keep (IsS139.apart (show IsS139 w0 _ g s0_0 t79 t80 from u61HI0) (rj (Kd.R_types HO35.out BK22.out (by decide)) (fun _ h_ => h_.1)) (by decide)) hk (fun _ h => h.2)) (fun _ h => h.1)); replace HO40 := am (Kd.R_mono (Kd.R_keep (IsS139.apart (show IsS139 w0 _ g s0_0 t79 t80 from u61HI0) (rj (Kd.R_types HO40.out BK22.out (by decide)) (fun _ h_ => h_.1)) (by decide)) hk (fun _ h => h.2)) (fun _ h => h.1)); replace HO43 := am (Kd.R_mono (Kd.R_keep (IsS139.apart (show IsS139 w0 _ g s0_0 t79 t80 from u61HI0) (rj (Kd.R_types HO43.out BK22.out (by decide)) (fun _ h_ => h_.1)) (by decide)) hk (fun _ h => h.2)) (fun _ h => h.1)); replace BK22 := am (KeepBut.blk hk (g' := gb22) (o := .cells #[.string t24, .slice Ao13 t45.length co13, .slice Ao14 t50.length co14, .int .i64 t53, .slice Ao15 t55.length co15, .string t67, .int .i64 t69] 31 (0, 0)) (pt0 BK22) NB22_0.out (by simp)); replace HK := am (KeepBut.trans u61HK hk (.inl rfl)); replace HB := am (hb); replace HI0 := am (hi); clear hb hk hi))
 have H := HH5.out
 clear HH5
 by_cases c17 : t33 = 0
 ·rw [if_pos c17] at H
  have c17b0 := eqt c17
  have c17b1 := nef c17
  clear c17
  (first | rw [c17b0] | (simp only [i64_w, i32_w]; rw [c17b0]) | skip)
  revert H
  refine ok3 fun t73 t91 t92 A18 H => ?_
  (try dsimp only at H)
  simp only [Option.some.injEq, Prod.mk.injEq] at H
  obtain ⟨rfl, rfl, rfl, rfl, rfl, rfl, rfl, rfl, rfl⟩ := H
  go_wp2_with ((with_reducible refine gw ?_); first | (refine gl 13 Tryz.func125 #[.pointer (some ⟨g, 0, none⟩)] ?_; refine (spec_l7DrawTime.calls g s0_0 t70 t71 t73 t91 t92 w0 _ u61HI0 u61HB A18.out).mono ?_; rintro e w19 ⟨rfl, hi, hb, hk⟩; refine ⟨_, rfl, ?_⟩; replace BK12 := kp BK12 hk NB12_0; replace HO35 := am (Kd.R_mono (Kd.R_keep (IsS139.apart (show IsS139 w0 _ g s0_0 t70 t71 from u61HI0) (ro HO35) (by decide)) hk (fun _ h => h.2)) (fun _ h => h.1)); replace HO40 := am (Kd.R_mono (Kd.R_keep (IsS139.apart (show IsS139 w0 _ g s0_0 t70 t71 from u61HI0) (ro HO40) (by decide)) hk (fun _ h => h.2)) (fun _ h => h.1)); replace HO43 := am (Kd.R_mono (Kd.R_keep (IsS139.apart (show IsS139 w0 _ g s0_0 t70 t71 from u61HI0) (ro HO43) (by decide)) hk (fun _ h => h.2)) (fun _ h => h.1)); replace BK22 := kp BK22 hk NB22_0; replace HK := am (KeepBut.trans u61HK hk (.inl rfl)); replace HB := am (hb); replace HI0 := am (hi); clear hb hk hi; have hnb20 := NB22_12.out; have hnc20 := NB12_22.out; have hnb21 := NB22_0.out; have hnc21 := NB0_22.out; obtain ⟨_, _, _, _, _, _, _, _, _, _, _, _, _, _⟩ := cl7 BK22; have hnb23 := NB12_0.out; have hnc23 := NB0_12.out; obtain ⟨_, _, _, _, _, _, _, _, _, _, _, _, _, _⟩ := cl7 BK12))
  refine bodyPost_ret (results_cell_row rfl _ _ gb12 31 #[.string t24, .slice Ao13 t45.length co13, .slice Ao14 t50.length co14, .int .i64 t53, .slice Ao15 t55.length co15, .string t67, .int .i64 t73] (0, 0) _ rfl (pt1 BK12 NB12_22) Tryz.underlying31 rfl (by kernel_rfl)) rfl ?_
  exact ⟨_, _, _, rf, rj (Kd.R_types (Kd.R_types HO35.out BK22.out (by decide)) BK12.out (by decide)) (fun _ hk => hk.1.1), rj (Kd.R_types (Kd.R_types HO40.out BK22.out (by decide)) BK12.out (by decide)) (fun _ hk => hk.1.1), rj (Kd.R_types (Kd.R_types HO43.out BK22.out (by decide)) BK12.out (by decide)) (fun _ hk => trivial), u61HI0, u61HB, u61HK⟩
 rw [if_neg c17] at H
 have c17b0 := eqf c17
 have c17b1 := net c17
 (first | rw [c17b0] | (simp only [i64_w, i32_w]; rw [c17b0]) | skip)
 by_cases c25 : t33 = 1
 ·rw [if_pos c25] at H
  have c25b0 := eqt c25
  have c25b1 := nef c25
  clear c25
  obtain ⟨y78, hy78⟩ : ∃ y_, y_ = (([(⟨#[]⟩ : ByteArray), (⟨#[120]⟩ : ByteArray), (⟨#[47, 32]⟩ : ByteArray)] : List ByteArray)) := ⟨_, rfl⟩
  (try with_reducible replace H := bs_ H)
  rw [← hy78] at H
  have Ny78 := am hy78
  clear hy78
  revert H
  refine ok3 fun t75 t93 t94 A26 H => ?_
  (try dsimp only at H)
  simp only [Option.some.injEq, Prod.mk.injEq] at H
  obtain ⟨rfl, rfl, rfl, rfl, rfl, rfl, rfl, rfl, rfl⟩ := H
  go_wp2_with (first | ((with_reducible refine gate_dst (N := 18) rfl ?_); refine rl Kd.string 9 18 ([(⟨#[]⟩ : ByteArray), (⟨#[120]⟩ : ByteArray), (⟨#[47, 32]⟩ : ByteArray)] : List ByteArray) [.string (⟨#[]⟩ : ByteArray), .string (⟨#[120]⟩ : ByteArray), .string (⟨#[47, 32]⟩ : ByteArray)] ?_; intro v709 w27 ho28 hb; (first | rw [← Ny78.out] at ho28 | (simp only [Int.reduceToNat] at ho28; rw [← Ny78.out] at ho28)); replace HO43 := kr HO43 hb; have HO82 := am (Kd.R_lower (Kd.R_new' (Kd.R_new' ho28 (Kd.R_lt (ro HO35))) (Kd.R_lt (ro HO40))) (keep_size (w := w) (g := g) (row := none) u61HK)); replace HO35 := am (Kd.R_elder' (ro HO35) (Kd.R_base ho28) hb); replace HO40 := am (Kd.R_elder' (ro HO40) (Kd.R_base ho28) hb); replace BK12 := kb BK12 hb; replace BK22 := kb BK22 hb; replace HK := am (KeepBut.trans u61HK (KeepBut.of_below hb g none) (.inl rfl)); replace HB := am (below_step u61HB hb); replace HI0 := am (IsS139.below u61HI0 hb); clear hb ho28; obtain ⟨Ao29, co29, eo29⟩ := Kd.R_slice HO82.out; subst eo29) | ((with_reducible refine gw ?_); first | (refine gl 19 Tryz.func84 #[.pointer (some ⟨g, 0, none⟩), .slice Ao29 y78.length co29] ?_; refine (spec_l1Pick.calls g s0_0 t70 t71 _ _ y78 t75 t93 t94 w0 _ u61HI0 u61HB (rc HO82) ((Kd.R_reads' HO82.out).2.1) (far_slice (IsS139.own_ne HI0.out HO82.out (by decide))) A26.out).mono ?_; rintro e w30 ⟨rfl, hi, hb, hk⟩; refine ⟨_, rfl, ?_⟩; replace BK12 := kp BK12 hk NB12_0; replace HO35 := am (Kd.R_mono (Kd.R_keep (IsS139.apart (show IsS139 w0 _ g s0_0 t70 t71 from u61HI0) (ro HO35) (by decide)) hk (fun _ h => h.2)) (fun _ h => h.1)); replace HO40 := am (Kd.R_mono (Kd.R_keep (IsS139.apart (show IsS139 w0 _ g s0_0 t70 t71 from u61HI0) (ro HO40) (by decide)) hk (fun _ h => h.2)) (fun _ h => h.1)); replace HO43 := am (Kd.R_mono (Kd.R_keep (IsS139.apart (show IsS139 w0 _ g s0_0 t70 t71 from u61HI0) (ro HO43) (by decide)) hk (fun _ h => h.2)) (fun _ h => h.1)); replace BK22 := kp BK22 hk NB22_0; replace HO82 := am (Kd.R_mono (Kd.R_keep (IsS139.apart (show IsS139 w0 _ g s0_0 t70 t71 from u61HI0) (ro HO82) (by decide)) hk (fun _ h => h.2)) (fun _ h => h.1)); replace HK := am (KeepBut.trans u61HK hk (.inl rfl)); replace HB := am (hb); replace HI0 := am (hi); clear hb hk hi; have hnb31 := NB22_12.out; have hnc31 := NB12_22.out; have hnb32 := NB22_0.out; have hnc32 := NB0_22.out; obtain ⟨_, _, _, _, _, _, _, _, _, _, _, _, _, _⟩ := cl7 BK22; have hnb34 := NB12_0.out; have hnc34 := NB0_12.out; obtain ⟨_, _, _, _, _, _, _, _, _, _, _, _, _, _⟩ := cl7 BK12)))
  refine bodyPost_ret (results_cell_row rfl _ _ gb12 31 #[.string t75, .slice Ao13 t45.length co13, .slice Ao14 t50.length co14, .int .i64 t53, .slice Ao15 t55.length co15, .string t67, .int .i64 t69] (0, 0) _ rfl (pt1 BK12 NB12_22) Tryz.underlying31 rfl (by kernel_rfl)) rfl ?_
  exact ⟨_, _, _, rf, rj (Kd.R_types (Kd.R_types HO35.out BK22.out (by decide)) BK12.out (by decide)) (fun _ hk => hk.1.1.1), rj (Kd.R_types (Kd.R_types HO40.out BK22.out (by decide)) BK12.out (by decide)) (fun _ hk => hk.1.1.1), rj (Kd.R_types (Kd.R_types HO43.out BK22.out (by decide)) BK12.out (by decide)) (fun _ hk => trivial), u61HI0, u61HB, u61HK⟩
 rw [if_neg c25] at H
 have c25b0 := eqf c25
 have c25b1 := net c25
 by_cases c36 : t33 = 2
 ·rw [if_pos c36] at H
  have c36b0 := eqt c36
  have c36b1 := nef c36
  clear c36
  revert H
  refine ifn fun c37 H => ?_
  have LMc37 := am c37
  clear c37
  obtain ⟨y76, hy76⟩ : ∃ y_ : List ByteArray, y_ = (t50 ++ [(⟨#[118]⟩ : ByteArray)]) := ⟨_, rfl⟩
  replace H : (some (t24, t45, y76, t53, t55, t67, t69, t70, t71)) = some (r1, r2, r3, r4, r5, r6, r7, r8, r9) := by first | (rw [hy76]; with_reducible exact H) | (have H2_ := (Option.bind_some _ _).symm.trans H; rw [hy76]; with_reducible exact H2_) | (have H2_ := (Option.bind_some _ _).symm.trans H; with_reducible exact H2_) | with_reducible exact H | (rw [hy76]; exact H) | exact H
  have Ny76 := am hy76
  clear hy76
  simp only [Option.some.injEq, Prod.mk.injEq] at H
  obtain ⟨rfl, rfl, rfl, rfl, rfl, rfl, rfl, rfl, rfl⟩ := H
  have hnb38 := NB22_12.out
  have hnc38 := NB12_22.out
  have hnb39 := NB22_0.out
  have hnc39 := NB0_22.out
  obtain ⟨_, _, _, _, _, _, _, _, _, _, _, _, _, _⟩ := cl7 BK22
  go_wp2_with (first | ((with_reducible refine gate_builtin (b := .append) (xs := #[.tmp 24, .tmp 25]) rfl ?_); at_builtin; refine Kd.R_append Kd.string w.heap.size rfl (.tmp 24) (.tmp 25) 26 9 (.string ⟨#[]⟩) 16 rfl Tryz.underlying26 info9 rfl (by decide) (by omega) (.slice Ao14 t50.length co14) t50 (⟨#[118]⟩ : ByteArray) [.string (⟨#[118]⟩ : ByteArray)] (fun k_ => some k_ ≠ (.slice Ao13 t45.length co13 : Value).ownBlock) (fun _ => False) rfl rfl ?aP (fun _ hk => hk.elim) ?aF ?aO (Below.refl _ _) ?aS ?aL ?_; (case aP => exact rfl); (case aF => exact (fun k_ hk => Kd.fresh' (Kd.R_lt (ro HO35)) k_ hk)); (case aO => exact (ro HO40)); (case aS => exact (keep_size (w := w) (g := g) (row := none) u61HK)); (case aL => have := LMc37.out; omega); intro v715 w41 ho hb hg hat; rw [← Ny76.out] at ho; have n0_ := am (IsS139.grown u61HI0 hg (IsS139.own_ne HI0.out HO40.out (by decide))); have n1_ := am (blk_grown (g := gb12) (o := .cells #[.string (⟨#[]⟩ : ByteArray), .slice none 0 0, .slice none 0 0, .int .i64 0, .slice none 0 0, .string (⟨#[]⟩ : ByteArray), .int .i64 0] 31 (0, 0)) (bk BK12) hg (Kd.R_ne HO40.out BK12.out (by decide))); have n2_ := am (Kd.R_after (ok := (fun _ => True)) (rm HO35 (fun _ hk => ⟨trivial, hk⟩)) hg hat); have n3_ := am (Kd.R_over' (ro HO43) (Kd.R_typed (ro HO40)) (by decide) hg); have n4_ := am (blk_grown (g := gb22) (o := .cells #[.string t24, .slice Ao13 t45.length co13, .slice Ao14 t50.length co14, .int .i64 t53, .slice Ao15 t55.length co15, .string t67, .int .i64 t69] 31 (0, 0)) (bk BK22) hg (Kd.R_ne HO40.out BK22.out (by decide))); have n5_ := am (below_weaken u61HB HL.out hb); have n6_ := am (KeepBut.trans u61HK (KeepBut.of_grown hg g) (Kd.R_base2 HO40.out)); have n7_ := am (ho); clear HI0; clear BK12; clear HO35; clear HO43; clear BK22; clear HB; clear HK; clear HO40; have HI0 := n0_; have BK12 := n1_; have HO35 := n2_; have HO43 := n3_; have BK22 := n4_; have HB := n5_; have HK := n6_; have HO86 := n7_; clear n0_ n1_ n2_ n3_ n4_ n5_ n6_ n7_; clear ho hb hg hat; obtain ⟨Ao42, co42, eo42⟩ := Kd.R_slice HO86.out; subst eo42; obtain ⟨_, _, _, _, _, _, _, _, _, _, _, _, _, _⟩ := cl7 BK22; have hnb44 := NB12_0.out; have hnc44 := NB0_12.out; obtain ⟨_, _, _, _, _, _, _, _, _, _, _, _, _, _⟩ := cl7 BK12))
  refine bodyPost_ret (results_cell_row rfl _ _ gb12 31 #[.string t24, .slice Ao13 t45.length co13, .slice Ao42 y76.length co42, .int .i64 t53, .slice Ao15 t55.length co15, .string t67, .int .i64 t69] (0, 0) _ rfl (pt1 BK12 NB12_22) Tryz.underlying31 rfl (by kernel_rfl)) rfl ?_
  exact ⟨_, _, _, rf, rj (Kd.R_types (Kd.R_types HO35.out BK22.out (by decide)) BK12.out (by decide)) (fun _ hk => hk.1.1.2), rj (Kd.R_types (Kd.R_types HO86.out BK22.out (by decide)) BK12.out (by decide)) (fun _ hk => hk.1.1), rj (Kd.R_types (Kd.R_types HO43.out BK22.out (by decide)) BK12.out (by decide)) (fun _ hk => trivial), u61HI0, u61HB, u61HK⟩
 rw [if_neg c36] at H
 have c36b0 := eqf c36
 have c36b1 := net c36
 by_cases c46 : t33 = 3
 rotate_left
 ·rw [if_neg c46] at H
  have c46b0 := eqf c46
  have c46b1 := net c46
  by_cases c56 : t33 = 4
  rotate_left
  ·rw [if_neg c56] at H
   have c56b0 := eqf c56
   have c56b1 := net c56
   simp only [Option.some.injEq, Prod.mk.injEq] at H
   obtain ⟨rfl, rfl, rfl, rfl, rfl, rfl, rfl, rfl, rfl⟩ := H
   have hnb65 := NB22_12.out
   have hnc65 := NB12_22.out
   have hnb66 := NB22_0.out
   have hnc66 := NB0_22.out
   obtain ⟨_, _, _, _, _, _, _, _, _, _, _, _, _, _⟩ := cl7 BK22
   have hnb68 := NB12_0.out
   have hnc68 := NB0_12.out
   obtain ⟨_, _, _, _, _, _, _, _, _, _, _, _, _, _⟩ := cl7 BK12
   go_wp2
   refine bodyPost_ret (results_cell_row rfl _ _ gb12 31 #[.string t24, .slice Ao13 t45.length co13, .slice Ao14 t50.length co14, .int .i64 t53, .slice Ao15 t55.length co15, .string t67, .int .i64 t69] (0, 0) _ rfl (pt0 BK12) Tryz.underlying31 rfl (by kernel_rfl)) rfl ?_
   exact ⟨_, _, _, rf, rj (Kd.R_types HO35.out BK12.out (by decide)) (fun _ hk => hk.1), rj (Kd.R_types HO40.out BK12.out (by decide)) (fun _ hk => hk.1), rj (Kd.R_types HO43.out BK12.out (by decide)) (fun _ hk => trivial), u61HI0, u61HB, u61HK⟩
  rw [if_pos c56] at H
  have c56b0 := eqt c56
  have c56b1 := nef c56
  clear c56
  revert H
  refine ok5 fun t72 t87 t88 t95 t97 A57 H => ?_
  (try dsimp only at H)
  simp only [Option.some.injEq, Prod.mk.injEq] at H
  obtain ⟨rfl, rfl, rfl, rfl, rfl, rfl, rfl, rfl, rfl⟩ := H
  go_wp2_with ((with_reducible refine gw ?_); first | (refine gl 38 Tryz.func96 #[.pointer (some ⟨g, 0, none⟩)] ?_; refine (spec_l3DrawBadResp.calls k g s0_0 t70 t71 t72 t87 t88 t95 t97 w0 _ u61HI0 u61HB A57.out).mono ?_; rintro e w58 ⟨v722, rfl, ho0, hi, hb, hk⟩; refine ⟨_, rfl, ?_⟩; replace BK12 := kp BK12 hk NB12_0; replace HO35 := am (Kd.R_mono (Kd.R_keep (IsS139.apart (show IsS139 w0 _ g s0_0 t70 t71 from u61HI0) (ro HO35) (by decide)) hk (fun _ h => h.2)) (fun _ h => h.1)); replace HO40 := am (Kd.R_mono (Kd.R_keep (IsS139.apart (show IsS139 w0 _ g s0_0 t70 t71 from u61HI0) (ro HO40) (by decide)) hk (fun _ h => h.2)) (fun _ h => h.1)); replace BK22 := kp BK22 hk NB22_0; have HO89 := am (Kd.R_lower (Kd.R_new' ho0 (Kd.R_lt (ro HO43))) (keep_size (w := w) (g := g) (row := none) u61HK)); replace HO43 := am (Kd.R_mono (Kd.R_told (Kd.R_oldK (IsS139.apart (show IsS139 w0 _ g s0_0 t70 t71 from u61HI0) (ro HO43) (by decide)) hk) (Kd.R_base ho0)) (fun _ h_ => h_.1)); replace HK := am (KeepBut.trans u61HK hk (.inl rfl)); replace HB := am (hb); replace HI0 := am (hi); clear hb hk hi ho0; have hnb59 := NB22_12.out; have hnc59 := NB12_22.out; have hnb60 := NB22_0.out; have hnc60 := NB0_22.out; obtain ⟨_, _, _, _, _, _, _, _, _, _, _, _, _, _⟩ := cl7 BK22; obtain ⟨Ao62, co62, eo62⟩ := Kd.R_slice HO89.out; subst eo62; have hnb63 := NB12_0.out; have hnc63 := NB0_12.out; obtain ⟨_, _, _, _, _, _, _, _, _, _, _, _, _, _⟩ := cl7 BK12))
  refine bodyPost_ret (results_cell_row rfl _ _ gb12 31 #[.string t24, .slice Ao13 t45.length co13, .slice Ao14 t50.length co14, .int .i64 t72, .slice Ao62 t87.length co62, .string t88, .int .i64 t69] (0, 0) _ rfl (pt1 BK12 NB12_22) Tryz.underlying31 rfl (by kernel_rfl)) rfl ?_
  exact ⟨_, _, _, rf, rj (Kd.R_types (Kd.R_types HO35.out BK22.out (by decide)) BK12.out (by decide)) (fun _ hk => hk.1.1), rj (Kd.R_types (Kd.R_types HO40.out BK22.out (by decide)) BK12.out (by decide)) (fun _ hk => hk.1.1), rj (Kd.R_types (Kd.R_types HO89.out BK22.out (by decide)) BK12.out (by decide)) (fun _ hk => trivial), u61HI0, u61HB, u61HK⟩
 rw [if_pos c46] at H
 have c46b0 := eqt c46
 have c46b1 := nef c46
 clear c46
 revert H
 refine ifn fun c47 H => ?_
 have LMc47 := am c47
 clear c47
 obtain ⟨y77, hy77⟩ : ∃ y_ : List ByteArray, y_ = (t45 ++ [(⟨#[108, 97, 110, 103]⟩ : ByteArray)]) := ⟨_, rfl⟩
 replace H : (some (t24, y77, t50, t53, t55, t67, t69, t70, t71)) = some (r1, r2, r3, r4, r5, r6, r7, r8, r9) := by first | (rw [hy77]; with_reducible exact H) | (have H2_ := (Option.bind_some _ _).symm.trans H; rw [hy77]; with_reducible exact H2_) | (have H2_ := (Option.bind_some _ _).symm.trans H; with_reducible exact H2_) | with_reducible exact H | (rw [hy77]; exact H) | exact H
 have Ny77 := am hy77
 clear hy77
 simp only [Option.some.injEq, Prod.mk.injEq] at H
 obtain ⟨rfl, rfl, rfl, rfl, rfl, rfl, rfl, rfl, rfl⟩ := H
 have hnb48 := NB22_12.out
 have hnc48 := NB12_22.out
 have hnb49 := NB22_0.out
 have hnc49 := NB0_22.out
 obtain ⟨_, _, _, _, _, _, _, _, _, _, _, _, _, _⟩ := cl7 BK22
 go_wp2_with (first | ((with_reducible refine gate_builtin (b := .append) (xs := #[.tmp 31, .tmp 32]) rfl ?_); at_builtin; refine Kd.R_append Kd.string w.heap.size rfl (.tmp 31) (.tmp 32) 26 9 (.string ⟨#[]⟩) 16 rfl Tryz.underlying26 info9 rfl (by decide) (by omega) (.slice Ao13 t45.length co13) t45 (⟨#[108, 97, 110, 103]⟩ : ByteArray) [.string (⟨#[108, 97, 110, 103]⟩ : ByteArray)] (fun k_ => some k_ ≠ (.slice Ao14 t50.length co14 : Value).ownBlock) (fun _ => False) rfl rfl ?aP (fun _ hk => hk.elim) ?aF ?aO (Below.refl _ _) ?aS ?aL ?_; (case aP => exact rfl); (case aF => exact (fun k_ hk => Kd.fresh' (Kd.R_lt (ro HO40)) k_ hk)); (case aO => exact (ro HO35)); (case aS => exact (keep_size (w := w) (g := g) (row := none) u61HK)); (case aL => have := LMc47.out; omega); intro v718 w51 ho hb hg hat; rw [← Ny77.out] at ho; have n0_ := am (IsS139.grown u61HI0 hg (IsS139.own_ne HI0.out HO35.out (by decide))); have n1_ := am (blk_grown (g := gb12) (o := .cells #[.string (⟨#[]⟩ : ByteArray), .slice none 0 0, .slice none 0 0, .int .i64 0, .slice none 0 0, .string (⟨#[]⟩ : ByteArray), .int .i64 0] 31 (0, 0)) (bk BK12) hg (Kd.R_ne HO35.out BK12.out (by decide))); have n2_ := am (Kd.R_after (ok := (fun _ => True)) (rm HO40 (fun _ hk => ⟨trivial, hk⟩)) hg hat); have n3_ := am (Kd.R_over' (ro HO43) (Kd.R_typed (ro HO35)) (by decide) hg); have n4_ := am (blk_grown (g := gb22) (o := .cells #[.string t24, .slice Ao13 t45.length co13, .slice Ao14 t50.length co14, .int .i64 t53, .slice Ao15 t55.length co15, .string t67, .int .i64 t69] 31 (0, 0)) (bk BK22) hg (Kd.R_ne HO35.out BK22.out (by decide))); have n5_ := am (below_weaken u61HB HL.out hb); have n6_ := am (KeepBut.trans u61HK (KeepBut.of_grown hg g) (Kd.R_base2 HO35.out)); have n7_ := am (ho); clear HI0; clear BK12; clear HO40; clear HO43; clear BK22; clear HB; clear HK; clear HO35; have HI0 := n0_; have BK12 := n1_; have HO40 := n2_; have HO43 := n3_; have BK22 := n4_; have HB := n5_; have HK := n6_; have HO90 := n7_; clear n0_ n1_ n2_ n3_ n4_ n5_ n6_ n7_; clear ho hb hg hat; obtain ⟨Ao52, co52, eo52⟩ := Kd.R_slice HO90.out; subst eo52; obtain ⟨_, _, _, _, _, _, _, _, _, _, _, _, _, _⟩ := cl7 BK22; have hnb54 := NB12_0.out; have hnc54 := NB0_12.out; obtain ⟨_, _, _, _, _, _, _, _, _, _, _, _, _, _⟩ := cl7 BK12))
 refine bodyPost_ret (results_cell_row rfl _ _ gb12 31 #[.string t24, .slice Ao52 y77.length co52, .slice Ao14 t50.length co14, .int .i64 t53, .slice Ao15 t55.length co15, .string t67, .int .i64 t69] (0, 0) _ rfl (pt1 BK12 NB12_22) Tryz.underlying31 rfl (by kernel_rfl)) rfl ?_
 exact ⟨_, _, _, rf, rj (Kd.R_types (Kd.R_types HO90.out BK22.out (by decide)) BK12.out (by decide)) (fun _ hk => hk.1.1), rj (Kd.R_types (Kd.R_types HO40.out BK22.out (by decide)) BK12.out (by decide)) (fun _ hk => hk.1.1.2), rj (Kd.R_types (Kd.R_types HO43.out BK22.out (by decide)) BK12.out (by decide)) (fun _ hk => trivial), u61HI0, u61HB, u61HK⟩
end Go.Proofs.YtjlpjbkpmmpojaaGreatDoor.All
