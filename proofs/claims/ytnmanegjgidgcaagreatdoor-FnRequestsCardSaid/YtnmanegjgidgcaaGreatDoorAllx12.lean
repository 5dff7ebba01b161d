-- Written by a program of this session (wip/tools/hprint.py) out of the translation. Lean checks it.
import Derived.Test.YtnmanegjgidgcaaGreatDoorAllx0
import Derived.Test.YtnmanegjgidgcaaGreatDoorAllx6
import Derived.Test.YtnmanegjgidgcaaGreatDoorAllx8
import Derived.Test.YtnmanegjgidgcaaGreatDoorAllx9
namespace Go.Proofs.YtnmanegjgidgcaaGreatDoor.All
open Go.RowKit Go.Proofs.YtnmanegjgidgcaaGreatDoorW.PrintWords Go.Proofs.YtnmanegjgidgcaaGreatDoorW.PrintLast Go.Proofs.YtnmanegjgidgcaaGreatDoorW.PrintMore
attribute [local go_sem] max2_int min2_int max_two min_two max_three min_three max_four min_four   -- for this text's walks alone
set_option linter.unusedVariables false
set_option linter.unusedSimpArgs false

/-! ### spec_l3DrawBadReq: function 75 -/
theorem u75HI0 {p : Prop} (h : p := by repeat (first | (with_reducible first | exact HI0.out | apply IsS122.alloc | apply IsS122.drewN | apply IsS122.drew | apply IsS122.set_1 | apply IsS122.set_2 | apply IsS122.far (p := ⟨gb589, _, none⟩) (hne := NB0_589.out) | apply IsS122.far (p := ⟨gb598, _, none⟩) (hne := NB0_598.out)) | exact HI0.out)) : p := h
theorem u75HK {p : Prop} (h : p := by repeat (first | (with_reducible first | exact HK.out | apply KeepBut.set_ | apply keep_drewN | apply keep_drew | apply keep_alloc | refine keep_far ?_ GW589.out _ | refine keep_far ?_ GW598.out _) | exact HK.out)) : p := h
theorem u75HB {p : Prop} (h : p := by repeat (first | (with_reducible first | exact HB.out | apply below_alloc | apply pw_below_drewN | apply below_drew1 | refine below_set ?_ (IsS122.ge HI0.out) | refine below_set ?_ GE589.out | refine below_set ?_ GE598.out) | exact HB.out)) : p := h
def spec_l3DrawBadReq.l0 : Nat → List Int → Int → Int → Int → ByteArray → List (S100) → ByteArray → Option (Int × ByteArray × (List (S100)) × ByteArray × Int × Int)
 | 0, _, _, _, _, _, _, _ => none
 | k + 1, x1000, x1001, x1002, x599000, x599001, x599002, x599003 => (spec_l1Below.f x1000 x1001 x1002 2).bind fun bt616 => (if (x599003.size : Int) < (wrap64 (120 + bt616.1)) then (if x599003.size + 1 ≤ 9223372036854775807 then (spec_l3DrawBadReq.l0 k x1000 bt616.2.1 bt616.2.2 x599000 x599001 x599002 (x599003 ++ (⟨#[98]⟩ : ByteArray))) else (none)) else (some (x599000, x599001, x599002, x599003, bt616.2.1, bt616.2.2)))
def spec_l3DrawBadReq.f (k : Nat) (s0_0 : List Int) (s0_1 : Int) (s0_2 : Int) : Option (Int × ByteArray × (List (S100)) × ByteArray × Int × Int) := (spec_l3DrawReq.f k s0_0 s0_1 s0_2).bind fun bt590 => ((spec_l1Below.f s0_0 bt590.2.2.2.2.1 bt590.2.2.2.2.2 20).bind fun bt599 => (if bt599.1 = 0 then ((spec_l1Below.f s0_0 bt599.2.1 bt599.2.2 7).bind fun bt602 => (some (wrap64 (bt602.1 - 1), bt590.2.1, bt590.2.2.1, bt590.2.2.2.1, bt602.2.1, bt602.2.2))) else (if bt599.1 = 1 then ((spec_l1Pick.f s0_0 bt599.2.1 bt599.2.2 (([(⟨#[]⟩ : ByteArray), (⟨#[97]⟩ : ByteArray), (⟨#[47, 32, 98]⟩ : ByteArray), (⟨#[47, 127]⟩ : ByteArray), (⟨#[47, 48, 49, 50, 51, 52, 53, 54, 55, 56, 57, 48, 49, 50, 51, 52, 53, 54, 55, 56, 57, 48, 49, 50, 51, 52, 53, 54, 55, 56, 57, 48, 49, 50, 51, 52, 53, 54, 55, 56, 57, 48, 49, 50, 51, 52, 53, 54, 55, 56, 57, 48, 49, 50, 51, 52, 53, 54, 55, 56, 57]⟩ : ByteArray)] : List ByteArray))).bind fun bt608 => (some (bt590.1, bt608.1, bt590.2.2.1, bt590.2.2.2.1, bt608.2.1, bt608.2.2))) else (if bt599.1 = 2 then ((spec_l2Draw.f k s0_0 bt599.2.1 bt599.2.2).bind fun bt611 => (some (bt590.1, bt590.2.1, bt611.1, bt590.2.2.2.1, bt611.2.1, bt611.2.2))) else (if bt599.1 = 3 then (spec_l3DrawBadReq.l0 k s0_0 bt599.2.1 bt599.2.2 bt590.1 bt590.2.1 bt590.2.2.1 bt590.2.2.2.1) else (some (bt590.1, bt590.2.1, bt590.2.2.1, bt590.2.2.2.1, bt599.2.1, bt599.2.2)))))))
theorem spec_l3DrawBadReq.mono_l : ∀ k, (∀ y0 y1 y2 y3 y4 y5 y6, LeO (spec_l3DrawBadReq.l0 k y0 y1 y2 y3 y4 y5 y6) (spec_l3DrawBadReq.l0 (k + 1) y0 y1 y2 y3 y4 y5 y6))
 | 0 => fun _ _ _ _ _ _ _ r h => by simp [spec_l3DrawBadReq.l0] at h
 | k + 1 => by
  have ih0 := spec_l3DrawBadReq.mono_l k
  ·intro y0 y1 y2 y3 y4 y5 y6
   unfold spec_l3DrawBadReq.l0
   have m0 := @spec_l2Draw.mono
   have m1 := @spec_l3DrawReq.mono
   exact mo
theorem spec_l3DrawBadReq.mono : ∀ a0 a1 a2 k, LeO (spec_l3DrawBadReq.f k a0 a1 a2) (spec_l3DrawBadReq.f (k + 1) a0 a1 a2) := by
 intro a0 a1 a2 k
 have ih0 := spec_l3DrawBadReq.mono_l k
 unfold spec_l3DrawBadReq.f
 have m0 := @spec_l2Draw.mono
 have m1 := @spec_l3DrawReq.mono
 exact mo
set_option maxHeartbeats 8000000 in
set_option maxRecDepth 100000 in
theorem spec_l3DrawBadReq.calls (k : Nat) (g : Nat) (s0_0 : List Int) (s0_1 : Int) (s0_2 : Int) (r1 : Int) (r2 : ByteArray) (r3 : List (S100)) (r4 : ByteArray) (r5 : Int) (r6 : Int) (w0 w : World) (hI : IsS122 w0 w g s0_0 s0_1 s0_2) (hB : Below w0.heap.size w0 w) (h : spec_l3DrawBadReq.f k s0_0 s0_1 s0_2 = some (r1, r2, r3, r4, r5, r6)) :
  Calls Tryz.prog 75 #[.pointer (some ⟨g, 0, none⟩)] w fun e w' => ∃ v2_ : Value, e = .returned (.agg #[.int .i64 r1, .string r2, v2_, .string r4]) ∧ Kd.R k100 100 w' w.heap.size (fun _ => True) v2_ r3 ∧ IsS122 w0 w' g s0_0 r5 r6 ∧ Below w0.heap.size w0 w' ∧ KeepBut w w' g none := by
 have hu40 := Tryz.underlying40
 have HI0 := am hI
 have HK := am (KeepBut.refl w g none)
 have HL := am hB.size
 clear hI
 have HW0 := am hB.size
 have HB := am hB
 clear hB
 unfold spec_l3DrawBadReq.f at h
 have H := h
 clear h
 revert H
 refine ok6 fun t590 t591 t592 t595 t596 t597 A2 H => ?_
 (try dsimp only at H)
 revert H
 refine ok3 fun t599 t600 t601 A3 H => ?_
 (try dsimp only at H)
 by_cases c4 : t599 = 0
 ·rw [if_pos c4] at H
  have c4b0 : (t599 == 0) = true := beq_iff_eq.mpr c4
  have c4b1 : (t599 != 0) = false := bne_eq_false_iff_eq.mpr c4
  clear c4
  revert H
  refine ok3 fun t602 t603 t604 A5 H => ?_
  (try dsimp only at H)
  simp only [Option.some.injEq, Prod.mk.injEq] at H
  obtain ⟨rfl, rfl, rfl, rfl, rfl, rfl⟩ := H
  go_enter Tryz.func75, Tryz.ntmps75
  go_wp2_with (first | (refine bx 2 #[.int .i64 0, .string (⟨#[]⟩ : ByteArray), .slice none 0 0, .string (⟨#[]⟩ : ByteArray)] 40 ?_; intro gb589 hg w6 hbox hb; have n0_ := am (IsS122.below u75HI0 hb); have n1_ := am (KeepBut.trans u75HK (KeepBut.of_below hb g none) (.inl rfl)); have n2_ := am (below_step u75HB hb); have n3_ := am (hbox); have n4_ := am ((by rw [hg]; exact (keep_size (w := w) (g := g) (row := none) u75HK) : w.heap.size ≤ gb589)); have n5_ := am ((Nat.le_trans HW0.out (by rw [hg]; exact (keep_size (w := w) (g := g) (row := none) u75HK) : w.heap.size ≤ gb589) : w0.heap.size ≤ gb589)); have n6_ := am ((by rw [hg]; exact Nat.ne_of_lt (IsS122.lt (show IsS122 w0 _ g s0_0 s0_1 s0_2 from u75HI0)) : g ≠ gb589)); have n7_ := am ((by rw [hg]; exact Nat.ne_of_gt (IsS122.lt (show IsS122 w0 _ g s0_0 s0_1 s0_2 from u75HI0)) : gb589 ≠ g)); clear HI0; clear HK; clear HB; have HI0 := n0_; have HK := n1_; have HB := n2_; have BK589 := n3_; have GW589 := n4_; have GE589 := n5_; have NB0_589 := n6_; have NB589_0 := n7_; clear n0_ n1_ n2_ n3_ n4_ n5_ n6_ n7_; clear hb hbox hg) | (refine gl 5 Tryz.func63 #[.pointer (some ⟨g, 0, none⟩)] ?_; (with_reducible refine (spec_l3DrawReq.calls k g s0_0 s0_1 s0_2 t590 t591 t592 t595 t596 t597 w0 _ ?side1 ?side2 A2.out).mono ?_); (case side1 => exact u75HI0); (case side2 => exact u75HB); rintro e w7 ⟨v593, rfl, ho0, hi, hb, hk⟩; refine ⟨_, rfl, ?_⟩; replace BK589 := kp BK589 hk NB589_0; have HO594 := am (Kd.R_lower ho0 (keep_size (w := w) (g := g) (row := none) u75HK)); replace HK := am (KeepBut.trans u75HK hk (.inl rfl)); replace HB := am (hb); replace HI0 := am (hi); clear hb hk hi ho0) | (refine bx 3 #[.int .i64 0, .string (⟨#[]⟩ : ByteArray), .slice none 0 0, .string (⟨#[]⟩ : ByteArray)] 40 ?_; intro gb598 hg w8 hbox hb; have n0_ := am (Kd.R_below (ro HO594) hb); have n1_ := am (IsS122.below u75HI0 hb); have n2_ := kb BK589 hb; have n3_ := am (KeepBut.trans u75HK (KeepBut.of_below hb g none) (.inl rfl)); have n4_ := am (below_step u75HB hb); have n5_ := am (hbox); have n6_ := am ((by rw [hg]; exact (keep_size (w := w) (g := g) (row := none) u75HK) : w.heap.size ≤ gb598)); have n7_ := am ((Nat.le_trans HW0.out (by rw [hg]; exact (keep_size (w := w) (g := g) (row := none) u75HK) : w.heap.size ≤ gb598) : w0.heap.size ≤ gb598)); have n8_ := am (nl hg BK589 : gb589 ≠ gb598); have n9_ := am (ng hg BK589 : gb598 ≠ gb589); have n10_ := am ((by rw [hg]; exact Nat.ne_of_lt (IsS122.lt (show IsS122 w0 _ g s0_0 t596 t597 from u75HI0)) : g ≠ gb598)); have n11_ := am ((by rw [hg]; exact Nat.ne_of_gt (IsS122.lt (show IsS122 w0 _ g s0_0 t596 t597 from u75HI0)) : gb598 ≠ g)); clear HO594; clear HI0; clear BK589; clear HK; clear HB; have HO594 := n0_; have HI0 := n1_; have BK589 := n2_; have HK := n3_; have HB := n4_; have BK598 := n5_; have GW598 := n6_; have GE598 := n7_; have NB589_598 := n8_; have NB598_589 := n9_; have NB0_598 := n10_; have NB598_0 := n11_; clear n0_ n1_ n2_ n3_ n4_ n5_ n6_ n7_ n8_ n9_ n10_ n11_; clear hb hbox hg; have hnb9 := NB598_589.out; have hnc9 := NB589_598.out; have hnb10 := NB598_0.out; have hnc10 := NB0_598.out; obtain ⟨z11_0, y11_0, z11_1, y11_1, z11_2, y11_2, z11_3, y11_3⟩ := cl4 BK598; obtain ⟨Ao12, co12, eo12⟩ := Kd.R_slice HO594.out; subst eo12) | (refine gl 7 Tryz.func62 #[.pointer (some ⟨g, 0, none⟩), .int .i64 20] ?_; (with_reducible refine (spec_l1Below.calls g s0_0 t596 t597 20 t599 t600 t601 w0 _ ?side1 ?side2 A3.out).mono ?_); (case side1 => exact u75HI0); (case side2 => exact u75HB); rintro e w13 ⟨rfl, hi, hb, hk⟩; refine ⟨_, rfl, ?_⟩; have n0_ := am (KeepBut.blk hk (g' := gb589) (o := .cells #[.int .i64 0, .string (⟨#[]⟩ : ByteArray), .slice none 0 0, .string (⟨#[]⟩ : ByteArray)] 40 (0, 0)) (bg1 BK589 NB589_598) NB589_0.out (by simp)); have n1_ := am (Kd.R_mono (Kd.R_keep (IsS122.apart (show IsS122 w0 _ g s0_0 t596 t597 from u75HI0) (by (with_reducible repeat (first | apply Kd.R_alloc | apply Kd.R_drewN | apply Kd.R_drew)); exact (Kd.R_mono (Kd.R_far (p := ⟨gb598, 3, none⟩) (Kd.R_far (p := ⟨gb598, 2, none⟩) (Kd.R_far (p := ⟨gb598, 1, none⟩) (Kd.R_far (p := ⟨gb598, 0, none⟩) (Kd.R_types HO594.out BK598.out (by decide)) (fun _ hk => hk.2) (.int .i64 t590)) (fun _ hk => hk.2) (.string t591)) (fun _ hk => hk.2) (.slice Ao12 t592.length co12)) (fun _ hk => hk.2) (.string t595)) (fun _ h_ => h_.1))) (by decide)) hk (fun _ h => h.2)) (fun _ h => h.1)); have n2_ := am (KeepBut.blk hk (g' := gb598) (o := .cells #[.int .i64 t590, .string t591, .slice Ao12 t592.length co12, .string t595] 40 (0, 0)) (pt0 BK598) NB598_0.out (by simp)); have n3_ := am (KeepBut.trans u75HK hk (.inl rfl)); have n4_ := am (hb); have n5_ := am (hi); clear BK589; clear HO594; clear BK598; clear HK; clear HB; clear HI0; have BK589 := n0_; have HO594 := n1_; have BK598 := n2_; have HK := n3_; have HB := n4_; have HI0 := n5_; clear n0_ n1_ n2_ n3_ n4_ n5_; clear hb hk hi) | (refine gl 11 Tryz.func62 #[.pointer (some ⟨g, 0, none⟩), .int .i64 7] ?_; (with_reducible refine (spec_l1Below.calls g s0_0 t600 t601 7 t602 t603 t604 w0 _ ?side1 ?side2 A5.out).mono ?_); (case side1 => exact u75HI0); (case side2 => exact u75HB); rintro e w14 ⟨rfl, hi, hb, hk⟩; refine ⟨_, rfl, ?_⟩; replace BK589 := kp BK589 hk NB589_0; replace HO594 := am (Kd.R_mono (Kd.R_keep (IsS122.apart (show IsS122 w0 _ g s0_0 t600 t601 from u75HI0) (ro HO594) (by decide)) hk (fun _ h => h.2)) (fun _ h => h.1)); replace BK598 := kp BK598 hk NB598_0; replace HK := am (KeepBut.trans u75HK hk (.inl rfl)); replace HB := am (hb); replace HI0 := am (hi); clear hb hk hi; obtain ⟨z15_0, y15_0, z15_1, y15_1, z15_2, y15_2, z15_3, y15_3⟩ := cl4 BK598; have hnb16 := NB589_0.out; have hnc16 := NB0_589.out; obtain ⟨z17_0, y17_0, z17_1, y17_1, z17_2, y17_2, z17_3, y17_3⟩ := cl4 BK589))
  refine bodyPost_ret (results_cell_row rfl _ _ gb589 40 #[.int .i64 (wrap64 (t602 - 1)), .string t591, .slice Ao12 t592.length co12, .string t595] (0, 0) _ rfl (pt1 BK589 NB589_598) Tryz.underlying40 rfl (by kernel_rfl)) rfl ?_
  exact ⟨_, rf, rg (Kd.R_types (Kd.R_types HO594.out BK598.out (by decide)) BK589.out (by decide)), u75HI0, u75HB, u75HK⟩
 rw [if_neg c4] at H
 have c4b0 : (t599 == 0) = false := beq_eq_false_iff_ne.mpr c4
 have c4b1 : (t599 != 0) = true := bne_iff_ne.mpr c4
 by_cases c18 : t599 = 1
 ·rw [if_pos c18] at H
  have c18b0 : (t599 == 1) = true := beq_iff_eq.mpr c18
  have c18b1 : (t599 != 1) = false := bne_eq_false_iff_eq.mpr c18
  clear c18
  obtain ⟨y605, hy605⟩ : ∃ y_ : List ByteArray, y_ = (([(⟨#[]⟩ : ByteArray), (⟨#[97]⟩ : ByteArray), (⟨#[47, 32, 98]⟩ : ByteArray), (⟨#[47, 127]⟩ : ByteArray), (⟨#[47, 48, 49, 50, 51, 52, 53, 54, 55, 56, 57, 48, 49, 50, 51, 52, 53, 54, 55, 56, 57, 48, 49, 50, 51, 52, 53, 54, 55, 56, 57, 48, 49, 50, 51, 52, 53, 54, 55, 56, 57, 48, 49, 50, 51, 52, 53, 54, 55, 56, 57, 48, 49, 50, 51, 52, 53, 54, 55, 56, 57]⟩ : ByteArray)] : List ByteArray)) := ⟨_, rfl⟩
  replace H : ((spec_l1Pick.f s0_0 t600 t601 y605).bind fun bt608 => (some (t590, bt608.1, t592, t595, bt608.2.1, bt608.2.2))) = some (r1, r2, r3, r4, r5, r6) := by first | (rw [hy605]; with_reducible exact H) | (have H2_ := (Option.bind_some _ _).symm.trans H; rw [hy605]; with_reducible exact H2_) | (have H2_ := (Option.bind_some _ _).symm.trans H; with_reducible exact H2_) | with_reducible exact H | (rw [hy605]; exact H) | exact H
  have Ny605 := am hy605
  clear hy605
  revert H
  refine ok3 fun t608 t609 t610 A19 H => ?_
  (try dsimp only at H)
  simp only [Option.some.injEq, Prod.mk.injEq] at H
  obtain ⟨rfl, rfl, rfl, rfl, rfl, rfl⟩ := H
  go_enter Tryz.func75, Tryz.ntmps75
  go_wp2_with (first | (refine bx 2 #[.int .i64 0, .string (⟨#[]⟩ : ByteArray), .slice none 0 0, .string (⟨#[]⟩ : ByteArray)] 40 ?_; intro gb589 hg w20 hbox hb; have n0_ := am (IsS122.below u75HI0 hb); have n1_ := am (KeepBut.trans u75HK (KeepBut.of_below hb g none) (.inl rfl)); have n2_ := am (below_step u75HB hb); have n3_ := am (hbox); have n4_ := am ((by rw [hg]; exact (keep_size (w := w) (g := g) (row := none) u75HK) : w.heap.size ≤ gb589)); have n5_ := am ((Nat.le_trans HW0.out (by rw [hg]; exact (keep_size (w := w) (g := g) (row := none) u75HK) : w.heap.size ≤ gb589) : w0.heap.size ≤ gb589)); have n6_ := am ((by rw [hg]; exact Nat.ne_of_lt (IsS122.lt (show IsS122 w0 _ g s0_0 s0_1 s0_2 from u75HI0)) : g ≠ gb589)); have n7_ := am ((by rw [hg]; exact Nat.ne_of_gt (IsS122.lt (show IsS122 w0 _ g s0_0 s0_1 s0_2 from u75HI0)) : gb589 ≠ g)); clear HI0; clear HK; clear HB; have HI0 := n0_; have HK := n1_; have HB := n2_; have BK589 := n3_; have GW589 := n4_; have GE589 := n5_; have NB0_589 := n6_; have NB589_0 := n7_; clear n0_ n1_ n2_ n3_ n4_ n5_ n6_ n7_; clear hb hbox hg) | (refine gl 5 Tryz.func63 #[.pointer (some ⟨g, 0, none⟩)] ?_; (with_reducible refine (spec_l3DrawReq.calls k g s0_0 s0_1 s0_2 t590 t591 t592 t595 t596 t597 w0 _ ?side1 ?side2 A2.out).mono ?_); (case side1 => exact u75HI0); (case side2 => exact u75HB); rintro e w21 ⟨v593, rfl, ho0, hi, hb, hk⟩; refine ⟨_, rfl, ?_⟩; replace BK589 := kp BK589 hk NB589_0; have HO594 := am (Kd.R_lower ho0 (keep_size (w := w) (g := g) (row := none) u75HK)); replace HK := am (KeepBut.trans u75HK hk (.inl rfl)); replace HB := am (hb); replace HI0 := am (hi); clear hb hk hi ho0) | (refine bx 3 #[.int .i64 0, .string (⟨#[]⟩ : ByteArray), .slice none 0 0, .string (⟨#[]⟩ : ByteArray)] 40 ?_; intro gb598 hg w22 hbox hb; have n0_ := am (Kd.R_below (ro HO594) hb); have n1_ := am (IsS122.below u75HI0 hb); have n2_ := kb BK589 hb; have n3_ := am (KeepBut.trans u75HK (KeepBut.of_below hb g none) (.inl rfl)); have n4_ := am (below_step u75HB hb); have n5_ := am (hbox); have n6_ := am ((by rw [hg]; exact (keep_size (w := w) (g := g) (row := none) u75HK) : w.heap.size ≤ gb598)); have n7_ := am ((Nat.le_trans HW0.out (by rw [hg]; exact (keep_size (w := w) (g := g) (row := none) u75HK) : w.heap.size ≤ gb598) : w0.heap.size ≤ gb598)); have n8_ := am (nl hg BK589 : gb589 ≠ gb598); have n9_ := am (ng hg BK589 : gb598 ≠ gb589); have n10_ := am ((by rw [hg]; exact Nat.ne_of_lt (IsS122.lt (show IsS122 w0 _ g s0_0 t596 t597 from u75HI0)) : g ≠ gb598)); have n11_ := am ((by rw [hg]; exact Nat.ne_of_gt (IsS122.lt (show IsS122 w0 _ g s0_0 t596 t597 from u75HI0)) : gb598 ≠ g)); clear HO594; clear HI0; clear BK589; clear HK; clear HB; have HO594 := n0_; have HI0 := n1_; have BK589 := n2_; have HK := n3_; have HB := n4_; have BK598 := n5_; have GW598 := n6_; have GE598 := n7_; have NB589_598 := n8_; have NB598_589 := n9_; have NB0_598 := n10_; have NB598_0 := n11_; clear n0_ n1_ n2_ n3_ n4_ n5_ n6_ n7_ n8_ n9_ n10_ n11_; clear hb hbox hg; have hnb23 := NB598_589.out; have hnc23 := NB589_598.out; have hnb24 := NB598_0.out; have hnc24 := NB0_598.out; obtain ⟨z25_0, y25_0, z25_1, y25_1, z25_2, y25_2, z25_3, y25_3⟩ := cl4 BK598; obtain ⟨Ao26, co26, eo26⟩ := Kd.R_slice HO594.out; subst eo26) | (refine gl 7 Tryz.func62 #[.pointer (some ⟨g, 0, none⟩), .int .i64 20] ?_; (with_reducible refine (spec_l1Below.calls g s0_0 t596 t597 20 t599 t600 t601 w0 _ ?side1 ?side2 A3.out).mono ?_); (case side1 => exact u75HI0); (case side2 => exact u75HB); rintro e w27 ⟨rfl, hi, hb, hk⟩; refine ⟨_, rfl, ?_⟩; have n0_ := am (KeepBut.blk hk (g' := gb589) (o := .cells #[.int .i64 0, .string (⟨#[]⟩ : ByteArray), .slice none 0 0, .string (⟨#[]⟩ : ByteArray)] 40 (0, 0)) (bg1 BK589 NB589_598) NB589_0.out (by simp)); have n1_ := am (Kd.R_mono (Kd.R_keep (IsS122.apart (show IsS122 w0 _ g s0_0 t596 t597 from u75HI0) (by (with_reducible repeat (first | apply Kd.R_alloc | apply Kd.R_drewN | apply Kd.R_drew)); exact (Kd.R_mono (Kd.R_far (p := ⟨gb598, 3, none⟩) (Kd.R_far (p := ⟨gb598, 2, none⟩) (Kd.R_far (p := ⟨gb598, 1, none⟩) (Kd.R_far (p := ⟨gb598, 0, none⟩) (Kd.R_types HO594.out BK598.out (by decide)) (fun _ hk => hk.2) (.int .i64 t590)) (fun _ hk => hk.2) (.string t591)) (fun _ hk => hk.2) (.slice Ao26 t592.length co26)) (fun _ hk => hk.2) (.string t595)) (fun _ h_ => h_.1))) (by decide)) hk (fun _ h => h.2)) (fun _ h => h.1)); have n2_ := am (KeepBut.blk hk (g' := gb598) (o := .cells #[.int .i64 t590, .string t591, .slice Ao26 t592.length co26, .string t595] 40 (0, 0)) (pt0 BK598) NB598_0.out (by simp)); have n3_ := am (KeepBut.trans u75HK hk (.inl rfl)); have n4_ := am (hb); have n5_ := am (hi); clear BK589; clear HO594; clear BK598; clear HK; clear HB; clear HI0; have BK589 := n0_; have HO594 := n1_; have BK598 := n2_; have HK := n3_; have HB := n4_; have HI0 := n5_; clear n0_ n1_ n2_ n3_ n4_ n5_; clear hb hk hi) | ((with_reducible refine gate_dst (N := 17) rfl ?_); refine Kd.R_lit Kd.string _ 9 ?hg (N := 17) ?hd (xs := ([(⟨#[]⟩ : ByteArray), (⟨#[97]⟩ : ByteArray), (⟨#[47, 32, 98]⟩ : ByteArray), (⟨#[47, 127]⟩ : ByteArray), (⟨#[47, 48, 49, 50, 51, 52, 53, 54, 55, 56, 57, 48, 49, 50, 51, 52, 53, 54, 55, 56, 57, 48, 49, 50, 51, 52, 53, 54, 55, 56, 57, 48, 49, 50, 51, 52, 53, 54, 55, 56, 57, 48, 49, 50, 51, 52, 53, 54, 55, 56, 57, 48, 49, 50, 51, 52, 53, 54, 55, 56, 57]⟩ : ByteArray)] : List ByteArray)) (inner := [.string (⟨#[]⟩ : ByteArray), .string (⟨#[97]⟩ : ByteArray), .string (⟨#[47, 32, 98]⟩ : ByteArray), .string (⟨#[47, 127]⟩ : ByteArray), .string (⟨#[47, 48, 49, 50, 51, 52, 53, 54, 55, 56, 57, 48, 49, 50, 51, 52, 53, 54, 55, 56, 57, 48, 49, 50, 51, 52, 53, 54, 55, 56, 57, 48, 49, 50, 51, 52, 53, 54, 55, 56, 57, 48, 49, 50, 51, 52, 53, 54, 55, 56, 57, 48, 49, 50, 51, 52, 53, 54, 55, 56, 57]⟩ : ByteArray)]) (ok := fun _ => True) (okp := fun _ => True) ?hr ?hp (fun _ hk => hk) trivial (Below.refl _ _) (Nat.le_refl _) (by simp) ?_; (case hd => rfl); (case hg => rfl); (case hr => first | (go_simp; done) | (go_simp; rfl)); (case hp => exact rp); intro v606 w28 ho29 hb hg_ hnew_; clear hg_ hnew_; (first | rw [← Ny605.out] at ho29 | (simp only [Int.reduceToNat] at ho29; rw [← Ny605.out] at ho29)); replace HO594 := kr HO594 hb; have HO607 := am (Kd.R_lower ho29 (keep_size (w := w) (g := g) (row := none) u75HK)); replace BK589 := kb BK589 hb; replace BK598 := kb BK598 hb; replace HK := am (KeepBut.trans u75HK (KeepBut.of_below hb g none) (.inl rfl)); replace HB := am (below_step u75HB hb); replace HI0 := am (IsS122.below u75HI0 hb); clear hb ho29; obtain ⟨Ao30, co30, eo30⟩ := Kd.R_slice HO607.out; subst eo30) | (refine gl 18 Tryz.func64 #[.pointer (some ⟨g, 0, none⟩), .slice Ao30 y605.length co30] ?_; (with_reducible refine (spec_l1Pick.calls g s0_0 t600 t601 _ _ y605 t608 t609 t610 w0 _ ?side1 ?side2 ?side3 ?side4 ?side5 A19.out).mono ?_); (case side1 => exact u75HI0); (case side2 => exact u75HB); (case side3 => exact rc HO607); (case side4 => exact (Kd.R_reads' HO607.out).2.1); (case side5 => exact far_slice (IsS122.own_ne HI0.out HO607.out (by decide))); rintro e w31 ⟨rfl, hi, hb, hk⟩; refine ⟨_, rfl, ?_⟩; replace BK589 := kp BK589 hk NB589_0; replace HO594 := am (Kd.R_mono (Kd.R_keep (IsS122.apart (show IsS122 w0 _ g s0_0 t600 t601 from u75HI0) (ro HO594) (by decide)) hk (fun _ h => h.2)) (fun _ h => h.1)); replace BK598 := kp BK598 hk NB598_0; replace HO607 := am (Kd.R_mono (Kd.R_keep (IsS122.apart (show IsS122 w0 _ g s0_0 t600 t601 from u75HI0) (ro HO607) (by decide)) hk (fun _ h => h.2)) (fun _ h => h.1)); replace HK := am (KeepBut.trans u75HK hk (.inl rfl)); replace HB := am (hb); replace HI0 := am (hi); clear hb hk hi; obtain ⟨z32_0, y32_0, z32_1, y32_1, z32_2, y32_2, z32_3, y32_3⟩ := cl4 BK598; have hnb33 := NB589_0.out; have hnc33 := NB0_589.out; obtain ⟨z34_0, y34_0, z34_1, y34_1, z34_2, y34_2, z34_3, y34_3⟩ := cl4 BK589))
  refine bodyPost_ret (results_cell_row rfl _ _ gb589 40 #[.int .i64 t590, .string t608, .slice Ao26 t592.length co26, .string t595] (0, 0) _ rfl (pt1 BK589 NB589_598) Tryz.underlying40 rfl (by kernel_rfl)) rfl ?_
  exact ⟨_, rf, rg (Kd.R_types (Kd.R_types HO594.out BK598.out (by decide)) BK589.out (by decide)), u75HI0, u75HB, u75HK⟩
 rw [if_neg c18] at H
 have c18b0 : (t599 == 1) = false := beq_eq_false_iff_ne.mpr c18
 have c18b1 : (t599 != 1) = true := bne_iff_ne.mpr c18
 by_cases c35 : t599 = 2
 ·rw [if_pos c35] at H
  have c35b0 : (t599 == 2) = true := beq_iff_eq.mpr c35
  have c35b1 : (t599 != 2) = false := bne_eq_false_iff_eq.mpr c35
  clear c35
  revert H
  refine ok3 fun t611 t614 t615 A36 H => ?_
  (try dsimp only at H)
  simp only [Option.some.injEq, Prod.mk.injEq] at H
  obtain ⟨rfl, rfl, rfl, rfl, rfl, rfl⟩ := H
  go_enter Tryz.func75, Tryz.ntmps75
  go_wp2_with (first | (refine bx 2 #[.int .i64 0, .string (⟨#[]⟩ : ByteArray), .slice none 0 0, .string (⟨#[]⟩ : ByteArray)] 40 ?_; intro gb589 hg w37 hbox hb; have n0_ := am (IsS122.below u75HI0 hb); have n1_ := am (KeepBut.trans u75HK (KeepBut.of_below hb g none) (.inl rfl)); have n2_ := am (below_step u75HB hb); have n3_ := am (hbox); have n4_ := am ((by rw [hg]; exact (keep_size (w := w) (g := g) (row := none) u75HK) : w.heap.size ≤ gb589)); have n5_ := am ((Nat.le_trans HW0.out (by rw [hg]; exact (keep_size (w := w) (g := g) (row := none) u75HK) : w.heap.size ≤ gb589) : w0.heap.size ≤ gb589)); have n6_ := am ((by rw [hg]; exact Nat.ne_of_lt (IsS122.lt (show IsS122 w0 _ g s0_0 s0_1 s0_2 from u75HI0)) : g ≠ gb589)); have n7_ := am ((by rw [hg]; exact Nat.ne_of_gt (IsS122.lt (show IsS122 w0 _ g s0_0 s0_1 s0_2 from u75HI0)) : gb589 ≠ g)); clear HI0; clear HK; clear HB; have HI0 := n0_; have HK := n1_; have HB := n2_; have BK589 := n3_; have GW589 := n4_; have GE589 := n5_; have NB0_589 := n6_; have NB589_0 := n7_; clear n0_ n1_ n2_ n3_ n4_ n5_ n6_ n7_; clear hb hbox hg) | (refine gl 5 Tryz.func63 #[.pointer (some ⟨g, 0, none⟩)] ?_; (with_reducible refine (spec_l3DrawReq.calls k g s0_0 s0_1 s0_2 t590 t591 t592 t595 t596 t597 w0 _ ?side1 ?side2 A2.out).mono ?_); (case side1 => exact u75HI0); (case side2 => exact u75HB); rintro e w38 ⟨v593, rfl, ho0, hi, hb, hk⟩; refine ⟨_, rfl, ?_⟩; replace BK589 := kp BK589 hk NB589_0; have HO594 := am (Kd.R_lower ho0 (keep_size (w := w) (g := g) (row := none) u75HK)); replace HK := am (KeepBut.trans u75HK hk (.inl rfl)); replace HB := am (hb); replace HI0 := am (hi); clear hb hk hi ho0) | (refine bx 3 #[.int .i64 0, .string (⟨#[]⟩ : ByteArray), .slice none 0 0, .string (⟨#[]⟩ : ByteArray)] 40 ?_; intro gb598 hg w39 hbox hb; have n0_ := am (Kd.R_below (ro HO594) hb); have n1_ := am (IsS122.below u75HI0 hb); have n2_ := kb BK589 hb; have n3_ := am (KeepBut.trans u75HK (KeepBut.of_below hb g none) (.inl rfl)); have n4_ := am (below_step u75HB hb); have n5_ := am (hbox); have n6_ := am ((by rw [hg]; exact (keep_size (w := w) (g := g) (row := none) u75HK) : w.heap.size ≤ gb598)); have n7_ := am ((Nat.le_trans HW0.out (by rw [hg]; exact (keep_size (w := w) (g := g) (row := none) u75HK) : w.heap.size ≤ gb598) : w0.heap.size ≤ gb598)); have n8_ := am (nl hg BK589 : gb589 ≠ gb598); have n9_ := am (ng hg BK589 : gb598 ≠ gb589); have n10_ := am ((by rw [hg]; exact Nat.ne_of_lt (IsS122.lt (show IsS122 w0 _ g s0_0 t596 t597 from u75HI0)) : g ≠ gb598)); have n11_ := am ((by rw [hg]; exact Nat.ne_of_gt (IsS122.lt (show IsS122 w0 _ g s0_0 t596 t597 from u75HI0)) : gb598 ≠ g)); clear HO594; clear HI0; clear BK589; clear HK; clear HB; have HO594 := n0_; have HI0 := n1_; have BK589 := n2_; have HK := n3_; have HB := n4_; have BK598 := n5_; have GW598 := n6_; have GE598 := n7_; have NB589_598 := n8_; have NB598_589 := n9_; have NB0_598 := n10_; have NB598_0 := n11_; clear n0_ n1_ n2_ n3_ n4_ n5_ n6_ n7_ n8_ n9_ n10_ n11_; clear hb hbox hg; have hnb40 := NB598_589.out; have hnc40 := NB589_598.out; have hnb41 := NB598_0.out; have hnc41 := NB0_598.out; obtain ⟨z42_0, y42_0, z42_1, y42_1, z42_2, y42_2, z42_3, y42_3⟩ := cl4 BK598; obtain ⟨Ao43, co43, eo43⟩ := Kd.R_slice HO594.out; subst eo43) | (refine gl 7 Tryz.func62 #[.pointer (some ⟨g, 0, none⟩), .int .i64 20] ?_; (with_reducible refine (spec_l1Below.calls g s0_0 t596 t597 20 t599 t600 t601 w0 _ ?side1 ?side2 A3.out).mono ?_); (case side1 => exact u75HI0); (case side2 => exact u75HB); rintro e w44 ⟨rfl, hi, hb, hk⟩; refine ⟨_, rfl, ?_⟩; have n0_ := am (KeepBut.blk hk (g' := gb589) (o := .cells #[.int .i64 0, .string (⟨#[]⟩ : ByteArray), .slice none 0 0, .string (⟨#[]⟩ : ByteArray)] 40 (0, 0)) (bg1 BK589 NB589_598) NB589_0.out (by simp)); have n1_ := am (Kd.R_mono (Kd.R_keep (IsS122.apart (show IsS122 w0 _ g s0_0 t596 t597 from u75HI0) (by (with_reducible repeat (first | apply Kd.R_alloc | apply Kd.R_drewN | apply Kd.R_drew)); exact (Kd.R_mono (Kd.R_far (p := ⟨gb598, 3, none⟩) (Kd.R_far (p := ⟨gb598, 2, none⟩) (Kd.R_far (p := ⟨gb598, 1, none⟩) (Kd.R_far (p := ⟨gb598, 0, none⟩) (Kd.R_types HO594.out BK598.out (by decide)) (fun _ hk => hk.2) (.int .i64 t590)) (fun _ hk => hk.2) (.string t591)) (fun _ hk => hk.2) (.slice Ao43 t592.length co43)) (fun _ hk => hk.2) (.string t595)) (fun _ h_ => h_.1))) (by decide)) hk (fun _ h => h.2)) (fun _ h => h.1)); have n2_ := am (KeepBut.blk hk (g' := gb598) (o := .cells #[.int .i64 t590, .string t591, .slice Ao43 t592.length co43, .string t595] 40 (0, 0)) (pt0 BK598) NB598_0.out (by simp)); have n3_ := am (KeepBut.trans u75HK hk (.inl rfl)); have n4_ := am (hb); have n5_ := am (hi); clear BK589; clear HO594; clear BK598; clear HK; clear HB; clear HI0; have BK589 := n0_; have HO594 := n1_; have BK598 := n2_; have HK := n3_; have HB := n4_; have HI0 := n5_; clear n0_ n1_ n2_ n3_ n4_ n5_; clear hb hk hi) | (refine gl 23 Tryz.func124 #[.pointer (some ⟨g, 0, none⟩)] ?_; (with_reducible refine (spec_l2Draw.calls k g s0_0 t600 t601 t611 t614 t615 w0 _ ?side1 ?side2 A36.out).mono ?_); (case side1 => exact u75HI0); (case side2 => exact u75HB); rintro e w45 ⟨v612, rfl, ho0, hi, hb, hk⟩; refine ⟨_, rfl, ?_⟩; replace BK589 := kp BK589 hk NB589_0; replace BK598 := kp BK598 hk NB598_0; have HO613 := am (Kd.R_lower (Kd.R_new' ho0 (Kd.R_lt (ro HO594))) (keep_size (w := w) (g := g) (row := none) u75HK)); replace HO594 := am (Kd.R_mono (Kd.R_told (Kd.R_oldK (IsS122.apart (show IsS122 w0 _ g s0_0 t600 t601 from u75HI0) (ro HO594) (by decide)) hk) (Kd.R_base ho0)) (fun _ h_ => h_.1)); replace HK := am (KeepBut.trans u75HK hk (.inl rfl)); replace HB := am (hb); replace HI0 := am (hi); clear hb hk hi ho0; obtain ⟨Ao46, co46, eo46⟩ := Kd.R_slice HO613.out; subst eo46; obtain ⟨z47_0, y47_0, z47_1, y47_1, z47_2, y47_2, z47_3, y47_3⟩ := cl4 BK598; have hnb48 := NB589_0.out; have hnc48 := NB0_589.out; obtain ⟨z49_0, y49_0, z49_1, y49_1, z49_2, y49_2, z49_3, y49_3⟩ := cl4 BK589))
  refine bodyPost_ret (results_cell_row rfl _ _ gb589 40 #[.int .i64 t590, .string t591, .slice Ao46 t611.length co46, .string t595] (0, 0) _ rfl (pt1 BK589 NB589_598) Tryz.underlying40 rfl (by kernel_rfl)) rfl ?_
  exact ⟨_, rf, rg (Kd.R_types (Kd.R_types HO613.out BK598.out (by decide)) BK589.out (by decide)), u75HI0, u75HB, u75HK⟩
 rw [if_neg c35] at H
 have c35b0 : (t599 == 2) = false := beq_eq_false_iff_ne.mpr c35
 have c35b1 : (t599 != 2) = true := bne_iff_ne.mpr c35
 by_cases c50 : t599 = 3
 rotate_left
 ·rw [if_neg c50] at H
  have c50b0 : (t599 == 3) = false := beq_eq_false_iff_ne.mpr c50
  have c50b1 : (t599 != 3) = true := bne_iff_ne.mpr c50
  simp only [Option.some.injEq, Prod.mk.injEq] at H
  obtain ⟨rfl, rfl, rfl, rfl, rfl, rfl⟩ := H
  go_enter Tryz.func75, Tryz.ntmps75
  go_wp2_with (first | (refine bx 2 #[.int .i64 0, .string (⟨#[]⟩ : ByteArray), .slice none 0 0, .string (⟨#[]⟩ : ByteArray)] 40 ?_; intro gb589 hg w74 hbox hb; have n0_ := am (IsS122.below u75HI0 hb); have n1_ := am (KeepBut.trans u75HK (KeepBut.of_below hb g none) (.inl rfl)); have n2_ := am (below_step u75HB hb); have n3_ := am (hbox); have n4_ := am ((by rw [hg]; exact (keep_size (w := w) (g := g) (row := none) u75HK) : w.heap.size ≤ gb589)); have n5_ := am ((Nat.le_trans HW0.out (by rw [hg]; exact (keep_size (w := w) (g := g) (row := none) u75HK) : w.heap.size ≤ gb589) : w0.heap.size ≤ gb589)); have n6_ := am ((by rw [hg]; exact Nat.ne_of_lt (IsS122.lt (show IsS122 w0 _ g s0_0 s0_1 s0_2 from u75HI0)) : g ≠ gb589)); have n7_ := am ((by rw [hg]; exact Nat.ne_of_gt (IsS122.lt (show IsS122 w0 _ g s0_0 s0_1 s0_2 from u75HI0)) : gb589 ≠ g)); clear HI0; clear HK; clear HB; have HI0 := n0_; have HK := n1_; have HB := n2_; have BK589 := n3_; have GW589 := n4_; have GE589 := n5_; have NB0_589 := n6_; have NB589_0 := n7_; clear n0_ n1_ n2_ n3_ n4_ n5_ n6_ n7_; clear hb hbox hg) | (refine gl 5 Tryz.func63 #[.pointer (some ⟨g, 0, none⟩)] ?_; (with_reducible refine (spec_l3DrawReq.calls k g s0_0 s0_1 s0_2 t590 t591 t592 t595 t596 t597 w0 _ ?side1 ?side2 A2.out).mono ?_); (case side1 => exact u75HI0); (case side2 => exact u75HB); rintro e w75 ⟨v593, rfl, ho0, hi, hb, hk⟩; refine ⟨_, rfl, ?_⟩; replace BK589 := kp BK589 hk NB589_0; have HO594 := am (Kd.R_lower ho0 (keep_size (w := w) (g := g) (row := none) u75HK)); replace HK := am (KeepBut.trans u75HK hk (.inl rfl)); replace HB := am (hb); replace HI0 := am (hi); clear hb hk hi ho0) | (refine bx 3 #[.int .i64 0, .string (⟨#[]⟩ : ByteArray), .slice none 0 0, .string (⟨#[]⟩ : ByteArray)] 40 ?_; intro gb598 hg w76 hbox hb; have n0_ := am (Kd.R_below (ro HO594) hb); have n1_ := am (IsS122.below u75HI0 hb); have n2_ := kb BK589 hb; have n3_ := am (KeepBut.trans u75HK (KeepBut.of_below hb g none) (.inl rfl)); have n4_ := am (below_step u75HB hb); have n5_ := am (hbox); have n6_ := am ((by rw [hg]; exact (keep_size (w := w) (g := g) (row := none) u75HK) : w.heap.size ≤ gb598)); have n7_ := am ((Nat.le_trans HW0.out (by rw [hg]; exact (keep_size (w := w) (g := g) (row := none) u75HK) : w.heap.size ≤ gb598) : w0.heap.size ≤ gb598)); have n8_ := am (nl hg BK589 : gb589 ≠ gb598); have n9_ := am (ng hg BK589 : gb598 ≠ gb589); have n10_ := am ((by rw [hg]; exact Nat.ne_of_lt (IsS122.lt (show IsS122 w0 _ g s0_0 t596 t597 from u75HI0)) : g ≠ gb598)); have n11_ := am ((by rw [hg]; exact Nat.ne_of_gt (IsS122.lt (show IsS122 w0 _ g s0_0 t596 t597 from u75HI0)) : gb598 ≠ g)); clear HO594; clear HI0; clear BK589; clear HK; clear HB; have HO594 := n0_; have HI0 := n1_; have BK589 := n2_; have HK := n3_; have HB := n4_; have BK598 := n5_; have GW598 := n6_; have GE598 := n7_; have NB589_598 := n8_; have NB598_589 := n9_; have NB0_598 := n10_; have NB598_0 := n11_; clear n0_ n1_ n2_ n3_ n4_ n5_ n6_ n7_ n8_ n9_ n10_ n11_; clear hb hbox hg; have hnb77 := NB598_589.out; have hnc77 := NB589_598.out; have hnb78 := NB598_0.out; have hnc78 := NB0_598.out; obtain ⟨z79_0, y79_0, z79_1, y79_1, z79_2, y79_2, z79_3, y79_3⟩ := cl4 BK598; obtain ⟨Ao80, co80, eo80⟩ := Kd.R_slice HO594.out; subst eo80) | (refine gl 7 Tryz.func62 #[.pointer (some ⟨g, 0, none⟩), .int .i64 20] ?_; (with_reducible refine (spec_l1Below.calls g s0_0 t596 t597 20 t599 t600 t601 w0 _ ?side1 ?side2 A3.out).mono ?_); (case side1 => exact u75HI0); (case side2 => exact u75HB); rintro e w81 ⟨rfl, hi, hb, hk⟩; refine ⟨_, rfl, ?_⟩; have n0_ := am (KeepBut.blk hk (g' := gb589) (o := .cells #[.int .i64 0, .string (⟨#[]⟩ : ByteArray), .slice none 0 0, .string (⟨#[]⟩ : ByteArray)] 40 (0, 0)) (bg1 BK589 NB589_598) NB589_0.out (by simp)); have n1_ := am (Kd.R_mono (Kd.R_keep (IsS122.apart (show IsS122 w0 _ g s0_0 t596 t597 from u75HI0) (by (with_reducible repeat (first | apply Kd.R_alloc | apply Kd.R_drewN | apply Kd.R_drew)); exact (Kd.R_mono (Kd.R_far (p := ⟨gb598, 3, none⟩) (Kd.R_far (p := ⟨gb598, 2, none⟩) (Kd.R_far (p := ⟨gb598, 1, none⟩) (Kd.R_far (p := ⟨gb598, 0, none⟩) (Kd.R_types HO594.out BK598.out (by decide)) (fun _ hk => hk.2) (.int .i64 t590)) (fun _ hk => hk.2) (.string t591)) (fun _ hk => hk.2) (.slice Ao80 t592.length co80)) (fun _ hk => hk.2) (.string t595)) (fun _ h_ => h_.1))) (by decide)) hk (fun _ h => h.2)) (fun _ h => h.1)); have n2_ := am (KeepBut.blk hk (g' := gb598) (o := .cells #[.int .i64 t590, .string t591, .slice Ao80 t592.length co80, .string t595] 40 (0, 0)) (pt0 BK598) NB598_0.out (by simp)); have n3_ := am (KeepBut.trans u75HK hk (.inl rfl)); have n4_ := am (hb); have n5_ := am (hi); clear BK589; clear HO594; clear BK598; clear HK; clear HB; clear HI0; have BK589 := n0_; have HO594 := n1_; have BK598 := n2_; have HK := n3_; have HB := n4_; have HI0 := n5_; clear n0_ n1_ n2_ n3_ n4_ n5_; clear hb hk hi; obtain ⟨z82_0, y82_0, z82_1, y82_1, z82_2, y82_2, z82_3, y82_3⟩ := cl4 BK598; have hnb83 := NB589_0.out; have hnc83 := NB0_589.out; obtain ⟨z84_0, y84_0, z84_1, y84_1, z84_2, y84_2, z84_3, y84_3⟩ := cl4 BK589))
  refine bodyPost_ret (results_cell_row rfl _ _ gb589 40 #[.int .i64 t590, .string t591, .slice Ao80 t592.length co80, .string t595] (0, 0) _ rfl (pt0 BK589) Tryz.underlying40 rfl (by kernel_rfl)) rfl ?_
  exact ⟨_, rf, rg (Kd.R_types HO594.out BK589.out (by decide)), u75HI0, u75HB, u75HK⟩
 rw [if_pos c50] at H
 have c50b0 : (t599 == 3) = true := beq_iff_eq.mpr c50
 have c50b1 : (t599 != 3) = false := bne_eq_false_iff_eq.mpr c50
 clear c50
 have H' := am H
 clear H
 go_enter Tryz.func75, Tryz.ntmps75
 go_wp2_with (first | (refine bx 2 #[.int .i64 0, .string (⟨#[]⟩ : ByteArray), .slice none 0 0, .string (⟨#[]⟩ : ByteArray)] 40 ?_; intro gb589 hg w51 hbox hb; have n0_ := am (IsS122.below u75HI0 hb); have n1_ := am (KeepBut.trans u75HK (KeepBut.of_below hb g none) (.inl rfl)); have n2_ := am (below_step u75HB hb); have n3_ := am (hbox); have n4_ := am ((by rw [hg]; exact (keep_size (w := w) (g := g) (row := none) u75HK) : w.heap.size ≤ gb589)); have n5_ := am ((Nat.le_trans HW0.out (by rw [hg]; exact (keep_size (w := w) (g := g) (row := none) u75HK) : w.heap.size ≤ gb589) : w0.heap.size ≤ gb589)); have n6_ := am ((by rw [hg]; exact Nat.ne_of_lt (IsS122.lt (show IsS122 w0 _ g s0_0 s0_1 s0_2 from u75HI0)) : g ≠ gb589)); have n7_ := am ((by rw [hg]; exact Nat.ne_of_gt (IsS122.lt (show IsS122 w0 _ g s0_0 s0_1 s0_2 from u75HI0)) : gb589 ≠ g)); clear HI0; clear HK; clear HB; have HI0 := n0_; have HK := n1_; have HB := n2_; have BK589 := n3_; have GW589 := n4_; have GE589 := n5_; have NB0_589 := n6_; have NB589_0 := n7_; clear n0_ n1_ n2_ n3_ n4_ n5_ n6_ n7_; clear hb hbox hg) | (refine gl 5 Tryz.func63 #[.pointer (some ⟨g, 0, none⟩)] ?_; (with_reducible refine (spec_l3DrawReq.calls k g s0_0 s0_1 s0_2 t590 t591 t592 t595 t596 t597 w0 _ ?side1 ?side2 A2.out).mono ?_); (case side1 => exact u75HI0); (case side2 => exact u75HB); rintro e w52 ⟨v593, rfl, ho0, hi, hb, hk⟩; refine ⟨_, rfl, ?_⟩; replace BK589 := kp BK589 hk NB589_0; have HO594 := am (Kd.R_lower ho0 (keep_size (w := w) (g := g) (row := none) u75HK)); replace HK := am (KeepBut.trans u75HK hk (.inl rfl)); replace HB := am (hb); replace HI0 := am (hi); clear hb hk hi ho0) | (refine bx 3 #[.int .i64 0, .string (⟨#[]⟩ : ByteArray), .slice none 0 0, .string (⟨#[]⟩ : ByteArray)] 40 ?_; intro gb598 hg w53 hbox hb; have n0_ := am (Kd.R_below (ro HO594) hb); have n1_ := am (IsS122.below u75HI0 hb); have n2_ := kb BK589 hb; have n3_ := am (KeepBut.trans u75HK (KeepBut.of_below hb g none) (.inl rfl)); have n4_ := am (below_step u75HB hb); have n5_ := am (hbox); have n6_ := am ((by rw [hg]; exact (keep_size (w := w) (g := g) (row := none) u75HK) : w.heap.size ≤ gb598)); have n7_ := am ((Nat.le_trans HW0.out (by rw [hg]; exact (keep_size (w := w) (g := g) (row := none) u75HK) : w.heap.size ≤ gb598) : w0.heap.size ≤ gb598)); have n8_ := am (nl hg BK589 : gb589 ≠ gb598); have n9_ := am (ng hg BK589 : gb598 ≠ gb589); have n10_ := am ((by rw [hg]; exact Nat.ne_of_lt (IsS122.lt (show IsS122 w0 _ g s0_0 t596 t597 from u75HI0)) : g ≠ gb598)); have n11_ := am ((by rw [hg]; exact Nat.ne_of_gt (IsS122.lt (show IsS122 w0 _ g s0_0 t596 t597 from u75HI0)) : gb598 ≠ g)); clear HO594; clear HI0; clear BK589; clear HK; clear HB; have HO594 := n0_; have HI0 := n1_; have BK589 := n2_; have HK := n3_; have HB := n4_; have BK598 := n5_; have GW598 := n6_; have GE598 := n7_; have NB589_598 := n8_; have NB598_589 := n9_; have NB0_598 := n10_; have NB598_0 := n11_; clear n0_ n1_ n2_ n3_ n4_ n5_ n6_ n7_ n8_ n9_ n10_ n11_; clear hb hbox hg; have hnb54 := NB598_589.out; have hnc54 := NB589_598.out; have hnb55 := NB598_0.out; have hnc55 := NB0_598.out; obtain ⟨z56_0, y56_0, z56_1, y56_1, z56_2, y56_2, z56_3, y56_3⟩ := cl4 BK598; obtain ⟨Ao57, co57, eo57⟩ := Kd.R_slice HO594.out; subst eo57) | (refine gl 7 Tryz.func62 #[.pointer (some ⟨g, 0, none⟩), .int .i64 20] ?_; (with_reducible refine (spec_l1Below.calls g s0_0 t596 t597 20 t599 t600 t601 w0 _ ?side1 ?side2 A3.out).mono ?_); (case side1 => exact u75HI0); (case side2 => exact u75HB); rintro e w58 ⟨rfl, hi, hb, hk⟩; refine ⟨_, rfl, ?_⟩; have n0_ := am (KeepBut.blk hk (g' := gb589) (o := .cells #[.int .i64 0, .string (⟨#[]⟩ : ByteArray), .slice none 0 0, .string (⟨#[]⟩ : ByteArray)] 40 (0, 0)) (bg1 BK589 NB589_598) NB589_0.out (by simp)); have n1_ := am (Kd.R_mono (Kd.R_keep (IsS122.apart (show IsS122 w0 _ g s0_0 t596 t597 from u75HI0) (by (with_reducible repeat (first | apply Kd.R_alloc | apply Kd.R_drewN | apply Kd.R_drew)); exact (Kd.R_mono (Kd.R_far (p := ⟨gb598, 3, none⟩) (Kd.R_far (p := ⟨gb598, 2, none⟩) (Kd.R_far (p := ⟨gb598, 1, none⟩) (Kd.R_far (p := ⟨gb598, 0, none⟩) (Kd.R_types HO594.out BK598.out (by decide)) (fun _ hk => hk.2) (.int .i64 t590)) (fun _ hk => hk.2) (.string t591)) (fun _ hk => hk.2) (.slice Ao57 t592.length co57)) (fun _ hk => hk.2) (.string t595)) (fun _ h_ => h_.1))) (by decide)) hk (fun _ h => h.2)) (fun _ h => h.1)); have n2_ := am (KeepBut.blk hk (g' := gb598) (o := .cells #[.int .i64 t590, .string t591, .slice Ao57 t592.length co57, .string t595] 40 (0, 0)) (pt0 BK598) NB598_0.out (by simp)); have n3_ := am (KeepBut.trans u75HK hk (.inl rfl)); have n4_ := am (hb); have n5_ := am (hi); clear BK589; clear HO594; clear BK598; clear HK; clear HB; clear HI0; have BK589 := n0_; have HO594 := n1_; have BK598 := n2_; have HK := n3_; have HB := n4_; have HI0 := n5_; clear n0_ n1_ n2_ n3_ n4_ n5_; clear hb hk hi))
 (try simp only [Act.put, List.setIfInBounds_toArray, List.set_cons_zero, List.set_cons_succ])
 go_loopg [] k (fun kq w' => ∃ (x1001_1 : Int) (x1002_1 : Int) (x599003_1 : ByteArray), Aside0 (spec_l3DrawBadReq.l0 kq s0_0 x1001_1 x1002_1 t590 t591 t592 x599003_1 = some (r1, r2, r3, r4, r5, r6)) ∧ Aside0 (kq ≤ k) ∧ Aside0 (Kd.R k100 100 w' w.heap.size (fun _ => True) (.slice Ao57 t592.length co57) t592) ∧ Aside0 (w'.heap[gb589]? = some (.cells #[.int .i64 0, .string (⟨#[]⟩ : ByteArray), (.slice none 0 0), .string (⟨#[]⟩ : ByteArray)] 40 (0, 0))) ∧ Aside0 (w'.heap[gb598]? = some (.cells #[.int .i64 t590, .string t591, (.slice Ao57 t592.length co57), .string x599003_1] 40 (0, 0))) ∧ Aside0 (IsS122 w0 w' g s0_0 x1001_1 x1002_1) ∧ Aside0 (KeepBut w w' g none) ∧ Aside0 (Below w0.heap.size w0 w'))
 case atStart => exact ⟨(t600), (t601), (t595), H', ⟨Nat.le_refl _⟩, ⟨by (with_reducible repeat (first | apply Kd.R_alloc | apply Kd.R_drewN | apply Kd.R_drew)); exact HO594.out⟩, ⟨by (with_reducible repeat (first | refine blk_drewN ?_ _ | refine blk_drew ?_ | refine blk_alloc ?_ _)); exact BK589.out⟩, ⟨by (with_reducible repeat (first | refine blk_drewN ?_ _ | refine blk_drew ?_ | refine blk_alloc ?_ _)); exact BK598.out⟩, ⟨u75HI0⟩, ⟨u75HK⟩, ⟨u75HB⟩⟩
 case round =>
  clear H'
  try clear c1
  try clear c2
  try clear p2
  try clear c3
  try clear c4
  try clear c4b0
  try clear c4b1
  try clear c5
  try clear c6
  try clear p6
  try clear c7
  try clear c9
  try clear c10
  try clear c12
  try clear c16
  try clear c18
  try clear c18b0
  try clear c18b1
  try clear c23
  try clear c24
  try clear c33
  try clear c35
  try clear c35b0
  try clear c35b1
  try clear c40
  try clear c41
  try clear c48
  try clear c50
  try clear c50b0
  try clear c50b1
  try clear c54
  try clear c55
  try clear z11_0
  try clear z11_1
  try clear z11_2
  try clear z11_3
  try clear z15_0
  try clear z15_1
  try clear z15_2
  try clear z15_3
  try clear z17_0
  try clear z17_1
  try clear z17_2
  try clear z17_3
  try clear z25_0
  try clear z25_1
  try clear z25_2
  try clear z25_3
  try clear z32_0
  try clear z32_1
  try clear z32_2
  try clear z32_3
  try clear z34_0
  try clear z34_1
  try clear z34_2
  try clear z34_3
  try clear z42_0
  try clear z42_1
  try clear z42_2
  try clear z42_3
  try clear z47_0
  try clear z47_1
  try clear z47_2
  try clear z47_3
  try clear z49_0
  try clear z49_1
  try clear z49_2
  try clear z49_3
  try clear z56_0
  try clear z56_1
  try clear z56_2
  try clear z56_3
  try clear y11_0
  try clear y11_1
  try clear y11_2
  try clear y11_3
  try clear y15_0
  try clear y15_1
  try clear y15_2
  try clear y15_3
  try clear y17_0
  try clear y17_1
  try clear y17_2
  try clear y17_3
  try clear y25_0
  try clear y25_1
  try clear y25_2
  try clear y25_3
  try clear y32_0
  try clear y32_1
  try clear y32_2
  try clear y32_3
  try clear y34_0
  try clear y34_1
  try clear y34_2
  try clear y34_3
  try clear y42_0
  try clear y42_1
  try clear y42_2
  try clear y42_3
  try clear y47_0
  try clear y47_1
  try clear y47_2
  try clear y47_3
  try clear y49_0
  try clear y49_1
  try clear y49_2
  try clear y49_3
  try clear y56_0
  try clear y56_1
  try clear y56_2
  try clear y56_3
  obtain ⟨x1001_1, x1002_1, x599003_1, HA, HK1, HO_599002, BK589, BK598, HI0, HK, HB⟩ := hrel
  cases gk with
  | zero => exact absurd HA.out (by simp [spec_l3DrawBadReq.l0])
  | succ k1 =>
   have H := HA.out
   clear HA
   simp only [spec_l3DrawBadReq.l0] at H
   revert H
   refine ok3 fun t616 t617 t618 A59 H => ?_
   (try dsimp only at H)
   by_cases c60 : (x599003_1.size : Int) < (wrap64 (120 + t616))
   rotate_left
   ·rw [if_neg c60] at H
    have c60b0 := decide_eq_false c60
    clear c60
    simp only [Option.some.injEq, Prod.mk.injEq] at H
    obtain ⟨rfl, rfl, rfl, rfl, rfl, rfl⟩ := H
    try go_wp2
    replace HO_599002 := am (Kd.R_drew HO_599002.out)
    replace BK589 := am (blk_drew BK589.out)
    replace BK598 := am (blk_drew BK598.out)
    replace HI0 := am (IsS122.drew HI0.out)
    replace HK := am (keep_drew HK.out)
    replace HB := am (below_drew1 HB.out)
    refine start_ (n := 7) (S := fun w' => w'.cell? ⟨gb598, 0, none⟩ = some (.int .i64 t590) ∧ w'.cell? ⟨gb598, 1, none⟩ = some (.string t591) ∧ w'.cell? ⟨gb598, 2, none⟩ = some (.slice Ao57 t592.length co57) ∧ w'.cell? ⟨gb598, 3, none⟩ = some (.string x599003_1)) (ds := []) ⟨br true [0, 7]⟩ (by kernel_rfl) rfl (by kernel_rfl) ⟨bc BK598, bc BK598, bc BK598, bc BK598⟩ (fun hHeld => ?_)
    generalize wr.drew = w67 at HO_599002 BK589 BK598 HI0 HK HB hHeld ⊢
    refine pu 0 27 [1, 6] ?_
    refine pu 3 30 [1, 2, 1, 3] ?_
    refine tk 1 28 [2, 1, 1, 3] ?_
    refine pu 2 29 [4, 3] ?_
    refine og 4 31 [5, 2] Tryz.func62 #[.pointer (some ⟨g, 0, none⟩), .int .i64 2] (fun K hK => ?_)
    with_reducible refine (spec_l1Below.calls g s0_0 x1001_1 x1002_1 2 t616 t617 t618 w0 _ ?side1 ?side2 A59.out).mono ?_
    (case side1 => exact u75HI0)
    (case side2 => exact u75HB)
    rintro e w68 ⟨rfl, hi, hb, hk⟩
    refine ⟨_, rfl, ?_⟩
    replace HO_599002 := am (Kd.R_mono (Kd.R_keep (IsS122.apart (show IsS122 w0 _ g s0_0 x1001_1 x1002_1 from u75HI0) (ro HO_599002) (by decide)) hk (fun _ h => h.2)) (fun _ h => h.1))
    replace BK589 := kp BK589 hk NB589_0
    replace BK598 := kp BK598 hk NB598_0
    replace HK := am (KeepBut.trans u75HK hk (.inl rfl))
    replace HB := am (hb)
    replace HI0 := am (hi)
    clear hb hk hi
    refine hK.out _ _ ⟨bc BK598, bc BK598, bc BK598, bc BK598⟩ (fun hHeld => ?_)
    clear hK K
    refine nm 31 ?_
    refine pu 5 32 [6, 1] ?_
    refine pu 6 33 [7] ?_
    refine done_ (by kernel_rfl) ?_
    have hnb69 := NB598_589.out
    have hnc69 := NB589_598.out
    have hnb70 := NB598_0.out
    have hnc70 := NB0_598.out
    obtain ⟨z71_0, y71_0, z71_1, y71_1, z71_2, y71_2, z71_3, y71_3⟩ := cl4 BK598
    have hnb72 := NB589_0.out
    have hnc72 := NB0_589.out
    obtain ⟨z73_0, y73_0, z73_1, y73_1, z73_2, y73_2, z73_3, y73_3⟩ := cl4 BK589
    try go_wp2
    refine bodyPost_ret (results_cell_row rfl _ _ gb589 40 #[.int .i64 t590, .string t591, .slice Ao57 t592.length co57, .string x599003_1] (0, 0) _ rfl (pt0 BK589) Tryz.underlying40 rfl (by kernel_rfl)) rfl ?_
    exact ⟨_, rf, rg (Kd.R_types HO_599002.out BK589.out (by decide)), u75HI0, u75HB, u75HK⟩
   rw [if_pos c60] at H
   have c60b0 := decide_eq_true c60
   clear c60
   revert H
   refine ifn fun c61 H => ?_
   have c61b0 := eq_true c61
   have c61b1 := decide_eq_true c61
   try have c61b2 := eq_false (Nat.not_lt.2 c61)
   have H' := am H
   clear H
   try go_wp2
   replace HO_599002 := am (Kd.R_drew HO_599002.out)
   replace BK589 := am (blk_drew BK589.out)
   replace BK598 := am (blk_drew BK598.out)
   replace HI0 := am (IsS122.drew HI0.out)
   replace HK := am (keep_drew HK.out)
   replace HB := am (below_drew1 HB.out)
   refine start_ (n := 7) (S := fun w' => w'.cell? ⟨gb598, 0, none⟩ = some (.int .i64 t590) ∧ w'.cell? ⟨gb598, 1, none⟩ = some (.string t591) ∧ w'.cell? ⟨gb598, 2, none⟩ = some (.slice Ao57 t592.length co57) ∧ w'.cell? ⟨gb598, 3, none⟩ = some (.string x599003_1)) (ds := []) ⟨br true [0, 7]⟩ (by kernel_rfl) rfl (by kernel_rfl) ⟨bc BK598, bc BK598, bc BK598, bc BK598⟩ (fun hHeld => ?_)
   generalize wr.drew = w62 at HO_599002 BK589 BK598 HI0 HK HB hHeld ⊢
   refine pu 0 27 [1, 6] ?_
   refine pu 3 30 [1, 2, 1, 3] ?_
   refine tk 1 28 [2, 1, 1, 3] ?_
   refine pu 2 29 [4, 3] ?_
   refine og 4 31 [5, 2] Tryz.func62 #[.pointer (some ⟨g, 0, none⟩), .int .i64 2] (fun K hK => ?_)
   with_reducible refine (spec_l1Below.calls g s0_0 x1001_1 x1002_1 2 t616 t617 t618 w0 _ ?side1 ?side2 A59.out).mono ?_
   (case side1 => exact u75HI0)
   (case side2 => exact u75HB)
   rintro e w63 ⟨rfl, hi, hb, hk⟩
   refine ⟨_, rfl, ?_⟩
   replace HO_599002 := am (Kd.R_mono (Kd.R_keep (IsS122.apart (show IsS122 w0 _ g s0_0 x1001_1 x1002_1 from u75HI0) (ro HO_599002) (by decide)) hk (fun _ h => h.2)) (fun _ h => h.1))
   replace BK589 := kp BK589 hk NB589_0
   replace BK598 := kp BK598 hk NB598_0
   replace HK := am (KeepBut.trans u75HK hk (.inl rfl))
   replace HB := am (hb)
   replace HI0 := am (hi)
   clear hb hk hi
   refine hK.out _ _ ⟨bc BK598, bc BK598, bc BK598, bc BK598⟩ (fun hHeld => ?_)
   clear hK K
   refine nm 31 ?_
   refine pu 5 32 [6, 1] ?_
   refine pu 6 33 [7] ?_
   refine done_ (by kernel_rfl) ?_
   have hnb64 := NB598_589.out
   have hnc64 := NB589_598.out
   have hnb65 := NB598_0.out
   have hnc65 := NB0_598.out
   obtain ⟨z66_0, y66_0, z66_1, y66_1, z66_2, y66_2, z66_3, y66_3⟩ := cl4 BK598
   try go_wp2
   go_roundg k1
   case measure => have := HK1.out; omega
   case rel => exact ⟨(t617), (t618), (x599003_1 ++ (⟨#[98]⟩ : ByteArray)), H', ⟨by have := HK1.out; omega⟩, ⟨rg (Kd.R_types HO_599002.out BK598.out (by decide))⟩, ⟨by (with_reducible repeat (first | refine blk_drewN ?_ _ | refine blk_drew ?_ | refine blk_alloc ?_ _)); refine blk_far ?_ NB589_598.out _; (with_reducible repeat (first | refine blk_drewN ?_ _ | refine blk_drew ?_ | refine blk_alloc ?_ _)); exact BK589.out⟩, ⟨pt0 BK598⟩, ⟨u75HI0⟩, ⟨u75HK⟩, ⟨u75HB⟩⟩

/-! ### spec_DrawReqText: function 20 -/
theorem u20HB {p : Prop} (h : p := by repeat (first | (with_reducible first | exact HB.out | apply below_alloc | apply pw_below_drewN | apply below_drew1 | refine below_set ?_ GE619.out | refine below_set ?_ (IsS122.ge HI623.out)) | exact HB.out)) : p := h
theorem u20HI623 {p : Prop} (h : p := by repeat (first | (with_reducible first | exact HI623.out | apply IsS122.alloc | apply IsS122.drewN | apply IsS122.drew | apply IsS122.set_1 | apply IsS122.set_2 | apply IsS122.far (p := ⟨gb619, _, none⟩) (hne := NB623_619.out)) | exact HI623.out)) : p := h
def spec_DrawReqText.f (k : Nat) (l0 : List Int) : Option (Int × ByteArray × (List (S100)) × ByteArray) := (spec_l1New.f k l0).bind fun bt620 => ((spec_l3DrawBadReq.f k bt620.1 bt620.2.1 bt620.2.2).bind fun bt624 => (some (bt624.1, bt624.2.1, bt624.2.2.1, bt624.2.2.2.1)))
theorem spec_DrawReqText.mono : ∀ a0 k, LeO (spec_DrawReqText.f k a0) (spec_DrawReqText.f (k + 1) a0) := by
 intro a0 k
 unfold spec_DrawReqText.f
 have m0 := @spec_l1New.mono
 have m1 := @spec_l3DrawBadReq.mono
 exact mo
set_option maxHeartbeats 8000000 in
set_option maxRecDepth 100000 in
theorem spec_DrawReqText.calls (k : Nat) (A0 : Option Addr) (c0 : Nat) (l0 : List Int) (r1 : Int) (r2 : ByteArray) (r3 : List (S100)) (r4 : ByteArray) (w : World) (hr0 : Kd.C (Kd.int .u8) w A0 l0.length l0) (hc0 : l0.length ≤ c0) (h : spec_DrawReqText.f k l0 = some (r1, r2, r3, r4)) :
  Calls Tryz.prog 20 #[.slice A0 l0.length c0] w fun e w' => ∃ v2_ : Value, e = .returned (.agg #[.int .i64 r1, .string r2, v2_, .string r4]) ∧ Kd.R k100 100 w' w.heap.size (fun _ => True) v2_ r3 ∧ Below w.heap.size w w' := by
 have hu40 := Tryz.underlying40
 have HR0 := am hr0
 have HC0 := am hc0
 clear hr0 hc0
 have HB := am (Below.refl w.heap.size w)
 unfold spec_DrawReqText.f at h
 have H := h
 clear h
 revert H
 refine ok3 fun t620 t621 t622 A2 H => ?_
 (try dsimp only at H)
 revert H
 refine ok6 fun t624 t625 t626 t629 t630 t631 A3 H => ?_
 (try dsimp only at H)
 simp only [Option.some.injEq, Prod.mk.injEq] at H
 obtain ⟨rfl, rfl, rfl, rfl⟩ := H
 go_enter Tryz.func20, Tryz.ntmps20
 go_wp2_with (first | (refine bx 2 #[.int .i64 0, .string (⟨#[]⟩ : ByteArray), .slice none 0 0, .string (⟨#[]⟩ : ByteArray)] 40 ?_; intro gb619 hg w4 hbox hb; have BK619 := am (hbox); have GW619 := am (sz hg : w.heap.size ≤ gb619); have GE619 := am (sz hg : w.heap.size ≤ gb619); replace HB := am (below_step bl hb); clear hb hbox hg) | (refine gl 4 Tryz.func61 #[.slice A0 l0.length c0] ?_; (with_reducible refine (spec_l1New.calls k _ _ l0 t620 t621 t622 w _ ?side1 ?side2 ?side3 A2.out).mono ?_); (case side1 => exact u20HB); (case side2 => exact HR0.out); (case side3 => exact HC0.out); rintro e w5 ⟨g623, rfl, hi, hb, hb2⟩; refine ⟨_, rfl, ?_⟩; replace HB := am (hb); have HI623 := am (hi); have NB623_619 := am (IsS122.ne_blk hi (blk_below (g := gb619) (o := .cells #[.int .i64 0, .string (⟨#[]⟩ : ByteArray), .slice none 0 0, .string (⟨#[]⟩ : ByteArray)] 40 (0, 0)) (bk BK619) hb2) (by decide)); have NB619_623 := am (Ne.symm (IsS122.ne_blk hi (blk_below (g := gb619) (o := .cells #[.int .i64 0, .string (⟨#[]⟩ : ByteArray), .slice none 0 0, .string (⟨#[]⟩ : ByteArray)] 40 (0, 0)) (bk BK619) hb2) (by decide))); replace BK619 := am (blk_below (g := gb619) (o := .cells #[.int .i64 0, .string (⟨#[]⟩ : ByteArray), .slice none 0 0, .string (⟨#[]⟩ : ByteArray)] 40 (0, 0)) (bk BK619) hb2); clear hb hb2 hi) | (refine gl 5 Tryz.func75 #[.pointer (some ⟨g623, 0, none⟩)] ?_; (with_reducible refine (spec_l3DrawBadReq.calls k g623 t620 t621 t622 t624 t625 t626 t629 t630 t631 w _ ?side1 ?side2 A3.out).mono ?_); (case side1 => exact u20HI623); (case side2 => exact u20HB); rintro e w6 ⟨v627, rfl, ho0, hi, hb, hk⟩; refine ⟨_, rfl, ?_⟩; replace BK619 := kp BK619 hk NB619_623; have HO628 := am (Kd.R_lower ho0 (below_size u20HB)); replace HB := am (hb); replace HI623 := am (hi); clear hb hk hi ho0; have hnb7 := NB619_623.out; have hnc7 := NB623_619.out; obtain ⟨z8_0, y8_0, z8_1, y8_1, z8_2, y8_2, z8_3, y8_3⟩ := cl4 BK619; obtain ⟨Ao9, co9, eo9⟩ := Kd.R_slice HO628.out; subst eo9))
 refine bodyPost_ret (results_cell_row rfl _ _ gb619 40 #[.int .i64 t624, .string t625, .slice Ao9 t626.length co9, .string t629] (0, 0) _ rfl (pt0 BK619) Tryz.underlying40 rfl (by kernel_rfl)) rfl ?_
 exact ⟨_, rf, rg (Kd.R_types HO628.out BK619.out (by decide)), u20HB⟩

/-! ### spec_DrawReqRead: function 25 -/
theorem u25HB {p : Prop} (h : p := by repeat (first | (with_reducible first | exact HB.out | apply below_alloc | apply pw_below_drewN | apply below_drew1 | refine below_set ?_ (IsS122.ge HI646.out)) | exact HB.out)) : p := h
theorem u25HI646 {p : Prop} (h : p := by repeat (first | (with_reducible first | exact HI646.out | apply IsS122.alloc | apply IsS122.drewN | apply IsS122.drew | apply IsS122.set_1 | apply IsS122.set_2) | exact HI646.out)) : p := h
def spec_DrawReqRead.f (k : Nat) (l0 : List Int) : Option (ByteArray) := (spec_l1New.f k l0).bind fun bt643 => ((spec_l3DrawReq.f k bt643.1 bt643.2.1 bt643.2.2).bind fun bt647 => ((spec_ReqText.f k bt647.1 bt647.2.1 bt647.2.2.1 bt647.2.2.2.1).bind fun t655 => ((spec_l3Dent.f bt643.1 bt647.2.2.2.2.1 bt647.2.2.2.2.2 t655 (([(⟨#[32]⟩ : ByteArray), (⟨#[13, 10]⟩ : ByteArray), (⟨#[97, 58, 32, 98, 13, 10]⟩ : ByteArray), (⟨#[120]⟩ : ByteArray), (⟨#[99, 111, 110, 116, 101, 110, 116, 45, 108, 101, 110, 103, 116, 104, 58, 32, 51, 13, 10]⟩ : ByteArray), (⟨#[10]⟩ : ByteArray)] : List ByteArray))).bind fun bt659 => (some bt659.1))))
theorem spec_DrawReqRead.mono : ∀ a0 k, LeO (spec_DrawReqRead.f k a0) (spec_DrawReqRead.f (k + 1) a0) := by
 intro a0 k
 unfold spec_DrawReqRead.f
 have m0 := @spec_ReqText.mono
 have m1 := @spec_l1New.mono
 have m2 := @spec_l3DrawReq.mono
 exact mo
set_option maxHeartbeats 8000000 in
set_option maxRecDepth 100000 in
theorem spec_DrawReqRead.calls (k : Nat) (A0 : Option Addr) (c0 : Nat) (l0 : List Int) (r : ByteArray) (w : World) (hr0 : Kd.C (Kd.int .u8) w A0 l0.length l0) (hc0 : l0.length ≤ c0) (h : spec_DrawReqRead.f k l0 = some r) :
  Calls Tryz.prog 25 #[.slice A0 l0.length c0] w fun e w' => e = .returned (.string r) ∧ Below w.heap.size w w' := by
 have HR0 := am hr0
 have HC0 := am hc0
 clear hr0 hc0
 have HB := am (Below.refl w.heap.size w)
 unfold spec_DrawReqRead.f at h
 have H := h
 clear h
 revert H
 refine ok3 fun t643 t644 t645 A2 H => ?_
 (try dsimp only at H)
 revert H
 refine ok6 fun t647 t648 t649 t652 t653 t654 A3 H => ?_
 (try dsimp only at H)
 revert H
 refine ok1 fun t655 A4 H => ?_
 obtain ⟨y656, hy656⟩ : ∃ y_ : List ByteArray, y_ = (([(⟨#[32]⟩ : ByteArray), (⟨#[13, 10]⟩ : ByteArray), (⟨#[97, 58, 32, 98, 13, 10]⟩ : ByteArray), (⟨#[120]⟩ : ByteArray), (⟨#[99, 111, 110, 116, 101, 110, 116, 45, 108, 101, 110, 103, 116, 104, 58, 32, 51, 13, 10]⟩ : ByteArray), (⟨#[10]⟩ : ByteArray)] : List ByteArray)) := ⟨_, rfl⟩
 replace H : ((spec_l3Dent.f t643 t653 t654 t655 y656).bind fun bt659 => (some bt659.1)) = some r := by first | (rw [hy656]; with_reducible exact H) | (have H2_ := (Option.bind_some _ _).symm.trans H; rw [hy656]; with_reducible exact H2_) | (have H2_ := (Option.bind_some _ _).symm.trans H; with_reducible exact H2_) | with_reducible exact H | (rw [hy656]; exact H) | exact H
 have Ny656 := am hy656
 clear hy656
 revert H
 refine ok3 fun t659 t660 t661 A5 H => ?_
 (try dsimp only at H)
 obtain rfl := Option.some.inj H
 go_enter Tryz.func25, Tryz.ntmps25
 go_wp2_with (first | (refine gl 5 Tryz.func61 #[.slice A0 l0.length c0] ?_; (with_reducible refine (spec_l1New.calls k _ _ l0 t643 t644 t645 w _ ?side1 ?side2 ?side3 A2.out).mono ?_); (case side1 => exact u25HB); (case side2 => exact HR0.out); (case side3 => exact HC0.out); rintro e w6 ⟨g646, rfl, hi, hb, hb2⟩; refine ⟨_, rfl, ?_⟩; replace HB := am (hb); have HI646 := am (hi); clear hb hb2 hi) | (refine gl 8 Tryz.func63 #[.pointer (some ⟨g646, 0, none⟩)] ?_; (with_reducible refine (spec_l3DrawReq.calls k g646 t643 t644 t645 t647 t648 t649 t652 t653 t654 w _ ?side1 ?side2 A3.out).mono ?_); (case side1 => exact u25HI646); (case side2 => exact u25HB); rintro e w7 ⟨v650, rfl, ho0, hi, hb, hk⟩; refine ⟨_, rfl, ?_⟩; have HO651 := am (Kd.R_lower ho0 (below_size u25HB)); replace HB := am (hb); replace HI646 := am (hi); clear hb hk hi ho0; obtain ⟨Ao8, co8, eo8⟩ := Kd.R_slice HO651.out; subst eo8) | (refine gl 9 Tryz.func21 #[.agg #[.int .i64 t647, .string t648, .slice Ao8 t649.length co8, .string t652]] ?_; (with_reducible refine (spec_ReqText.calls k t647 t648 _ _ t649 t652 t655 _ ?side1 ?side2 A4.out).mono ?_); (case side1 => exact rc HO651); (case side2 => exact (Kd.R_reads' HO651.out).2.1); rintro e w9 ⟨rfl, hb⟩; refine ⟨_, rfl, ?_⟩; replace HO651 := kr HO651 hb; replace HB := am (below_step u25HB hb); replace HI646 := am (IsS122.below u25HI646 hb); clear hb) | ((with_reducible refine gate_dst (N := 10) rfl ?_); refine Kd.R_lit Kd.string _ 9 ?hg (N := 10) ?hd (xs := ([(⟨#[32]⟩ : ByteArray), (⟨#[13, 10]⟩ : ByteArray), (⟨#[97, 58, 32, 98, 13, 10]⟩ : ByteArray), (⟨#[120]⟩ : ByteArray), (⟨#[99, 111, 110, 116, 101, 110, 116, 45, 108, 101, 110, 103, 116, 104, 58, 32, 51, 13, 10]⟩ : ByteArray), (⟨#[10]⟩ : ByteArray)] : List ByteArray)) (inner := [.string (⟨#[32]⟩ : ByteArray), .string (⟨#[13, 10]⟩ : ByteArray), .string (⟨#[97, 58, 32, 98, 13, 10]⟩ : ByteArray), .string (⟨#[120]⟩ : ByteArray), .string (⟨#[99, 111, 110, 116, 101, 110, 116, 45, 108, 101, 110, 103, 116, 104, 58, 32, 51, 13, 10]⟩ : ByteArray), .string (⟨#[10]⟩ : ByteArray)]) (ok := fun _ => True) (okp := fun _ => True) ?hr ?hp (fun _ hk => hk) trivial (Below.refl _ _) (Nat.le_refl _) (by simp) ?_; (case hd => rfl); (case hg => rfl); (case hr => first | (go_simp; done) | (go_simp; rfl)); (case hp => exact rp); intro v657 w10 ho11 hb hg_ hnew_; clear hg_ hnew_; (first | rw [← Ny656.out] at ho11 | (simp only [Int.reduceToNat] at ho11; rw [← Ny656.out] at ho11)); replace HO651 := kr HO651 hb; have HO658 := am (Kd.R_lower ho11 (below_size u25HB)); replace HB := am (below_step u25HB hb); replace HI646 := am (IsS122.below u25HI646 hb); clear hb ho11; obtain ⟨Ao12, co12, eo12⟩ := Kd.R_slice HO658.out; subst eo12) | (refine gl 11 Tryz.func85 #[.pointer (some ⟨g646, 0, none⟩), .string t655, .slice Ao12 y656.length co12] ?_; (with_reducible refine (spec_l3Dent.calls g646 t643 t653 t654 t655 _ _ y656 t659 t660 t661 w _ ?side1 ?side2 ?side3 ?side4 ?side5 A5.out).mono ?_); (case side1 => exact u25HI646); (case side2 => exact u25HB); (case side3 => exact rc HO658); (case side4 => exact (Kd.R_reads' HO658.out).2.1); (case side5 => exact far_slice (IsS122.own_ne HI646.out HO658.out (by decide))); rintro e w13 ⟨rfl, hi, hb, hk⟩; refine ⟨_, rfl, ?_⟩; replace HO651 := am (Kd.R_mono (Kd.R_keep (IsS122.apart (show IsS122 w _ g646 t643 t653 t654 from u25HI646) (ro HO651) (by decide)) hk (fun _ h => h.2)) (fun _ h => h.1)); replace HO658 := am (Kd.R_mono (Kd.R_keep (IsS122.apart (show IsS122 w _ g646 t643 t653 t654 from u25HI646) (ro HO658) (by decide)) hk (fun _ h => h.2)) (fun _ h => h.1)); replace HB := am (hb); replace HI646 := am (hi); clear hb hk hi))
 go_ret
 exact ⟨rf, u25HB⟩

end Go.Proofs.YtnmanegjgidgcaaGreatDoor.All
