-- Written by a program of this session (wip/tools/hprint.py) out of the translation. Lean checks it.
import Derived.Test.YtjlpjbkpmmpojaaGreatDoorKHitsAllx0
import Derived.Test.YtjlpjbkpmmpojaaGreatDoorKHitsAllx1
import Derived.Test.YtjlpjbkpmmpojaaGreatDoorKHitsAllx2
import Derived.Test.YtjlpjbkpmmpojaaGreatDoorKHitsAllx6
import Derived.Test.YtjlpjbkpmmpojaaGreatDoorKHitsAllx7
import Derived.Test.YtjlpjbkpmmpojaaGreatDoorKHitsAllx8
import Derived.Test.YtjlpjbkpmmpojaaGreatDoorKHitsAllx13
import Derived.Test.YtjlpjbkpmmpojaaGreatDoorKHitsAllx15
namespace Go.Proofs.YtjlpjbkpmmpojaaGreatDoor.All
open Go.RowKit Go.Proofs.YtjlpjbkpmmpojaaGreatDoorW.PrintWords Go.Proofs.YtjlpjbkpmmpojaaGreatDoorW.PrintLast Go.Proofs.YtjlpjbkpmmpojaaGreatDoorW.PrintMore
attribute [local go_sem] max2_int min2_int max_two min_two max_three min_three max_four min_four  -- for this text's walks alone
set_option linter.unusedVariables false
set_option linter.unusedSimpArgs false

/-! ### spec_l11DrawRight: function 130 -/
theorem u130HI0 {p : Prop} (h : p := by repeat (first | (with_reducible first | exact HI0.out | apply IsS139.alloc | apply IsS139.drewN | apply IsS139.drew | apply IsS139.set_1 | apply IsS139.set_2 | apply IsS139.far (p := ⟨gb143, _, none⟩) (hne := NB0_143.out)) | exact HI0.out)) : p := h
theorem u130HK {p : Prop} (h : p := by repeat (first | (with_reducible first | exact HK.out | apply KeepBut.set_ | apply keep_drewN | apply keep_drew | apply keep_alloc | refine keep_far ?_ GW143.out _) | exact HK.out)) : p := h
theorem u130HB {p : Prop} (h : p := by repeat (first | (with_reducible first | exact HB.out | apply below_alloc | apply pw_below_drewN | apply below_drew1 | refine below_set ?_ (IsS139.ge HI0.out) | refine below_set ?_ GE143.out) | exact HB.out)) : p := h
def spec_l11DrawRight.f (s0_0 : List Int) (s0_1 : Int) (s0_2 : Int) (a1 : Int) : Option (Int × ByteArray × ByteArray × Int × Int × Int) := (spec_l1Below.f s0_0 s0_1 s0_2 3).bind fun bt144 => (if bt144.1 = 0 then ((spec_l1Pick.f s0_0 bt144.2.1 bt144.2.2 (([(⟨#[47]⟩ : ByteArray), (⟨#[47, 97]⟩ : ByteArray), (⟨#[47, 97, 47, 98]⟩ : ByteArray), (⟨#[47, 98]⟩ : ByteArray)] : List ByteArray))).bind fun bt150 => (some (1, bt150.1, (⟨#[]⟩ : ByteArray), a1, bt150.2.1, bt150.2.2))) else (if bt144.1 = 1 then ((spec_l1Pick.f s0_0 bt144.2.1 bt144.2.2 (([(⟨#[47]⟩ : ByteArray), (⟨#[47, 97]⟩ : ByteArray), (⟨#[47, 98, 47, 99]⟩ : ByteArray)] : List ByteArray))).bind fun bt156 => (some (2, bt156.1, (⟨#[]⟩ : ByteArray), a1, bt156.2.1, bt156.2.2))) else ((spec_l1Pick.f s0_0 bt144.2.1 bt144.2.2 (([(⟨#[101, 116, 97, 103]⟩ : ByteArray), (⟨#[120, 45, 97]⟩ : ByteArray)] : List ByteArray))).bind fun bt162 => ((spec_l1Pick.f s0_0 bt162.2.1 bt162.2.2 (([(⟨#[97]⟩ : ByteArray), (⟨#[98]⟩ : ByteArray), (⟨#[49]⟩ : ByteArray)] : List ByteArray))).bind fun bt168 => (some (3, bt162.1, bt168.1, a1, bt168.2.1, bt168.2.2))))))
set_option maxHeartbeats 8000000 in
set_option maxRecDepth 100000 in
theorem spec_l11DrawRight.calls (g : Nat) (s0_0 : List Int) (s0_1 : Int) (s0_2 : Int) (a1 : Int) (r1 : Int) (r2 : ByteArray) (r3 : ByteArray) (r4 : Int) (r5 : Int) (r6 : Int) (w0 w : World) (hI : IsS139 w0 w g s0_0 s0_1 s0_2) (hB : Below w0.heap.size w0 w) (h : spec_l11DrawRight.f s0_0 s0_1 s0_2 a1 = some (r1, r2, r3, r4, r5, r6)) :
  Calls Tryz.prog 130 #[.pointer (some ⟨g, 0, none⟩), .int .i64 a1] w fun e w' => e = .returned (.agg #[.int .i64 r1, .string r2, .string r3, .int .i64 r4]) ∧ IsS139 w0 w' g s0_0 r5 r6 ∧ Below w0.heap.size w0 w' ∧ KeepBut w w' g none := by
 have hu25 := Tryz.underlying25
 have HI0 := am hI
 have HK := am (KeepBut.refl w g none)
 have HL := am hB.size
 clear hI
 have HW0 := am hB.size
 have HB := am hB
 clear hB
 unfold spec_l11DrawRight.f at h
 have H := h
 clear h
 revert H
 refine ok3 fun t144 t145 t146 A3 H => ?_
 (try dsimp only at H)
 have HH4 := am H
 clear H
 go_enter Tryz.func130, Tryz.ntmps130
 go_upto_if 7 with ((with_reducible refine gw ?_); first | (refine bx 4 #[.int .i64 0, .string (⟨#[]⟩ : ByteArray), .string (⟨#[]⟩ : ByteArray), .int .i64 0] 25 ?_; intro gb143 hg w5 hbox hb; have n0_ := am (IsS139.below u130HI0 hb); have n1_ := am (KeepBut.trans u130HK (KeepBut.of_below hb g none) (.inl rfl)); have n2_ := am (below_step u130HB hb); have n3_ := am (hbox); have n4_ := am ((by rw [hg]; exact (keep_size (w := w) (g := g) (row := none) u130HK) : w.heap.size ≤ gb143)); have n5_ := am ((Nat.le_trans HW0.out (by rw [hg]; exact (keep_size (w := w) (g := g) (row := none) u130HK) : w.heap.size ≤ gb143) : w0.heap.size ≤ gb143)); have n6_ := am ((by rw [hg]; exact Nat.ne_of_lt (IsS139.lt (show IsS139 w0 _ g s0_0 s0_1 s0_2 from u130HI0)) : g ≠ gb143)); have n7_ := am ((by rw [hg]; exact Nat.ne_of_gt (IsS139.lt (show IsS139 w0 _ g s0_0 s0_1 s0_2 from u130HI0)) : gb143 ≠ g)); clear HI0; clear HK; clear HB; have HI0 := n0_; have HK := n1_; have HB := n2_; have BK143 := n3_; have GW143 := n4_; have GE143 := n5_; have NB0_143 := n6_; have NB143_0 := n7_; clear n0_ n1_ n2_ n3_ n4_ n5_ n6_ n7_; clear hb hbox hg) | (refine gl 6 Tryz.func74 #[.pointer (some ⟨g, 0, none⟩), .int .i64 3] ?_; (with_reducible refine (spec_l1Below.calls g s0_0 s0_1 s0_2 3 t144 t145 t146 w0 _ ?side1 ?side2 A3.out).mono ?_); (case side1 => exact u130HI0); (case side2 => exact u130HB); rintro e w6 ⟨rfl, hi, hb, hk⟩; refine ⟨_, rfl, ?_⟩; replace BK143 := kp BK143 hk NB143_0; replace HK := am (KeepBut.trans u130HK hk (.inl rfl)); replace HB := am (hb); replace HI0 := am (hi); clear hb hk hi))
 have H := HH4.out
 clear HH4
 by_cases c7 : t144 = 0
 ·rw [if_pos c7] at H
  have c7b0 : (t144 == 0) = true := beq_iff_eq.mpr c7
  have c7b1 : (t144 != 0) = false := bne_eq_false_iff_eq.mpr c7
  clear c7
  (first | rw [c7b0] | (simp only [i64_w, i32_w]; rw [c7b0]) | skip)
  obtain ⟨y147, hy147⟩ : ∃ y_ : List ByteArray, y_ = (([(⟨#[47]⟩ : ByteArray), (⟨#[47, 97]⟩ : ByteArray), (⟨#[47, 97, 47, 98]⟩ : ByteArray), (⟨#[47, 98]⟩ : ByteArray)] : List ByteArray)) := ⟨_, rfl⟩
  replace H : ((spec_l1Pick.f s0_0 t145 t146 y147).bind fun bt150 => (some (1, bt150.1, (⟨#[]⟩ : ByteArray), a1, bt150.2.1, bt150.2.2))) = some (r1, r2, r3, r4, r5, r6) := by first | (rw [hy147]; with_reducible exact H) | (have H2_ := (Option.bind_some _ _).symm.trans H; rw [hy147]; with_reducible exact H2_) | (have H2_ := (Option.bind_some _ _).symm.trans H; with_reducible exact H2_) | with_reducible exact H | (rw [hy147]; exact H) | exact H
  have Ny147 := am hy147
  clear hy147
  revert H
  refine ok3 fun t150 t151 t152 A8 H => ?_
  (try dsimp only at H)
  simp only [Option.some.injEq, Prod.mk.injEq] at H
  obtain ⟨rfl, rfl, rfl, rfl, rfl, rfl⟩ := H
  go_wp2_with (first | ((with_reducible refine gate_dst (N := 10) rfl ?_); refine Kd.R_lit Kd.string _ 9 ?hg (N := 10) ?hd (xs := ([(⟨#[47]⟩ : ByteArray), (⟨#[47, 97]⟩ : ByteArray), (⟨#[47, 97, 47, 98]⟩ : ByteArray), (⟨#[47, 98]⟩ : ByteArray)] : List ByteArray)) (inner := [.string (⟨#[47]⟩ : ByteArray), .string (⟨#[47, 97]⟩ : ByteArray), .string (⟨#[47, 97, 47, 98]⟩ : ByteArray), .string (⟨#[47, 98]⟩ : ByteArray)]) (ok := fun _ => True) (okp := fun _ => True) ?hr ?hp (fun _ hk => hk) trivial (Below.refl _ _) (Nat.le_refl _) (by simp) ?_; (case hd => rfl); (case hg => rfl); (case hr => first | (go_simp; done) | (go_simp; rfl)); (case hp => exact rp); intro v148 w9 ho10 hb hg_ hnew_; clear hg_ hnew_; (first | rw [← Ny147.out] at ho10 | (simp only [Int.reduceToNat] at ho10; rw [← Ny147.out] at ho10)); have HO149 := am (Kd.R_lower ho10 (keep_size (w := w) (g := g) (row := none) u130HK)); replace BK143 := kb BK143 hb; replace HK := am (KeepBut.trans u130HK (KeepBut.of_below hb g none) (.inl rfl)); replace HB := am (below_step u130HB hb); replace HI0 := am (IsS139.below u130HI0 hb); clear hb ho10; obtain ⟨Ao11, co11, eo11⟩ := Kd.R_slice HO149.out; subst eo11) | ((with_reducible refine gw ?_); first | (refine gl 11 Tryz.func84 #[.pointer (some ⟨g, 0, none⟩), .slice Ao11 y147.length co11] ?_; (with_reducible refine (spec_l1Pick.calls g s0_0 t145 t146 _ _ y147 t150 t151 t152 w0 _ ?side1 ?side2 ?side3 ?side4 ?side5 A8.out).mono ?_); (case side1 => exact u130HI0); (case side2 => exact u130HB); (case side3 => exact rc HO149); (case side4 => exact (Kd.R_reads' HO149.out).2.1); (case side5 => exact far_slice (IsS139.own_ne HI0.out HO149.out (by decide))); rintro e w12 ⟨rfl, hi, hb, hk⟩; refine ⟨_, rfl, ?_⟩; replace BK143 := kp BK143 hk NB143_0; replace HO149 := am (Kd.R_mono (Kd.R_keep (IsS139.apart (show IsS139 w0 _ g s0_0 t145 t146 from u130HI0) (ro HO149) (by decide)) hk (fun _ h => h.2)) (fun _ h => h.1)); replace HK := am (KeepBut.trans u130HK hk (.inl rfl)); replace HB := am (hb); replace HI0 := am (hi); clear hb hk hi; have hnb13 := NB143_0.out; have hnc13 := NB0_143.out; obtain ⟨z14_0, y14_0, z14_1, y14_1, z14_2, y14_2, z14_3, y14_3⟩ := cl4 BK143)))
  refine bodyPost_ret (results_cell_row rfl _ _ gb143 25 #[.int .i64 1, .string t150, .string (⟨#[]⟩ : ByteArray), .int .i64 a1] (0, 0) _ rfl (pt0 BK143) Tryz.underlying25 rfl (by kernel_rfl)) rfl ?_
  exact ⟨rf, u130HI0, u130HB, u130HK⟩
 rw [if_neg c7] at H
 have c7b0 : (t144 == 0) = false := beq_eq_false_iff_ne.mpr c7
 have c7b1 : (t144 != 0) = true := bne_iff_ne.mpr c7
 (first | rw [c7b0] | (simp only [i64_w, i32_w]; rw [c7b0]) | skip)
 by_cases c15 : t144 = 1
 ·rw [if_pos c15] at H
  have c15b0 : (t144 == 1) = true := beq_iff_eq.mpr c15
  have c15b1 : (t144 != 1) = false := bne_eq_false_iff_eq.mpr c15
  clear c15
  obtain ⟨y153, hy153⟩ : ∃ y_ : List ByteArray, y_ = (([(⟨#[47]⟩ : ByteArray), (⟨#[47, 97]⟩ : ByteArray), (⟨#[47, 98, 47, 99]⟩ : ByteArray)] : List ByteArray)) := ⟨_, rfl⟩
  replace H : ((spec_l1Pick.f s0_0 t145 t146 y153).bind fun bt156 => (some (2, bt156.1, (⟨#[]⟩ : ByteArray), a1, bt156.2.1, bt156.2.2))) = some (r1, r2, r3, r4, r5, r6) := by first | (rw [hy153]; with_reducible exact H) | (have H2_ := (Option.bind_some _ _).symm.trans H; rw [hy153]; with_reducible exact H2_) | (have H2_ := (Option.bind_some _ _).symm.trans H; with_reducible exact H2_) | with_reducible exact H | (rw [hy153]; exact H) | exact H
  have Ny153 := am hy153
  clear hy153
  revert H
  refine ok3 fun t156 t157 t158 A16 H => ?_
  (try dsimp only at H)
  simp only [Option.some.injEq, Prod.mk.injEq] at H
  obtain ⟨rfl, rfl, rfl, rfl, rfl, rfl⟩ := H
  go_wp2_with (first | ((with_reducible refine gate_dst (N := 17) rfl ?_); refine Kd.R_lit Kd.string _ 9 ?hg (N := 17) ?hd (xs := ([(⟨#[47]⟩ : ByteArray), (⟨#[47, 97]⟩ : ByteArray), (⟨#[47, 98, 47, 99]⟩ : ByteArray)] : List ByteArray)) (inner := [.string (⟨#[47]⟩ : ByteArray), .string (⟨#[47, 97]⟩ : ByteArray), .string (⟨#[47, 98, 47, 99]⟩ : ByteArray)]) (ok := fun _ => True) (okp := fun _ => True) ?hr ?hp (fun _ hk => hk) trivial (Below.refl _ _) (Nat.le_refl _) (by simp) ?_; (case hd => rfl); (case hg => rfl); (case hr => first | (go_simp; done) | (go_simp; rfl)); (case hp => exact rp); intro v154 w17 ho18 hb hg_ hnew_; clear hg_ hnew_; (first | rw [← Ny153.out] at ho18 | (simp only [Int.reduceToNat] at ho18; rw [← Ny153.out] at ho18)); have HO155 := am (Kd.R_lower ho18 (keep_size (w := w) (g := g) (row := none) u130HK)); replace BK143 := kb BK143 hb; replace HK := am (KeepBut.trans u130HK (KeepBut.of_below hb g none) (.inl rfl)); replace HB := am (below_step u130HB hb); replace HI0 := am (IsS139.below u130HI0 hb); clear hb ho18; obtain ⟨Ao19, co19, eo19⟩ := Kd.R_slice HO155.out; subst eo19) | ((with_reducible refine gw ?_); first | (refine gl 18 Tryz.func84 #[.pointer (some ⟨g, 0, none⟩), .slice Ao19 y153.length co19] ?_; (with_reducible refine (spec_l1Pick.calls g s0_0 t145 t146 _ _ y153 t156 t157 t158 w0 _ ?side1 ?side2 ?side3 ?side4 ?side5 A16.out).mono ?_); (case side1 => exact u130HI0); (case side2 => exact u130HB); (case side3 => exact rc HO155); (case side4 => exact (Kd.R_reads' HO155.out).2.1); (case side5 => exact far_slice (IsS139.own_ne HI0.out HO155.out (by decide))); rintro e w20 ⟨rfl, hi, hb, hk⟩; refine ⟨_, rfl, ?_⟩; replace BK143 := kp BK143 hk NB143_0; replace HO155 := am (Kd.R_mono (Kd.R_keep (IsS139.apart (show IsS139 w0 _ g s0_0 t145 t146 from u130HI0) (ro HO155) (by decide)) hk (fun _ h => h.2)) (fun _ h => h.1)); replace HK := am (KeepBut.trans u130HK hk (.inl rfl)); replace HB := am (hb); replace HI0 := am (hi); clear hb hk hi; have hnb21 := NB143_0.out; have hnc21 := NB0_143.out; obtain ⟨z22_0, y22_0, z22_1, y22_1, z22_2, y22_2, z22_3, y22_3⟩ := cl4 BK143)))
  refine bodyPost_ret (results_cell_row rfl _ _ gb143 25 #[.int .i64 2, .string t156, .string (⟨#[]⟩ : ByteArray), .int .i64 a1] (0, 0) _ rfl (pt0 BK143) Tryz.underlying25 rfl (by kernel_rfl)) rfl ?_
  exact ⟨rf, u130HI0, u130HB, u130HK⟩
 rw [if_neg c15] at H
 have c15b0 : (t144 == 1) = false := beq_eq_false_iff_ne.mpr c15
 have c15b1 : (t144 != 1) = true := bne_iff_ne.mpr c15
 obtain ⟨y159, hy159⟩ : ∃ y_ : List ByteArray, y_ = (([(⟨#[101, 116, 97, 103]⟩ : ByteArray), (⟨#[120, 45, 97]⟩ : ByteArray)] : List ByteArray)) := ⟨_, rfl⟩
 replace H : ((spec_l1Pick.f s0_0 t145 t146 y159).bind fun bt162 => ((spec_l1Pick.f s0_0 bt162.2.1 bt162.2.2 (([(⟨#[97]⟩ : ByteArray), (⟨#[98]⟩ : ByteArray), (⟨#[49]⟩ : ByteArray)] : List ByteArray))).bind fun bt168 => (some (3, bt162.1, bt168.1, a1, bt168.2.1, bt168.2.2)))) = some (r1, r2, r3, r4, r5, r6) := by first | (rw [hy159]; with_reducible exact H) | (have H2_ := (Option.bind_some _ _).symm.trans H; rw [hy159]; with_reducible exact H2_) | (have H2_ := (Option.bind_some _ _).symm.trans H; with_reducible exact H2_) | with_reducible exact H | (rw [hy159]; exact H) | exact H
 have Ny159 := am hy159
 clear hy159
 revert H
 refine ok3 fun t162 t163 t164 A23 H => ?_
 (try dsimp only at H)
 obtain ⟨y165, hy165⟩ : ∃ y_ : List ByteArray, y_ = (([(⟨#[97]⟩ : ByteArray), (⟨#[98]⟩ : ByteArray), (⟨#[49]⟩ : ByteArray)] : List ByteArray)) := ⟨_, rfl⟩
 replace H : ((spec_l1Pick.f s0_0 t163 t164 y165).bind fun bt168 => (some (3, t162, bt168.1, a1, bt168.2.1, bt168.2.2))) = some (r1, r2, r3, r4, r5, r6) := by first | (rw [hy165]; with_reducible exact H) | (have H2_ := (Option.bind_some _ _).symm.trans H; rw [hy165]; with_reducible exact H2_) | (have H2_ := (Option.bind_some _ _).symm.trans H; with_reducible exact H2_) | with_reducible exact H | (rw [hy165]; exact H) | exact H
 have Ny165 := am hy165
 clear hy165
 revert H
 refine ok3 fun t168 t169 t170 A24 H => ?_
 (try dsimp only at H)
 simp only [Option.some.injEq, Prod.mk.injEq] at H
 obtain ⟨rfl, rfl, rfl, rfl, rfl, rfl⟩ := H
 go_wp2_with (first | ((with_reducible refine gate_dst (N := 22) rfl ?_); refine Kd.R_lit Kd.string _ 9 ?hg (N := 22) ?hd (xs := ([(⟨#[101, 116, 97, 103]⟩ : ByteArray), (⟨#[120, 45, 97]⟩ : ByteArray)] : List ByteArray)) (inner := [.string (⟨#[101, 116, 97, 103]⟩ : ByteArray), .string (⟨#[120, 45, 97]⟩ : ByteArray)]) (ok := fun _ => True) (okp := fun _ => True) ?hr ?hp (fun _ hk => hk) trivial (Below.refl _ _) (Nat.le_refl _) (by simp) ?_; (case hd => rfl); (case hg => rfl); (case hr => first | (go_simp; done) | (go_simp; rfl)); (case hp => exact rp); intro v160 w25 ho26 hb hg_ hnew_; clear hg_ hnew_; (first | rw [← Ny159.out] at ho26 | (simp only [Int.reduceToNat] at ho26; rw [← Ny159.out] at ho26)); have HO161 := am (Kd.R_lower ho26 (keep_size (w := w) (g := g) (row := none) u130HK)); replace BK143 := kb BK143 hb; replace HK := am (KeepBut.trans u130HK (KeepBut.of_below hb g none) (.inl rfl)); replace HB := am (below_step u130HB hb); replace HI0 := am (IsS139.below u130HI0 hb); clear hb ho26; obtain ⟨Ao27, co27, eo27⟩ := Kd.R_slice HO161.out; subst eo27) | ((with_reducible refine gw ?_); refine gl 23 Tryz.func84 #[.pointer (some ⟨g, 0, none⟩), .slice Ao27 y159.length co27] ?_; (with_reducible refine (spec_l1Pick.calls g s0_0 t145 t146 _ _ y159 t162 t163 t164 w0 _ ?side1 ?side2 ?side3 ?side4 ?side5 A23.out).mono ?_); (case side1 => exact u130HI0); (case side2 => exact u130HB); (case side3 => exact rc HO161); (case side4 => exact (Kd.R_reads' HO161.out).2.1); (case side5 => exact far_slice (IsS139.own_ne HI0.out HO161.out (by decide))); rintro e w28 ⟨rfl, hi, hb, hk⟩; refine ⟨_, rfl, ?_⟩; replace BK143 := kp BK143 hk NB143_0; replace HO161 := am (Kd.R_mono (Kd.R_keep (IsS139.apart (show IsS139 w0 _ g s0_0 t145 t146 from u130HI0) (ro HO161) (by decide)) hk (fun _ h => h.2)) (fun _ h => h.1)); replace HK := am (KeepBut.trans u130HK hk (.inl rfl)); replace HB := am (hb); replace HI0 := am (hi); clear hb hk hi) | ((with_reducible refine gate_dst (N := 25) rfl ?_); refine Kd.R_lit Kd.string _ 9 ?hg (N := 25) ?hd (xs := ([(⟨#[97]⟩ : ByteArray), (⟨#[98]⟩ : ByteArray), (⟨#[49]⟩ : ByteArray)] : List ByteArray)) (inner := [.string (⟨#[97]⟩ : ByteArray), .string (⟨#[98]⟩ : ByteArray), .string (⟨#[49]⟩ : ByteArray)]) (ok := fun _ => True) (okp := fun _ => True) ?hr ?hp (fun _ hk => hk) trivial (Below.refl _ _) (Nat.le_refl _) (by simp) ?_; (case hd => rfl); (case hg => rfl); (case hr => first | (go_simp; done) | (go_simp; rfl)); (case hp => exact rp); intro v166 w29 ho30 hb hg_ hnew_; clear hg_ hnew_; (first | rw [← Ny165.out] at ho30 | (simp only [Int.reduceToNat] at ho30; rw [← Ny165.out] at ho30)); have HO167 := am (Kd.R_lower (Kd.R_new' ho30 (Kd.R_lt (ro HO161))) (keep_size (w := w) (g := g) (row := none) u130HK)); replace HO161 := am (Kd.R_elder' (ro HO161) (Kd.R_base ho30) hb); replace BK143 := kb BK143 hb; replace HK := am (KeepBut.trans u130HK (KeepBut.of_below hb g none) (.inl rfl)); replace HB := am (below_step u130HB hb); replace HI0 := am (IsS139.below u130HI0 hb); clear hb ho30; obtain ⟨Ao31, co31, eo31⟩ := Kd.R_slice HO167.out; subst eo31) | ((with_reducible refine gw ?_); refine gl 26 Tryz.func84 #[.pointer (some ⟨g, 0, none⟩), .slice Ao31 y165.length co31] ?_; (with_reducible refine (spec_l1Pick.calls g s0_0 t163 t164 _ _ y165 t168 t169 t170 w0 _ ?side1 ?side2 ?side3 ?side4 ?side5 A24.out).mono ?_); (case side1 => exact u130HI0); (case side2 => exact u130HB); (case side3 => exact rc HO167); (case side4 => exact (Kd.R_reads' HO167.out).2.1); (case side5 => exact far_slice (IsS139.own_ne HI0.out HO167.out (by decide))); rintro e w32 ⟨rfl, hi, hb, hk⟩; refine ⟨_, rfl, ?_⟩; replace BK143 := kp BK143 hk NB143_0; replace HO161 := am (Kd.R_mono (Kd.R_keep (IsS139.apart (show IsS139 w0 _ g s0_0 t163 t164 from u130HI0) (ro HO161) (by decide)) hk (fun _ h => h.2)) (fun _ h => h.1)); replace HO167 := am (Kd.R_mono (Kd.R_keep (IsS139.apart (show IsS139 w0 _ g s0_0 t163 t164 from u130HI0) (ro HO167) (by decide)) hk (fun _ h => h.2)) (fun _ h => h.1)); replace HK := am (KeepBut.trans u130HK hk (.inl rfl)); replace HB := am (hb); replace HI0 := am (hi); clear hb hk hi; have hnb33 := NB143_0.out; have hnc33 := NB0_143.out; obtain ⟨z34_0, y34_0, z34_1, y34_1, z34_2, y34_2, z34_3, y34_3⟩ := cl4 BK143))
 refine bodyPost_ret (results_cell_row rfl _ _ gb143 25 #[.int .i64 3, .string t162, .string t168, .int .i64 a1] (0, 0) _ rfl (pt0 BK143) Tryz.underlying25 rfl (by kernel_rfl)) rfl ?_
 exact ⟨rf, u130HI0, u130HB, u130HK⟩

/-! ### spec_l11Draw: function 60 -/
theorem u60HI0 {p : Prop} (h : p := by repeat (first | (with_reducible first | exact HI0.out | apply IsS139.alloc | apply IsS139.drewN | apply IsS139.drew | apply IsS139.set_1 | apply IsS139.set_2 | apply IsS139.far (p := ⟨gb171, _, none⟩) (hne := NB0_171.out) | apply IsS139.far (p := ⟨gb181, _, none⟩) (hne := NB0_181.out)) | exact HI0.out)) : p := h
theorem u60HK {p : Prop} (h : p := by repeat (first | (with_reducible first | exact HK.out | apply KeepBut.set_ | apply keep_drewN | apply keep_drew | apply keep_alloc | refine keep_far ?_ GW171.out _ | refine keep_far ?_ GW181.out _) | exact HK.out)) : p := h
theorem u60HB {p : Prop} (h : p := by repeat (first | (with_reducible first | exact HB.out | apply below_alloc | apply pw_below_drewN | apply below_drew1 | refine below_set ?_ (IsS139.ge HI0.out) | refine below_set ?_ GE171.out | refine below_set ?_ GE181.out) | exact HB.out)) : p := h
def spec_l11Draw.f (s0_0 : List Int) (s0_1 : Int) (s0_2 : Int) : Option (Int × ByteArray × ByteArray × Int × Int × Int) := (spec_l1Below.f s0_0 s0_1 s0_2 40).bind fun bt172 => ((spec_l11DrawRight.f s0_0 bt172.2.1 bt172.2.2 bt172.1).bind fun bt175 => ((spec_l1Below.f s0_0 bt175.2.2.2.2.1 bt175.2.2.2.2.2 15).bind fun bt182 => (if bt182.1 = 0 then ((spec_l1Below.f s0_0 bt182.2.1 bt182.2.2 6).bind fun bt185 => (some (wrap64 (bt185.1 - 1), bt175.2.1, bt175.2.2.1, bt175.2.2.2.1, bt185.2.1, bt185.2.2))) else (if bt182.1 = 1 then ((spec_l7DrawTime.f s0_0 bt182.2.1 bt182.2.2).bind fun bt188 => (some (bt175.1, bt175.2.1, bt175.2.2.1, bt188.1, bt188.2.1, bt188.2.2))) else (if bt182.1 = 2 then ((spec_l1Pick.f s0_0 bt182.2.1 bt182.2.2 (([(⟨#[]⟩ : ByteArray), (⟨#[65]⟩ : ByteArray), (⟨#[47, 32]⟩ : ByteArray)] : List ByteArray))).bind fun bt194 => (some (bt175.1, bt194.1, bt175.2.2.1, bt175.2.2.2.1, bt194.2.1, bt194.2.2))) else (if bt182.1 = 3 then ((spec_l1Pick.f s0_0 bt182.2.1 bt182.2.2 (([(⟨#[]⟩ : ByteArray), (⟨#[113]⟩ : ByteArray), (⟨#[32, 113]⟩ : ByteArray)] : List ByteArray))).bind fun bt200 => (some (bt175.1, bt175.2.1, bt200.1, bt175.2.2.2.1, bt200.2.1, bt200.2.2))) else (some (bt175.1, bt175.2.1, bt175.2.2.1, bt175.2.2.2.1, bt182.2.1, bt182.2.2))))))))
set_option maxHeartbeats 8000000 in
set_option maxRecDepth 100000 in
theorem spec_l11Draw.calls (g : Nat) (s0_0 : List Int) (s0_1 : Int) (s0_2 : Int) (r1 : Int) (r2 : ByteArray) (r3 : ByteArray) (r4 : Int) (r5 : Int) (r6 : Int) (w0 w : World) (hI : IsS139 w0 w g s0_0 s0_1 s0_2) (hB : Below w0.heap.size w0 w) (h : spec_l11Draw.f s0_0 s0_1 s0_2 = some (r1, r2, r3, r4, r5, r6)) :
  Calls Tryz.prog 60 #[.pointer (some ⟨g, 0, none⟩)] w fun e w' => e = .returned (.agg #[.int .i64 r1, .string r2, .string r3, .int .i64 r4]) ∧ IsS139 w0 w' g s0_0 r5 r6 ∧ Below w0.heap.size w0 w' ∧ KeepBut w w' g none := by
 have hu25 := Tryz.underlying25
 have HI0 := am hI
 have HK := am (KeepBut.refl w g none)
 have HL := am hB.size
 clear hI
 have HW0 := am hB.size
 have HB := am hB
 clear hB
 unfold spec_l11Draw.f at h
 have H := h
 clear h
 revert H
 refine ok3 fun t172 t173 t174 A2 H => ?_
 (try dsimp only at H)
 revert H
 refine ok6 fun t175 t176 t177 t178 t179 t180 A3 H => ?_
 (try dsimp only at H)
 revert H
 refine ok3 fun t182 t183 t184 A4 H => ?_
 (try dsimp only at H)
 have HH5 := am H
 clear H
 go_enter Tryz.func60, Tryz.ntmps60
 go_upto_if 10 with ((with_reducible refine gw ?_); first | (refine bx 2 #[.int .i64 0, .string (⟨#[]⟩ : ByteArray), .string (⟨#[]⟩ : ByteArray), .int .i64 0] 25 ?_; intro gb171 hg w6 hbox hb; have n0_ := am (IsS139.below u60HI0 hb); have n1_ := am (KeepBut.trans u60HK (KeepBut.of_below hb g none) (.inl rfl)); have n2_ := am (below_step u60HB hb); have n3_ := am (hbox); have n4_ := am ((by rw [hg]; exact (keep_size (w := w) (g := g) (row := none) u60HK) : w.heap.size ≤ gb171)); have n5_ := am ((Nat.le_trans HW0.out (by rw [hg]; exact (keep_size (w := w) (g := g) (row := none) u60HK) : w.heap.size ≤ gb171) : w0.heap.size ≤ gb171)); have n6_ := am ((by rw [hg]; exact Nat.ne_of_lt (IsS139.lt (show IsS139 w0 _ g s0_0 s0_1 s0_2 from u60HI0)) : g ≠ gb171)); have n7_ := am ((by rw [hg]; exact Nat.ne_of_gt (IsS139.lt (show IsS139 w0 _ g s0_0 s0_1 s0_2 from u60HI0)) : gb171 ≠ g)); clear HI0; clear HK; clear HB; have HI0 := n0_; have HK := n1_; have HB := n2_; have BK171 := n3_; have GW171 := n4_; have GE171 := n5_; have NB0_171 := n6_; have NB171_0 := n7_; clear n0_ n1_ n2_ n3_ n4_ n5_ n6_ n7_; clear hb hbox hg) | (refine gl 6 Tryz.func74 #[.pointer (some ⟨g, 0, none⟩), .int .i64 40] ?_; (with_reducible refine (spec_l1Below.calls g s0_0 s0_1 s0_2 40 t172 t173 t174 w0 _ ?side1 ?side2 A2.out).mono ?_); (case side1 => exact u60HI0); (case side2 => exact u60HB); rintro e w7 ⟨rfl, hi, hb, hk⟩; refine ⟨_, rfl, ?_⟩; replace BK171 := kp BK171 hk NB171_0; replace HK := am (KeepBut.trans u60HK hk (.inl rfl)); replace HB := am (hb); replace HI0 := am (hi); clear hb hk hi) | (refine gl 7 Tryz.func130 #[.pointer (some ⟨g, 0, none⟩), .int .i64 t172] ?_; (with_reducible refine (spec_l11DrawRight.calls g s0_0 t173 t174 t172 t175 t176 t177 t178 t179 t180 w0 _ ?side1 ?side2 A3.out).mono ?_); (case side1 => exact u60HI0); (case side2 => exact u60HB); rintro e w8 ⟨rfl, hi, hb, hk⟩; refine ⟨_, rfl, ?_⟩; replace BK171 := kp BK171 hk NB171_0; replace HK := am (KeepBut.trans u60HK hk (.inl rfl)); replace HB := am (hb); replace HI0 := am (hi); clear hb hk hi) | (refine bx 3 #[.int .i64 0, .string (⟨#[]⟩ : ByteArray), .string (⟨#[]⟩ : ByteArray), .int .i64 0] 25 ?_; intro gb181 hg w9 hbox hb; have n0_ := am (IsS139.below u60HI0 hb); have n1_ := kb BK171 hb; have n2_ := am (KeepBut.trans u60HK (KeepBut.of_below hb g none) (.inl rfl)); have n3_ := am (below_step u60HB hb); have n4_ := am (hbox); have n5_ := am ((by rw [hg]; exact (keep_size (w := w) (g := g) (row := none) u60HK) : w.heap.size ≤ gb181)); have n6_ := am ((Nat.le_trans HW0.out (by rw [hg]; exact (keep_size (w := w) (g := g) (row := none) u60HK) : w.heap.size ≤ gb181) : w0.heap.size ≤ gb181)); have n7_ := am (nl hg BK171 : gb171 ≠ gb181); have n8_ := am (ng hg BK171 : gb181 ≠ gb171); have n9_ := am ((by rw [hg]; exact Nat.ne_of_lt (IsS139.lt (show IsS139 w0 _ g s0_0 t179 t180 from u60HI0)) : g ≠ gb181)); have n10_ := am ((by rw [hg]; exact Nat.ne_of_gt (IsS139.lt (show IsS139 w0 _ g s0_0 t179 t180 from u60HI0)) : gb181 ≠ g)); clear HI0; clear BK171; clear HK; clear HB; have HI0 := n0_; have BK171 := n1_; have HK := n2_; have HB := n3_; have BK181 := n4_; have GW181 := n5_; have GE181 := n6_; have NB171_181 := n7_; have NB181_171 := n8_; have NB0_181 := n9_; have NB181_0 := n10_; clear n0_ n1_ n2_ n3_ n4_ n5_ n6_ n7_ n8_ n9_ n10_; clear hb hbox hg; have hnb10 := NB181_171.out; have hnc10 := NB171_181.out; have hnb11 := NB181_0.out; have hnc11 := NB0_181.out; obtain ⟨z12_0, y12_0, z12_1, y12_1, z12_2, y12_2, z12_3, y12_3⟩ := cl4 BK181) | (refine gl 9 Tryz.func74 #[.pointer (some ⟨g, 0, none⟩), .int .i64 15] ?_; (with_reducible refine (spec_l1Below.calls g s0_0 t179 t180 15 t182 t183 t184 w0 _ ?side1 ?side2 A4.out).mono ?_); (case side1 => exact u60HI0); (case side2 => exact u60HB); rintro e w13 ⟨rfl, hi, hb, hk⟩; refine ⟨_, rfl, ?_⟩; replace BK171 := am (KeepBut.blk hk (g' := gb171) (o := .cells #[.int .i64 0, .string (⟨#[]⟩ : ByteArray), .string (⟨#[]⟩ : ByteArray), .int .i64 0] 25 (0, 0)) (bg1 BK171 NB171_181) NB171_0.out (by simp)); replace BK181 := am (KeepBut.blk hk (g' := gb181) (o := .cells #[.int .i64 t175, .string t176, .string t177, .int .i64 t178] 25 (0, 0)) (pt0 BK181) NB181_0.out (by simp)); replace HK := am (KeepBut.trans u60HK hk (.inl rfl)); replace HB := am (hb); replace HI0 := am (hi); clear hb hk hi))
 have H := HH5.out
 clear HH5
 by_cases c14 : t182 = 0
 ·rw [if_pos c14] at H
  have c14b0 : (t182 == 0) = true := beq_iff_eq.mpr c14
  have c14b1 : (t182 != 0) = false := bne_eq_false_iff_eq.mpr c14
  clear c14
  (first | rw [c14b0] | (simp only [i64_w, i32_w]; rw [c14b0]) | skip)
  revert H
  refine ok3 fun t185 t186 t187 A15 H => ?_
  (try dsimp only at H)
  simp only [Option.some.injEq, Prod.mk.injEq] at H
  obtain ⟨rfl, rfl, rfl, rfl, rfl, rfl⟩ := H
  go_wp2_with ((with_reducible refine gw ?_); first | (refine gl 13 Tryz.func74 #[.pointer (some ⟨g, 0, none⟩), .int .i64 6] ?_; (with_reducible refine (spec_l1Below.calls g s0_0 t183 t184 6 t185 t186 t187 w0 _ ?side1 ?side2 A15.out).mono ?_); (case side1 => exact u60HI0); (case side2 => exact u60HB); rintro e w16 ⟨rfl, hi, hb, hk⟩; refine ⟨_, rfl, ?_⟩; replace BK171 := kp BK171 hk NB171_0; replace BK181 := kp BK181 hk NB181_0; replace HK := am (KeepBut.trans u60HK hk (.inl rfl)); replace HB := am (hb); replace HI0 := am (hi); clear hb hk hi; have hnb17 := NB181_171.out; have hnc17 := NB171_181.out; have hnb18 := NB181_0.out; have hnc18 := NB0_181.out; obtain ⟨z19_0, y19_0, z19_1, y19_1, z19_2, y19_2, z19_3, y19_3⟩ := cl4 BK181; have hnb20 := NB171_0.out; have hnc20 := NB0_171.out; obtain ⟨z21_0, y21_0, z21_1, y21_1, z21_2, y21_2, z21_3, y21_3⟩ := cl4 BK171))
  refine bodyPost_ret (results_cell_row rfl _ _ gb171 25 #[.int .i64 (wrap64 (t185 - 1)), .string t176, .string t177, .int .i64 t178] (0, 0) _ rfl (pt1 BK171 NB171_181) Tryz.underlying25 rfl (by kernel_rfl)) rfl ?_
  exact ⟨rf, u60HI0, u60HB, u60HK⟩
 rw [if_neg c14] at H
 have c14b0 : (t182 == 0) = false := beq_eq_false_iff_ne.mpr c14
 have c14b1 : (t182 != 0) = true := bne_iff_ne.mpr c14
 (first | rw [c14b0] | (simp only [i64_w, i32_w]; rw [c14b0]) | skip)
 by_cases c22 : t182 = 1
 ·rw [if_pos c22] at H
  have c22b0 : (t182 == 1) = true := beq_iff_eq.mpr c22
  have c22b1 : (t182 != 1) = false := bne_eq_false_iff_eq.mpr c22
  clear c22
  revert H
  refine ok3 fun t188 t189 t190 A23 H => ?_
  (try dsimp only at H)
  simp only [Option.some.injEq, Prod.mk.injEq] at H
  obtain ⟨rfl, rfl, rfl, rfl, rfl, rfl⟩ := H
  go_wp2_with ((with_reducible refine gw ?_); first | (refine gl 19 Tryz.func125 #[.pointer (some ⟨g, 0, none⟩)] ?_; (with_reducible refine (spec_l7DrawTime.calls g s0_0 t183 t184 t188 t189 t190 w0 _ ?side1 ?side2 A23.out).mono ?_); (case side1 => exact u60HI0); (case side2 => exact u60HB); rintro e w24 ⟨rfl, hi, hb, hk⟩; refine ⟨_, rfl, ?_⟩; replace BK171 := kp BK171 hk NB171_0; replace BK181 := kp BK181 hk NB181_0; replace HK := am (KeepBut.trans u60HK hk (.inl rfl)); replace HB := am (hb); replace HI0 := am (hi); clear hb hk hi; have hnb25 := NB181_171.out; have hnc25 := NB171_181.out; have hnb26 := NB181_0.out; have hnc26 := NB0_181.out; obtain ⟨z27_0, y27_0, z27_1, y27_1, z27_2, y27_2, z27_3, y27_3⟩ := cl4 BK181; have hnb28 := NB171_0.out; have hnc28 := NB0_171.out; obtain ⟨z29_0, y29_0, z29_1, y29_1, z29_2, y29_2, z29_3, y29_3⟩ := cl4 BK171))
  refine bodyPost_ret (results_cell_row rfl _ _ gb171 25 #[.int .i64 t175, .string t176, .string t177, .int .i64 t188] (0, 0) _ rfl (pt1 BK171 NB171_181) Tryz.underlying25 rfl (by kernel_rfl)) rfl ?_
  exact ⟨rf, u60HI0, u60HB, u60HK⟩
 rw [if_neg c22] at H
 have c22b0 : (t182 == 1) = false := beq_eq_false_iff_ne.mpr c22
 have c22b1 : (t182 != 1) = true := bne_iff_ne.mpr c22
 by_cases c30 : t182 = 2
 ·rw [if_pos c30] at H
  have c30b0 : (t182 == 2) = true := beq_iff_eq.mpr c30
  have c30b1 : (t182 != 2) = false := bne_eq_false_iff_eq.mpr c30
  clear c30
  obtain ⟨y191, hy191⟩ : ∃ y_ : List ByteArray, y_ = (([(⟨#[]⟩ : ByteArray), (⟨#[65]⟩ : ByteArray), (⟨#[47, 32]⟩ : ByteArray)] : List ByteArray)) := ⟨_, rfl⟩
  replace H : ((spec_l1Pick.f s0_0 t183 t184 y191).bind fun bt194 => (some (t175, bt194.1, t177, t178, bt194.2.1, bt194.2.2))) = some (r1, r2, r3, r4, r5, r6) := by first | (rw [hy191]; with_reducible exact H) | (have H2_ := (Option.bind_some _ _).symm.trans H; rw [hy191]; with_reducible exact H2_) | (have H2_ := (Option.bind_some _ _).symm.trans H; with_reducible exact H2_) | with_reducible exact H | (rw [hy191]; exact H) | exact H
  have Ny191 := am hy191
  clear hy191
  revert H
  refine ok3 fun t194 t195 t196 A31 H => ?_
  (try dsimp only at H)
  simp only [Option.some.injEq, Prod.mk.injEq] at H
  obtain ⟨rfl, rfl, rfl, rfl, rfl, rfl⟩ := H
  go_wp2_with (first | ((with_reducible refine gate_dst (N := 24) rfl ?_); refine Kd.R_lit Kd.string _ 9 ?hg (N := 24) ?hd (xs := ([(⟨#[]⟩ : ByteArray), (⟨#[65]⟩ : ByteArray), (⟨#[47, 32]⟩ : ByteArray)] : List ByteArray)) (inner := [.string (⟨#[]⟩ : ByteArray), .string (⟨#[65]⟩ : ByteArray), .string (⟨#[47, 32]⟩ : ByteArray)]) (ok := fun _ => True) (okp := fun _ => True) ?hr ?hp (fun _ hk => hk) trivial (Below.refl _ _) (Nat.le_refl _) (by simp) ?_; (case hd => rfl); (case hg => rfl); (case hr => first | (go_simp; done) | (go_simp; rfl)); (case hp => exact rp); intro v192 w32 ho33 hb hg_ hnew_; clear hg_ hnew_; (first | rw [← Ny191.out] at ho33 | (simp only [Int.reduceToNat] at ho33; rw [← Ny191.out] at ho33)); have HO193 := am (Kd.R_lower ho33 (keep_size (w := w) (g := g) (row := none) u60HK)); replace BK171 := kb BK171 hb; replace BK181 := kb BK181 hb; replace HK := am (KeepBut.trans u60HK (KeepBut.of_below hb g none) (.inl rfl)); replace HB := am (below_step u60HB hb); replace HI0 := am (IsS139.below u60HI0 hb); clear hb ho33; obtain ⟨Ao34, co34, eo34⟩ := Kd.R_slice HO193.out; subst eo34) | ((with_reducible refine gw ?_); first | (refine gl 25 Tryz.func84 #[.pointer (some ⟨g, 0, none⟩), .slice Ao34 y191.length co34] ?_; (with_reducible refine (spec_l1Pick.calls g s0_0 t183 t184 _ _ y191 t194 t195 t196 w0 _ ?side1 ?side2 ?side3 ?side4 ?side5 A31.out).mono ?_); (case side1 => exact u60HI0); (case side2 => exact u60HB); (case side3 => exact rc HO193); (case side4 => exact (Kd.R_reads' HO193.out).2.1); (case side5 => exact far_slice (IsS139.own_ne HI0.out HO193.out (by decide))); rintro e w35 ⟨rfl, hi, hb, hk⟩; refine ⟨_, rfl, ?_⟩; replace BK171 := kp BK171 hk NB171_0; replace BK181 := kp BK181 hk NB181_0; replace HO193 := am (Kd.R_mono (Kd.R_keep (IsS139.apart (show IsS139 w0 _ g s0_0 t183 t184 from u60HI0) (ro HO193) (by decide)) hk (fun _ h => h.2)) (fun _ h => h.1)); replace HK := am (KeepBut.trans u60HK hk (.inl rfl)); replace HB := am (hb); replace HI0 := am (hi); clear hb hk hi; have hnb36 := NB181_171.out; have hnc36 := NB171_181.out; have hnb37 := NB181_0.out; have hnc37 := NB0_181.out; obtain ⟨z38_0, y38_0, z38_1, y38_1, z38_2, y38_2, z38_3, y38_3⟩ := cl4 BK181; have hnb39 := NB171_0.out; have hnc39 := NB0_171.out; obtain ⟨z40_0, y40_0, z40_1, y40_1, z40_2, y40_2, z40_3, y40_3⟩ := cl4 BK171)))
  refine bodyPost_ret (results_cell_row rfl _ _ gb171 25 #[.int .i64 t175, .string t194, .string t177, .int .i64 t178] (0, 0) _ rfl (pt1 BK171 NB171_181) Tryz.underlying25 rfl (by kernel_rfl)) rfl ?_
  exact ⟨rf, u60HI0, u60HB, u60HK⟩
 rw [if_neg c30] at H
 have c30b0 : (t182 == 2) = false := beq_eq_false_iff_ne.mpr c30
 have c30b1 : (t182 != 2) = true := bne_iff_ne.mpr c30
 by_cases c41 : t182 = 3
 rotate_left
 ·rw [if_neg c41] at H
  have c41b0 : (t182 == 3) = false := beq_eq_false_iff_ne.mpr c41
  have c41b1 : (t182 != 3) = true := bne_iff_ne.mpr c41
  simp only [Option.some.injEq, Prod.mk.injEq] at H
  obtain ⟨rfl, rfl, rfl, rfl, rfl, rfl⟩ := H
  have hnb52 := NB181_171.out
  have hnc52 := NB171_181.out
  have hnb53 := NB181_0.out
  have hnc53 := NB0_181.out
  obtain ⟨z54_0, y54_0, z54_1, y54_1, z54_2, y54_2, z54_3, y54_3⟩ := cl4 BK181
  have hnb55 := NB171_0.out
  have hnc55 := NB0_171.out
  obtain ⟨z56_0, y56_0, z56_1, y56_1, z56_2, y56_2, z56_3, y56_3⟩ := cl4 BK171
  go_wp2
  refine bodyPost_ret (results_cell_row rfl _ _ gb171 25 #[.int .i64 t175, .string t176, .string t177, .int .i64 t178] (0, 0) _ rfl (pt0 BK171) Tryz.underlying25 rfl (by kernel_rfl)) rfl ?_
  exact ⟨rf, u60HI0, u60HB, u60HK⟩
 rw [if_pos c41] at H
 have c41b0 : (t182 == 3) = true := beq_iff_eq.mpr c41
 have c41b1 : (t182 != 3) = false := bne_eq_false_iff_eq.mpr c41
 clear c41
 obtain ⟨y197, hy197⟩ : ∃ y_ : List ByteArray, y_ = (([(⟨#[]⟩ : ByteArray), (⟨#[113]⟩ : ByteArray), (⟨#[32, 113]⟩ : ByteArray)] : List ByteArray)) := ⟨_, rfl⟩
 replace H : ((spec_l1Pick.f s0_0 t183 t184 y197).bind fun bt200 => (some (t175, t176, bt200.1, t178, bt200.2.1, bt200.2.2))) = some (r1, r2, r3, r4, r5, r6) := by first | (rw [hy197]; with_reducible exact H) | (have H2_ := (Option.bind_some _ _).symm.trans H; rw [hy197]; with_reducible exact H2_) | (have H2_ := (Option.bind_some _ _).symm.trans H; with_reducible exact H2_) | with_reducible exact H | (rw [hy197]; exact H) | exact H
 have Ny197 := am hy197
 clear hy197
 revert H
 refine ok3 fun t200 t201 t202 A42 H => ?_
 (try dsimp only at H)
 simp only [Option.some.injEq, Prod.mk.injEq] at H
 obtain ⟨rfl, rfl, rfl, rfl, rfl, rfl⟩ := H
 go_wp2_with (first | ((with_reducible refine gate_dst (N := 30) rfl ?_); refine Kd.R_lit Kd.string _ 9 ?hg (N := 30) ?hd (xs := ([(⟨#[]⟩ : ByteArray), (⟨#[113]⟩ : ByteArray), (⟨#[32, 113]⟩ : ByteArray)] : List ByteArray)) (inner := [.string (⟨#[]⟩ : ByteArray), .string (⟨#[113]⟩ : ByteArray), .string (⟨#[32, 113]⟩ : ByteArray)]) (ok := fun _ => True) (okp := fun _ => True) ?hr ?hp (fun _ hk => hk) trivial (Below.refl _ _) (Nat.le_refl _) (by simp) ?_; (case hd => rfl); (case hg => rfl); (case hr => first | (go_simp; done) | (go_simp; rfl)); (case hp => exact rp); intro v198 w43 ho44 hb hg_ hnew_; clear hg_ hnew_; (first | rw [← Ny197.out] at ho44 | (simp only [Int.reduceToNat] at ho44; rw [← Ny197.out] at ho44)); have HO199 := am (Kd.R_lower ho44 (keep_size (w := w) (g := g) (row := none) u60HK)); replace BK171 := kb BK171 hb; replace BK181 := kb BK181 hb; replace HK := am (KeepBut.trans u60HK (KeepBut.of_below hb g none) (.inl rfl)); replace HB := am (below_step u60HB hb); replace HI0 := am (IsS139.below u60HI0 hb); clear hb ho44; obtain ⟨Ao45, co45, eo45⟩ := Kd.R_slice HO199.out; subst eo45) | ((with_reducible refine gw ?_); first | (refine gl 31 Tryz.func84 #[.pointer (some ⟨g, 0, none⟩), .slice Ao45 y197.length co45] ?_; (with_reducible refine (spec_l1Pick.calls g s0_0 t183 t184 _ _ y197 t200 t201 t202 w0 _ ?side1 ?side2 ?side3 ?side4 ?side5 A42.out).mono ?_); (case side1 => exact u60HI0); (case side2 => exact u60HB); (case side3 => exact rc HO199); (case side4 => exact (Kd.R_reads' HO199.out).2.1); (case side5 => exact far_slice (IsS139.own_ne HI0.out HO199.out (by decide))); rintro e w46 ⟨rfl, hi, hb, hk⟩; refine ⟨_, rfl, ?_⟩; replace BK171 := kp BK171 hk NB171_0; replace BK181 := kp BK181 hk NB181_0; replace HO199 := am (Kd.R_mono (Kd.R_keep (IsS139.apart (show IsS139 w0 _ g s0_0 t183 t184 from u60HI0) (ro HO199) (by decide)) hk (fun _ h => h.2)) (fun _ h => h.1)); replace HK := am (KeepBut.trans u60HK hk (.inl rfl)); replace HB := am (hb); replace HI0 := am (hi); clear hb hk hi; have hnb47 := NB181_171.out; have hnc47 := NB171_181.out; have hnb48 := NB181_0.out; have hnc48 := NB0_181.out; obtain ⟨z49_0, y49_0, z49_1, y49_1, z49_2, y49_2, z49_3, y49_3⟩ := cl4 BK181; have hnb50 := NB171_0.out; have hnc50 := NB0_171.out; obtain ⟨z51_0, y51_0, z51_1, y51_1, z51_2, y51_2, z51_3, y51_3⟩ := cl4 BK171)))
 refine bodyPost_ret (results_cell_row rfl _ _ gb171 25 #[.int .i64 t175, .string t176, .string t200, .int .i64 t178] (0, 0) _ rfl (pt1 BK171 NB171_181) Tryz.underlying25 rfl (by kernel_rfl)) rfl ?_
 exact ⟨rf, u60HI0, u60HB, u60HK⟩

/-! ### spec_DrawHits: function 11 -/
theorem u11HB {p : Prop} (h : p := by repeat (first | (with_reducible first | exact HB.out | apply below_alloc | apply pw_below_drewN | apply below_drew1 | refine below_set ?_ GE727.out | refine below_set ?_ GE728.out | refine below_set ?_ (IsS139.ge HI732.out) | refine below_set ?_ GE739.out) | exact HB.out)) : p := h
theorem u11HI732 {p : Prop} (h : p := by repeat (first | (with_reducible first | exact HI732.out | apply IsS139.alloc | apply IsS139.drewN | apply IsS139.drew | apply IsS139.set_1 | apply IsS139.set_2 | apply IsS139.far (p := ⟨gb727, _, none⟩) (hne := NB732_727.out) | apply IsS139.far (p := ⟨gb728, _, none⟩) (hne := NB732_728.out) | apply IsS139.far (p := ⟨gb739, _, none⟩) (hne := NB732_739.out)) | exact HI732.out)) : p := h
def spec_DrawHits.f (k : Nat) (l0 : List Int) : Option (Int × ByteArray × ByteArray × Int × ByteArray × List ByteArray × List ByteArray × Int × (List (S116)) × ByteArray × Int) := (spec_l1New.f k l0).bind fun bt729 => ((spec_l11Draw.f bt729.1 bt729.2.1 bt729.2.2).bind fun bt733 => ((spec_l10Draw.f k bt729.1 bt733.2.2.2.2.1 bt733.2.2.2.2.2).bind fun bt740 => (some (bt733.1, bt733.2.1, bt733.2.2.1, bt733.2.2.2.1, bt740.1, bt740.2.1, bt740.2.2.1, bt740.2.2.2.1, bt740.2.2.2.2.1, bt740.2.2.2.2.2.1, bt740.2.2.2.2.2.2.1))))
set_option maxHeartbeats 8000000 in
set_option maxRecDepth 100000 in
theorem spec_DrawHits.calls (k : Nat) (A0 : Option Addr) (c0 : Nat) (l0 : List Int) (r1 : Int) (r2 : ByteArray) (r3 : ByteArray) (r4 : Int) (r5 : ByteArray) (r6 : List ByteArray) (r7 : List ByteArray) (r8 : Int) (r9 : List (S116)) (r10 : ByteArray) (r11 : Int) (w : World) (hr0 : Kd.C (Kd.int .u8) w A0 l0.length l0) (hc0 : l0.length ≤ c0) (h : spec_DrawHits.f k l0 = some (r1, r2, r3, r4, r5, r6, r7, r8, r9, r10, r11)) :
  Calls Tryz.prog 11 #[.slice A0 l0.length c0] w fun e w' => ∃ v5_ v6_ v8_ : Value, e = .returned (.tuple #[.agg #[.int .i64 r1, .string r2, .string r3, .int .i64 r4], .agg #[.string r5, v5_, v6_, .int .i64 r8, v8_, .string r10, .int .i64 r11]]) ∧ Kd.R Kd.string 9 w' w.heap.size (fun k_ => some k_ ≠ (v6_ : Value).ownBlock) v5_ r6 ∧ Kd.R Kd.string 9 w' w.heap.size (fun k_ => some k_ ≠ (v5_ : Value).ownBlock) v6_ r7 ∧ Kd.R k116 116 w' w.heap.size (fun _ => True) v8_ r9 ∧ Below w.heap.size w w' := by
 have hu25 := Tryz.underlying25
 have hu31 := Tryz.underlying31
 have HR0 := am hr0
 have HC0 := am hc0
 clear hr0 hc0
 have HB := am (Below.refl w.heap.size w)
 unfold spec_DrawHits.f at h
 have H := h
 clear h
 revert H
 refine ok3 fun t729 t730 t731 A2 H => ?_
 (try dsimp only at H)
 revert H
 refine ok6 fun t733 t734 t735 t736 t737 t738 A3 H => ?_
 (try dsimp only at H)
 replace H := ob H
 obtain ⟨⟨t740, t741, t744, t747, t748, t751, t752, t753, t754⟩, A40, H⟩ := H
 replace H : (some (t733, t734, t735, t736, t740, t741, t744, t747, t748, t751, t752)) = some (r1, r2, r3, r4, r5, r6, r7, r8, r9, r10, r11) := H
 have A4 := am A40
 clear A40
 simp only [Option.some.injEq, Prod.mk.injEq] at H
 obtain ⟨rfl, rfl, rfl, rfl, rfl, rfl, rfl, rfl, rfl, rfl, rfl⟩ := H
 go_enter Tryz.func11, Tryz.ntmps11
 try go_wp2_with ((with_reducible refine gw ?_); first | (refine bx 2 #[.int .i64 0, .string (⟨#[]⟩ : ByteArray), .string (⟨#[]⟩ : ByteArray), .int .i64 0] 25 ?_; intro gb727 hg w5 hbox hb; have BK727 := am (hbox); have GW727 := am (sz hg : w.heap.size ≤ gb727); have GE727 := am (sz hg : w.heap.size ≤ gb727); replace HB := am (below_step bl hb); clear hb hbox hg) | (refine bx 3 #[.string (⟨#[]⟩ : ByteArray), .slice none 0 0, .slice none 0 0, .int .i64 0, .slice none 0 0, .string (⟨#[]⟩ : ByteArray), .int .i64 0] 31 ?_; intro gb728 hg w6 hbox hb; have BK728 := am (hbox); have GW728 := am (sz hg : w.heap.size ≤ gb728); have GE728 := am (sz hg : w.heap.size ≤ gb728); replace HB := am (below_step bl hb); have NB727_728 := am (nl hg BK727 : gb727 ≠ gb728); have NB728_727 := am (ng hg BK727 : gb728 ≠ gb727); replace BK727 := kb BK727 hb; clear hb hbox hg) | (refine gl 7 Tryz.func59 #[.slice A0 l0.length c0] ?_; (with_reducible refine (spec_l1New.calls k _ _ l0 t729 t730 t731 w _ ?side1 ?side2 ?side3 A2.out).mono ?_); (case side1 => exact u11HB); (case side2 => exact HR0.out); (case side3 => exact HC0.out); rintro e w7 ⟨g732, rfl, hi, hb, hb2⟩; refine ⟨_, rfl, ?_⟩; replace HB := am (hb); have HI732 := am (hi); have NB732_727 := am (IsS139.ne_blk hi (blk_below (g := gb727) (o := .cells #[.int .i64 0, .string (⟨#[]⟩ : ByteArray), .string (⟨#[]⟩ : ByteArray), .int .i64 0] 25 (0, 0)) (bk BK727) hb2) (by decide)); have NB727_732 := am (Ne.symm (IsS139.ne_blk hi (blk_below (g := gb727) (o := .cells #[.int .i64 0, .string (⟨#[]⟩ : ByteArray), .string (⟨#[]⟩ : ByteArray), .int .i64 0] 25 (0, 0)) (bk BK727) hb2) (by decide))); replace BK727 := am (blk_below (g := gb727) (o := .cells #[.int .i64 0, .string (⟨#[]⟩ : ByteArray), .string (⟨#[]⟩ : ByteArray), .int .i64 0] 25 (0, 0)) (bk BK727) hb2); have NB732_728 := am (IsS139.ne_blk hi (blk_below (g := gb728) (o := .cells #[.string (⟨#[]⟩ : ByteArray), .slice none 0 0, .slice none 0 0, .int .i64 0, .slice none 0 0, .string (⟨#[]⟩ : ByteArray), .int .i64 0] 31 (0, 0)) (bk BK728) hb2) (by decide)); have NB728_732 := am (Ne.symm (IsS139.ne_blk hi (blk_below (g := gb728) (o := .cells #[.string (⟨#[]⟩ : ByteArray), .slice none 0 0, .slice none 0 0, .int .i64 0, .slice none 0 0, .string (⟨#[]⟩ : ByteArray), .int .i64 0] 31 (0, 0)) (bk BK728) hb2) (by decide))); replace BK728 := am (blk_below (g := gb728) (o := .cells #[.string (⟨#[]⟩ : ByteArray), .slice none 0 0, .slice none 0 0, .int .i64 0, .slice none 0 0, .string (⟨#[]⟩ : ByteArray), .int .i64 0] 31 (0, 0)) (bk BK728) hb2); clear hb hb2 hi) | (refine gl 9 Tryz.func60 #[.pointer (some ⟨g732, 0, none⟩)] ?_; (with_reducible refine (spec_l11Draw.calls g732 t729 t730 t731 t733 t734 t735 t736 t737 t738 w _ ?side1 ?side2 A3.out).mono ?_); (case side1 => exact u11HI732); (case side2 => exact u11HB); rintro e w8 ⟨rfl, hi, hb, hk⟩; refine ⟨_, rfl, ?_⟩; replace BK727 := kp BK727 hk NB727_732; replace BK728 := kp BK728 hk NB728_732; replace HB := am (hb); replace HI732 := am (hi); clear hb hk hi) | (refine bx 5 #[.int .i64 0, .string (⟨#[]⟩ : ByteArray), .string (⟨#[]⟩ : ByteArray), .int .i64 0] 25 ?_; intro gb739 hg w9 hbox hb; have n0_ := kb BK727 hb; have n1_ := kb BK728 hb; have n2_ := am (IsS139.below u11HI732 hb); have n3_ := am (below_step u11HB hb); have n4_ := am (hbox); have n5_ := am ((by rw [hg]; exact (below_size u11HB) : w.heap.size ≤ gb739)); have n6_ := am ((by rw [hg]; exact (below_size u11HB) : w.heap.size ≤ gb739)); have n7_ := am (nl hg BK727 : gb727 ≠ gb739); have n8_ := am (ng hg BK727 : gb739 ≠ gb727); have n9_ := am (nl hg BK728 : gb728 ≠ gb739); have n10_ := am (ng hg BK728 : gb739 ≠ gb728); have n11_ := am ((by rw [hg]; exact Nat.ne_of_lt (IsS139.lt (show IsS139 w _ g732 t729 t737 t738 from u11HI732)) : g732 ≠ gb739)); have n12_ := am ((by rw [hg]; exact Nat.ne_of_gt (IsS139.lt (show IsS139 w _ g732 t729 t737 t738 from u11HI732)) : gb739 ≠ g732)); clear BK727; clear BK728; clear HI732; clear HB; have BK727 := n0_; have BK728 := n1_; have HI732 := n2_; have HB := n3_; have BK739 := n4_; have GW739 := n5_; have GE739 := n6_; have NB727_739 := n7_; have NB739_727 := n8_; have NB728_739 := n9_; have NB739_728 := n10_; have NB732_739 := n11_; have NB739_732 := n12_; clear n0_ n1_ n2_ n3_ n4_ n5_ n6_ n7_ n8_ n9_ n10_ n11_ n12_; clear hb hbox hg; have hnb10 := NB739_727.out; have hnc10 := NB727_739.out; have hnb11 := NB739_728.out; have hnc11 := NB728_739.out; have hnb12 := NB739_732.out; have hnc12 := NB732_739.out; obtain ⟨z13_0, y13_0, z13_1, y13_1, z13_2, y13_2, z13_3, y13_3⟩ := cl4 BK739))
 have n0_ : Aside0 (((((w9.setCell ⟨gb739, 0, none⟩ (.int .i64 t733)).setCell ⟨gb739, 1, none⟩ (.string t734)).setCell ⟨gb739, 2, none⟩ (.string t735)).setCell ⟨gb739, 3, none⟩ (.int .i64 t736)).heap[gb727]? = some (.cells #[.int .i64 0, .string (⟨#[]⟩ : ByteArray), .string (⟨#[]⟩ : ByteArray), .int .i64 0] 25 (0, 0))) := ⟨by (with_reducible repeat (first | refine blk_drewN ?_ _ | refine blk_drew ?_ | refine blk_alloc ?_ _)); refine blk_far ?_ NB727_739.out _; (with_reducible repeat (first | refine blk_drewN ?_ _ | refine blk_drew ?_ | refine blk_alloc ?_ _)); refine blk_far ?_ NB727_739.out _; (with_reducible repeat (first | refine blk_drewN ?_ _ | refine blk_drew ?_ | refine blk_alloc ?_ _)); refine blk_far ?_ NB727_739.out _; (with_reducible repeat (first | refine blk_drewN ?_ _ | refine blk_drew ?_ | refine blk_alloc ?_ _)); refine blk_far ?_ NB727_739.out _; (with_reducible repeat (first | refine blk_drewN ?_ _ | refine blk_drew ?_ | refine blk_alloc ?_ _)); exact BK727.out⟩
 have n1_ : Aside0 (((((w9.setCell ⟨gb739, 0, none⟩ (.int .i64 t733)).setCell ⟨gb739, 1, none⟩ (.string t734)).setCell ⟨gb739, 2, none⟩ (.string t735)).setCell ⟨gb739, 3, none⟩ (.int .i64 t736)).heap[gb728]? = some (.cells #[.string (⟨#[]⟩ : ByteArray), .slice none 0 0, .slice none 0 0, .int .i64 0, .slice none 0 0, .string (⟨#[]⟩ : ByteArray), .int .i64 0] 31 (0, 0))) := ⟨by (with_reducible repeat (first | refine blk_drewN ?_ _ | refine blk_drew ?_ | refine blk_alloc ?_ _)); refine blk_far ?_ NB728_739.out _; (with_reducible repeat (first | refine blk_drewN ?_ _ | refine blk_drew ?_ | refine blk_alloc ?_ _)); refine blk_far ?_ NB728_739.out _; (with_reducible repeat (first | refine blk_drewN ?_ _ | refine blk_drew ?_ | refine blk_alloc ?_ _)); refine blk_far ?_ NB728_739.out _; (with_reducible repeat (first | refine blk_drewN ?_ _ | refine blk_drew ?_ | refine blk_alloc ?_ _)); refine blk_far ?_ NB728_739.out _; (with_reducible repeat (first | refine blk_drewN ?_ _ | refine blk_drew ?_ | refine blk_alloc ?_ _)); exact BK728.out⟩
 have n2_ : Aside0 (((((w9.setCell ⟨gb739, 0, none⟩ (.int .i64 t733)).setCell ⟨gb739, 1, none⟩ (.string t734)).setCell ⟨gb739, 2, none⟩ (.string t735)).setCell ⟨gb739, 3, none⟩ (.int .i64 t736)).heap[gb739]? = some (.cells #[.int .i64 t733, .string t734, .string t735, .int .i64 t736] 25 (0, 0))) := ⟨pt0 BK739⟩
 have n3_ : Aside0 (IsS139 w ((((w9.setCell ⟨gb739, 0, none⟩ (.int .i64 t733)).setCell ⟨gb739, 1, none⟩ (.string t734)).setCell ⟨gb739, 2, none⟩ (.string t735)).setCell ⟨gb739, 3, none⟩ (.int .i64 t736)) g732 t729 t737 t738) := ⟨u11HI732⟩
 have n4_ : Aside0 (Below w.heap.size w ((((w9.setCell ⟨gb739, 0, none⟩ (.int .i64 t733)).setCell ⟨gb739, 1, none⟩ (.string t734)).setCell ⟨gb739, 2, none⟩ (.string t735)).setCell ⟨gb739, 3, none⟩ (.int .i64 t736))) := ⟨u11HB⟩
 (try clear BK727)
 (try clear BK728)
 (try clear BK739)
 (try clear HI732)
 (try clear HB)
 generalize ((((w9.setCell ⟨gb739, 0, none⟩ (.int .i64 t733)).setCell ⟨gb739, 1, none⟩ (.string t734)).setCell ⟨gb739, 2, none⟩ (.string t735)).setCell ⟨gb739, 3, none⟩ (.int .i64 t736)) = w14 at n0_ n1_ n2_ n3_ n4_ ⊢
 have BK727 := n0_
 have BK728 := n1_
 have BK739 := n2_
 have HI732 := n3_
 have HB := n4_
 clear n0_ n1_ n2_ n3_ n4_
 replace BK727 := am (blk_drew BK727.out)
 replace BK728 := am (blk_drew BK728.out)
 replace BK739 := am (blk_drew BK739.out)
 replace HI732 := am (IsS139.drew HI732.out)
 replace HB := am (below_drew1 HB.out)
 refine start_ (n := 5) (S := fun w' => w'.cell? ⟨gb739, 0, none⟩ = some (.int .i64 t733) ∧ w'.cell? ⟨gb739, 1, none⟩ = some (.string t734) ∧ w'.cell? ⟨gb739, 2, none⟩ = some (.string t735) ∧ w'.cell? ⟨gb739, 3, none⟩ = some (.int .i64 t736)) (ds := []) ⟨br true [0, 5]⟩ (by kernel_rfl) rfl (by kernel_rfl) ⟨bc BK739, bc BK739, bc BK739, bc BK739⟩ (fun hHeld => ?_)
 generalize w14.drew = w15 at BK727 BK728 BK739 HI732 HB hHeld ⊢
 refine pu 1 11 [0, 1, 1, 3] ?_
 refine tk 0 10 [2, 3] ?_
 refine og 2 12 [3, 2] Tryz.func61 #[.pointer (some ⟨g732, 0, none⟩)] (fun K hK => ?_)
 with_reducible refine (spec_l10Draw.calls k g732 t729 t737 t738 t740 t741 t744 t747 t748 t751 t752 t753 t754 w _ ?side1 ?side2 A4.out).mono ?_
 (case side1 => exact u11HI732)
 (case side2 => exact u11HB)
 rintro e w16 ⟨v742, v745, v749, rfl, ho0, ho1, ho2, hi, hb, hk⟩
 refine ⟨_, rfl, ?_⟩
 replace BK727 := kp BK727 hk NB727_732
 replace BK728 := kp BK728 hk NB728_732
 replace BK739 := kp BK739 hk NB739_732
 have HO743 := am (Kd.R_lower ho0 (below_size u11HB))
 have HO746 := am (Kd.R_lower ho1 (below_size u11HB))
 have HO750 := am (Kd.R_lower ho2 (below_size u11HB))
 replace HB := am (hb)
 replace HI732 := am (hi)
 clear hb hk hi ho0 ho1 ho2
 obtain ⟨Ao22, co22, eo22⟩ := Kd.R_slice HO743.out
 (first | subst eo22 | (injection eo22 with f1_ f2_ f3_; have f4_ := f1_.symm; have f5_ := f3_.symm; clear f1_ f2_ f3_; subst f4_; subst f5_))
 obtain ⟨Ao24, co24, eo24⟩ := Kd.R_slice HO746.out
 (first | subst eo24 | (injection eo24 with f1_ f2_ f3_; have f4_ := f1_.symm; have f5_ := f3_.symm; clear f1_ f2_ f3_; subst f4_; subst f5_))
 obtain ⟨Ao27, co27, eo27⟩ := Kd.R_slice HO750.out
 (first | subst eo27 | (injection eo27 with f1_ f2_ f3_; have f4_ := f1_.symm; have f5_ := f3_.symm; clear f1_ f2_ f3_; subst f4_; subst f5_))
 refine hK.out _ _ ⟨bc BK739, bc BK739, bc BK739, bc BK739⟩ (fun hHeld => ?_)
 clear hK K
 refine nm 12 ?_
 refine one_ (i := 3) (N := none) #[true, true, true, true, false] rfl rfl (by kernel_rfl) (by decide) (fun K hK => ?_)
 have hs17 : w16.cell? ⟨gb727, 0, none⟩ = some (.int .i64 0) := bc BK727
 have hfs17 := blk_frozen BK727.out 0
 have hns17_1 := NB728_727.out
 have hns17_2 := NB739_727.out
 have hms17_1 := NB727_728.out
 have hms17_2 := NB727_739.out
 have hs18 : w16.cell? ⟨gb727, 1, none⟩ = some (.string (⟨#[]⟩ : ByteArray)) := bc BK727
 have hfs18 := blk_frozen BK727.out 1
 have hns18_1 := NB728_727.out
 have hns18_2 := NB739_727.out
 have hms18_1 := NB727_728.out
 have hms18_2 := NB727_739.out
 have hs19 : w16.cell? ⟨gb727, 2, none⟩ = some (.string (⟨#[]⟩ : ByteArray)) := bc BK727
 have hfs19 := blk_frozen BK727.out 2
 have hns19_1 := NB728_727.out
 have hns19_2 := NB739_727.out
 have hms19_1 := NB727_728.out
 have hms19_2 := NB727_739.out
 have hs20 : w16.cell? ⟨gb727, 3, none⟩ = some (.int .i64 0) := bc BK727
 have hfs20 := blk_frozen BK727.out 3
 have hns20_1 := NB728_727.out
 have hns20_2 := NB739_727.out
 have hms20_1 := NB727_728.out
 have hms20_2 := NB727_739.out
 refine skip_ (w1 := ?_) (by rfl) rfl ?_ ?_
 rotate_left
 ·go_simp
  rfl
 refine hK.out _ _ ⟨((cell_far (p := ⟨gb727, _, none⟩) NB739_727.out _).trans (((cell_far (p := ⟨gb727, _, none⟩) NB739_727.out _).trans (((cell_far (p := ⟨gb727, _, none⟩) NB739_727.out _).trans (((cell_far (p := ⟨gb727, _, none⟩) NB739_727.out _).trans (hHeld.1)))))))), ((cell_far (p := ⟨gb727, _, none⟩) NB739_727.out _).trans (((cell_far (p := ⟨gb727, _, none⟩) NB739_727.out _).trans (((cell_far (p := ⟨gb727, _, none⟩) NB739_727.out _).trans (((cell_far (p := ⟨gb727, _, none⟩) NB739_727.out _).trans (hHeld.2.1)))))))), ((cell_far (p := ⟨gb727, _, none⟩) NB739_727.out _).trans (((cell_far (p := ⟨gb727, _, none⟩) NB739_727.out _).trans (((cell_far (p := ⟨gb727, _, none⟩) NB739_727.out _).trans (((cell_far (p := ⟨gb727, _, none⟩) NB739_727.out _).trans (hHeld.2.2.1)))))))), ((cell_far (p := ⟨gb727, _, none⟩) NB739_727.out _).trans (((cell_far (p := ⟨gb727, _, none⟩) NB739_727.out _).trans (((cell_far (p := ⟨gb727, _, none⟩) NB739_727.out _).trans (((cell_far (p := ⟨gb727, _, none⟩) NB739_727.out _).trans (hHeld.2.2.2))))))))⟩ (fun hHeld => ?_)
 clear hK K
 refine one_ (i := 4) (N := none) #[true, true, true, true, true] rfl rfl (by kernel_rfl) (by decide) (fun K hK => ?_)
 have hs21 : w16.cell? ⟨gb728, 0, none⟩ = some (.string (⟨#[]⟩ : ByteArray)) := bc BK728
 have hfs21 := blk_frozen BK728.out 0
 have hns21_0 := NB727_728.out
 have hns21_2 := NB739_728.out
 have hms21_0 := NB728_727.out
 have hms21_2 := NB728_739.out
 have hs23 : w16.cell? ⟨gb728, 1, none⟩ = some (.slice none 0 0) := bc BK728
 have hfs23 := blk_frozen BK728.out 1
 have hns23_0 := NB727_728.out
 have hns23_2 := NB739_728.out
 have hms23_0 := NB728_727.out
 have hms23_2 := NB728_739.out
 have hs25 : w16.cell? ⟨gb728, 2, none⟩ = some (.slice none 0 0) := bc BK728
 have hfs25 := blk_frozen BK728.out 2
 have hns25_0 := NB727_728.out
 have hns25_2 := NB739_728.out
 have hms25_0 := NB728_727.out
 have hms25_2 := NB728_739.out
 have hs26 : w16.cell? ⟨gb728, 3, none⟩ = some (.int .i64 0) := bc BK728
 have hfs26 := blk_frozen BK728.out 3
 have hns26_0 := NB727_728.out
 have hns26_2 := NB739_728.out
 have hms26_0 := NB728_727.out
 have hms26_2 := NB728_739.out
 have hs28 : w16.cell? ⟨gb728, 4, none⟩ = some (.slice none 0 0) := bc BK728
 have hfs28 := blk_frozen BK728.out 4
 have hns28_0 := NB727_728.out
 have hns28_2 := NB739_728.out
 have hms28_0 := NB728_727.out
 have hms28_2 := NB728_739.out
 have hs29 : w16.cell? ⟨gb728, 5, none⟩ = some (.string (⟨#[]⟩ : ByteArray)) := bc BK728
 have hfs29 := blk_frozen BK728.out 5
 have hns29_0 := NB727_728.out
 have hns29_2 := NB739_728.out
 have hms29_0 := NB728_727.out
 have hms29_2 := NB728_739.out
 have hs30 : w16.cell? ⟨gb728, 6, none⟩ = some (.int .i64 0) := bc BK728
 have hfs30 := blk_frozen BK728.out 6
 have hns30_0 := NB727_728.out
 have hns30_2 := NB739_728.out
 have hms30_0 := NB728_727.out
 have hms30_2 := NB728_739.out
 refine skip_ (w1 := ?_) (by rfl) rfl ?_ ?_
 rotate_left
 ·go_simp
  rfl
 refine hK.out _ _ ⟨((cell_far (p := ⟨gb728, _, none⟩) NB739_728.out _).trans (((cell_far (p := ⟨gb728, _, none⟩) NB739_728.out _).trans (((cell_far (p := ⟨gb728, _, none⟩) NB739_728.out _).trans (((cell_far (p := ⟨gb728, _, none⟩) NB739_728.out _).trans (((cell_far (p := ⟨gb728, _, none⟩) NB739_728.out _).trans (((cell_far (p := ⟨gb728, _, none⟩) NB739_728.out _).trans (((cell_far (p := ⟨gb728, _, none⟩) NB739_728.out _).trans (hHeld.1)))))))))))))), ((cell_far (p := ⟨gb728, _, none⟩) NB739_728.out _).trans (((cell_far (p := ⟨gb728, _, none⟩) NB739_728.out _).trans (((cell_far (p := ⟨gb728, _, none⟩) NB739_728.out _).trans (((cell_far (p := ⟨gb728, _, none⟩) NB739_728.out _).trans (((cell_far (p := ⟨gb728, _, none⟩) NB739_728.out _).trans (((cell_far (p := ⟨gb728, _, none⟩) NB739_728.out _).trans (((cell_far (p := ⟨gb728, _, none⟩) NB739_728.out _).trans (hHeld.2.1)))))))))))))), ((cell_far (p := ⟨gb728, _, none⟩) NB739_728.out _).trans (((cell_far (p := ⟨gb728, _, none⟩) NB739_728.out _).trans (((cell_far (p := ⟨gb728, _, none⟩) NB739_728.out _).trans (((cell_far (p := ⟨gb728, _, none⟩) NB739_728.out _).trans (((cell_far (p := ⟨gb728, _, none⟩) NB739_728.out _).trans (((cell_far (p := ⟨gb728, _, none⟩) NB739_728.out _).trans (((cell_far (p := ⟨gb728, _, none⟩) NB739_728.out _).trans (hHeld.2.2.1)))))))))))))), ((cell_far (p := ⟨gb728, _, none⟩) NB739_728.out _).trans (((cell_far (p := ⟨gb728, _, none⟩) NB739_728.out _).trans (((cell_far (p := ⟨gb728, _, none⟩) NB739_728.out _).trans (((cell_far (p := ⟨gb728, _, none⟩) NB739_728.out _).trans (((cell_far (p := ⟨gb728, _, none⟩) NB739_728.out _).trans (((cell_far (p := ⟨gb728, _, none⟩) NB739_728.out _).trans (((cell_far (p := ⟨gb728, _, none⟩) NB739_728.out _).trans (hHeld.2.2.2))))))))))))))⟩ (fun hHeld => ?_)
 clear hK K
 refine done_ (by kernel_rfl) ?_
 try go_wp2
 refine bodyPost_ret (results_cc rfl _ _ gb727 gb728 25 31 #[.int .i64 t733, .string t734, .string t735, .int .i64 t736] #[.string t740, .slice Ao22 t741.length co22, .slice Ao24 t744.length co24, .int .i64 t747, .slice Ao27 t748.length co27, .string t751, .int .i64 t752] (0, 0) (0, 0) _ _ rfl (pt1 BK727 NB727_728) Tryz.underlying25 rfl (by kernel_rfl) rfl (pt1 BK728 NB728_727) Tryz.underlying31 rfl (by kernel_rfl)) rfl ?_
 exact ⟨_, _, _, rf, rj (Kd.R_types (Kd.R_types HO743.out BK727.out (by decide)) BK728.out (by decide)) (fun _ hk => hk.1.1), rj (Kd.R_types (Kd.R_types HO746.out BK727.out (by decide)) BK728.out (by decide)) (fun _ hk => hk.1.1), rj (Kd.R_types (Kd.R_types HO750.out BK727.out (by decide)) BK728.out (by decide)) (fun _ hk => trivial), u11HB⟩

/-! ### impl_BanOk: function 14 -/
theorem u14HB {p : Prop} (h : p := by repeat (first | (with_reducible first | exact HB.out | apply below_alloc | apply pw_below_drewN | apply below_drew1 | refine below_set ?_ GE763.out) | exact HB.out)) : p := h
def impl_BanOk.j0 : Nat → Int → Bool → Int → ByteArray → ByteArray → Int → Option (Bool)
 | 0, _, _, _, _, _, _ => none
 | k + 1, x8, x9, x764000, x764001, x764002, x764003 => if x9 = true then ((impl_pathOk.f k x764001).bind fun t765 => (if t765 = true then (some (x764002.toList == ([] : List UInt8))) else (some false))) else (if x8 = 3 then ((impl_TokenOk.f k x764001).bind fun t766 => (if t766 = true then ((impl_ValueOk.f k x764002).bind fun t767 => (some t767)) else (some false))) else (some false))
def impl_BanOk.f (k : Nat) (a0_0 : Int) (a0_1 : ByteArray) (a0_2 : ByteArray) (a0_3 : Int) : Option (Bool) := (impl_isTime.f a0_3).bind fun t764 => (if t764 = true then (if a0_0 = 1 then (impl_BanOk.j0 k a0_0 (a0_0 == 1) a0_0 a0_1 a0_2 a0_3) else (impl_BanOk.j0 k a0_0 (a0_0 == 2) a0_0 a0_1 a0_2 a0_3)) else (some false))
set_option maxHeartbeats 8000000 in
set_option maxRecDepth 100000 in
theorem impl_BanOk.calls (k : Nat) (a0_0 : Int) (a0_1 : ByteArray) (a0_2 : ByteArray) (a0_3 : Int) (r : Bool) (w : World) (h : impl_BanOk.f k a0_0 a0_1 a0_2 a0_3 = some r) :
  Calls Tryz.prog 14 #[.agg #[.int .i64 a0_0, .string a0_1, .string a0_2, .int .i64 a0_3]] w fun e w' => e = .returned (.bool r) ∧ Below w.heap.size w w' := by
 have hu25 := Tryz.underlying25
 have HB := am (Below.refl w.heap.size w)
 unfold impl_BanOk.f at h
 have H := h
 clear h
 revert H
 refine ok1 fun t764 A2 H => ?_
 have HH3 := am H
 clear H
 go_enter Tryz.func14, Tryz.ntmps14
 go_upto_if 6 with ((with_reducible refine gw ?_); first | (refine bx 1 #[.int .i64 a0_0, .string a0_1, .string a0_2, .int .i64 a0_3] 25 ?_; intro gb763 hg w4 hbox hb; have BK763 := am (hbox); have GW763 := am (sz hg : w.heap.size ≤ gb763); have GE763 := am (sz hg : w.heap.size ≤ gb763); replace HB := am (below_step bl hb); clear hb hbox hg; obtain ⟨z5_0, y5_0, z5_1, y5_1, z5_2, y5_2, z5_3, y5_3⟩ := cl4 BK763) | (refine gl 5 Tryz.func67 #[.int .i64 a0_3] ?_; (with_reducible refine (impl_isTime.calls a0_3 t764 _ A2.out).mono ?_); rintro e w' ⟨rfl, ⟨nd, rfl⟩⟩; refine ⟨_, rfl, ?_⟩))
 have H := HH3.out
 clear HH3
 by_cases c6 : t764 = true
 rotate_left
 ·replace c6 := Bool.eq_false_iff.mpr c6
  subst c6
  rw [if_neg (show ¬ (false = true) by decide)] at H
  obtain rfl := Option.some.inj H
  go_wp2
  go_ret
  exact ⟨rf, bl⟩
 subst c6
 rw [if_pos rfl] at H
 have HC7 := am H
 clear H
 obtain ⟨z8_0, y8_0, z8_1, y8_1, z8_2, y8_2, z8_3, y8_3⟩ := cl4 BK763
 go_upto_if 9 with (fail)
 go_cut [9] (fun v9 wc => ∃ (kq : Nat) (x9_6 : Bool), v9 = .bool x9_6 ∧ Aside0 (impl_BanOk.j0 kq a0_0 x9_6 a0_0 a0_1 a0_2 a0_3 = some r) ∧ Aside0 (kq ≤ k) ∧ Aside0 (wc.heap[gb763]? = some (.cells #[.int .i64 a0_0, .string a0_1, .string a0_2, .int .i64 a0_3] 25 (0, 0))) ∧ Aside0 (Below w.heap.size w wc))
 case first =>
  have H := HC7.out
  clear HC7
  by_cases c9 : a0_0 = 1
  rotate_left
  ·rw [if_neg c9] at H
   have c9b0 : (a0_0 == 1) = false := beq_eq_false_iff_ne.mpr c9
   have c9b1 : (a0_0 != 1) = true := bne_iff_ne.mpr c9
   (first | rw [c9b0] | (simp only [i64_w, i32_w]; rw [c9b0]) | skip)
   have H' := am H
   clear H
   go_wp2
   go_meet
   case rel => exact ⟨_, ((a0_0 == 2)), rs, H', ⟨by first | omega | exact Nat.le_refl _⟩, ⟨by (with_reducible repeat (first | refine blk_drewN ?_ _ | refine blk_drew ?_ | refine blk_alloc ?_ _)); exact BK763.out⟩, ⟨u14HB⟩⟩
  rw [if_pos c9] at H
  have c9b0 : (a0_0 == 1) = true := beq_iff_eq.mpr c9
  have c9b1 : (a0_0 != 1) = false := bne_eq_false_iff_eq.mpr c9
  clear c9
  (first | rw [c9b0] | (simp only [i64_w, i32_w]; rw [c9b0]) | skip)
  have H' := am H
  clear H
  go_wp2
  go_meet
  case rel => exact ⟨_, ((a0_0 == 1)), rs, H', ⟨by first | omega | exact Nat.le_refl _⟩, ⟨by (with_reducible repeat (first | refine blk_drewN ?_ _ | refine blk_drew ?_ | refine blk_alloc ?_ _)); exact BK763.out⟩, ⟨u14HB⟩⟩
 case rest =>
  clear HC7
  try clear c1
  try clear p2
  try clear c6
  try clear c9
  try clear c9b0
  try clear c9b1
  try clear z5_0
  try clear z5_1
  try clear z5_2
  try clear z5_3
  try clear z8_0
  try clear z8_1
  try clear z8_2
  try clear z8_3
  try clear y5_0
  try clear y5_1
  try clear y5_2
  try clear y5_3
  try clear y8_0
  try clear y8_1
  try clear y8_2
  try clear y8_3
  obtain ⟨kq, x9_6, rfl, HA, HJ6, BK763, HB⟩ := hcut
  cases kq with
  | zero => exact absurd HA.out (by simp [impl_BanOk.j0])
  | succ kj6 =>
   have H := HA.out
   clear HA
   simp only [impl_BanOk.j0] at H
   by_cases c10 : x9_6 = true
   ·subst c10
    rw [if_pos rfl] at H
    revert H
    refine ok1 fun t765 A11 H => ?_
    by_cases c12 : t765 = true
    ·subst c12
     rw [if_pos rfl] at H
     obtain rfl := Option.some.inj H
     obtain ⟨z13_0, y13_0, z13_1, y13_1, z13_2, y13_2, z13_3, y13_3⟩ := cl4 BK763
     go_wp2_with ((with_reducible refine gw ?_); first | (refine gl 14 Tryz.func68 #[.string a0_1] ?_; (with_reducible refine (impl_pathOk.calls kj6 a0_1 true _ A11.out).mono ?_); rintro e w' ⟨rfl, ⟨nd, rfl⟩⟩; refine ⟨_, rfl, ?_⟩))
     go_ret
     exact ⟨rf, bl⟩
    replace c12 := Bool.eq_false_iff.mpr c12
    subst c12
    rw [if_neg (show ¬ (false = true) by decide)] at H
    obtain rfl := Option.some.inj H
    obtain ⟨z14_0, y14_0, z14_1, y14_1, z14_2, y14_2, z14_3, y14_3⟩ := cl4 BK763
    go_wp2_with ((with_reducible refine gw ?_); first | (refine gl 14 Tryz.func68 #[.string a0_1] ?_; (with_reducible refine (impl_pathOk.calls kj6 a0_1 false _ A11.out).mono ?_); rintro e w' ⟨rfl, ⟨nd, rfl⟩⟩; refine ⟨_, rfl, ?_⟩))
    go_ret
    exact ⟨rf, bl⟩
   replace c10 := Bool.eq_false_iff.mpr c10
   subst c10
   rw [if_neg (show ¬ (false = true) by decide)] at H
   by_cases c15 : a0_0 = 3
   rotate_left
   ·rw [if_neg c15] at H
    have c15b0 : (a0_0 == 3) = false := beq_eq_false_iff_ne.mpr c15
    have c15b1 : (a0_0 != 3) = true := bne_iff_ne.mpr c15
    obtain rfl := Option.some.inj H
    go_wp2
    go_ret
    exact ⟨rf, bl⟩
   rw [if_pos c15] at H
   have c15b0 : (a0_0 == 3) = true := beq_iff_eq.mpr c15
   have c15b1 : (a0_0 != 3) = false := bne_eq_false_iff_eq.mpr c15
   clear c15
   revert H
   refine ok1 fun t766 A16 H => ?_
   by_cases c17 : t766 = true
   rotate_left
   ·replace c17 := Bool.eq_false_iff.mpr c17
    subst c17
    rw [if_neg (show ¬ (false = true) by decide)] at H
    obtain rfl := Option.some.inj H
    obtain ⟨z21_0, y21_0, z21_1, y21_1, z21_2, y21_2, z21_3, y21_3⟩ := cl4 BK763
    go_wp2_with ((with_reducible refine gw ?_); first | (refine gl 24 Tryz.func69 #[.string a0_1] ?_; (with_reducible refine (impl_TokenOk.calls kj6 a0_1 false _ A16.out).mono ?_); rintro e w' ⟨rfl, ⟨nd, rfl⟩⟩; refine ⟨_, rfl, ?_⟩))
    go_ret
    exact ⟨rf, bl⟩
   subst c17
   rw [if_pos rfl] at H
   revert H
   refine ok1 fun t767 A18 H => ?_
   obtain rfl := Option.some.inj H
   obtain ⟨z19_0, y19_0, z19_1, y19_1, z19_2, y19_2, z19_3, y19_3⟩ := cl4 BK763
   go_wp2_with (first | ((with_reducible refine gw ?_); first | (refine gl 24 Tryz.func69 #[.string a0_1] ?_; (with_reducible refine (impl_TokenOk.calls kj6 a0_1 true _ A16.out).mono ?_); rintro e w' ⟨rfl, ⟨nd, rfl⟩⟩; refine ⟨_, rfl, ?_⟩)) | (go_at_call 70; (with_reducible refine (impl_ValueOk.calls kj6 a0_2 t767 _ A18.out).mono ?_); rintro e w20 ⟨rfl, hb⟩; replace BK763 := kb BK763 hb; replace HB := am (below_step bl hb); clear hb))
   go_ret
   exact ⟨rf, bl⟩

/-! ### strings_HasPrefix: function 62 -/
def strings_HasPrefix.f (a0 : ByteArray) (a1 : ByteArray) : Option (Bool) := (stringslite_HasPrefix.f a0 a1).bind fun t811 => (some t811)
set_option maxHeartbeats 8000000 in
set_option maxRecDepth 100000 in
theorem strings_HasPrefix.calls (a0 : ByteArray) (a1 : ByteArray) (r : Bool) (w : World) (h : strings_HasPrefix.f a0 a1 = some r) :
  Calls Tryz.prog 62 #[.string a0, .string a1] w fun e w' => e = .returned (.bool r) ∧ Drawn0 w w' := by
 unfold strings_HasPrefix.f at h
 have H := h
 clear h
 revert H
 refine ok1 fun t811 A3 H => ?_
 obtain rfl := Option.some.inj H
 go_enter Tryz.func62, Tryz.ntmps62
 go_wp2_with ((with_reducible refine gw ?_); first | (refine gl 7 Tryz.func131 #[.string a0, .string a1] ?_; (with_reducible refine (stringslite_HasPrefix.calls a0 a1 t811 _ A3.out).mono ?_); rintro e w' ⟨rfl, ⟨nd, rfl⟩⟩; refine ⟨_, rfl, ?_⟩))
 go_ret
 exact ⟨rs, dr⟩

/-! ### impl_Hits: function 12 -/
theorem u12HB {p : Prop} (h : p := by repeat (first | (with_reducible first | exact HB.out | apply below_alloc | apply pw_below_drewN | apply below_drew1 | refine below_set ?_ GE812.out | refine below_set ?_ GE813.out) | exact HB.out)) : p := h
def impl_Hits.j0 : Nat → Bool → Int → ByteArray → ByteArray → Int → ByteArray → List ByteArray → List ByteArray → Int → List (S116) → ByteArray → Int → Option (Bool)
 | 0, _, _, _, _, _, _, _, _, _, _, _, _ => none
 | k + 1, x21, x813000, x813001, x813002, x813003, x814000, x814001, x814002, x814003, x814004, x814005, x814006 => if x21 = true then (some false) else (if x813000 = 1 then (some (x814000.toList == x813001.toList)) else (if x813000 = 2 then ((strings_HasPrefix.f x814000 x813001).bind fun t816 => (some t816)) else ((impl_Get.f x814004 x813001).bind fun bt817 => (if bt817.2 = true then (some (bt817.1.toList == x813002.toList)) else (some false)))))
def impl_Hits.f (k : Nat) (a0_0 : Int) (a0_1 : ByteArray) (a0_2 : ByteArray) (a0_3 : Int) (a1_0 : ByteArray) (l1_1 : List ByteArray) (l1_2 : List ByteArray) (a1_3 : Int) (l1_4 : List (S116)) (a1_5 : ByteArray) (a1_6 : Int) : Option (Bool) := if a1_6 > a0_3 then (impl_Hits.j0 k true a0_0 a0_1 a0_2 a0_3 a1_0 l1_1 l1_2 a1_3 l1_4 a1_5 a1_6) else ((impl_BanOk.f k a0_0 a0_1 a0_2 a0_3).bind fun t814 => (if t814 = true then ((impl_ObjOk.f k a1_0 l1_1 l1_2 a1_3 l1_4 a1_5 a1_6).bind fun t815 => (impl_Hits.j0 k (!t815) a0_0 a0_1 a0_2 a0_3 a1_0 l1_1 l1_2 a1_3 l1_4 a1_5 a1_6)) else (impl_Hits.j0 k true a0_0 a0_1 a0_2 a0_3 a1_0 l1_1 l1_2 a1_3 l1_4 a1_5 a1_6)))
set_option maxHeartbeats 8000000 in
set_option maxRecDepth 100000 in
theorem impl_Hits.calls (k : Nat) (a0_0 : Int) (a0_1 : ByteArray) (a0_2 : ByteArray) (a0_3 : Int) (a1_0 : ByteArray) (A1_1 : Option Addr) (c1_1 : Nat) (l1_1 : List ByteArray) (A1_2 : Option Addr) (c1_2 : Nat) (l1_2 : List ByteArray) (a1_3 : Int) (A1_4 : Option Addr) (c1_4 : Nat) (l1_4 : List (S116)) (a1_5 : ByteArray) (a1_6 : Int) (r : Bool) (w : World) (hGM : GLOBM w) (hr1_1 : Kd.C Kd.string w A1_1 l1_1.length l1_1) (hc1_1 : l1_1.length ≤ c1_1) (hr1_2 : Kd.C Kd.string w A1_2 l1_2.length l1_2) (hc1_2 : l1_2.length ≤ c1_2) (hr1_4 : Kd.C k116 w A1_4 l1_4.length l1_4) (hc1_4 : l1_4.length ≤ c1_4) (h : impl_Hits.f k a0_0 a0_1 a0_2 a0_3 a1_0 l1_1 l1_2 a1_3 l1_4 a1_5 a1_6 = some r) :
  Calls Tryz.prog 12 #[.agg #[.int .i64 a0_0, .string a0_1, .string a0_2, .int .i64 a0_3], .agg #[.string a1_0, .slice A1_1 l1_1.length c1_1, .slice A1_2 l1_2.length c1_2, .int .i64 a1_3, .slice A1_4 l1_4.length c1_4, .string a1_5, .int .i64 a1_6]] w fun e w' => e = .returned (.bool r) ∧ Below w.heap.size w w' := by
 have hu25 := Tryz.underlying25
 have hu31 := Tryz.underlying31
 have HR1_1 := am hr1_1
 have HC1_1 := am hc1_1
 clear hr1_1 hc1_1
 have HR1_2 := am hr1_2
 have HC1_2 := am hc1_2
 clear hr1_2 hc1_2
 have HR1_4 := am hr1_4
 have HC1_4 := am hc1_4
 clear hr1_4 hc1_4
 have HGM := am hGM
 clear hGM
 have HB := am (Below.refl w.heap.size w)
 unfold impl_Hits.f at h
 have H := h
 clear h
 have HC3 := am H
 clear H
 go_enter Tryz.func12, Tryz.ntmps12
 go_upto_region 1 with ((with_reducible refine gw ?_); first | (refine bx 2 #[.int .i64 a0_0, .string a0_1, .string a0_2, .int .i64 a0_3] 25 ?_; intro gb812 hg w4 hbox hb; have BK812 := am (hbox); have GW812 := am (sz hg : w.heap.size ≤ gb812); have GE812 := am (sz hg : w.heap.size ≤ gb812); replace HB := am (below_step bl hb); clear hb hbox hg) | (refine bx 3 #[.string a1_0, .slice A1_1 l1_1.length c1_1, .slice A1_2 l1_2.length c1_2, .int .i64 a1_3, .slice A1_4 l1_4.length c1_4, .string a1_5, .int .i64 a1_6] 31 ?_; intro gb813 hg w5 hbox hb; have BK813 := am (hbox); have GW813 := am (sz hg : w.heap.size ≤ gb813); have GE813 := am (sz hg : w.heap.size ≤ gb813); replace HB := am (below_step bl hb); have NB812_813 := am (nl hg BK812 : gb812 ≠ gb813); have NB813_812 := am (ng hg BK812 : gb813 ≠ gb812); replace BK812 := kb BK812 hb; clear hb hbox hg))
 (try simp only [Act.put, List.setIfInBounds_toArray, List.set_cons_zero, List.set_cons_succ])
 go_cut [21] (fun v21 wc => ∃ (kq : Nat) (x21_2 : Bool), v21 = .bool x21_2 ∧ Aside0 (impl_Hits.j0 kq x21_2 a0_0 a0_1 a0_2 a0_3 a1_0 l1_1 l1_2 a1_3 l1_4 a1_5 a1_6 = some r) ∧ Aside0 (kq ≤ k) ∧ Aside0 (wc.heap[gb812]? = some (.cells #[.int .i64 a0_0, .string a0_1, .string a0_2, .int .i64 a0_3] 25 (0, 0))) ∧ Aside0 (wc.heap[gb813]? = some (.cells #[.string a1_0, (.slice A1_1 l1_1.length c1_1), (.slice A1_2 l1_2.length c1_2), .int .i64 a1_3, (.slice A1_4 l1_4.length c1_4), .string a1_5, .int .i64 a1_6] 31 (0, 0))) ∧ Aside0 (Below w.heap.size w wc))
 case first =>
  have H := HC3.out
  clear HC3
  by_cases c6 : a1_6 > a0_3
  ·rw [if_pos c6] at H
   have c6b0 := decide_eq_true c6
   clear c6
   (first | rw [c6b0] | (simp only [i64_w, i32_w]; rw [c6b0]) | skip)
   have H' := am H
   clear H
   have hnb7 := NB813_812.out
   have hnc7 := NB812_813.out
   obtain ⟨z8_0, y8_0, z8_1, y8_1, z8_2, y8_2, z8_3, y8_3, z8_4, y8_4, z8_5, y8_5, z8_6, y8_6⟩ := cl7 BK813
   obtain ⟨z9_0, y9_0, z9_1, y9_1, z9_2, y9_2, z9_3, y9_3⟩ := cl4 BK812
   go_wp2
   go_meet
   case rel => exact ⟨_, (true), rs, H', ⟨by first | omega | exact Nat.le_refl _⟩, ⟨by (with_reducible repeat (first | refine blk_drewN ?_ _ | refine blk_drew ?_ | refine blk_alloc ?_ _)); exact BK812.out⟩, ⟨by (with_reducible repeat (first | refine blk_drewN ?_ _ | refine blk_drew ?_ | refine blk_alloc ?_ _)); exact BK813.out⟩, ⟨u12HB⟩⟩
  rw [if_neg c6] at H
  have c6b0 := decide_eq_false c6
  clear c6
  (first | rw [c6b0] | (simp only [i64_w, i32_w]; rw [c6b0]) | skip)
  revert H
  refine ok1 fun t814 A10 H => ?_
  by_cases c11 : t814 = true
  rotate_left
  ·replace c11 := Bool.eq_false_iff.mpr c11
   subst c11
   rw [if_neg (show ¬ (false = true) by decide)] at H
   have H' := am H
   clear H
   have hnb19 := NB813_812.out
   have hnc19 := NB812_813.out
   obtain ⟨z20_0, y20_0, z20_1, y20_1, z20_2, y20_2, z20_3, y20_3, z20_4, y20_4, z20_5, y20_5, z20_6, y20_6⟩ := cl7 BK813
   obtain ⟨z21_0, y21_0, z21_1, y21_1, z21_2, y21_2, z21_3, y21_3⟩ := cl4 BK812
   go_wp2_with (first | (go_at_call 14; (with_reducible refine (impl_BanOk.calls k a0_0 a0_1 a0_2 a0_3 false _ A10.out).mono ?_); rintro e w22 ⟨rfl, hb⟩; replace BK812 := kb BK812 hb; replace BK813 := kb BK813 hb; replace HB := am (below_step bl hb); clear hb))
   go_meet
   case rel => exact ⟨_, (true), rs, H', ⟨by first | omega | exact Nat.le_refl _⟩, ⟨by (with_reducible repeat (first | refine blk_drewN ?_ _ | refine blk_drew ?_ | refine blk_alloc ?_ _)); exact BK812.out⟩, ⟨by (with_reducible repeat (first | refine blk_drewN ?_ _ | refine blk_drew ?_ | refine blk_alloc ?_ _)); exact BK813.out⟩, ⟨u12HB⟩⟩
  subst c11
  rw [if_pos rfl] at H
  revert H
  refine ok1 fun t815 A12 H => ?_
  have H' := am H
  clear H
  have hnb13 := NB813_812.out
  have hnc13 := NB812_813.out
  obtain ⟨z14_0, y14_0, z14_1, y14_1, z14_2, y14_2, z14_3, y14_3, z14_4, y14_4, z14_5, y14_5, z14_6, y14_6⟩ := cl7 BK813
  obtain ⟨z15_0, y15_0, z15_1, y15_1, z15_2, y15_2, z15_3, y15_3⟩ := cl4 BK812
  go_wp2_with (first | (go_at_call 14; (with_reducible refine (impl_BanOk.calls k a0_0 a0_1 a0_2 a0_3 true _ A10.out).mono ?_); rintro e w16 ⟨rfl, hb⟩; replace BK812 := kb BK812 hb; replace BK813 := kb BK813 hb; replace HB := am (below_step bl hb); clear hb; obtain ⟨z17_0, y17_0, z17_1, y17_1, z17_2, y17_2, z17_3, y17_3, z17_4, y17_4, z17_5, y17_5, z17_6, y17_6⟩ := cl7 BK813) | (go_at_call 15; (with_reducible refine (impl_ObjOk.calls k a1_0 _ _ l1_1 _ _ l1_2 a1_3 _ _ l1_4 a1_5 a1_6 t815 _ ?side1 ?side2 ?side3 ?side4 ?side5 ?side6 ?side7 A12.out).mono ?_); (case side1 => exact GLOBM.below HGM.out bl); (case side2 => exact cb HR1_1); (case side3 => exact HC1_1.out); (case side4 => exact cb HR1_2); (case side5 => exact HC1_2.out); (case side6 => exact cb HR1_4); (case side7 => exact HC1_4.out); rintro e w18 ⟨rfl, hb⟩; replace BK812 := kb BK812 hb; replace BK813 := kb BK813 hb; replace HB := am (below_step bl hb); clear hb))
  go_meet
  case rel => exact ⟨_, (!t815), rs, H', ⟨by first | omega | exact Nat.le_refl _⟩, ⟨by (with_reducible repeat (first | refine blk_drewN ?_ _ | refine blk_drew ?_ | refine blk_alloc ?_ _)); exact BK812.out⟩, ⟨by (with_reducible repeat (first | refine blk_drewN ?_ _ | refine blk_drew ?_ | refine blk_alloc ?_ _)); exact BK813.out⟩, ⟨u12HB⟩⟩
 case rest =>
  clear HC3
  try clear c1
  try clear p2
  try clear c6
  try clear c6b0
  try clear c7
  try clear c11
  try clear c12
  try clear c13
  try clear c19
  try clear z14_0
  try clear z14_1
  try clear z14_2
  try clear z14_3
  try clear z14_4
  try clear z14_5
  try clear z14_6
  try clear z15_0
  try clear z15_1
  try clear z15_2
  try clear z15_3
  try clear z17_0
  try clear z17_1
  try clear z17_2
  try clear z17_3
  try clear z17_4
  try clear z17_5
  try clear z17_6
  try clear z20_0
  try clear z20_1
  try clear z20_2
  try clear z20_3
  try clear z20_4
  try clear z20_5
  try clear z20_6
  try clear z21_0
  try clear z21_1
  try clear z21_2
  try clear z21_3
  try clear z8_0
  try clear z8_1
  try clear z8_2
  try clear z8_3
  try clear z8_4
  try clear z8_5
  try clear z8_6
  try clear z9_0
  try clear z9_1
  try clear z9_2
  try clear z9_3
  try clear y14_0
  try clear y14_1
  try clear y14_2
  try clear y14_3
  try clear y14_4
  try clear y14_5
  try clear y14_6
  try clear y15_0
  try clear y15_1
  try clear y15_2
  try clear y15_3
  try clear y17_0
  try clear y17_1
  try clear y17_2
  try clear y17_3
  try clear y17_4
  try clear y17_5
  try clear y17_6
  try clear y20_0
  try clear y20_1
  try clear y20_2
  try clear y20_3
  try clear y20_4
  try clear y20_5
  try clear y20_6
  try clear y21_0
  try clear y21_1
  try clear y21_2
  try clear y21_3
  try clear y8_0
  try clear y8_1
  try clear y8_2
  try clear y8_3
  try clear y8_4
  try clear y8_5
  try clear y8_6
  try clear y9_0
  try clear y9_1
  try clear y9_2
  try clear y9_3
  obtain ⟨kq, x21_2, rfl, HA, HJ2, BK812, BK813, HB⟩ := hcut
  cases kq with
  | zero => exact absurd HA.out (by simp [impl_Hits.j0])
  | succ kj2 =>
   have H := HA.out
   clear HA
   simp only [impl_Hits.j0] at H
   by_cases c23 : x21_2 = true
   ·subst c23
    rw [if_pos rfl] at H
    obtain rfl := Option.some.inj H
    go_wp2
    go_ret
    exact ⟨rf, bl⟩
   replace c23 := Bool.eq_false_iff.mpr c23
   subst c23
   rw [if_neg (show ¬ (false = true) by decide)] at H
   by_cases c24 : a0_0 = 1
   ·rw [if_pos c24] at H
    have c24b0 : (a0_0 == 1) = true := beq_iff_eq.mpr c24
    have c24b1 : (a0_0 != 1) = false := bne_eq_false_iff_eq.mpr c24
    clear c24
    obtain rfl := Option.some.inj H
    have hnb25 := NB812_813.out
    have hnc25 := NB813_812.out
    obtain ⟨z26_0, y26_0, z26_1, y26_1, z26_2, y26_2, z26_3, y26_3⟩ := cl4 BK812
    obtain ⟨z27_0, y27_0, z27_1, y27_1, z27_2, y27_2, z27_3, y27_3, z27_4, y27_4, z27_5, y27_5, z27_6, y27_6⟩ := cl7 BK813
    go_wp2
    go_ret
    exact ⟨rf, bl⟩
   rw [if_neg c24] at H
   have c24b0 : (a0_0 == 1) = false := beq_eq_false_iff_ne.mpr c24
   have c24b1 : (a0_0 != 1) = true := bne_iff_ne.mpr c24
   by_cases c28 : a0_0 = 2
   ·rw [if_pos c28] at H
    have c28b0 : (a0_0 == 2) = true := beq_iff_eq.mpr c28
    have c28b1 : (a0_0 != 2) = false := bne_eq_false_iff_eq.mpr c28
    clear c28
    revert H
    refine ok1 fun t816 A29 H => ?_
    obtain rfl := Option.some.inj H
    have hnb30 := NB812_813.out
    have hnc30 := NB813_812.out
    obtain ⟨z31_0, y31_0, z31_1, y31_1, z31_2, y31_2, z31_3, y31_3⟩ := cl4 BK812
    obtain ⟨z32_0, y32_0, z32_1, y32_1, z32_2, y32_2, z32_3, y32_3, z32_4, y32_4, z32_5, y32_5, z32_6, y32_6⟩ := cl7 BK813
    go_wp2_with ((with_reducible refine gw ?_); first | (refine gl 37 Tryz.func62 #[.string a1_0, .string a0_1] ?_; (with_reducible refine (strings_HasPrefix.calls a1_0 a0_1 t816 _ A29.out).mono ?_); rintro e w' ⟨rfl, ⟨nd, rfl⟩⟩; refine ⟨_, rfl, ?_⟩))
    go_ret
    exact ⟨rf, bl⟩
   rw [if_neg c28] at H
   have c28b0 : (a0_0 == 2) = false := beq_eq_false_iff_ne.mpr c28
   have c28b1 : (a0_0 != 2) = true := bne_iff_ne.mpr c28
   revert H
   refine ok2 fun t817 t818 A33 H => ?_
   (try dsimp only at H)
   by_cases c34 : t818 = true
   rotate_left
   ·replace c34 := Bool.eq_false_iff.mpr c34
    subst c34
    rw [if_neg (show ¬ (false = true) by decide)] at H
    obtain rfl := Option.some.inj H
    have hnb40 := NB812_813.out
    have hnc40 := NB813_812.out
    obtain ⟨z41_0, y41_0, z41_1, y41_1, z41_2, y41_2, z41_3, y41_3⟩ := cl4 BK812
    obtain ⟨z42_0, y42_0, z42_1, y42_1, z42_2, y42_2, z42_3, y42_3, z42_4, y42_4, z42_5, y42_5, z42_6, y42_6⟩ := cl7 BK813
    go_wp2_with ((with_reducible refine gw ?_); first | (refine gl 44 Tryz.func63 #[.slice A1_4 l1_4.length c1_4, .string a0_1] ?_; (with_reducible refine (impl_Get.calls _ _ l1_4 a0_1 t817 false _ ?side1 ?side2 A33.out).mono ?_); (case side1 => exact cb HR1_4); (case side2 => exact HC1_4.out); rintro e w43 ⟨rfl, hb⟩; refine ⟨_, rfl, ?_⟩; replace BK812 := kb BK812 hb; replace BK813 := kb BK813 hb; replace HB := am (below_step bl hb); clear hb))
    go_ret
    exact ⟨rf, bl⟩
   subst c34
   rw [if_pos rfl] at H
   obtain rfl := Option.some.inj H
   have hnb35 := NB812_813.out
   have hnc35 := NB813_812.out
   obtain ⟨z36_0, y36_0, z36_1, y36_1, z36_2, y36_2, z36_3, y36_3⟩ := cl4 BK812
   obtain ⟨z37_0, y37_0, z37_1, y37_1, z37_2, y37_2, z37_3, y37_3, z37_4, y37_4, z37_5, y37_5, z37_6, y37_6⟩ := cl7 BK813
   go_wp2_with ((with_reducible refine gw ?_); first | (refine gl 44 Tryz.func63 #[.slice A1_4 l1_4.length c1_4, .string a0_1] ?_; (with_reducible refine (impl_Get.calls _ _ l1_4 a0_1 t817 true _ ?side1 ?side2 A33.out).mono ?_); (case side1 => exact cb HR1_4); (case side2 => exact HC1_4.out); rintro e w38 ⟨rfl, hb⟩; refine ⟨_, rfl, ?_⟩; replace BK812 := kb BK812 hb; replace BK813 := kb BK813 hb; replace HB := am (below_step bl hb); clear hb; obtain ⟨z39_0, y39_0, z39_1, y39_1, z39_2, y39_2, z39_3, y39_3⟩ := cl4 BK812))
   go_ret
   exact ⟨rf, bl⟩

end Go.Proofs.YtjlpjbkpmmpojaaGreatDoor.All
