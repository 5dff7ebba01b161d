-- Written by a program of this session (wip/tools/hprint.py) out of the translation. Lean checks it.
import Derived.Test.YtjlpjbkpmmpojaaDoorAllx0
import Derived.Test.YtjlpjbkpmmpojaaDoorAllx1
import Derived.Test.YtjlpjbkpmmpojaaDoorAllx2
namespace Go.Proofs.YtjlpjbkpmmpojaaDoor.All
open Go.RowKit Go.Proofs.YtjlpjbkpmmpojaaDoorW.PrintWords Go.Proofs.YtjlpjbkpmmpojaaDoorW.PrintLast Go.Proofs.YtjlpjbkpmmpojaaDoorW.PrintMore
attribute [local go_sem] max2_int min2_int max_two min_two max_three min_three max_four min_four   -- for this text's walks alone
set_option linter.unusedVariables false
set_option linter.unusedSimpArgs false

/-! ### spec_l3DrawBadResp: function 28 -/
theorem u28HI0 {p : Prop} (h : p := by repeat (first | (with_reducible first | exact HI0.out | apply IsS57.alloc | apply IsS57.drewN | apply IsS57.drew | apply IsS57.set_1 | apply IsS57.set_2 | apply IsS57.far (p := ⟨gb319, _, none⟩) (hne := NB0_319.out) | apply IsS57.far (p := ⟨gb327, _, none⟩) (hne := NB0_327.out)) | exact HI0.out)) : p := h
theorem u28HK {p : Prop} (h : p := by repeat (first | (with_reducible first | exact HK.out | apply KeepBut.set_ | apply keep_drewN | apply keep_drew | apply keep_alloc | refine keep_far ?_ GW319.out _ | refine keep_far ?_ GW327.out _) | exact HK.out)) : p := h
theorem u28HB {p : Prop} (h : p := by repeat (first | (with_reducible first | exact HB.out | apply below_alloc | apply pw_below_drewN | apply below_drew1 | refine below_set ?_ (IsS57.ge HI0.out) | refine below_set ?_ GE319.out | refine below_set ?_ GE327.out) | exact HB.out)) : p := h
def spec_l3DrawBadResp.l0 : Nat → List Int → Int → Int → Int → List (S46) → ByteArray → Option (Int × (List (S46)) × ByteArray × Int × Int)
 | 0, _, _, _, _, _, _ => none
 | k + 1, x1000, x1001, x1002, x328000, x328001, x328002 => (spec_l1Below.f x1000 x1001 x1002 2).bind fun bt342 => (if (x328002.size : Int) < (wrap64 (120 + bt342.1)) then (if x328002.size + 1 ≤ 9223372036854775807 then (spec_l3DrawBadResp.l0 k x1000 bt342.2.1 bt342.2.2 x328000 x328001 (x328002 ++ (⟨#[98]⟩ : ByteArray))) else (none)) else (some (x328000, x328001, x328002, bt342.2.1, bt342.2.2)))
def spec_l3DrawBadResp.f (k : Nat) (s0_0 : List Int) (s0_1 : Int) (s0_2 : Int) : Option (Int × (List (S46)) × ByteArray × Int × Int) := (spec_l3DrawResp.f k s0_0 s0_1 s0_2).bind fun bt320 => ((spec_l1Below.f s0_0 bt320.2.2.2.1 bt320.2.2.2.2 20).bind fun bt328 => (if bt328.1 = 0 then ((spec_l1PickInt.f s0_0 bt328.2.1 bt328.2.2 (([99, 100, 599, 600, (-1)] : List Int))).bind fun bt334 => (some (bt334.1, bt320.2.1, bt320.2.2.1, bt334.2.1, bt334.2.2))) else (if bt328.1 = 1 then ((spec_l2Draw.f k s0_0 bt328.2.1 bt328.2.2).bind fun bt337 => (some (bt320.1, bt337.1, bt320.2.2.1, bt337.2.1, bt337.2.2))) else (if bt328.1 = 2 then (spec_l3DrawBadResp.l0 k s0_0 bt328.2.1 bt328.2.2 bt320.1 bt320.2.1 bt320.2.2.1) else (some (bt320.1, bt320.2.1, bt320.2.2.1, bt328.2.1, bt328.2.2))))))
theorem spec_l3DrawBadResp.mono_l : ∀ k, (∀ y0 y1 y2 y3 y4 y5, LeO (spec_l3DrawBadResp.l0 k y0 y1 y2 y3 y4 y5) (spec_l3DrawBadResp.l0 (k + 1) y0 y1 y2 y3 y4 y5))
 | 0 => fun _ _ _ _ _ _ r h => by simp [spec_l3DrawBadResp.l0] at h
 | k + 1 => by
  have ih0 := spec_l3DrawBadResp.mono_l k
  ·intro y0 y1 y2 y3 y4 y5
   unfold spec_l3DrawBadResp.l0
   have m0 := @spec_l2Draw.mono
   have m1 := @spec_l3DrawResp.mono
   exact mo
theorem spec_l3DrawBadResp.mono : ∀ a0 a1 a2 k, LeO (spec_l3DrawBadResp.f k a0 a1 a2) (spec_l3DrawBadResp.f (k + 1) a0 a1 a2) := by
 intro a0 a1 a2 k
 have ih0 := spec_l3DrawBadResp.mono_l k
 unfold spec_l3DrawBadResp.f
 have m0 := @spec_l2Draw.mono
 have m1 := @spec_l3DrawResp.mono
 exact mo
set_option maxHeartbeats 8000000 in
set_option maxRecDepth 100000 in
theorem spec_l3DrawBadResp.calls (k : Nat) (g : Nat) (s0_0 : List Int) (s0_1 : Int) (s0_2 : Int) (r1 : Int) (r2 : List (S46)) (r3 : ByteArray) (r4 : Int) (r5 : Int) (w0 w : World) (hI : IsS57 w0 w g s0_0 s0_1 s0_2) (hB : Below w0.heap.size w0 w) (h : spec_l3DrawBadResp.f k s0_0 s0_1 s0_2 = some (r1, r2, r3, r4, r5)) :
  Calls Tryd.prog 28 #[.pointer (some ⟨g, 0, none⟩)] w fun e w' => ∃ v1_ : Value, e = .returned (.agg #[.int .i64 r1, v1_, .string r3]) ∧ Kd.R k46 46 w' w.heap.size (fun _ => True) v1_ r2 ∧ IsS57 w0 w' g s0_0 r4 r5 ∧ Below w0.heap.size w0 w' ∧ KeepBut w w' g none := by
 have hu32 := Tryd.underlying32
 have HI0 := am hI
 have HK := am (KeepBut.refl w g none)
 have HL := am hB.size
 clear hI
 have HW0 := am hB.size
 have HB := am hB
 clear hB
 unfold spec_l3DrawBadResp.f at h
 have H := h
 clear h
 revert H
 refine ok5 fun t320 t321 t324 t325 t326 A2 H => ?_
 (try dsimp only at H)
 revert H
 refine ok3 fun t328 t329 t330 A3 H => ?_
 (try dsimp only at H)
 have HH4 := am H
 clear H
 go_enter Tryd.func28, Tryd.ntmps28
 go_upto_if 8 with ((with_reducible refine gw ?_); first | (refine bx 2 #[.int .i64 0, .slice none 0 0, .string (⟨#[]⟩ : ByteArray)] 32 ?_; intro gb319 hg w5 hbox hb; have n0_ := am (IsS57.below u28HI0 hb); have n1_ := am (KeepBut.trans u28HK (KeepBut.of_below hb g none) (.inl rfl)); have n2_ := am (below_step u28HB hb); have n3_ := am (hbox); have n4_ := am ((by rw [hg]; exact (keep_size (w := w) (g := g) (row := none) u28HK) : w.heap.size ≤ gb319)); have n5_ := am ((Nat.le_trans HW0.out (by rw [hg]; exact (keep_size (w := w) (g := g) (row := none) u28HK) : w.heap.size ≤ gb319) : w0.heap.size ≤ gb319)); have n6_ := am ((by rw [hg]; exact Nat.ne_of_lt (IsS57.lt (show IsS57 w0 _ g s0_0 s0_1 s0_2 from u28HI0)) : g ≠ gb319)); have n7_ := am ((by rw [hg]; exact Nat.ne_of_gt (IsS57.lt (show IsS57 w0 _ g s0_0 s0_1 s0_2 from u28HI0)) : gb319 ≠ g)); clear HI0; clear HK; clear HB; have HI0 := n0_; have HK := n1_; have HB := n2_; have BK319 := n3_; have GW319 := n4_; have GE319 := n5_; have NB0_319 := n6_; have NB319_0 := n7_; clear n0_ n1_ n2_ n3_ n4_ n5_ n6_ n7_; clear hb hbox hg) | (refine gl 5 Tryd.func41 #[.pointer (some ⟨g, 0, none⟩)] ?_; (with_reducible refine (spec_l3DrawResp.calls k g s0_0 s0_1 s0_2 t320 t321 t324 t325 t326 w0 _ ?side1 ?side2 A2.out).mono ?_); (case side1 => exact u28HI0); (case side2 => exact u28HB); rintro e w6 ⟨v322, rfl, ho0, hi, hb, hk⟩; refine ⟨_, rfl, ?_⟩; replace BK319 := kp BK319 hk NB319_0; have HO323 := am (Kd.R_lower ho0 (keep_size (w := w) (g := g) (row := none) u28HK)); replace HK := am (KeepBut.trans u28HK hk (.inl rfl)); replace HB := am (hb); replace HI0 := am (hi); clear hb hk hi ho0) | (refine bx 3 #[.int .i64 0, .slice none 0 0, .string (⟨#[]⟩ : ByteArray)] 32 ?_; intro gb327 hg w7 hbox hb; have n0_ := am (Kd.R_below (ro HO323) hb); have n1_ := am (IsS57.below u28HI0 hb); have n2_ := kb BK319 hb; have n3_ := am (KeepBut.trans u28HK (KeepBut.of_below hb g none) (.inl rfl)); have n4_ := am (below_step u28HB hb); have n5_ := am (hbox); have n6_ := am ((by rw [hg]; exact (keep_size (w := w) (g := g) (row := none) u28HK) : w.heap.size ≤ gb327)); have n7_ := am ((Nat.le_trans HW0.out (by rw [hg]; exact (keep_size (w := w) (g := g) (row := none) u28HK) : w.heap.size ≤ gb327) : w0.heap.size ≤ gb327)); have n8_ := am (nl hg BK319 : gb319 ≠ gb327); have n9_ := am (ng hg BK319 : gb327 ≠ gb319); have n10_ := am ((by rw [hg]; exact Nat.ne_of_lt (IsS57.lt (show IsS57 w0 _ g s0_0 t325 t326 from u28HI0)) : g ≠ gb327)); have n11_ := am ((by rw [hg]; exact Nat.ne_of_gt (IsS57.lt (show IsS57 w0 _ g s0_0 t325 t326 from u28HI0)) : gb327 ≠ g)); clear HO323; clear HI0; clear BK319; clear HK; clear HB; have HO323 := n0_; have HI0 := n1_; have BK319 := n2_; have HK := n3_; have HB := n4_; have BK327 := n5_; have GW327 := n6_; have GE327 := n7_; have NB319_327 := n8_; have NB327_319 := n9_; have NB0_327 := n10_; have NB327_0 := n11_; clear n0_ n1_ n2_ n3_ n4_ n5_ n6_ n7_ n8_ n9_ n10_ n11_; clear hb hbox hg; have hnb8 := NB327_319.out; have hnc8 := NB319_327.out; have hnb9 := NB327_0.out; have hnc9 := NB0_327.out; obtain ⟨z10_0, y10_0, z10_1, y10_1, z10_2, y10_2⟩ := cl3 BK327; obtain ⟨Ao11, co11, eo11⟩ := Kd.R_slice HO323.out; subst eo11) | (refine gl 7 Tryd.func34 #[.pointer (some ⟨g, 0, none⟩), .int .i64 20] ?_; (with_reducible refine (spec_l1Below.calls g s0_0 t325 t326 20 t328 t329 t330 w0 _ ?side1 ?side2 A3.out).mono ?_); (case side1 => exact u28HI0); (case side2 => exact u28HB); rintro e w12 ⟨rfl, hi, hb, hk⟩; refine ⟨_, rfl, ?_⟩; replace BK319 := am (KeepBut.blk hk (g' := gb319) (o := .cells #[.int .i64 0, .slice none 0 0, .string (⟨#[]⟩ : ByteArray)] 32 (0, 0)) (bg1 BK319 NB319_327) NB319_0.out (by simp)); replace HO323 := am (Kd.R_mono (Kd.R_keep (IsS57.apart (show IsS57 w0 _ g s0_0 t325 t326 from u28HI0) (rj (Kd.R_types HO323.out BK327.out (by decide)) (fun _ h_ => h_.1)) (by decide)) hk (fun _ h => h.2)) (fun _ h => h.1)); replace BK327 := am (KeepBut.blk hk (g' := gb327) (o := .cells #[.int .i64 t320, .slice Ao11 t321.length co11, .string t324] 32 (0, 0)) (pt0 BK327) NB327_0.out (by simp)); replace HK := am (KeepBut.trans u28HK hk (.inl rfl)); replace HB := am (hb); replace HI0 := am (hi); clear hb hk hi))
 have H := HH4.out
 clear HH4
 by_cases c13 : t328 = 0
 ·rw [if_pos c13] at H
  have c13b0 : (t328 == 0) = true := beq_iff_eq.mpr c13
  have c13b1 : (t328 != 0) = false := bne_eq_false_iff_eq.mpr c13
  clear c13
  (first | rw [c13b0] | (simp only [i64_w, i32_w]; rw [c13b0]) | skip)
  obtain ⟨y331, hy331⟩ : ∃ y_ : List Int, y_ = (([99, 100, 599, 600, (-1)] : List Int)) := ⟨_, rfl⟩
  replace H : ((spec_l1PickInt.f s0_0 t329 t330 y331).bind fun bt334 => (some (bt334.1, t321, t324, bt334.2.1, bt334.2.2))) = some (r1, r2, r3, r4, r5) := by first | (rw [hy331]; with_reducible exact H) | (have H2_ := (Option.bind_some _ _).symm.trans H; rw [hy331]; with_reducible exact H2_) | (have H2_ := (Option.bind_some _ _).symm.trans H; with_reducible exact H2_) | with_reducible exact H | (rw [hy331]; exact H) | exact H
  have Ny331 := am hy331
  clear hy331
  revert H
  refine ok3 fun t334 t335 t336 A14 H => ?_
  (try dsimp only at H)
  simp only [Option.some.injEq, Prod.mk.injEq] at H
  obtain ⟨rfl, rfl, rfl, rfl, rfl⟩ := H
  go_wp2_with (first | ((with_reducible refine gate_dst (N := 11) rfl ?_); refine Kd.R_lit (Kd.int .i64) _ 3 ?hg (N := 11) ?hd (xs := ([99, 100, 599, 600, (-1)] : List Int)) (inner := [.int .i64 99, .int .i64 100, .int .i64 599, .int .i64 600, .int .i64 (-1)]) (ok := fun _ => True) (okp := fun _ => True) ?hr ?hp (fun _ hk => hk) trivial (Below.refl _ _) (Nat.le_refl _) (by simp) ?_; (case hd => rfl); (case hg => rfl); (case hr => first | (go_simp; done) | (go_simp; rfl)); (case hp => exact rp); intro v332 w15 ho16 hb hg_ hnew_; clear hg_ hnew_; (first | rw [← Ny331.out] at ho16 | (simp only [Int.reduceToNat] at ho16; rw [← Ny331.out] at ho16)); replace HO323 := kr HO323 hb; have HO333 := am (Kd.R_lower ho16 (keep_size (w := w) (g := g) (row := none) u28HK)); replace BK319 := kb BK319 hb; replace BK327 := kb BK327 hb; replace HK := am (KeepBut.trans u28HK (KeepBut.of_below hb g none) (.inl rfl)); replace HB := am (below_step u28HB hb); replace HI0 := am (IsS57.below u28HI0 hb); clear hb ho16; obtain ⟨Ao17, co17, eo17⟩ := Kd.R_slice HO333.out; subst eo17) | ((with_reducible refine gw ?_); first | (refine gl 12 Tryd.func42 #[.pointer (some ⟨g, 0, none⟩), .slice Ao17 y331.length co17] ?_; (with_reducible refine (spec_l1PickInt.calls g s0_0 t329 t330 _ _ y331 t334 t335 t336 w0 _ ?side1 ?side2 ?side3 ?side4 ?side5 A14.out).mono ?_); (case side1 => exact u28HI0); (case side2 => exact u28HB); (case side3 => exact rc HO333); (case side4 => exact (Kd.R_reads' HO333.out).2.1); (case side5 => exact far_slice (IsS57.own_ne HI0.out HO333.out (by decide))); rintro e w18 ⟨rfl, hi, hb, hk⟩; refine ⟨_, rfl, ?_⟩; replace BK319 := kp BK319 hk NB319_0; replace HO323 := am (Kd.R_mono (Kd.R_keep (IsS57.apart (show IsS57 w0 _ g s0_0 t329 t330 from u28HI0) (ro HO323) (by decide)) hk (fun _ h => h.2)) (fun _ h => h.1)); replace BK327 := kp BK327 hk NB327_0; replace HO333 := am (Kd.R_mono (Kd.R_keep (IsS57.apart (show IsS57 w0 _ g s0_0 t329 t330 from u28HI0) (ro HO333) (by decide)) hk (fun _ h => h.2)) (fun _ h => h.1)); replace HK := am (KeepBut.trans u28HK hk (.inl rfl)); replace HB := am (hb); replace HI0 := am (hi); clear hb hk hi; have hnb19 := NB327_319.out; have hnc19 := NB319_327.out; have hnb20 := NB327_0.out; have hnc20 := NB0_327.out; obtain ⟨z21_0, y21_0, z21_1, y21_1, z21_2, y21_2⟩ := cl3 BK327; have hnb22 := NB319_0.out; have hnc22 := NB0_319.out; obtain ⟨z23_0, y23_0, z23_1, y23_1, z23_2, y23_2⟩ := cl3 BK319)))
  refine bodyPost_ret (results_cell_row rfl _ _ gb319 32 #[.int .i64 t334, .slice Ao11 t321.length co11, .string t324] (0, 0) _ rfl (pt1 BK319 NB319_327) Tryd.underlying32 rfl (by kernel_rfl)) rfl ?_
  exact ⟨_, rf, rj (Kd.R_types (Kd.R_types HO323.out BK327.out (by decide)) BK319.out (by decide)) (fun _ hk => trivial), u28HI0, u28HB, u28HK⟩
 rw [if_neg c13] at H
 have c13b0 : (t328 == 0) = false := beq_eq_false_iff_ne.mpr c13
 have c13b1 : (t328 != 0) = true := bne_iff_ne.mpr c13
 (first | rw [c13b0] | (simp only [i64_w, i32_w]; rw [c13b0]) | skip)
 by_cases c24 : t328 = 1
 ·rw [if_pos c24] at H
  have c24b0 : (t328 == 1) = true := beq_iff_eq.mpr c24
  have c24b1 : (t328 != 1) = false := bne_eq_false_iff_eq.mpr c24
  clear c24
  revert H
  refine ok3 fun t337 t340 t341 A25 H => ?_
  (try dsimp only at H)
  simp only [Option.some.injEq, Prod.mk.injEq] at H
  obtain ⟨rfl, rfl, rfl, rfl, rfl⟩ := H
  go_wp2_with ((with_reducible refine gw ?_); first | (refine gl 17 Tryd.func43 #[.pointer (some ⟨g, 0, none⟩)] ?_; (with_reducible refine (spec_l2Draw.calls k g s0_0 t329 t330 t337 t340 t341 w0 _ ?side1 ?side2 A25.out).mono ?_); (case side1 => exact u28HI0); (case side2 => exact u28HB); rintro e w26 ⟨v338, rfl, ho0, hi, hb, hk⟩; refine ⟨_, rfl, ?_⟩; replace BK319 := kp BK319 hk NB319_0; replace BK327 := kp BK327 hk NB327_0; have HO339 := am (Kd.R_lower (Kd.R_new' ho0 (Kd.R_lt (ro HO323))) (keep_size (w := w) (g := g) (row := none) u28HK)); replace HO323 := am (Kd.R_mono (Kd.R_told (Kd.R_oldK (IsS57.apart (show IsS57 w0 _ g s0_0 t329 t330 from u28HI0) (ro HO323) (by decide)) hk) (Kd.R_base ho0)) (fun _ h_ => h_.1)); replace HK := am (KeepBut.trans u28HK hk (.inl rfl)); replace HB := am (hb); replace HI0 := am (hi); clear hb hk hi ho0; obtain ⟨Ao27, co27, eo27⟩ := Kd.R_slice HO339.out; subst eo27; have hnb28 := NB327_319.out; have hnc28 := NB319_327.out; have hnb29 := NB327_0.out; have hnc29 := NB0_327.out; obtain ⟨z30_0, y30_0, z30_1, y30_1, z30_2, y30_2⟩ := cl3 BK327; have hnb31 := NB319_0.out; have hnc31 := NB0_319.out; obtain ⟨z32_0, y32_0, z32_1, y32_1, z32_2, y32_2⟩ := cl3 BK319))
  refine bodyPost_ret (results_cell_row rfl _ _ gb319 32 #[.int .i64 t320, .slice Ao27 t337.length co27, .string t324] (0, 0) _ rfl (pt1 BK319 NB319_327) Tryd.underlying32 rfl (by kernel_rfl)) rfl ?_
  exact ⟨_, rf, rj (Kd.R_types (Kd.R_types HO339.out BK327.out (by decide)) BK319.out (by decide)) (fun _ hk => trivial), u28HI0, u28HB, u28HK⟩
 rw [if_neg c24] at H
 have c24b0 : (t328 == 1) = false := beq_eq_false_iff_ne.mpr c24
 have c24b1 : (t328 != 1) = true := bne_iff_ne.mpr c24
 by_cases c33 : t328 = 2
 rotate_left
 ·rw [if_neg c33] at H
  have c33b0 : (t328 == 2) = false := beq_eq_false_iff_ne.mpr c33
  have c33b1 : (t328 != 2) = true := bne_iff_ne.mpr c33
  simp only [Option.some.injEq, Prod.mk.injEq] at H
  obtain ⟨rfl, rfl, rfl, rfl, rfl⟩ := H
  have hnb48 := NB327_319.out
  have hnc48 := NB319_327.out
  have hnb49 := NB327_0.out
  have hnc49 := NB0_327.out
  obtain ⟨z50_0, y50_0, z50_1, y50_1, z50_2, y50_2⟩ := cl3 BK327
  have hnb51 := NB319_0.out
  have hnc51 := NB0_319.out
  obtain ⟨z52_0, y52_0, z52_1, y52_1, z52_2, y52_2⟩ := cl3 BK319
  go_wp2
  refine bodyPost_ret (results_cell_row rfl _ _ gb319 32 #[.int .i64 t320, .slice Ao11 t321.length co11, .string t324] (0, 0) _ rfl (pt0 BK319) Tryd.underlying32 rfl (by kernel_rfl)) rfl ?_
  exact ⟨_, rf, rj (Kd.R_types HO323.out BK319.out (by decide)) (fun _ hk => trivial), u28HI0, u28HB, u28HK⟩
 rw [if_pos c33] at H
 have c33b0 : (t328 == 2) = true := beq_iff_eq.mpr c33
 have c33b1 : (t328 != 2) = false := bne_eq_false_iff_eq.mpr c33
 clear c33
 have H' := am H
 clear H
 go_wp2
 (try simp only [Act.put, List.setIfInBounds_toArray, List.set_cons_zero, List.set_cons_succ])
 go_loopg [] k (fun kq w' => ∃ (x1001_1 : Int) (x1002_1 : Int) (x328002_1 : ByteArray), Aside0 (spec_l3DrawBadResp.l0 kq s0_0 x1001_1 x1002_1 t320 t321 x328002_1 = some (r1, r2, r3, r4, r5)) ∧ Aside0 (kq ≤ k) ∧ Aside0 (Kd.R k46 46 w' w.heap.size (fun _ => True) (.slice Ao11 t321.length co11) t321) ∧ Aside0 (w'.heap[gb319]? = some (.cells #[.int .i64 0, (.slice none 0 0), .string (⟨#[]⟩ : ByteArray)] 32 (0, 0))) ∧ Aside0 (w'.heap[gb327]? = some (.cells #[.int .i64 t320, (.slice Ao11 t321.length co11), .string x328002_1] 32 (0, 0))) ∧ Aside0 (IsS57 w0 w' g s0_0 x1001_1 x1002_1) ∧ Aside0 (KeepBut w w' g none) ∧ Aside0 (Below w0.heap.size w0 w'))
 case atStart => exact ⟨(t329), (t330), (t324), H', ⟨Nat.le_refl _⟩, ⟨by (with_reducible repeat (first | apply Kd.R_alloc | apply Kd.R_drewN | apply Kd.R_drew)); exact HO323.out⟩, ⟨by (with_reducible repeat (first | refine blk_drewN ?_ _ | refine blk_drew ?_ | refine blk_alloc ?_ _)); exact BK319.out⟩, ⟨by (with_reducible repeat (first | refine blk_drewN ?_ _ | refine blk_drew ?_ | refine blk_alloc ?_ _)); exact BK327.out⟩, ⟨u28HI0⟩, ⟨u28HK⟩, ⟨u28HB⟩⟩
 case round =>
  clear H'
  try clear c1
  try clear c2
  try clear p2
  try clear c3
  try clear c4
  try clear c8
  try clear c9
  try clear c13
  try clear c13b0
  try clear c13b1
  try clear c19
  try clear c20
  try clear c22
  try clear c24
  try clear c24b0
  try clear c24b1
  try clear c28
  try clear c29
  try clear c31
  try clear c33
  try clear c33b0
  try clear c33b1
  try clear z10_0
  try clear z10_1
  try clear z10_2
  try clear z21_0
  try clear z21_1
  try clear z21_2
  try clear z23_0
  try clear z23_1
  try clear z23_2
  try clear z30_0
  try clear z30_1
  try clear z30_2
  try clear z32_0
  try clear z32_1
  try clear z32_2
  try clear y10_0
  try clear y10_1
  try clear y10_2
  try clear y21_0
  try clear y21_1
  try clear y21_2
  try clear y23_0
  try clear y23_1
  try clear y23_2
  try clear y30_0
  try clear y30_1
  try clear y30_2
  try clear y32_0
  try clear y32_1
  try clear y32_2
  obtain ⟨x1001_1, x1002_1, x328002_1, HA, HK1, HO_328001, BK319, BK327, HI0, HK, HB⟩ := hrel
  cases gk with
  | zero => exact absurd HA.out (by simp [spec_l3DrawBadResp.l0])
  | succ k1 =>
   have H := HA.out
   clear HA
   simp only [spec_l3DrawBadResp.l0] at H
   revert H
   refine ok3 fun t342 t343 t344 A34 H => ?_
   (try dsimp only at H)
   have HH35 := am H
   clear H
   try go_wp2
   replace HO_328001 := am (Kd.R_drew HO_328001.out)
   replace BK319 := am (blk_drew BK319.out)
   replace BK327 := am (blk_drew BK327.out)
   replace HI0 := am (IsS57.drew HI0.out)
   replace HK := am (keep_drew HK.out)
   replace HB := am (below_drew1 HB.out)
   refine start_ (n := 7) (S := fun w' => w'.cell? ⟨gb327, 0, none⟩ = some (.int .i64 t320) ∧ w'.cell? ⟨gb327, 1, none⟩ = some (.slice Ao11 t321.length co11) ∧ w'.cell? ⟨gb327, 2, none⟩ = some (.string x328002_1)) (ds := []) ⟨br true [0, 7]⟩ (by kernel_rfl) rfl (by kernel_rfl) ⟨bc BK327, bc BK327, bc BK327⟩ (fun hHeld => ?_)
   generalize wr.drew = w36 at HO_328001 BK319 BK327 HI0 HK HB hHeld ⊢
   refine pu 0 21 [1, 6] ?_
   refine pu 3 24 [1, 2, 1, 3] ?_
   refine tk 1 22 [2, 1, 1, 3] ?_
   refine pu 2 23 [4, 3] ?_
   refine og 4 25 [5, 2] Tryd.func34 #[.pointer (some ⟨g, 0, none⟩), .int .i64 2] (fun K hK => ?_)
   with_reducible refine (spec_l1Below.calls g s0_0 x1001_1 x1002_1 2 t342 t343 t344 w0 _ ?side1 ?side2 A34.out).mono ?_
   (case side1 => exact u28HI0)
   (case side2 => exact u28HB)
   rintro e w37 ⟨rfl, hi, hb, hk⟩
   refine ⟨_, rfl, ?_⟩
   replace HO_328001 := am (Kd.R_mono (Kd.R_keep (IsS57.apart (show IsS57 w0 _ g s0_0 x1001_1 x1002_1 from u28HI0) (ro HO_328001) (by decide)) hk (fun _ h => h.2)) (fun _ h => h.1))
   replace BK319 := kp BK319 hk NB319_0
   replace BK327 := kp BK327 hk NB327_0
   replace HK := am (KeepBut.trans u28HK hk (.inl rfl))
   replace HB := am (hb)
   replace HI0 := am (hi)
   clear hb hk hi
   refine hK.out _ _ ⟨bc BK327, bc BK327, bc BK327⟩ (fun hHeld => ?_)
   clear hK K
   refine nm 25 ?_
   refine pu 5 26 [6, 1] ?_
   refine pu 6 27 [7] ?_
   refine done_ (by kernel_rfl) ?_
   go_upto_if 27 with (fail)
   have H := HH35.out
   clear HH35
   by_cases c38 : (x328002_1.size : Int) < (wrap64 (120 + t342))
   rotate_left
   ·rw [if_neg c38] at H
    have c38b0 := decide_eq_false c38
    clear c38
    (first | rw [c38b0] | (simp only [i64_w, i32_w]; rw [c38b0]) | skip)
    simp only [Option.some.injEq, Prod.mk.injEq] at H
    obtain ⟨rfl, rfl, rfl, rfl, rfl⟩ := H
    have hnb43 := NB327_319.out
    have hnc43 := NB319_327.out
    have hnb44 := NB327_0.out
    have hnc44 := NB0_327.out
    obtain ⟨z45_0, y45_0, z45_1, y45_1, z45_2, y45_2⟩ := cl3 BK327
    have hnb46 := NB319_0.out
    have hnc46 := NB0_319.out
    obtain ⟨z47_0, y47_0, z47_1, y47_1, z47_2, y47_2⟩ := cl3 BK319
    go_wp2
    refine bodyPost_ret (results_cell_row rfl _ _ gb319 32 #[.int .i64 t320, .slice Ao11 t321.length co11, .string x328002_1] (0, 0) _ rfl (pt0 BK319) Tryd.underlying32 rfl (by kernel_rfl)) rfl ?_
    exact ⟨_, rf, rj (Kd.R_types HO_328001.out BK319.out (by decide)) (fun _ hk => trivial), u28HI0, u28HB, u28HK⟩
   rw [if_pos c38] at H
   have c38b0 := decide_eq_true c38
   clear c38
   (first | rw [c38b0] | (simp only [i64_w, i32_w]; rw [c38b0]) | skip)
   revert H
   refine ifn fun c39 H => ?_
   have c39b0 := eq_true c39
   have c39b1 := decide_eq_true c39
   try have c39b2 := eq_false (Nat.not_lt.2 c39)
   have H' := am H
   clear H
   have hnb40 := NB327_319.out
   have hnc40 := NB319_327.out
   have hnb41 := NB327_0.out
   have hnc41 := NB0_327.out
   obtain ⟨z42_0, y42_0, z42_1, y42_1, z42_2, y42_2⟩ := cl3 BK327
   go_wp2
   go_roundg k1
   case measure => have := HK1.out; omega
   case rel => exact ⟨(t343), (t344), (x328002_1 ++ (⟨#[98]⟩ : ByteArray)), H', ⟨by have := HK1.out; omega⟩, ⟨rj (Kd.R_types HO_328001.out BK327.out (by decide)) (fun _ hk => trivial)⟩, ⟨by (with_reducible repeat (first | refine blk_drewN ?_ _ | refine blk_drew ?_ | refine blk_alloc ?_ _)); refine blk_far ?_ NB319_327.out _; (with_reducible repeat (first | refine blk_drewN ?_ _ | refine blk_drew ?_ | refine blk_alloc ?_ _)); exact BK319.out⟩, ⟨pt0 BK327⟩, ⟨u28HI0⟩, ⟨u28HK⟩, ⟨u28HB⟩⟩

/-! ### spec_l3DrawReq: function 49 -/
theorem u49HI0 {p : Prop} (h : p := by repeat (first | (with_reducible first | exact HI0.out | apply IsS57.alloc | apply IsS57.drewN | apply IsS57.drew | apply IsS57.set_1 | apply IsS57.set_2 | apply IsS57.far (p := ⟨gb345, _, none⟩) (hne := NB0_345.out) | apply IsS57.far (p := ⟨gb358, _, none⟩) (hne := NB0_358.out)) | exact HI0.out)) : p := h
theorem u49HK {p : Prop} (h : p := by repeat (first | (with_reducible first | exact HK.out | apply KeepBut.set_ | apply keep_drewN | apply keep_drew | apply keep_alloc | refine keep_far ?_ GW345.out _ | refine keep_far ?_ GW358.out _) | exact HK.out)) : p := h
theorem u49HB {p : Prop} (h : p := by repeat (first | (with_reducible first | exact HB.out | apply below_alloc | apply pw_below_drewN | apply below_drew1 | refine below_set ?_ (IsS57.ge HI0.out) | refine below_set ?_ GE345.out | refine below_set ?_ GE358.out) | exact HB.out)) : p := h
def spec_l3DrawReq.l0 : Nat → Int → List Int → Int → Int → Int → ByteArray → List (S46) → ByteArray → Option (Int × ByteArray × (List (S46)) × ByteArray × Int × Int)
 | 0, _, _, _, _, _, _, _, _ => none
 | k + 1, x4, x1000, x1001, x1002, x359000, x359001, x359002, x359003 => (spec_l1Below.f x1000 x1001 x1002 4).bind fun bt359 => (if x4 < bt359.1 then ((spec_l1Pick.f x1000 bt359.2.1 bt359.2.2 (([(⟨#[108, 97, 110, 103]⟩ : ByteArray), (⟨#[107, 105, 110, 100]⟩ : ByteArray), (⟨#[99, 97, 99, 104, 101, 45, 99, 111, 110, 116, 114, 111, 108]⟩ : ByteArray), (⟨#[105, 102, 45, 110, 111, 110, 101, 45, 109, 97, 116, 99, 104]⟩ : ByteArray), (⟨#[120, 45, 97]⟩ : ByteArray)] : List ByteArray))).bind fun bt368 => ((spec_l2At.f k x359002 bt368.1).bind fun t371 => (if t371 < 0 then ((spec_l1Pick.f x1000 bt368.2.1 bt368.2.2 (([(⟨#[100, 101]⟩ : ByteArray), (⟨#[101, 110]⟩ : ByteArray)] : List ByteArray))).bind fun bt375 => (if bt368.1.toList = ([107, 105, 110, 100] : List UInt8) then ((spec_l1Pick.f x1000 bt375.2.1 bt375.2.2 (([(⟨#[120]⟩ : ByteArray), (⟨#[121]⟩ : ByteArray)] : List ByteArray))).bind fun bt381 => (if x359002.length < 4398046511104 then (spec_l3DrawReq.l0 k (wrap64 (x4 + 1)) x1000 bt381.2.1 bt381.2.2 x359000 x359001 (x359002 ++ [(⟨bt368.1, bt381.1⟩ : S46)]) x359003) else (none))) else (if bt368.1.toList = ([99, 97, 99, 104, 101, 45, 99, 111, 110, 116, 114, 111, 108] : List UInt8) then ((spec_l1Pick.f x1000 bt375.2.1 bt375.2.2 (([(⟨#[110, 111, 45, 99, 97, 99, 104, 101]⟩ : ByteArray), (⟨#[110, 111, 45, 115, 116, 111, 114, 101]⟩ : ByteArray), (⟨#[109, 97, 120, 45, 97, 103, 101, 61, 51]⟩ : ByteArray)] : List ByteArray))).bind fun bt390 => (if x359002.length < 4398046511104 then (spec_l3DrawReq.l0 k (wrap64 (x4 + 1)) x1000 bt390.2.1 bt390.2.2 x359000 x359001 (x359002 ++ [(⟨bt368.1, bt390.1⟩ : S46)]) x359003) else (none))) else (if bt368.1.toList = ([105, 102, 45, 110, 111, 110, 101, 45, 109, 97, 116, 99, 104] : List UInt8) then ((spec_l1Pick.f x1000 bt375.2.1 bt375.2.2 (([(⟨#[97]⟩ : ByteArray), (⟨#[98]⟩ : ByteArray)] : List ByteArray))).bind fun bt399 => (if x359002.length < 4398046511104 then (spec_l3DrawReq.l0 k (wrap64 (x4 + 1)) x1000 bt399.2.1 bt399.2.2 x359000 x359001 (x359002 ++ [(⟨bt368.1, bt399.1⟩ : S46)]) x359003) else (none))) else (if x359002.length < 4398046511104 then (spec_l3DrawReq.l0 k (wrap64 (x4 + 1)) x1000 bt375.2.1 bt375.2.2 x359000 x359001 (x359002 ++ [(⟨bt368.1, bt375.1⟩ : S46)]) x359003) else (none)))))) else (spec_l3DrawReq.l0 k (wrap64 (x4 + 1)) x1000 bt368.2.1 bt368.2.2 x359000 x359001 x359002 x359003)))) else (if x359000 = 3 then ((spec_l3DrawBody.f k x1000 bt359.2.1 bt359.2.2).bind fun bt362 => (some (x359000, x359001, x359002, bt362.1, bt362.2.1, bt362.2.2))) else (some (x359000, x359001, x359002, x359003, bt359.2.1, bt359.2.2))))
def spec_l3DrawReq.f (k : Nat) (s0_0 : List Int) (s0_1 : Int) (s0_2 : Int) : Option (Int × ByteArray × (List (S46)) × ByteArray × Int × Int) := (spec_l1PickInt.f s0_0 s0_1 s0_2 (([1, 1, 1, 1, 2, 3, 4] : List Int))).bind fun bt349 => ((spec_l1Pick.f s0_0 bt349.2.1 bt349.2.2 (([(⟨#[47]⟩ : ByteArray), (⟨#[47, 97]⟩ : ByteArray), (⟨#[47, 97, 47, 98]⟩ : ByteArray), (⟨#[47, 98]⟩ : ByteArray)] : List ByteArray))).bind fun bt355 => (spec_l3DrawReq.l0 k 0 s0_0 bt355.2.1 bt355.2.2 bt349.1 bt355.1 ([] : List (S46)) (⟨#[]⟩ : ByteArray)))
theorem spec_l3DrawReq.mono_l : ∀ k, (∀ y0 y1 y2 y3 y4 y5 y6 y7, LeO (spec_l3DrawReq.l0 k y0 y1 y2 y3 y4 y5 y6 y7) (spec_l3DrawReq.l0 (k + 1) y0 y1 y2 y3 y4 y5 y6 y7))
 | 0 => fun _ _ _ _ _ _ _ _ r h => by simp [spec_l3DrawReq.l0] at h
 | k + 1 => by
  have ih0 := spec_l3DrawReq.mono_l k
  ·intro y0 y1 y2 y3 y4 y5 y6 y7
   unfold spec_l3DrawReq.l0
   have m0 := @spec_l2At.mono
   have m1 := @spec_l3DrawBody.mono
   exact mo
theorem spec_l3DrawReq.mono : ∀ a0 a1 a2 k, LeO (spec_l3DrawReq.f k a0 a1 a2) (spec_l3DrawReq.f (k + 1) a0 a1 a2) := by
 intro a0 a1 a2 k
 have ih0 := spec_l3DrawReq.mono_l k
 unfold spec_l3DrawReq.f
 have m0 := @spec_l2At.mono
 have m1 := @spec_l3DrawBody.mono
 exact mo
set_option maxHeartbeats 8000000 in
set_option maxRecDepth 100000 in
theorem spec_l3DrawReq.calls (k : Nat) (g : Nat) (s0_0 : List Int) (s0_1 : Int) (s0_2 : Int) (r1 : Int) (r2 : ByteArray) (r3 : List (S46)) (r4 : ByteArray) (r5 : Int) (r6 : Int) (w0 w : World) (hI : IsS57 w0 w g s0_0 s0_1 s0_2) (hB : Below w0.heap.size w0 w) (h : spec_l3DrawReq.f k s0_0 s0_1 s0_2 = some (r1, r2, r3, r4, r5, r6)) :
  Calls Tryd.prog 49 #[.pointer (some ⟨g, 0, none⟩)] w fun e w' => ∃ v2_ : Value, e = .returned (.agg #[.int .i64 r1, .string r2, v2_, .string r4]) ∧ Kd.R k46 46 w' w.heap.size (fun _ => True) v2_ r3 ∧ IsS57 w0 w' g s0_0 r5 r6 ∧ Below w0.heap.size w0 w' ∧ KeepBut w w' g none := by
 have hu26 := Tryd.underlying26
 have hu46 := Tryd.underlying46
 have HI0 := am hI
 have HK := am (KeepBut.refl w g none)
 have HL := am hB.size
 clear hI
 have HW0 := am hB.size
 have HB := am hB
 clear hB
 unfold spec_l3DrawReq.f at h
 have H := h
 clear h
 obtain ⟨y346, hy346⟩ : ∃ y_ : List Int, y_ = (([1, 1, 1, 1, 2, 3, 4] : List Int)) := ⟨_, rfl⟩
 replace H : ((spec_l1PickInt.f s0_0 s0_1 s0_2 y346).bind fun bt349 => ((spec_l1Pick.f s0_0 bt349.2.1 bt349.2.2 (([(⟨#[47]⟩ : ByteArray), (⟨#[47, 97]⟩ : ByteArray), (⟨#[47, 97, 47, 98]⟩ : ByteArray), (⟨#[47, 98]⟩ : ByteArray)] : List ByteArray))).bind fun bt355 => (spec_l3DrawReq.l0 k 0 s0_0 bt355.2.1 bt355.2.2 bt349.1 bt355.1 ([] : List (S46)) (⟨#[]⟩ : ByteArray)))) = some (r1, r2, r3, r4, r5, r6) := by first | (rw [hy346]; with_reducible exact H) | (have H2_ := (Option.bind_some _ _).symm.trans H; rw [hy346]; with_reducible exact H2_) | (have H2_ := (Option.bind_some _ _).symm.trans H; with_reducible exact H2_) | with_reducible exact H | (rw [hy346]; exact H) | exact H
 have Ny346 := am hy346
 clear hy346
 revert H
 refine ok3 fun t349 t350 t351 A2 H => ?_
 (try dsimp only at H)
 obtain ⟨y352, hy352⟩ : ∃ y_ : List ByteArray, y_ = (([(⟨#[47]⟩ : ByteArray), (⟨#[47, 97]⟩ : ByteArray), (⟨#[47, 97, 47, 98]⟩ : ByteArray), (⟨#[47, 98]⟩ : ByteArray)] : List ByteArray)) := ⟨_, rfl⟩
 replace H : ((spec_l1Pick.f s0_0 t350 t351 y352).bind fun bt355 => (spec_l3DrawReq.l0 k 0 s0_0 bt355.2.1 bt355.2.2 t349 bt355.1 ([] : List (S46)) (⟨#[]⟩ : ByteArray))) = some (r1, r2, r3, r4, r5, r6) := by first | (rw [hy352]; with_reducible exact H) | (have H2_ := (Option.bind_some _ _).symm.trans H; rw [hy352]; with_reducible exact H2_) | (have H2_ := (Option.bind_some _ _).symm.trans H; with_reducible exact H2_) | with_reducible exact H | (rw [hy352]; exact H) | exact H
 have Ny352 := am hy352
 clear hy352
 revert H
 refine ok3 fun t355 t356 t357 A3 H => ?_
 (try dsimp only at H)
 have H' := am H
 clear H
 go_enter Tryd.func49, Tryd.ntmps49
 go_wp2_with (first | ((with_reducible refine gw ?_); refine bx 2 #[.int .i64 0, .string (⟨#[]⟩ : ByteArray), .slice none 0 0, .string (⟨#[]⟩ : ByteArray)] 26 ?_; intro gb345 hg w4 hbox hb; have n0_ := am (IsS57.below u49HI0 hb); have n1_ := am (KeepBut.trans u49HK (KeepBut.of_below hb g none) (.inl rfl)); have n2_ := am (below_step u49HB hb); have n3_ := am (hbox); have n4_ := am ((by rw [hg]; exact (keep_size (w := w) (g := g) (row := none) u49HK) : w.heap.size ≤ gb345)); have n5_ := am ((Nat.le_trans HW0.out (by rw [hg]; exact (keep_size (w := w) (g := g) (row := none) u49HK) : w.heap.size ≤ gb345) : w0.heap.size ≤ gb345)); have n6_ := am ((by rw [hg]; exact Nat.ne_of_lt (IsS57.lt (show IsS57 w0 _ g s0_0 s0_1 s0_2 from u49HI0)) : g ≠ gb345)); have n7_ := am ((by rw [hg]; exact Nat.ne_of_gt (IsS57.lt (show IsS57 w0 _ g s0_0 s0_1 s0_2 from u49HI0)) : gb345 ≠ g)); clear HI0; clear HK; clear HB; have HI0 := n0_; have HK := n1_; have HB := n2_; have BK345 := n3_; have GW345 := n4_; have GE345 := n5_; have NB0_345 := n6_; have NB345_0 := n7_; clear n0_ n1_ n2_ n3_ n4_ n5_ n6_ n7_; clear hb hbox hg) | ((with_reducible refine gate_dst (N := 8) rfl ?_); refine Kd.R_lit (Kd.int .i64) _ 3 ?hg (N := 8) ?hd (xs := ([1, 1, 1, 1, 2, 3, 4] : List Int)) (inner := [.int .i64 1, .int .i64 1, .int .i64 1, .int .i64 1, .int .i64 2, .int .i64 3, .int .i64 4]) (ok := fun _ => True) (okp := fun _ => True) ?hr ?hp (fun _ hk => hk) trivial (Below.refl _ _) (Nat.le_refl _) (by simp) ?_; (case hd => rfl); (case hg => rfl); (case hr => first | (go_simp; done) | (go_simp; rfl)); (case hp => exact rp); intro v347 w5 ho6 hb hg_ hnew_; clear hg_ hnew_; (first | rw [← Ny346.out] at ho6 | (simp only [Int.reduceToNat] at ho6; rw [← Ny346.out] at ho6)); have HO348 := am (Kd.R_lower ho6 (keep_size (w := w) (g := g) (row := none) u49HK)); replace BK345 := kb BK345 hb; replace HK := am (KeepBut.trans u49HK (KeepBut.of_below hb g none) (.inl rfl)); replace HB := am (below_step u49HB hb); replace HI0 := am (IsS57.below u49HI0 hb); clear hb ho6; obtain ⟨Ao7, co7, eo7⟩ := Kd.R_slice HO348.out; subst eo7) | ((with_reducible refine gw ?_); refine gl 9 Tryd.func42 #[.pointer (some ⟨g, 0, none⟩), .slice Ao7 y346.length co7] ?_; (with_reducible refine (spec_l1PickInt.calls g s0_0 s0_1 s0_2 _ _ y346 t349 t350 t351 w0 _ ?side1 ?side2 ?side3 ?side4 ?side5 A2.out).mono ?_); (case side1 => exact u49HI0); (case side2 => exact u49HB); (case side3 => exact rc HO348); (case side4 => exact (Kd.R_reads' HO348.out).2.1); (case side5 => exact far_slice (IsS57.own_ne HI0.out HO348.out (by decide))); rintro e w8 ⟨rfl, hi, hb, hk⟩; refine ⟨_, rfl, ?_⟩; replace BK345 := kp BK345 hk NB345_0; replace HO348 := am (Kd.R_mono (Kd.R_keep (IsS57.apart (show IsS57 w0 _ g s0_0 s0_1 s0_2 from u49HI0) (ro HO348) (by decide)) hk (fun _ h => h.2)) (fun _ h => h.1)); replace HK := am (KeepBut.trans u49HK hk (.inl rfl)); replace HB := am (hb); replace HI0 := am (hi); clear hb hk hi) | ((with_reducible refine gate_dst (N := 11) rfl ?_); refine Kd.R_lit Kd.string _ 9 ?hg (N := 11) ?hd (xs := ([(⟨#[47]⟩ : ByteArray), (⟨#[47, 97]⟩ : ByteArray), (⟨#[47, 97, 47, 98]⟩ : ByteArray), (⟨#[47, 98]⟩ : ByteArray)] : List ByteArray)) (inner := [.string (⟨#[47]⟩ : ByteArray), .string (⟨#[47, 97]⟩ : ByteArray), .string (⟨#[47, 97, 47, 98]⟩ : ByteArray), .string (⟨#[47, 98]⟩ : ByteArray)]) (ok := fun _ => True) (okp := fun _ => True) ?hr ?hp (fun _ hk => hk) trivial (Below.refl _ _) (Nat.le_refl _) (by simp) ?_; (case hd => rfl); (case hg => rfl); (case hr => first | (go_simp; done) | (go_simp; rfl)); (case hp => exact rp); intro v353 w9 ho10 hb hg_ hnew_; clear hg_ hnew_; (first | rw [← Ny352.out] at ho10 | (simp only [Int.reduceToNat] at ho10; rw [← Ny352.out] at ho10)); replace HO348 := kr HO348 hb; have HO354 := am (Kd.R_lower ho10 (keep_size (w := w) (g := g) (row := none) u49HK)); replace BK345 := kb BK345 hb; replace HK := am (KeepBut.trans u49HK (KeepBut.of_below hb g none) (.inl rfl)); replace HB := am (below_step u49HB hb); replace HI0 := am (IsS57.below u49HI0 hb); clear hb ho10; obtain ⟨Ao11, co11, eo11⟩ := Kd.R_slice HO354.out; subst eo11) | ((with_reducible refine gw ?_); refine gl 12 Tryd.func50 #[.pointer (some ⟨g, 0, none⟩), .slice Ao11 y352.length co11] ?_; (with_reducible refine (spec_l1Pick.calls g s0_0 t350 t351 _ _ y352 t355 t356 t357 w0 _ ?side1 ?side2 ?side3 ?side4 ?side5 A3.out).mono ?_); (case side1 => exact u49HI0); (case side2 => exact u49HB); (case side3 => exact rc HO354); (case side4 => exact (Kd.R_reads' HO354.out).2.1); (case side5 => exact far_slice (IsS57.own_ne HI0.out HO354.out (by decide))); rintro e w12 ⟨rfl, hi, hb, hk⟩; refine ⟨_, rfl, ?_⟩; replace BK345 := kp BK345 hk NB345_0; replace HO348 := am (Kd.R_mono (Kd.R_keep (IsS57.apart (show IsS57 w0 _ g s0_0 t350 t351 from u49HI0) (ro HO348) (by decide)) hk (fun _ h => h.2)) (fun _ h => h.1)); replace HO354 := am (Kd.R_mono (Kd.R_keep (IsS57.apart (show IsS57 w0 _ g s0_0 t350 t351 from u49HI0) (ro HO354) (by decide)) hk (fun _ h => h.2)) (fun _ h => h.1)); replace HK := am (KeepBut.trans u49HK hk (.inl rfl)); replace HB := am (hb); replace HI0 := am (hi); clear hb hk hi) | ((with_reducible refine gw ?_); refine bx 3 #[.int .i64 0, .string (⟨#[]⟩ : ByteArray), .slice none 0 0, .string (⟨#[]⟩ : ByteArray)] 26 ?_; intro gb358 hg w13 hbox hb; have n0_ := am (Kd.R_below (ro HO348) hb); have n1_ := am (Kd.R_below (ro HO354) hb); have n2_ := am (IsS57.below u49HI0 hb); have n3_ := kb BK345 hb; have n4_ := am (KeepBut.trans u49HK (KeepBut.of_below hb g none) (.inl rfl)); have n5_ := am (below_step u49HB hb); have n6_ := am (hbox); have n7_ := am ((by rw [hg]; exact (keep_size (w := w) (g := g) (row := none) u49HK) : w.heap.size ≤ gb358)); have n8_ := am ((Nat.le_trans HW0.out (by rw [hg]; exact (keep_size (w := w) (g := g) (row := none) u49HK) : w.heap.size ≤ gb358) : w0.heap.size ≤ gb358)); have n9_ := am (nl hg BK345 : gb345 ≠ gb358); have n10_ := am (ng hg BK345 : gb358 ≠ gb345); have n11_ := am ((by rw [hg]; exact Nat.ne_of_lt (IsS57.lt (show IsS57 w0 _ g s0_0 t356 t357 from u49HI0)) : g ≠ gb358)); have n12_ := am ((by rw [hg]; exact Nat.ne_of_gt (IsS57.lt (show IsS57 w0 _ g s0_0 t356 t357 from u49HI0)) : gb358 ≠ g)); clear HO348; clear HO354; clear HI0; clear BK345; clear HK; clear HB; have HO348 := n0_; have HO354 := n1_; have HI0 := n2_; have BK345 := n3_; have HK := n4_; have HB := n5_; have BK358 := n6_; have GW358 := n7_; have GE358 := n8_; have NB345_358 := n9_; have NB358_345 := n10_; have NB0_358 := n11_; have NB358_0 := n12_; clear n0_ n1_ n2_ n3_ n4_ n5_ n6_ n7_ n8_ n9_ n10_ n11_ n12_; clear hb hbox hg; have hnb14 := NB358_345.out; have hnc14 := NB345_358.out; have hnb15 := NB358_0.out; have hnc15 := NB0_358.out; obtain ⟨z16_0, y16_0, z16_1, y16_1, z16_2, y16_2, z16_3, y16_3⟩ := cl4 BK358))
 (try simp only [Act.put, List.setIfInBounds_toArray, List.set_cons_zero, List.set_cons_succ])
 go_loopg [4] k (fun kq v4 w' => ∃ (x4_1 : Int) (x1001_1 : Int) (x1002_1 : Int) (x359002_1 : List (S46)) (u359002 : Value), v4 = .int .i64 x4_1 ∧ Aside0 (spec_l3DrawReq.l0 kq x4_1 s0_0 x1001_1 x1002_1 t349 t355 x359002_1 (⟨#[]⟩ : ByteArray) = some (r1, r2, r3, r4, r5, r6)) ∧ Aside0 (kq ≤ k) ∧ Aside0 (Kd.R k46 46 w' w.heap.size (fun _ => True) u359002 x359002_1) ∧ Aside0 (w'.heap[gb345]? = some (.cells #[.int .i64 0, .string (⟨#[]⟩ : ByteArray), (.slice none 0 0), .string (⟨#[]⟩ : ByteArray)] 26 (0, 0))) ∧ Aside0 (w'.heap[gb358]? = some (.cells #[.int .i64 t349, .string t355, u359002, .string (⟨#[]⟩ : ByteArray)] 26 (0, 0))) ∧ Aside0 (IsS57 w0 w' g s0_0 x1001_1 x1002_1) ∧ Aside0 (KeepBut w w' g none) ∧ Aside0 (Below w0.heap.size w0 w'))
 case atStart => exact ⟨(0), (t356), (t357), (([] : List (S46))), (.slice none 0 0), rs, H', ⟨Nat.le_refl _⟩, ⟨by first | exact Kd.R_nil _ _ _ _ _ | exact Kd.N_nil _ _ _ _ _ | exact Kd.V_nil _ _ _ _ _ | exact Kd.Q_nil _ _ _ _ _ | exact Kd.S_nil _ _ _ _ _⟩, ⟨by (with_reducible repeat (first | refine blk_drewN ?_ _ | refine blk_drew ?_ | refine blk_alloc ?_ _)); refine blk_far ?_ NB345_358.out _; (with_reducible repeat (first | refine blk_drewN ?_ _ | refine blk_drew ?_ | refine blk_alloc ?_ _)); refine blk_far ?_ NB345_358.out _; (with_reducible repeat (first | refine blk_drewN ?_ _ | refine blk_drew ?_ | refine blk_alloc ?_ _)); refine blk_far ?_ NB345_358.out _; (with_reducible repeat (first | refine blk_drewN ?_ _ | refine blk_drew ?_ | refine blk_alloc ?_ _)); refine blk_far ?_ NB345_358.out _; (with_reducible repeat (first | refine blk_drewN ?_ _ | refine blk_drew ?_ | refine blk_alloc ?_ _)); exact BK345.out⟩, ⟨pt0 BK358⟩, ⟨u49HI0⟩, ⟨u49HK⟩, ⟨u49HB⟩⟩
 case round =>
  clear H'
  try clear c1
  try clear p2
  try clear c4
  try clear c5
  try clear c14
  try clear c15
  try clear z16_0
  try clear z16_1
  try clear z16_2
  try clear z16_3
  try clear y16_0
  try clear y16_1
  try clear y16_2
  try clear y16_3
  obtain ⟨x4_1, x1001_1, x1002_1, x359002_1, u359002, rfl, HA, HK1, HO_359002, BK345, BK358, HI0, HK, HB⟩ := hrel
  cases gk with
  | zero => exact absurd HA.out (by simp [spec_l3DrawReq.l0])
  | succ k1 =>
   have H := HA.out
   clear HA
   simp only [spec_l3DrawReq.l0] at H
   revert H
   refine ok3 fun t359 t360 t361 A17 H => ?_
   (try dsimp only at H)
   have HH18 := am H
   clear H
   go_upto_if 17 with ((with_reducible refine gw ?_); first | (refine gl 16 Tryd.func34 #[.pointer (some ⟨g, 0, none⟩), .int .i64 4] ?_; (with_reducible refine (spec_l1Below.calls g s0_0 x1001_1 x1002_1 4 t359 t360 t361 w0 _ ?side1 ?side2 A17.out).mono ?_); (case side1 => exact u49HI0); (case side2 => exact u49HB); rintro e w19 ⟨rfl, hi, hb, hk⟩; refine ⟨_, rfl, ?_⟩; replace HO_359002 := am (Kd.R_mono (Kd.R_keep (IsS57.apart (show IsS57 w0 _ g s0_0 x1001_1 x1002_1 from u49HI0) (ro HO_359002) (by decide)) hk (fun _ h => h.2)) (fun _ h => h.1)); replace BK345 := kp BK345 hk NB345_0; replace BK358 := kp BK358 hk NB358_0; replace HK := am (KeepBut.trans u49HK hk (.inl rfl)); replace HB := am (hb); replace HI0 := am (hi); clear hb hk hi))
   have H := HH18.out
   clear HH18
   by_cases c20 : x4_1 < t359
   rotate_left
   ·rw [if_neg c20] at H
    have c20b0 := decide_eq_false c20
    clear c20
    (first | rw [c20b0] | (simp only [i64_w, i32_w]; rw [c20b0]) | skip)
    by_cases c85 : t349 = 3
    rotate_left
    ·rw [if_neg c85] at H
     have c85b0 : (t349 == 3) = false := beq_eq_false_iff_ne.mpr c85
     have c85b1 : (t349 != 3) = true := bne_iff_ne.mpr c85
     simp only [Option.some.injEq, Prod.mk.injEq] at H
     obtain ⟨rfl, rfl, rfl, rfl, rfl, rfl⟩ := H
     have hnb95 := NB358_345.out
     have hnc95 := NB345_358.out
     have hnb96 := NB358_0.out
     have hnc96 := NB0_358.out
     obtain ⟨z97_0, y97_0, z97_1, y97_1, z97_2, y97_2, z97_3, y97_3⟩ := cl4 BK358
     have hnb98 := NB345_0.out
     have hnc98 := NB0_345.out
     obtain ⟨z99_0, y99_0, z99_1, y99_1, z99_2, y99_2, z99_3, y99_3⟩ := cl4 BK345
     obtain ⟨Ao100, co100, eo100⟩ := Kd.R_slice HO_359002.out
     subst eo100
     go_wp2
     refine bodyPost_ret (results_cell_row rfl _ _ gb345 26 #[.int .i64 t349, .string t355, .slice Ao100 x359002_1.length co100, .string (⟨#[]⟩ : ByteArray)] (0, 0) _ rfl (pt0 BK345) Tryd.underlying26 rfl (by kernel_rfl)) rfl ?_
     exact ⟨_, rf, rj (Kd.R_types HO_359002.out BK345.out (by decide)) (fun _ hk => trivial), u49HI0, u49HB, u49HK⟩
    rw [if_pos c85] at H
    have c85b0 : (t349 == 3) = true := beq_iff_eq.mpr c85
    have c85b1 : (t349 != 3) = false := bne_eq_false_iff_eq.mpr c85
    clear c85
    revert H
    refine ok3 fun t362 t363 t364 A86 H => ?_
    (try dsimp only at H)
    simp only [Option.some.injEq, Prod.mk.injEq] at H
    obtain ⟨rfl, rfl, rfl, rfl, rfl, rfl⟩ := H
    have hnb87 := NB358_345.out
    have hnc87 := NB345_358.out
    have hnb88 := NB358_0.out
    have hnc88 := NB0_358.out
    obtain ⟨z89_0, y89_0, z89_1, y89_1, z89_2, y89_2, z89_3, y89_3⟩ := cl4 BK358
    go_wp2_with ((with_reducible refine gw ?_); first | (refine gl 59 Tryd.func55 #[.pointer (some ⟨g, 0, none⟩)] ?_; (with_reducible refine (spec_l3DrawBody.calls k1 g s0_0 t360 t361 t362 t363 t364 w0 _ ?side1 ?side2 A86.out).mono ?_); (case side1 => exact u49HI0); (case side2 => exact u49HB); rintro e w90 ⟨rfl, hi, hb, hk⟩; refine ⟨_, rfl, ?_⟩; replace HO_359002 := am (Kd.R_mono (Kd.R_keep (IsS57.apart (show IsS57 w0 _ g s0_0 t360 t361 from u49HI0) (ro HO_359002) (by decide)) hk (fun _ h => h.2)) (fun _ h => h.1)); replace BK345 := kp BK345 hk NB345_0; replace BK358 := kp BK358 hk NB358_0; replace HK := am (KeepBut.trans u49HK hk (.inl rfl)); replace HB := am (hb); replace HI0 := am (hi); clear hb hk hi; obtain ⟨z91_0, y91_0, z91_1, y91_1, z91_2, y91_2, z91_3, y91_3⟩ := cl4 BK358; have hnb92 := NB345_0.out; have hnc92 := NB0_345.out; obtain ⟨z93_0, y93_0, z93_1, y93_1, z93_2, y93_2, z93_3, y93_3⟩ := cl4 BK345; obtain ⟨Ao94, co94, eo94⟩ := Kd.R_slice HO_359002.out; subst eo94))
    refine bodyPost_ret (results_cell_row rfl _ _ gb345 26 #[.int .i64 t349, .string t355, .slice Ao94 x359002_1.length co94, .string t362] (0, 0) _ rfl (pt1 BK345 NB345_358) Tryd.underlying26 rfl (by kernel_rfl)) rfl ?_
    exact ⟨_, rf, rj (Kd.R_types (Kd.R_types HO_359002.out BK358.out (by decide)) BK345.out (by decide)) (fun _ hk => trivial), u49HI0, u49HB, u49HK⟩
   rw [if_pos c20] at H
   have c20b0 := decide_eq_true c20
   clear c20
   (first | rw [c20b0] | (simp only [i64_w, i32_w]; rw [c20b0]) | skip)
   obtain ⟨y365, hy365⟩ : ∃ y_ : List ByteArray, y_ = (([(⟨#[108, 97, 110, 103]⟩ : ByteArray), (⟨#[107, 105, 110, 100]⟩ : ByteArray), (⟨#[99, 97, 99, 104, 101, 45, 99, 111, 110, 116, 114, 111, 108]⟩ : ByteArray), (⟨#[105, 102, 45, 110, 111, 110, 101, 45, 109, 97, 116, 99, 104]⟩ : ByteArray), (⟨#[120, 45, 97]⟩ : ByteArray)] : List ByteArray)) := ⟨_, rfl⟩
   replace H : ((spec_l1Pick.f s0_0 t360 t361 y365).bind fun bt368 => ((spec_l2At.f k1 x359002_1 bt368.1).bind fun t371 => (if t371 < 0 then ((spec_l1Pick.f s0_0 bt368.2.1 bt368.2.2 (([(⟨#[100, 101]⟩ : ByteArray), (⟨#[101, 110]⟩ : ByteArray)] : List ByteArray))).bind fun bt375 => (if bt368.1.toList = ([107, 105, 110, 100] : List UInt8) then ((spec_l1Pick.f s0_0 bt375.2.1 bt375.2.2 (([(⟨#[120]⟩ : ByteArray), (⟨#[121]⟩ : ByteArray)] : List ByteArray))).bind fun bt381 => (if x359002_1.length < 4398046511104 then (spec_l3DrawReq.l0 k1 (wrap64 (x4_1 + 1)) s0_0 bt381.2.1 bt381.2.2 t349 t355 (x359002_1 ++ [(⟨bt368.1, bt381.1⟩ : S46)]) (⟨#[]⟩ : ByteArray)) else (none))) else (if bt368.1.toList = ([99, 97, 99, 104, 101, 45, 99, 111, 110, 116, 114, 111, 108] : List UInt8) then ((spec_l1Pick.f s0_0 bt375.2.1 bt375.2.2 (([(⟨#[110, 111, 45, 99, 97, 99, 104, 101]⟩ : ByteArray), (⟨#[110, 111, 45, 115, 116, 111, 114, 101]⟩ : ByteArray), (⟨#[109, 97, 120, 45, 97, 103, 101, 61, 51]⟩ : ByteArray)] : List ByteArray))).bind fun bt390 => (if x359002_1.length < 4398046511104 then (spec_l3DrawReq.l0 k1 (wrap64 (x4_1 + 1)) s0_0 bt390.2.1 bt390.2.2 t349 t355 (x359002_1 ++ [(⟨bt368.1, bt390.1⟩ : S46)]) (⟨#[]⟩ : ByteArray)) else (none))) else (if bt368.1.toList = ([105, 102, 45, 110, 111, 110, 101, 45, 109, 97, 116, 99, 104] : List UInt8) then ((spec_l1Pick.f s0_0 bt375.2.1 bt375.2.2 (([(⟨#[97]⟩ : ByteArray), (⟨#[98]⟩ : ByteArray)] : List ByteArray))).bind fun bt399 => (if x359002_1.length < 4398046511104 then (spec_l3DrawReq.l0 k1 (wrap64 (x4_1 + 1)) s0_0 bt399.2.1 bt399.2.2 t349 t355 (x359002_1 ++ [(⟨bt368.1, bt399.1⟩ : S46)]) (⟨#[]⟩ : ByteArray)) else (none))) else (if x359002_1.length < 4398046511104 then (spec_l3DrawReq.l0 k1 (wrap64 (x4_1 + 1)) s0_0 bt375.2.1 bt375.2.2 t349 t355 (x359002_1 ++ [(⟨bt368.1, bt375.1⟩ : S46)]) (⟨#[]⟩ : ByteArray)) else (none)))))) else (spec_l3DrawReq.l0 k1 (wrap64 (x4_1 + 1)) s0_0 bt368.2.1 bt368.2.2 t349 t355 x359002_1 (⟨#[]⟩ : ByteArray))))) = some (r1, r2, r3, r4, r5, r6) := by first | (rw [hy365]; with_reducible exact H) | (have H2_ := (Option.bind_some _ _).symm.trans H; rw [hy365]; with_reducible exact H2_) | (have H2_ := (Option.bind_some _ _).symm.trans H; with_reducible exact H2_) | with_reducible exact H | (rw [hy365]; exact H) | exact H
   have Ny365 := am hy365
   clear hy365
   revert H
   refine ok3 fun t368 t369 t370 A21 H => ?_
   (try dsimp only at H)
   revert H
   refine ok1 fun t371 A22 H => ?_
   have HH23 := am H
   clear H
   go_upto_if 27 with (first | ((with_reducible refine gate_dst (N := 21) rfl ?_); refine Kd.R_lit Kd.string _ 9 ?hg (N := 21) ?hd (xs := ([(⟨#[108, 97, 110, 103]⟩ : ByteArray), (⟨#[107, 105, 110, 100]⟩ : ByteArray), (⟨#[99, 97, 99, 104, 101, 45, 99, 111, 110, 116, 114, 111, 108]⟩ : ByteArray), (⟨#[105, 102, 45, 110, 111, 110, 101, 45, 109, 97, 116, 99, 104]⟩ : ByteArray), (⟨#[120, 45, 97]⟩ : ByteArray)] : List ByteArray)) (inner := [.string (⟨#[108, 97, 110, 103]⟩ : ByteArray), .string (⟨#[107, 105, 110, 100]⟩ : ByteArray), .string (⟨#[99, 97, 99, 104, 101, 45, 99, 111, 110, 116, 114, 111, 108]⟩ : ByteArray), .string (⟨#[105, 102, 45, 110, 111, 110, 101, 45, 109, 97, 116, 99, 104]⟩ : ByteArray), .string (⟨#[120, 45, 97]⟩ : ByteArray)]) (ok := fun _ => True) (okp := fun _ => True) ?hr ?hp (fun _ hk => hk) trivial (Below.refl _ _) (Nat.le_refl _) (by simp) ?_; (case hd => rfl); (case hg => rfl); (case hr => first | (go_simp; done) | (go_simp; rfl)); (case hp => exact rp); intro v366 w24 ho25 hb hg_ hnew_; clear hg_ hnew_; (first | rw [← Ny365.out] at ho25 | (simp only [Int.reduceToNat] at ho25; rw [← Ny365.out] at ho25)); replace HO_359002 := kr HO_359002 hb; have HO367 := am (Kd.R_lower ho25 (keep_size (w := w) (g := g) (row := none) u49HK)); replace BK345 := kb BK345 hb; replace BK358 := kb BK358 hb; replace HK := am (KeepBut.trans u49HK (KeepBut.of_below hb g none) (.inl rfl)); replace HB := am (below_step u49HB hb); replace HI0 := am (IsS57.below u49HI0 hb); clear hb ho25; obtain ⟨Ao26, co26, eo26⟩ := Kd.R_slice HO367.out; subst eo26) | ((with_reducible refine gw ?_); first | (refine gl 22 Tryd.func50 #[.pointer (some ⟨g, 0, none⟩), .slice Ao26 y365.length co26] ?_; (with_reducible refine (spec_l1Pick.calls g s0_0 t360 t361 _ _ y365 t368 t369 t370 w0 _ ?side1 ?side2 ?side3 ?side4 ?side5 A21.out).mono ?_); (case side1 => exact u49HI0); (case side2 => exact u49HB); (case side3 => exact rc HO367); (case side4 => exact (Kd.R_reads' HO367.out).2.1); (case side5 => exact far_slice (IsS57.own_ne HI0.out HO367.out (by decide))); rintro e w27 ⟨rfl, hi, hb, hk⟩; refine ⟨_, rfl, ?_⟩; replace HO_359002 := am (Kd.R_mono (Kd.R_keep (IsS57.apart (show IsS57 w0 _ g s0_0 t360 t361 from u49HI0) (ro HO_359002) (by decide)) hk (fun _ h => h.2)) (fun _ h => h.1)); replace BK345 := kp BK345 hk NB345_0; replace BK358 := kp BK358 hk NB358_0; replace HO367 := am (Kd.R_mono (Kd.R_keep (IsS57.apart (show IsS57 w0 _ g s0_0 t360 t361 from u49HI0) (ro HO367) (by decide)) hk (fun _ h => h.2)) (fun _ h => h.1)); replace HK := am (KeepBut.trans u49HK hk (.inl rfl)); replace HB := am (hb); replace HI0 := am (hi); clear hb hk hi; have hnb28 := NB358_345.out; have hnc28 := NB345_358.out; have hnb29 := NB358_0.out; have hnc29 := NB0_358.out; obtain ⟨z30_0, y30_0, z30_1, y30_1, z30_2, y30_2, z30_3, y30_3⟩ := cl4 BK358; obtain ⟨Ao31, co31, eo31⟩ := Kd.R_slice HO_359002.out; subst eo31) | (refine gl 26 Tryd.func36 #[.slice Ao31 x359002_1.length co31, .string t368] ?_; (with_reducible refine (spec_l2At.calls k1 _ _ x359002_1 t368 t371 _ ?side1 ?side2 A22.out).mono ?_); (case side1 => exact rc HO_359002); (case side2 => exact (Kd.R_reads' HO_359002.out).2.1); rintro e w' ⟨rfl, ⟨nd, rfl⟩⟩; refine ⟨_, rfl, ?_⟩)))
   have H := HH23.out
   clear HH23
   by_cases c32 : t371 < 0
   rotate_left
   ·rw [if_neg c32] at H
    have c32b0 := decide_eq_false c32
    clear c32
    (first | rw [c32b0] | (simp only [i64_w, i32_w]; rw [c32b0]) | skip)
    have H' := am H
    clear H
    go_wp2
    go_roundg k1
    case measure => have := HK1.out; omega
    case rel => exact ⟨(wrap64 (x4_1 + 1)), (t369), (t370), (x359002_1), (.slice Ao31 x359002_1.length co31), rs, H', ⟨by have := HK1.out; omega⟩, ⟨by (with_reducible repeat (first | apply Kd.R_alloc | apply Kd.R_drewN | apply Kd.R_drew)); exact HO_359002.out⟩, ⟨by (with_reducible repeat (first | refine blk_drewN ?_ _ | refine blk_drew ?_ | refine blk_alloc ?_ _)); exact BK345.out⟩, ⟨by (with_reducible repeat (first | refine blk_drewN ?_ _ | refine blk_drew ?_ | refine blk_alloc ?_ _)); exact BK358.out⟩, ⟨u49HI0⟩, ⟨u49HK⟩, ⟨u49HB⟩⟩
   rw [if_pos c32] at H
   have c32b0 := decide_eq_true c32
   clear c32
   (first | rw [c32b0] | (simp only [i64_w, i32_w]; rw [c32b0]) | skip)
   obtain ⟨y372, hy372⟩ : ∃ y_ : List ByteArray, y_ = (([(⟨#[100, 101]⟩ : ByteArray), (⟨#[101, 110]⟩ : ByteArray)] : List ByteArray)) := ⟨_, rfl⟩
   replace H : ((spec_l1Pick.f s0_0 t369 t370 y372).bind fun bt375 => (if t368.toList = ([107, 105, 110, 100] : List UInt8) then ((spec_l1Pick.f s0_0 bt375.2.1 bt375.2.2 (([(⟨#[120]⟩ : ByteArray), (⟨#[121]⟩ : ByteArray)] : List ByteArray))).bind fun bt381 => (if x359002_1.length < 4398046511104 then (spec_l3DrawReq.l0 k1 (wrap64 (x4_1 + 1)) s0_0 bt381.2.1 bt381.2.2 t349 t355 (x359002_1 ++ [(⟨t368, bt381.1⟩ : S46)]) (⟨#[]⟩ : ByteArray)) else (none))) else (if t368.toList = ([99, 97, 99, 104, 101, 45, 99, 111, 110, 116, 114, 111, 108] : List UInt8) then ((spec_l1Pick.f s0_0 bt375.2.1 bt375.2.2 (([(⟨#[110, 111, 45, 99, 97, 99, 104, 101]⟩ : ByteArray), (⟨#[110, 111, 45, 115, 116, 111, 114, 101]⟩ : ByteArray), (⟨#[109, 97, 120, 45, 97, 103, 101, 61, 51]⟩ : ByteArray)] : List ByteArray))).bind fun bt390 => (if x359002_1.length < 4398046511104 then (spec_l3DrawReq.l0 k1 (wrap64 (x4_1 + 1)) s0_0 bt390.2.1 bt390.2.2 t349 t355 (x359002_1 ++ [(⟨t368, bt390.1⟩ : S46)]) (⟨#[]⟩ : ByteArray)) else (none))) else (if t368.toList = ([105, 102, 45, 110, 111, 110, 101, 45, 109, 97, 116, 99, 104] : List UInt8) then ((spec_l1Pick.f s0_0 bt375.2.1 bt375.2.2 (([(⟨#[97]⟩ : ByteArray), (⟨#[98]⟩ : ByteArray)] : List ByteArray))).bind fun bt399 => (if x359002_1.length < 4398046511104 then (spec_l3DrawReq.l0 k1 (wrap64 (x4_1 + 1)) s0_0 bt399.2.1 bt399.2.2 t349 t355 (x359002_1 ++ [(⟨t368, bt399.1⟩ : S46)]) (⟨#[]⟩ : ByteArray)) else (none))) else (if x359002_1.length < 4398046511104 then (spec_l3DrawReq.l0 k1 (wrap64 (x4_1 + 1)) s0_0 bt375.2.1 bt375.2.2 t349 t355 (x359002_1 ++ [(⟨t368, bt375.1⟩ : S46)]) (⟨#[]⟩ : ByteArray)) else (none)))))) = some (r1, r2, r3, r4, r5, r6) := by first | (rw [hy372]; with_reducible exact H) | (have H2_ := (Option.bind_some _ _).symm.trans H; rw [hy372]; with_reducible exact H2_) | (have H2_ := (Option.bind_some _ _).symm.trans H; with_reducible exact H2_) | with_reducible exact H | (rw [hy372]; exact H) | exact H
   have Ny372 := am hy372
   clear hy372
   revert H
   refine ok3 fun t375 t376 t377 A33 H => ?_
   (try dsimp only at H)
   have HH34 := am H
   clear H
   go_upto_if 32 with (first | ((with_reducible refine gate_dst (N := 29) rfl ?_); refine Kd.R_lit Kd.string _ 9 ?hg (N := 29) ?hd (xs := ([(⟨#[100, 101]⟩ : ByteArray), (⟨#[101, 110]⟩ : ByteArray)] : List ByteArray)) (inner := [.string (⟨#[100, 101]⟩ : ByteArray), .string (⟨#[101, 110]⟩ : ByteArray)]) (ok := fun _ => True) (okp := fun _ => True) ?hr ?hp (fun _ hk => hk) trivial (Below.refl _ _) (Nat.le_refl _) (by simp) ?_; (case hd => rfl); (case hg => rfl); (case hr => first | (go_simp; done) | (go_simp; rfl)); (case hp => exact rp); intro v373 w35 ho36 hb hg_ hnew_; clear hg_ hnew_; (first | rw [← Ny372.out] at ho36 | (simp only [Int.reduceToNat] at ho36; rw [← Ny372.out] at ho36)); replace HO_359002 := kr HO_359002 hb; have HO374 := am (Kd.R_lower (Kd.R_new' ho36 (Kd.R_lt (ro HO367))) (keep_size (w := w) (g := g) (row := none) u49HK)); replace HO367 := am (Kd.R_elder' (ro HO367) (Kd.R_base ho36) hb); replace BK345 := kb BK345 hb; replace BK358 := kb BK358 hb; replace HK := am (KeepBut.trans u49HK (KeepBut.of_below hb g none) (.inl rfl)); replace HB := am (below_step u49HB hb); replace HI0 := am (IsS57.below u49HI0 hb); clear hb ho36; obtain ⟨Ao37, co37, eo37⟩ := Kd.R_slice HO374.out; subst eo37) | ((with_reducible refine gw ?_); first | (refine gl 30 Tryd.func50 #[.pointer (some ⟨g, 0, none⟩), .slice Ao37 y372.length co37] ?_; (with_reducible refine (spec_l1Pick.calls g s0_0 t369 t370 _ _ y372 t375 t376 t377 w0 _ ?side1 ?side2 ?side3 ?side4 ?side5 A33.out).mono ?_); (case side1 => exact u49HI0); (case side2 => exact u49HB); (case side3 => exact rc HO374); (case side4 => exact (Kd.R_reads' HO374.out).2.1); (case side5 => exact far_slice (IsS57.own_ne HI0.out HO374.out (by decide))); rintro e w38 ⟨rfl, hi, hb, hk⟩; refine ⟨_, rfl, ?_⟩; replace HO_359002 := am (Kd.R_mono (Kd.R_keep (IsS57.apart (show IsS57 w0 _ g s0_0 t369 t370 from u49HI0) (ro HO_359002) (by decide)) hk (fun _ h => h.2)) (fun _ h => h.1)); replace BK345 := kp BK345 hk NB345_0; replace BK358 := kp BK358 hk NB358_0; replace HO367 := am (Kd.R_mono (Kd.R_keep (IsS57.apart (show IsS57 w0 _ g s0_0 t369 t370 from u49HI0) (ro HO367) (by decide)) hk (fun _ h => h.2)) (fun _ h => h.1)); replace HO374 := am (Kd.R_mono (Kd.R_keep (IsS57.apart (show IsS57 w0 _ g s0_0 t369 t370 from u49HI0) (ro HO374) (by decide)) hk (fun _ h => h.2)) (fun _ h => h.1)); replace HK := am (KeepBut.trans u49HK hk (.inl rfl)); replace HB := am (hb); replace HI0 := am (hi); clear hb hk hi)))
   have H := HH34.out
   clear HH34
   by_cases c39 : t368.toList = ([107, 105, 110, 100] : List UInt8)
   ·rw [if_pos c39] at H
    have c39b0 : (t368.toList == ([107, 105, 110, 100] : List UInt8)) = true := beq_iff_eq.mpr c39
    have c39b1 : (t368.toList != ([107, 105, 110, 100] : List UInt8)) = false := bne_eq_false_iff_eq.mpr c39
    clear c39
    (first | rw [c39b0] | (simp only [i64_w, i32_w]; rw [c39b0]) | skip)
    obtain ⟨y378, hy378⟩ : ∃ y_ : List ByteArray, y_ = (([(⟨#[120]⟩ : ByteArray), (⟨#[121]⟩ : ByteArray)] : List ByteArray)) := ⟨_, rfl⟩
    replace H : ((spec_l1Pick.f s0_0 t376 t377 y378).bind fun bt381 => (if x359002_1.length < 4398046511104 then (spec_l3DrawReq.l0 k1 (wrap64 (x4_1 + 1)) s0_0 bt381.2.1 bt381.2.2 t349 t355 (x359002_1 ++ [(⟨t368, bt381.1⟩ : S46)]) (⟨#[]⟩ : ByteArray)) else (none))) = some (r1, r2, r3, r4, r5, r6) := by first | (rw [hy378]; with_reducible exact H) | (have H2_ := (Option.bind_some _ _).symm.trans H; rw [hy378]; with_reducible exact H2_) | (have H2_ := (Option.bind_some _ _).symm.trans H; with_reducible exact H2_) | with_reducible exact H | (rw [hy378]; exact H) | exact H
    have Ny378 := am hy378
    clear hy378
    revert H
    refine ok3 fun t381 t382 t383 A40 H => ?_
    (try dsimp only at H)
    revert H
    refine ifn fun c41 H => ?_
    have LMc41 := am c41
    clear c41
    obtain ⟨y384, hy384⟩ : ∃ y_ : List (S46), y_ = (x359002_1 ++ [(⟨t368, t381⟩ : S46)]) := ⟨_, rfl⟩
    replace H : (spec_l3DrawReq.l0 k1 (wrap64 (x4_1 + 1)) s0_0 t382 t383 t349 t355 y384 (⟨#[]⟩ : ByteArray)) = some (r1, r2, r3, r4, r5, r6) := by first | (rw [hy384]; with_reducible exact H) | (have H2_ := (Option.bind_some _ _).symm.trans H; rw [hy384]; with_reducible exact H2_) | (have H2_ := (Option.bind_some _ _).symm.trans H; with_reducible exact H2_) | with_reducible exact H | (rw [hy384]; exact H) | exact H
    have Ny384 := am hy384
    clear hy384
    have H' := am H
    clear H
    go_wp2_with (first | ((with_reducible refine gate_dst (N := 35) rfl ?_); refine Kd.R_lit Kd.string _ 9 ?hg (N := 35) ?hd (xs := ([(⟨#[120]⟩ : ByteArray), (⟨#[121]⟩ : ByteArray)] : List ByteArray)) (inner := [.string (⟨#[120]⟩ : ByteArray), .string (⟨#[121]⟩ : ByteArray)]) (ok := fun _ => True) (okp := fun _ => True) ?hr ?hp (fun _ hk => hk) trivial (Below.refl _ _) (Nat.le_refl _) (by simp) ?_; (case hd => rfl); (case hg => rfl); (case hr => first | (go_simp; done) | (go_simp; rfl)); (case hp => exact rp); intro v379 w42 ho43 hb hg_ hnew_; clear hg_ hnew_; (first | rw [← Ny378.out] at ho43 | (simp only [Int.reduceToNat] at ho43; rw [← Ny378.out] at ho43)); replace HO_359002 := kr HO_359002 hb; have HO380 := am (Kd.R_lower (Kd.R_new' (Kd.R_new' ho43 (Kd.R_lt (ro HO367))) (Kd.R_lt (ro HO374))) (keep_size (w := w) (g := g) (row := none) u49HK)); replace HO367 := am (Kd.R_elder' (ro HO367) (Kd.R_base ho43) hb); replace HO374 := am (Kd.R_elder' (ro HO374) (Kd.R_base ho43) hb); replace BK345 := kb BK345 hb; replace BK358 := kb BK358 hb; replace HK := am (KeepBut.trans u49HK (KeepBut.of_below hb g none) (.inl rfl)); replace HB := am (below_step u49HB hb); replace HI0 := am (IsS57.below u49HI0 hb); clear hb ho43; obtain ⟨Ao44, co44, eo44⟩ := Kd.R_slice HO380.out; subst eo44) | ((with_reducible refine gw ?_); first | (refine gl 36 Tryd.func50 #[.pointer (some ⟨g, 0, none⟩), .slice Ao44 y378.length co44] ?_; (with_reducible refine (spec_l1Pick.calls g s0_0 t376 t377 _ _ y378 t381 t382 t383 w0 _ ?side1 ?side2 ?side3 ?side4 ?side5 A40.out).mono ?_); (case side1 => exact u49HI0); (case side2 => exact u49HB); (case side3 => exact rc HO380); (case side4 => exact (Kd.R_reads' HO380.out).2.1); (case side5 => exact far_slice (IsS57.own_ne HI0.out HO380.out (by decide))); rintro e w45 ⟨rfl, hi, hb, hk⟩; refine ⟨_, rfl, ?_⟩; replace HO_359002 := am (Kd.R_mono (Kd.R_keep (IsS57.apart (show IsS57 w0 _ g s0_0 t376 t377 from u49HI0) (ro HO_359002) (by decide)) hk (fun _ h => h.2)) (fun _ h => h.1)); replace BK345 := kp BK345 hk NB345_0; replace BK358 := kp BK358 hk NB358_0; replace HO367 := am (Kd.R_mono (Kd.R_keep (IsS57.apart (show IsS57 w0 _ g s0_0 t376 t377 from u49HI0) (ro HO367) (by decide)) hk (fun _ h => h.2)) (fun _ h => h.1)); replace HO374 := am (Kd.R_mono (Kd.R_keep (IsS57.apart (show IsS57 w0 _ g s0_0 t376 t377 from u49HI0) (ro HO374) (by decide)) hk (fun _ h => h.2)) (fun _ h => h.1)); replace HO380 := am (Kd.R_mono (Kd.R_keep (IsS57.apart (show IsS57 w0 _ g s0_0 t376 t377 from u49HI0) (ro HO380) (by decide)) hk (fun _ h => h.2)) (fun _ h => h.1)); replace HK := am (KeepBut.trans u49HK hk (.inl rfl)); replace HB := am (hb); replace HI0 := am (hi); clear hb hk hi; have hnb46 := NB358_345.out; have hnc46 := NB345_358.out; have hnb47 := NB358_0.out; have hnc47 := NB0_358.out; obtain ⟨z48_0, y48_0, z48_1, y48_1, z48_2, y48_2, z48_3, y48_3⟩ := cl4 BK358)) | ((with_reducible refine gate_builtin (b := .append) (xs := #[.tmp 48, .tmp 52]) rfl ?_); at_builtin; refine Kd.R_append k46 w.heap.size rfl (.tmp 48) (.tmp 52) 24 46 (.agg #[(.string ⟨#[]⟩), (.string ⟨#[]⟩)]) 32 rfl Tryd.underlying24 info46 rfl (by decide) (by omega) (.slice Ao31 x359002_1.length co31) x359002_1 (⟨t368, t381⟩ : S46) [.string t368, .string t381] (fun _ => True) (fun _ => False) rfl rfl ?aP (fun _ hk => hk.elim) ?aF ?aO (Below.refl _ _) ?aS ?aL ?_; (case aP => exact k46_mkM _ _ _ (⟨t368, t381⟩ : S46)); (case aF => exact (fun _ _ => trivial)); (case aO => exact (ro HO_359002)); (case aS => exact (keep_size (w := w) (g := g) (row := none) u49HK)); (case aL => have := LMc41.out; omega); intro v385 w49 ho hb hg hat; rw [← Ny384.out] at ho; have n0_ := am (blk_grown (g := gb345) (o := .cells #[.int .i64 0, .string (⟨#[]⟩ : ByteArray), .slice none 0 0, .string (⟨#[]⟩ : ByteArray)] 26 (0, 0)) (bk BK345) hg (Kd.R_ne HO_359002.out BK345.out (by decide))); have n1_ := am (blk_grown (g := gb358) (o := .cells #[.int .i64 t349, .string t355, .slice Ao31 x359002_1.length co31, .string (⟨#[]⟩ : ByteArray)] 26 (0, 0)) (bk BK358) hg (Kd.R_ne HO_359002.out BK358.out (by decide))); have n2_ := am (IsS57.grown u49HI0 hg (IsS57.own_ne HI0.out HO_359002.out (by decide))); have n3_ := am (Kd.R_over' (ro HO367) (Kd.R_typed (ro HO_359002)) (by decide) hg); have n4_ := am (Kd.R_over' (ro HO374) (Kd.R_typed (ro HO_359002)) (by decide) hg); have n5_ := am (Kd.R_over' (ro HO380) (Kd.R_typed (ro HO_359002)) (by decide) hg); have n6_ := am (below_weaken u49HB HL.out hb); have n7_ := am (KeepBut.trans u49HK (KeepBut.of_grown hg g) (Kd.R_base2 HO_359002.out)); have n8_ := am (ho); clear BK345; clear BK358; clear HI0; clear HO367; clear HO374; clear HO380; clear HB; clear HK; clear HO_359002; have BK345 := n0_; have BK358 := n1_; have HI0 := n2_; have HO367 := n3_; have HO374 := n4_; have HO380 := n5_; have HB := n6_; have HK := n7_; have HO386 := n8_; clear n0_ n1_ n2_ n3_ n4_ n5_ n6_ n7_ n8_; clear ho hb hg hat; obtain ⟨Ao50, co50, eo50⟩ := Kd.R_slice HO386.out; subst eo50; obtain ⟨z51_0, y51_0, z51_1, y51_1, z51_2, y51_2, z51_3, y51_3⟩ := cl4 BK358))
    go_roundg k1
    case measure => have := HK1.out; omega
    case rel => exact ⟨(wrap64 (x4_1 + 1)), (t382), (t383), (y384), (.slice Ao50 y384.length co50), rs, H', ⟨by have := HK1.out; omega⟩, ⟨rj (Kd.R_types HO386.out BK358.out (by decide)) (fun _ hk => trivial)⟩, ⟨by (with_reducible repeat (first | refine blk_drewN ?_ _ | refine blk_drew ?_ | refine blk_alloc ?_ _)); refine blk_far ?_ NB345_358.out _; (with_reducible repeat (first | refine blk_drewN ?_ _ | refine blk_drew ?_ | refine blk_alloc ?_ _)); exact BK345.out⟩, ⟨pt0 BK358⟩, ⟨u49HI0⟩, ⟨u49HK⟩, ⟨u49HB⟩⟩
   rw [if_neg c39] at H
   have c39b0 : (t368.toList == ([107, 105, 110, 100] : List UInt8)) = false := beq_eq_false_iff_ne.mpr c39
   have c39b1 : (t368.toList != ([107, 105, 110, 100] : List UInt8)) = true := bne_iff_ne.mpr c39
   (first | rw [c39b0] | (simp only [i64_w, i32_w]; rw [c39b0]) | skip)
   by_cases c52 : t368.toList = ([99, 97, 99, 104, 101, 45, 99, 111, 110, 116, 114, 111, 108] : List UInt8)
   ·rw [if_pos c52] at H
    have c52b0 : (t368.toList == ([99, 97, 99, 104, 101, 45, 99, 111, 110, 116, 114, 111, 108] : List UInt8)) = true := beq_iff_eq.mpr c52
    have c52b1 : (t368.toList != ([99, 97, 99, 104, 101, 45, 99, 111, 110, 116, 114, 111, 108] : List UInt8)) = false := bne_eq_false_iff_eq.mpr c52
    clear c52
    obtain ⟨y387, hy387⟩ : ∃ y_ : List ByteArray, y_ = (([(⟨#[110, 111, 45, 99, 97, 99, 104, 101]⟩ : ByteArray), (⟨#[110, 111, 45, 115, 116, 111, 114, 101]⟩ : ByteArray), (⟨#[109, 97, 120, 45, 97, 103, 101, 61, 51]⟩ : ByteArray)] : List ByteArray)) := ⟨_, rfl⟩
    replace H : ((spec_l1Pick.f s0_0 t376 t377 y387).bind fun bt390 => (if x359002_1.length < 4398046511104 then (spec_l3DrawReq.l0 k1 (wrap64 (x4_1 + 1)) s0_0 bt390.2.1 bt390.2.2 t349 t355 (x359002_1 ++ [(⟨t368, bt390.1⟩ : S46)]) (⟨#[]⟩ : ByteArray)) else (none))) = some (r1, r2, r3, r4, r5, r6) := by first | (rw [hy387]; with_reducible exact H) | (have H2_ := (Option.bind_some _ _).symm.trans H; rw [hy387]; with_reducible exact H2_) | (have H2_ := (Option.bind_some _ _).symm.trans H; with_reducible exact H2_) | with_reducible exact H | (rw [hy387]; exact H) | exact H
    have Ny387 := am hy387
    clear hy387
    revert H
    refine ok3 fun t390 t391 t392 A53 H => ?_
    (try dsimp only at H)
    revert H
    refine ifn fun c54 H => ?_
    have LMc54 := am c54
    clear c54
    obtain ⟨y393, hy393⟩ : ∃ y_ : List (S46), y_ = (x359002_1 ++ [(⟨t368, t390⟩ : S46)]) := ⟨_, rfl⟩
    replace H : (spec_l3DrawReq.l0 k1 (wrap64 (x4_1 + 1)) s0_0 t391 t392 t349 t355 y393 (⟨#[]⟩ : ByteArray)) = some (r1, r2, r3, r4, r5, r6) := by first | (rw [hy393]; with_reducible exact H) | (have H2_ := (Option.bind_some _ _).symm.trans H; rw [hy393]; with_reducible exact H2_) | (have H2_ := (Option.bind_some _ _).symm.trans H; with_reducible exact H2_) | with_reducible exact H | (rw [hy393]; exact H) | exact H
    have Ny393 := am hy393
    clear hy393
    have H' := am H
    clear H
    go_wp2_with (first | ((with_reducible refine gate_dst (N := 40) rfl ?_); refine Kd.R_lit Kd.string _ 9 ?hg (N := 40) ?hd (xs := ([(⟨#[110, 111, 45, 99, 97, 99, 104, 101]⟩ : ByteArray), (⟨#[110, 111, 45, 115, 116, 111, 114, 101]⟩ : ByteArray), (⟨#[109, 97, 120, 45, 97, 103, 101, 61, 51]⟩ : ByteArray)] : List ByteArray)) (inner := [.string (⟨#[110, 111, 45, 99, 97, 99, 104, 101]⟩ : ByteArray), .string (⟨#[110, 111, 45, 115, 116, 111, 114, 101]⟩ : ByteArray), .string (⟨#[109, 97, 120, 45, 97, 103, 101, 61, 51]⟩ : ByteArray)]) (ok := fun _ => True) (okp := fun _ => True) ?hr ?hp (fun _ hk => hk) trivial (Below.refl _ _) (Nat.le_refl _) (by simp) ?_; (case hd => rfl); (case hg => rfl); (case hr => first | (go_simp; done) | (go_simp; rfl)); (case hp => exact rp); intro v388 w55 ho56 hb hg_ hnew_; clear hg_ hnew_; (first | rw [← Ny387.out] at ho56 | (simp only [Int.reduceToNat] at ho56; rw [← Ny387.out] at ho56)); replace HO_359002 := kr HO_359002 hb; have HO389 := am (Kd.R_lower (Kd.R_new' (Kd.R_new' ho56 (Kd.R_lt (ro HO367))) (Kd.R_lt (ro HO374))) (keep_size (w := w) (g := g) (row := none) u49HK)); replace HO367 := am (Kd.R_elder' (ro HO367) (Kd.R_base ho56) hb); replace HO374 := am (Kd.R_elder' (ro HO374) (Kd.R_base ho56) hb); replace BK345 := kb BK345 hb; replace BK358 := kb BK358 hb; replace HK := am (KeepBut.trans u49HK (KeepBut.of_below hb g none) (.inl rfl)); replace HB := am (below_step u49HB hb); replace HI0 := am (IsS57.below u49HI0 hb); clear hb ho56; obtain ⟨Ao57, co57, eo57⟩ := Kd.R_slice HO389.out; subst eo57) | ((with_reducible refine gw ?_); first | (refine gl 41 Tryd.func50 #[.pointer (some ⟨g, 0, none⟩), .slice Ao57 y387.length co57] ?_; (with_reducible refine (spec_l1Pick.calls g s0_0 t376 t377 _ _ y387 t390 t391 t392 w0 _ ?side1 ?side2 ?side3 ?side4 ?side5 A53.out).mono ?_); (case side1 => exact u49HI0); (case side2 => exact u49HB); (case side3 => exact rc HO389); (case side4 => exact (Kd.R_reads' HO389.out).2.1); (case side5 => exact far_slice (IsS57.own_ne HI0.out HO389.out (by decide))); rintro e w58 ⟨rfl, hi, hb, hk⟩; refine ⟨_, rfl, ?_⟩; replace HO_359002 := am (Kd.R_mono (Kd.R_keep (IsS57.apart (show IsS57 w0 _ g s0_0 t376 t377 from u49HI0) (ro HO_359002) (by decide)) hk (fun _ h => h.2)) (fun _ h => h.1)); replace BK345 := kp BK345 hk NB345_0; replace BK358 := kp BK358 hk NB358_0; replace HO367 := am (Kd.R_mono (Kd.R_keep (IsS57.apart (show IsS57 w0 _ g s0_0 t376 t377 from u49HI0) (ro HO367) (by decide)) hk (fun _ h => h.2)) (fun _ h => h.1)); replace HO374 := am (Kd.R_mono (Kd.R_keep (IsS57.apart (show IsS57 w0 _ g s0_0 t376 t377 from u49HI0) (ro HO374) (by decide)) hk (fun _ h => h.2)) (fun _ h => h.1)); replace HO389 := am (Kd.R_mono (Kd.R_keep (IsS57.apart (show IsS57 w0 _ g s0_0 t376 t377 from u49HI0) (ro HO389) (by decide)) hk (fun _ h => h.2)) (fun _ h => h.1)); replace HK := am (KeepBut.trans u49HK hk (.inl rfl)); replace HB := am (hb); replace HI0 := am (hi); clear hb hk hi; have hnb59 := NB358_345.out; have hnc59 := NB345_358.out; have hnb60 := NB358_0.out; have hnc60 := NB0_358.out; obtain ⟨z61_0, y61_0, z61_1, y61_1, z61_2, y61_2, z61_3, y61_3⟩ := cl4 BK358)) | ((with_reducible refine gate_builtin (b := .append) (xs := #[.tmp 48, .tmp 52]) rfl ?_); at_builtin; refine Kd.R_append k46 w.heap.size rfl (.tmp 48) (.tmp 52) 24 46 (.agg #[(.string ⟨#[]⟩), (.string ⟨#[]⟩)]) 32 rfl Tryd.underlying24 info46 rfl (by decide) (by omega) (.slice Ao31 x359002_1.length co31) x359002_1 (⟨t368, t390⟩ : S46) [.string t368, .string t390] (fun _ => True) (fun _ => False) rfl rfl ?aP (fun _ hk => hk.elim) ?aF ?aO (Below.refl _ _) ?aS ?aL ?_; (case aP => exact k46_mkM _ _ _ (⟨t368, t390⟩ : S46)); (case aF => exact (fun _ _ => trivial)); (case aO => exact (ro HO_359002)); (case aS => exact (keep_size (w := w) (g := g) (row := none) u49HK)); (case aL => have := LMc54.out; omega); intro v394 w62 ho hb hg hat; rw [← Ny393.out] at ho; have n0_ := am (blk_grown (g := gb345) (o := .cells #[.int .i64 0, .string (⟨#[]⟩ : ByteArray), .slice none 0 0, .string (⟨#[]⟩ : ByteArray)] 26 (0, 0)) (bk BK345) hg (Kd.R_ne HO_359002.out BK345.out (by decide))); have n1_ := am (blk_grown (g := gb358) (o := .cells #[.int .i64 t349, .string t355, .slice Ao31 x359002_1.length co31, .string (⟨#[]⟩ : ByteArray)] 26 (0, 0)) (bk BK358) hg (Kd.R_ne HO_359002.out BK358.out (by decide))); have n2_ := am (IsS57.grown u49HI0 hg (IsS57.own_ne HI0.out HO_359002.out (by decide))); have n3_ := am (Kd.R_over' (ro HO367) (Kd.R_typed (ro HO_359002)) (by decide) hg); have n4_ := am (Kd.R_over' (ro HO374) (Kd.R_typed (ro HO_359002)) (by decide) hg); have n5_ := am (Kd.R_over' (ro HO389) (Kd.R_typed (ro HO_359002)) (by decide) hg); have n6_ := am (below_weaken u49HB HL.out hb); have n7_ := am (KeepBut.trans u49HK (KeepBut.of_grown hg g) (Kd.R_base2 HO_359002.out)); have n8_ := am (ho); clear BK345; clear BK358; clear HI0; clear HO367; clear HO374; clear HO389; clear HB; clear HK; clear HO_359002; have BK345 := n0_; have BK358 := n1_; have HI0 := n2_; have HO367 := n3_; have HO374 := n4_; have HO389 := n5_; have HB := n6_; have HK := n7_; have HO395 := n8_; clear n0_ n1_ n2_ n3_ n4_ n5_ n6_ n7_ n8_; clear ho hb hg hat; obtain ⟨Ao63, co63, eo63⟩ := Kd.R_slice HO395.out; subst eo63; obtain ⟨z64_0, y64_0, z64_1, y64_1, z64_2, y64_2, z64_3, y64_3⟩ := cl4 BK358))
    go_roundg k1
    case measure => have := HK1.out; omega
    case rel => exact ⟨(wrap64 (x4_1 + 1)), (t391), (t392), (y393), (.slice Ao63 y393.length co63), rs, H', ⟨by have := HK1.out; omega⟩, ⟨rj (Kd.R_types HO395.out BK358.out (by decide)) (fun _ hk => trivial)⟩, ⟨by (with_reducible repeat (first | refine blk_drewN ?_ _ | refine blk_drew ?_ | refine blk_alloc ?_ _)); refine blk_far ?_ NB345_358.out _; (with_reducible repeat (first | refine blk_drewN ?_ _ | refine blk_drew ?_ | refine blk_alloc ?_ _)); exact BK345.out⟩, ⟨pt0 BK358⟩, ⟨u49HI0⟩, ⟨u49HK⟩, ⟨u49HB⟩⟩
   rw [if_neg c52] at H
   have c52b0 : (t368.toList == ([99, 97, 99, 104, 101, 45, 99, 111, 110, 116, 114, 111, 108] : List UInt8)) = false := beq_eq_false_iff_ne.mpr c52
   have c52b1 : (t368.toList != ([99, 97, 99, 104, 101, 45, 99, 111, 110, 116, 114, 111, 108] : List UInt8)) = true := bne_iff_ne.mpr c52
   by_cases c65 : t368.toList = ([105, 102, 45, 110, 111, 110, 101, 45, 109, 97, 116, 99, 104] : List UInt8)
   rotate_left
   ·rw [if_neg c65] at H
    have c65b0 : (t368.toList == ([105, 102, 45, 110, 111, 110, 101, 45, 109, 97, 116, 99, 104] : List UInt8)) = false := beq_eq_false_iff_ne.mpr c65
    have c65b1 : (t368.toList != ([105, 102, 45, 110, 111, 110, 101, 45, 109, 97, 116, 99, 104] : List UInt8)) = true := bne_iff_ne.mpr c65
    revert H
    refine ifn fun c78 H => ?_
    have LMc78 := am c78
    clear c78
    obtain ⟨y405, hy405⟩ : ∃ y_ : List (S46), y_ = (x359002_1 ++ [(⟨t368, t375⟩ : S46)]) := ⟨_, rfl⟩
    replace H : (spec_l3DrawReq.l0 k1 (wrap64 (x4_1 + 1)) s0_0 t376 t377 t349 t355 y405 (⟨#[]⟩ : ByteArray)) = some (r1, r2, r3, r4, r5, r6) := by first | (rw [hy405]; with_reducible exact H) | (have H2_ := (Option.bind_some _ _).symm.trans H; rw [hy405]; with_reducible exact H2_) | (have H2_ := (Option.bind_some _ _).symm.trans H; with_reducible exact H2_) | with_reducible exact H | (rw [hy405]; exact H) | exact H
    have Ny405 := am hy405
    clear hy405
    have H' := am H
    clear H
    have hnb79 := NB358_345.out
    have hnc79 := NB345_358.out
    have hnb80 := NB358_0.out
    have hnc80 := NB0_358.out
    obtain ⟨z81_0, y81_0, z81_1, y81_1, z81_2, y81_2, z81_3, y81_3⟩ := cl4 BK358
    go_wp2_with (first | ((with_reducible refine gate_builtin (b := .append) (xs := #[.tmp 48, .tmp 52]) rfl ?_); at_builtin; refine Kd.R_append k46 w.heap.size rfl (.tmp 48) (.tmp 52) 24 46 (.agg #[(.string ⟨#[]⟩), (.string ⟨#[]⟩)]) 32 rfl Tryd.underlying24 info46 rfl (by decide) (by omega) (.slice Ao31 x359002_1.length co31) x359002_1 (⟨t368, t375⟩ : S46) [.string t368, .string t375] (fun _ => True) (fun _ => False) rfl rfl ?aP (fun _ hk => hk.elim) ?aF ?aO (Below.refl _ _) ?aS ?aL ?_; (case aP => exact k46_mkM _ _ _ (⟨t368, t375⟩ : S46)); (case aF => exact (fun _ _ => trivial)); (case aO => exact (ro HO_359002)); (case aS => exact (keep_size (w := w) (g := g) (row := none) u49HK)); (case aL => have := LMc78.out; omega); intro v406 w82 ho hb hg hat; rw [← Ny405.out] at ho; have n0_ := am (blk_grown (g := gb345) (o := .cells #[.int .i64 0, .string (⟨#[]⟩ : ByteArray), .slice none 0 0, .string (⟨#[]⟩ : ByteArray)] 26 (0, 0)) (bk BK345) hg (Kd.R_ne HO_359002.out BK345.out (by decide))); have n1_ := am (blk_grown (g := gb358) (o := .cells #[.int .i64 t349, .string t355, .slice Ao31 x359002_1.length co31, .string (⟨#[]⟩ : ByteArray)] 26 (0, 0)) (bk BK358) hg (Kd.R_ne HO_359002.out BK358.out (by decide))); have n2_ := am (IsS57.grown u49HI0 hg (IsS57.own_ne HI0.out HO_359002.out (by decide))); have n3_ := am (Kd.R_over' (ro HO367) (Kd.R_typed (ro HO_359002)) (by decide) hg); have n4_ := am (Kd.R_over' (ro HO374) (Kd.R_typed (ro HO_359002)) (by decide) hg); have n5_ := am (below_weaken u49HB HL.out hb); have n6_ := am (KeepBut.trans u49HK (KeepBut.of_grown hg g) (Kd.R_base2 HO_359002.out)); have n7_ := am (ho); clear BK345; clear BK358; clear HI0; clear HO367; clear HO374; clear HB; clear HK; clear HO_359002; have BK345 := n0_; have BK358 := n1_; have HI0 := n2_; have HO367 := n3_; have HO374 := n4_; have HB := n5_; have HK := n6_; have HO407 := n7_; clear n0_ n1_ n2_ n3_ n4_ n5_ n6_ n7_; clear ho hb hg hat; obtain ⟨Ao83, co83, eo83⟩ := Kd.R_slice HO407.out; subst eo83; obtain ⟨z84_0, y84_0, z84_1, y84_1, z84_2, y84_2, z84_3, y84_3⟩ := cl4 BK358))
    go_roundg k1
    case measure => have := HK1.out; omega
    case rel => exact ⟨(wrap64 (x4_1 + 1)), (t376), (t377), (y405), (.slice Ao83 y405.length co83), rs, H', ⟨by have := HK1.out; omega⟩, ⟨rj (Kd.R_types HO407.out BK358.out (by decide)) (fun _ hk => trivial)⟩, ⟨by (with_reducible repeat (first | refine blk_drewN ?_ _ | refine blk_drew ?_ | refine blk_alloc ?_ _)); refine blk_far ?_ NB345_358.out _; (with_reducible repeat (first | refine blk_drewN ?_ _ | refine blk_drew ?_ | refine blk_alloc ?_ _)); exact BK345.out⟩, ⟨pt0 BK358⟩, ⟨u49HI0⟩, ⟨u49HK⟩, ⟨u49HB⟩⟩
   rw [if_pos c65] at H
   have c65b0 : (t368.toList == ([105, 102, 45, 110, 111, 110, 101, 45, 109, 97, 116, 99, 104] : List UInt8)) = true := beq_iff_eq.mpr c65
   have c65b1 : (t368.toList != ([105, 102, 45, 110, 111, 110, 101, 45, 109, 97, 116, 99, 104] : List UInt8)) = false := bne_eq_false_iff_eq.mpr c65
   clear c65
   obtain ⟨y396, hy396⟩ : ∃ y_ : List ByteArray, y_ = (([(⟨#[97]⟩ : ByteArray), (⟨#[98]⟩ : ByteArray)] : List ByteArray)) := ⟨_, rfl⟩
   replace H : ((spec_l1Pick.f s0_0 t376 t377 y396).bind fun bt399 => (if x359002_1.length < 4398046511104 then (spec_l3DrawReq.l0 k1 (wrap64 (x4_1 + 1)) s0_0 bt399.2.1 bt399.2.2 t349 t355 (x359002_1 ++ [(⟨t368, bt399.1⟩ : S46)]) (⟨#[]⟩ : ByteArray)) else (none))) = some (r1, r2, r3, r4, r5, r6) := by first | (rw [hy396]; with_reducible exact H) | (have H2_ := (Option.bind_some _ _).symm.trans H; rw [hy396]; with_reducible exact H2_) | (have H2_ := (Option.bind_some _ _).symm.trans H; with_reducible exact H2_) | with_reducible exact H | (rw [hy396]; exact H) | exact H
   have Ny396 := am hy396
   clear hy396
   revert H
   refine ok3 fun t399 t400 t401 A66 H => ?_
   (try dsimp only at H)
   revert H
   refine ifn fun c67 H => ?_
   have LMc67 := am c67
   clear c67
   obtain ⟨y402, hy402⟩ : ∃ y_ : List (S46), y_ = (x359002_1 ++ [(⟨t368, t399⟩ : S46)]) := ⟨_, rfl⟩
   replace H : (spec_l3DrawReq.l0 k1 (wrap64 (x4_1 + 1)) s0_0 t400 t401 t349 t355 y402 (⟨#[]⟩ : ByteArray)) = some (r1, r2, r3, r4, r5, r6) := by first | (rw [hy402]; with_reducible exact H) | (have H2_ := (Option.bind_some _ _).symm.trans H; rw [hy402]; with_reducible exact H2_) | (have H2_ := (Option.bind_some _ _).symm.trans H; with_reducible exact H2_) | with_reducible exact H | (rw [hy402]; exact H) | exact H
   have Ny402 := am hy402
   clear hy402
   have H' := am H
   clear H
   go_wp2_with (first | ((with_reducible refine gate_dst (N := 45) rfl ?_); refine Kd.R_lit Kd.string _ 9 ?hg (N := 45) ?hd (xs := ([(⟨#[97]⟩ : ByteArray), (⟨#[98]⟩ : ByteArray)] : List ByteArray)) (inner := [.string (⟨#[97]⟩ : ByteArray), .string (⟨#[98]⟩ : ByteArray)]) (ok := fun _ => True) (okp := fun _ => True) ?hr ?hp (fun _ hk => hk) trivial (Below.refl _ _) (Nat.le_refl _) (by simp) ?_; (case hd => rfl); (case hg => rfl); (case hr => first | (go_simp; done) | (go_simp; rfl)); (case hp => exact rp); intro v397 w68 ho69 hb hg_ hnew_; clear hg_ hnew_; (first | rw [← Ny396.out] at ho69 | (simp only [Int.reduceToNat] at ho69; rw [← Ny396.out] at ho69)); replace HO_359002 := kr HO_359002 hb; have HO398 := am (Kd.R_lower (Kd.R_new' (Kd.R_new' ho69 (Kd.R_lt (ro HO367))) (Kd.R_lt (ro HO374))) (keep_size (w := w) (g := g) (row := none) u49HK)); replace HO367 := am (Kd.R_elder' (ro HO367) (Kd.R_base ho69) hb); replace HO374 := am (Kd.R_elder' (ro HO374) (Kd.R_base ho69) hb); replace BK345 := kb BK345 hb; replace BK358 := kb BK358 hb; replace HK := am (KeepBut.trans u49HK (KeepBut.of_below hb g none) (.inl rfl)); replace HB := am (below_step u49HB hb); replace HI0 := am (IsS57.below u49HI0 hb); clear hb ho69; obtain ⟨Ao70, co70, eo70⟩ := Kd.R_slice HO398.out; subst eo70) | ((with_reducible refine gw ?_); first | (refine gl 46 Tryd.func50 #[.pointer (some ⟨g, 0, none⟩), .slice Ao70 y396.length co70] ?_; (with_reducible refine (spec_l1Pick.calls g s0_0 t376 t377 _ _ y396 t399 t400 t401 w0 _ ?side1 ?side2 ?side3 ?side4 ?side5 A66.out).mono ?_); (case side1 => exact u49HI0); (case side2 => exact u49HB); (case side3 => exact rc HO398); (case side4 => exact (Kd.R_reads' HO398.out).2.1); (case side5 => exact far_slice (IsS57.own_ne HI0.out HO398.out (by decide))); rintro e w71 ⟨rfl, hi, hb, hk⟩; refine ⟨_, rfl, ?_⟩; replace HO_359002 := am (Kd.R_mono (Kd.R_keep (IsS57.apart (show IsS57 w0 _ g s0_0 t376 t377 from u49HI0) (ro HO_359002) (by decide)) hk (fun _ h => h.2)) (fun _ h => h.1)); replace BK345 := kp BK345 hk NB345_0; replace BK358 := kp BK358 hk NB358_0; replace HO367 := am (Kd.R_mono (Kd.R_keep (IsS57.apart (show IsS57 w0 _ g s0_0 t376 t377 from u49HI0) (ro HO367) (by decide)) hk (fun _ h => h.2)) (fun _ h => h.1)); replace HO374 := am (Kd.R_mono (Kd.R_keep (IsS57.apart (show IsS57 w0 _ g s0_0 t376 t377 from u49HI0) (ro HO374) (by decide)) hk (fun _ h => h.2)) (fun _ h => h.1)); replace HO398 := am (Kd.R_mono (Kd.R_keep (IsS57.apart (show IsS57 w0 _ g s0_0 t376 t377 from u49HI0) (ro HO398) (by decide)) hk (fun _ h => h.2)) (fun _ h => h.1)); replace HK := am (KeepBut.trans u49HK hk (.inl rfl)); replace HB := am (hb); replace HI0 := am (hi); clear hb hk hi; have hnb72 := NB358_345.out; have hnc72 := NB345_358.out; have hnb73 := NB358_0.out; have hnc73 := NB0_358.out; obtain ⟨z74_0, y74_0, z74_1, y74_1, z74_2, y74_2, z74_3, y74_3⟩ := cl4 BK358)) | ((with_reducible refine gate_builtin (b := .append) (xs := #[.tmp 48, .tmp 52]) rfl ?_); at_builtin; refine Kd.R_append k46 w.heap.size rfl (.tmp 48) (.tmp 52) 24 46 (.agg #[(.string ⟨#[]⟩), (.string ⟨#[]⟩)]) 32 rfl Tryd.underlying24 info46 rfl (by decide) (by omega) (.slice Ao31 x359002_1.length co31) x359002_1 (⟨t368, t399⟩ : S46) [.string t368, .string t399] (fun _ => True) (fun _ => False) rfl rfl ?aP (fun _ hk => hk.elim) ?aF ?aO (Below.refl _ _) ?aS ?aL ?_; (case aP => exact k46_mkM _ _ _ (⟨t368, t399⟩ : S46)); (case aF => exact (fun _ _ => trivial)); (case aO => exact (ro HO_359002)); (case aS => exact (keep_size (w := w) (g := g) (row := none) u49HK)); (case aL => have := LMc67.out; omega); intro v403 w75 ho hb hg hat; rw [← Ny402.out] at ho; have n0_ := am (blk_grown (g := gb345) (o := .cells #[.int .i64 0, .string (⟨#[]⟩ : ByteArray), .slice none 0 0, .string (⟨#[]⟩ : ByteArray)] 26 (0, 0)) (bk BK345) hg (Kd.R_ne HO_359002.out BK345.out (by decide))); have n1_ := am (blk_grown (g := gb358) (o := .cells #[.int .i64 t349, .string t355, .slice Ao31 x359002_1.length co31, .string (⟨#[]⟩ : ByteArray)] 26 (0, 0)) (bk BK358) hg (Kd.R_ne HO_359002.out BK358.out (by decide))); have n2_ := am (IsS57.grown u49HI0 hg (IsS57.own_ne HI0.out HO_359002.out (by decide))); have n3_ := am (Kd.R_over' (ro HO367) (Kd.R_typed (ro HO_359002)) (by decide) hg); have n4_ := am (Kd.R_over' (ro HO374) (Kd.R_typed (ro HO_359002)) (by decide) hg); have n5_ := am (Kd.R_over' (ro HO398) (Kd.R_typed (ro HO_359002)) (by decide) hg); have n6_ := am (below_weaken u49HB HL.out hb); have n7_ := am (KeepBut.trans u49HK (KeepBut.of_grown hg g) (Kd.R_base2 HO_359002.out)); have n8_ := am (ho); clear BK345; clear BK358; clear HI0; clear HO367; clear HO374; clear HO398; clear HB; clear HK; clear HO_359002; have BK345 := n0_; have BK358 := n1_; have HI0 := n2_; have HO367 := n3_; have HO374 := n4_; have HO398 := n5_; have HB := n6_; have HK := n7_; have HO404 := n8_; clear n0_ n1_ n2_ n3_ n4_ n5_ n6_ n7_ n8_; clear ho hb hg hat; obtain ⟨Ao76, co76, eo76⟩ := Kd.R_slice HO404.out; subst eo76; obtain ⟨z77_0, y77_0, z77_1, y77_1, z77_2, y77_2, z77_3, y77_3⟩ := cl4 BK358))
   go_roundg k1
   case measure => have := HK1.out; omega
   case rel => exact ⟨(wrap64 (x4_1 + 1)), (t400), (t401), (y402), (.slice Ao76 y402.length co76), rs, H', ⟨by have := HK1.out; omega⟩, ⟨rj (Kd.R_types HO404.out BK358.out (by decide)) (fun _ hk => trivial)⟩, ⟨by (with_reducible repeat (first | refine blk_drewN ?_ _ | refine blk_drew ?_ | refine blk_alloc ?_ _)); refine blk_far ?_ NB345_358.out _; (with_reducible repeat (first | refine blk_drewN ?_ _ | refine blk_drew ?_ | refine blk_alloc ?_ _)); exact BK345.out⟩, ⟨pt0 BK358⟩, ⟨u49HI0⟩, ⟨u49HK⟩, ⟨u49HB⟩⟩

end Go.Proofs.YtjlpjbkpmmpojaaDoor.All
