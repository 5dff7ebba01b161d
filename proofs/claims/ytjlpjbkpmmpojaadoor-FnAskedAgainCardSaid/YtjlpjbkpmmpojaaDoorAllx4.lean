-- Written by a program of this session (wip/tools/hprint.py) out of the translation. Lean checks it.
import Derived.Test.YtjlpjbkpmmpojaaDoorAllx0
import Derived.Test.YtjlpjbkpmmpojaaDoorAllx1
import Derived.Test.YtjlpjbkpmmpojaaDoorAllx2
import Derived.Test.YtjlpjbkpmmpojaaDoorAllx3
namespace Go.Proofs.YtjlpjbkpmmpojaaDoor.All
open Go.RowKit Go.Proofs.YtjlpjbkpmmpojaaDoorW.PrintWords Go.Proofs.YtjlpjbkpmmpojaaDoorW.PrintLast Go.Proofs.YtjlpjbkpmmpojaaDoorW.PrintMore
attribute [local go_sem] max2_int min2_int max_two min_two max_three min_three max_four min_four   -- for this text's walks alone
set_option linter.unusedVariables false
set_option linter.unusedSimpArgs false

/-! ### spec_l3DrawBadReq: function 33 -/
theorem u33HI0 {p : Prop} (h : p := by repeat (first | (with_reducible first | exact HI0.out | apply IsS57.alloc | apply IsS57.drewN | apply IsS57.drew | apply IsS57.set_1 | apply IsS57.set_2 | apply IsS57.far (p := ⟨gb408, _, none⟩) (hne := NB0_408.out) | apply IsS57.far (p := ⟨gb417, _, none⟩) (hne := NB0_417.out)) | exact HI0.out)) : p := h
theorem u33HK {p : Prop} (h : p := by repeat (first | (with_reducible first | exact HK.out | apply KeepBut.set_ | apply keep_drewN | apply keep_drew | apply keep_alloc | refine keep_far ?_ GW408.out _ | refine keep_far ?_ GW417.out _) | exact HK.out)) : p := h
theorem u33HB {p : Prop} (h : p := by repeat (first | (with_reducible first | exact HB.out | apply below_alloc | apply pw_below_drewN | apply below_drew1 | refine below_set ?_ (IsS57.ge HI0.out) | refine below_set ?_ GE408.out | refine below_set ?_ GE417.out) | exact HB.out)) : p := h
def spec_l3DrawBadReq.l0 : Nat → List Int → Int → Int → Int → ByteArray → List (S46) → ByteArray → Option (Int × ByteArray × (List (S46)) × ByteArray × Int × Int)
 | 0, _, _, _, _, _, _, _ => none
 | k + 1, x1000, x1001, x1002, x418000, x418001, x418002, x418003 => (spec_l1Below.f x1000 x1001 x1002 2).bind fun bt435 => (if (x418003.size : Int) < (wrap64 (120 + bt435.1)) then (if x418003.size + 1 ≤ 9223372036854775807 then (spec_l3DrawBadReq.l0 k x1000 bt435.2.1 bt435.2.2 x418000 x418001 x418002 (x418003 ++ (⟨#[98]⟩ : ByteArray))) else (none)) else (some (x418000, x418001, x418002, x418003, bt435.2.1, bt435.2.2)))
def spec_l3DrawBadReq.f (k : Nat) (s0_0 : List Int) (s0_1 : Int) (s0_2 : Int) : Option (Int × ByteArray × (List (S46)) × ByteArray × Int × Int) := (spec_l3DrawReq.f k s0_0 s0_1 s0_2).bind fun bt409 => ((spec_l1Below.f s0_0 bt409.2.2.2.2.1 bt409.2.2.2.2.2 20).bind fun bt418 => (if bt418.1 = 0 then ((spec_l1Below.f s0_0 bt418.2.1 bt418.2.2 7).bind fun bt421 => (some (wrap64 (bt421.1 - 1), bt409.2.1, bt409.2.2.1, bt409.2.2.2.1, bt421.2.1, bt421.2.2))) else (if bt418.1 = 1 then ((spec_l1Pick.f s0_0 bt418.2.1 bt418.2.2 (([(⟨#[]⟩ : ByteArray), (⟨#[97]⟩ : ByteArray), (⟨#[47, 32, 98]⟩ : ByteArray), (⟨#[47, 127]⟩ : ByteArray), (⟨#[47, 48, 49, 50, 51, 52, 53, 54, 55, 56, 57, 48, 49, 50, 51, 52, 53, 54, 55, 56, 57, 48, 49, 50, 51, 52, 53, 54, 55, 56, 57, 48, 49, 50, 51, 52, 53, 54, 55, 56, 57, 48, 49, 50, 51, 52, 53, 54, 55, 56, 57, 48, 49, 50, 51, 52, 53, 54, 55, 56, 57]⟩ : ByteArray)] : List ByteArray))).bind fun bt427 => (some (bt409.1, bt427.1, bt409.2.2.1, bt409.2.2.2.1, bt427.2.1, bt427.2.2))) else (if bt418.1 = 2 then ((spec_l2Draw.f k s0_0 bt418.2.1 bt418.2.2).bind fun bt430 => (some (bt409.1, bt409.2.1, bt430.1, bt409.2.2.2.1, bt430.2.1, bt430.2.2))) else (if bt418.1 = 3 then (spec_l3DrawBadReq.l0 k s0_0 bt418.2.1 bt418.2.2 bt409.1 bt409.2.1 bt409.2.2.1 bt409.2.2.2.1) else (some (bt409.1, bt409.2.1, bt409.2.2.1, bt409.2.2.2.1, bt418.2.1, bt418.2.2)))))))
theorem spec_l3DrawBadReq.mono_l : ∀ k, (∀ y0 y1 y2 y3 y4 y5 y6, LeO (spec_l3DrawBadReq.l0 k y0 y1 y2 y3 y4 y5 y6) (spec_l3DrawBadReq.l0 (k + 1) y0 y1 y2 y3 y4 y5 y6))
 | 0 => fun _ _ _ _ _ _ _ r h => by simp [spec_l3DrawBadReq.l0] at h
 | k + 1 => by
  have ih0 := spec_l3DrawBadReq.mono_l k
  ·intro y0 y1 y2 y3 y4 y5 y6
   unfold spec_l3DrawBadReq.l0
   have m0 := @spec_l2Draw.mono
   have m1 := @spec_l3DrawReq.mono
   exact mo
theorem spec_l3DrawBadReq.mono : ∀ a0 a1 a2 k, LeO (spec_l3DrawBadReq.f k a0 a1 a2) (spec_l3DrawBadReq.f (k + 1) a0 a1 a2) := by
 intro a0 a1 a2 k
 have ih0 := spec_l3DrawBadReq.mono_l k
 unfold spec_l3DrawBadReq.f
 have m0 := @spec_l2Draw.mono
 have m1 := @spec_l3DrawReq.mono
 exact mo
set_option maxHeartbeats 8000000 in
set_option maxRecDepth 100000 in
theorem spec_l3DrawBadReq.calls (k : Nat) (g : Nat) (s0_0 : List Int) (s0_1 : Int) (s0_2 : Int) (r1 : Int) (r2 : ByteArray) (r3 : List (S46)) (r4 : ByteArray) (r5 : Int) (r6 : Int) (w0 w : World) (hI : IsS57 w0 w g s0_0 s0_1 s0_2) (hB : Below w0.heap.size w0 w) (h : spec_l3DrawBadReq.f k s0_0 s0_1 s0_2 = some (r1, r2, r3, r4, r5, r6)) :
  Calls Tryd.prog 33 #[.pointer (some ⟨g, 0, none⟩)] w fun e w' => ∃ v2_ : Value, e = .returned (.agg #[.int .i64 r1, .string r2, v2_, .string r4]) ∧ Kd.R k46 46 w' w.heap.size (fun _ => True) v2_ r3 ∧ IsS57 w0 w' g s0_0 r5 r6 ∧ Below w0.heap.size w0 w' ∧ KeepBut w w' g none := by
 have hu26 := Tryd.underlying26
 have HI0 := am hI
 have HK := am (KeepBut.refl w g none)
 have HL := am hB.size
 clear hI
 have HW0 := am hB.size
 have HB := am hB
 clear hB
 unfold spec_l3DrawBadReq.f at h
 have H := h
 clear h
 revert H
 refine ok6 fun t409 t410 t411 t414 t415 t416 A2 H => ?_
 (try dsimp only at H)
 revert H
 refine ok3 fun t418 t419 t420 A3 H => ?_
 (try dsimp only at H)
 have HH4 := am H
 clear H
 go_enter Tryd.func33, Tryd.ntmps33
 go_upto_if 8 with ((with_reducible refine gw ?_); first | (refine bx 2 #[.int .i64 0, .string (⟨#[]⟩ : ByteArray), .slice none 0 0, .string (⟨#[]⟩ : ByteArray)] 26 ?_; intro gb408 hg w5 hbox hb; have n0_ := am (IsS57.below u33HI0 hb); have n1_ := am (KeepBut.trans u33HK (KeepBut.of_below hb g none) (.inl rfl)); have n2_ := am (below_step u33HB hb); have n3_ := am (hbox); have n4_ := am ((by rw [hg]; exact (keep_size (w := w) (g := g) (row := none) u33HK) : w.heap.size ≤ gb408)); have n5_ := am ((Nat.le_trans HW0.out (by rw [hg]; exact (keep_size (w := w) (g := g) (row := none) u33HK) : w.heap.size ≤ gb408) : w0.heap.size ≤ gb408)); have n6_ := am ((by rw [hg]; exact Nat.ne_of_lt (IsS57.lt (show IsS57 w0 _ g s0_0 s0_1 s0_2 from u33HI0)) : g ≠ gb408)); have n7_ := am ((by rw [hg]; exact Nat.ne_of_gt (IsS57.lt (show IsS57 w0 _ g s0_0 s0_1 s0_2 from u33HI0)) : gb408 ≠ g)); clear HI0; clear HK; clear HB; have HI0 := n0_; have HK := n1_; have HB := n2_; have BK408 := n3_; have GW408 := n4_; have GE408 := n5_; have NB0_408 := n6_; have NB408_0 := n7_; clear n0_ n1_ n2_ n3_ n4_ n5_ n6_ n7_; clear hb hbox hg) | (refine gl 5 Tryd.func49 #[.pointer (some ⟨g, 0, none⟩)] ?_; (with_reducible refine (spec_l3DrawReq.calls k g s0_0 s0_1 s0_2 t409 t410 t411 t414 t415 t416 w0 _ ?side1 ?side2 A2.out).mono ?_); (case side1 => exact u33HI0); (case side2 => exact u33HB); rintro e w6 ⟨v412, rfl, ho0, hi, hb, hk⟩; refine ⟨_, rfl, ?_⟩; replace BK408 := kp BK408 hk NB408_0; have HO413 := am (Kd.R_lower ho0 (keep_size (w := w) (g := g) (row := none) u33HK)); replace HK := am (KeepBut.trans u33HK hk (.inl rfl)); replace HB := am (hb); replace HI0 := am (hi); clear hb hk hi ho0) | (refine bx 3 #[.int .i64 0, .string (⟨#[]⟩ : ByteArray), .slice none 0 0, .string (⟨#[]⟩ : ByteArray)] 26 ?_; intro gb417 hg w7 hbox hb; have n0_ := am (Kd.R_below (ro HO413) hb); have n1_ := am (IsS57.below u33HI0 hb); have n2_ := kb BK408 hb; have n3_ := am (KeepBut.trans u33HK (KeepBut.of_below hb g none) (.inl rfl)); have n4_ := am (below_step u33HB hb); have n5_ := am (hbox); have n6_ := am ((by rw [hg]; exact (keep_size (w := w) (g := g) (row := none) u33HK) : w.heap.size ≤ gb417)); have n7_ := am ((Nat.le_trans HW0.out (by rw [hg]; exact (keep_size (w := w) (g := g) (row := none) u33HK) : w.heap.size ≤ gb417) : w0.heap.size ≤ gb417)); have n8_ := am (nl hg BK408 : gb408 ≠ gb417); have n9_ := am (ng hg BK408 : gb417 ≠ gb408); have n10_ := am ((by rw [hg]; exact Nat.ne_of_lt (IsS57.lt (show IsS57 w0 _ g s0_0 t415 t416 from u33HI0)) : g ≠ gb417)); have n11_ := am ((by rw [hg]; exact Nat.ne_of_gt (IsS57.lt (show IsS57 w0 _ g s0_0 t415 t416 from u33HI0)) : gb417 ≠ g)); clear HO413; clear HI0; clear BK408; clear HK; clear HB; have HO413 := n0_; have HI0 := n1_; have BK408 := n2_; have HK := n3_; have HB := n4_; have BK417 := n5_; have GW417 := n6_; have GE417 := n7_; have NB408_417 := n8_; have NB417_408 := n9_; have NB0_417 := n10_; have NB417_0 := n11_; clear n0_ n1_ n2_ n3_ n4_ n5_ n6_ n7_ n8_ n9_ n10_ n11_; clear hb hbox hg; have hnb8 := NB417_408.out; have hnc8 := NB408_417.out; have hnb9 := NB417_0.out; have hnc9 := NB0_417.out; obtain ⟨z10_0, y10_0, z10_1, y10_1, z10_2, y10_2, z10_3, y10_3⟩ := cl4 BK417; obtain ⟨Ao11, co11, eo11⟩ := Kd.R_slice HO413.out; subst eo11) | (refine gl 7 Tryd.func34 #[.pointer (some ⟨g, 0, none⟩), .int .i64 20] ?_; (with_reducible refine (spec_l1Below.calls g s0_0 t415 t416 20 t418 t419 t420 w0 _ ?side1 ?side2 A3.out).mono ?_); (case side1 => exact u33HI0); (case side2 => exact u33HB); rintro e w12 ⟨rfl, hi, hb, hk⟩; refine ⟨_, rfl, ?_⟩; replace BK408 := am (KeepBut.blk hk (g' := gb408) (o := .cells #[.int .i64 0, .string (⟨#[]⟩ : ByteArray), .slice none 0 0, .string (⟨#[]⟩ : ByteArray)] 26 (0, 0)) (bg1 BK408 NB408_417) NB408_0.out (by simp)); replace HO413 := am (Kd.R_mono (Kd.R_keep (IsS57.apart (show IsS57 w0 _ g s0_0 t415 t416 from u33HI0) (rj (Kd.R_types HO413.out BK417.out (by decide)) (fun _ h_ => h_.1)) (by decide)) hk (fun _ h => h.2)) (fun _ h => h.1)); replace BK417 := am (KeepBut.blk hk (g' := gb417) (o := .cells #[.int .i64 t409, .string t410, .slice Ao11 t411.length co11, .string t414] 26 (0, 0)) (pt0 BK417) NB417_0.out (by simp)); replace HK := am (KeepBut.trans u33HK hk (.inl rfl)); replace HB := am (hb); replace HI0 := am (hi); clear hb hk hi))
 have H := HH4.out
 clear HH4
 by_cases c13 : t418 = 0
 ·rw [if_pos c13] at H
  have c13b0 : (t418 == 0) = true := beq_iff_eq.mpr c13
  have c13b1 : (t418 != 0) = false := bne_eq_false_iff_eq.mpr c13
  clear c13
  (first | rw [c13b0] | (simp only [i64_w, i32_w]; rw [c13b0]) | skip)
  revert H
  refine ok3 fun t421 t422 t423 A14 H => ?_
  (try dsimp only at H)
  simp only [Option.some.injEq, Prod.mk.injEq] at H
  obtain ⟨rfl, rfl, rfl, rfl, rfl, rfl⟩ := H
  go_wp2_with ((with_reducible refine gw ?_); first | (refine gl 11 Tryd.func34 #[.pointer (some ⟨g, 0, none⟩), .int .i64 7] ?_; (with_reducible refine (spec_l1Below.calls g s0_0 t419 t420 7 t421 t422 t423 w0 _ ?side1 ?side2 A14.out).mono ?_); (case side1 => exact u33HI0); (case side2 => exact u33HB); rintro e w15 ⟨rfl, hi, hb, hk⟩; refine ⟨_, rfl, ?_⟩; replace BK408 := kp BK408 hk NB408_0; replace HO413 := am (Kd.R_mono (Kd.R_keep (IsS57.apart (show IsS57 w0 _ g s0_0 t419 t420 from u33HI0) (ro HO413) (by decide)) hk (fun _ h => h.2)) (fun _ h => h.1)); replace BK417 := kp BK417 hk NB417_0; replace HK := am (KeepBut.trans u33HK hk (.inl rfl)); replace HB := am (hb); replace HI0 := am (hi); clear hb hk hi; have hnb16 := NB417_408.out; have hnc16 := NB408_417.out; have hnb17 := NB417_0.out; have hnc17 := NB0_417.out; obtain ⟨z18_0, y18_0, z18_1, y18_1, z18_2, y18_2, z18_3, y18_3⟩ := cl4 BK417; have hnb19 := NB408_0.out; have hnc19 := NB0_408.out; obtain ⟨z20_0, y20_0, z20_1, y20_1, z20_2, y20_2, z20_3, y20_3⟩ := cl4 BK408))
  refine bodyPost_ret (results_cell_row rfl _ _ gb408 26 #[.int .i64 (wrap64 (t421 - 1)), .string t410, .slice Ao11 t411.length co11, .string t414] (0, 0) _ rfl (pt1 BK408 NB408_417) Tryd.underlying26 rfl (by kernel_rfl)) rfl ?_
  exact ⟨_, rf, rj (Kd.R_types (Kd.R_types HO413.out BK417.out (by decide)) BK408.out (by decide)) (fun _ hk => trivial), u33HI0, u33HB, u33HK⟩
 rw [if_neg c13] at H
 have c13b0 : (t418 == 0) = false := beq_eq_false_iff_ne.mpr c13
 have c13b1 : (t418 != 0) = true := bne_iff_ne.mpr c13
 (first | rw [c13b0] | (simp only [i64_w, i32_w]; rw [c13b0]) | skip)
 by_cases c21 : t418 = 1
 ·rw [if_pos c21] at H
  have c21b0 : (t418 == 1) = true := beq_iff_eq.mpr c21
  have c21b1 : (t418 != 1) = false := bne_eq_false_iff_eq.mpr c21
  clear c21
  obtain ⟨y424, hy424⟩ : ∃ y_ : List ByteArray, y_ = (([(⟨#[]⟩ : ByteArray), (⟨#[97]⟩ : ByteArray), (⟨#[47, 32, 98]⟩ : ByteArray), (⟨#[47, 127]⟩ : ByteArray), (⟨#[47, 48, 49, 50, 51, 52, 53, 54, 55, 56, 57, 48, 49, 50, 51, 52, 53, 54, 55, 56, 57, 48, 49, 50, 51, 52, 53, 54, 55, 56, 57, 48, 49, 50, 51, 52, 53, 54, 55, 56, 57, 48, 49, 50, 51, 52, 53, 54, 55, 56, 57, 48, 49, 50, 51, 52, 53, 54, 55, 56, 57]⟩ : ByteArray)] : List ByteArray)) := ⟨_, rfl⟩
  replace H : ((spec_l1Pick.f s0_0 t419 t420 y424).bind fun bt427 => (some (t409, bt427.1, t411, t414, bt427.2.1, bt427.2.2))) = some (r1, r2, r3, r4, r5, r6) := by first | (rw [hy424]; with_reducible exact H) | (have H2_ := (Option.bind_some _ _).symm.trans H; rw [hy424]; with_reducible exact H2_) | (have H2_ := (Option.bind_some _ _).symm.trans H; with_reducible exact H2_) | with_reducible exact H | (rw [hy424]; exact H) | exact H
  have Ny424 := am hy424
  clear hy424
  revert H
  refine ok3 fun t427 t428 t429 A22 H => ?_
  (try dsimp only at H)
  simp only [Option.some.injEq, Prod.mk.injEq] at H
  obtain ⟨rfl, rfl, rfl, rfl, rfl, rfl⟩ := H
  go_wp2_with (first | ((with_reducible refine gate_dst (N := 17) rfl ?_); refine Kd.R_lit Kd.string _ 9 ?hg (N := 17) ?hd (xs := ([(⟨#[]⟩ : ByteArray), (⟨#[97]⟩ : ByteArray), (⟨#[47, 32, 98]⟩ : ByteArray), (⟨#[47, 127]⟩ : ByteArray), (⟨#[47, 48, 49, 50, 51, 52, 53, 54, 55, 56, 57, 48, 49, 50, 51, 52, 53, 54, 55, 56, 57, 48, 49, 50, 51, 52, 53, 54, 55, 56, 57, 48, 49, 50, 51, 52, 53, 54, 55, 56, 57, 48, 49, 50, 51, 52, 53, 54, 55, 56, 57, 48, 49, 50, 51, 52, 53, 54, 55, 56, 57]⟩ : ByteArray)] : List ByteArray)) (inner := [.string (⟨#[]⟩ : ByteArray), .string (⟨#[97]⟩ : ByteArray), .string (⟨#[47, 32, 98]⟩ : ByteArray), .string (⟨#[47, 127]⟩ : ByteArray), .string (⟨#[47, 48, 49, 50, 51, 52, 53, 54, 55, 56, 57, 48, 49, 50, 51, 52, 53, 54, 55, 56, 57, 48, 49, 50, 51, 52, 53, 54, 55, 56, 57, 48, 49, 50, 51, 52, 53, 54, 55, 56, 57, 48, 49, 50, 51, 52, 53, 54, 55, 56, 57, 48, 49, 50, 51, 52, 53, 54, 55, 56, 57]⟩ : ByteArray)]) (ok := fun _ => True) (okp := fun _ => True) ?hr ?hp (fun _ hk => hk) trivial (Below.refl _ _) (Nat.le_refl _) (by simp) ?_; (case hd => rfl); (case hg => rfl); (case hr => first | (go_simp; done) | (go_simp; rfl)); (case hp => exact rp); intro v425 w23 ho24 hb hg_ hnew_; clear hg_ hnew_; (first | rw [← Ny424.out] at ho24 | (simp only [Int.reduceToNat] at ho24; rw [← Ny424.out] at ho24)); replace HO413 := kr HO413 hb; have HO426 := am (Kd.R_lower ho24 (keep_size (w := w) (g := g) (row := none) u33HK)); replace BK408 := kb BK408 hb; replace BK417 := kb BK417 hb; replace HK := am (KeepBut.trans u33HK (KeepBut.of_below hb g none) (.inl rfl)); replace HB := am (below_step u33HB hb); replace HI0 := am (IsS57.below u33HI0 hb); clear hb ho24; obtain ⟨Ao25, co25, eo25⟩ := Kd.R_slice HO426.out; subst eo25) | ((with_reducible refine gw ?_); first | (refine gl 18 Tryd.func50 #[.pointer (some ⟨g, 0, none⟩), .slice Ao25 y424.length co25] ?_; (with_reducible refine (spec_l1Pick.calls g s0_0 t419 t420 _ _ y424 t427 t428 t429 w0 _ ?side1 ?side2 ?side3 ?side4 ?side5 A22.out).mono ?_); (case side1 => exact u33HI0); (case side2 => exact u33HB); (case side3 => exact rc HO426); (case side4 => exact (Kd.R_reads' HO426.out).2.1); (case side5 => exact far_slice (IsS57.own_ne HI0.out HO426.out (by decide))); rintro e w26 ⟨rfl, hi, hb, hk⟩; refine ⟨_, rfl, ?_⟩; replace BK408 := kp BK408 hk NB408_0; replace HO413 := am (Kd.R_mono (Kd.R_keep (IsS57.apart (show IsS57 w0 _ g s0_0 t419 t420 from u33HI0) (ro HO413) (by decide)) hk (fun _ h => h.2)) (fun _ h => h.1)); replace BK417 := kp BK417 hk NB417_0; replace HO426 := am (Kd.R_mono (Kd.R_keep (IsS57.apart (show IsS57 w0 _ g s0_0 t419 t420 from u33HI0) (ro HO426) (by decide)) hk (fun _ h => h.2)) (fun _ h => h.1)); replace HK := am (KeepBut.trans u33HK hk (.inl rfl)); replace HB := am (hb); replace HI0 := am (hi); clear hb hk hi; have hnb27 := NB417_408.out; have hnc27 := NB408_417.out; have hnb28 := NB417_0.out; have hnc28 := NB0_417.out; obtain ⟨z29_0, y29_0, z29_1, y29_1, z29_2, y29_2, z29_3, y29_3⟩ := cl4 BK417; have hnb30 := NB408_0.out; have hnc30 := NB0_408.out; obtain ⟨z31_0, y31_0, z31_1, y31_1, z31_2, y31_2, z31_3, y31_3⟩ := cl4 BK408)))
  refine bodyPost_ret (results_cell_row rfl _ _ gb408 26 #[.int .i64 t409, .string t427, .slice Ao11 t411.length co11, .string t414] (0, 0) _ rfl (pt1 BK408 NB408_417) Tryd.underlying26 rfl (by kernel_rfl)) rfl ?_
  exact ⟨_, rf, rj (Kd.R_types (Kd.R_types HO413.out BK417.out (by decide)) BK408.out (by decide)) (fun _ hk => trivial), u33HI0, u33HB, u33HK⟩
 rw [if_neg c21] at H
 have c21b0 : (t418 == 1) = false := beq_eq_false_iff_ne.mpr c21
 have c21b1 : (t418 != 1) = true := bne_iff_ne.mpr c21
 by_cases c32 : t418 = 2
 ·rw [if_pos c32] at H
  have c32b0 : (t418 == 2) = true := beq_iff_eq.mpr c32
  have c32b1 : (t418 != 2) = false := bne_eq_false_iff_eq.mpr c32
  clear c32
  revert H
  refine ok3 fun t430 t433 t434 A33 H => ?_
  (try dsimp only at H)
  simp only [Option.some.injEq, Prod.mk.injEq] at H
  obtain ⟨rfl, rfl, rfl, rfl, rfl, rfl⟩ := H
  go_wp2_with ((with_reducible refine gw ?_); first | (refine gl 23 Tryd.func43 #[.pointer (some ⟨g, 0, none⟩)] ?_; (with_reducible refine (spec_l2Draw.calls k g s0_0 t419 t420 t430 t433 t434 w0 _ ?side1 ?side2 A33.out).mono ?_); (case side1 => exact u33HI0); (case side2 => exact u33HB); rintro e w34 ⟨v431, rfl, ho0, hi, hb, hk⟩; refine ⟨_, rfl, ?_⟩; replace BK408 := kp BK408 hk NB408_0; replace BK417 := kp BK417 hk NB417_0; have HO432 := am (Kd.R_lower (Kd.R_new' ho0 (Kd.R_lt (ro HO413))) (keep_size (w := w) (g := g) (row := none) u33HK)); replace HO413 := am (Kd.R_mono (Kd.R_told (Kd.R_oldK (IsS57.apart (show IsS57 w0 _ g s0_0 t419 t420 from u33HI0) (ro HO413) (by decide)) hk) (Kd.R_base ho0)) (fun _ h_ => h_.1)); replace HK := am (KeepBut.trans u33HK hk (.inl rfl)); replace HB := am (hb); replace HI0 := am (hi); clear hb hk hi ho0; obtain ⟨Ao35, co35, eo35⟩ := Kd.R_slice HO432.out; subst eo35; have hnb36 := NB417_408.out; have hnc36 := NB408_417.out; have hnb37 := NB417_0.out; have hnc37 := NB0_417.out; obtain ⟨z38_0, y38_0, z38_1, y38_1, z38_2, y38_2, z38_3, y38_3⟩ := cl4 BK417; have hnb39 := NB408_0.out; have hnc39 := NB0_408.out; obtain ⟨z40_0, y40_0, z40_1, y40_1, z40_2, y40_2, z40_3, y40_3⟩ := cl4 BK408))
  refine bodyPost_ret (results_cell_row rfl _ _ gb408 26 #[.int .i64 t409, .string t410, .slice Ao35 t430.length co35, .string t414] (0, 0) _ rfl (pt1 BK408 NB408_417) Tryd.underlying26 rfl (by kernel_rfl)) rfl ?_
  exact ⟨_, rf, rj (Kd.R_types (Kd.R_types HO432.out BK417.out (by decide)) BK408.out (by decide)) (fun _ hk => trivial), u33HI0, u33HB, u33HK⟩
 rw [if_neg c32] at H
 have c32b0 : (t418 == 2) = false := beq_eq_false_iff_ne.mpr c32
 have c32b1 : (t418 != 2) = true := bne_iff_ne.mpr c32
 by_cases c41 : t418 = 3
 rotate_left
 ·rw [if_neg c41] at H
  have c41b0 : (t418 == 3) = false := beq_eq_false_iff_ne.mpr c41
  have c41b1 : (t418 != 3) = true := bne_iff_ne.mpr c41
  simp only [Option.some.injEq, Prod.mk.injEq] at H
  obtain ⟨rfl, rfl, rfl, rfl, rfl, rfl⟩ := H
  have hnb56 := NB417_408.out
  have hnc56 := NB408_417.out
  have hnb57 := NB417_0.out
  have hnc57 := NB0_417.out
  obtain ⟨z58_0, y58_0, z58_1, y58_1, z58_2, y58_2, z58_3, y58_3⟩ := cl4 BK417
  have hnb59 := NB408_0.out
  have hnc59 := NB0_408.out
  obtain ⟨z60_0, y60_0, z60_1, y60_1, z60_2, y60_2, z60_3, y60_3⟩ := cl4 BK408
  go_wp2
  refine bodyPost_ret (results_cell_row rfl _ _ gb408 26 #[.int .i64 t409, .string t410, .slice Ao11 t411.length co11, .string t414] (0, 0) _ rfl (pt0 BK408) Tryd.underlying26 rfl (by kernel_rfl)) rfl ?_
  exact ⟨_, rf, rj (Kd.R_types HO413.out BK408.out (by decide)) (fun _ hk => trivial), u33HI0, u33HB, u33HK⟩
 rw [if_pos c41] at H
 have c41b0 : (t418 == 3) = true := beq_iff_eq.mpr c41
 have c41b1 : (t418 != 3) = false := bne_eq_false_iff_eq.mpr c41
 clear c41
 have H' := am H
 clear H
 go_wp2
 (try simp only [Act.put, List.setIfInBounds_toArray, List.set_cons_zero, List.set_cons_succ])
 go_loopg [] k (fun kq w' => ∃ (x1001_1 : Int) (x1002_1 : Int) (x418003_1 : ByteArray), Aside0 (spec_l3DrawBadReq.l0 kq s0_0 x1001_1 x1002_1 t409 t410 t411 x418003_1 = some (r1, r2, r3, r4, r5, r6)) ∧ Aside0 (kq ≤ k) ∧ Aside0 (Kd.R k46 46 w' w.heap.size (fun _ => True) (.slice Ao11 t411.length co11) t411) ∧ Aside0 (w'.heap[gb408]? = some (.cells #[.int .i64 0, .string (⟨#[]⟩ : ByteArray), (.slice none 0 0), .string (⟨#[]⟩ : ByteArray)] 26 (0, 0))) ∧ Aside0 (w'.heap[gb417]? = some (.cells #[.int .i64 t409, .string t410, (.slice Ao11 t411.length co11), .string x418003_1] 26 (0, 0))) ∧ Aside0 (IsS57 w0 w' g s0_0 x1001_1 x1002_1) ∧ Aside0 (KeepBut w w' g none) ∧ Aside0 (Below w0.heap.size w0 w'))
 case atStart => exact ⟨(t419), (t420), (t414), H', ⟨Nat.le_refl _⟩, ⟨by (with_reducible repeat (first | apply Kd.R_alloc | apply Kd.R_drewN | apply Kd.R_drew)); exact HO413.out⟩, ⟨by (with_reducible repeat (first | refine blk_drewN ?_ _ | refine blk_drew ?_ | refine blk_alloc ?_ _)); exact BK408.out⟩, ⟨by (with_reducible repeat (first | refine blk_drewN ?_ _ | refine blk_drew ?_ | refine blk_alloc ?_ _)); exact BK417.out⟩, ⟨u33HI0⟩, ⟨u33HK⟩, ⟨u33HB⟩⟩
 case round =>
  clear H'
  try clear c1
  try clear c2
  try clear p2
  try clear c3
  try clear c4
  try clear c5
  try clear p6
  try clear c8
  try clear c9
  try clear c13
  try clear c13b0
  try clear c13b1
  try clear c16
  try clear c17
  try clear c19
  try clear c21
  try clear c21b0
  try clear c21b1
  try clear c27
  try clear c28
  try clear c30
  try clear c32
  try clear c32b0
  try clear c32b1
  try clear c33
  try clear c34
  try clear c36
  try clear c37
  try clear c39
  try clear c41
  try clear c41b0
  try clear c41b1
  try clear z10_0
  try clear z10_1
  try clear z10_2
  try clear z10_3
  try clear z18_0
  try clear z18_1
  try clear z18_2
  try clear z18_3
  try clear z20_0
  try clear z20_1
  try clear z20_2
  try clear z20_3
  try clear z29_0
  try clear z29_1
  try clear z29_2
  try clear z29_3
  try clear z31_0
  try clear z31_1
  try clear z31_2
  try clear z31_3
  try clear z38_0
  try clear z38_1
  try clear z38_2
  try clear z38_3
  try clear z40_0
  try clear z40_1
  try clear z40_2
  try clear z40_3
  try clear y10_0
  try clear y10_1
  try clear y10_2
  try clear y10_3
  try clear y18_0
  try clear y18_1
  try clear y18_2
  try clear y18_3
  try clear y20_0
  try clear y20_1
  try clear y20_2
  try clear y20_3
  try clear y29_0
  try clear y29_1
  try clear y29_2
  try clear y29_3
  try clear y31_0
  try clear y31_1
  try clear y31_2
  try clear y31_3
  try clear y38_0
  try clear y38_1
  try clear y38_2
  try clear y38_3
  try clear y40_0
  try clear y40_1
  try clear y40_2
  try clear y40_3
  obtain ⟨x1001_1, x1002_1, x418003_1, HA, HK1, HO_418002, BK408, BK417, HI0, HK, HB⟩ := hrel
  cases gk with
  | zero => exact absurd HA.out (by simp [spec_l3DrawBadReq.l0])
  | succ k1 =>
   have H := HA.out
   clear HA
   simp only [spec_l3DrawBadReq.l0] at H
   revert H
   refine ok3 fun t435 t436 t437 A42 H => ?_
   (try dsimp only at H)
   have HH43 := am H
   clear H
   try go_wp2
   replace HO_418002 := am (Kd.R_drew HO_418002.out)
   replace BK408 := am (blk_drew BK408.out)
   replace BK417 := am (blk_drew BK417.out)
   replace HI0 := am (IsS57.drew HI0.out)
   replace HK := am (keep_drew HK.out)
   replace HB := am (below_drew1 HB.out)
   refine start_ (n := 7) (S := fun w' => w'.cell? ⟨gb417, 0, none⟩ = some (.int .i64 t409) ∧ w'.cell? ⟨gb417, 1, none⟩ = some (.string t410) ∧ w'.cell? ⟨gb417, 2, none⟩ = some (.slice Ao11 t411.length co11) ∧ w'.cell? ⟨gb417, 3, none⟩ = some (.string x418003_1)) (ds := []) ⟨br true [0, 7]⟩ (by kernel_rfl) rfl (by kernel_rfl) ⟨bc BK417, bc BK417, bc BK417, bc BK417⟩ (fun hHeld => ?_)
   generalize wr.drew = w44 at HO_418002 BK408 BK417 HI0 HK HB hHeld ⊢
   refine pu 0 27 [1, 6] ?_
   refine pu 3 30 [1, 2, 1, 3] ?_
   refine tk 1 28 [2, 1, 1, 3] ?_
   refine pu 2 29 [4, 3] ?_
   refine og 4 31 [5, 2] Tryd.func34 #[.pointer (some ⟨g, 0, none⟩), .int .i64 2] (fun K hK => ?_)
   with_reducible refine (spec_l1Below.calls g s0_0 x1001_1 x1002_1 2 t435 t436 t437 w0 _ ?side1 ?side2 A42.out).mono ?_
   (case side1 => exact u33HI0)
   (case side2 => exact u33HB)
   rintro e w45 ⟨rfl, hi, hb, hk⟩
   refine ⟨_, rfl, ?_⟩
   replace HO_418002 := am (Kd.R_mono (Kd.R_keep (IsS57.apart (show IsS57 w0 _ g s0_0 x1001_1 x1002_1 from u33HI0) (ro HO_418002) (by decide)) hk (fun _ h => h.2)) (fun _ h => h.1))
   replace BK408 := kp BK408 hk NB408_0
   replace BK417 := kp BK417 hk NB417_0
   replace HK := am (KeepBut.trans u33HK hk (.inl rfl))
   replace HB := am (hb)
   replace HI0 := am (hi)
   clear hb hk hi
   refine hK.out _ _ ⟨bc BK417, bc BK417, bc BK417, bc BK417⟩ (fun hHeld => ?_)
   clear hK K
   refine nm 31 ?_
   refine pu 5 32 [6, 1] ?_
   refine pu 6 33 [7] ?_
   refine done_ (by kernel_rfl) ?_
   go_upto_if 33 with (fail)
   have H := HH43.out
   clear HH43
   by_cases c46 : (x418003_1.size : Int) < (wrap64 (120 + t435))
   rotate_left
   ·rw [if_neg c46] at H
    have c46b0 := decide_eq_false c46
    clear c46
    (first | rw [c46b0] | (simp only [i64_w, i32_w]; rw [c46b0]) | skip)
    simp only [Option.some.injEq, Prod.mk.injEq] at H
    obtain ⟨rfl, rfl, rfl, rfl, rfl, rfl⟩ := H
    have hnb51 := NB417_408.out
    have hnc51 := NB408_417.out
    have hnb52 := NB417_0.out
    have hnc52 := NB0_417.out
    obtain ⟨z53_0, y53_0, z53_1, y53_1, z53_2, y53_2, z53_3, y53_3⟩ := cl4 BK417
    have hnb54 := NB408_0.out
    have hnc54 := NB0_408.out
    obtain ⟨z55_0, y55_0, z55_1, y55_1, z55_2, y55_2, z55_3, y55_3⟩ := cl4 BK408
    go_wp2
    refine bodyPost_ret (results_cell_row rfl _ _ gb408 26 #[.int .i64 t409, .string t410, .slice Ao11 t411.length co11, .string x418003_1] (0, 0) _ rfl (pt0 BK408) Tryd.underlying26 rfl (by kernel_rfl)) rfl ?_
    exact ⟨_, rf, rj (Kd.R_types HO_418002.out BK408.out (by decide)) (fun _ hk => trivial), u33HI0, u33HB, u33HK⟩
   rw [if_pos c46] at H
   have c46b0 := decide_eq_true c46
   clear c46
   (first | rw [c46b0] | (simp only [i64_w, i32_w]; rw [c46b0]) | skip)
   revert H
   refine ifn fun c47 H => ?_
   have c47b0 := eq_true c47
   have c47b1 := decide_eq_true c47
   try have c47b2 := eq_false (Nat.not_lt.2 c47)
   have H' := am H
   clear H
   have hnb48 := NB417_408.out
   have hnc48 := NB408_417.out
   have hnb49 := NB417_0.out
   have hnc49 := NB0_417.out
   obtain ⟨z50_0, y50_0, z50_1, y50_1, z50_2, y50_2, z50_3, y50_3⟩ := cl4 BK417
   go_wp2
   go_roundg k1
   case measure => have := HK1.out; omega
   case rel => exact ⟨(t436), (t437), (x418003_1 ++ (⟨#[98]⟩ : ByteArray)), H', ⟨by have := HK1.out; omega⟩, ⟨rj (Kd.R_types HO_418002.out BK417.out (by decide)) (fun _ hk => trivial)⟩, ⟨by (with_reducible repeat (first | refine blk_drewN ?_ _ | refine blk_drew ?_ | refine blk_alloc ?_ _)); refine blk_far ?_ NB408_417.out _; (with_reducible repeat (first | refine blk_drewN ?_ _ | refine blk_drew ?_ | refine blk_alloc ?_ _)); exact BK408.out⟩, ⟨pt0 BK417⟩, ⟨u33HI0⟩, ⟨u33HK⟩, ⟨u33HB⟩⟩

/-! ### spec_l9Draw: function 17 -/
theorem u17HB {p : Prop} (h : p := by repeat (first | (with_reducible first | exact HB.out | apply below_alloc | apply pw_below_drewN | apply below_drew1 | refine below_set ?_ GE438.out | refine below_set ?_ GE439.out | refine below_set ?_ (IsS57.ge HI443.out) | refine below_set ?_ GE452.out) | exact HB.out)) : p := h
theorem u17HI443 {p : Prop} (h : p := by repeat (first | (with_reducible first | exact HI443.out | apply IsS57.alloc | apply IsS57.drewN | apply IsS57.drew | apply IsS57.set_1 | apply IsS57.set_2 | apply IsS57.far (p := ⟨gb438, _, none⟩) (hne := NB443_438.out) | apply IsS57.far (p := ⟨gb439, _, none⟩) (hne := NB443_439.out) | apply IsS57.far (p := ⟨gb452, _, none⟩) (hne := NB443_452.out)) | exact HI443.out)) : p := h
def spec_l9Draw.f (k : Nat) (l0 : List Int) : Option (Int × ByteArray × (List (S46)) × ByteArray × Int × (List (S46)) × ByteArray) := (spec_l1New.f k l0).bind fun bt440 => ((spec_l3DrawBadReq.f k bt440.1 bt440.2.1 bt440.2.2).bind fun bt444 => ((spec_l3DrawBadResp.f k bt440.1 bt444.2.2.2.2.1 bt444.2.2.2.2.2).bind fun bt453 => (some (bt444.1, bt444.2.1, bt444.2.2.1, bt444.2.2.2.1, bt453.1, bt453.2.1, bt453.2.2.1))))
theorem spec_l9Draw.mono : ∀ a0 k, LeO (spec_l9Draw.f k a0) (spec_l9Draw.f (k + 1) a0) := by
 intro a0 k
 unfold spec_l9Draw.f
 have m0 := @spec_l1New.mono
 have m1 := @spec_l3DrawBadReq.mono
 have m2 := @spec_l3DrawBadResp.mono
 exact mo
set_option maxHeartbeats 8000000 in
set_option maxRecDepth 100000 in
theorem spec_l9Draw.calls (k : Nat) (A0 : Option Addr) (c0 : Nat) (l0 : List Int) (r1 : Int) (r2 : ByteArray) (r3 : List (S46)) (r4 : ByteArray) (r5 : Int) (r6 : List (S46)) (r7 : ByteArray) (w : World) (hr0 : Kd.C (Kd.int .u8) w A0 l0.length l0) (hc0 : l0.length ≤ c0) (h : spec_l9Draw.f k l0 = some (r1, r2, r3, r4, r5, r6, r7)) :
  Calls Tryd.prog 17 #[.slice A0 l0.length c0] w fun e w' => ∃ v2_ v5_ : Value, e = .returned (.tuple #[.agg #[.int .i64 r1, .string r2, v2_, .string r4], .agg #[.int .i64 r5, v5_, .string r7]]) ∧ Kd.R k46 46 w' w.heap.size (fun k_ => some k_ ≠ (v5_ : Value).ownBlock) v2_ r3 ∧ Kd.R k46 46 w' w.heap.size (fun k_ => some k_ ≠ (v2_ : Value).ownBlock) v5_ r6 ∧ Below w.heap.size w w' := by
 have hu26 := Tryd.underlying26
 have hu32 := Tryd.underlying32
 have HR0 := am hr0
 have HC0 := am hc0
 clear hr0 hc0
 have HB := am (Below.refl w.heap.size w)
 unfold spec_l9Draw.f at h
 have H := h
 clear h
 revert H
 refine ok3 fun t440 t441 t442 A2 H => ?_
 (try dsimp only at H)
 revert H
 refine ok6 fun t444 t445 t446 t449 t450 t451 A3 H => ?_
 (try dsimp only at H)
 revert H
 refine ok5 fun t453 t454 t457 t458 t459 A4 H => ?_
 (try dsimp only at H)
 simp only [Option.some.injEq, Prod.mk.injEq] at H
 obtain ⟨rfl, rfl, rfl, rfl, rfl, rfl, rfl⟩ := H
 go_enter Tryd.func17, Tryd.ntmps17
 try go_wp2_with ((with_reducible refine gw ?_); first | (refine bx 2 #[.int .i64 0, .string (⟨#[]⟩ : ByteArray), .slice none 0 0, .string (⟨#[]⟩ : ByteArray)] 26 ?_; intro gb438 hg w5 hbox hb; have BK438 := am (hbox); have GW438 := am (sz hg : w.heap.size ≤ gb438); have GE438 := am (sz hg : w.heap.size ≤ gb438); replace HB := am (below_step bl hb); clear hb hbox hg) | (refine bx 3 #[.int .i64 0, .slice none 0 0, .string (⟨#[]⟩ : ByteArray)] 32 ?_; intro gb439 hg w6 hbox hb; have BK439 := am (hbox); have GW439 := am (sz hg : w.heap.size ≤ gb439); have GE439 := am (sz hg : w.heap.size ≤ gb439); replace HB := am (below_step bl hb); have NB438_439 := am (nl hg BK438 : gb438 ≠ gb439); have NB439_438 := am (ng hg BK438 : gb439 ≠ gb438); replace BK438 := kb BK438 hb; clear hb hbox hg) | (refine gl 7 Tryd.func18 #[.slice A0 l0.length c0] ?_; (with_reducible refine (spec_l1New.calls k _ _ l0 t440 t441 t442 w _ ?side1 ?side2 ?side3 A2.out).mono ?_); (case side1 => exact u17HB); (case side2 => exact HR0.out); (case side3 => exact HC0.out); rintro e w7 ⟨g443, rfl, hi, hb, hb2⟩; refine ⟨_, rfl, ?_⟩; replace HB := am (hb); have HI443 := am (hi); have NB443_438 := am (IsS57.ne_blk hi (blk_below (g := gb438) (o := .cells #[.int .i64 0, .string (⟨#[]⟩ : ByteArray), .slice none 0 0, .string (⟨#[]⟩ : ByteArray)] 26 (0, 0)) (bk BK438) hb2) (by decide)); have NB438_443 := am (Ne.symm (IsS57.ne_blk hi (blk_below (g := gb438) (o := .cells #[.int .i64 0, .string (⟨#[]⟩ : ByteArray), .slice none 0 0, .string (⟨#[]⟩ : ByteArray)] 26 (0, 0)) (bk BK438) hb2) (by decide))); replace BK438 := am (blk_below (g := gb438) (o := .cells #[.int .i64 0, .string (⟨#[]⟩ : ByteArray), .slice none 0 0, .string (⟨#[]⟩ : ByteArray)] 26 (0, 0)) (bk BK438) hb2); have NB443_439 := am (IsS57.ne_blk hi (blk_below (g := gb439) (o := .cells #[.int .i64 0, .slice none 0 0, .string (⟨#[]⟩ : ByteArray)] 32 (0, 0)) (bk BK439) hb2) (by decide)); have NB439_443 := am (Ne.symm (IsS57.ne_blk hi (blk_below (g := gb439) (o := .cells #[.int .i64 0, .slice none 0 0, .string (⟨#[]⟩ : ByteArray)] 32 (0, 0)) (bk BK439) hb2) (by decide))); replace BK439 := am (blk_below (g := gb439) (o := .cells #[.int .i64 0, .slice none 0 0, .string (⟨#[]⟩ : ByteArray)] 32 (0, 0)) (bk BK439) hb2); clear hb hb2 hi) | (refine gl 9 Tryd.func33 #[.pointer (some ⟨g443, 0, none⟩)] ?_; (with_reducible refine (spec_l3DrawBadReq.calls k g443 t440 t441 t442 t444 t445 t446 t449 t450 t451 w _ ?side1 ?side2 A3.out).mono ?_); (case side1 => exact u17HI443); (case side2 => exact u17HB); rintro e w8 ⟨v447, rfl, ho0, hi, hb, hk⟩; refine ⟨_, rfl, ?_⟩; replace BK438 := kp BK438 hk NB438_443; replace BK439 := kp BK439 hk NB439_443; have HO448 := am (Kd.R_lower ho0 (below_size u17HB)); replace HB := am (hb); replace HI443 := am (hi); clear hb hk hi ho0) | (refine bx 5 #[.int .i64 0, .string (⟨#[]⟩ : ByteArray), .slice none 0 0, .string (⟨#[]⟩ : ByteArray)] 26 ?_; intro gb452 hg w9 hbox hb; have n0_ := am (Kd.R_below (ro HO448) hb); have n1_ := kb BK438 hb; have n2_ := kb BK439 hb; have n3_ := am (IsS57.below u17HI443 hb); have n4_ := am (below_step u17HB hb); have n5_ := am (hbox); have n6_ := am ((by rw [hg]; exact (below_size u17HB) : w.heap.size ≤ gb452)); have n7_ := am ((by rw [hg]; exact (below_size u17HB) : w.heap.size ≤ gb452)); have n8_ := am (nl hg BK438 : gb438 ≠ gb452); have n9_ := am (ng hg BK438 : gb452 ≠ gb438); have n10_ := am (nl hg BK439 : gb439 ≠ gb452); have n11_ := am (ng hg BK439 : gb452 ≠ gb439); have n12_ := am ((by rw [hg]; exact Nat.ne_of_lt (IsS57.lt (show IsS57 w _ g443 t440 t450 t451 from u17HI443)) : g443 ≠ gb452)); have n13_ := am ((by rw [hg]; exact Nat.ne_of_gt (IsS57.lt (show IsS57 w _ g443 t440 t450 t451 from u17HI443)) : gb452 ≠ g443)); clear HO448; clear BK438; clear BK439; clear HI443; clear HB; have HO448 := n0_; have BK438 := n1_; have BK439 := n2_; have HI443 := n3_; have HB := n4_; have BK452 := n5_; have GW452 := n6_; have GE452 := n7_; have NB438_452 := n8_; have NB452_438 := n9_; have NB439_452 := n10_; have NB452_439 := n11_; have NB443_452 := n12_; have NB452_443 := n13_; clear n0_ n1_ n2_ n3_ n4_ n5_ n6_ n7_ n8_ n9_ n10_ n11_ n12_ n13_; clear hb hbox hg; have hnb10 := NB452_438.out; have hnc10 := NB438_452.out; have hnb11 := NB452_439.out; have hnc11 := NB439_452.out; have hnb12 := NB452_443.out; have hnc12 := NB443_452.out; obtain ⟨z13_0, y13_0, z13_1, y13_1, z13_2, y13_2, z13_3, y13_3⟩ := cl4 BK452; obtain ⟨Ao14, co14, eo14⟩ := Kd.R_slice HO448.out; subst eo14))
 have n0_ : Aside0 (Kd.R k46 46 ((((w9.setCell ⟨gb452, 0, none⟩ (.int .i64 t444)).setCell ⟨gb452, 1, none⟩ (.string t445)).setCell ⟨gb452, 2, none⟩ (.slice Ao14 t446.length co14)).setCell ⟨gb452, 3, none⟩ (.string t449)) w.heap.size (fun _ => True) (.slice Ao14 t446.length co14) t446) := ⟨rj (Kd.R_types HO448.out BK452.out (by decide)) (fun _ hk => trivial)⟩
 have n1_ : Aside0 (((((w9.setCell ⟨gb452, 0, none⟩ (.int .i64 t444)).setCell ⟨gb452, 1, none⟩ (.string t445)).setCell ⟨gb452, 2, none⟩ (.slice Ao14 t446.length co14)).setCell ⟨gb452, 3, none⟩ (.string t449)).heap[gb438]? = some (.cells #[.int .i64 0, .string (⟨#[]⟩ : ByteArray), .slice none 0 0, .string (⟨#[]⟩ : ByteArray)] 26 (0, 0))) := ⟨by (with_reducible repeat (first | refine blk_drewN ?_ _ | refine blk_drew ?_ | refine blk_alloc ?_ _)); refine blk_far ?_ NB438_452.out _; (with_reducible repeat (first | refine blk_drewN ?_ _ | refine blk_drew ?_ | refine blk_alloc ?_ _)); refine blk_far ?_ NB438_452.out _; (with_reducible repeat (first | refine blk_drewN ?_ _ | refine blk_drew ?_ | refine blk_alloc ?_ _)); refine blk_far ?_ NB438_452.out _; (with_reducible repeat (first | refine blk_drewN ?_ _ | refine blk_drew ?_ | refine blk_alloc ?_ _)); refine blk_far ?_ NB438_452.out _; (with_reducible repeat (first | refine blk_drewN ?_ _ | refine blk_drew ?_ | refine blk_alloc ?_ _)); exact BK438.out⟩
 have n2_ : Aside0 (((((w9.setCell ⟨gb452, 0, none⟩ (.int .i64 t444)).setCell ⟨gb452, 1, none⟩ (.string t445)).setCell ⟨gb452, 2, none⟩ (.slice Ao14 t446.length co14)).setCell ⟨gb452, 3, none⟩ (.string t449)).heap[gb439]? = some (.cells #[.int .i64 0, .slice none 0 0, .string (⟨#[]⟩ : ByteArray)] 32 (0, 0))) := ⟨by (with_reducible repeat (first | refine blk_drewN ?_ _ | refine blk_drew ?_ | refine blk_alloc ?_ _)); refine blk_far ?_ NB439_452.out _; (with_reducible repeat (first | refine blk_drewN ?_ _ | refine blk_drew ?_ | refine blk_alloc ?_ _)); refine blk_far ?_ NB439_452.out _; (with_reducible repeat (first | refine blk_drewN ?_ _ | refine blk_drew ?_ | refine blk_alloc ?_ _)); refine blk_far ?_ NB439_452.out _; (with_reducible repeat (first | refine blk_drewN ?_ _ | refine blk_drew ?_ | refine blk_alloc ?_ _)); refine blk_far ?_ NB439_452.out _; (with_reducible repeat (first | refine blk_drewN ?_ _ | refine blk_drew ?_ | refine blk_alloc ?_ _)); exact BK439.out⟩
 have n3_ : Aside0 (((((w9.setCell ⟨gb452, 0, none⟩ (.int .i64 t444)).setCell ⟨gb452, 1, none⟩ (.string t445)).setCell ⟨gb452, 2, none⟩ (.slice Ao14 t446.length co14)).setCell ⟨gb452, 3, none⟩ (.string t449)).heap[gb452]? = some (.cells #[.int .i64 t444, .string t445, .slice Ao14 t446.length co14, .string t449] 26 (0, 0))) := ⟨pt0 BK452⟩
 have n4_ : Aside0 (IsS57 w ((((w9.setCell ⟨gb452, 0, none⟩ (.int .i64 t444)).setCell ⟨gb452, 1, none⟩ (.string t445)).setCell ⟨gb452, 2, none⟩ (.slice Ao14 t446.length co14)).setCell ⟨gb452, 3, none⟩ (.string t449)) g443 t440 t450 t451) := ⟨u17HI443⟩
 have n5_ : Aside0 (Below w.heap.size w ((((w9.setCell ⟨gb452, 0, none⟩ (.int .i64 t444)).setCell ⟨gb452, 1, none⟩ (.string t445)).setCell ⟨gb452, 2, none⟩ (.slice Ao14 t446.length co14)).setCell ⟨gb452, 3, none⟩ (.string t449))) := ⟨u17HB⟩
 (try clear HO448)
 (try clear BK438)
 (try clear BK439)
 (try clear BK452)
 (try clear HI443)
 (try clear HB)
 generalize ((((w9.setCell ⟨gb452, 0, none⟩ (.int .i64 t444)).setCell ⟨gb452, 1, none⟩ (.string t445)).setCell ⟨gb452, 2, none⟩ (.slice Ao14 t446.length co14)).setCell ⟨gb452, 3, none⟩ (.string t449)) = w15 at n0_ n1_ n2_ n3_ n4_ n5_ ⊢
 have HO448 := n0_
 have BK438 := n1_
 have BK439 := n2_
 have BK452 := n3_
 have HI443 := n4_
 have HB := n5_
 clear n0_ n1_ n2_ n3_ n4_ n5_
 replace HO448 := am (Kd.R_drew HO448.out)
 replace BK438 := am (blk_drew BK438.out)
 replace BK439 := am (blk_drew BK439.out)
 replace BK452 := am (blk_drew BK452.out)
 replace HI443 := am (IsS57.drew HI443.out)
 replace HB := am (below_drew1 HB.out)
 refine start_ (n := 5) (S := fun w' => w'.cell? ⟨gb452, 0, none⟩ = some (.int .i64 t444) ∧ w'.cell? ⟨gb452, 1, none⟩ = some (.string t445) ∧ w'.cell? ⟨gb452, 2, none⟩ = some (.slice Ao14 t446.length co14) ∧ w'.cell? ⟨gb452, 3, none⟩ = some (.string t449)) (ds := []) ⟨br true [0, 5]⟩ (by kernel_rfl) rfl (by kernel_rfl) ⟨bc BK452, bc BK452, bc BK452, bc BK452⟩ (fun hHeld => ?_)
 generalize w15.drew = w16 at HO448 BK438 BK439 BK452 HI443 HB hHeld ⊢
 refine pu 1 11 [0, 1, 1, 3] ?_
 refine tk 0 10 [2, 3] ?_
 refine og 2 12 [3, 2] Tryd.func28 #[.pointer (some ⟨g443, 0, none⟩)] (fun K hK => ?_)
 with_reducible refine (spec_l3DrawBadResp.calls k g443 t440 t450 t451 t453 t454 t457 t458 t459 w _ ?side1 ?side2 A4.out).mono ?_
 (case side1 => exact u17HI443)
 (case side2 => exact u17HB)
 rintro e w17 ⟨v455, rfl, ho0, hi, hb, hk⟩
 refine ⟨_, rfl, ?_⟩
 replace BK438 := kp BK438 hk NB438_443
 replace BK439 := kp BK439 hk NB439_443
 replace BK452 := kp BK452 hk NB452_443
 have HO456 := am (Kd.R_lower (Kd.R_new' ho0 (Kd.R_lt (ro HO448))) (below_size u17HB))
 replace HO448 := am (Kd.R_mono (Kd.R_told (Kd.R_oldK (IsS57.apart (show IsS57 w _ g443 t440 t450 t451 from u17HI443) (ro HO448) (by decide)) hk) (Kd.R_base ho0)) (fun _ h_ => h_.1))
 replace HB := am (hb)
 replace HI443 := am (hi)
 clear hb hk hi ho0
 obtain ⟨Ao23, co23, eo23⟩ := Kd.R_slice HO456.out
 (first | subst eo23 | (injection eo23 with f1_ f2_ f3_; have f4_ := f1_.symm; have f5_ := f3_.symm; clear f1_ f2_ f3_; subst f4_; subst f5_))
 refine hK.out _ _ ⟨bc BK452, bc BK452, bc BK452, bc BK452⟩ (fun hHeld => ?_)
 clear hK K
 refine nm 12 ?_
 refine one_ (i := 3) (N := none) #[true, true, true, true, false] rfl rfl (by kernel_rfl) (by decide) (fun K hK => ?_)
 have hs18 : w17.cell? ⟨gb438, 0, none⟩ = some (.int .i64 0) := bc BK438
 have hfs18 := blk_frozen BK438.out 0
 have hns18_1 := NB439_438.out
 have hns18_2 := NB452_438.out
 have hms18_1 := NB438_439.out
 have hms18_2 := NB438_452.out
 have hs19 : w17.cell? ⟨gb438, 1, none⟩ = some (.string (⟨#[]⟩ : ByteArray)) := bc BK438
 have hfs19 := blk_frozen BK438.out 1
 have hns19_1 := NB439_438.out
 have hns19_2 := NB452_438.out
 have hms19_1 := NB438_439.out
 have hms19_2 := NB438_452.out
 have hs20 : w17.cell? ⟨gb438, 2, none⟩ = some (.slice none 0 0) := bc BK438
 have hfs20 := blk_frozen BK438.out 2
 have hns20_1 := NB439_438.out
 have hns20_2 := NB452_438.out
 have hms20_1 := NB438_439.out
 have hms20_2 := NB438_452.out
 have hs21 : w17.cell? ⟨gb438, 3, none⟩ = some (.string (⟨#[]⟩ : ByteArray)) := bc BK438
 have hfs21 := blk_frozen BK438.out 3
 have hns21_1 := NB439_438.out
 have hns21_2 := NB452_438.out
 have hms21_1 := NB438_439.out
 have hms21_2 := NB438_452.out
 refine skip_ (w1 := ?_) (by rfl) rfl ?_ ?_
 rotate_left
 ·go_simp
  rfl
 refine hK.out _ _ ⟨((cell_far (p := ⟨gb438, _, none⟩) NB452_438.out _).trans (((cell_far (p := ⟨gb438, _, none⟩) NB452_438.out _).trans (((cell_far (p := ⟨gb438, _, none⟩) NB452_438.out _).trans (((cell_far (p := ⟨gb438, _, none⟩) NB452_438.out _).trans (hHeld.1)))))))), ((cell_far (p := ⟨gb438, _, none⟩) NB452_438.out _).trans (((cell_far (p := ⟨gb438, _, none⟩) NB452_438.out _).trans (((cell_far (p := ⟨gb438, _, none⟩) NB452_438.out _).trans (((cell_far (p := ⟨gb438, _, none⟩) NB452_438.out _).trans (hHeld.2.1)))))))), ((cell_far (p := ⟨gb438, _, none⟩) NB452_438.out _).trans (((cell_far (p := ⟨gb438, _, none⟩) NB452_438.out _).trans (((cell_far (p := ⟨gb438, _, none⟩) NB452_438.out _).trans (((cell_far (p := ⟨gb438, _, none⟩) NB452_438.out _).trans (hHeld.2.2.1)))))))), ((cell_far (p := ⟨gb438, _, none⟩) NB452_438.out _).trans (((cell_far (p := ⟨gb438, _, none⟩) NB452_438.out _).trans (((cell_far (p := ⟨gb438, _, none⟩) NB452_438.out _).trans (((cell_far (p := ⟨gb438, _, none⟩) NB452_438.out _).trans (hHeld.2.2.2))))))))⟩ (fun hHeld => ?_)
 clear hK K
 refine one_ (i := 4) (N := none) #[true, true, true, true, true] rfl rfl (by kernel_rfl) (by decide) (fun K hK => ?_)
 have hs22 : w17.cell? ⟨gb439, 0, none⟩ = some (.int .i64 0) := bc BK439
 have hfs22 := blk_frozen BK439.out 0
 have hns22_0 := NB438_439.out
 have hns22_2 := NB452_439.out
 have hms22_0 := NB439_438.out
 have hms22_2 := NB439_452.out
 have hs24 : w17.cell? ⟨gb439, 1, none⟩ = some (.slice none 0 0) := bc BK439
 have hfs24 := blk_frozen BK439.out 1
 have hns24_0 := NB438_439.out
 have hns24_2 := NB452_439.out
 have hms24_0 := NB439_438.out
 have hms24_2 := NB439_452.out
 have hs25 : w17.cell? ⟨gb439, 2, none⟩ = some (.string (⟨#[]⟩ : ByteArray)) := bc BK439
 have hfs25 := blk_frozen BK439.out 2
 have hns25_0 := NB438_439.out
 have hns25_2 := NB452_439.out
 have hms25_0 := NB439_438.out
 have hms25_2 := NB439_452.out
 refine skip_ (w1 := ?_) (by rfl) rfl ?_ ?_
 rotate_left
 ·go_simp
  rfl
 refine hK.out _ _ ⟨((cell_far (p := ⟨gb439, _, none⟩) NB452_439.out _).trans (((cell_far (p := ⟨gb439, _, none⟩) NB452_439.out _).trans (((cell_far (p := ⟨gb439, _, none⟩) NB452_439.out _).trans (hHeld.1)))))), ((cell_far (p := ⟨gb439, _, none⟩) NB452_439.out _).trans (((cell_far (p := ⟨gb439, _, none⟩) NB452_439.out _).trans (((cell_far (p := ⟨gb439, _, none⟩) NB452_439.out _).trans (hHeld.2.1)))))), ((cell_far (p := ⟨gb439, _, none⟩) NB452_439.out _).trans (((cell_far (p := ⟨gb439, _, none⟩) NB452_439.out _).trans (((cell_far (p := ⟨gb439, _, none⟩) NB452_439.out _).trans (hHeld.2.2.1)))))), ((cell_far (p := ⟨gb439, _, none⟩) NB452_439.out _).trans (((cell_far (p := ⟨gb439, _, none⟩) NB452_439.out _).trans (((cell_far (p := ⟨gb439, _, none⟩) NB452_439.out _).trans (hHeld.2.2.2))))))⟩ (fun hHeld => ?_)
 clear hK K
 refine done_ (by kernel_rfl) ?_
 try go_wp2
 refine bodyPost_ret (results_cc rfl _ _ gb438 gb439 26 32 #[.int .i64 t444, .string t445, .slice Ao14 t446.length co14, .string t449] #[.int .i64 t453, .slice Ao23 t454.length co23, .string t457] (0, 0) (0, 0) _ _ rfl (pt1 BK438 NB438_439) Tryd.underlying26 rfl (by kernel_rfl) rfl (pt1 BK439 NB439_438) Tryd.underlying32 rfl (by kernel_rfl)) rfl ?_
 exact ⟨_, _, rf, rj (Kd.R_types (Kd.R_types HO448.out BK438.out (by decide)) BK439.out (by decide)) (fun _ hk => hk.1.1.2), rj (Kd.R_types (Kd.R_types HO456.out BK438.out (by decide)) BK439.out (by decide)) (fun _ hk => hk.1.1.2), u17HB⟩

/-! ### spec_Drop: function 21 -/
theorem u21HB {p : Prop} (h : p := by repeat (first | (with_reducible first | exact HB.out | apply below_alloc | apply pw_below_drewN | apply below_drew1) | exact HB.out)) : p := h
def spec_Drop.l0 : Nat → List (S46) → Int → List (S46) → Int → Option ((List (S46)))
 | 0, _, _, _, _ => none
 | k + 1, x0, x5, x6, x7 => if x7 < (x0.length : Int) then (if x7 = x5 then (spec_Drop.l0 k x0 x5 x6 (wrap64 (x7 + 1))) else (if 0 ≤ x7 then (if x6.length < 4398046511104 then (spec_Drop.l0 k x0 x5 (x6 ++ [(⟨(rd_T46 x0 x7).f0, (rd_T46 x0 x7).f1⟩ : S46)]) (wrap64 (x7 + 1))) else (none)) else (none))) else (some x6)
def spec_Drop.f (k : Nat) (l0 : List (S46)) (a1 : ByteArray) : Option ((List (S46))) := (spec_l2At.f k l0 a1).bind fun t460 => (spec_Drop.l0 k l0 t460 (([] : List (S46))) 0)
theorem spec_Drop.mono_l : ∀ k, (∀ y0 y1 y2 y3, LeO (spec_Drop.l0 k y0 y1 y2 y3) (spec_Drop.l0 (k + 1) y0 y1 y2 y3))
 | 0 => fun _ _ _ _ r h => by simp [spec_Drop.l0] at h
 | k + 1 => by
  have ih0 := spec_Drop.mono_l k
  ·intro y0 y1 y2 y3
   unfold spec_Drop.l0
   have m0 := @spec_l2At.mono
   exact mo
theorem spec_Drop.mono : ∀ a0 a1 k, LeO (spec_Drop.f k a0 a1) (spec_Drop.f (k + 1) a0 a1) := by
 intro a0 a1 k
 have ih0 := spec_Drop.mono_l k
 unfold spec_Drop.f
 have m0 := @spec_l2At.mono
 exact mo
set_option maxHeartbeats 8000000 in
set_option maxRecDepth 100000 in
theorem spec_Drop.calls (k : Nat) (A0 : Option Addr) (c0 : Nat) (l0 : List (S46)) (a1 : ByteArray) (r : List (S46)) (w : World) (hr0 : Kd.C k46 w A0 l0.length l0) (hc0 : l0.length ≤ c0) (h : spec_Drop.f k l0 a1 = some r) :
  Calls Tryd.prog 21 #[.slice A0 l0.length c0, .string a1] w fun e w' => ∃ v0_ : Value, e = .returned (v0_) ∧ Kd.R k46 46 w' w.heap.size (fun _ => True) v0_ r ∧ Below w.heap.size w w' := by
 have hu46 := Tryd.underlying46
 have HR0 := am hr0
 have HC0 := am hc0
 clear hr0 hc0
 have HB := am (Below.refl w.heap.size w)
 unfold spec_Drop.f at h
 have H := h
 clear h
 revert H
 refine ok1 fun t460 A3 H => ?_
 obtain ⟨y461, hy461⟩ : ∃ y_ : List (S46), y_ = (([] : List (S46))) := ⟨_, rfl⟩
 replace H : (spec_Drop.l0 k l0 t460 y461 0) = some r := by first | (rw [hy461]; with_reducible exact H) | (have H2_ := (Option.bind_some _ _).symm.trans H; rw [hy461]; with_reducible exact H2_) | (have H2_ := (Option.bind_some _ _).symm.trans H; with_reducible exact H2_) | with_reducible exact H | (rw [hy461]; exact H) | exact H
 have Ny461 := am hy461
 clear hy461
 have H' := am H
 clear H
 go_enter Tryd.func21, Tryd.ntmps21
 go_wp2_with (first | ((with_reducible refine gw ?_); first | (refine gl 10 Tryd.func36 #[.slice A0 l0.length c0, .string a1] ?_; (with_reducible refine (spec_l2At.calls k _ _ l0 a1 t460 _ ?side1 ?side2 A3.out).mono ?_); (case side1 => exact cc HR0); (case side2 => exact HC0.out); rintro e w' ⟨rfl, ⟨nd, rfl⟩⟩; refine ⟨_, rfl, ?_⟩)) | ((with_reducible refine gate_dst (N := 11) rfl ?_); refine Kd.R_lit k46 _ 46 ?hg (N := 11) ?hd (xs := ([] : List (S46))) (inner := []) (ok := fun _ => True) (okp := fun _ => True) ?hr ?hp (fun _ hk => hk) trivial (Below.refl _ _) (Nat.le_refl _) (by simp) ?_; (case hd => rfl); (case hg => rfl); (case hr => first | (go_simp; done) | (go_simp; rfl)); (case hp => exact (Reps.none _ _)); intro v462 w4 ho5 hb hg_ hnew_; clear hg_ hnew_; (first | rw [← Ny461.out] at ho5 | (simp only [Int.reduceToNat] at ho5; rw [← Ny461.out] at ho5)); have HO463 := am (Kd.R_lower ho5 (below_size bl)); replace HB := am (below_step bl hb); clear hb ho5))
 (try simp only [Act.put, List.setIfInBounds_toArray, List.set_cons_zero, List.set_cons_succ])
 go_loopg [6, 7] k (fun kq v6 v7 w' => ∃ (x6_1 : List (S46)) (x7_1 : Int), v7 = .int .i64 x7_1 ∧ Aside0 (spec_Drop.l0 kq l0 t460 x6_1 x7_1 = some r) ∧ Aside0 (kq ≤ k) ∧ Aside0 (Kd.R k46 46 w' w.heap.size (fun _ => True) v6 x6_1) ∧ Aside0 (Below w.heap.size w w'))
 case atStart => exact ⟨(y461), (0), rs, H', ⟨Nat.le_refl _⟩, ⟨by (with_reducible repeat (first | apply Kd.R_alloc | apply Kd.R_drewN | apply Kd.R_drew)); exact HO463.out⟩, ⟨u21HB⟩⟩
 case round =>
  clear H'
  try clear c2
  try clear p2
  try clear c3
  obtain ⟨x6_1, x7_1, rfl, HA, HK1, HO_6, HB⟩ := hrel
  cases gk with
  | zero => exact absurd HA.out (by simp [spec_Drop.l0])
  | succ k1 =>
   have H := HA.out
   clear HA
   simp only [spec_Drop.l0] at H
   by_cases c6 : x7_1 < (l0.length : Int)
   rotate_left
   ·rw [if_neg c6] at H
    have c6b0 := decide_eq_false c6
    clear c6
    obtain rfl := Option.some.inj H
    go_wp2
    go_ret
    exact ⟨_, rf, by (with_reducible repeat (first | apply Kd.R_alloc | apply Kd.R_drewN | apply Kd.R_drew)); exact HO_6.out, bl⟩
   rw [if_pos c6] at H
   have c6b0 := decide_eq_true c6
   clear c6
   by_cases c7 : x7_1 = t460
   ·rw [if_pos c7] at H
    have c7b0 : (x7_1 == t460) = true := beq_iff_eq.mpr c7
    have c7b1 : (x7_1 != t460) = false := bne_eq_false_iff_eq.mpr c7
    clear c7
    have H' := am H
    clear H
    go_wp2
    go_roundg k1
    case measure => have := HK1.out; omega
    case rel => exact ⟨(x6_1), (wrap64 (x7_1 + 1)), rs, H', ⟨by have := HK1.out; omega⟩, ⟨by (with_reducible repeat (first | apply Kd.R_alloc | apply Kd.R_drewN | apply Kd.R_drew)); exact HO_6.out⟩, ⟨u21HB⟩⟩
   rw [if_neg c7] at H
   have c7b0 : (x7_1 == t460) = false := beq_eq_false_iff_ne.mpr c7
   have c7b1 : (x7_1 != t460) = true := bne_iff_ne.mpr c7
   revert H
   refine ifn fun c8 H => ?_
   have c8b0 := decide_eq_true c8
   clear c8
   revert H
   refine ifn fun c9 H => ?_
   have LMc9 := am c9
   clear c9
   obtain ⟨y465, hy465⟩ : ∃ y_ : List (S46), y_ = (x6_1 ++ [(⟨(rd_T46 l0 x7_1).f0, (rd_T46 l0 x7_1).f1⟩ : S46)]) := ⟨_, rfl⟩
   replace H : (spec_Drop.l0 k1 l0 t460 y465 (wrap64 (x7_1 + 1))) = some r := by first | (rw [hy465]; with_reducible exact H) | (have H2_ := (Option.bind_some _ _).symm.trans H; rw [hy465]; with_reducible exact H2_) | (have H2_ := (Option.bind_some _ _).symm.trans H; with_reducible exact H2_) | with_reducible exact H | (rw [hy465]; exact H) | exact H
   have Ny465 := am hy465
   clear hy465
   have H' := am H
   clear H
   have p464 : 0 ≤ (x7_1 : Int) := od
   have q464 : x7_1 < (l0.length : Int) := od
   obtain ⟨ad464, e464, hx464_0, hx464_1⟩ := at_T46 HR0.out x7_1 p464 q464
   cases e464
   replace hx464_0 := hcw hx464_0
   replace hx464_1 := hcw hx464_1
   replace p464 := eq_true p464
   replace q464 := eq_true q464
   go_wp2_with (first | ((with_reducible refine gate_builtin (b := .append) (xs := #[.tmp 21, .tmp 26]) rfl ?_); at_builtin; refine Kd.R_append k46 (w0 := w) w.heap.size rfl (.tmp 21) (.tmp 26) 24 46 (.agg #[(.string ⟨#[]⟩), (.string ⟨#[]⟩)]) 32 rfl Tryd.underlying24 info46 rfl (by decide) (by omega) u6 x6_1 (⟨(rd_T46 l0 x7_1).f0, (rd_T46 l0 x7_1).f1⟩ : S46) [.string ((rd_T46 l0 x7_1).f0), .string ((rd_T46 l0 x7_1).f1)] (fun _ => True) (fun _ => False) rfl rfl ?aP (fun _ hk => hk.elim) ?aF ?aO ?aB ?aS ?aL ?_; (case aP => exact k46_mkM _ _ _ (⟨(rd_T46 l0 x7_1).f0, (rd_T46 l0 x7_1).f1⟩ : S46)); (case aB => exact bl); (case aF => exact (fun _ _ => trivial)); (case aO => exact (ro HO_6)); (case aS => exact (below_size bl)); (case aL => have := LMc9.out; omega); intro v466 w10 ho hb hg hat; rw [← Ny465.out] at ho; have n0_ := am (hb); have n1_ := am (ho); clear HB; clear HO_6; have HB := n0_; have HO467 := n1_; clear n0_ n1_; clear ho hb hg hat))
   go_roundg k1
   case measure => have := HK1.out; omega
   case rel => exact ⟨(y465), (wrap64 (x7_1 + 1)), rs, H', ⟨by have := HK1.out; omega⟩, ⟨by (with_reducible repeat (first | apply Kd.R_alloc | apply Kd.R_drewN | apply Kd.R_drew)); exact HO467.out⟩, ⟨u21HB⟩⟩

/-! ### spec_DrawAsk: function 5 -/
theorem u5HB {p : Prop} (h : p := by repeat (first | (with_reducible first | exact HB.out | apply below_alloc | apply pw_below_drewN | apply below_drew1 | refine below_set ?_ GE468.out | refine below_set ?_ GE480.out | refine below_set ?_ GE481.out | refine below_set ?_ (IsS57.ge HI485.out)) | exact HB.out)) : p := h
theorem u5HI485 {p : Prop} (h : p := by repeat (first | (with_reducible first | exact HI485.out | apply IsS57.alloc | apply IsS57.drewN | apply IsS57.drew | apply IsS57.set_1 | apply IsS57.set_2 | apply IsS57.far (p := ⟨gb468, _, none⟩) (hne := NB485_468.out) | apply IsS57.far (p := ⟨gb480, _, none⟩) (hne := NB485_480.out) | apply IsS57.far (p := ⟨gb481, _, none⟩) (hne := NB485_481.out)) | exact HI485.out)) : p := h
def spec_DrawAsk.l0 : Nat → Int → ByteArray → List (S46) → ByteArray → Int → List (S46) → ByteArray → Option (Int × ByteArray × (List (S46)) × ByteArray × (List (S46)))
 | 0, _, _, _, _, _, _, _ => none
 | k + 1, x481000, x481001, x481002, x481003, x482000, x482001, x482002 => if (x481002.length : Int) < 8 then ((spec_NumText.f k (x481002.length : Int)).bind fun t489 => (if 1 + t489.size ≤ 9223372036854775807 then (if x481002.length < 4398046511104 then (spec_DrawAsk.l0 k x481000 x481001 (x481002 ++ [(⟨(⟨#[110]⟩ : ByteArray) ++ t489, (⟨#[118]⟩ : ByteArray)⟩ : S46)]) x481003 x482000 x482001 x482002) else (none)) else (none))) else ((spec_Drop.f k x481002 (⟨#[105, 102, 45, 110, 111, 110, 101, 45, 109, 97, 116, 99, 104]⟩ : ByteArray)).bind fun t493 => (some (x481000, x481001, t493, x481003, x482001)))
def spec_DrawAsk.f (k : Nat) (l0 : List Int) : Option (Int × ByteArray × (List (S46)) × ByteArray × (List (S46))) := (spec_l9Draw.f k l0).bind fun bt469 => ((spec_l1New.f k l0).bind fun bt482 => ((spec_l1Once.f bt482.1 bt482.2.1 bt482.2.2 15).bind fun bt486 => (if bt486.1 = true then (spec_DrawAsk.l0 k bt469.1 bt469.2.1 bt469.2.2.1 bt469.2.2.2.1 bt469.2.2.2.2.1 bt469.2.2.2.2.2.1 bt469.2.2.2.2.2.2) else (some (bt469.1, bt469.2.1, bt469.2.2.1, bt469.2.2.2.1, bt469.2.2.2.2.2.1)))))
theorem spec_DrawAsk.mono_l : ∀ k, (∀ y0 y1 y2 y3 y4 y5 y6, LeO (spec_DrawAsk.l0 k y0 y1 y2 y3 y4 y5 y6) (spec_DrawAsk.l0 (k + 1) y0 y1 y2 y3 y4 y5 y6))
 | 0 => fun _ _ _ _ _ _ _ r h => by simp [spec_DrawAsk.l0] at h
 | k + 1 => by
  have ih0 := spec_DrawAsk.mono_l k
  ·intro y0 y1 y2 y3 y4 y5 y6
   unfold spec_DrawAsk.l0
   have m0 := @spec_Drop.mono
   have m1 := @spec_NumText.mono
   have m2 := @spec_l1New.mono
   have m3 := @spec_l9Draw.mono
   exact mo
theorem spec_DrawAsk.mono : ∀ a0 k, LeO (spec_DrawAsk.f k a0) (spec_DrawAsk.f (k + 1) a0) := by
 intro a0 k
 have ih0 := spec_DrawAsk.mono_l k
 unfold spec_DrawAsk.f
 have m0 := @spec_Drop.mono
 have m1 := @spec_NumText.mono
 have m2 := @spec_l1New.mono
 have m3 := @spec_l9Draw.mono
 exact mo
def spec_DrawAsk.T5 : Bool × List (List Nat × List Nat) := (true, [([], []), ([0], [0]), ([], []), ([2], [2]), ([3], [3]), ([4], [4]), ([5], [5]), ([6], [6]), ([7], [7]), ([1, 8, 5], [1, 8]), ([0, 1, 2, 3, 4, 5, 6, 7, 8, 9], []), ([10, 9, 9, 0, 1, 2, 3, 4, 5, 6, 7, 8, 9], [9, 10])])
def spec_DrawAsk.B5 : List Nat := [0, 1, 0, 4, 12, 28, 60, 124, 252, 511, 1023, 2047]
theorem spec_DrawAsk.tab5 : rtab .any (opsOf Tryd.f5 5) = spec_DrawAsk.T5 := by kernel_rfl
theorem spec_DrawAsk.bits5 : waitsOk spec_DrawAsk.T5.2 spec_DrawAsk.B5 = true := by kernel_rfl
set_option maxHeartbeats 8000000 in
set_option maxRecDepth 100000 in
theorem spec_DrawAsk.calls (k : Nat) (A0 : Option Addr) (c0 : Nat) (l0 : List Int) (r1 : Int) (r2 : ByteArray) (r3 : List (S46)) (r4 : ByteArray) (r5 : List (S46)) (w : World) (hr0 : Kd.C (Kd.int .u8) w A0 l0.length l0) (hc0 : l0.length ≤ c0) (h : spec_DrawAsk.f k l0 = some (r1, r2, r3, r4, r5)) :
  Calls Tryd.prog 5 #[.slice A0 l0.length c0] w fun e w' => ∃ v2_ v4_ : Value, e = .returned (.tuple #[.agg #[.int .i64 r1, .string r2, v2_, .string r4], v4_]) ∧ Kd.R k46 46 w' w.heap.size (fun k_ => some k_ ≠ (v4_ : Value).ownBlock) v2_ r3 ∧ Kd.R k46 46 w' w.heap.size (fun k_ => some k_ ≠ (v2_ : Value).ownBlock) v4_ r5 ∧ Below w.heap.size w w' := by
 have hu26 := Tryd.underlying26
 have hu32 := Tryd.underlying32
 have hu46 := Tryd.underlying46
 have HR0 := am hr0
 have HC0 := am hc0
 clear hr0 hc0
 have HB := am (Below.refl w.heap.size w)
 unfold spec_DrawAsk.f at h
 have H := h
 clear h
 revert H
 refine ok7 fun t469 t470 t471 t474 t475 t476 t479 A2 H => ?_
 (try dsimp only at H)
 revert H
 refine ok3 fun t482 t483 t484 A3 H => ?_
 (try dsimp only at H)
 revert H
 refine ok3 fun t486 t487 t488 A4 H => ?_
 (try dsimp only at H)
 have HH5 := am H
 clear H
 go_enter Tryd.func5, Tryd.ntmps5
 go_upto_if 15 with ((with_reducible refine gw ?_); first | (refine bx 2 #[.int .i64 0, .string (⟨#[]⟩ : ByteArray), .slice none 0 0, .string (⟨#[]⟩ : ByteArray)] 26 ?_; intro gb468 hg w6 hbox hb; have BK468 := am (hbox); have GW468 := am (sz hg : w.heap.size ≤ gb468); have GE468 := am (sz hg : w.heap.size ≤ gb468); replace HB := am (below_step bl hb); clear hb hbox hg) | (refine gl 9 Tryd.func17 #[.slice A0 l0.length c0] ?_; (with_reducible refine (spec_l9Draw.calls k _ _ l0 t469 t470 t471 t474 t475 t476 t479 _ ?side1 ?side2 A2.out).mono ?_); (case side1 => exact cb HR0); (case side2 => exact HC0.out); rintro e w7 ⟨v472, v477, rfl, ho0, ho1, hb⟩; refine ⟨_, rfl, ?_⟩; have HO473 := am (Kd.R_lower ho0 (below_size bl)); have HO478 := am (Kd.R_lower ho1 (below_size bl)); replace BK468 := kb BK468 hb; replace HB := am (below_step bl hb); clear hb ho0 ho1) | (refine bx 4 #[.int .i64 0, .string (⟨#[]⟩ : ByteArray), .slice none 0 0, .string (⟨#[]⟩ : ByteArray)] 26 ?_; intro gb480 hg w8 hbox hb; replace HO473 := am (Kd.R_below (ro HO473) hb); replace HO478 := am (Kd.R_below (ro HO478) hb); have BK480 := am (hbox); have GW480 := am (sz hg : w.heap.size ≤ gb480); have GE480 := am (sz hg : w.heap.size ≤ gb480); replace HB := am (below_step bl hb); have NB468_480 := am (nl hg BK468 : gb468 ≠ gb480); have NB480_468 := am (ng hg BK468 : gb480 ≠ gb468); replace BK468 := kb BK468 hb; clear hb hbox hg) | (refine bx 5 #[.int .i64 0, .slice none 0 0, .string (⟨#[]⟩ : ByteArray)] 32 ?_; intro gb481 hg w9 hbox hb; replace HO473 := am (Kd.R_below (ro HO473) hb); replace HO478 := am (Kd.R_below (ro HO478) hb); have BK481 := am (hbox); have GW481 := am (sz hg : w.heap.size ≤ gb481); have GE481 := am (sz hg : w.heap.size ≤ gb481); replace HB := am (below_step bl hb); have NB468_481 := am (nl hg BK468 : gb468 ≠ gb481); have NB481_468 := am (ng hg BK468 : gb481 ≠ gb468); replace BK468 := kb BK468 hb; have NB480_481 := am (nl hg BK480 : gb480 ≠ gb481); have NB481_480 := am (ng hg BK480 : gb481 ≠ gb480); replace BK480 := kb BK480 hb; clear hb hbox hg; have hnb10 := NB480_468.out; have hnc10 := NB468_480.out; have hnb11 := NB480_481.out; have hnc11 := NB481_480.out; obtain ⟨z12_0, y12_0, z12_1, y12_1, z12_2, y12_2, z12_3, y12_3⟩ := cl4 BK480; obtain ⟨Ao13, co13, eo13⟩ := Kd.R_slice HO473.out; subst eo13; have hnb14 := NB481_468.out; have hnc14 := NB468_481.out; obtain ⟨z15_0, y15_0, z15_1, y15_1, z15_2, y15_2⟩ := cl3 BK481; obtain ⟨Ao16, co16, eo16⟩ := Kd.R_slice HO478.out; subst eo16) | (refine gl 13 Tryd.func18 #[.slice A0 l0.length c0] ?_; (with_reducible refine (spec_l1New.calls k _ _ l0 t482 t483 t484 w _ ?side1 ?side2 ?side3 A3.out).mono ?_); (case side1 => exact u5HB); (case side2 => exact HR0.out); (case side3 => exact HC0.out); rintro e w17 ⟨g485, rfl, hi, hb, hb2⟩; refine ⟨_, rfl, ?_⟩; have n0_ := am (Kd.R_below (by (with_reducible repeat (first | apply Kd.R_alloc | apply Kd.R_drewN | apply Kd.R_drew)); exact (Kd.R_mono (rj (Kd.R_types (Kd.R_types HO473.out BK480.out (by decide)) BK481.out (by decide)) (fun _ h_ => h_.1)) (fun _ h_ => h_.1))) hb2); have n1_ := am (Kd.R_below (by (with_reducible repeat (first | apply Kd.R_alloc | apply Kd.R_drewN | apply Kd.R_drew)); exact (Kd.R_mono (rj (Kd.R_types (Kd.R_types HO478.out BK480.out (by decide)) BK481.out (by decide)) (fun _ h_ => h_.1)) (fun _ h_ => h_.1))) hb2); have n2_ := am (blk_below (g := gb468) (o := .cells #[.int .i64 0, .string (⟨#[]⟩ : ByteArray), .slice none 0 0, .string (⟨#[]⟩ : ByteArray)] 26 (0, 0)) (bg2 BK468 NB468_481 NB468_480) hb2); have n3_ := am (blk_below (g := gb480) (o := .cells #[.int .i64 t469, .string t470, .slice Ao13 t471.length co13, .string t474] 26 (0, 0)) (pt1 BK480 NB480_481) hb2); have n4_ := am (blk_below (g := gb481) (o := .cells #[.int .i64 t475, .slice Ao16 t476.length co16, .string t479] 32 (0, 0)) (pt1 BK481 NB481_480) hb2); have n5_ := am (hb); have n6_ := am (hi); have n7_ := am (IsS57.ne_blk hi (blk_below (g := gb468) (o := .cells #[.int .i64 0, .string (⟨#[]⟩ : ByteArray), .slice none 0 0, .string (⟨#[]⟩ : ByteArray)] 26 (0, 0)) (bg2 BK468 NB468_481 NB468_480) hb2) (by decide)); have n8_ := am (Ne.symm (IsS57.ne_blk hi (blk_below (g := gb468) (o := .cells #[.int .i64 0, .string (⟨#[]⟩ : ByteArray), .slice none 0 0, .string (⟨#[]⟩ : ByteArray)] 26 (0, 0)) (bg2 BK468 NB468_481 NB468_480) hb2) (by decide))); have n9_ := am (IsS57.ne_blk hi (blk_below (g := gb480) (o := .cells #[.int .i64 t469, .string t470, .slice Ao13 t471.length co13, .string t474] 26 (0, 0)) (pt1 BK480 NB480_481) hb2) (by decide)); have n10_ := am (Ne.symm (IsS57.ne_blk hi (blk_below (g := gb480) (o := .cells #[.int .i64 t469, .string t470, .slice Ao13 t471.length co13, .string t474] 26 (0, 0)) (pt1 BK480 NB480_481) hb2) (by decide))); have n11_ := am (IsS57.ne_blk hi (blk_below (g := gb481) (o := .cells #[.int .i64 t475, .slice Ao16 t476.length co16, .string t479] 32 (0, 0)) (pt1 BK481 NB481_480) hb2) (by decide)); have n12_ := am (Ne.symm (IsS57.ne_blk hi (blk_below (g := gb481) (o := .cells #[.int .i64 t475, .slice Ao16 t476.length co16, .string t479] 32 (0, 0)) (pt1 BK481 NB481_480) hb2) (by decide))); clear HO473; clear HO478; clear BK468; clear BK480; clear BK481; clear HB; have HO473 := n0_; have HO478 := n1_; have BK468 := n2_; have BK480 := n3_; have BK481 := n4_; have HB := n5_; have HI485 := n6_; have NB485_468 := n7_; have NB468_485 := n8_; have NB485_480 := n9_; have NB480_485 := n10_; have NB485_481 := n11_; have NB481_485 := n12_; clear n0_ n1_ n2_ n3_ n4_ n5_ n6_ n7_ n8_ n9_ n10_ n11_ n12_; clear hb hb2 hi) | (refine gl 15 Tryd.func19 #[.pointer (some ⟨g485, 0, none⟩), .int .i64 15] ?_; (with_reducible refine (spec_l1Once.calls g485 t482 t483 t484 15 t486 t487 t488 w _ ?side1 ?side2 A4.out).mono ?_); (case side1 => exact u5HI485); (case side2 => exact u5HB); rintro e w18 ⟨rfl, hi, hb, hk⟩; refine ⟨_, rfl, ?_⟩; replace BK468 := kp BK468 hk NB468_485; replace HO473 := am (Kd.R_mono (Kd.R_keep (IsS57.apart (show IsS57 w _ g485 t482 t483 t484 from u5HI485) (ro HO473) (by decide)) hk (fun _ h => h.2)) (fun _ h => h.1)); replace HO478 := am (Kd.R_mono (Kd.R_keep (IsS57.apart (show IsS57 w _ g485 t482 t483 t484 from u5HI485) (ro HO478) (by decide)) hk (fun _ h => h.2)) (fun _ h => h.1)); replace BK480 := kp BK480 hk NB480_485; replace BK481 := kp BK481 hk NB481_485; replace HB := am (hb); replace HI485 := am (hi); clear hb hk hi))
 have H := HH5.out
 clear HH5
 by_cases c19 : t486 = true
 rotate_left
 ·replace c19 := Bool.eq_false_iff.mpr c19
  subst c19
  rw [if_neg (show ¬ (false = true) by decide)] at H
  simp only [Option.some.injEq, Prod.mk.injEq] at H
  obtain ⟨rfl, rfl, rfl, rfl, rfl⟩ := H
  try go_wp2
  replace HO473 := am (Kd.R_drew HO473.out)
  replace HO478 := am (Kd.R_drew HO478.out)
  replace BK468 := am (blk_drew BK468.out)
  replace BK480 := am (blk_drew BK480.out)
  replace BK481 := am (blk_drew BK481.out)
  replace HI485 := am (IsS57.drew HI485.out)
  replace HB := am (below_drew1 HB.out)
  refine start_ (n := 5) (S := fun w' => w'.cell? ⟨gb480, 0, none⟩ = some (.int .i64 t469) ∧ w'.cell? ⟨gb480, 1, none⟩ = some (.string t470) ∧ w'.cell? ⟨gb480, 2, none⟩ = some (.slice Ao13 t471.length co13) ∧ w'.cell? ⟨gb480, 3, none⟩ = some (.string t474) ∧ w'.cell? ⟨gb481, 0, none⟩ = some (.int .i64 t475) ∧ w'.cell? ⟨gb481, 1, none⟩ = some (.slice Ao16 t476.length co16) ∧ w'.cell? ⟨gb481, 2, none⟩ = some (.string t479)) (ds := []) ⟨br true [0, 5]⟩ (by kernel_rfl) rfl (by kernel_rfl) ⟨bc BK480, bc BK480, bc BK480, bc BK480, bc BK481, bc BK481, bc BK481⟩ (fun hHeld => ?_)
  generalize w18.drew = w47 at HO473 HO478 BK468 BK480 BK481 HI485 HB hHeld ⊢
  refine pu 1 36 [0, 1, 1, 3] ?_
  refine tk 0 35 [2, 3] ?_
  refine tk 2 37 [3, 2] ?_
  refine one_ (i := 3) (N := none) #[true, true, true, true, false] rfl rfl (by kernel_rfl) (by decide) (fun K hK => ?_)
  have hs48 : w47.cell? ⟨gb468, 0, none⟩ = some (.int .i64 0) := bc BK468
  have hfs48 := blk_frozen BK468.out 0
  have hns48_1 := NB480_468.out
  have hns48_2 := NB481_468.out
  have hms48_1 := NB468_480.out
  have hms48_2 := NB468_481.out
  have hs49 : w47.cell? ⟨gb468, 1, none⟩ = some (.string (⟨#[]⟩ : ByteArray)) := bc BK468
  have hfs49 := blk_frozen BK468.out 1
  have hns49_1 := NB480_468.out
  have hns49_2 := NB481_468.out
  have hms49_1 := NB468_480.out
  have hms49_2 := NB468_481.out
  have hs50 : w47.cell? ⟨gb468, 2, none⟩ = some (.slice none 0 0) := bc BK468
  have hfs50 := blk_frozen BK468.out 2
  have hns50_1 := NB480_468.out
  have hns50_2 := NB481_468.out
  have hms50_1 := NB468_480.out
  have hms50_2 := NB468_481.out
  have hs51 : w47.cell? ⟨gb468, 3, none⟩ = some (.string (⟨#[]⟩ : ByteArray)) := bc BK468
  have hfs51 := blk_frozen BK468.out 3
  have hns51_1 := NB480_468.out
  have hns51_2 := NB481_468.out
  have hms51_1 := NB468_480.out
  have hms51_2 := NB468_481.out
  refine skip_ (w1 := ?_) (by rfl) rfl ?_ ?_
  rotate_left
  ·go_simp
   rfl
  refine hK.out _ _ ⟨((cell_far (p := ⟨gb468, _, none⟩) NB480_468.out _).trans (((cell_far (p := ⟨gb468, _, none⟩) NB480_468.out _).trans (((cell_far (p := ⟨gb468, _, none⟩) NB480_468.out _).trans (((cell_far (p := ⟨gb468, _, none⟩) NB480_468.out _).trans (hHeld.1)))))))), ((cell_far (p := ⟨gb468, _, none⟩) NB480_468.out _).trans (((cell_far (p := ⟨gb468, _, none⟩) NB480_468.out _).trans (((cell_far (p := ⟨gb468, _, none⟩) NB480_468.out _).trans (((cell_far (p := ⟨gb468, _, none⟩) NB480_468.out _).trans (hHeld.2.1)))))))), ((cell_far (p := ⟨gb468, _, none⟩) NB480_468.out _).trans (((cell_far (p := ⟨gb468, _, none⟩) NB480_468.out _).trans (((cell_far (p := ⟨gb468, _, none⟩) NB480_468.out _).trans (((cell_far (p := ⟨gb468, _, none⟩) NB480_468.out _).trans (hHeld.2.2.1)))))))), ((cell_far (p := ⟨gb468, _, none⟩) NB480_468.out _).trans (((cell_far (p := ⟨gb468, _, none⟩) NB480_468.out _).trans (((cell_far (p := ⟨gb468, _, none⟩) NB480_468.out _).trans (((cell_far (p := ⟨gb468, _, none⟩) NB480_468.out _).trans (hHeld.2.2.2.1)))))))), ((cell_far (p := ⟨gb468, _, none⟩) NB481_468.out _).trans (((cell_far (p := ⟨gb468, _, none⟩) NB481_468.out _).trans (((cell_far (p := ⟨gb468, _, none⟩) NB481_468.out _).trans (((cell_far (p := ⟨gb468, _, none⟩) NB481_468.out _).trans (hHeld.2.2.2.2.1)))))))), ((cell_far (p := ⟨gb468, _, none⟩) NB481_468.out _).trans (((cell_far (p := ⟨gb468, _, none⟩) NB481_468.out _).trans (((cell_far (p := ⟨gb468, _, none⟩) NB481_468.out _).trans (((cell_far (p := ⟨gb468, _, none⟩) NB481_468.out _).trans (hHeld.2.2.2.2.2.1)))))))), ((cell_far (p := ⟨gb468, _, none⟩) NB481_468.out _).trans (((cell_far (p := ⟨gb468, _, none⟩) NB481_468.out _).trans (((cell_far (p := ⟨gb468, _, none⟩) NB481_468.out _).trans (((cell_far (p := ⟨gb468, _, none⟩) NB481_468.out _).trans (hHeld.2.2.2.2.2.2))))))))⟩ (fun hHeld => ?_)
  clear hK K
  refine pu 4 3 [5] ?_
  refine done_ (by kernel_rfl) ?_
  try go_wp2
  refine bodyPost_ret (results_ct rfl _ _ gb468 26 #[.int .i64 t469, .string t470, .slice Ao13 t471.length co13, .string t474] (0, 0) _ rfl (pt0 BK468) Tryd.underlying26 rfl (by kernel_rfl)) rfl ?_
  exact ⟨_, _, rf, rj (Kd.R_types HO473.out BK468.out (by decide)) (fun _ hk => hk.1), rj (Kd.R_types HO478.out BK468.out (by decide)) (fun _ hk => hk.1), u5HB⟩
 subst c19
 rw [if_pos rfl] at H
 have H' := am H
 clear H
 go_wp2
 (try simp only [Act.put, List.setIfInBounds_toArray, List.set_cons_zero, List.set_cons_succ])
 go_loopg [] k (fun kq w' => ∃ (x481002_1 : List (S46)) (u481002 : Value), Aside0 (spec_DrawAsk.l0 kq t469 t470 x481002_1 t474 t475 t476 t479 = some (r1, r2, r3, r4, r5)) ∧ Aside0 (kq ≤ k) ∧ Aside0 (Kd.R k46 46 w' w.heap.size (fun k_ => some k_ ≠ ((.slice Ao16 t476.length co16) : Value).ownBlock) u481002 x481002_1) ∧ Aside0 (Kd.R k46 46 w' w.heap.size (fun k_ => some k_ ≠ (u481002 : Value).ownBlock) (.slice Ao16 t476.length co16) t476) ∧ Aside0 (w'.heap[gb468]? = some (.cells #[.int .i64 0, .string (⟨#[]⟩ : ByteArray), (.slice none 0 0), .string (⟨#[]⟩ : ByteArray)] 26 (0, 0))) ∧ Aside0 (w'.heap[gb480]? = some (.cells #[.int .i64 t469, .string t470, u481002, .string t474] 26 (0, 0))) ∧ Aside0 (w'.heap[gb481]? = some (.cells #[.int .i64 t475, (.slice Ao16 t476.length co16), .string t479] 32 (0, 0))) ∧ Aside0 (Below w.heap.size w w'))
 case atStart => exact ⟨(t471), (.slice Ao13 t471.length co13), H', ⟨Nat.le_refl _⟩, ⟨by (with_reducible repeat (first | apply Kd.R_alloc | apply Kd.R_drewN | apply Kd.R_drew)); exact HO473.out⟩, ⟨by (with_reducible repeat (first | apply Kd.R_alloc | apply Kd.R_drewN | apply Kd.R_drew)); exact HO478.out⟩, ⟨by (with_reducible repeat (first | refine blk_drewN ?_ _ | refine blk_drew ?_ | refine blk_alloc ?_ _)); exact BK468.out⟩, ⟨by (with_reducible repeat (first | refine blk_drewN ?_ _ | refine blk_drew ?_ | refine blk_alloc ?_ _)); exact BK480.out⟩, ⟨by (with_reducible repeat (first | refine blk_drewN ?_ _ | refine blk_drew ?_ | refine blk_alloc ?_ _)); exact BK481.out⟩, ⟨u5HB⟩⟩
 case round =>
  clear H'
  try clear c1
  try clear p2
  try clear c5
  try clear c10
  try clear c11
  try clear c14
  try clear c17
  try clear c18
  try clear c19
  try clear z12_0
  try clear z12_1
  try clear z12_2
  try clear z12_3
  try clear z15_0
  try clear z15_1
  try clear z15_2
  try clear y12_0
  try clear y12_1
  try clear y12_2
  try clear y12_3
  try clear y15_0
  try clear y15_1
  try clear y15_2
  obtain ⟨x481002_1, u481002, HA, HK1, HO_481002, HO_482001, BK468, BK480, BK481, HB⟩ := hrel
  cases gk with
  | zero => exact absurd HA.out (by simp [spec_DrawAsk.l0])
  | succ k1 =>
   have H := HA.out
   clear HA
   simp only [spec_DrawAsk.l0] at H
   by_cases c20 : (x481002_1.length : Int) < 8
   ·rw [if_pos c20] at H
    have c20b0 := decide_eq_true c20
    have c20b1 : decide (x481002_1.length < 8) = true := decide_eq_true (by omega)
    clear c20
    (first | rw [c20b0] | (simp only [i64_w, i32_w]; rw [c20b0]) | skip)
    revert H
    refine ok1 fun t489 A21 H => ?_
    revert H
    refine ifn fun c22 H => ?_
    have c22b0 := eq_true c22
    have c22b1 := decide_eq_true c22
    try have c22b2 := eq_false (Nat.not_lt.2 c22)
    revert H
    refine ifn fun c23 H => ?_
    have LMc23 := am c23
    clear c23
    obtain ⟨y490, hy490⟩ : ∃ y_ : List (S46), y_ = (x481002_1 ++ [(⟨(⟨#[110]⟩ : ByteArray) ++ t489, (⟨#[118]⟩ : ByteArray)⟩ : S46)]) := ⟨_, rfl⟩
    replace H : (spec_DrawAsk.l0 k1 t469 t470 y490 t474 t475 t476 t479) = some (r1, r2, r3, r4, r5) := by first | (rw [hy490]; with_reducible exact H) | (have H2_ := (Option.bind_some _ _).symm.trans H; rw [hy490]; with_reducible exact H2_) | (have H2_ := (Option.bind_some _ _).symm.trans H; with_reducible exact H2_) | with_reducible exact H | (rw [hy490]; exact H) | exact H
    have Ny490 := am hy490
    clear hy490
    have H' := am H
    clear H
    have hnb24 := NB480_468.out
    have hnc24 := NB468_480.out
    have hnb25 := NB480_481.out
    have hnc25 := NB481_480.out
    obtain ⟨z26_0, y26_0, z26_1, y26_1, z26_2, y26_2, z26_3, y26_3⟩ := cl4 BK480
    obtain ⟨Ao27, co27, eo27⟩ := Kd.R_slice HO_481002.out
    subst eo27
    try go_wp2
    replace HO_481002 := am (Kd.R_drew HO_481002.out)
    replace HO_482001 := am (Kd.R_drew HO_482001.out)
    replace BK468 := am (blk_drew BK468.out)
    replace BK480 := am (blk_drew BK480.out)
    replace BK481 := am (blk_drew BK481.out)
    replace HB := am (below_drew1 HB.out)
    refine start_ (n := 12) (S := fun w' => w'.cell? ⟨gb480, 0, none⟩ = some (.int .i64 t469) ∧ w'.cell? ⟨gb480, 1, none⟩ = some (.string t470) ∧ w'.cell? ⟨gb480, 2, none⟩ = some (.slice Ao27 x481002_1.length co27) ∧ w'.cell? ⟨gb480, 3, none⟩ = some (.string t474)) (ds := [11]) ⟨br true [0, 12]⟩ (by kernel_rfl) rfl (by kernel_rfl) ⟨bc BK480, bc BK480, bc BK480, bc BK480⟩ (fun hHeld => ?_); refine with_tabW spec_DrawAsk.tab5 spec_DrawAsk.bits5 (fun HT_ HW_ => ?_)
    generalize wr.drew = w28 at HO_481002 HO_482001 BK468 BK480 BK481 HB hHeld ⊢
    refine pu 0 20 [1, 11] ?_
    refine pu 2 22 [1, 1, 1, 9] ?_
    refine tk 1 21 [3, 9] ?_
    refine tk 3 23 [4, 8] ?_
    refine pu 4 24 [5, 7] ?_
    refine og 5 25 [6, 6] Tryd.func20 #[.int .i64 (x481002_1.length : Int)] (fun K hK => ?_)
    with_reducible refine (spec_NumText.calls k1 (x481002_1.length : Int) t489 _ A21.out).mono ?_
    rintro e w29 ⟨rfl, hb⟩
    refine ⟨_, rfl, ?_⟩
    replace HO_481002 := kr HO_481002 hb
    replace HO_482001 := kr HO_482001 hb
    replace BK468 := kb BK468 hb
    replace BK480 := kb BK480 hb
    replace BK481 := kb BK481 hb
    replace HB := am (below_step bl hb)
    clear hb
    refine hK.out _ _ ⟨bc BK480, bc BK480, bc BK480, bc BK480⟩ (fun hHeld => ?_)
    clear hK K
    refine nm 25 ?_
    refine pu 6 26 [7, 5] ?_
    refine pu 7 27 [8, 4] ?_
    refine one_ (i := 8) (N := some 28) #[true, true, true, true, true, true, true, true, true, false, false, false] rfl rfl (one_of HT_.out (by kernel_rfl)) (by decide) (fun K hK => ?_)
    refine value_ (w1 := ?_) (v := ?_) (by rfl) rfl ?_ ?_
    rotate_left 2
    ·go_simp
     constructor
     ·rfl
     ·rfl
    refine hK.out _ _ ⟨(blk_cell (blk_alloc BK480.out _) 0).trans rfl, (blk_cell (blk_alloc BK480.out _) 1).trans rfl, (blk_cell (blk_alloc BK480.out _) 2).trans rfl, (blk_cell (blk_alloc BK480.out _) 3).trans rfl⟩ (fun hHeld => ?_)
    clear hK K
    refine nm 28 ?_
    refine one_ (i := 9) (N := some 29) #[true, true, true, true, true, true, true, true, true, true, false, false] rfl rfl (one_of HT_.out (by kernel_rfl)) (by decide) (fun K hK => ?_)
    refine Kd.R_append_step k46 (w0 := w) w.heap.size (by rfl) (.tmp 21) (.tmp 28) 24 46 (.agg #[(.string ⟨#[]⟩), (.string ⟨#[]⟩)]) 32 rfl Tryd.underlying24 info46 rfl (by decide) (by omega) (.slice Ao27 x481002_1.length co27) x481002_1 (⟨(⟨#[110]⟩ : ByteArray) ++ t489, (⟨#[118]⟩ : ByteArray)⟩ : S46) [.string ((⟨#[110]⟩ : ByteArray) ++ t489), .string (⟨#[118]⟩ : ByteArray)] (fun k_ => some k_ ≠ (.slice Ao16 t476.length co16 : Value).ownBlock) (fun _ => False) rfl rfl ?aP (fun _ hk => hk.elim) ?aF ?aO ?aB ?aS ?aL ?_
    (case aP => exact k46_mkM _ _ _ (⟨(⟨#[110]⟩ : ByteArray) ++ t489, (⟨#[118]⟩ : ByteArray)⟩ : S46))
    (case aB => exact bl)
    (case aF => exact (fun k_ hk => Kd.fresh' (Kd.R_lt (ro HO_482001)) k_ hk))
    (case aO => exact (ro HO_481002))
    (case aS => exact (below_size bl))
    (case aL => have := LMc23.out; omega)
    intro v491 w30 ho hb hg hat
    rw [← Ny490.out] at ho
    have n0_ := am (Kd.R_after (ok := (fun _ => True)) (by (with_reducible repeat (first | apply Kd.R_alloc | apply Kd.R_drewN | apply Kd.R_drew)); exact Kd.R_mono HO_482001.out (fun _ hk => ⟨trivial, hk⟩)) hg hat)
    have n1_ := am (blk_grown (g := gb468) (o := .cells #[.int .i64 0, .string (⟨#[]⟩ : ByteArray), .slice none 0 0, .string (⟨#[]⟩ : ByteArray)] 26 (0, 0)) (bk BK468) hg (Kd.R_ne HO_481002.out BK468.out (by decide)))
    have n2_ := am (blk_grown (g := gb480) (o := .cells #[.int .i64 t469, .string t470, .slice Ao27 x481002_1.length co27, .string t474] 26 (0, 0)) (bk BK480) hg (Kd.R_ne HO_481002.out BK480.out (by decide)))
    have n3_ := am (blk_grown (g := gb481) (o := .cells #[.int .i64 t475, .slice Ao16 t476.length co16, .string t479] 32 (0, 0)) (bk BK481) hg (Kd.R_ne HO_481002.out BK481.out (by decide)))
    have n4_ := am (hb)
    have n5_ := am (ho)
    clear HO_482001
    clear BK468
    clear BK480
    clear BK481
    clear HB
    clear HO_481002
    have HO_482001 := n0_
    have BK468 := n1_
    have BK480 := n2_
    have BK481 := n3_
    have HB := n4_
    have HO492 := n5_
    clear n0_ n1_ n2_ n3_ n4_ n5_
    clear ho hb hg hat
    obtain ⟨Ao31, co31, eo31⟩ := Kd.R_slice HO492.out
    (first | subst eo31 | (injection eo31 with f1_ f2_ f3_; have f4_ := f1_.symm; have f5_ := f3_.symm; clear f1_ f2_ f3_; subst f4_; subst f5_))
    refine hK.out _ _ ⟨bc BK480, bc BK480, bc BK480, bc BK480⟩ (fun hHeld => ?_)
    clear hK K
    refine nm 29 ?_
    refine pu 10 30 [11, 1] ?_
    refine last_ (i := 11) (N := none) #[true, true, true, true, true, true, true, true, true, true, true, true] rfl rfl (one_of HT_.out (by kernel_rfl)) (by decide) (fun K hK => ?_)
    have hs32 : w30.cell? ⟨gb480, 2, none⟩ = some (.slice Ao27 x481002_1.length co27) := bc BK480
    have hfs32 := blk_frozen BK480.out 2
    have hns32_0 := NB468_480.out
    have hns32_2 := NB481_480.out
    have hms32_0 := NB480_468.out
    have hms32_2 := NB480_481.out
    refine skip_ (w1 := ?_) (by rfl) rfl ?_ ?_
    rotate_left
    ·go_simp
     rfl
    refine hK.out _ _ ?_
    clear hK K
    refine done_ (done_of HT_.out (by kernel_rfl)) ?_
    try go_wp2
    go_roundg k1
    case measure => have := HK1.out; omega
    case rel => exact ⟨(y490), (.slice Ao31 y490.length co31), H', ⟨by have := HK1.out; omega⟩, ⟨rj (Kd.R_types HO492.out BK480.out (by decide)) (fun _ hk => hk.1)⟩, ⟨rj (Kd.R_types HO_482001.out BK480.out (by decide)) (fun _ hk => hk.1.2)⟩, ⟨by (with_reducible repeat (first | refine blk_drewN ?_ _ | refine blk_drew ?_ | refine blk_alloc ?_ _)); refine blk_far ?_ NB468_480.out _; (with_reducible repeat (first | refine blk_drewN ?_ _ | refine blk_drew ?_ | refine blk_alloc ?_ _)); exact BK468.out⟩, ⟨pt0 BK480⟩, ⟨by (with_reducible repeat (first | refine blk_drewN ?_ _ | refine blk_drew ?_ | refine blk_alloc ?_ _)); refine blk_far ?_ NB481_480.out _; (with_reducible repeat (first | refine blk_drewN ?_ _ | refine blk_drew ?_ | refine blk_alloc ?_ _)); exact BK481.out⟩, ⟨u5HB⟩⟩
   rw [if_neg c20] at H
   have c20b0 := decide_eq_false c20
   have c20b1 : decide (x481002_1.length < 8) = false := decide_eq_false (by omega)
   clear c20
   (first | rw [c20b0] | (simp only [i64_w, i32_w]; rw [c20b0]) | skip)
   revert H
   refine ok1 fun t493 A33 H => ?_
   simp only [Option.some.injEq, Prod.mk.injEq] at H
   obtain ⟨rfl, rfl, rfl, rfl, rfl⟩ := H
   have hnb34 := NB480_468.out
   have hnc34 := NB468_480.out
   have hnb35 := NB480_481.out
   have hnc35 := NB481_480.out
   obtain ⟨z36_0, y36_0, z36_1, y36_1, z36_2, y36_2, z36_3, y36_3⟩ := cl4 BK480
   obtain ⟨Ao37, co37, eo37⟩ := Kd.R_slice HO_481002.out
   subst eo37
   try go_wp2_with ((with_reducible refine gw ?_); first | (refine gl 33 Tryd.func21 #[.slice Ao37 x481002_1.length co37, .string (⟨#[105, 102, 45, 110, 111, 110, 101, 45, 109, 97, 116, 99, 104]⟩ : ByteArray)] ?_; (with_reducible refine (spec_Drop.calls k1 _ _ x481002_1 (⟨#[105, 102, 45, 110, 111, 110, 101, 45, 109, 97, 116, 99, 104]⟩ : ByteArray) t493 _ ?side1 ?side2 A33.out).mono ?_); (case side1 => exact rc HO_481002); (case side2 => exact (Kd.R_reads' HO_481002.out).2.1); rintro e w38 ⟨v494, rfl, ho0, hb⟩; refine ⟨_, rfl, ?_⟩; have HO495 := am (Kd.R_lower (Kd.R_new' (Kd.R_new' ho0 (Kd.R_lt (ro HO_481002))) (Kd.R_lt (ro HO_482001))) (below_size bl)); replace HO_481002 := am (Kd.R_elder' (ro HO_481002) (Kd.R_base ho0) hb); replace HO_482001 := am (Kd.R_elder' (ro HO_482001) (Kd.R_base ho0) hb); replace BK468 := kb BK468 hb; replace BK480 := kb BK480 hb; replace BK481 := kb BK481 hb; replace HB := am (below_step bl hb); clear hb ho0; obtain ⟨Ao39, co39, eo39⟩ := Kd.R_slice HO495.out; subst eo39; obtain ⟨z40_0, y40_0, z40_1, y40_1, z40_2, y40_2, z40_3, y40_3⟩ := cl4 BK480))
   have n0_ : Aside0 (Kd.R k46 46 (w38.setCell ⟨gb480, 2, none⟩ (.slice Ao39 t493.length co39)) w.heap.size (fun k_ => some k_ ≠ (.slice Ao16 t476.length co16 : Value).ownBlock ∧ some k_ ≠ (.slice Ao39 t493.length co39 : Value).ownBlock) (.slice Ao37 x481002_1.length co37) x481002_1) := ⟨rj (Kd.R_types HO_481002.out BK480.out (by decide)) (fun _ hk => ⟨hk.1.1, hk.1.2⟩)⟩
   have n1_ : Aside0 (Kd.R k46 46 (w38.setCell ⟨gb480, 2, none⟩ (.slice Ao39 t493.length co39)) w.heap.size (fun k_ => some k_ ≠ (.slice Ao37 x481002_1.length co37 : Value).ownBlock ∧ some k_ ≠ (.slice Ao39 t493.length co39 : Value).ownBlock) (.slice Ao16 t476.length co16) t476) := ⟨rj (Kd.R_types HO_482001.out BK480.out (by decide)) (fun _ hk => ⟨hk.1.1, hk.1.2⟩)⟩
   have n2_ : Aside0 (Kd.R k46 46 (w38.setCell ⟨gb480, 2, none⟩ (.slice Ao39 t493.length co39)) w.heap.size (fun k_ => some k_ ≠ (.slice Ao37 x481002_1.length co37 : Value).ownBlock ∧ some k_ ≠ (.slice Ao16 t476.length co16 : Value).ownBlock) (.slice Ao39 t493.length co39) t493) := ⟨rj (Kd.R_types HO495.out BK480.out (by decide)) (fun _ hk => ⟨hk.1.1.2, hk.1.2⟩)⟩
   have n3_ : Aside0 ((w38.setCell ⟨gb480, 2, none⟩ (.slice Ao39 t493.length co39)).heap[gb468]? = some (.cells #[.int .i64 0, .string (⟨#[]⟩ : ByteArray), .slice none 0 0, .string (⟨#[]⟩ : ByteArray)] 26 (0, 0))) := ⟨by (with_reducible repeat (first | refine blk_drewN ?_ _ | refine blk_drew ?_ | refine blk_alloc ?_ _)); refine blk_far ?_ NB468_480.out _; (with_reducible repeat (first | refine blk_drewN ?_ _ | refine blk_drew ?_ | refine blk_alloc ?_ _)); exact BK468.out⟩
   have n4_ : Aside0 ((w38.setCell ⟨gb480, 2, none⟩ (.slice Ao39 t493.length co39)).heap[gb480]? = some (.cells #[.int .i64 t469, .string t470, .slice Ao39 t493.length co39, .string t474] 26 (0, 0))) := ⟨pt0 BK480⟩
   have n5_ : Aside0 ((w38.setCell ⟨gb480, 2, none⟩ (.slice Ao39 t493.length co39)).heap[gb481]? = some (.cells #[.int .i64 t475, .slice Ao16 t476.length co16, .string t479] 32 (0, 0))) := ⟨by (with_reducible repeat (first | refine blk_drewN ?_ _ | refine blk_drew ?_ | refine blk_alloc ?_ _)); refine blk_far ?_ NB481_480.out _; (with_reducible repeat (first | refine blk_drewN ?_ _ | refine blk_drew ?_ | refine blk_alloc ?_ _)); exact BK481.out⟩
   have n6_ : Aside0 (Below w.heap.size w (w38.setCell ⟨gb480, 2, none⟩ (.slice Ao39 t493.length co39))) := ⟨u5HB⟩
   (try clear HO_481002)
   (try clear HO_482001)
   (try clear HO495)
   (try clear BK468)
   (try clear BK480)
   (try clear BK481)
   (try clear HB)
   generalize (w38.setCell ⟨gb480, 2, none⟩ (.slice Ao39 t493.length co39)) = w41 at n0_ n1_ n2_ n3_ n4_ n5_ n6_ ⊢
   have HO_481002 := n0_
   have HO_482001 := n1_
   have HO495 := n2_
   have BK468 := n3_
   have BK480 := n4_
   have BK481 := n5_
   have HB := n6_
   clear n0_ n1_ n2_ n3_ n4_ n5_ n6_
   replace HO_481002 := am (Kd.R_drew HO_481002.out)
   replace HO_482001 := am (Kd.R_drew HO_482001.out)
   replace HO495 := am (Kd.R_drew HO495.out)
   replace BK468 := am (blk_drew BK468.out)
   replace BK480 := am (blk_drew BK480.out)
   replace BK481 := am (blk_drew BK481.out)
   replace HB := am (below_drew1 HB.out)
   refine start_ (n := 5) (S := fun w' => w'.cell? ⟨gb480, 0, none⟩ = some (.int .i64 t469) ∧ w'.cell? ⟨gb480, 1, none⟩ = some (.string t470) ∧ w'.cell? ⟨gb480, 2, none⟩ = some (.slice Ao39 t493.length co39) ∧ w'.cell? ⟨gb480, 3, none⟩ = some (.string t474) ∧ w'.cell? ⟨gb481, 0, none⟩ = some (.int .i64 t475) ∧ w'.cell? ⟨gb481, 1, none⟩ = some (.slice Ao16 t476.length co16) ∧ w'.cell? ⟨gb481, 2, none⟩ = some (.string t479)) (ds := []) ⟨br true [0, 5]⟩ (by kernel_rfl) rfl (by kernel_rfl) ⟨bc BK480, bc BK480, bc BK480, bc BK480, bc BK481, bc BK481, bc BK481⟩ (fun hHeld => ?_)
   generalize w41.drew = w42 at HO_481002 HO_482001 HO495 BK468 BK480 BK481 HB hHeld ⊢
   refine pu 1 36 [0, 1, 1, 3] ?_
   refine tk 0 35 [2, 3] ?_
   refine tk 2 37 [3, 2] ?_
   refine one_ (i := 3) (N := none) #[true, true, true, true, false] rfl rfl (by kernel_rfl) (by decide) (fun K hK => ?_)
   have hs43 : w42.cell? ⟨gb468, 0, none⟩ = some (.int .i64 0) := bc BK468
   have hfs43 := blk_frozen BK468.out 0
   have hns43_1 := NB480_468.out
   have hns43_2 := NB481_468.out
   have hms43_1 := NB468_480.out
   have hms43_2 := NB468_481.out
   have hs44 : w42.cell? ⟨gb468, 1, none⟩ = some (.string (⟨#[]⟩ : ByteArray)) := bc BK468
   have hfs44 := blk_frozen BK468.out 1
   have hns44_1 := NB480_468.out
   have hns44_2 := NB481_468.out
   have hms44_1 := NB468_480.out
   have hms44_2 := NB468_481.out
   have hs45 : w42.cell? ⟨gb468, 2, none⟩ = some (.slice none 0 0) := bc BK468
   have hfs45 := blk_frozen BK468.out 2
   have hns45_1 := NB480_468.out
   have hns45_2 := NB481_468.out
   have hms45_1 := NB468_480.out
   have hms45_2 := NB468_481.out
   have hs46 : w42.cell? ⟨gb468, 3, none⟩ = some (.string (⟨#[]⟩ : ByteArray)) := bc BK468
   have hfs46 := blk_frozen BK468.out 3
   have hns46_1 := NB480_468.out
   have hns46_2 := NB481_468.out
   have hms46_1 := NB468_480.out
   have hms46_2 := NB468_481.out
   refine skip_ (w1 := ?_) (by rfl) rfl ?_ ?_
   rotate_left
   ·go_simp
    rfl
   refine hK.out _ _ ⟨((cell_far (p := ⟨gb468, _, none⟩) NB480_468.out _).trans (((cell_far (p := ⟨gb468, _, none⟩) NB480_468.out _).trans (((cell_far (p := ⟨gb468, _, none⟩) NB480_468.out _).trans (((cell_far (p := ⟨gb468, _, none⟩) NB480_468.out _).trans (hHeld.1)))))))), ((cell_far (p := ⟨gb468, _, none⟩) NB480_468.out _).trans (((cell_far (p := ⟨gb468, _, none⟩) NB480_468.out _).trans (((cell_far (p := ⟨gb468, _, none⟩) NB480_468.out _).trans (((cell_far (p := ⟨gb468, _, none⟩) NB480_468.out _).trans (hHeld.2.1)))))))), ((cell_far (p := ⟨gb468, _, none⟩) NB480_468.out _).trans (((cell_far (p := ⟨gb468, _, none⟩) NB480_468.out _).trans (((cell_far (p := ⟨gb468, _, none⟩) NB480_468.out _).trans (((cell_far (p := ⟨gb468, _, none⟩) NB480_468.out _).trans (hHeld.2.2.1)))))))), ((cell_far (p := ⟨gb468, _, none⟩) NB480_468.out _).trans (((cell_far (p := ⟨gb468, _, none⟩) NB480_468.out _).trans (((cell_far (p := ⟨gb468, _, none⟩) NB480_468.out _).trans (((cell_far (p := ⟨gb468, _, none⟩) NB480_468.out _).trans (hHeld.2.2.2.1)))))))), ((cell_far (p := ⟨gb468, _, none⟩) NB481_468.out _).trans (((cell_far (p := ⟨gb468, _, none⟩) NB481_468.out _).trans (((cell_far (p := ⟨gb468, _, none⟩) NB481_468.out _).trans (((cell_far (p := ⟨gb468, _, none⟩) NB481_468.out _).trans (hHeld.2.2.2.2.1)))))))), ((cell_far (p := ⟨gb468, _, none⟩) NB481_468.out _).trans (((cell_far (p := ⟨gb468, _, none⟩) NB481_468.out _).trans (((cell_far (p := ⟨gb468, _, none⟩) NB481_468.out _).trans (((cell_far (p := ⟨gb468, _, none⟩) NB481_468.out _).trans (hHeld.2.2.2.2.2.1)))))))), ((cell_far (p := ⟨gb468, _, none⟩) NB481_468.out _).trans (((cell_far (p := ⟨gb468, _, none⟩) NB481_468.out _).trans (((cell_far (p := ⟨gb468, _, none⟩) NB481_468.out _).trans (((cell_far (p := ⟨gb468, _, none⟩) NB481_468.out _).trans (hHeld.2.2.2.2.2.2))))))))⟩ (fun hHeld => ?_)
   clear hK K
   refine pu 4 3 [5] ?_
   refine done_ (by kernel_rfl) ?_
   try go_wp2
   refine bodyPost_ret (results_ct rfl _ _ gb468 26 #[.int .i64 t469, .string t470, .slice Ao39 t493.length co39, .string t474] (0, 0) _ rfl (pt0 BK468) Tryd.underlying26 rfl (by kernel_rfl)) rfl ?_
   exact ⟨_, _, rf, rj (Kd.R_types HO495.out BK468.out (by decide)) (fun _ hk => hk.1.2), rj (Kd.R_types HO_482001.out BK468.out (by decide)) (fun _ hk => hk.1.2), bl⟩

end Go.Proofs.YtjlpjbkpmmpojaaDoor.All
