-- Written by a program of this session (wip/tools/hprint.py) out of the translation. Lean checks it.
import Derived.Test.YtjlpjbkpmmpojaaGreatDoorKKeptOfAllx0
import Derived.Test.YtjlpjbkpmmpojaaGreatDoorKKeptOfAllx2
import Derived.Test.YtjlpjbkpmmpojaaGreatDoorKKeptOfAllx3
import Derived.Test.YtjlpjbkpmmpojaaGreatDoorKKeptOfAllx4
import Derived.Test.YtjlpjbkpmmpojaaGreatDoorKKeptOfAllx5
namespace Go.Proofs.YtjlpjbkpmmpojaaGreatDoor.All
open Go.RowKit Go.Proofs.YtjlpjbkpmmpojaaGreatDoorW.PrintWords Go.Proofs.YtjlpjbkpmmpojaaGreatDoorW.PrintLast Go.Proofs.YtjlpjbkpmmpojaaGreatDoorW.PrintMore
attribute [local go_sem] max2_int min2_int max_two min_two max_three min_three max_four min_four  -- for this text's walks alone
set_option linter.unusedVariables false
set_option linter.unusedSimpArgs false

/-! ### spec_l3DrawBadReq: function 148 -/
theorem u148HI0 {p : Prop} (h : p := by repeat (first | (with_reducible first | exact HI0.out | apply IsS139.alloc | apply IsS139.drewN | apply IsS139.drew | apply IsS139.set_1 | apply IsS139.set_2 | apply IsS139.far (p := ⟨gb1066, _, none⟩) (hne := NB0_1066.out) | apply IsS139.far (p := ⟨gb1075, _, none⟩) (hne := NB0_1075.out)) | exact HI0.out)) : p := h
theorem u148HK {p : Prop} (h : p := by repeat (first | (with_reducible first | exact HK.out | apply KeepBut.set_ | apply keep_drewN | apply keep_drew | apply keep_alloc | refine keep_far ?_ GW1066.out _ | refine keep_far ?_ GW1075.out _) | exact HK.out)) : p := h
theorem u148HB {p : Prop} (h : p := by repeat (first | (with_reducible first | exact HB.out | apply below_alloc | apply pw_below_drewN | apply below_drew1 | refine below_set ?_ (IsS139.ge HI0.out) | refine below_set ?_ GE1066.out | refine below_set ?_ GE1075.out) | exact HB.out)) : p := h
def spec_l3DrawBadReq.l0 : Nat → List Int → Int → Int → Int → ByteArray → List (S116) → ByteArray → Option (Int × ByteArray × (List (S116)) × ByteArray × Int × Int)
 | 0, _, _, _, _, _, _, _ => none
 | k + 1, x1000, x1001, x1002, x1076000, x1076001, x1076002, x1076003 => (spec_l1Below.f x1000 x1001 x1002 2).bind fun bt1093 => (if (x1076003.size : Int) < (wrap64 (120 + bt1093.1)) then (if x1076003.size + 1 ≤ 9223372036854775807 then (spec_l3DrawBadReq.l0 k x1000 bt1093.2.1 bt1093.2.2 x1076000 x1076001 x1076002 (x1076003 ++ (⟨#[98]⟩ : ByteArray))) else (none)) else (some (x1076000, x1076001, x1076002, x1076003, bt1093.2.1, bt1093.2.2)))
def spec_l3DrawBadReq.f (k : Nat) (s0_0 : List Int) (s0_1 : Int) (s0_2 : Int) : Option (Int × ByteArray × (List (S116)) × ByteArray × Int × Int) := (spec_l3DrawReq.f k s0_0 s0_1 s0_2).bind fun bt1067 => ((spec_l1Below.f s0_0 bt1067.2.2.2.2.1 bt1067.2.2.2.2.2 20).bind fun bt1076 => (if bt1076.1 = 0 then ((spec_l1Below.f s0_0 bt1076.2.1 bt1076.2.2 7).bind fun bt1079 => (some (wrap64 (bt1079.1 - 1), bt1067.2.1, bt1067.2.2.1, bt1067.2.2.2.1, bt1079.2.1, bt1079.2.2))) else (if bt1076.1 = 1 then ((spec_l1Pick.f s0_0 bt1076.2.1 bt1076.2.2 (([(⟨#[]⟩ : ByteArray), (⟨#[97]⟩ : ByteArray), (⟨#[47, 32, 98]⟩ : ByteArray), (⟨#[47, 127]⟩ : ByteArray), (⟨#[47, 48, 49, 50, 51, 52, 53, 54, 55, 56, 57, 48, 49, 50, 51, 52, 53, 54, 55, 56, 57, 48, 49, 50, 51, 52, 53, 54, 55, 56, 57, 48, 49, 50, 51, 52, 53, 54, 55, 56, 57, 48, 49, 50, 51, 52, 53, 54, 55, 56, 57, 48, 49, 50, 51, 52, 53, 54, 55, 56, 57]⟩ : ByteArray)] : List ByteArray))).bind fun bt1085 => (some (bt1067.1, bt1085.1, bt1067.2.2.1, bt1067.2.2.2.1, bt1085.2.1, bt1085.2.2))) else (if bt1076.1 = 2 then ((spec_l2Draw.f k s0_0 bt1076.2.1 bt1076.2.2).bind fun bt1088 => (some (bt1067.1, bt1067.2.1, bt1088.1, bt1067.2.2.2.1, bt1088.2.1, bt1088.2.2))) else (if bt1076.1 = 3 then (spec_l3DrawBadReq.l0 k s0_0 bt1076.2.1 bt1076.2.2 bt1067.1 bt1067.2.1 bt1067.2.2.1 bt1067.2.2.2.1) else (some (bt1067.1, bt1067.2.1, bt1067.2.2.1, bt1067.2.2.2.1, bt1076.2.1, bt1076.2.2)))))))
set_option maxHeartbeats 8000000 in
set_option maxRecDepth 100000 in
theorem spec_l3DrawBadReq.calls (k : Nat) (g : Nat) (s0_0 : List Int) (s0_1 : Int) (s0_2 : Int) (r1 : Int) (r2 : ByteArray) (r3 : List (S116)) (r4 : ByteArray) (r5 : Int) (r6 : Int) (w0 w : World) (hI : IsS139 w0 w g s0_0 s0_1 s0_2) (hB : Below w0.heap.size w0 w) (h : spec_l3DrawBadReq.f k s0_0 s0_1 s0_2 = some (r1, r2, r3, r4, r5, r6)) :
  Calls Tryz.prog 148 #[.pointer (some ⟨g, 0, none⟩)] w fun e w' => ∃ v2_ : Value, e = .returned (.agg #[.int .i64 r1, .string r2, v2_, .string r4]) ∧ Kd.R k116 116 w' w.heap.size (fun _ => True) v2_ r3 ∧ IsS139 w0 w' g s0_0 r5 r6 ∧ Below w0.heap.size w0 w' ∧ KeepBut w w' g none := by
 have hu50 := Tryz.underlying50
 have HI0 := am hI
 have HK := am (KeepBut.refl w g none)
 have HL := am hB.size
 clear hI
 have HW0 := am hB.size
 have HB := am hB
 clear hB
 unfold spec_l3DrawBadReq.f at h
 have H := h
 clear h
 revert H
 refine ok6 fun t1067 t1068 t1069 t1072 t1073 t1074 A2 H => ?_
 (try dsimp only at H)
 revert H
 refine ok3 fun t1076 t1077 t1078 A3 H => ?_
 (try dsimp only at H)
 have HH4 := am H
 clear H
 go_enter Tryz.func148, Tryz.ntmps148
 go_upto_if 8 with ((with_reducible refine gw ?_); first | (refine bx 2 #[.int .i64 0, .string (⟨#[]⟩ : ByteArray), .slice none 0 0, .string (⟨#[]⟩ : ByteArray)] 50 ?_; intro gb1066 hg w5 hbox hb; have n0_ := am (IsS139.below u148HI0 hb); have n1_ := am (KeepBut.trans u148HK (KeepBut.of_below hb g none) (.inl rfl)); have n2_ := am (below_step u148HB hb); have n3_ := am (hbox); have n4_ := am ((by rw [hg]; exact (keep_size (w := w) (g := g) (row := none) u148HK) : w.heap.size ≤ gb1066)); have n5_ := am ((Nat.le_trans HW0.out (by rw [hg]; exact (keep_size (w := w) (g := g) (row := none) u148HK) : w.heap.size ≤ gb1066) : w0.heap.size ≤ gb1066)); have n6_ := am ((by rw [hg]; exact Nat.ne_of_lt (IsS139.lt (show IsS139 w0 _ g s0_0 s0_1 s0_2 from u148HI0)) : g ≠ gb1066)); have n7_ := am ((by rw [hg]; exact Nat.ne_of_gt (IsS139.lt (show IsS139 w0 _ g s0_0 s0_1 s0_2 from u148HI0)) : gb1066 ≠ g)); clear HI0; clear HK; clear HB; have HI0 := n0_; have HK := n1_; have HB := n2_; have BK1066 := n3_; have GW1066 := n4_; have GE1066 := n5_; have NB0_1066 := n6_; have NB1066_0 := n7_; clear n0_ n1_ n2_ n3_ n4_ n5_ n6_ n7_; clear hb hbox hg) | (refine gl 5 Tryz.func122 #[.pointer (some ⟨g, 0, none⟩)] ?_; (with_reducible refine (spec_l3DrawReq.calls k g s0_0 s0_1 s0_2 t1067 t1068 t1069 t1072 t1073 t1074 w0 _ ?side1 ?side2 A2.out).mono ?_); (case side1 => exact u148HI0); (case side2 => exact u148HB); rintro e w6 ⟨v1070, rfl, ho0, hi, hb, hk⟩; refine ⟨_, rfl, ?_⟩; replace BK1066 := kp BK1066 hk NB1066_0; have HO1071 := am (Kd.R_lower ho0 (keep_size (w := w) (g := g) (row := none) u148HK)); replace HK := am (KeepBut.trans u148HK hk (.inl rfl)); replace HB := am (hb); replace HI0 := am (hi); clear hb hk hi ho0) | (refine bx 3 #[.int .i64 0, .string (⟨#[]⟩ : ByteArray), .slice none 0 0, .string (⟨#[]⟩ : ByteArray)] 50 ?_; intro gb1075 hg w7 hbox hb; have n0_ := am (Kd.R_below (ro HO1071) hb); have n1_ := am (IsS139.below u148HI0 hb); have n2_ := kb BK1066 hb; have n3_ := am (KeepBut.trans u148HK (KeepBut.of_below hb g none) (.inl rfl)); have n4_ := am (below_step u148HB hb); have n5_ := am (hbox); have n6_ := am ((by rw [hg]; exact (keep_size (w := w) (g := g) (row := none) u148HK) : w.heap.size ≤ gb1075)); have n7_ := am ((Nat.le_trans HW0.out (by rw [hg]; exact (keep_size (w := w) (g := g) (row := none) u148HK) : w.heap.size ≤ gb1075) : w0.heap.size ≤ gb1075)); have n8_ := am (nl hg BK1066 : gb1066 ≠ gb1075); have n9_ := am (ng hg BK1066 : gb1075 ≠ gb1066); have n10_ := am ((by rw [hg]; exact Nat.ne_of_lt (IsS139.lt (show IsS139 w0 _ g s0_0 t1073 t1074 from u148HI0)) : g ≠ gb1075)); have n11_ := am ((by rw [hg]; exact Nat.ne_of_gt (IsS139.lt (show IsS139 w0 _ g s0_0 t1073 t1074 from u148HI0)) : gb1075 ≠ g)); clear HO1071; clear HI0; clear BK1066; clear HK; clear HB; have HO1071 := n0_; have HI0 := n1_; have BK1066 := n2_; have HK := n3_; have HB := n4_; have BK1075 := n5_; have GW1075 := n6_; have GE1075 := n7_; have NB1066_1075 := n8_; have NB1075_1066 := n9_; have NB0_1075 := n10_; have NB1075_0 := n11_; clear n0_ n1_ n2_ n3_ n4_ n5_ n6_ n7_ n8_ n9_ n10_ n11_; clear hb hbox hg; have hnb8 := NB1075_1066.out; have hnc8 := NB1066_1075.out; have hnb9 := NB1075_0.out; have hnc9 := NB0_1075.out; obtain ⟨z10_0, y10_0, z10_1, y10_1, z10_2, y10_2, z10_3, y10_3⟩ := cl4 BK1075; obtain ⟨Ao11, co11, eo11⟩ := Kd.R_slice HO1071.out; subst eo11) | (refine gl 7 Tryz.func74 #[.pointer (some ⟨g, 0, none⟩), .int .i64 20] ?_; (with_reducible refine (spec_l1Below.calls g s0_0 t1073 t1074 20 t1076 t1077 t1078 w0 _ ?side1 ?side2 A3.out).mono ?_); (case side1 => exact u148HI0); (case side2 => exact u148HB); rintro e w12 ⟨rfl, hi, hb, hk⟩; refine ⟨_, rfl, ?_⟩; replace BK1066 := am (KeepBut.blk hk (g' := gb1066) (o := .cells #[.int .i64 0, .string (⟨#[]⟩ : ByteArray), .slice none 0 0, .string (⟨#[]⟩ : ByteArray)] 50 (0, 0)) (bg1 BK1066 NB1066_1075) NB1066_0.out (by simp)); replace HO1071 := am (Kd.R_mono (Kd.R_keep (IsS139.apart (show IsS139 w0 _ g s0_0 t1073 t1074 from u148HI0) (rj (Kd.R_types HO1071.out BK1075.out (by decide)) (fun _ h_ => h_.1)) (by decide)) hk (fun _ h => h.2)) (fun _ h => h.1)); replace BK1075 := am (KeepBut.blk hk (g' := gb1075) (o := .cells #[.int .i64 t1067, .string t1068, .slice Ao11 t1069.length co11, .string t1072] 50 (0, 0)) (pt0 BK1075) NB1075_0.out (by simp)); replace HK := am (KeepBut.trans u148HK hk (.inl rfl)); replace HB := am (hb); replace HI0 := am (hi); clear hb hk hi))
 have H := HH4.out
 clear HH4
 by_cases c13 : t1076 = 0
 ·rw [if_pos c13] at H
  have c13b0 : (t1076 == 0) = true := beq_iff_eq.mpr c13
  have c13b1 : (t1076 != 0) = false := bne_eq_false_iff_eq.mpr c13
  clear c13
  (first | rw [c13b0] | (simp only [i64_w, i32_w]; rw [c13b0]) | skip)
  revert H
  refine ok3 fun t1079 t1080 t1081 A14 H => ?_
  (try dsimp only at H)
  simp only [Option.some.injEq, Prod.mk.injEq] at H
  obtain ⟨rfl, rfl, rfl, rfl, rfl, rfl⟩ := H
  go_wp2_with ((with_reducible refine gw ?_); first | (refine gl 11 Tryz.func74 #[.pointer (some ⟨g, 0, none⟩), .int .i64 7] ?_; (with_reducible refine (spec_l1Below.calls g s0_0 t1077 t1078 7 t1079 t1080 t1081 w0 _ ?side1 ?side2 A14.out).mono ?_); (case side1 => exact u148HI0); (case side2 => exact u148HB); rintro e w15 ⟨rfl, hi, hb, hk⟩; refine ⟨_, rfl, ?_⟩; replace BK1066 := kp BK1066 hk NB1066_0; replace HO1071 := am (Kd.R_mono (Kd.R_keep (IsS139.apart (show IsS139 w0 _ g s0_0 t1077 t1078 from u148HI0) (ro HO1071) (by decide)) hk (fun _ h => h.2)) (fun _ h => h.1)); replace BK1075 := kp BK1075 hk NB1075_0; replace HK := am (KeepBut.trans u148HK hk (.inl rfl)); replace HB := am (hb); replace HI0 := am (hi); clear hb hk hi; have hnb16 := NB1075_1066.out; have hnc16 := NB1066_1075.out; have hnb17 := NB1075_0.out; have hnc17 := NB0_1075.out; obtain ⟨z18_0, y18_0, z18_1, y18_1, z18_2, y18_2, z18_3, y18_3⟩ := cl4 BK1075; have hnb19 := NB1066_0.out; have hnc19 := NB0_1066.out; obtain ⟨z20_0, y20_0, z20_1, y20_1, z20_2, y20_2, z20_3, y20_3⟩ := cl4 BK1066))
  refine bodyPost_ret (results_cell_row rfl _ _ gb1066 50 #[.int .i64 (wrap64 (t1079 - 1)), .string t1068, .slice Ao11 t1069.length co11, .string t1072] (0, 0) _ rfl (pt1 BK1066 NB1066_1075) Tryz.underlying50 rfl (by kernel_rfl)) rfl ?_
  exact ⟨_, rf, rj (Kd.R_types (Kd.R_types HO1071.out BK1075.out (by decide)) BK1066.out (by decide)) (fun _ hk => trivial), u148HI0, u148HB, u148HK⟩
 rw [if_neg c13] at H
 have c13b0 : (t1076 == 0) = false := beq_eq_false_iff_ne.mpr c13
 have c13b1 : (t1076 != 0) = true := bne_iff_ne.mpr c13
 (first | rw [c13b0] | (simp only [i64_w, i32_w]; rw [c13b0]) | skip)
 by_cases c21 : t1076 = 1
 ·rw [if_pos c21] at H
  have c21b0 : (t1076 == 1) = true := beq_iff_eq.mpr c21
  have c21b1 : (t1076 != 1) = false := bne_eq_false_iff_eq.mpr c21
  clear c21
  obtain ⟨y1082, hy1082⟩ : ∃ y_ : List ByteArray, y_ = (([(⟨#[]⟩ : ByteArray), (⟨#[97]⟩ : ByteArray), (⟨#[47, 32, 98]⟩ : ByteArray), (⟨#[47, 127]⟩ : ByteArray), (⟨#[47, 48, 49, 50, 51, 52, 53, 54, 55, 56, 57, 48, 49, 50, 51, 52, 53, 54, 55, 56, 57, 48, 49, 50, 51, 52, 53, 54, 55, 56, 57, 48, 49, 50, 51, 52, 53, 54, 55, 56, 57, 48, 49, 50, 51, 52, 53, 54, 55, 56, 57, 48, 49, 50, 51, 52, 53, 54, 55, 56, 57]⟩ : ByteArray)] : List ByteArray)) := ⟨_, rfl⟩
  replace H : ((spec_l1Pick.f s0_0 t1077 t1078 y1082).bind fun bt1085 => (some (t1067, bt1085.1, t1069, t1072, bt1085.2.1, bt1085.2.2))) = some (r1, r2, r3, r4, r5, r6) := by first | (rw [hy1082]; with_reducible exact H) | (have H2_ := (Option.bind_some _ _).symm.trans H; rw [hy1082]; with_reducible exact H2_) | (have H2_ := (Option.bind_some _ _).symm.trans H; with_reducible exact H2_) | with_reducible exact H | (rw [hy1082]; exact H) | exact H
  have Ny1082 := am hy1082
  clear hy1082
  revert H
  refine ok3 fun t1085 t1086 t1087 A22 H => ?_
  (try dsimp only at H)
  simp only [Option.some.injEq, Prod.mk.injEq] at H
  obtain ⟨rfl, rfl, rfl, rfl, rfl, rfl⟩ := H
  go_wp2_with (first | ((with_reducible refine gate_dst (N := 17) rfl ?_); refine Kd.R_lit Kd.string _ 9 ?hg (N := 17) ?hd (xs := ([(⟨#[]⟩ : ByteArray), (⟨#[97]⟩ : ByteArray), (⟨#[47, 32, 98]⟩ : ByteArray), (⟨#[47, 127]⟩ : ByteArray), (⟨#[47, 48, 49, 50, 51, 52, 53, 54, 55, 56, 57, 48, 49, 50, 51, 52, 53, 54, 55, 56, 57, 48, 49, 50, 51, 52, 53, 54, 55, 56, 57, 48, 49, 50, 51, 52, 53, 54, 55, 56, 57, 48, 49, 50, 51, 52, 53, 54, 55, 56, 57, 48, 49, 50, 51, 52, 53, 54, 55, 56, 57]⟩ : ByteArray)] : List ByteArray)) (inner := [.string (⟨#[]⟩ : ByteArray), .string (⟨#[97]⟩ : ByteArray), .string (⟨#[47, 32, 98]⟩ : ByteArray), .string (⟨#[47, 127]⟩ : ByteArray), .string (⟨#[47, 48, 49, 50, 51, 52, 53, 54, 55, 56, 57, 48, 49, 50, 51, 52, 53, 54, 55, 56, 57, 48, 49, 50, 51, 52, 53, 54, 55, 56, 57, 48, 49, 50, 51, 52, 53, 54, 55, 56, 57, 48, 49, 50, 51, 52, 53, 54, 55, 56, 57, 48, 49, 50, 51, 52, 53, 54, 55, 56, 57]⟩ : ByteArray)]) (ok := fun _ => True) (okp := fun _ => True) ?hr ?hp (fun _ hk => hk) trivial (Below.refl _ _) (Nat.le_refl _) (by simp) ?_; (case hd => rfl); (case hg => rfl); (case hr => first | (go_simp; done) | (go_simp; rfl)); (case hp => exact rp); intro v1083 w23 ho24 hb hg_ hnew_; clear hg_ hnew_; (first | rw [← Ny1082.out] at ho24 | (simp only [Int.reduceToNat] at ho24; rw [← Ny1082.out] at ho24)); replace HO1071 := kr HO1071 hb; have HO1084 := am (Kd.R_lower ho24 (keep_size (w := w) (g := g) (row := none) u148HK)); replace BK1066 := kb BK1066 hb; replace BK1075 := kb BK1075 hb; replace HK := am (KeepBut.trans u148HK (KeepBut.of_below hb g none) (.inl rfl)); replace HB := am (below_step u148HB hb); replace HI0 := am (IsS139.below u148HI0 hb); clear hb ho24; obtain ⟨Ao25, co25, eo25⟩ := Kd.R_slice HO1084.out; subst eo25) | ((with_reducible refine gw ?_); first | (refine gl 18 Tryz.func84 #[.pointer (some ⟨g, 0, none⟩), .slice Ao25 y1082.length co25] ?_; (with_reducible refine (spec_l1Pick.calls g s0_0 t1077 t1078 _ _ y1082 t1085 t1086 t1087 w0 _ ?side1 ?side2 ?side3 ?side4 ?side5 A22.out).mono ?_); (case side1 => exact u148HI0); (case side2 => exact u148HB); (case side3 => exact rc HO1084); (case side4 => exact (Kd.R_reads' HO1084.out).2.1); (case side5 => exact far_slice (IsS139.own_ne HI0.out HO1084.out (by decide))); rintro e w26 ⟨rfl, hi, hb, hk⟩; refine ⟨_, rfl, ?_⟩; replace BK1066 := kp BK1066 hk NB1066_0; replace HO1071 := am (Kd.R_mono (Kd.R_keep (IsS139.apart (show IsS139 w0 _ g s0_0 t1077 t1078 from u148HI0) (ro HO1071) (by decide)) hk (fun _ h => h.2)) (fun _ h => h.1)); replace BK1075 := kp BK1075 hk NB1075_0; replace HO1084 := am (Kd.R_mono (Kd.R_keep (IsS139.apart (show IsS139 w0 _ g s0_0 t1077 t1078 from u148HI0) (ro HO1084) (by decide)) hk (fun _ h => h.2)) (fun _ h => h.1)); replace HK := am (KeepBut.trans u148HK hk (.inl rfl)); replace HB := am (hb); replace HI0 := am (hi); clear hb hk hi; have hnb27 := NB1075_1066.out; have hnc27 := NB1066_1075.out; have hnb28 := NB1075_0.out; have hnc28 := NB0_1075.out; obtain ⟨z29_0, y29_0, z29_1, y29_1, z29_2, y29_2, z29_3, y29_3⟩ := cl4 BK1075; have hnb30 := NB1066_0.out; have hnc30 := NB0_1066.out; obtain ⟨z31_0, y31_0, z31_1, y31_1, z31_2, y31_2, z31_3, y31_3⟩ := cl4 BK1066)))
  refine bodyPost_ret (results_cell_row rfl _ _ gb1066 50 #[.int .i64 t1067, .string t1085, .slice Ao11 t1069.length co11, .string t1072] (0, 0) _ rfl (pt1 BK1066 NB1066_1075) Tryz.underlying50 rfl (by kernel_rfl)) rfl ?_
  exact ⟨_, rf, rj (Kd.R_types (Kd.R_types HO1071.out BK1075.out (by decide)) BK1066.out (by decide)) (fun _ hk => trivial), u148HI0, u148HB, u148HK⟩
 rw [if_neg c21] at H
 have c21b0 : (t1076 == 1) = false := beq_eq_false_iff_ne.mpr c21
 have c21b1 : (t1076 != 1) = true := bne_iff_ne.mpr c21
 by_cases c32 : t1076 = 2
 ·rw [if_pos c32] at H
  have c32b0 : (t1076 == 2) = true := beq_iff_eq.mpr c32
  have c32b1 : (t1076 != 2) = false := bne_eq_false_iff_eq.mpr c32
  clear c32
  revert H
  refine ok3 fun t1088 t1091 t1092 A33 H => ?_
  (try dsimp only at H)
  simp only [Option.some.injEq, Prod.mk.injEq] at H
  obtain ⟨rfl, rfl, rfl, rfl, rfl, rfl⟩ := H
  go_wp2_with ((with_reducible refine gw ?_); first | (refine gl 23 Tryz.func85 #[.pointer (some ⟨g, 0, none⟩)] ?_; (with_reducible refine (spec_l2Draw.calls k g s0_0 t1077 t1078 t1088 t1091 t1092 w0 _ ?side1 ?side2 A33.out).mono ?_); (case side1 => exact u148HI0); (case side2 => exact u148HB); rintro e w34 ⟨v1089, rfl, ho0, hi, hb, hk⟩; refine ⟨_, rfl, ?_⟩; replace BK1066 := kp BK1066 hk NB1066_0; replace BK1075 := kp BK1075 hk NB1075_0; have HO1090 := am (Kd.R_lower (Kd.R_new' ho0 (Kd.R_lt (ro HO1071))) (keep_size (w := w) (g := g) (row := none) u148HK)); replace HO1071 := am (Kd.R_mono (Kd.R_told (Kd.R_oldK (IsS139.apart (show IsS139 w0 _ g s0_0 t1077 t1078 from u148HI0) (ro HO1071) (by decide)) hk) (Kd.R_base ho0)) (fun _ h_ => h_.1)); replace HK := am (KeepBut.trans u148HK hk (.inl rfl)); replace HB := am (hb); replace HI0 := am (hi); clear hb hk hi ho0; obtain ⟨Ao35, co35, eo35⟩ := Kd.R_slice HO1090.out; subst eo35; have hnb36 := NB1075_1066.out; have hnc36 := NB1066_1075.out; have hnb37 := NB1075_0.out; have hnc37 := NB0_1075.out; obtain ⟨z38_0, y38_0, z38_1, y38_1, z38_2, y38_2, z38_3, y38_3⟩ := cl4 BK1075; have hnb39 := NB1066_0.out; have hnc39 := NB0_1066.out; obtain ⟨z40_0, y40_0, z40_1, y40_1, z40_2, y40_2, z40_3, y40_3⟩ := cl4 BK1066))
  refine bodyPost_ret (results_cell_row rfl _ _ gb1066 50 #[.int .i64 t1067, .string t1068, .slice Ao35 t1088.length co35, .string t1072] (0, 0) _ rfl (pt1 BK1066 NB1066_1075) Tryz.underlying50 rfl (by kernel_rfl)) rfl ?_
  exact ⟨_, rf, rj (Kd.R_types (Kd.R_types HO1090.out BK1075.out (by decide)) BK1066.out (by decide)) (fun _ hk => trivial), u148HI0, u148HB, u148HK⟩
 rw [if_neg c32] at H
 have c32b0 : (t1076 == 2) = false := beq_eq_false_iff_ne.mpr c32
 have c32b1 : (t1076 != 2) = true := bne_iff_ne.mpr c32
 by_cases c41 : t1076 = 3
 rotate_left
 ·rw [if_neg c41] at H
  have c41b0 : (t1076 == 3) = false := beq_eq_false_iff_ne.mpr c41
  have c41b1 : (t1076 != 3) = true := bne_iff_ne.mpr c41
  simp only [Option.some.injEq, Prod.mk.injEq] at H
  obtain ⟨rfl, rfl, rfl, rfl, rfl, rfl⟩ := H
  have hnb56 := NB1075_1066.out
  have hnc56 := NB1066_1075.out
  have hnb57 := NB1075_0.out
  have hnc57 := NB0_1075.out
  obtain ⟨z58_0, y58_0, z58_1, y58_1, z58_2, y58_2, z58_3, y58_3⟩ := cl4 BK1075
  have hnb59 := NB1066_0.out
  have hnc59 := NB0_1066.out
  obtain ⟨z60_0, y60_0, z60_1, y60_1, z60_2, y60_2, z60_3, y60_3⟩ := cl4 BK1066
  go_wp2
  refine bodyPost_ret (results_cell_row rfl _ _ gb1066 50 #[.int .i64 t1067, .string t1068, .slice Ao11 t1069.length co11, .string t1072] (0, 0) _ rfl (pt0 BK1066) Tryz.underlying50 rfl (by kernel_rfl)) rfl ?_
  exact ⟨_, rf, rj (Kd.R_types HO1071.out BK1066.out (by decide)) (fun _ hk => trivial), u148HI0, u148HB, u148HK⟩
 rw [if_pos c41] at H
 have c41b0 : (t1076 == 3) = true := beq_iff_eq.mpr c41
 have c41b1 : (t1076 != 3) = false := bne_eq_false_iff_eq.mpr c41
 clear c41
 have H' := am H
 clear H
 go_wp2
 (try simp only [Act.put, List.setIfInBounds_toArray, List.set_cons_zero, List.set_cons_succ])
 go_loopg [] k (fun kq w' => ∃ (x1001_1 : Int) (x1002_1 : Int) (x1076003_1 : ByteArray), Aside0 (spec_l3DrawBadReq.l0 kq s0_0 x1001_1 x1002_1 t1067 t1068 t1069 x1076003_1 = some (r1, r2, r3, r4, r5, r6)) ∧ Aside0 (kq ≤ k) ∧ Aside0 (Kd.R k116 116 w' w.heap.size (fun _ => True) (.slice Ao11 t1069.length co11) t1069) ∧ Aside0 (w'.heap[gb1066]? = some (.cells #[.int .i64 0, .string (⟨#[]⟩ : ByteArray), (.slice none 0 0), .string (⟨#[]⟩ : ByteArray)] 50 (0, 0))) ∧ Aside0 (w'.heap[gb1075]? = some (.cells #[.int .i64 t1067, .string t1068, (.slice Ao11 t1069.length co11), .string x1076003_1] 50 (0, 0))) ∧ Aside0 (IsS139 w0 w' g s0_0 x1001_1 x1002_1) ∧ Aside0 (KeepBut w w' g none) ∧ Aside0 (Below w0.heap.size w0 w'))
 case atStart => exact ⟨(t1077), (t1078), (t1072), H', ⟨Nat.le_refl _⟩, ⟨by (with_reducible repeat (first | apply Kd.R_alloc | apply Kd.R_drewN | apply Kd.R_drew)); exact HO1071.out⟩, ⟨by (with_reducible repeat (first | refine blk_drewN ?_ _ | refine blk_drew ?_ | refine blk_alloc ?_ _)); exact BK1066.out⟩, ⟨by (with_reducible repeat (first | refine blk_drewN ?_ _ | refine blk_drew ?_ | refine blk_alloc ?_ _)); exact BK1075.out⟩, ⟨u148HI0⟩, ⟨u148HK⟩, ⟨u148HB⟩⟩
 case round =>
  clear H'
  try clear c1
  try clear c2
  try clear p2
  try clear c3
  try clear c4
  try clear p6
  try clear c7
  try clear c8
  try clear c9
  try clear c12
  try clear c13
  try clear c13b0
  try clear c13b1
  try clear c14
  try clear c16
  try clear c17
  try clear c19
  try clear c21
  try clear c21b0
  try clear c21b1
  try clear c27
  try clear c28
  try clear c30
  try clear c32
  try clear c32b0
  try clear c32b1
  try clear c36
  try clear c37
  try clear c39
  try clear c41
  try clear c41b0
  try clear c41b1
  try clear z10_0
  try clear z10_1
  try clear z10_2
  try clear z10_3
  try clear z18_0
  try clear z18_1
  try clear z18_2
  try clear z18_3
  try clear z20_0
  try clear z20_1
  try clear z20_2
  try clear z20_3
  try clear z29_0
  try clear z29_1
  try clear z29_2
  try clear z29_3
  try clear z31_0
  try clear z31_1
  try clear z31_2
  try clear z31_3
  try clear z38_0
  try clear z38_1
  try clear z38_2
  try clear z38_3
  try clear z40_0
  try clear z40_1
  try clear z40_2
  try clear z40_3
  try clear y10_0
  try clear y10_1
  try clear y10_2
  try clear y10_3
  try clear y18_0
  try clear y18_1
  try clear y18_2
  try clear y18_3
  try clear y20_0
  try clear y20_1
  try clear y20_2
  try clear y20_3
  try clear y29_0
  try clear y29_1
  try clear y29_2
  try clear y29_3
  try clear y31_0
  try clear y31_1
  try clear y31_2
  try clear y31_3
  try clear y38_0
  try clear y38_1
  try clear y38_2
  try clear y38_3
  try clear y40_0
  try clear y40_1
  try clear y40_2
  try clear y40_3
  obtain ⟨x1001_1, x1002_1, x1076003_1, HA, HK1, HO_1076002, BK1066, BK1075, HI0, HK, HB⟩ := hrel
  cases gk with
  | zero => exact absurd HA.out (by simp [spec_l3DrawBadReq.l0])
  | succ k1 =>
   have H := HA.out
   clear HA
   simp only [spec_l3DrawBadReq.l0] at H
   revert H
   refine ok3 fun t1093 t1094 t1095 A42 H => ?_
   (try dsimp only at H)
   have HH43 := am H
   clear H
   try go_wp2
   replace HO_1076002 := am (Kd.R_drew HO_1076002.out)
   replace BK1066 := am (blk_drew BK1066.out)
   replace BK1075 := am (blk_drew BK1075.out)
   replace HI0 := am (IsS139.drew HI0.out)
   replace HK := am (keep_drew HK.out)
   replace HB := am (below_drew1 HB.out)
   refine start_ (n := 7) (S := fun w' => w'.cell? ⟨gb1075, 0, none⟩ = some (.int .i64 t1067) ∧ w'.cell? ⟨gb1075, 1, none⟩ = some (.string t1068) ∧ w'.cell? ⟨gb1075, 2, none⟩ = some (.slice Ao11 t1069.length co11) ∧ w'.cell? ⟨gb1075, 3, none⟩ = some (.string x1076003_1)) (ds := []) ⟨br true [0, 7]⟩ (by kernel_rfl) rfl (by kernel_rfl) ⟨bc BK1075, bc BK1075, bc BK1075, bc BK1075⟩ (fun hHeld => ?_)
   generalize wr.drew = w44 at HO_1076002 BK1066 BK1075 HI0 HK HB hHeld ⊢
   refine pu 0 27 [1, 6] ?_
   refine pu 3 30 [1, 2, 1, 3] ?_
   refine tk 1 28 [2, 1, 1, 3] ?_
   refine pu 2 29 [4, 3] ?_
   refine og 4 31 [5, 2] Tryz.func74 #[.pointer (some ⟨g, 0, none⟩), .int .i64 2] (fun K hK => ?_)
   with_reducible refine (spec_l1Below.calls g s0_0 x1001_1 x1002_1 2 t1093 t1094 t1095 w0 _ ?side1 ?side2 A42.out).mono ?_
   (case side1 => exact u148HI0)
   (case side2 => exact u148HB)
   rintro e w45 ⟨rfl, hi, hb, hk⟩
   refine ⟨_, rfl, ?_⟩
   replace HO_1076002 := am (Kd.R_mono (Kd.R_keep (IsS139.apart (show IsS139 w0 _ g s0_0 x1001_1 x1002_1 from u148HI0) (ro HO_1076002) (by decide)) hk (fun _ h => h.2)) (fun _ h => h.1))
   replace BK1066 := kp BK1066 hk NB1066_0
   replace BK1075 := kp BK1075 hk NB1075_0
   replace HK := am (KeepBut.trans u148HK hk (.inl rfl))
   replace HB := am (hb)
   replace HI0 := am (hi)
   clear hb hk hi
   refine hK.out _ _ ⟨bc BK1075, bc BK1075, bc BK1075, bc BK1075⟩ (fun hHeld => ?_)
   clear hK K
   refine nm 31 ?_
   refine pu 5 32 [6, 1] ?_
   refine pu 6 33 [7] ?_
   refine done_ (by kernel_rfl) ?_
   go_upto_if 33 with (fail)
   have H := HH43.out
   clear HH43
   by_cases c46 : (x1076003_1.size : Int) < (wrap64 (120 + t1093))
   rotate_left
   ·rw [if_neg c46] at H
    have c46b0 := decide_eq_false c46
    clear c46
    (first | rw [c46b0] | (simp only [i64_w, i32_w]; rw [c46b0]) | skip)
    simp only [Option.some.injEq, Prod.mk.injEq] at H
    obtain ⟨rfl, rfl, rfl, rfl, rfl, rfl⟩ := H
    have hnb51 := NB1075_1066.out
    have hnc51 := NB1066_1075.out
    have hnb52 := NB1075_0.out
    have hnc52 := NB0_1075.out
    obtain ⟨z53_0, y53_0, z53_1, y53_1, z53_2, y53_2, z53_3, y53_3⟩ := cl4 BK1075
    have hnb54 := NB1066_0.out
    have hnc54 := NB0_1066.out
    obtain ⟨z55_0, y55_0, z55_1, y55_1, z55_2, y55_2, z55_3, y55_3⟩ := cl4 BK1066
    go_wp2
    refine bodyPost_ret (results_cell_row rfl _ _ gb1066 50 #[.int .i64 t1067, .string t1068, .slice Ao11 t1069.length co11, .string x1076003_1] (0, 0) _ rfl (pt0 BK1066) Tryz.underlying50 rfl (by kernel_rfl)) rfl ?_
    exact ⟨_, rf, rj (Kd.R_types HO_1076002.out BK1066.out (by decide)) (fun _ hk => trivial), u148HI0, u148HB, u148HK⟩
   rw [if_pos c46] at H
   have c46b0 := decide_eq_true c46
   clear c46
   (first | rw [c46b0] | (simp only [i64_w, i32_w]; rw [c46b0]) | skip)
   revert H
   refine ifn fun c47 H => ?_
   have c47b0 := eq_true c47
   have c47b1 := decide_eq_true c47
   try have c47b2 := eq_false (Nat.not_lt.2 c47)
   have H' := am H
   clear H
   have hnb48 := NB1075_1066.out
   have hnc48 := NB1066_1075.out
   have hnb49 := NB1075_0.out
   have hnc49 := NB0_1075.out
   obtain ⟨z50_0, y50_0, z50_1, y50_1, z50_2, y50_2, z50_3, y50_3⟩ := cl4 BK1075
   go_wp2
   go_roundg k1
   case measure => have := HK1.out; omega
   case rel => exact ⟨(t1094), (t1095), (x1076003_1 ++ (⟨#[98]⟩ : ByteArray)), H', ⟨by have := HK1.out; omega⟩, ⟨rj (Kd.R_types HO_1076002.out BK1075.out (by decide)) (fun _ hk => trivial)⟩, ⟨by (with_reducible repeat (first | refine blk_drewN ?_ _ | refine blk_drew ?_ | refine blk_alloc ?_ _)); refine blk_far ?_ NB1066_1075.out _; (with_reducible repeat (first | refine blk_drewN ?_ _ | refine blk_drew ?_ | refine blk_alloc ?_ _)); exact BK1066.out⟩, ⟨pt0 BK1075⟩, ⟨u148HI0⟩, ⟨u148HK⟩, ⟨u148HB⟩⟩

/-! ### spec_l9Draw: function 90 -/
theorem u90HB {p : Prop} (h : p := by repeat (first | (with_reducible first | exact HB.out | apply below_alloc | apply pw_below_drewN | apply below_drew1 | refine below_set ?_ GE1096.out | refine below_set ?_ GE1097.out | refine below_set ?_ (IsS139.ge HI1101.out) | refine below_set ?_ GE1110.out) | exact HB.out)) : p := h
theorem u90HI1101 {p : Prop} (h : p := by repeat (first | (with_reducible first | exact HI1101.out | apply IsS139.alloc | apply IsS139.drewN | apply IsS139.drew | apply IsS139.set_1 | apply IsS139.set_2 | apply IsS139.far (p := ⟨gb1096, _, none⟩) (hne := NB1101_1096.out) | apply IsS139.far (p := ⟨gb1097, _, none⟩) (hne := NB1101_1097.out) | apply IsS139.far (p := ⟨gb1110, _, none⟩) (hne := NB1101_1110.out)) | exact HI1101.out)) : p := h
def spec_l9Draw.f (k : Nat) (l0 : List Int) : Option (Int × ByteArray × (List (S116)) × ByteArray × Int × (List (S116)) × ByteArray) := (spec_l1New.f k l0).bind fun bt1098 => ((spec_l3DrawBadReq.f k bt1098.1 bt1098.2.1 bt1098.2.2).bind fun bt1102 => ((spec_l3DrawBadResp.f k bt1098.1 bt1102.2.2.2.2.1 bt1102.2.2.2.2.2).bind fun bt1111 => (some (bt1102.1, bt1102.2.1, bt1102.2.2.1, bt1102.2.2.2.1, bt1111.1, bt1111.2.1, bt1111.2.2.1))))
set_option maxHeartbeats 8000000 in
set_option maxRecDepth 100000 in
theorem spec_l9Draw.calls (k : Nat) (A0 : Option Addr) (c0 : Nat) (l0 : List Int) (r1 : Int) (r2 : ByteArray) (r3 : List (S116)) (r4 : ByteArray) (r5 : Int) (r6 : List (S116)) (r7 : ByteArray) (w : World) (hr0 : Kd.C (Kd.int .u8) w A0 l0.length l0) (hc0 : l0.length ≤ c0) (h : spec_l9Draw.f k l0 = some (r1, r2, r3, r4, r5, r6, r7)) :
  Calls Tryz.prog 90 #[.slice A0 l0.length c0] w fun e w' => ∃ v2_ v5_ : Value, e = .returned (.tuple #[.agg #[.int .i64 r1, .string r2, v2_, .string r4], .agg #[.int .i64 r5, v5_, .string r7]]) ∧ Kd.R k116 116 w' w.heap.size (fun k_ => some k_ ≠ (v5_ : Value).ownBlock) v2_ r3 ∧ Kd.R k116 116 w' w.heap.size (fun k_ => some k_ ≠ (v2_ : Value).ownBlock) v5_ r6 ∧ Below w.heap.size w w' := by
 have hu50 := Tryz.underlying50
 have hu29 := Tryz.underlying29
 have HR0 := am hr0
 have HC0 := am hc0
 clear hr0 hc0
 have HB := am (Below.refl w.heap.size w)
 unfold spec_l9Draw.f at h
 have H := h
 clear h
 revert H
 refine ok3 fun t1098 t1099 t1100 A2 H => ?_
 (try dsimp only at H)
 revert H
 refine ok6 fun t1102 t1103 t1104 t1107 t1108 t1109 A3 H => ?_
 (try dsimp only at H)
 revert H
 refine ok5 fun t1111 t1112 t1115 t1116 t1117 A4 H => ?_
 (try dsimp only at H)
 simp only [Option.some.injEq, Prod.mk.injEq] at H
 obtain ⟨rfl, rfl, rfl, rfl, rfl, rfl, rfl⟩ := H
 go_enter Tryz.func90, Tryz.ntmps90
 try go_wp2_with ((with_reducible refine gw ?_); first | (refine bx 2 #[.int .i64 0, .string (⟨#[]⟩ : ByteArray), .slice none 0 0, .string (⟨#[]⟩ : ByteArray)] 50 ?_; intro gb1096 hg w5 hbox hb; have BK1096 := am (hbox); have GW1096 := am (sz hg : w.heap.size ≤ gb1096); have GE1096 := am (sz hg : w.heap.size ≤ gb1096); replace HB := am (below_step bl hb); clear hb hbox hg) | (refine bx 3 #[.int .i64 0, .slice none 0 0, .string (⟨#[]⟩ : ByteArray)] 29 ?_; intro gb1097 hg w6 hbox hb; have BK1097 := am (hbox); have GW1097 := am (sz hg : w.heap.size ≤ gb1097); have GE1097 := am (sz hg : w.heap.size ≤ gb1097); replace HB := am (below_step bl hb); have NB1096_1097 := am (nl hg BK1096 : gb1096 ≠ gb1097); have NB1097_1096 := am (ng hg BK1096 : gb1097 ≠ gb1096); replace BK1096 := kb BK1096 hb; clear hb hbox hg) | (refine gl 7 Tryz.func59 #[.slice A0 l0.length c0] ?_; (with_reducible refine (spec_l1New.calls k _ _ l0 t1098 t1099 t1100 w _ ?side1 ?side2 ?side3 A2.out).mono ?_); (case side1 => exact u90HB); (case side2 => exact HR0.out); (case side3 => exact HC0.out); rintro e w7 ⟨g1101, rfl, hi, hb, hb2⟩; refine ⟨_, rfl, ?_⟩; replace HB := am (hb); have HI1101 := am (hi); have NB1101_1096 := am (IsS139.ne_blk hi (blk_below (g := gb1096) (o := .cells #[.int .i64 0, .string (⟨#[]⟩ : ByteArray), .slice none 0 0, .string (⟨#[]⟩ : ByteArray)] 50 (0, 0)) (bk BK1096) hb2) (by decide)); have NB1096_1101 := am (Ne.symm (IsS139.ne_blk hi (blk_below (g := gb1096) (o := .cells #[.int .i64 0, .string (⟨#[]⟩ : ByteArray), .slice none 0 0, .string (⟨#[]⟩ : ByteArray)] 50 (0, 0)) (bk BK1096) hb2) (by decide))); replace BK1096 := am (blk_below (g := gb1096) (o := .cells #[.int .i64 0, .string (⟨#[]⟩ : ByteArray), .slice none 0 0, .string (⟨#[]⟩ : ByteArray)] 50 (0, 0)) (bk BK1096) hb2); have NB1101_1097 := am (IsS139.ne_blk hi (blk_below (g := gb1097) (o := .cells #[.int .i64 0, .slice none 0 0, .string (⟨#[]⟩ : ByteArray)] 29 (0, 0)) (bk BK1097) hb2) (by decide)); have NB1097_1101 := am (Ne.symm (IsS139.ne_blk hi (blk_below (g := gb1097) (o := .cells #[.int .i64 0, .slice none 0 0, .string (⟨#[]⟩ : ByteArray)] 29 (0, 0)) (bk BK1097) hb2) (by decide))); replace BK1097 := am (blk_below (g := gb1097) (o := .cells #[.int .i64 0, .slice none 0 0, .string (⟨#[]⟩ : ByteArray)] 29 (0, 0)) (bk BK1097) hb2); clear hb hb2 hi) | (refine gl 9 Tryz.func148 #[.pointer (some ⟨g1101, 0, none⟩)] ?_; (with_reducible refine (spec_l3DrawBadReq.calls k g1101 t1098 t1099 t1100 t1102 t1103 t1104 t1107 t1108 t1109 w _ ?side1 ?side2 A3.out).mono ?_); (case side1 => exact u90HI1101); (case side2 => exact u90HB); rintro e w8 ⟨v1105, rfl, ho0, hi, hb, hk⟩; refine ⟨_, rfl, ?_⟩; replace BK1096 := kp BK1096 hk NB1096_1101; replace BK1097 := kp BK1097 hk NB1097_1101; have HO1106 := am (Kd.R_lower ho0 (below_size u90HB)); replace HB := am (hb); replace HI1101 := am (hi); clear hb hk hi ho0) | (refine bx 5 #[.int .i64 0, .string (⟨#[]⟩ : ByteArray), .slice none 0 0, .string (⟨#[]⟩ : ByteArray)] 50 ?_; intro gb1110 hg w9 hbox hb; have n0_ := am (Kd.R_below (ro HO1106) hb); have n1_ := kb BK1096 hb; have n2_ := kb BK1097 hb; have n3_ := am (IsS139.below u90HI1101 hb); have n4_ := am (below_step u90HB hb); have n5_ := am (hbox); have n6_ := am ((by rw [hg]; exact (below_size u90HB) : w.heap.size ≤ gb1110)); have n7_ := am ((by rw [hg]; exact (below_size u90HB) : w.heap.size ≤ gb1110)); have n8_ := am (nl hg BK1096 : gb1096 ≠ gb1110); have n9_ := am (ng hg BK1096 : gb1110 ≠ gb1096); have n10_ := am (nl hg BK1097 : gb1097 ≠ gb1110); have n11_ := am (ng hg BK1097 : gb1110 ≠ gb1097); have n12_ := am ((by rw [hg]; exact Nat.ne_of_lt (IsS139.lt (show IsS139 w _ g1101 t1098 t1108 t1109 from u90HI1101)) : g1101 ≠ gb1110)); have n13_ := am ((by rw [hg]; exact Nat.ne_of_gt (IsS139.lt (show IsS139 w _ g1101 t1098 t1108 t1109 from u90HI1101)) : gb1110 ≠ g1101)); clear HO1106; clear BK1096; clear BK1097; clear HI1101; clear HB; have HO1106 := n0_; have BK1096 := n1_; have BK1097 := n2_; have HI1101 := n3_; have HB := n4_; have BK1110 := n5_; have GW1110 := n6_; have GE1110 := n7_; have NB1096_1110 := n8_; have NB1110_1096 := n9_; have NB1097_1110 := n10_; have NB1110_1097 := n11_; have NB1101_1110 := n12_; have NB1110_1101 := n13_; clear n0_ n1_ n2_ n3_ n4_ n5_ n6_ n7_ n8_ n9_ n10_ n11_ n12_ n13_; clear hb hbox hg; have hnb10 := NB1110_1096.out; have hnc10 := NB1096_1110.out; have hnb11 := NB1110_1097.out; have hnc11 := NB1097_1110.out; have hnb12 := NB1110_1101.out; have hnc12 := NB1101_1110.out; obtain ⟨z13_0, y13_0, z13_1, y13_1, z13_2, y13_2, z13_3, y13_3⟩ := cl4 BK1110; obtain ⟨Ao14, co14, eo14⟩ := Kd.R_slice HO1106.out; subst eo14))
 have n0_ : Aside0 (Kd.R k116 116 ((((w9.setCell ⟨gb1110, 0, none⟩ (.int .i64 t1102)).setCell ⟨gb1110, 1, none⟩ (.string t1103)).setCell ⟨gb1110, 2, none⟩ (.slice Ao14 t1104.length co14)).setCell ⟨gb1110, 3, none⟩ (.string t1107)) w.heap.size (fun _ => True) (.slice Ao14 t1104.length co14) t1104) := ⟨rj (Kd.R_types HO1106.out BK1110.out (by decide)) (fun _ hk => trivial)⟩
 have n1_ : Aside0 (((((w9.setCell ⟨gb1110, 0, none⟩ (.int .i64 t1102)).setCell ⟨gb1110, 1, none⟩ (.string t1103)).setCell ⟨gb1110, 2, none⟩ (.slice Ao14 t1104.length co14)).setCell ⟨gb1110, 3, none⟩ (.string t1107)).heap[gb1096]? = some (.cells #[.int .i64 0, .string (⟨#[]⟩ : ByteArray), .slice none 0 0, .string (⟨#[]⟩ : ByteArray)] 50 (0, 0))) := ⟨by (with_reducible repeat (first | refine blk_drewN ?_ _ | refine blk_drew ?_ | refine blk_alloc ?_ _)); refine blk_far ?_ NB1096_1110.out _; (with_reducible repeat (first | refine blk_drewN ?_ _ | refine blk_drew ?_ | refine blk_alloc ?_ _)); refine blk_far ?_ NB1096_1110.out _; (with_reducible repeat (first | refine blk_drewN ?_ _ | refine blk_drew ?_ | refine blk_alloc ?_ _)); refine blk_far ?_ NB1096_1110.out _; (with_reducible repeat (first | refine blk_drewN ?_ _ | refine blk_drew ?_ | refine blk_alloc ?_ _)); refine blk_far ?_ NB1096_1110.out _; (with_reducible repeat (first | refine blk_drewN ?_ _ | refine blk_drew ?_ | refine blk_alloc ?_ _)); exact BK1096.out⟩
 have n2_ : Aside0 (((((w9.setCell ⟨gb1110, 0, none⟩ (.int .i64 t1102)).setCell ⟨gb1110, 1, none⟩ (.string t1103)).setCell ⟨gb1110, 2, none⟩ (.slice Ao14 t1104.length co14)).setCell ⟨gb1110, 3, none⟩ (.string t1107)).heap[gb1097]? = some (.cells #[.int .i64 0, .slice none 0 0, .string (⟨#[]⟩ : ByteArray)] 29 (0, 0))) := ⟨by (with_reducible repeat (first | refine blk_drewN ?_ _ | refine blk_drew ?_ | refine blk_alloc ?_ _)); refine blk_far ?_ NB1097_1110.out _; (with_reducible repeat (first | refine blk_drewN ?_ _ | refine blk_drew ?_ | refine blk_alloc ?_ _)); refine blk_far ?_ NB1097_1110.out _; (with_reducible repeat (first | refine blk_drewN ?_ _ | refine blk_drew ?_ | refine blk_alloc ?_ _)); refine blk_far ?_ NB1097_1110.out _; (with_reducible repeat (first | refine blk_drewN ?_ _ | refine blk_drew ?_ | refine blk_alloc ?_ _)); refine blk_far ?_ NB1097_1110.out _; (with_reducible repeat (first | refine blk_drewN ?_ _ | refine blk_drew ?_ | refine blk_alloc ?_ _)); exact BK1097.out⟩
 have n3_ : Aside0 (((((w9.setCell ⟨gb1110, 0, none⟩ (.int .i64 t1102)).setCell ⟨gb1110, 1, none⟩ (.string t1103)).setCell ⟨gb1110, 2, none⟩ (.slice Ao14 t1104.length co14)).setCell ⟨gb1110, 3, none⟩ (.string t1107)).heap[gb1110]? = some (.cells #[.int .i64 t1102, .string t1103, .slice Ao14 t1104.length co14, .string t1107] 50 (0, 0))) := ⟨pt0 BK1110⟩
 have n4_ : Aside0 (IsS139 w ((((w9.setCell ⟨gb1110, 0, none⟩ (.int .i64 t1102)).setCell ⟨gb1110, 1, none⟩ (.string t1103)).setCell ⟨gb1110, 2, none⟩ (.slice Ao14 t1104.length co14)).setCell ⟨gb1110, 3, none⟩ (.string t1107)) g1101 t1098 t1108 t1109) := ⟨u90HI1101⟩
 have n5_ : Aside0 (Below w.heap.size w ((((w9.setCell ⟨gb1110, 0, none⟩ (.int .i64 t1102)).setCell ⟨gb1110, 1, none⟩ (.string t1103)).setCell ⟨gb1110, 2, none⟩ (.slice Ao14 t1104.length co14)).setCell ⟨gb1110, 3, none⟩ (.string t1107))) := ⟨u90HB⟩
 (try clear HO1106)
 (try clear BK1096)
 (try clear BK1097)
 (try clear BK1110)
 (try clear HI1101)
 (try clear HB)
 generalize ((((w9.setCell ⟨gb1110, 0, none⟩ (.int .i64 t1102)).setCell ⟨gb1110, 1, none⟩ (.string t1103)).setCell ⟨gb1110, 2, none⟩ (.slice Ao14 t1104.length co14)).setCell ⟨gb1110, 3, none⟩ (.string t1107)) = w15 at n0_ n1_ n2_ n3_ n4_ n5_ ⊢
 have HO1106 := n0_
 have BK1096 := n1_
 have BK1097 := n2_
 have BK1110 := n3_
 have HI1101 := n4_
 have HB := n5_
 clear n0_ n1_ n2_ n3_ n4_ n5_
 replace HO1106 := am (Kd.R_drew HO1106.out)
 replace BK1096 := am (blk_drew BK1096.out)
 replace BK1097 := am (blk_drew BK1097.out)
 replace BK1110 := am (blk_drew BK1110.out)
 replace HI1101 := am (IsS139.drew HI1101.out)
 replace HB := am (below_drew1 HB.out)
 refine start_ (n := 5) (S := fun w' => w'.cell? ⟨gb1110, 0, none⟩ = some (.int .i64 t1102) ∧ w'.cell? ⟨gb1110, 1, none⟩ = some (.string t1103) ∧ w'.cell? ⟨gb1110, 2, none⟩ = some (.slice Ao14 t1104.length co14) ∧ w'.cell? ⟨gb1110, 3, none⟩ = some (.string t1107)) (ds := []) ⟨br true [0, 5]⟩ (by kernel_rfl) rfl (by kernel_rfl) ⟨bc BK1110, bc BK1110, bc BK1110, bc BK1110⟩ (fun hHeld => ?_)
 generalize w15.drew = w16 at HO1106 BK1096 BK1097 BK1110 HI1101 HB hHeld ⊢
 refine pu 1 11 [0, 1, 1, 3] ?_
 refine tk 0 10 [2, 3] ?_
 refine og 2 12 [3, 2] Tryz.func96 #[.pointer (some ⟨g1101, 0, none⟩)] (fun K hK => ?_)
 with_reducible refine (spec_l3DrawBadResp.calls k g1101 t1098 t1108 t1109 t1111 t1112 t1115 t1116 t1117 w _ ?side1 ?side2 A4.out).mono ?_
 (case side1 => exact u90HI1101)
 (case side2 => exact u90HB)
 rintro e w17 ⟨v1113, rfl, ho0, hi, hb, hk⟩
 refine ⟨_, rfl, ?_⟩
 replace BK1096 := kp BK1096 hk NB1096_1101
 replace BK1097 := kp BK1097 hk NB1097_1101
 replace BK1110 := kp BK1110 hk NB1110_1101
 have HO1114 := am (Kd.R_lower (Kd.R_new' ho0 (Kd.R_lt (ro HO1106))) (below_size u90HB))
 replace HO1106 := am (Kd.R_mono (Kd.R_told (Kd.R_oldK (IsS139.apart (show IsS139 w _ g1101 t1098 t1108 t1109 from u90HI1101) (ro HO1106) (by decide)) hk) (Kd.R_base ho0)) (fun _ h_ => h_.1))
 replace HB := am (hb)
 replace HI1101 := am (hi)
 clear hb hk hi ho0
 obtain ⟨Ao23, co23, eo23⟩ := Kd.R_slice HO1114.out
 (first | subst eo23 | (injection eo23 with f1_ f2_ f3_; have f4_ := f1_.symm; have f5_ := f3_.symm; clear f1_ f2_ f3_; subst f4_; subst f5_))
 refine hK.out _ _ ⟨bc BK1110, bc BK1110, bc BK1110, bc BK1110⟩ (fun hHeld => ?_)
 clear hK K
 refine nm 12 ?_
 refine one_ (i := 3) (N := none) #[true, true, true, true, false] rfl rfl (by kernel_rfl) (by decide) (fun K hK => ?_)
 have hs18 : w17.cell? ⟨gb1096, 0, none⟩ = some (.int .i64 0) := bc BK1096
 have hfs18 := blk_frozen BK1096.out 0
 have hns18_1 := NB1097_1096.out
 have hns18_2 := NB1110_1096.out
 have hms18_1 := NB1096_1097.out
 have hms18_2 := NB1096_1110.out
 have hs19 : w17.cell? ⟨gb1096, 1, none⟩ = some (.string (⟨#[]⟩ : ByteArray)) := bc BK1096
 have hfs19 := blk_frozen BK1096.out 1
 have hns19_1 := NB1097_1096.out
 have hns19_2 := NB1110_1096.out
 have hms19_1 := NB1096_1097.out
 have hms19_2 := NB1096_1110.out
 have hs20 : w17.cell? ⟨gb1096, 2, none⟩ = some (.slice none 0 0) := bc BK1096
 have hfs20 := blk_frozen BK1096.out 2
 have hns20_1 := NB1097_1096.out
 have hns20_2 := NB1110_1096.out
 have hms20_1 := NB1096_1097.out
 have hms20_2 := NB1096_1110.out
 have hs21 : w17.cell? ⟨gb1096, 3, none⟩ = some (.string (⟨#[]⟩ : ByteArray)) := bc BK1096
 have hfs21 := blk_frozen BK1096.out 3
 have hns21_1 := NB1097_1096.out
 have hns21_2 := NB1110_1096.out
 have hms21_1 := NB1096_1097.out
 have hms21_2 := NB1096_1110.out
 refine skip_ (w1 := ?_) (by rfl) rfl ?_ ?_
 rotate_left
 ·go_simp
  rfl
 refine hK.out _ _ ⟨((cell_far (p := ⟨gb1096, _, none⟩) NB1110_1096.out _).trans (((cell_far (p := ⟨gb1096, _, none⟩) NB1110_1096.out _).trans (((cell_far (p := ⟨gb1096, _, none⟩) NB1110_1096.out _).trans (((cell_far (p := ⟨gb1096, _, none⟩) NB1110_1096.out _).trans (hHeld.1)))))))), ((cell_far (p := ⟨gb1096, _, none⟩) NB1110_1096.out _).trans (((cell_far (p := ⟨gb1096, _, none⟩) NB1110_1096.out _).trans (((cell_far (p := ⟨gb1096, _, none⟩) NB1110_1096.out _).trans (((cell_far (p := ⟨gb1096, _, none⟩) NB1110_1096.out _).trans (hHeld.2.1)))))))), ((cell_far (p := ⟨gb1096, _, none⟩) NB1110_1096.out _).trans (((cell_far (p := ⟨gb1096, _, none⟩) NB1110_1096.out _).trans (((cell_far (p := ⟨gb1096, _, none⟩) NB1110_1096.out _).trans (((cell_far (p := ⟨gb1096, _, none⟩) NB1110_1096.out _).trans (hHeld.2.2.1)))))))), ((cell_far (p := ⟨gb1096, _, none⟩) NB1110_1096.out _).trans (((cell_far (p := ⟨gb1096, _, none⟩) NB1110_1096.out _).trans (((cell_far (p := ⟨gb1096, _, none⟩) NB1110_1096.out _).trans (((cell_far (p := ⟨gb1096, _, none⟩) NB1110_1096.out _).trans (hHeld.2.2.2))))))))⟩ (fun hHeld => ?_)
 clear hK K
 refine one_ (i := 4) (N := none) #[true, true, true, true, true] rfl rfl (by kernel_rfl) (by decide) (fun K hK => ?_)
 have hs22 : w17.cell? ⟨gb1097, 0, none⟩ = some (.int .i64 0) := bc BK1097
 have hfs22 := blk_frozen BK1097.out 0
 have hns22_0 := NB1096_1097.out
 have hns22_2 := NB1110_1097.out
 have hms22_0 := NB1097_1096.out
 have hms22_2 := NB1097_1110.out
 have hs24 : w17.cell? ⟨gb1097, 1, none⟩ = some (.slice none 0 0) := bc BK1097
 have hfs24 := blk_frozen BK1097.out 1
 have hns24_0 := NB1096_1097.out
 have hns24_2 := NB1110_1097.out
 have hms24_0 := NB1097_1096.out
 have hms24_2 := NB1097_1110.out
 have hs25 : w17.cell? ⟨gb1097, 2, none⟩ = some (.string (⟨#[]⟩ : ByteArray)) := bc BK1097
 have hfs25 := blk_frozen BK1097.out 2
 have hns25_0 := NB1096_1097.out
 have hns25_2 := NB1110_1097.out
 have hms25_0 := NB1097_1096.out
 have hms25_2 := NB1097_1110.out
 refine skip_ (w1 := ?_) (by rfl) rfl ?_ ?_
 rotate_left
 ·go_simp
  rfl
 refine hK.out _ _ ⟨((cell_far (p := ⟨gb1097, _, none⟩) NB1110_1097.out _).trans (((cell_far (p := ⟨gb1097, _, none⟩) NB1110_1097.out _).trans (((cell_far (p := ⟨gb1097, _, none⟩) NB1110_1097.out _).trans (hHeld.1)))))), ((cell_far (p := ⟨gb1097, _, none⟩) NB1110_1097.out _).trans (((cell_far (p := ⟨gb1097, _, none⟩) NB1110_1097.out _).trans (((cell_far (p := ⟨gb1097, _, none⟩) NB1110_1097.out _).trans (hHeld.2.1)))))), ((cell_far (p := ⟨gb1097, _, none⟩) NB1110_1097.out _).trans (((cell_far (p := ⟨gb1097, _, none⟩) NB1110_1097.out _).trans (((cell_far (p := ⟨gb1097, _, none⟩) NB1110_1097.out _).trans (hHeld.2.2.1)))))), ((cell_far (p := ⟨gb1097, _, none⟩) NB1110_1097.out _).trans (((cell_far (p := ⟨gb1097, _, none⟩) NB1110_1097.out _).trans (((cell_far (p := ⟨gb1097, _, none⟩) NB1110_1097.out _).trans (hHeld.2.2.2))))))⟩ (fun hHeld => ?_)
 clear hK K
 refine done_ (by kernel_rfl) ?_
 try go_wp2
 refine bodyPost_ret (results_cc rfl _ _ gb1096 gb1097 50 29 #[.int .i64 t1102, .string t1103, .slice Ao14 t1104.length co14, .string t1107] #[.int .i64 t1111, .slice Ao23 t1112.length co23, .string t1115] (0, 0) (0, 0) _ _ rfl (pt1 BK1096 NB1096_1097) Tryz.underlying50 rfl (by kernel_rfl) rfl (pt1 BK1097 NB1097_1096) Tryz.underlying29 rfl (by kernel_rfl)) rfl ?_
 exact ⟨_, _, rf, rj (Kd.R_types (Kd.R_types HO1106.out BK1096.out (by decide)) BK1097.out (by decide)) (fun _ hk => hk.1.1.2), rj (Kd.R_types (Kd.R_types HO1114.out BK1096.out (by decide)) BK1097.out (by decide)) (fun _ hk => hk.1.1.2), u90HB⟩

end Go.Proofs.YtjlpjbkpmmpojaaGreatDoor.All
