-- Written by a program of this session (wip/tools/hprint.py) out of the translation. Lean checks it.
import Derived.Test.YtjckfmipegemcaaGreatDoorKPiecesAllx0
import Derived.Test.YtjckfmipegemcaaGreatDoorKPiecesAllx1
import Derived.Test.YtjckfmipegemcaaGreatDoorKPiecesAllx7
namespace Go.Proofs.YtjckfmipegemcaaGreatDoor.All
open Go.RowKit Go.Proofs.YtjckfmipegemcaaGreatDoorW.PrintWords Go.Proofs.YtjckfmipegemcaaGreatDoorW.PrintLast Go.Proofs.YtjckfmipegemcaaGreatDoorW.PrintMore
attribute [local go_sem] max2_int min2_int max_two min_two max_three min_three max_four min_four  -- for this text's walks alone
set_option linter.unusedVariables false
set_option linter.unusedSimpArgs false

/-! ### spec_l3DrawReq: function 32 -/
theorem u32HI0 {p : Prop} (h : p := by repeat (first | (with_reducible first | exact HI0.out | apply IsS75.alloc | apply IsS75.drewN | apply IsS75.drew | apply IsS75.set_1 | apply IsS75.set_2 | apply IsS75.far (p := ⟨gb183, _, none⟩) (hne := NB0_183.out) | apply IsS75.far (p := ⟨gb196, _, none⟩) (hne := NB0_196.out)) | exact HI0.out)) : p := h
theorem u32HK {p : Prop} (h : p := by repeat (first | (with_reducible first | exact HK.out | apply KeepBut.set_ | apply keep_drewN | apply keep_drew | apply keep_alloc | refine keep_far ?_ GW183.out _ | refine keep_far ?_ GW196.out _) | exact HK.out)) : p := h
theorem u32HB {p : Prop} (h : p := by repeat (first | (with_reducible first | exact HB.out | apply below_alloc | apply pw_below_drewN | apply below_drew1 | refine below_set ?_ (IsS75.ge HI0.out) | refine below_set ?_ GE183.out | refine below_set ?_ GE196.out) | exact HB.out)) : p := h
def spec_l3DrawReq.l0 : Nat → Int → List Int → Int → Int → Int → ByteArray → List (S81) → ByteArray → Option (Int × ByteArray × (List (S81)) × ByteArray × Int × Int)
 | 0, _, _, _, _, _, _, _, _ => none
 | k + 1, x4, x1000, x1001, x1002, x197000, x197001, x197002, x197003 => (spec_l1Below.f x1000 x1001 x1002 4).bind fun bt197 => (if x4 < bt197.1 then ((spec_l1Pick.f x1000 bt197.2.1 bt197.2.2 (([(⟨#[108, 97, 110, 103]⟩ : ByteArray), (⟨#[107, 105, 110, 100]⟩ : ByteArray), (⟨#[99, 97, 99, 104, 101, 45, 99, 111, 110, 116, 114, 111, 108]⟩ : ByteArray), (⟨#[105, 102, 45, 110, 111, 110, 101, 45, 109, 97, 116, 99, 104]⟩ : ByteArray), (⟨#[120, 45, 97]⟩ : ByteArray)] : List ByteArray))).bind fun bt206 => ((spec_l2At.f k x197002 bt206.1).bind fun t209 => (if t209 < 0 then ((spec_l1Pick.f x1000 bt206.2.1 bt206.2.2 (([(⟨#[100, 101]⟩ : ByteArray), (⟨#[101, 110]⟩ : ByteArray)] : List ByteArray))).bind fun bt213 => (if bt206.1.toList = ([107, 105, 110, 100] : List UInt8) then ((spec_l1Pick.f x1000 bt213.2.1 bt213.2.2 (([(⟨#[120]⟩ : ByteArray), (⟨#[121]⟩ : ByteArray)] : List ByteArray))).bind fun bt219 => (if x197002.length < 4398046511104 then (spec_l3DrawReq.l0 k (wrap64 (x4 + 1)) x1000 bt219.2.1 bt219.2.2 x197000 x197001 (x197002 ++ [(⟨bt206.1, bt219.1⟩ : S81)]) x197003) else (none))) else (if bt206.1.toList = ([99, 97, 99, 104, 101, 45, 99, 111, 110, 116, 114, 111, 108] : List UInt8) then ((spec_l1Pick.f x1000 bt213.2.1 bt213.2.2 (([(⟨#[110, 111, 45, 99, 97, 99, 104, 101]⟩ : ByteArray), (⟨#[110, 111, 45, 115, 116, 111, 114, 101]⟩ : ByteArray), (⟨#[109, 97, 120, 45, 97, 103, 101, 61, 51]⟩ : ByteArray)] : List ByteArray))).bind fun bt228 => (if x197002.length < 4398046511104 then (spec_l3DrawReq.l0 k (wrap64 (x4 + 1)) x1000 bt228.2.1 bt228.2.2 x197000 x197001 (x197002 ++ [(⟨bt206.1, bt228.1⟩ : S81)]) x197003) else (none))) else (if bt206.1.toList = ([105, 102, 45, 110, 111, 110, 101, 45, 109, 97, 116, 99, 104] : List UInt8) then ((spec_l1Pick.f x1000 bt213.2.1 bt213.2.2 (([(⟨#[97]⟩ : ByteArray), (⟨#[98]⟩ : ByteArray)] : List ByteArray))).bind fun bt237 => (if x197002.length < 4398046511104 then (spec_l3DrawReq.l0 k (wrap64 (x4 + 1)) x1000 bt237.2.1 bt237.2.2 x197000 x197001 (x197002 ++ [(⟨bt206.1, bt237.1⟩ : S81)]) x197003) else (none))) else (if x197002.length < 4398046511104 then (spec_l3DrawReq.l0 k (wrap64 (x4 + 1)) x1000 bt213.2.1 bt213.2.2 x197000 x197001 (x197002 ++ [(⟨bt206.1, bt213.1⟩ : S81)]) x197003) else (none)))))) else (spec_l3DrawReq.l0 k (wrap64 (x4 + 1)) x1000 bt206.2.1 bt206.2.2 x197000 x197001 x197002 x197003)))) else (if x197000 = 3 then ((spec_l3DrawBody.f k x1000 bt197.2.1 bt197.2.2).bind fun bt200 => (some (x197000, x197001, x197002, bt200.1, bt200.2.1, bt200.2.2))) else (some (x197000, x197001, x197002, x197003, bt197.2.1, bt197.2.2))))
def spec_l3DrawReq.f (k : Nat) (s0_0 : List Int) (s0_1 : Int) (s0_2 : Int) : Option (Int × ByteArray × (List (S81)) × ByteArray × Int × Int) := (spec_l1PickInt.f s0_0 s0_1 s0_2 (([1, 1, 1, 1, 2, 3, 4] : List Int))).bind fun bt187 => ((spec_l1Pick.f s0_0 bt187.2.1 bt187.2.2 (([(⟨#[47]⟩ : ByteArray), (⟨#[47, 97]⟩ : ByteArray), (⟨#[47, 97, 47, 98]⟩ : ByteArray), (⟨#[47, 98]⟩ : ByteArray)] : List ByteArray))).bind fun bt193 => (spec_l3DrawReq.l0 k 0 s0_0 bt193.2.1 bt193.2.2 bt187.1 bt193.1 ([] : List (S81)) (⟨#[]⟩ : ByteArray)))
set_option maxHeartbeats 8000000 in
set_option maxRecDepth 100000 in
theorem spec_l3DrawReq.calls (k : Nat) (g : Nat) (s0_0 : List Int) (s0_1 : Int) (s0_2 : Int) (r1 : Int) (r2 : ByteArray) (r3 : List (S81)) (r4 : ByteArray) (r5 : Int) (r6 : Int) (w0 w : World) (hI : IsS75 w0 w g s0_0 s0_1 s0_2) (hB : Below w0.heap.size w0 w) (h : spec_l3DrawReq.f k s0_0 s0_1 s0_2 = some (r1, r2, r3, r4, r5, r6)) :
  Calls Tryz.prog 32 #[.pointer (some ⟨g, 0, none⟩)] w fun e w' => ∃ v2_ : Value, e = .returned (.agg #[.int .i64 r1, .string r2, v2_, .string r4]) ∧ Kd.R k81 81 w' w.heap.size (fun _ => True) v2_ r3 ∧ IsS75 w0 w' g s0_0 r5 r6 ∧ Below w0.heap.size w0 w' ∧ KeepBut w w' g none := by
 have hu40 := Tryz.underlying40
 have hu81 := Tryz.underlying81
 have HI0 := am hI
 have HK := am (KeepBut.refl w g none)
 have HL := am hB.size
 clear hI
 have HW0 := am hB.size
 have HB := am hB
 clear hB
 unfold spec_l3DrawReq.f at h
 have H := h
 clear h
 obtain ⟨y184, hy184⟩ : ∃ y_ : List Int, y_ = (([1, 1, 1, 1, 2, 3, 4] : List Int)) := ⟨_, rfl⟩
 replace H : ((spec_l1PickInt.f s0_0 s0_1 s0_2 y184).bind fun bt187 => ((spec_l1Pick.f s0_0 bt187.2.1 bt187.2.2 (([(⟨#[47]⟩ : ByteArray), (⟨#[47, 97]⟩ : ByteArray), (⟨#[47, 97, 47, 98]⟩ : ByteArray), (⟨#[47, 98]⟩ : ByteArray)] : List ByteArray))).bind fun bt193 => (spec_l3DrawReq.l0 k 0 s0_0 bt193.2.1 bt193.2.2 bt187.1 bt193.1 ([] : List (S81)) (⟨#[]⟩ : ByteArray)))) = some (r1, r2, r3, r4, r5, r6) := by first | (rw [hy184]; with_reducible exact H) | (have H2_ := (Option.bind_some _ _).symm.trans H; rw [hy184]; with_reducible exact H2_) | (have H2_ := (Option.bind_some _ _).symm.trans H; with_reducible exact H2_) | with_reducible exact H | (rw [hy184]; exact H) | exact H
 have Ny184 := am hy184
 clear hy184
 revert H
 refine ok3 fun t187 t188 t189 A2 H => ?_
 (try dsimp only at H)
 obtain ⟨y190, hy190⟩ : ∃ y_ : List ByteArray, y_ = (([(⟨#[47]⟩ : ByteArray), (⟨#[47, 97]⟩ : ByteArray), (⟨#[47, 97, 47, 98]⟩ : ByteArray), (⟨#[47, 98]⟩ : ByteArray)] : List ByteArray)) := ⟨_, rfl⟩
 replace H : ((spec_l1Pick.f s0_0 t188 t189 y190).bind fun bt193 => (spec_l3DrawReq.l0 k 0 s0_0 bt193.2.1 bt193.2.2 t187 bt193.1 ([] : List (S81)) (⟨#[]⟩ : ByteArray))) = some (r1, r2, r3, r4, r5, r6) := by first | (rw [hy190]; with_reducible exact H) | (have H2_ := (Option.bind_some _ _).symm.trans H; rw [hy190]; with_reducible exact H2_) | (have H2_ := (Option.bind_some _ _).symm.trans H; with_reducible exact H2_) | with_reducible exact H | (rw [hy190]; exact H) | exact H
 have Ny190 := am hy190
 clear hy190
 revert H
 refine ok3 fun t193 t194 t195 A3 H => ?_
 (try dsimp only at H)
 have H' := am H
 clear H
 go_enter Tryz.func32, Tryz.ntmps32
 go_wp2_with (first | ((with_reducible refine gw ?_); refine bx 2 #[.int .i64 0, .string (⟨#[]⟩ : ByteArray), .slice none 0 0, .string (⟨#[]⟩ : ByteArray)] 40 ?_; intro gb183 hg w4 hbox hb; have n0_ := am (IsS75.below u32HI0 hb); have n1_ := am (KeepBut.trans u32HK (KeepBut.of_below hb g none) (.inl rfl)); have n2_ := am (below_step u32HB hb); have n3_ := am (hbox); have n4_ := am ((by rw [hg]; exact (keep_size (w := w) (g := g) (row := none) u32HK) : w.heap.size ≤ gb183)); have n5_ := am ((Nat.le_trans HW0.out (by rw [hg]; exact (keep_size (w := w) (g := g) (row := none) u32HK) : w.heap.size ≤ gb183) : w0.heap.size ≤ gb183)); have n6_ := am ((by rw [hg]; exact Nat.ne_of_lt (IsS75.lt (show IsS75 w0 _ g s0_0 s0_1 s0_2 from u32HI0)) : g ≠ gb183)); have n7_ := am ((by rw [hg]; exact Nat.ne_of_gt (IsS75.lt (show IsS75 w0 _ g s0_0 s0_1 s0_2 from u32HI0)) : gb183 ≠ g)); clear HI0; clear HK; clear HB; have HI0 := n0_; have HK := n1_; have HB := n2_; have BK183 := n3_; have GW183 := n4_; have GE183 := n5_; have NB0_183 := n6_; have NB183_0 := n7_; clear n0_ n1_ n2_ n3_ n4_ n5_ n6_ n7_; clear hb hbox hg) | ((with_reducible refine gate_dst (N := 8) rfl ?_); refine Kd.R_lit (Kd.int .i64) _ 3 ?hg (N := 8) ?hd (xs := ([1, 1, 1, 1, 2, 3, 4] : List Int)) (inner := [.int .i64 1, .int .i64 1, .int .i64 1, .int .i64 1, .int .i64 2, .int .i64 3, .int .i64 4]) (ok := fun _ => True) (okp := fun _ => True) ?hr ?hp (fun _ hk => hk) trivial (Below.refl _ _) (Nat.le_refl _) (by simp) ?_; (case hd => rfl); (case hg => rfl); (case hr => first | (go_simp; done) | (go_simp; rfl)); (case hp => exact rp); intro v185 w5 ho6 hb hg_ hnew_; clear hg_ hnew_; (first | rw [← Ny184.out] at ho6 | (simp only [Int.reduceToNat] at ho6; rw [← Ny184.out] at ho6)); have HO186 := am (Kd.R_lower ho6 (keep_size (w := w) (g := g) (row := none) u32HK)); replace BK183 := kb BK183 hb; replace HK := am (KeepBut.trans u32HK (KeepBut.of_below hb g none) (.inl rfl)); replace HB := am (below_step u32HB hb); replace HI0 := am (IsS75.below u32HI0 hb); clear hb ho6; obtain ⟨Ao7, co7, eo7⟩ := Kd.R_slice HO186.out; subst eo7) | ((with_reducible refine gw ?_); refine gl 9 Tryz.func57 #[.pointer (some ⟨g, 0, none⟩), .slice Ao7 y184.length co7] ?_; (with_reducible refine (spec_l1PickInt.calls g s0_0 s0_1 s0_2 _ _ y184 t187 t188 t189 w0 _ ?side1 ?side2 ?side3 ?side4 ?side5 A2.out).mono ?_); (case side1 => exact u32HI0); (case side2 => exact u32HB); (case side3 => exact rc HO186); (case side4 => exact (Kd.R_reads' HO186.out).2.1); (case side5 => exact far_slice (IsS75.own_ne HI0.out HO186.out (by decide))); rintro e w8 ⟨rfl, hi, hb, hk⟩; refine ⟨_, rfl, ?_⟩; replace BK183 := kp BK183 hk NB183_0; replace HO186 := am (Kd.R_mono (Kd.R_keep (IsS75.apart (show IsS75 w0 _ g s0_0 s0_1 s0_2 from u32HI0) (ro HO186) (by decide)) hk (fun _ h => h.2)) (fun _ h => h.1)); replace HK := am (KeepBut.trans u32HK hk (.inl rfl)); replace HB := am (hb); replace HI0 := am (hi); clear hb hk hi) | ((with_reducible refine gate_dst (N := 11) rfl ?_); refine Kd.R_lit Kd.string _ 9 ?hg (N := 11) ?hd (xs := ([(⟨#[47]⟩ : ByteArray), (⟨#[47, 97]⟩ : ByteArray), (⟨#[47, 97, 47, 98]⟩ : ByteArray), (⟨#[47, 98]⟩ : ByteArray)] : List ByteArray)) (inner := [.string (⟨#[47]⟩ : ByteArray), .string (⟨#[47, 97]⟩ : ByteArray), .string (⟨#[47, 97, 47, 98]⟩ : ByteArray), .string (⟨#[47, 98]⟩ : ByteArray)]) (ok := fun _ => True) (okp := fun _ => True) ?hr ?hp (fun _ hk => hk) trivial (Below.refl _ _) (Nat.le_refl _) (by simp) ?_; (case hd => rfl); (case hg => rfl); (case hr => first | (go_simp; done) | (go_simp; rfl)); (case hp => exact rp); intro v191 w9 ho10 hb hg_ hnew_; clear hg_ hnew_; (first | rw [← Ny190.out] at ho10 | (simp only [Int.reduceToNat] at ho10; rw [← Ny190.out] at ho10)); replace HO186 := kr HO186 hb; have HO192 := am (Kd.R_lower ho10 (keep_size (w := w) (g := g) (row := none) u32HK)); replace BK183 := kb BK183 hb; replace HK := am (KeepBut.trans u32HK (KeepBut.of_below hb g none) (.inl rfl)); replace HB := am (below_step u32HB hb); replace HI0 := am (IsS75.below u32HI0 hb); clear hb ho10; obtain ⟨Ao11, co11, eo11⟩ := Kd.R_slice HO192.out; subst eo11) | ((with_reducible refine gw ?_); refine gl 12 Tryz.func33 #[.pointer (some ⟨g, 0, none⟩), .slice Ao11 y190.length co11] ?_; (with_reducible refine (spec_l1Pick.calls g s0_0 t188 t189 _ _ y190 t193 t194 t195 w0 _ ?side1 ?side2 ?side3 ?side4 ?side5 A3.out).mono ?_); (case side1 => exact u32HI0); (case side2 => exact u32HB); (case side3 => exact rc HO192); (case side4 => exact (Kd.R_reads' HO192.out).2.1); (case side5 => exact far_slice (IsS75.own_ne HI0.out HO192.out (by decide))); rintro e w12 ⟨rfl, hi, hb, hk⟩; refine ⟨_, rfl, ?_⟩; replace BK183 := kp BK183 hk NB183_0; replace HO186 := am (Kd.R_mono (Kd.R_keep (IsS75.apart (show IsS75 w0 _ g s0_0 t188 t189 from u32HI0) (ro HO186) (by decide)) hk (fun _ h => h.2)) (fun _ h => h.1)); replace HO192 := am (Kd.R_mono (Kd.R_keep (IsS75.apart (show IsS75 w0 _ g s0_0 t188 t189 from u32HI0) (ro HO192) (by decide)) hk (fun _ h => h.2)) (fun _ h => h.1)); replace HK := am (KeepBut.trans u32HK hk (.inl rfl)); replace HB := am (hb); replace HI0 := am (hi); clear hb hk hi) | ((with_reducible refine gw ?_); refine bx 3 #[.int .i64 0, .string (⟨#[]⟩ : ByteArray), .slice none 0 0, .string (⟨#[]⟩ : ByteArray)] 40 ?_; intro gb196 hg w13 hbox hb; have n0_ := am (Kd.R_below (ro HO186) hb); have n1_ := am (Kd.R_below (ro HO192) hb); have n2_ := am (IsS75.below u32HI0 hb); have n3_ := kb BK183 hb; have n4_ := am (KeepBut.trans u32HK (KeepBut.of_below hb g none) (.inl rfl)); have n5_ := am (below_step u32HB hb); have n6_ := am (hbox); have n7_ := am ((by rw [hg]; exact (keep_size (w := w) (g := g) (row := none) u32HK) : w.heap.size ≤ gb196)); have n8_ := am ((Nat.le_trans HW0.out (by rw [hg]; exact (keep_size (w := w) (g := g) (row := none) u32HK) : w.heap.size ≤ gb196) : w0.heap.size ≤ gb196)); have n9_ := am (nl hg BK183 : gb183 ≠ gb196); have n10_ := am (ng hg BK183 : gb196 ≠ gb183); have n11_ := am ((by rw [hg]; exact Nat.ne_of_lt (IsS75.lt (show IsS75 w0 _ g s0_0 t194 t195 from u32HI0)) : g ≠ gb196)); have n12_ := am ((by rw [hg]; exact Nat.ne_of_gt (IsS75.lt (show IsS75 w0 _ g s0_0 t194 t195 from u32HI0)) : gb196 ≠ g)); clear HO186; clear HO192; clear HI0; clear BK183; clear HK; clear HB; have HO186 := n0_; have HO192 := n1_; have HI0 := n2_; have BK183 := n3_; have HK := n4_; have HB := n5_; have BK196 := n6_; have GW196 := n7_; have GE196 := n8_; have NB183_196 := n9_; have NB196_183 := n10_; have NB0_196 := n11_; have NB196_0 := n12_; clear n0_ n1_ n2_ n3_ n4_ n5_ n6_ n7_ n8_ n9_ n10_ n11_ n12_; clear hb hbox hg; have hnb14 := NB196_183.out; have hnc14 := NB183_196.out; have hnb15 := NB196_0.out; have hnc15 := NB0_196.out; obtain ⟨z16_0, y16_0, z16_1, y16_1, z16_2, y16_2, z16_3, y16_3⟩ := cl4 BK196))
 (try simp only [Act.put, List.setIfInBounds_toArray, List.set_cons_zero, List.set_cons_succ])
 go_loopg [4] k (fun kq v4 w' => ∃ (x4_1 : Int) (x1001_1 : Int) (x1002_1 : Int) (x197002_1 : List (S81)) (u197002 : Value), v4 = .int .i64 x4_1 ∧ Aside0 (spec_l3DrawReq.l0 kq x4_1 s0_0 x1001_1 x1002_1 t187 t193 x197002_1 (⟨#[]⟩ : ByteArray) = some (r1, r2, r3, r4, r5, r6)) ∧ Aside0 (kq ≤ k) ∧ Aside0 (Kd.R k81 81 w' w.heap.size (fun _ => True) u197002 x197002_1) ∧ Aside0 (w'.heap[gb183]? = some (.cells #[.int .i64 0, .string (⟨#[]⟩ : ByteArray), (.slice none 0 0), .string (⟨#[]⟩ : ByteArray)] 40 (0, 0))) ∧ Aside0 (w'.heap[gb196]? = some (.cells #[.int .i64 t187, .string t193, u197002, .string (⟨#[]⟩ : ByteArray)] 40 (0, 0))) ∧ Aside0 (IsS75 w0 w' g s0_0 x1001_1 x1002_1) ∧ Aside0 (KeepBut w w' g none) ∧ Aside0 (Below w0.heap.size w0 w'))
 case atStart => exact ⟨(0), (t194), (t195), (([] : List (S81))), (.slice none 0 0), rs, H', ⟨Nat.le_refl _⟩, ⟨by first | exact Kd.R_nil _ _ _ _ _ | exact Kd.N_nil _ _ _ _ _ | exact Kd.V_nil _ _ _ _ _ | exact Kd.Q_nil _ _ _ _ _ | exact Kd.S_nil _ _ _ _ _⟩, ⟨by (with_reducible repeat (first | refine blk_drewN ?_ _ | refine blk_drew ?_ | refine blk_alloc ?_ _)); refine blk_far ?_ NB183_196.out _; (with_reducible repeat (first | refine blk_drewN ?_ _ | refine blk_drew ?_ | refine blk_alloc ?_ _)); refine blk_far ?_ NB183_196.out _; (with_reducible repeat (first | refine blk_drewN ?_ _ | refine blk_drew ?_ | refine blk_alloc ?_ _)); refine blk_far ?_ NB183_196.out _; (with_reducible repeat (first | refine blk_drewN ?_ _ | refine blk_drew ?_ | refine blk_alloc ?_ _)); refine blk_far ?_ NB183_196.out _; (with_reducible repeat (first | refine blk_drewN ?_ _ | refine blk_drew ?_ | refine blk_alloc ?_ _)); exact BK183.out⟩, ⟨pt0 BK196⟩, ⟨u32HI0⟩, ⟨u32HK⟩, ⟨u32HB⟩⟩
 case round =>
  clear H'
  try clear c1
  try clear p2
  try clear c3
  try clear c5
  try clear c14
  try clear c15
  try clear z16_0
  try clear z16_1
  try clear z16_2
  try clear z16_3
  try clear y16_0
  try clear y16_1
  try clear y16_2
  try clear y16_3
  obtain ⟨x4_1, x1001_1, x1002_1, x197002_1, u197002, rfl, HA, HK1, HO_197002, BK183, BK196, HI0, HK, HB⟩ := hrel
  cases gk with
  | zero => exact absurd HA.out (by simp [spec_l3DrawReq.l0])
  | succ k1 =>
   have H := HA.out
   clear HA
   simp only [spec_l3DrawReq.l0] at H
   revert H
   refine ok3 fun t197 t198 t199 A17 H => ?_
   (try dsimp only at H)
   have HH18 := am H
   clear H
   go_upto_if 17 with ((with_reducible refine gw ?_); first | (refine gl 16 Tryz.func30 #[.pointer (some ⟨g, 0, none⟩), .int .i64 4] ?_; (with_reducible refine (spec_l1Below.calls g s0_0 x1001_1 x1002_1 4 t197 t198 t199 w0 _ ?side1 ?side2 A17.out).mono ?_); (case side1 => exact u32HI0); (case side2 => exact u32HB); rintro e w19 ⟨rfl, hi, hb, hk⟩; refine ⟨_, rfl, ?_⟩; replace HO_197002 := am (Kd.R_mono (Kd.R_keep (IsS75.apart (show IsS75 w0 _ g s0_0 x1001_1 x1002_1 from u32HI0) (ro HO_197002) (by decide)) hk (fun _ h => h.2)) (fun _ h => h.1)); replace BK183 := kp BK183 hk NB183_0; replace BK196 := kp BK196 hk NB196_0; replace HK := am (KeepBut.trans u32HK hk (.inl rfl)); replace HB := am (hb); replace HI0 := am (hi); clear hb hk hi))
   have H := HH18.out
   clear HH18
   by_cases c20 : x4_1 < t197
   rotate_left
   ·rw [if_neg c20] at H
    have c20b0 := decide_eq_false c20
    clear c20
    (first | rw [c20b0] | (simp only [i64_w, i32_w]; rw [c20b0]) | skip)
    by_cases c85 : t187 = 3
    rotate_left
    ·rw [if_neg c85] at H
     have c85b0 : (t187 == 3) = false := beq_eq_false_iff_ne.mpr c85
     have c85b1 : (t187 != 3) = true := bne_iff_ne.mpr c85
     simp only [Option.some.injEq, Prod.mk.injEq] at H
     obtain ⟨rfl, rfl, rfl, rfl, rfl, rfl⟩ := H
     have hnb95 := NB196_183.out
     have hnc95 := NB183_196.out
     have hnb96 := NB196_0.out
     have hnc96 := NB0_196.out
     obtain ⟨z97_0, y97_0, z97_1, y97_1, z97_2, y97_2, z97_3, y97_3⟩ := cl4 BK196
     have hnb98 := NB183_0.out
     have hnc98 := NB0_183.out
     obtain ⟨z99_0, y99_0, z99_1, y99_1, z99_2, y99_2, z99_3, y99_3⟩ := cl4 BK183
     obtain ⟨Ao100, co100, eo100⟩ := Kd.R_slice HO_197002.out
     subst eo100
     go_wp2
     refine bodyPost_ret (results_cell_row rfl _ _ gb183 40 #[.int .i64 t187, .string t193, .slice Ao100 x197002_1.length co100, .string (⟨#[]⟩ : ByteArray)] (0, 0) _ rfl (pt0 BK183) Tryz.underlying40 rfl (by kernel_rfl)) rfl ?_
     exact ⟨_, rf, rj (Kd.R_types HO_197002.out BK183.out (by decide)) (fun _ hk => trivial), u32HI0, u32HB, u32HK⟩
    rw [if_pos c85] at H
    have c85b0 : (t187 == 3) = true := beq_iff_eq.mpr c85
    have c85b1 : (t187 != 3) = false := bne_eq_false_iff_eq.mpr c85
    clear c85
    revert H
    refine ok3 fun t200 t201 t202 A86 H => ?_
    (try dsimp only at H)
    simp only [Option.some.injEq, Prod.mk.injEq] at H
    obtain ⟨rfl, rfl, rfl, rfl, rfl, rfl⟩ := H
    have hnb87 := NB196_183.out
    have hnc87 := NB183_196.out
    have hnb88 := NB196_0.out
    have hnc88 := NB0_196.out
    obtain ⟨z89_0, y89_0, z89_1, y89_1, z89_2, y89_2, z89_3, y89_3⟩ := cl4 BK196
    go_wp2_with ((with_reducible refine gw ?_); first | (refine gl 59 Tryz.func59 #[.pointer (some ⟨g, 0, none⟩)] ?_; (with_reducible refine (spec_l3DrawBody.calls k1 g s0_0 t198 t199 t200 t201 t202 w0 _ ?side1 ?side2 A86.out).mono ?_); (case side1 => exact u32HI0); (case side2 => exact u32HB); rintro e w90 ⟨rfl, hi, hb, hk⟩; refine ⟨_, rfl, ?_⟩; replace HO_197002 := am (Kd.R_mono (Kd.R_keep (IsS75.apart (show IsS75 w0 _ g s0_0 t198 t199 from u32HI0) (ro HO_197002) (by decide)) hk (fun _ h => h.2)) (fun _ h => h.1)); replace BK183 := kp BK183 hk NB183_0; replace BK196 := kp BK196 hk NB196_0; replace HK := am (KeepBut.trans u32HK hk (.inl rfl)); replace HB := am (hb); replace HI0 := am (hi); clear hb hk hi; obtain ⟨z91_0, y91_0, z91_1, y91_1, z91_2, y91_2, z91_3, y91_3⟩ := cl4 BK196; have hnb92 := NB183_0.out; have hnc92 := NB0_183.out; obtain ⟨z93_0, y93_0, z93_1, y93_1, z93_2, y93_2, z93_3, y93_3⟩ := cl4 BK183; obtain ⟨Ao94, co94, eo94⟩ := Kd.R_slice HO_197002.out; subst eo94))
    refine bodyPost_ret (results_cell_row rfl _ _ gb183 40 #[.int .i64 t187, .string t193, .slice Ao94 x197002_1.length co94, .string t200] (0, 0) _ rfl (pt1 BK183 NB183_196) Tryz.underlying40 rfl (by kernel_rfl)) rfl ?_
    exact ⟨_, rf, rj (Kd.R_types (Kd.R_types HO_197002.out BK196.out (by decide)) BK183.out (by decide)) (fun _ hk => trivial), u32HI0, u32HB, u32HK⟩
   rw [if_pos c20] at H
   have c20b0 := decide_eq_true c20
   clear c20
   (first | rw [c20b0] | (simp only [i64_w, i32_w]; rw [c20b0]) | skip)
   obtain ⟨y203, hy203⟩ : ∃ y_ : List ByteArray, y_ = (([(⟨#[108, 97, 110, 103]⟩ : ByteArray), (⟨#[107, 105, 110, 100]⟩ : ByteArray), (⟨#[99, 97, 99, 104, 101, 45, 99, 111, 110, 116, 114, 111, 108]⟩ : ByteArray), (⟨#[105, 102, 45, 110, 111, 110, 101, 45, 109, 97, 116, 99, 104]⟩ : ByteArray), (⟨#[120, 45, 97]⟩ : ByteArray)] : List ByteArray)) := ⟨_, rfl⟩
   replace H : ((spec_l1Pick.f s0_0 t198 t199 y203).bind fun bt206 => ((spec_l2At.f k1 x197002_1 bt206.1).bind fun t209 => (if t209 < 0 then ((spec_l1Pick.f s0_0 bt206.2.1 bt206.2.2 (([(⟨#[100, 101]⟩ : ByteArray), (⟨#[101, 110]⟩ : ByteArray)] : List ByteArray))).bind fun bt213 => (if bt206.1.toList = ([107, 105, 110, 100] : List UInt8) then ((spec_l1Pick.f s0_0 bt213.2.1 bt213.2.2 (([(⟨#[120]⟩ : ByteArray), (⟨#[121]⟩ : ByteArray)] : List ByteArray))).bind fun bt219 => (if x197002_1.length < 4398046511104 then (spec_l3DrawReq.l0 k1 (wrap64 (x4_1 + 1)) s0_0 bt219.2.1 bt219.2.2 t187 t193 (x197002_1 ++ [(⟨bt206.1, bt219.1⟩ : S81)]) (⟨#[]⟩ : ByteArray)) else (none))) else (if bt206.1.toList = ([99, 97, 99, 104, 101, 45, 99, 111, 110, 116, 114, 111, 108] : List UInt8) then ((spec_l1Pick.f s0_0 bt213.2.1 bt213.2.2 (([(⟨#[110, 111, 45, 99, 97, 99, 104, 101]⟩ : ByteArray), (⟨#[110, 111, 45, 115, 116, 111, 114, 101]⟩ : ByteArray), (⟨#[109, 97, 120, 45, 97, 103, 101, 61, 51]⟩ : ByteArray)] : List ByteArray))).bind fun bt228 => (if x197002_1.length < 4398046511104 then (spec_l3DrawReq.l0 k1 (wrap64 (x4_1 + 1)) s0_0 bt228.2.1 bt228.2.2 t187 t193 (x197002_1 ++ [(⟨bt206.1, bt228.1⟩ : S81)]) (⟨#[]⟩ : ByteArray)) else (none))) else (if bt206.1.toList = ([105, 102, 45, 110, 111, 110, 101, 45, 109, 97, 116, 99, 104] : List UInt8) then ((spec_l1Pick.f s0_0 bt213.2.1 bt213.2.2 (([(⟨#[97]⟩ : ByteArray), (⟨#[98]⟩ : ByteArray)] : List ByteArray))).bind fun bt237 => (if x197002_1.length < 4398046511104 then (spec_l3DrawReq.l0 k1 (wrap64 (x4_1 + 1)) s0_0 bt237.2.1 bt237.2.2 t187 t193 (x197002_1 ++ [(⟨bt206.1, bt237.1⟩ : S81)]) (⟨#[]⟩ : ByteArray)) else (none))) else (if x197002_1.length < 4398046511104 then (spec_l3DrawReq.l0 k1 (wrap64 (x4_1 + 1)) s0_0 bt213.2.1 bt213.2.2 t187 t193 (x197002_1 ++ [(⟨bt206.1, bt213.1⟩ : S81)]) (⟨#[]⟩ : ByteArray)) else (none)))))) else (spec_l3DrawReq.l0 k1 (wrap64 (x4_1 + 1)) s0_0 bt206.2.1 bt206.2.2 t187 t193 x197002_1 (⟨#[]⟩ : ByteArray))))) = some (r1, r2, r3, r4, r5, r6) := by first | (rw [hy203]; with_reducible exact H) | (have H2_ := (Option.bind_some _ _).symm.trans H; rw [hy203]; with_reducible exact H2_) | (have H2_ := (Option.bind_some _ _).symm.trans H; with_reducible exact H2_) | with_reducible exact H | (rw [hy203]; exact H) | exact H
   have Ny203 := am hy203
   clear hy203
   revert H
   refine ok3 fun t206 t207 t208 A21 H => ?_
   (try dsimp only at H)
   revert H
   refine ok1 fun t209 A22 H => ?_
   have HH23 := am H
   clear H
   go_upto_if 27 with (first | ((with_reducible refine gate_dst (N := 21) rfl ?_); refine Kd.R_lit Kd.string _ 9 ?hg (N := 21) ?hd (xs := ([(⟨#[108, 97, 110, 103]⟩ : ByteArray), (⟨#[107, 105, 110, 100]⟩ : ByteArray), (⟨#[99, 97, 99, 104, 101, 45, 99, 111, 110, 116, 114, 111, 108]⟩ : ByteArray), (⟨#[105, 102, 45, 110, 111, 110, 101, 45, 109, 97, 116, 99, 104]⟩ : ByteArray), (⟨#[120, 45, 97]⟩ : ByteArray)] : List ByteArray)) (inner := [.string (⟨#[108, 97, 110, 103]⟩ : ByteArray), .string (⟨#[107, 105, 110, 100]⟩ : ByteArray), .string (⟨#[99, 97, 99, 104, 101, 45, 99, 111, 110, 116, 114, 111, 108]⟩ : ByteArray), .string (⟨#[105, 102, 45, 110, 111, 110, 101, 45, 109, 97, 116, 99, 104]⟩ : ByteArray), .string (⟨#[120, 45, 97]⟩ : ByteArray)]) (ok := fun _ => True) (okp := fun _ => True) ?hr ?hp (fun _ hk => hk) trivial (Below.refl _ _) (Nat.le_refl _) (by simp) ?_; (case hd => rfl); (case hg => rfl); (case hr => first | (go_simp; done) | (go_simp; rfl)); (case hp => exact rp); intro v204 w24 ho25 hb hg_ hnew_; clear hg_ hnew_; (first | rw [← Ny203.out] at ho25 | (simp only [Int.reduceToNat] at ho25; rw [← Ny203.out] at ho25)); replace HO_197002 := kr HO_197002 hb; have HO205 := am (Kd.R_lower ho25 (keep_size (w := w) (g := g) (row := none) u32HK)); replace BK183 := kb BK183 hb; replace BK196 := kb BK196 hb; replace HK := am (KeepBut.trans u32HK (KeepBut.of_below hb g none) (.inl rfl)); replace HB := am (below_step u32HB hb); replace HI0 := am (IsS75.below u32HI0 hb); clear hb ho25; obtain ⟨Ao26, co26, eo26⟩ := Kd.R_slice HO205.out; subst eo26) | ((with_reducible refine gw ?_); first | (refine gl 22 Tryz.func33 #[.pointer (some ⟨g, 0, none⟩), .slice Ao26 y203.length co26] ?_; (with_reducible refine (spec_l1Pick.calls g s0_0 t198 t199 _ _ y203 t206 t207 t208 w0 _ ?side1 ?side2 ?side3 ?side4 ?side5 A21.out).mono ?_); (case side1 => exact u32HI0); (case side2 => exact u32HB); (case side3 => exact rc HO205); (case side4 => exact (Kd.R_reads' HO205.out).2.1); (case side5 => exact far_slice (IsS75.own_ne HI0.out HO205.out (by decide))); rintro e w27 ⟨rfl, hi, hb, hk⟩; refine ⟨_, rfl, ?_⟩; replace HO_197002 := am (Kd.R_mono (Kd.R_keep (IsS75.apart (show IsS75 w0 _ g s0_0 t198 t199 from u32HI0) (ro HO_197002) (by decide)) hk (fun _ h => h.2)) (fun _ h => h.1)); replace BK183 := kp BK183 hk NB183_0; replace BK196 := kp BK196 hk NB196_0; replace HO205 := am (Kd.R_mono (Kd.R_keep (IsS75.apart (show IsS75 w0 _ g s0_0 t198 t199 from u32HI0) (ro HO205) (by decide)) hk (fun _ h => h.2)) (fun _ h => h.1)); replace HK := am (KeepBut.trans u32HK hk (.inl rfl)); replace HB := am (hb); replace HI0 := am (hi); clear hb hk hi; have hnb28 := NB196_183.out; have hnc28 := NB183_196.out; have hnb29 := NB196_0.out; have hnc29 := NB0_196.out; obtain ⟨z30_0, y30_0, z30_1, y30_1, z30_2, y30_2, z30_3, y30_3⟩ := cl4 BK196; obtain ⟨Ao31, co31, eo31⟩ := Kd.R_slice HO_197002.out; subst eo31) | (refine gl 26 Tryz.func58 #[.slice Ao31 x197002_1.length co31, .string t206] ?_; (with_reducible refine (spec_l2At.calls k1 _ _ x197002_1 t206 t209 _ ?side1 ?side2 A22.out).mono ?_); (case side1 => exact rc HO_197002); (case side2 => exact (Kd.R_reads' HO_197002.out).2.1); rintro e w' ⟨rfl, ⟨nd, rfl⟩⟩; refine ⟨_, rfl, ?_⟩)))
   have H := HH23.out
   clear HH23
   by_cases c32 : t209 < 0
   rotate_left
   ·rw [if_neg c32] at H
    have c32b0 := decide_eq_false c32
    clear c32
    (first | rw [c32b0] | (simp only [i64_w, i32_w]; rw [c32b0]) | skip)
    have H' := am H
    clear H
    go_wp2
    go_roundg k1
    case measure => have := HK1.out; omega
    case rel => exact ⟨(wrap64 (x4_1 + 1)), (t207), (t208), (x197002_1), (.slice Ao31 x197002_1.length co31), rs, H', ⟨by have := HK1.out; omega⟩, ⟨by (with_reducible repeat (first | apply Kd.R_alloc | apply Kd.R_drewN | apply Kd.R_drew)); exact HO_197002.out⟩, ⟨by (with_reducible repeat (first | refine blk_drewN ?_ _ | refine blk_drew ?_ | refine blk_alloc ?_ _)); exact BK183.out⟩, ⟨by (with_reducible repeat (first | refine blk_drewN ?_ _ | refine blk_drew ?_ | refine blk_alloc ?_ _)); exact BK196.out⟩, ⟨u32HI0⟩, ⟨u32HK⟩, ⟨u32HB⟩⟩
   rw [if_pos c32] at H
   have c32b0 := decide_eq_true c32
   clear c32
   (first | rw [c32b0] | (simp only [i64_w, i32_w]; rw [c32b0]) | skip)
   obtain ⟨y210, hy210⟩ : ∃ y_ : List ByteArray, y_ = (([(⟨#[100, 101]⟩ : ByteArray), (⟨#[101, 110]⟩ : ByteArray)] : List ByteArray)) := ⟨_, rfl⟩
   replace H : ((spec_l1Pick.f s0_0 t207 t208 y210).bind fun bt213 => (if t206.toList = ([107, 105, 110, 100] : List UInt8) then ((spec_l1Pick.f s0_0 bt213.2.1 bt213.2.2 (([(⟨#[120]⟩ : ByteArray), (⟨#[121]⟩ : ByteArray)] : List ByteArray))).bind fun bt219 => (if x197002_1.length < 4398046511104 then (spec_l3DrawReq.l0 k1 (wrap64 (x4_1 + 1)) s0_0 bt219.2.1 bt219.2.2 t187 t193 (x197002_1 ++ [(⟨t206, bt219.1⟩ : S81)]) (⟨#[]⟩ : ByteArray)) else (none))) else (if t206.toList = ([99, 97, 99, 104, 101, 45, 99, 111, 110, 116, 114, 111, 108] : List UInt8) then ((spec_l1Pick.f s0_0 bt213.2.1 bt213.2.2 (([(⟨#[110, 111, 45, 99, 97, 99, 104, 101]⟩ : ByteArray), (⟨#[110, 111, 45, 115, 116, 111, 114, 101]⟩ : ByteArray), (⟨#[109, 97, 120, 45, 97, 103, 101, 61, 51]⟩ : ByteArray)] : List ByteArray))).bind fun bt228 => (if x197002_1.length < 4398046511104 then (spec_l3DrawReq.l0 k1 (wrap64 (x4_1 + 1)) s0_0 bt228.2.1 bt228.2.2 t187 t193 (x197002_1 ++ [(⟨t206, bt228.1⟩ : S81)]) (⟨#[]⟩ : ByteArray)) else (none))) else (if t206.toList = ([105, 102, 45, 110, 111, 110, 101, 45, 109, 97, 116, 99, 104] : List UInt8) then ((spec_l1Pick.f s0_0 bt213.2.1 bt213.2.2 (([(⟨#[97]⟩ : ByteArray), (⟨#[98]⟩ : ByteArray)] : List ByteArray))).bind fun bt237 => (if x197002_1.length < 4398046511104 then (spec_l3DrawReq.l0 k1 (wrap64 (x4_1 + 1)) s0_0 bt237.2.1 bt237.2.2 t187 t193 (x197002_1 ++ [(⟨t206, bt237.1⟩ : S81)]) (⟨#[]⟩ : ByteArray)) else (none))) else (if x197002_1.length < 4398046511104 then (spec_l3DrawReq.l0 k1 (wrap64 (x4_1 + 1)) s0_0 bt213.2.1 bt213.2.2 t187 t193 (x197002_1 ++ [(⟨t206, bt213.1⟩ : S81)]) (⟨#[]⟩ : ByteArray)) else (none)))))) = some (r1, r2, r3, r4, r5, r6) := by first | (rw [hy210]; with_reducible exact H) | (have H2_ := (Option.bind_some _ _).symm.trans H; rw [hy210]; with_reducible exact H2_) | (have H2_ := (Option.bind_some _ _).symm.trans H; with_reducible exact H2_) | with_reducible exact H | (rw [hy210]; exact H) | exact H
   have Ny210 := am hy210
   clear hy210
   revert H
   refine ok3 fun t213 t214 t215 A33 H => ?_
   (try dsimp only at H)
   have HH34 := am H
   clear H
   go_upto_if 32 with (first | ((with_reducible refine gate_dst (N := 29) rfl ?_); refine Kd.R_lit Kd.string _ 9 ?hg (N := 29) ?hd (xs := ([(⟨#[100, 101]⟩ : ByteArray), (⟨#[101, 110]⟩ : ByteArray)] : List ByteArray)) (inner := [.string (⟨#[100, 101]⟩ : ByteArray), .string (⟨#[101, 110]⟩ : ByteArray)]) (ok := fun _ => True) (okp := fun _ => True) ?hr ?hp (fun _ hk => hk) trivial (Below.refl _ _) (Nat.le_refl _) (by simp) ?_; (case hd => rfl); (case hg => rfl); (case hr => first | (go_simp; done) | (go_simp; rfl)); (case hp => exact rp); intro v211 w35 ho36 hb hg_ hnew_; clear hg_ hnew_; (first | rw [← Ny210.out] at ho36 | (simp only [Int.reduceToNat] at ho36; rw [← Ny210.out] at ho36)); replace HO_197002 := kr HO_197002 hb; have HO212 := am (Kd.R_lower (Kd.R_new' ho36 (Kd.R_lt (ro HO205))) (keep_size (w := w) (g := g) (row := none) u32HK)); replace HO205 := am (Kd.R_elder' (ro HO205) (Kd.R_base ho36) hb); replace BK183 := kb BK183 hb; replace BK196 := kb BK196 hb; replace HK := am (KeepBut.trans u32HK (KeepBut.of_below hb g none) (.inl rfl)); replace HB := am (below_step u32HB hb); replace HI0 := am (IsS75.below u32HI0 hb); clear hb ho36; obtain ⟨Ao37, co37, eo37⟩ := Kd.R_slice HO212.out; subst eo37) | ((with_reducible refine gw ?_); first | (refine gl 30 Tryz.func33 #[.pointer (some ⟨g, 0, none⟩), .slice Ao37 y210.length co37] ?_; (with_reducible refine (spec_l1Pick.calls g s0_0 t207 t208 _ _ y210 t213 t214 t215 w0 _ ?side1 ?side2 ?side3 ?side4 ?side5 A33.out).mono ?_); (case side1 => exact u32HI0); (case side2 => exact u32HB); (case side3 => exact rc HO212); (case side4 => exact (Kd.R_reads' HO212.out).2.1); (case side5 => exact far_slice (IsS75.own_ne HI0.out HO212.out (by decide))); rintro e w38 ⟨rfl, hi, hb, hk⟩; refine ⟨_, rfl, ?_⟩; replace HO_197002 := am (Kd.R_mono (Kd.R_keep (IsS75.apart (show IsS75 w0 _ g s0_0 t207 t208 from u32HI0) (ro HO_197002) (by decide)) hk (fun _ h => h.2)) (fun _ h => h.1)); replace BK183 := kp BK183 hk NB183_0; replace BK196 := kp BK196 hk NB196_0; replace HO205 := am (Kd.R_mono (Kd.R_keep (IsS75.apart (show IsS75 w0 _ g s0_0 t207 t208 from u32HI0) (ro HO205) (by decide)) hk (fun _ h => h.2)) (fun _ h => h.1)); replace HO212 := am (Kd.R_mono (Kd.R_keep (IsS75.apart (show IsS75 w0 _ g s0_0 t207 t208 from u32HI0) (ro HO212) (by decide)) hk (fun _ h => h.2)) (fun _ h => h.1)); replace HK := am (KeepBut.trans u32HK hk (.inl rfl)); replace HB := am (hb); replace HI0 := am (hi); clear hb hk hi)))
   have H := HH34.out
   clear HH34
   by_cases c39 : t206.toList = ([107, 105, 110, 100] : List UInt8)
   ·rw [if_pos c39] at H
    have c39b0 : (t206.toList == ([107, 105, 110, 100] : List UInt8)) = true := beq_iff_eq.mpr c39
    have c39b1 : (t206.toList != ([107, 105, 110, 100] : List UInt8)) = false := bne_eq_false_iff_eq.mpr c39
    clear c39
    (first | rw [c39b0] | (simp only [i64_w, i32_w]; rw [c39b0]) | skip)
    obtain ⟨y216, hy216⟩ : ∃ y_ : List ByteArray, y_ = (([(⟨#[120]⟩ : ByteArray), (⟨#[121]⟩ : ByteArray)] : List ByteArray)) := ⟨_, rfl⟩
    replace H : ((spec_l1Pick.f s0_0 t214 t215 y216).bind fun bt219 => (if x197002_1.length < 4398046511104 then (spec_l3DrawReq.l0 k1 (wrap64 (x4_1 + 1)) s0_0 bt219.2.1 bt219.2.2 t187 t193 (x197002_1 ++ [(⟨t206, bt219.1⟩ : S81)]) (⟨#[]⟩ : ByteArray)) else (none))) = some (r1, r2, r3, r4, r5, r6) := by first | (rw [hy216]; with_reducible exact H) | (have H2_ := (Option.bind_some _ _).symm.trans H; rw [hy216]; with_reducible exact H2_) | (have H2_ := (Option.bind_some _ _).symm.trans H; with_reducible exact H2_) | with_reducible exact H | (rw [hy216]; exact H) | exact H
    have Ny216 := am hy216
    clear hy216
    revert H
    refine ok3 fun t219 t220 t221 A40 H => ?_
    (try dsimp only at H)
    revert H
    refine ifn fun c41 H => ?_
    have LMc41 := am c41
    clear c41
    obtain ⟨y222, hy222⟩ : ∃ y_ : List (S81), y_ = (x197002_1 ++ [(⟨t206, t219⟩ : S81)]) := ⟨_, rfl⟩
    replace H : (spec_l3DrawReq.l0 k1 (wrap64 (x4_1 + 1)) s0_0 t220 t221 t187 t193 y222 (⟨#[]⟩ : ByteArray)) = some (r1, r2, r3, r4, r5, r6) := by first | (rw [hy222]; with_reducible exact H) | (have H2_ := (Option.bind_some _ _).symm.trans H; rw [hy222]; with_reducible exact H2_) | (have H2_ := (Option.bind_some _ _).symm.trans H; with_reducible exact H2_) | with_reducible exact H | (rw [hy222]; exact H) | exact H
    have Ny222 := am hy222
    clear hy222
    have H' := am H
    clear H
    go_wp2_with (first | ((with_reducible refine gate_dst (N := 35) rfl ?_); refine Kd.R_lit Kd.string _ 9 ?hg (N := 35) ?hd (xs := ([(⟨#[120]⟩ : ByteArray), (⟨#[121]⟩ : ByteArray)] : List ByteArray)) (inner := [.string (⟨#[120]⟩ : ByteArray), .string (⟨#[121]⟩ : ByteArray)]) (ok := fun _ => True) (okp := fun _ => True) ?hr ?hp (fun _ hk => hk) trivial (Below.refl _ _) (Nat.le_refl _) (by simp) ?_; (case hd => rfl); (case hg => rfl); (case hr => first | (go_simp; done) | (go_simp; rfl)); (case hp => exact rp); intro v217 w42 ho43 hb hg_ hnew_; clear hg_ hnew_; (first | rw [← Ny216.out] at ho43 | (simp only [Int.reduceToNat] at ho43; rw [← Ny216.out] at ho43)); replace HO_197002 := kr HO_197002 hb; have HO218 := am (Kd.R_lower (Kd.R_new' (Kd.R_new' ho43 (Kd.R_lt (ro HO205))) (Kd.R_lt (ro HO212))) (keep_size (w := w) (g := g) (row := none) u32HK)); replace HO205 := am (Kd.R_elder' (ro HO205) (Kd.R_base ho43) hb); replace HO212 := am (Kd.R_elder' (ro HO212) (Kd.R_base ho43) hb); replace BK183 := kb BK183 hb; replace BK196 := kb BK196 hb; replace HK := am (KeepBut.trans u32HK (KeepBut.of_below hb g none) (.inl rfl)); replace HB := am (below_step u32HB hb); replace HI0 := am (IsS75.below u32HI0 hb); clear hb ho43; obtain ⟨Ao44, co44, eo44⟩ := Kd.R_slice HO218.out; subst eo44) | ((with_reducible refine gw ?_); first | (refine gl 36 Tryz.func33 #[.pointer (some ⟨g, 0, none⟩), .slice Ao44 y216.length co44] ?_; (with_reducible refine (spec_l1Pick.calls g s0_0 t214 t215 _ _ y216 t219 t220 t221 w0 _ ?side1 ?side2 ?side3 ?side4 ?side5 A40.out).mono ?_); (case side1 => exact u32HI0); (case side2 => exact u32HB); (case side3 => exact rc HO218); (case side4 => exact (Kd.R_reads' HO218.out).2.1); (case side5 => exact far_slice (IsS75.own_ne HI0.out HO218.out (by decide))); rintro e w45 ⟨rfl, hi, hb, hk⟩; refine ⟨_, rfl, ?_⟩; replace HO_197002 := am (Kd.R_mono (Kd.R_keep (IsS75.apart (show IsS75 w0 _ g s0_0 t214 t215 from u32HI0) (ro HO_197002) (by decide)) hk (fun _ h => h.2)) (fun _ h => h.1)); replace BK183 := kp BK183 hk NB183_0; replace BK196 := kp BK196 hk NB196_0; replace HO205 := am (Kd.R_mono (Kd.R_keep (IsS75.apart (show IsS75 w0 _ g s0_0 t214 t215 from u32HI0) (ro HO205) (by decide)) hk (fun _ h => h.2)) (fun _ h => h.1)); replace HO212 := am (Kd.R_mono (Kd.R_keep (IsS75.apart (show IsS75 w0 _ g s0_0 t214 t215 from u32HI0) (ro HO212) (by decide)) hk (fun _ h => h.2)) (fun _ h => h.1)); replace HO218 := am (Kd.R_mono (Kd.R_keep (IsS75.apart (show IsS75 w0 _ g s0_0 t214 t215 from u32HI0) (ro HO218) (by decide)) hk (fun _ h => h.2)) (fun _ h => h.1)); replace HK := am (KeepBut.trans u32HK hk (.inl rfl)); replace HB := am (hb); replace HI0 := am (hi); clear hb hk hi; have hnb46 := NB196_183.out; have hnc46 := NB183_196.out; have hnb47 := NB196_0.out; have hnc47 := NB0_196.out; obtain ⟨z48_0, y48_0, z48_1, y48_1, z48_2, y48_2, z48_3, y48_3⟩ := cl4 BK196)) | ((with_reducible refine gate_builtin (b := .append) (xs := #[.tmp 48, .tmp 52]) rfl ?_); at_builtin; refine Kd.R_append k81 w.heap.size rfl (.tmp 48) (.tmp 52) 38 81 (.agg #[(.string ⟨#[]⟩), (.string ⟨#[]⟩)]) 32 rfl Tryz.underlying38 info81 rfl (by decide) (by omega) (.slice Ao31 x197002_1.length co31) x197002_1 (⟨t206, t219⟩ : S81) [.string t206, .string t219] (fun _ => True) (fun _ => False) rfl rfl ?aP (fun _ hk => hk.elim) ?aF ?aO (Below.refl _ _) ?aS ?aL ?_; (case aP => exact k81_mkM _ _ _ (⟨t206, t219⟩ : S81)); (case aF => exact (fun _ _ => trivial)); (case aO => exact (ro HO_197002)); (case aS => exact (keep_size (w := w) (g := g) (row := none) u32HK)); (case aL => have := LMc41.out; omega); intro v223 w49 ho hb hg hat; rw [← Ny222.out] at ho; have n0_ := am (blk_grown (g := gb183) (o := .cells #[.int .i64 0, .string (⟨#[]⟩ : ByteArray), .slice none 0 0, .string (⟨#[]⟩ : ByteArray)] 40 (0, 0)) (bk BK183) hg (Kd.R_ne HO_197002.out BK183.out (by decide))); have n1_ := am (blk_grown (g := gb196) (o := .cells #[.int .i64 t187, .string t193, .slice Ao31 x197002_1.length co31, .string (⟨#[]⟩ : ByteArray)] 40 (0, 0)) (bk BK196) hg (Kd.R_ne HO_197002.out BK196.out (by decide))); have n2_ := am (IsS75.grown u32HI0 hg (IsS75.own_ne HI0.out HO_197002.out (by decide))); have n3_ := am (Kd.R_over' (ro HO205) (Kd.R_typed (ro HO_197002)) (by decide) hg); have n4_ := am (Kd.R_over' (ro HO212) (Kd.R_typed (ro HO_197002)) (by decide) hg); have n5_ := am (Kd.R_over' (ro HO218) (Kd.R_typed (ro HO_197002)) (by decide) hg); have n6_ := am (below_weaken u32HB HL.out hb); have n7_ := am (KeepBut.trans u32HK (KeepBut.of_grown hg g) (Kd.R_base2 HO_197002.out)); have n8_ := am (ho); clear BK183; clear BK196; clear HI0; clear HO205; clear HO212; clear HO218; clear HB; clear HK; clear HO_197002; have BK183 := n0_; have BK196 := n1_; have HI0 := n2_; have HO205 := n3_; have HO212 := n4_; have HO218 := n5_; have HB := n6_; have HK := n7_; have HO224 := n8_; clear n0_ n1_ n2_ n3_ n4_ n5_ n6_ n7_ n8_; clear ho hb hg hat; obtain ⟨Ao50, co50, eo50⟩ := Kd.R_slice HO224.out; subst eo50; obtain ⟨z51_0, y51_0, z51_1, y51_1, z51_2, y51_2, z51_3, y51_3⟩ := cl4 BK196))
    go_roundg k1
    case measure => have := HK1.out; omega
    case rel => exact ⟨(wrap64 (x4_1 + 1)), (t220), (t221), (y222), (.slice Ao50 y222.length co50), rs, H', ⟨by have := HK1.out; omega⟩, ⟨rj (Kd.R_types HO224.out BK196.out (by decide)) (fun _ hk => trivial)⟩, ⟨by (with_reducible repeat (first | refine blk_drewN ?_ _ | refine blk_drew ?_ | refine blk_alloc ?_ _)); refine blk_far ?_ NB183_196.out _; (with_reducible repeat (first | refine blk_drewN ?_ _ | refine blk_drew ?_ | refine blk_alloc ?_ _)); exact BK183.out⟩, ⟨pt0 BK196⟩, ⟨u32HI0⟩, ⟨u32HK⟩, ⟨u32HB⟩⟩
   rw [if_neg c39] at H
   have c39b0 : (t206.toList == ([107, 105, 110, 100] : List UInt8)) = false := beq_eq_false_iff_ne.mpr c39
   have c39b1 : (t206.toList != ([107, 105, 110, 100] : List UInt8)) = true := bne_iff_ne.mpr c39
   (first | rw [c39b0] | (simp only [i64_w, i32_w]; rw [c39b0]) | skip)
   by_cases c52 : t206.toList = ([99, 97, 99, 104, 101, 45, 99, 111, 110, 116, 114, 111, 108] : List UInt8)
   ·rw [if_pos c52] at H
    have c52b0 : (t206.toList == ([99, 97, 99, 104, 101, 45, 99, 111, 110, 116, 114, 111, 108] : List UInt8)) = true := beq_iff_eq.mpr c52
    have c52b1 : (t206.toList != ([99, 97, 99, 104, 101, 45, 99, 111, 110, 116, 114, 111, 108] : List UInt8)) = false := bne_eq_false_iff_eq.mpr c52
    clear c52
    obtain ⟨y225, hy225⟩ : ∃ y_ : List ByteArray, y_ = (([(⟨#[110, 111, 45, 99, 97, 99, 104, 101]⟩ : ByteArray), (⟨#[110, 111, 45, 115, 116, 111, 114, 101]⟩ : ByteArray), (⟨#[109, 97, 120, 45, 97, 103, 101, 61, 51]⟩ : ByteArray)] : List ByteArray)) := ⟨_, rfl⟩
    replace H : ((spec_l1Pick.f s0_0 t214 t215 y225).bind fun bt228 => (if x197002_1.length < 4398046511104 then (spec_l3DrawReq.l0 k1 (wrap64 (x4_1 + 1)) s0_0 bt228.2.1 bt228.2.2 t187 t193 (x197002_1 ++ [(⟨t206, bt228.1⟩ : S81)]) (⟨#[]⟩ : ByteArray)) else (none))) = some (r1, r2, r3, r4, r5, r6) := by first | (rw [hy225]; with_reducible exact H) | (have H2_ := (Option.bind_some _ _).symm.trans H; rw [hy225]; with_reducible exact H2_) | (have H2_ := (Option.bind_some _ _).symm.trans H; with_reducible exact H2_) | with_reducible exact H | (rw [hy225]; exact H) | exact H
    have Ny225 := am hy225
    clear hy225
    revert H
    refine ok3 fun t228 t229 t230 A53 H => ?_
    (try dsimp only at H)
    revert H
    refine ifn fun c54 H => ?_
    have LMc54 := am c54
    clear c54
    obtain ⟨y231, hy231⟩ : ∃ y_ : List (S81), y_ = (x197002_1 ++ [(⟨t206, t228⟩ : S81)]) := ⟨_, rfl⟩
    replace H : (spec_l3DrawReq.l0 k1 (wrap64 (x4_1 + 1)) s0_0 t229 t230 t187 t193 y231 (⟨#[]⟩ : ByteArray)) = some (r1, r2, r3, r4, r5, r6) := by first | (rw [hy231]; with_reducible exact H) | (have H2_ := (Option.bind_some _ _).symm.trans H; rw [hy231]; with_reducible exact H2_) | (have H2_ := (Option.bind_some _ _).symm.trans H; with_reducible exact H2_) | with_reducible exact H | (rw [hy231]; exact H) | exact H
    have Ny231 := am hy231
    clear hy231
    have H' := am H
    clear H
    go_wp2_with (first | ((with_reducible refine gate_dst (N := 40) rfl ?_); refine Kd.R_lit Kd.string _ 9 ?hg (N := 40) ?hd (xs := ([(⟨#[110, 111, 45, 99, 97, 99, 104, 101]⟩ : ByteArray), (⟨#[110, 111, 45, 115, 116, 111, 114, 101]⟩ : ByteArray), (⟨#[109, 97, 120, 45, 97, 103, 101, 61, 51]⟩ : ByteArray)] : List ByteArray)) (inner := [.string (⟨#[110, 111, 45, 99, 97, 99, 104, 101]⟩ : ByteArray), .string (⟨#[110, 111, 45, 115, 116, 111, 114, 101]⟩ : ByteArray), .string (⟨#[109, 97, 120, 45, 97, 103, 101, 61, 51]⟩ : ByteArray)]) (ok := fun _ => True) (okp := fun _ => True) ?hr ?hp (fun _ hk => hk) trivial (Below.refl _ _) (Nat.le_refl _) (by simp) ?_; (case hd => rfl); (case hg => rfl); (case hr => first | (go_simp; done) | (go_simp; rfl)); (case hp => exact rp); intro v226 w55 ho56 hb hg_ hnew_; clear hg_ hnew_; (first | rw [← Ny225.out] at ho56 | (simp only [Int.reduceToNat] at ho56; rw [← Ny225.out] at ho56)); replace HO_197002 := kr HO_197002 hb; have HO227 := am (Kd.R_lower (Kd.R_new' (Kd.R_new' ho56 (Kd.R_lt (ro HO205))) (Kd.R_lt (ro HO212))) (keep_size (w := w) (g := g) (row := none) u32HK)); replace HO205 := am (Kd.R_elder' (ro HO205) (Kd.R_base ho56) hb); replace HO212 := am (Kd.R_elder' (ro HO212) (Kd.R_base ho56) hb); replace BK183 := kb BK183 hb; replace BK196 := kb BK196 hb; replace HK := am (KeepBut.trans u32HK (KeepBut.of_below hb g none) (.inl rfl)); replace HB := am (below_step u32HB hb); replace HI0 := am (IsS75.below u32HI0 hb); clear hb ho56; obtain ⟨Ao57, co57, eo57⟩ := Kd.R_slice HO227.out; subst eo57) | ((with_reducible refine gw ?_); first | (refine gl 41 Tryz.func33 #[.pointer (some ⟨g, 0, none⟩), .slice Ao57 y225.length co57] ?_; (with_reducible refine (spec_l1Pick.calls g s0_0 t214 t215 _ _ y225 t228 t229 t230 w0 _ ?side1 ?side2 ?side3 ?side4 ?side5 A53.out).mono ?_); (case side1 => exact u32HI0); (case side2 => exact u32HB); (case side3 => exact rc HO227); (case side4 => exact (Kd.R_reads' HO227.out).2.1); (case side5 => exact far_slice (IsS75.own_ne HI0.out HO227.out (by decide))); rintro e w58 ⟨rfl, hi, hb, hk⟩; refine ⟨_, rfl, ?_⟩; replace HO_197002 := am (Kd.R_mono (Kd.R_keep (IsS75.apart (show IsS75 w0 _ g s0_0 t214 t215 from u32HI0) (ro HO_197002) (by decide)) hk (fun _ h => h.2)) (fun _ h => h.1)); replace BK183 := kp BK183 hk NB183_0; replace BK196 := kp BK196 hk NB196_0; replace HO205 := am (Kd.R_mono (Kd.R_keep (IsS75.apart (show IsS75 w0 _ g s0_0 t214 t215 from u32HI0) (ro HO205) (by decide)) hk (fun _ h => h.2)) (fun _ h => h.1)); replace HO212 := am (Kd.R_mono (Kd.R_keep (IsS75.apart (show IsS75 w0 _ g s0_0 t214 t215 from u32HI0) (ro HO212) (by decide)) hk (fun _ h => h.2)) (fun _ h => h.1)); replace HO227 := am (Kd.R_mono (Kd.R_keep (IsS75.apart (show IsS75 w0 _ g s0_0 t214 t215 from u32HI0) (ro HO227) (by decide)) hk (fun _ h => h.2)) (fun _ h => h.1)); replace HK := am (KeepBut.trans u32HK hk (.inl rfl)); replace HB := am (hb); replace HI0 := am (hi); clear hb hk hi; have hnb59 := NB196_183.out; have hnc59 := NB183_196.out; have hnb60 := NB196_0.out; have hnc60 := NB0_196.out; obtain ⟨z61_0, y61_0, z61_1, y61_1, z61_2, y61_2, z61_3, y61_3⟩ := cl4 BK196)) | ((with_reducible refine gate_builtin (b := .append) (xs := #[.tmp 48, .tmp 52]) rfl ?_); at_builtin; refine Kd.R_append k81 w.heap.size rfl (.tmp 48) (.tmp 52) 38 81 (.agg #[(.string ⟨#[]⟩), (.string ⟨#[]⟩)]) 32 rfl Tryz.underlying38 info81 rfl (by decide) (by omega) (.slice Ao31 x197002_1.length co31) x197002_1 (⟨t206, t228⟩ : S81) [.string t206, .string t228] (fun _ => True) (fun _ => False) rfl rfl ?aP (fun _ hk => hk.elim) ?aF ?aO (Below.refl _ _) ?aS ?aL ?_; (case aP => exact k81_mkM _ _ _ (⟨t206, t228⟩ : S81)); (case aF => exact (fun _ _ => trivial)); (case aO => exact (ro HO_197002)); (case aS => exact (keep_size (w := w) (g := g) (row := none) u32HK)); (case aL => have := LMc54.out; omega); intro v232 w62 ho hb hg hat; rw [← Ny231.out] at ho; have n0_ := am (blk_grown (g := gb183) (o := .cells #[.int .i64 0, .string (⟨#[]⟩ : ByteArray), .slice none 0 0, .string (⟨#[]⟩ : ByteArray)] 40 (0, 0)) (bk BK183) hg (Kd.R_ne HO_197002.out BK183.out (by decide))); have n1_ := am (blk_grown (g := gb196) (o := .cells #[.int .i64 t187, .string t193, .slice Ao31 x197002_1.length co31, .string (⟨#[]⟩ : ByteArray)] 40 (0, 0)) (bk BK196) hg (Kd.R_ne HO_197002.out BK196.out (by decide))); have n2_ := am (IsS75.grown u32HI0 hg (IsS75.own_ne HI0.out HO_197002.out (by decide))); have n3_ := am (Kd.R_over' (ro HO205) (Kd.R_typed (ro HO_197002)) (by decide) hg); have n4_ := am (Kd.R_over' (ro HO212) (Kd.R_typed (ro HO_197002)) (by decide) hg); have n5_ := am (Kd.R_over' (ro HO227) (Kd.R_typed (ro HO_197002)) (by decide) hg); have n6_ := am (below_weaken u32HB HL.out hb); have n7_ := am (KeepBut.trans u32HK (KeepBut.of_grown hg g) (Kd.R_base2 HO_197002.out)); have n8_ := am (ho); clear BK183; clear BK196; clear HI0; clear HO205; clear HO212; clear HO227; clear HB; clear HK; clear HO_197002; have BK183 := n0_; have BK196 := n1_; have HI0 := n2_; have HO205 := n3_; have HO212 := n4_; have HO227 := n5_; have HB := n6_; have HK := n7_; have HO233 := n8_; clear n0_ n1_ n2_ n3_ n4_ n5_ n6_ n7_ n8_; clear ho hb hg hat; obtain ⟨Ao63, co63, eo63⟩ := Kd.R_slice HO233.out; subst eo63; obtain ⟨z64_0, y64_0, z64_1, y64_1, z64_2, y64_2, z64_3, y64_3⟩ := cl4 BK196))
    go_roundg k1
    case measure => have := HK1.out; omega
    case rel => exact ⟨(wrap64 (x4_1 + 1)), (t229), (t230), (y231), (.slice Ao63 y231.length co63), rs, H', ⟨by have := HK1.out; omega⟩, ⟨rj (Kd.R_types HO233.out BK196.out (by decide)) (fun _ hk => trivial)⟩, ⟨by (with_reducible repeat (first | refine blk_drewN ?_ _ | refine blk_drew ?_ | refine blk_alloc ?_ _)); refine blk_far ?_ NB183_196.out _; (with_reducible repeat (first | refine blk_drewN ?_ _ | refine blk_drew ?_ | refine blk_alloc ?_ _)); exact BK183.out⟩, ⟨pt0 BK196⟩, ⟨u32HI0⟩, ⟨u32HK⟩, ⟨u32HB⟩⟩
   rw [if_neg c52] at H
   have c52b0 : (t206.toList == ([99, 97, 99, 104, 101, 45, 99, 111, 110, 116, 114, 111, 108] : List UInt8)) = false := beq_eq_false_iff_ne.mpr c52
   have c52b1 : (t206.toList != ([99, 97, 99, 104, 101, 45, 99, 111, 110, 116, 114, 111, 108] : List UInt8)) = true := bne_iff_ne.mpr c52
   by_cases c65 : t206.toList = ([105, 102, 45, 110, 111, 110, 101, 45, 109, 97, 116, 99, 104] : List UInt8)
   rotate_left
   ·rw [if_neg c65] at H
    have c65b0 : (t206.toList == ([105, 102, 45, 110, 111, 110, 101, 45, 109, 97, 116, 99, 104] : List UInt8)) = false := beq_eq_false_iff_ne.mpr c65
    have c65b1 : (t206.toList != ([105, 102, 45, 110, 111, 110, 101, 45, 109, 97, 116, 99, 104] : List UInt8)) = true := bne_iff_ne.mpr c65
    revert H
    refine ifn fun c78 H => ?_
    have LMc78 := am c78
    clear c78
    obtain ⟨y243, hy243⟩ : ∃ y_ : List (S81), y_ = (x197002_1 ++ [(⟨t206, t213⟩ : S81)]) := ⟨_, rfl⟩
    replace H : (spec_l3DrawReq.l0 k1 (wrap64 (x4_1 + 1)) s0_0 t214 t215 t187 t193 y243 (⟨#[]⟩ : ByteArray)) = some (r1, r2, r3, r4, r5, r6) := by first | (rw [hy243]; with_reducible exact H) | (have H2_ := (Option.bind_some _ _).symm.trans H; rw [hy243]; with_reducible exact H2_) | (have H2_ := (Option.bind_some _ _).symm.trans H; with_reducible exact H2_) | with_reducible exact H | (rw [hy243]; exact H) | exact H
    have Ny243 := am hy243
    clear hy243
    have H' := am H
    clear H
    have hnb79 := NB196_183.out
    have hnc79 := NB183_196.out
    have hnb80 := NB196_0.out
    have hnc80 := NB0_196.out
    obtain ⟨z81_0, y81_0, z81_1, y81_1, z81_2, y81_2, z81_3, y81_3⟩ := cl4 BK196
    go_wp2_with (first | ((with_reducible refine gate_builtin (b := .append) (xs := #[.tmp 48, .tmp 52]) rfl ?_); at_builtin; refine Kd.R_append k81 w.heap.size rfl (.tmp 48) (.tmp 52) 38 81 (.agg #[(.string ⟨#[]⟩), (.string ⟨#[]⟩)]) 32 rfl Tryz.underlying38 info81 rfl (by decide) (by omega) (.slice Ao31 x197002_1.length co31) x197002_1 (⟨t206, t213⟩ : S81) [.string t206, .string t213] (fun _ => True) (fun _ => False) rfl rfl ?aP (fun _ hk => hk.elim) ?aF ?aO (Below.refl _ _) ?aS ?aL ?_; (case aP => exact k81_mkM _ _ _ (⟨t206, t213⟩ : S81)); (case aF => exact (fun _ _ => trivial)); (case aO => exact (ro HO_197002)); (case aS => exact (keep_size (w := w) (g := g) (row := none) u32HK)); (case aL => have := LMc78.out; omega); intro v244 w82 ho hb hg hat; rw [← Ny243.out] at ho; have n0_ := am (blk_grown (g := gb183) (o := .cells #[.int .i64 0, .string (⟨#[]⟩ : ByteArray), .slice none 0 0, .string (⟨#[]⟩ : ByteArray)] 40 (0, 0)) (bk BK183) hg (Kd.R_ne HO_197002.out BK183.out (by decide))); have n1_ := am (blk_grown (g := gb196) (o := .cells #[.int .i64 t187, .string t193, .slice Ao31 x197002_1.length co31, .string (⟨#[]⟩ : ByteArray)] 40 (0, 0)) (bk BK196) hg (Kd.R_ne HO_197002.out BK196.out (by decide))); have n2_ := am (IsS75.grown u32HI0 hg (IsS75.own_ne HI0.out HO_197002.out (by decide))); have n3_ := am (Kd.R_over' (ro HO205) (Kd.R_typed (ro HO_197002)) (by decide) hg); have n4_ := am (Kd.R_over' (ro HO212) (Kd.R_typed (ro HO_197002)) (by decide) hg); have n5_ := am (below_weaken u32HB HL.out hb); have n6_ := am (KeepBut.trans u32HK (KeepBut.of_grown hg g) (Kd.R_base2 HO_197002.out)); have n7_ := am (ho); clear BK183; clear BK196; clear HI0; clear HO205; clear HO212; clear HB; clear HK; clear HO_197002; have BK183 := n0_; have BK196 := n1_; have HI0 := n2_; have HO205 := n3_; have HO212 := n4_; have HB := n5_; have HK := n6_; have HO245 := n7_; clear n0_ n1_ n2_ n3_ n4_ n5_ n6_ n7_; clear ho hb hg hat; obtain ⟨Ao83, co83, eo83⟩ := Kd.R_slice HO245.out; subst eo83; obtain ⟨z84_0, y84_0, z84_1, y84_1, z84_2, y84_2, z84_3, y84_3⟩ := cl4 BK196))
    go_roundg k1
    case measure => have := HK1.out; omega
    case rel => exact ⟨(wrap64 (x4_1 + 1)), (t214), (t215), (y243), (.slice Ao83 y243.length co83), rs, H', ⟨by have := HK1.out; omega⟩, ⟨rj (Kd.R_types HO245.out BK196.out (by decide)) (fun _ hk => trivial)⟩, ⟨by (with_reducible repeat (first | refine blk_drewN ?_ _ | refine blk_drew ?_ | refine blk_alloc ?_ _)); refine blk_far ?_ NB183_196.out _; (with_reducible repeat (first | refine blk_drewN ?_ _ | refine blk_drew ?_ | refine blk_alloc ?_ _)); exact BK183.out⟩, ⟨pt0 BK196⟩, ⟨u32HI0⟩, ⟨u32HK⟩, ⟨u32HB⟩⟩
   rw [if_pos c65] at H
   have c65b0 : (t206.toList == ([105, 102, 45, 110, 111, 110, 101, 45, 109, 97, 116, 99, 104] : List UInt8)) = true := beq_iff_eq.mpr c65
   have c65b1 : (t206.toList != ([105, 102, 45, 110, 111, 110, 101, 45, 109, 97, 116, 99, 104] : List UInt8)) = false := bne_eq_false_iff_eq.mpr c65
   clear c65
   obtain ⟨y234, hy234⟩ : ∃ y_ : List ByteArray, y_ = (([(⟨#[97]⟩ : ByteArray), (⟨#[98]⟩ : ByteArray)] : List ByteArray)) := ⟨_, rfl⟩
   replace H : ((spec_l1Pick.f s0_0 t214 t215 y234).bind fun bt237 => (if x197002_1.length < 4398046511104 then (spec_l3DrawReq.l0 k1 (wrap64 (x4_1 + 1)) s0_0 bt237.2.1 bt237.2.2 t187 t193 (x197002_1 ++ [(⟨t206, bt237.1⟩ : S81)]) (⟨#[]⟩ : ByteArray)) else (none))) = some (r1, r2, r3, r4, r5, r6) := by first | (rw [hy234]; with_reducible exact H) | (have H2_ := (Option.bind_some _ _).symm.trans H; rw [hy234]; with_reducible exact H2_) | (have H2_ := (Option.bind_some _ _).symm.trans H; with_reducible exact H2_) | with_reducible exact H | (rw [hy234]; exact H) | exact H
   have Ny234 := am hy234
   clear hy234
   revert H
   refine ok3 fun t237 t238 t239 A66 H => ?_
   (try dsimp only at H)
   revert H
   refine ifn fun c67 H => ?_
   have LMc67 := am c67
   clear c67
   obtain ⟨y240, hy240⟩ : ∃ y_ : List (S81), y_ = (x197002_1 ++ [(⟨t206, t237⟩ : S81)]) := ⟨_, rfl⟩
   replace H : (spec_l3DrawReq.l0 k1 (wrap64 (x4_1 + 1)) s0_0 t238 t239 t187 t193 y240 (⟨#[]⟩ : ByteArray)) = some (r1, r2, r3, r4, r5, r6) := by first | (rw [hy240]; with_reducible exact H) | (have H2_ := (Option.bind_some _ _).symm.trans H; rw [hy240]; with_reducible exact H2_) | (have H2_ := (Option.bind_some _ _).symm.trans H; with_reducible exact H2_) | with_reducible exact H | (rw [hy240]; exact H) | exact H
   have Ny240 := am hy240
   clear hy240
   have H' := am H
   clear H
   go_wp2_with (first | ((with_reducible refine gate_dst (N := 45) rfl ?_); refine Kd.R_lit Kd.string _ 9 ?hg (N := 45) ?hd (xs := ([(⟨#[97]⟩ : ByteArray), (⟨#[98]⟩ : ByteArray)] : List ByteArray)) (inner := [.string (⟨#[97]⟩ : ByteArray), .string (⟨#[98]⟩ : ByteArray)]) (ok := fun _ => True) (okp := fun _ => True) ?hr ?hp (fun _ hk => hk) trivial (Below.refl _ _) (Nat.le_refl _) (by simp) ?_; (case hd => rfl); (case hg => rfl); (case hr => first | (go_simp; done) | (go_simp; rfl)); (case hp => exact rp); intro v235 w68 ho69 hb hg_ hnew_; clear hg_ hnew_; (first | rw [← Ny234.out] at ho69 | (simp only [Int.reduceToNat] at ho69; rw [← Ny234.out] at ho69)); replace HO_197002 := kr HO_197002 hb; have HO236 := am (Kd.R_lower (Kd.R_new' (Kd.R_new' ho69 (Kd.R_lt (ro HO205))) (Kd.R_lt (ro HO212))) (keep_size (w := w) (g := g) (row := none) u32HK)); replace HO205 := am (Kd.R_elder' (ro HO205) (Kd.R_base ho69) hb); replace HO212 := am (Kd.R_elder' (ro HO212) (Kd.R_base ho69) hb); replace BK183 := kb BK183 hb; replace BK196 := kb BK196 hb; replace HK := am (KeepBut.trans u32HK (KeepBut.of_below hb g none) (.inl rfl)); replace HB := am (below_step u32HB hb); replace HI0 := am (IsS75.below u32HI0 hb); clear hb ho69; obtain ⟨Ao70, co70, eo70⟩ := Kd.R_slice HO236.out; subst eo70) | ((with_reducible refine gw ?_); first | (refine gl 46 Tryz.func33 #[.pointer (some ⟨g, 0, none⟩), .slice Ao70 y234.length co70] ?_; (with_reducible refine (spec_l1Pick.calls g s0_0 t214 t215 _ _ y234 t237 t238 t239 w0 _ ?side1 ?side2 ?side3 ?side4 ?side5 A66.out).mono ?_); (case side1 => exact u32HI0); (case side2 => exact u32HB); (case side3 => exact rc HO236); (case side4 => exact (Kd.R_reads' HO236.out).2.1); (case side5 => exact far_slice (IsS75.own_ne HI0.out HO236.out (by decide))); rintro e w71 ⟨rfl, hi, hb, hk⟩; refine ⟨_, rfl, ?_⟩; replace HO_197002 := am (Kd.R_mono (Kd.R_keep (IsS75.apart (show IsS75 w0 _ g s0_0 t214 t215 from u32HI0) (ro HO_197002) (by decide)) hk (fun _ h => h.2)) (fun _ h => h.1)); replace BK183 := kp BK183 hk NB183_0; replace BK196 := kp BK196 hk NB196_0; replace HO205 := am (Kd.R_mono (Kd.R_keep (IsS75.apart (show IsS75 w0 _ g s0_0 t214 t215 from u32HI0) (ro HO205) (by decide)) hk (fun _ h => h.2)) (fun _ h => h.1)); replace HO212 := am (Kd.R_mono (Kd.R_keep (IsS75.apart (show IsS75 w0 _ g s0_0 t214 t215 from u32HI0) (ro HO212) (by decide)) hk (fun _ h => h.2)) (fun _ h => h.1)); replace HO236 := am (Kd.R_mono (Kd.R_keep (IsS75.apart (show IsS75 w0 _ g s0_0 t214 t215 from u32HI0) (ro HO236) (by decide)) hk (fun _ h => h.2)) (fun _ h => h.1)); replace HK := am (KeepBut.trans u32HK hk (.inl rfl)); replace HB := am (hb); replace HI0 := am (hi); clear hb hk hi; have hnb72 := NB196_183.out; have hnc72 := NB183_196.out; have hnb73 := NB196_0.out; have hnc73 := NB0_196.out; obtain ⟨z74_0, y74_0, z74_1, y74_1, z74_2, y74_2, z74_3, y74_3⟩ := cl4 BK196)) | ((with_reducible refine gate_builtin (b := .append) (xs := #[.tmp 48, .tmp 52]) rfl ?_); at_builtin; refine Kd.R_append k81 w.heap.size rfl (.tmp 48) (.tmp 52) 38 81 (.agg #[(.string ⟨#[]⟩), (.string ⟨#[]⟩)]) 32 rfl Tryz.underlying38 info81 rfl (by decide) (by omega) (.slice Ao31 x197002_1.length co31) x197002_1 (⟨t206, t237⟩ : S81) [.string t206, .string t237] (fun _ => True) (fun _ => False) rfl rfl ?aP (fun _ hk => hk.elim) ?aF ?aO (Below.refl _ _) ?aS ?aL ?_; (case aP => exact k81_mkM _ _ _ (⟨t206, t237⟩ : S81)); (case aF => exact (fun _ _ => trivial)); (case aO => exact (ro HO_197002)); (case aS => exact (keep_size (w := w) (g := g) (row := none) u32HK)); (case aL => have := LMc67.out; omega); intro v241 w75 ho hb hg hat; rw [← Ny240.out] at ho; have n0_ := am (blk_grown (g := gb183) (o := .cells #[.int .i64 0, .string (⟨#[]⟩ : ByteArray), .slice none 0 0, .string (⟨#[]⟩ : ByteArray)] 40 (0, 0)) (bk BK183) hg (Kd.R_ne HO_197002.out BK183.out (by decide))); have n1_ := am (blk_grown (g := gb196) (o := .cells #[.int .i64 t187, .string t193, .slice Ao31 x197002_1.length co31, .string (⟨#[]⟩ : ByteArray)] 40 (0, 0)) (bk BK196) hg (Kd.R_ne HO_197002.out BK196.out (by decide))); have n2_ := am (IsS75.grown u32HI0 hg (IsS75.own_ne HI0.out HO_197002.out (by decide))); have n3_ := am (Kd.R_over' (ro HO205) (Kd.R_typed (ro HO_197002)) (by decide) hg); have n4_ := am (Kd.R_over' (ro HO212) (Kd.R_typed (ro HO_197002)) (by decide) hg); have n5_ := am (Kd.R_over' (ro HO236) (Kd.R_typed (ro HO_197002)) (by decide) hg); have n6_ := am (below_weaken u32HB HL.out hb); have n7_ := am (KeepBut.trans u32HK (KeepBut.of_grown hg g) (Kd.R_base2 HO_197002.out)); have n8_ := am (ho); clear BK183; clear BK196; clear HI0; clear HO205; clear HO212; clear HO236; clear HB; clear HK; clear HO_197002; have BK183 := n0_; have BK196 := n1_; have HI0 := n2_; have HO205 := n3_; have HO212 := n4_; have HO236 := n5_; have HB := n6_; have HK := n7_; have HO242 := n8_; clear n0_ n1_ n2_ n3_ n4_ n5_ n6_ n7_ n8_; clear ho hb hg hat; obtain ⟨Ao76, co76, eo76⟩ := Kd.R_slice HO242.out; subst eo76; obtain ⟨z77_0, y77_0, z77_1, y77_1, z77_2, y77_2, z77_3, y77_3⟩ := cl4 BK196))
   go_roundg k1
   case measure => have := HK1.out; omega
   case rel => exact ⟨(wrap64 (x4_1 + 1)), (t238), (t239), (y240), (.slice Ao76 y240.length co76), rs, H', ⟨by have := HK1.out; omega⟩, ⟨rj (Kd.R_types HO242.out BK196.out (by decide)) (fun _ hk => trivial)⟩, ⟨by (with_reducible repeat (first | refine blk_drewN ?_ _ | refine blk_drew ?_ | refine blk_alloc ?_ _)); refine blk_far ?_ NB183_196.out _; (with_reducible repeat (first | refine blk_drewN ?_ _ | refine blk_drew ?_ | refine blk_alloc ?_ _)); exact BK183.out⟩, ⟨pt0 BK196⟩, ⟨u32HI0⟩, ⟨u32HK⟩, ⟨u32HB⟩⟩

/-! ### spec_DrawFeed: function 8 -/
theorem u8HB {p : Prop} (h : p := by repeat (first | (with_reducible first | exact HB.out | apply below_alloc | apply pw_below_drewN | apply below_drew1 | refine below_set ?_ GE246.out | refine below_set ?_ (IsS75.ge HI250.out) | refine below_set ?_ GE266.out) | exact HB.out)) : p := h
theorem u8HI250 {p : Prop} (h : p := by repeat (first | (with_reducible first | exact HI250.out | apply IsS75.alloc | apply IsS75.drewN | apply IsS75.drew | apply IsS75.set_1 | apply IsS75.set_2 | apply IsS75.far (p := ⟨gb246, _, none⟩) (hne := NB250_246.out) | apply IsS75.far (p := ⟨gb266, _, none⟩) (hne := NB250_266.out)) | exact HI250.out)) : p := h
mutual
def spec_DrawFeed.l0 : Nat → ByteArray → Int → List Int → Int → Int → Option (ByteArray × Bool × ByteArray)
 | 0, _, _, _, _, _ => none
 | k + 1, x5, x6, x251000, x251001, x251002 => (spec_l1Below.f x251000 x251001 x251002 4).bind fun bt251 => (if x6 < bt251.1 then ((spec_l3DrawReq.f k x251000 bt251.2.1 bt251.2.2).bind fun bt254 => ((spec_ReqText.f k bt254.1 bt254.2.1 bt254.2.2.1 bt254.2.2.2.1).bind fun t262 => (if x5.size + t262.size ≤ 9223372036854775807 then (spec_DrawFeed.l0 k (x5 ++ t262) (wrap64 (x6 + 1)) x251000 bt254.2.2.2.2.1 bt254.2.2.2.2.2) else (none)))) else ((spec_l1Below.f x251000 bt251.2.1 bt251.2.2 (wrap64 ((x5.size : Int) + 1))).bind fun bt263 => (if 0 ≤ bt263.1 then (if bt263.1 ≤ (x5.size : Int) then ((spec_l1Below.f x251000 bt263.2.1 bt263.2.2 12).bind fun bt267 => (if bt267.1 = 0 then (some (x5.extract 0 (bt263.1 : Int).toNat, true, x5.extract (bt263.1 : Int).toNat x5.size)) else (if bt267.1 = 1 then ((spec_l1Pick.f x251000 bt267.2.1 bt267.2.2 (([(⟨#[120, 13, 10, 13, 10]⟩ : ByteArray), (⟨#[13, 10, 13, 10]⟩ : ByteArray), (⟨#[71, 69, 84, 32, 47, 32, 72, 84, 84, 80, 47, 49, 46, 49, 13, 10]⟩ : ByteArray), (⟨#[99, 111, 110, 116, 101, 110, 116, 45, 108, 101, 110, 103, 116, 104, 58, 32, 49, 50, 49, 13, 10, 13, 10]⟩ : ByteArray)] : List ByteArray))).bind fun bt273 => (if (x5.extract (bt263.1 : Int).toNat x5.size).size + bt273.1.size ≤ 9223372036854775807 then (some (x5.extract 0 (bt263.1 : Int).toNat, false, (x5.extract (bt263.1 : Int).toNat x5.size) ++ bt273.1)) else (none))) else (if bt267.1 = 2 then ((spec_l1Once.f x251000 bt267.2.1 bt267.2.2 3).bind fun bt276 => (if bt276.1 = true then (spec_DrawFeed.l1 k (x5.extract (bt263.1 : Int).toNat x5.size) (x5.extract 0 (bt263.1 : Int).toNat) false) else (some (x5.extract 0 (bt263.1 : Int).toNat, false, x5.extract (bt263.1 : Int).toNat x5.size)))) else (some (x5.extract 0 (bt263.1 : Int).toNat, false, x5.extract (bt263.1 : Int).toNat x5.size)))))) else (none)) else (none))))
def spec_DrawFeed.l1 : Nat → ByteArray → ByteArray → Bool → Option (ByteArray × Bool × ByteArray)
 | 0, _, _, _ => none
 | k + 1, x5, x267000, x267001 => if (x5.size : Int) < 1300 then (if x5.size + 10 ≤ 9223372036854775807 then (spec_DrawFeed.l1 k (x5 ++ (⟨#[48, 49, 50, 51, 52, 53, 54, 55, 56, 57]⟩ : ByteArray)) x267000 x267001) else (none)) else (some (x267000, x267001, x5))
end
def spec_DrawFeed.f (k : Nat) (l0 : List Int) : Option (ByteArray × Bool × ByteArray) := (spec_l1New.f k l0).bind fun bt247 => (spec_DrawFeed.l0 k (⟨#[]⟩ : ByteArray) 0 bt247.1 bt247.2.1 bt247.2.2)
set_option maxHeartbeats 8000000 in
set_option maxRecDepth 100000 in
theorem spec_DrawFeed.calls (k : Nat) (A0 : Option Addr) (c0 : Nat) (l0 : List Int) (r1 : ByteArray) (r2 : Bool) (r3 : ByteArray) (w : World) (hr0 : Kd.C (Kd.int .u8) w A0 l0.length l0) (hc0 : l0.length ≤ c0) (h : spec_DrawFeed.f k l0 = some (r1, r2, r3)) :
  Calls Tryz.prog 8 #[.slice A0 l0.length c0] w fun e w' => e = .returned (.tuple #[.agg #[.string r1, .bool r2], .string r3]) ∧ Below w.heap.size w w' := by
 have hu25 := Tryz.underlying25
 have HR0 := am hr0
 have HC0 := am hc0
 clear hr0 hc0
 have HB := am (Below.refl w.heap.size w)
 unfold spec_DrawFeed.f at h
 have H := h
 clear h
 revert H
 refine ok3 fun t247 t248 t249 A2 H => ?_
 (try dsimp only at H)
 have H' := am H
 clear H
 go_enter Tryz.func8, Tryz.ntmps8
 go_wp2_with ((with_reducible refine gw ?_); first | (refine bx 2 #[.string (⟨#[]⟩ : ByteArray), .bool false] 25 ?_; intro gb246 hg w3 hbox hb; have BK246 := am (hbox); have GW246 := am (sz hg : w.heap.size ≤ gb246); have GE246 := am (sz hg : w.heap.size ≤ gb246); replace HB := am (below_step bl hb); clear hb hbox hg) | (refine gl 10 Tryz.func29 #[.slice A0 l0.length c0] ?_; (with_reducible refine (spec_l1New.calls k _ _ l0 t247 t248 t249 w _ ?side1 ?side2 ?side3 A2.out).mono ?_); (case side1 => exact u8HB); (case side2 => exact HR0.out); (case side3 => exact HC0.out); rintro e w4 ⟨g250, rfl, hi, hb, hb2⟩; refine ⟨_, rfl, ?_⟩; replace HB := am (hb); have HI250 := am (hi); have NB250_246 := am (IsS75.ne_blk hi (blk_below (g := gb246) (o := .cells #[.string (⟨#[]⟩ : ByteArray), .bool false] 25 (0, 0)) (bk BK246) hb2) (by decide)); have NB246_250 := am (Ne.symm (IsS75.ne_blk hi (blk_below (g := gb246) (o := .cells #[.string (⟨#[]⟩ : ByteArray), .bool false] 25 (0, 0)) (bk BK246) hb2) (by decide))); replace BK246 := am (blk_below (g := gb246) (o := .cells #[.string (⟨#[]⟩ : ByteArray), .bool false] 25 (0, 0)) (bk BK246) hb2); clear hb hb2 hi))
 (try simp only [Act.put, List.setIfInBounds_toArray, List.set_cons_zero, List.set_cons_succ])
 go_loopg [5, 6] k (fun kq v5 v6 w' => ∃ (x5_1 : ByteArray) (x6_1 : Int) (x251001_1 : Int) (x251002_1 : Int), v5 = .string x5_1 ∧ v6 = .int .i64 x6_1 ∧ Aside0 (spec_DrawFeed.l0 kq x5_1 x6_1 t247 x251001_1 x251002_1 = some (r1, r2, r3)) ∧ Aside0 (kq ≤ k) ∧ Aside0 (w'.heap[gb246]? = some (.cells #[.string (⟨#[]⟩ : ByteArray), .bool false] 25 (0, 0))) ∧ Aside0 (IsS75 w w' g250 t247 x251001_1 x251002_1) ∧ Aside0 (Below w.heap.size w w'))
 case atStart => exact ⟨((⟨#[]⟩ : ByteArray)), (0), (t248), (t249), rs, rs, H', ⟨Nat.le_refl _⟩, ⟨by (with_reducible repeat (first | refine blk_drewN ?_ _ | refine blk_drew ?_ | refine blk_alloc ?_ _)); exact BK246.out⟩, ⟨u8HI250⟩, ⟨u8HB⟩⟩
 case round =>
  clear H'
  try clear c2
  try clear p2
  obtain ⟨x5_1, x6_1, x251001_1, x251002_1, rfl, rfl, HA, HK1, BK246, HI250, HB⟩ := hrel
  cases gk with
  | zero => exact absurd HA.out (by simp [spec_DrawFeed.l0])
  | succ k1 =>
   have H := HA.out
   clear HA
   simp only [spec_DrawFeed.l0] at H
   revert H
   refine ok3 fun t251 t252 t253 A5 H => ?_
   (try dsimp only at H)
   have HH6 := am H
   clear H
   go_upto_if 14 with ((with_reducible refine gw ?_); first | (refine gl 13 Tryz.func30 #[.pointer (some ⟨g250, 0, none⟩), .int .i64 4] ?_; (with_reducible refine (spec_l1Below.calls g250 t247 x251001_1 x251002_1 4 t251 t252 t253 w _ ?side1 ?side2 A5.out).mono ?_); (case side1 => exact u8HI250); (case side2 => exact u8HB); rintro e w7 ⟨rfl, hi, hb, hk⟩; refine ⟨_, rfl, ?_⟩; replace BK246 := kp BK246 hk NB246_250; replace HB := am (hb); replace HI250 := am (hi); clear hb hk hi))
   have H := HH6.out
   clear HH6
   by_cases c8 : x6_1 < t251
   ·rw [if_pos c8] at H
    have c8b0 := decide_eq_true c8
    clear c8
    (first | rw [c8b0] | (simp only [i64_w, i32_w]; rw [c8b0]) | skip)
    revert H
    refine ok6 fun t254 t255 t256 t259 t260 t261 A9 H => ?_
    (try dsimp only at H)
    revert H
    refine ok1 fun t262 A10 H => ?_
    revert H
    refine ifn fun c11 H => ?_
    have c11b0 := eq_true c11
    have c11b1 := decide_eq_true c11
    try have c11b2 := eq_false (Nat.not_lt.2 c11)
    have H' := am H
    clear H
    go_wp2_with ((with_reducible refine gw ?_); first | (refine gl 19 Tryz.func32 #[.pointer (some ⟨g250, 0, none⟩)] ?_; (with_reducible refine (spec_l3DrawReq.calls k1 g250 t247 t252 t253 t254 t255 t256 t259 t260 t261 w _ ?side1 ?side2 A9.out).mono ?_); (case side1 => exact u8HI250); (case side2 => exact u8HB); rintro e w12 ⟨v257, rfl, ho0, hi, hb, hk⟩; refine ⟨_, rfl, ?_⟩; replace BK246 := kp BK246 hk NB246_250; have HO258 := am (Kd.R_lower ho0 (below_size u8HB)); replace HB := am (hb); replace HI250 := am (hi); clear hb hk hi ho0; obtain ⟨Ao13, co13, eo13⟩ := Kd.R_slice HO258.out; subst eo13) | (refine gl 20 Tryz.func31 #[.agg #[.int .i64 t254, .string t255, .slice Ao13 t256.length co13, .string t259]] ?_; (with_reducible refine (spec_ReqText.calls k1 t254 t255 _ _ t256 t259 t262 _ ?side1 ?side2 A10.out).mono ?_); (case side1 => exact rc HO258); (case side2 => exact (Kd.R_reads' HO258.out).2.1); rintro e w14 ⟨rfl, hb⟩; refine ⟨_, rfl, ?_⟩; replace HO258 := kr HO258 hb; replace BK246 := kb BK246 hb; replace HB := am (below_step u8HB hb); replace HI250 := am (IsS75.below u8HI250 hb); clear hb))
    go_roundg k1
    case measure => have := HK1.out; omega
    case rel => exact ⟨(x5_1 ++ t262), (wrap64 (x6_1 + 1)), (t260), (t261), rs, rs, H', ⟨by have := HK1.out; omega⟩, ⟨by (with_reducible repeat (first | refine blk_drewN ?_ _ | refine blk_drew ?_ | refine blk_alloc ?_ _)); exact BK246.out⟩, ⟨u8HI250⟩, ⟨u8HB⟩⟩
   rw [if_neg c8] at H
   have c8b0 := decide_eq_false c8
   clear c8
   (first | rw [c8b0] | (simp only [i64_w, i32_w]; rw [c8b0]) | skip)
   revert H
   refine ok3 fun t263 t264 t265 A15 H => ?_
   (try dsimp only at H)
   revert H
   refine ifn fun c16 H => ?_
   have c16b0 := eq_true c16
   have c16b1 := decide_eq_true c16
   clear c16
   revert H
   refine ifn fun c17 H => ?_
   have c17b0 := eq_true c17
   have c17b1 := decide_eq_true c17
   clear c17
   have c18b0 := eq_true (od : 0 ≤ t263)
   have c19b0 := eq_true (od : t263 ≤ (x5_1.size : Int))
   revert H
   refine ok3 fun t267 t268 t269 A20 H => ?_
   (try dsimp only at H)
   have HH21 := am H
   clear H
   go_upto_if 36 with ((with_reducible refine gw ?_); first | (refine gl 26 Tryz.func30 #[.pointer (some ⟨g250, 0, none⟩), .int .i64 (wrap64 ((x5_1.size : Int) + 1))] ?_; (with_reducible refine (spec_l1Below.calls g250 t247 t252 t253 (wrap64 ((x5_1.size : Int) + 1)) t263 t264 t265 w _ ?side1 ?side2 A15.out).mono ?_); (case side1 => exact u8HI250); (case side2 => exact u8HB); rintro e w22 ⟨rfl, hi, hb, hk⟩; refine ⟨_, rfl, ?_⟩; replace BK246 := kp BK246 hk NB246_250; replace HB := am (hb); replace HI250 := am (hi); clear hb hk hi) | (refine bx 8 #[.string (⟨#[]⟩ : ByteArray), .bool false] 25 ?_; intro gb266 hg w23 hbox hb; have n0_ := kb BK246 hb; have n1_ := am (IsS75.below u8HI250 hb); have n2_ := am (below_step u8HB hb); have n3_ := am (hbox); have n4_ := am ((by rw [hg]; exact (below_size u8HB) : w.heap.size ≤ gb266)); have n5_ := am ((by rw [hg]; exact (below_size u8HB) : w.heap.size ≤ gb266)); have n6_ := am (nl hg BK246 : gb246 ≠ gb266); have n7_ := am (ng hg BK246 : gb266 ≠ gb246); have n8_ := am ((by rw [hg]; exact Nat.ne_of_lt (IsS75.lt (show IsS75 w _ g250 t247 t264 t265 from u8HI250)) : g250 ≠ gb266)); have n9_ := am ((by rw [hg]; exact Nat.ne_of_gt (IsS75.lt (show IsS75 w _ g250 t247 t264 t265 from u8HI250)) : gb266 ≠ g250)); clear BK246; clear HI250; clear HB; have BK246 := n0_; have HI250 := n1_; have HB := n2_; have BK266 := n3_; have GW266 := n4_; have GE266 := n5_; have NB246_266 := n6_; have NB266_246 := n7_; have NB250_266 := n8_; have NB266_250 := n9_; clear n0_ n1_ n2_ n3_ n4_ n5_ n6_ n7_ n8_ n9_; clear hb hbox hg; have hnb24 := NB266_246.out; have hnc24 := NB246_266.out; have hnb25 := NB266_250.out; have hnc25 := NB250_266.out; obtain ⟨z26_0, y26_0, z26_1, y26_1⟩ := cl2 BK266) | (refine gl 35 Tryz.func30 #[.pointer (some ⟨g250, 0, none⟩), .int .i64 12] ?_; (with_reducible refine (spec_l1Below.calls g250 t247 t264 t265 12 t267 t268 t269 w _ ?side1 ?side2 A20.out).mono ?_); (case side1 => exact u8HI250); (case side2 => exact u8HB); rintro e w27 ⟨rfl, hi, hb, hk⟩; refine ⟨_, rfl, ?_⟩; replace BK246 := am (KeepBut.blk hk (g' := gb246) (o := .cells #[.string (⟨#[]⟩ : ByteArray), .bool false] 25 (0, 0)) (bg1 BK246 NB246_266) NB246_250.out (by simp)); replace BK266 := am (KeepBut.blk hk (g' := gb266) (o := .cells #[.string (x5_1.extract 0 (t263 : Int).toNat), .bool false] 25 (0, 0)) (pt0 BK266) NB266_250.out (by simp)); replace HB := am (hb); replace HI250 := am (hi); clear hb hk hi))
   have H := HH21.out
   clear HH21
   by_cases c28 : t267 = 0
   ·rw [if_pos c28] at H
    have c28b0 : (t267 == 0) = true := beq_iff_eq.mpr c28
    have c28b1 : (t267 != 0) = false := bne_eq_false_iff_eq.mpr c28
    clear c28
    (first | rw [c28b0] | (simp only [i64_w, i32_w]; rw [c28b0]) | skip)
    simp only [Option.some.injEq, Prod.mk.injEq] at H
    obtain ⟨rfl, rfl, rfl⟩ := H
    have hnb29 := NB266_246.out
    have hnc29 := NB246_266.out
    have hnb30 := NB266_250.out
    have hnc30 := NB250_266.out
    obtain ⟨z31_0, y31_0, z31_1, y31_1⟩ := cl2 BK266
    have hnb32 := NB246_250.out
    have hnc32 := NB250_246.out
    obtain ⟨z33_0, y33_0, z33_1, y33_1⟩ := cl2 BK246
    go_wp2
    refine bodyPost_ret (results_ct rfl _ _ gb246 25 #[.string (x5_1.extract 0 (t263 : Int).toNat), .bool true] (0, 0) _ rfl (pt1 BK246 NB246_266) Tryz.underlying25 rfl (by kernel_rfl)) rfl ?_
    exact ⟨rf, u8HB⟩
   rw [if_neg c28] at H
   have c28b0 : (t267 == 0) = false := beq_eq_false_iff_ne.mpr c28
   have c28b1 : (t267 != 0) = true := bne_iff_ne.mpr c28
   (first | rw [c28b0] | (simp only [i64_w, i32_w]; rw [c28b0]) | skip)
   by_cases c34 : t267 = 1
   ·rw [if_pos c34] at H
    have c34b0 : (t267 == 1) = true := beq_iff_eq.mpr c34
    have c34b1 : (t267 != 1) = false := bne_eq_false_iff_eq.mpr c34
    clear c34
    obtain ⟨y270, hy270⟩ : ∃ y_ : List ByteArray, y_ = (([(⟨#[120, 13, 10, 13, 10]⟩ : ByteArray), (⟨#[13, 10, 13, 10]⟩ : ByteArray), (⟨#[71, 69, 84, 32, 47, 32, 72, 84, 84, 80, 47, 49, 46, 49, 13, 10]⟩ : ByteArray), (⟨#[99, 111, 110, 116, 101, 110, 116, 45, 108, 101, 110, 103, 116, 104, 58, 32, 49, 50, 49, 13, 10, 13, 10]⟩ : ByteArray)] : List ByteArray)) := ⟨_, rfl⟩
    replace H : ((spec_l1Pick.f t247 t268 t269 y270).bind fun bt273 => (if (x5_1.extract (t263 : Int).toNat x5_1.size).size + bt273.1.size ≤ 9223372036854775807 then (some (x5_1.extract 0 (t263 : Int).toNat, false, (x5_1.extract (t263 : Int).toNat x5_1.size) ++ bt273.1)) else (none))) = some (r1, r2, r3) := by first | (rw [hy270]; with_reducible exact H) | (have H2_ := (Option.bind_some _ _).symm.trans H; rw [hy270]; with_reducible exact H2_) | (have H2_ := (Option.bind_some _ _).symm.trans H; with_reducible exact H2_) | with_reducible exact H | (rw [hy270]; exact H) | exact H
    have Ny270 := am hy270
    clear hy270
    revert H
    refine ok3 fun t273 t274 t275 A35 H => ?_
    (try dsimp only at H)
    revert H
    refine ifn fun c36 H => ?_
    have c36b0 := eq_true c36
    have c36b1 := decide_eq_true c36
    try have c36b2 := eq_false (Nat.not_lt.2 c36)
    have e1_ : (x5_1.extract t263.toNat x5_1.size).size = x5_1.size - t263.toNat := by rw [ByteArray.size_extract]; omega
    have e2_ : (9223372036854775807 < x5_1.size - t263.toNat + t273.size) = False := by have h_ := c36b2; rw [e1_] at h_; exact h_
    simp only [Option.some.injEq, Prod.mk.injEq] at H
    obtain ⟨rfl, rfl, rfl⟩ := H
    go_wp2_with (first | ((with_reducible refine gate_dst (N := 43) rfl ?_); refine Kd.R_lit Kd.string _ 9 ?hg (N := 43) ?hd (xs := ([(⟨#[120, 13, 10, 13, 10]⟩ : ByteArray), (⟨#[13, 10, 13, 10]⟩ : ByteArray), (⟨#[71, 69, 84, 32, 47, 32, 72, 84, 84, 80, 47, 49, 46, 49, 13, 10]⟩ : ByteArray), (⟨#[99, 111, 110, 116, 101, 110, 116, 45, 108, 101, 110, 103, 116, 104, 58, 32, 49, 50, 49, 13, 10, 13, 10]⟩ : ByteArray)] : List ByteArray)) (inner := [.string (⟨#[120, 13, 10, 13, 10]⟩ : ByteArray), .string (⟨#[13, 10, 13, 10]⟩ : ByteArray), .string (⟨#[71, 69, 84, 32, 47, 32, 72, 84, 84, 80, 47, 49, 46, 49, 13, 10]⟩ : ByteArray), .string (⟨#[99, 111, 110, 116, 101, 110, 116, 45, 108, 101, 110, 103, 116, 104, 58, 32, 49, 50, 49, 13, 10, 13, 10]⟩ : ByteArray)]) (ok := fun _ => True) (okp := fun _ => True) ?hr ?hp (fun _ hk => hk) trivial (Below.refl _ _) (Nat.le_refl _) (by simp) ?_; (case hd => rfl); (case hg => rfl); (case hr => first | (go_simp; done) | (go_simp; rfl)); (case hp => exact rp); intro v271 w37 ho38 hb hg_ hnew_; clear hg_ hnew_; (first | rw [← Ny270.out] at ho38 | (simp only [Int.reduceToNat] at ho38; rw [← Ny270.out] at ho38)); have HO272 := am (Kd.R_lower ho38 (below_size u8HB)); replace BK246 := kb BK246 hb; replace BK266 := kb BK266 hb; replace HB := am (below_step u8HB hb); replace HI250 := am (IsS75.below u8HI250 hb); clear hb ho38; obtain ⟨Ao39, co39, eo39⟩ := Kd.R_slice HO272.out; subst eo39) | ((with_reducible refine gw ?_); first | (refine gl 44 Tryz.func33 #[.pointer (some ⟨g250, 0, none⟩), .slice Ao39 y270.length co39] ?_; (with_reducible refine (spec_l1Pick.calls g250 t247 t268 t269 _ _ y270 t273 t274 t275 w _ ?side1 ?side2 ?side3 ?side4 ?side5 A35.out).mono ?_); (case side1 => exact u8HI250); (case side2 => exact u8HB); (case side3 => exact rc HO272); (case side4 => exact (Kd.R_reads' HO272.out).2.1); (case side5 => exact far_slice (IsS75.own_ne HI250.out HO272.out (by decide))); rintro e w40 ⟨rfl, hi, hb, hk⟩; refine ⟨_, rfl, ?_⟩; replace BK246 := kp BK246 hk NB246_250; replace BK266 := kp BK266 hk NB266_250; replace HO272 := am (Kd.R_mono (Kd.R_keep (IsS75.apart (show IsS75 w _ g250 t247 t268 t269 from u8HI250) (ro HO272) (by decide)) hk (fun _ h => h.2)) (fun _ h => h.1)); replace HB := am (hb); replace HI250 := am (hi); clear hb hk hi; have hnb41 := NB266_246.out; have hnc41 := NB246_266.out; have hnb42 := NB266_250.out; have hnc42 := NB250_266.out; obtain ⟨z43_0, y43_0, z43_1, y43_1⟩ := cl2 BK266; have hnb44 := NB246_250.out; have hnc44 := NB250_246.out; obtain ⟨z45_0, y45_0, z45_1, y45_1⟩ := cl2 BK246)))
    refine bodyPost_ret (results_ct rfl _ _ gb246 25 #[.string (x5_1.extract 0 (t263 : Int).toNat), .bool false] (0, 0) _ rfl (pt0 BK246) Tryz.underlying25 rfl (by kernel_rfl)) rfl ?_
    exact ⟨rf, u8HB⟩
   rw [if_neg c34] at H
   have c34b0 : (t267 == 1) = false := beq_eq_false_iff_ne.mpr c34
   have c34b1 : (t267 != 1) = true := bne_iff_ne.mpr c34
   by_cases c46 : t267 = 2
   rotate_left
   ·rw [if_neg c46] at H
    have c46b0 : (t267 == 2) = false := beq_eq_false_iff_ne.mpr c46
    have c46b1 : (t267 != 2) = true := bne_iff_ne.mpr c46
    simp only [Option.some.injEq, Prod.mk.injEq] at H
    obtain ⟨rfl, rfl, rfl⟩ := H
    have hnb61 := NB266_246.out
    have hnc61 := NB246_266.out
    have hnb62 := NB266_250.out
    have hnc62 := NB250_266.out
    obtain ⟨z63_0, y63_0, z63_1, y63_1⟩ := cl2 BK266
    have hnb64 := NB246_250.out
    have hnc64 := NB250_246.out
    obtain ⟨z65_0, y65_0, z65_1, y65_1⟩ := cl2 BK246
    go_wp2
    refine bodyPost_ret (results_ct rfl _ _ gb246 25 #[.string (x5_1.extract 0 (t263 : Int).toNat), .bool false] (0, 0) _ rfl (pt0 BK246) Tryz.underlying25 rfl (by kernel_rfl)) rfl ?_
    exact ⟨rf, u8HB⟩
   rw [if_pos c46] at H
   have c46b0 : (t267 == 2) = true := beq_iff_eq.mpr c46
   have c46b1 : (t267 != 2) = false := bne_eq_false_iff_eq.mpr c46
   clear c46
   revert H
   refine ok3 fun t276 t277 t278 A47 H => ?_
   (try dsimp only at H)
   by_cases c48 : t276 = true
   rotate_left
   ·replace c48 := Bool.eq_false_iff.mpr c48
    subst c48
    rw [if_neg (show ¬ (false = true) by decide)] at H
    simp only [Option.some.injEq, Prod.mk.injEq] at H
    obtain ⟨rfl, rfl, rfl⟩ := H
    go_wp2_with ((with_reducible refine gw ?_); first | (refine gl 49 Tryz.func34 #[.pointer (some ⟨g250, 0, none⟩), .int .i64 3] ?_; (with_reducible refine (spec_l1Once.calls g250 t247 t268 t269 3 false t277 t278 w _ ?side1 ?side2 A47.out).mono ?_); (case side1 => exact u8HI250); (case side2 => exact u8HB); rintro e w55 ⟨rfl, hi, hb, hk⟩; refine ⟨_, rfl, ?_⟩; replace BK246 := kp BK246 hk NB246_250; replace BK266 := kp BK266 hk NB266_250; replace HB := am (hb); replace HI250 := am (hi); clear hb hk hi; have hnb56 := NB266_246.out; have hnc56 := NB246_266.out; have hnb57 := NB266_250.out; have hnc57 := NB250_266.out; obtain ⟨z58_0, y58_0, z58_1, y58_1⟩ := cl2 BK266; have hnb59 := NB246_250.out; have hnc59 := NB250_246.out; obtain ⟨z60_0, y60_0, z60_1, y60_1⟩ := cl2 BK246))
    refine bodyPost_ret (results_ct rfl _ _ gb246 25 #[.string (x5_1.extract 0 (t263 : Int).toNat), .bool false] (0, 0) _ rfl (pt0 BK246) Tryz.underlying25 rfl (by kernel_rfl)) rfl ?_
    exact ⟨rf, u8HB⟩
   subst c48
   rw [if_pos rfl] at H
   have H' := am H
   clear H
   go_wp2_with ((with_reducible refine gw ?_); first | (refine gl 49 Tryz.func34 #[.pointer (some ⟨g250, 0, none⟩), .int .i64 3] ?_; (with_reducible refine (spec_l1Once.calls g250 t247 t268 t269 3 true t277 t278 w _ ?side1 ?side2 A47.out).mono ?_); (case side1 => exact u8HI250); (case side2 => exact u8HB); rintro e w49 ⟨rfl, hi, hb, hk⟩; refine ⟨_, rfl, ?_⟩; replace BK246 := kp BK246 hk NB246_250; replace BK266 := kp BK266 hk NB266_250; replace HB := am (hb); replace HI250 := am (hi); clear hb hk hi))
   (try simp only [Act.put, List.setIfInBounds_toArray, List.set_cons_zero, List.set_cons_succ])
   go_loopg [5] k1 (fun kq v5 w' => ∃ (x5_2 : ByteArray), v5 = .string x5_2 ∧ Aside0 (spec_DrawFeed.l1 kq x5_2 (x5_1.extract 0 (t263 : Int).toNat) false = some (r1, r2, r3)) ∧ Aside0 (kq ≤ k1) ∧ Aside0 (w'.heap[gb246]? = some (.cells #[.string (⟨#[]⟩ : ByteArray), .bool false] 25 (0, 0))) ∧ Aside0 (w'.heap[gb266]? = some (.cells #[.string (x5_1.extract 0 (t263 : Int).toNat), .bool false] 25 (0, 0))) ∧ Aside0 (Below w.heap.size w w'))
   case atStart => exact ⟨(x5_1.extract (t263 : Int).toNat x5_1.size), rs, H', ⟨Nat.le_refl _⟩, ⟨by (with_reducible repeat (first | refine blk_drewN ?_ _ | refine blk_drew ?_ | refine blk_alloc ?_ _)); exact BK246.out⟩, ⟨by (with_reducible repeat (first | refine blk_drewN ?_ _ | refine blk_drew ?_ | refine blk_alloc ?_ _)); exact BK266.out⟩, ⟨u8HB⟩⟩
   case round =>
    clear H'
    try clear c1
    try clear c2
    try clear p2
    try clear c3
    try clear c4
    try clear p6
    try clear c8
    try clear c8b0
    try clear c11
    try clear c11b0
    try clear c11b1
    try clear c11b2
    try clear c16
    try clear c16b0
    try clear c16b1
    try clear c17
    try clear c17b0
    try clear c17b1
    try clear c18
    try clear c18b0
    try clear c19
    try clear c19b0
    try clear c24
    try clear c25
    try clear c28
    try clear c28b0
    try clear c28b1
    try clear c29
    try clear c30
    try clear c31
    try clear c32
    try clear c33
    try clear c34
    try clear c34b0
    try clear c34b1
    try clear c36
    try clear c36b0
    try clear c36b1
    try clear c36b2
    try clear c41
    try clear c42
    try clear c44
    try clear c46
    try clear c46b0
    try clear c46b1
    try clear c48
    try clear z26_0
    try clear z26_1
    try clear z31_0
    try clear z31_1
    try clear z33_0
    try clear z33_1
    try clear z43_0
    try clear z43_1
    try clear z45_0
    try clear z45_1
    try clear y26_0
    try clear y26_1
    try clear y31_0
    try clear y31_1
    try clear y33_0
    try clear y33_1
    try clear y43_0
    try clear y43_1
    try clear y45_0
    try clear y45_1
    try clear p2
    obtain ⟨x5_2, rfl, HA, HK2, BK246, BK266, HB⟩ := hrel
    cases gk with
    | zero => exact absurd HA.out (by intro h_; cases h_)
    | succ k2 =>
     have H := HA.out
     clear HA
     unfold spec_DrawFeed.l1 at H
     by_cases c50 : (x5_2.size : Int) < 1300
     rotate_left
     ·rw [if_neg c50] at H
      have c50b0 := decide_eq_false c50
      have c50b1 : decide (x5_2.size < 1300) = false := decide_eq_false (by omega)
      clear c50
      simp only [Option.some.injEq, Prod.mk.injEq] at H
      obtain ⟨rfl, rfl, rfl⟩ := H
      have hnb52 := NB266_246.out
      have hnc52 := NB246_266.out
      obtain ⟨z53_0, y53_0, z53_1, y53_1⟩ := cl2 BK266
      obtain ⟨z54_0, y54_0, z54_1, y54_1⟩ := cl2 BK246
      go_wp2
      refine bodyPost_ret (results_ct rfl _ _ gb246 25 #[.string (x5_1.extract 0 (t263 : Int).toNat), .bool false] (0, 0) _ rfl (pt0 BK246) Tryz.underlying25 rfl (by kernel_rfl)) rfl ?_
      exact ⟨rf, bl⟩
     rw [if_pos c50] at H
     have c50b0 := decide_eq_true c50
     have c50b1 : decide (x5_2.size < 1300) = true := decide_eq_true (by omega)
     clear c50
     revert H
     refine ifn fun c51 H => ?_
     have c51b0 := eq_true c51
     have c51b1 := decide_eq_true c51
     try have c51b2 := eq_false (Nat.not_lt.2 c51)
     have H' := am H
     clear H
     go_wp2
     go_roundg k2
     case measure => have := HK1.out; have := HK2.out; omega
     case rel => exact ⟨(x5_2 ++ (⟨#[48, 49, 50, 51, 52, 53, 54, 55, 56, 57]⟩ : ByteArray)), rs, H', ⟨by have := HK1.out; have := HK2.out; omega⟩, ⟨by (with_reducible repeat (first | refine blk_drewN ?_ _ | refine blk_drew ?_ | refine blk_alloc ?_ _)); exact BK246.out⟩, ⟨by (with_reducible repeat (first | refine blk_drewN ?_ _ | refine blk_drew ?_ | refine blk_alloc ?_ _)); exact BK266.out⟩, ⟨u8HB⟩⟩

end Go.Proofs.YtjckfmipegemcaaGreatDoor.All
