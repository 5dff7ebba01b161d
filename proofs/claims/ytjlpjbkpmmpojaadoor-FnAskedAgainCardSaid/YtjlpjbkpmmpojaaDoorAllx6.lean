-- Written by a program of this session (wip/tools/hprint.py) out of the translation. Lean checks it.
import Derived.Test.YtjlpjbkpmmpojaaDoorAllx0
import Derived.Test.YtjlpjbkpmmpojaaDoorAllx1
import Derived.Test.YtjlpjbkpmmpojaaDoorAllx2
import Derived.Test.YtjlpjbkpmmpojaaDoorAllx4
import Derived.Test.YtjlpjbkpmmpojaaDoorAllx5
namespace Go.Proofs.YtjlpjbkpmmpojaaDoor.All
open Go.RowKit Go.Proofs.YtjlpjbkpmmpojaaDoorW.PrintWords Go.Proofs.YtjlpjbkpmmpojaaDoorW.PrintLast Go.Proofs.YtjlpjbkpmmpojaaDoorW.PrintMore
attribute [local go_sem] max2_int min2_int max_two min_two max_three min_three max_four min_four   -- for this text's walks alone
set_option linter.unusedVariables false
set_option linter.unusedSimpArgs false

/-! ### impl_Ask: function 6 -/
def impl_Ask.f (k : Nat) (a0_0 : Int) (a0_1 : ByteArray) (l0_2 : List (S46)) (a0_3 : ByteArray) (l1 : List (S46)) : Option (Int × ByteArray × (List (S46)) × ByteArray) := (impl_Get.f l1 (⟨#[101, 116, 97, 103]⟩ : ByteArray)).bind fun bt529 => ((impl_copyReq.f a0_0 a0_1 l0_2 a0_3).bind fun bt531 => ((impl_Put.f l0_2 (⟨#[105, 102, 45, 110, 111, 110, 101, 45, 109, 97, 116, 99, 104]⟩ : ByteArray) bt529.1).bind fun t538 => (if bt529.2 = true then ((impl_ReqOk.f k bt531.1 bt531.2.1 t538 bt531.2.2.2).bind fun t541 => (if t541 = true then (some (bt531.1, bt531.2.1, t538, bt531.2.2.2)) else ((impl_Drop.f l0_2 (⟨#[105, 102, 45, 110, 111, 110, 101, 45, 109, 97, 116, 99, 104]⟩ : ByteArray)).bind fun t542 => (some (bt531.1, bt531.2.1, t542, bt531.2.2.2))))) else ((impl_Drop.f l0_2 (⟨#[105, 102, 45, 110, 111, 110, 101, 45, 109, 97, 116, 99, 104]⟩ : ByteArray)).bind fun t545 => (some (bt531.1, bt531.2.1, t545, bt531.2.2.2))))))
theorem impl_Ask.mono : ∀ a0 a1 a2 a3 a4 k, LeO (impl_Ask.f k a0 a1 a2 a3 a4) (impl_Ask.f (k + 1) a0 a1 a2 a3 a4) := by
 intro a0 a1 a2 a3 a4 k
 unfold impl_Ask.f
 have m0 := @impl_ReqOk.mono
 exact mo
set_option maxHeartbeats 8000000 in
set_option maxRecDepth 100000 in
theorem impl_Ask.calls (k : Nat) (a0_0 : Int) (a0_1 : ByteArray) (A0_2 : Option Addr) (c0_2 : Nat) (l0_2 : List (S46)) (a0_3 : ByteArray) (A1 : Option Addr) (c1 : Nat) (l1 : List (S46)) (r1 : Int) (r2 : ByteArray) (r3 : List (S46)) (r4 : ByteArray) (w : World) (hr0_2 : Kd.C k46 w A0_2 l0_2.length l0_2) (hc0_2 : l0_2.length ≤ c0_2) (hr1 : Kd.C k46 w A1 l1.length l1) (hc1 : l1.length ≤ c1) (h : impl_Ask.f k a0_0 a0_1 l0_2 a0_3 l1 = some (r1, r2, r3, r4)) :
  Calls Tryd.prog 6 #[.agg #[.int .i64 a0_0, .string a0_1, .slice A0_2 l0_2.length c0_2, .string a0_3], .slice A1 l1.length c1] w fun e w' => ∃ v2_ : Value, e = .returned (.agg #[.int .i64 r1, .string r2, v2_, .string r4]) ∧ Kd.R k46 46 w' w.heap.size (fun _ => True) v2_ r3 ∧ Below w.heap.size w w' := by
 have hu26 := Tryd.underlying26
 have HR0_2 := am hr0_2
 have HC0_2 := am hc0_2
 clear hr0_2 hc0_2
 have HR1 := am hr1
 have HC1 := am hc1
 clear hr1 hc1
 have HB := am (Below.refl w.heap.size w)
 unfold impl_Ask.f at h
 have H := h
 clear h
 revert H
 refine ok2 fun t529 t530 A3 H => ?_
 (try dsimp only at H)
 revert H
 refine ok4 fun t531 t532 t533 t536 A4 H => ?_
 (try dsimp only at H)
 revert H
 refine ok1 fun t538 A5 H => ?_
 by_cases c6 : t530 = true
 rotate_left
 ·replace c6 := Bool.eq_false_iff.mpr c6
  subst c6
  rw [if_neg (show ¬ (false = true) by decide)] at H
  revert H
  refine ok1 fun t545 A40 H => ?_
  simp only [Option.some.injEq, Prod.mk.injEq] at H
  obtain ⟨rfl, rfl, rfl, rfl⟩ := H
  go_enter Tryd.func6, Tryd.ntmps6
  go_wp2_with ((with_reducible refine gw ?_); first | (refine bx 2 #[.int .i64 a0_0, .string a0_1, .slice A0_2 l0_2.length c0_2, .string a0_3] 26 ?_; intro gb527 hg w41 hbox hb; have BK527 := am (hbox); have GW527 := am (sz hg : w.heap.size ≤ gb527); have GE527 := am (sz hg : w.heap.size ≤ gb527); replace HB := am (below_step bl hb); clear hb hbox hg) | (refine bx 4 #[.int .i64 0, .string (⟨#[]⟩ : ByteArray), .slice none 0 0, .string (⟨#[]⟩ : ByteArray)] 26 ?_; intro gb528 hg w42 hbox hb; have BK528 := am (hbox); have GW528 := am (sz hg : w.heap.size ≤ gb528); have GE528 := am (sz hg : w.heap.size ≤ gb528); replace HB := am (below_step bl hb); have NB527_528 := am (nl hg BK527 : gb527 ≠ gb528); have NB528_527 := am (ng hg BK527 : gb528 ≠ gb527); replace BK527 := kb BK527 hb; clear hb hbox hg) | (refine gl 10 Tryd.func15 #[.slice A1 l1.length c1, .string (⟨#[101, 116, 97, 103]⟩ : ByteArray)] ?_; (with_reducible refine (impl_Get.calls _ _ l1 (⟨#[101, 116, 97, 103]⟩ : ByteArray) t529 false _ ?side1 ?side2 A3.out).mono ?_); (case side1 => exact cb HR1); (case side2 => exact HC1.out); rintro e w43 ⟨rfl, hb⟩; refine ⟨_, rfl, ?_⟩; replace BK527 := kb BK527 hb; replace BK528 := kb BK528 hb; replace HB := am (below_step bl hb); clear hb; have hnb44 := NB527_528.out; have hnc44 := NB528_527.out; obtain ⟨z45_0, y45_0, z45_1, y45_1, z45_2, y45_2, z45_3, y45_3⟩ := cl4 BK527) | (refine gl 14 Tryd.func22 #[.agg #[.int .i64 a0_0, .string a0_1, .slice A0_2 l0_2.length c0_2, .string a0_3]] ?_; (with_reducible refine (impl_copyReq.calls a0_0 a0_1 _ _ l0_2 a0_3 t531 t532 t533 t536 _ ?side1 ?side2 A4.out).mono ?_); (case side1 => exact cb HR0_2); (case side2 => exact HC0_2.out); rintro e w46 ⟨v534, rfl, ho0, hb⟩; refine ⟨_, rfl, ?_⟩; have HO535 := am (Kd.R_lower ho0 (below_size bl)); replace BK527 := kb BK527 hb; replace BK528 := kb BK528 hb; replace HB := am (below_step bl hb); clear hb ho0) | (refine bx 7 #[.int .i64 0, .string (⟨#[]⟩ : ByteArray), .slice none 0 0, .string (⟨#[]⟩ : ByteArray)] 26 ?_; intro gb537 hg w47 hbox hb; replace HO535 := am (Kd.R_below (ro HO535) hb); have BK537 := am (hbox); have GW537 := am (sz hg : w.heap.size ≤ gb537); have GE537 := am (sz hg : w.heap.size ≤ gb537); replace HB := am (below_step bl hb); have NB527_537 := am (nl hg BK527 : gb527 ≠ gb537); have NB537_527 := am (ng hg BK527 : gb537 ≠ gb527); replace BK527 := kb BK527 hb; have NB528_537 := am (nl hg BK528 : gb528 ≠ gb537); have NB537_528 := am (ng hg BK528 : gb537 ≠ gb528); replace BK528 := kb BK528 hb; clear hb hbox hg; have hnb48 := NB537_527.out; have hnc48 := NB527_537.out; have hnb49 := NB537_528.out; have hnc49 := NB528_537.out; obtain ⟨z50_0, y50_0, z50_1, y50_1, z50_2, y50_2, z50_3, y50_3⟩ := cl4 BK537; obtain ⟨Ao51, co51, eo51⟩ := Kd.R_slice HO535.out; subst eo51; obtain ⟨z52_0, y52_0, z52_1, y52_1, z52_2, y52_2, z52_3, y52_3⟩ := cl4 BK527) | (refine gl 18 Tryd.func23 #[.slice A0_2 l0_2.length c0_2, .string (⟨#[105, 102, 45, 110, 111, 110, 101, 45, 109, 97, 116, 99, 104]⟩ : ByteArray), .string t529] ?_; (with_reducible refine (impl_Put.calls _ _ l0_2 (⟨#[105, 102, 45, 110, 111, 110, 101, 45, 109, 97, 116, 99, 104]⟩ : ByteArray) t529 t538 _ ?side1 ?side2 A5.out).mono ?_); (case side1 => exact Kd.C_below HR0_2.out bl); (case side2 => exact HC0_2.out); rintro e w53 ⟨v539, rfl, ho0, hb⟩; refine ⟨_, rfl, ?_⟩; have HO540 := am (Kd.R_lower (Kd.R_new' ho0 (Kd.R_lt (rj (Kd.R_types HO535.out BK537.out (by decide)) (fun _ h_ => h_.1)))) (below_size bl)); replace HO535 := am (Kd.R_elder' (rj (Kd.R_types HO535.out BK537.out (by decide)) (fun _ h_ => h_.1)) (Kd.R_base ho0) hb); replace BK527 := kg1 BK527 NB527_537 hb; replace BK528 := kg1 BK528 NB528_537 hb; replace BK537 := am (blk_below (g := gb537) (o := .cells #[.int .i64 t531, .string t532, .slice Ao51 t533.length co51, .string t536] 26 (0, 0)) (pt0 BK537) hb); replace HB := am (below_step bl hb); clear hb ho0; obtain ⟨Ao54, co54, eo54⟩ := Kd.R_slice HO540.out; subst eo54; obtain ⟨z55_0, y55_0, z55_1, y55_1, z55_2, y55_2, z55_3, y55_3⟩ := cl4 BK537; obtain ⟨z56_0, y56_0, z56_1, y56_1, z56_2, y56_2, z56_3, y56_3⟩ := cl4 BK527) | (refine gl 29 Tryd.func24 #[.slice A0_2 l0_2.length c0_2, .string (⟨#[105, 102, 45, 110, 111, 110, 101, 45, 109, 97, 116, 99, 104]⟩ : ByteArray)] ?_; (with_reducible refine (impl_Drop.calls _ _ l0_2 (⟨#[105, 102, 45, 110, 111, 110, 101, 45, 109, 97, 116, 99, 104]⟩ : ByteArray) t545 _ ?side1 ?side2 A40.out).mono ?_); (case side1 => exact Kd.C_below HR0_2.out bl); (case side2 => exact HC0_2.out); rintro e w57 ⟨v546, rfl, ho0, hb⟩; refine ⟨_, rfl, ?_⟩; have HO547 := am (Kd.R_lower (Kd.R_new' (Kd.R_new' ho0 (Kd.R_lt (rj (Kd.R_types HO535.out BK537.out (by decide)) (fun _ h_ => h_.1)))) (Kd.R_lt (rj (Kd.R_types HO540.out BK537.out (by decide)) (fun _ h_ => h_.1)))) (below_size bl)); replace HO535 := am (Kd.R_elder' (rj (Kd.R_types HO535.out BK537.out (by decide)) (fun _ h_ => h_.1)) (Kd.R_base ho0) hb); replace HO540 := am (Kd.R_elder' (rj (Kd.R_types HO540.out BK537.out (by decide)) (fun _ h_ => h_.1)) (Kd.R_base ho0) hb); replace BK527 := kg1 BK527 NB527_537 hb; replace BK528 := kg1 BK528 NB528_537 hb; replace BK537 := am (blk_below (g := gb537) (o := .cells #[.int .i64 t531, .string t532, .slice Ao54 t538.length co54, .string t536] 26 (0, 0)) (pt0 BK537) hb); replace HB := am (below_step bl hb); clear hb ho0; obtain ⟨Ao58, co58, eo58⟩ := Kd.R_slice HO547.out; subst eo58; obtain ⟨z59_0, y59_0, z59_1, y59_1, z59_2, y59_2, z59_3, y59_3⟩ := cl4 BK537; obtain ⟨z60_0, y60_0, z60_1, y60_1, z60_2, y60_2, z60_3, y60_3⟩ := cl4 BK528))
  refine bodyPost_ret (results_cell_row rfl _ _ gb528 26 #[.int .i64 t531, .string t532, .slice Ao58 t545.length co58, .string t536] (0, 0) _ rfl (pt1 BK528 NB528_537) Tryd.underlying26 rfl (by kernel_rfl)) rfl ?_
  exact ⟨_, rf, rj (Kd.R_types (Kd.R_types HO547.out BK537.out (by decide)) BK528.out (by decide)) (fun _ hk => trivial), bl⟩
 subst c6
 rw [if_pos rfl] at H
 revert H
 refine ok1 fun t541 A7 H => ?_
 have HH8 := am H
 clear H
 go_enter Tryd.func6, Tryd.ntmps6
 go_upto_if 26 with (first | ((with_reducible refine gw ?_); first | (refine bx 2 #[.int .i64 a0_0, .string a0_1, .slice A0_2 l0_2.length c0_2, .string a0_3] 26 ?_; intro gb527 hg w9 hbox hb; have BK527 := am (hbox); have GW527 := am (sz hg : w.heap.size ≤ gb527); have GE527 := am (sz hg : w.heap.size ≤ gb527); replace HB := am (below_step bl hb); clear hb hbox hg) | (refine bx 4 #[.int .i64 0, .string (⟨#[]⟩ : ByteArray), .slice none 0 0, .string (⟨#[]⟩ : ByteArray)] 26 ?_; intro gb528 hg w10 hbox hb; have BK528 := am (hbox); have GW528 := am (sz hg : w.heap.size ≤ gb528); have GE528 := am (sz hg : w.heap.size ≤ gb528); replace HB := am (below_step bl hb); have NB527_528 := am (nl hg BK527 : gb527 ≠ gb528); have NB528_527 := am (ng hg BK527 : gb528 ≠ gb527); replace BK527 := kb BK527 hb; clear hb hbox hg) | (refine gl 10 Tryd.func15 #[.slice A1 l1.length c1, .string (⟨#[101, 116, 97, 103]⟩ : ByteArray)] ?_; (with_reducible refine (impl_Get.calls _ _ l1 (⟨#[101, 116, 97, 103]⟩ : ByteArray) t529 true _ ?side1 ?side2 A3.out).mono ?_); (case side1 => exact cb HR1); (case side2 => exact HC1.out); rintro e w11 ⟨rfl, hb⟩; refine ⟨_, rfl, ?_⟩; replace BK527 := kb BK527 hb; replace BK528 := kb BK528 hb; replace HB := am (below_step bl hb); clear hb; have hnb12 := NB527_528.out; have hnc12 := NB528_527.out; obtain ⟨z13_0, y13_0, z13_1, y13_1, z13_2, y13_2, z13_3, y13_3⟩ := cl4 BK527) | (refine gl 14 Tryd.func22 #[.agg #[.int .i64 a0_0, .string a0_1, .slice A0_2 l0_2.length c0_2, .string a0_3]] ?_; (with_reducible refine (impl_copyReq.calls a0_0 a0_1 _ _ l0_2 a0_3 t531 t532 t533 t536 _ ?side1 ?side2 A4.out).mono ?_); (case side1 => exact cb HR0_2); (case side2 => exact HC0_2.out); rintro e w14 ⟨v534, rfl, ho0, hb⟩; refine ⟨_, rfl, ?_⟩; have HO535 := am (Kd.R_lower ho0 (below_size bl)); replace BK527 := kb BK527 hb; replace BK528 := kb BK528 hb; replace HB := am (below_step bl hb); clear hb ho0) | (refine bx 7 #[.int .i64 0, .string (⟨#[]⟩ : ByteArray), .slice none 0 0, .string (⟨#[]⟩ : ByteArray)] 26 ?_; intro gb537 hg w15 hbox hb; replace HO535 := am (Kd.R_below (ro HO535) hb); have BK537 := am (hbox); have GW537 := am (sz hg : w.heap.size ≤ gb537); have GE537 := am (sz hg : w.heap.size ≤ gb537); replace HB := am (below_step bl hb); have NB527_537 := am (nl hg BK527 : gb527 ≠ gb537); have NB537_527 := am (ng hg BK527 : gb537 ≠ gb527); replace BK527 := kb BK527 hb; have NB528_537 := am (nl hg BK528 : gb528 ≠ gb537); have NB537_528 := am (ng hg BK528 : gb537 ≠ gb528); replace BK528 := kb BK528 hb; clear hb hbox hg; have hnb16 := NB537_527.out; have hnc16 := NB527_537.out; have hnb17 := NB537_528.out; have hnc17 := NB528_537.out; obtain ⟨z18_0, y18_0, z18_1, y18_1, z18_2, y18_2, z18_3, y18_3⟩ := cl4 BK537; obtain ⟨Ao19, co19, eo19⟩ := Kd.R_slice HO535.out; subst eo19; obtain ⟨z20_0, y20_0, z20_1, y20_1, z20_2, y20_2, z20_3, y20_3⟩ := cl4 BK527) | (refine gl 18 Tryd.func23 #[.slice A0_2 l0_2.length c0_2, .string (⟨#[105, 102, 45, 110, 111, 110, 101, 45, 109, 97, 116, 99, 104]⟩ : ByteArray), .string t529] ?_; (with_reducible refine (impl_Put.calls _ _ l0_2 (⟨#[105, 102, 45, 110, 111, 110, 101, 45, 109, 97, 116, 99, 104]⟩ : ByteArray) t529 t538 _ ?side1 ?side2 A5.out).mono ?_); (case side1 => exact Kd.C_below HR0_2.out bl); (case side2 => exact HC0_2.out); rintro e w21 ⟨v539, rfl, ho0, hb⟩; refine ⟨_, rfl, ?_⟩; have HO540 := am (Kd.R_lower (Kd.R_new' ho0 (Kd.R_lt (rj (Kd.R_types HO535.out BK537.out (by decide)) (fun _ h_ => h_.1)))) (below_size bl)); replace HO535 := am (Kd.R_elder' (rj (Kd.R_types HO535.out BK537.out (by decide)) (fun _ h_ => h_.1)) (Kd.R_base ho0) hb); replace BK527 := kg1 BK527 NB527_537 hb; replace BK528 := kg1 BK528 NB528_537 hb; replace BK537 := am (blk_below (g := gb537) (o := .cells #[.int .i64 t531, .string t532, .slice Ao19 t533.length co19, .string t536] 26 (0, 0)) (pt0 BK537) hb); replace HB := am (below_step bl hb); clear hb ho0; obtain ⟨Ao22, co22, eo22⟩ := Kd.R_slice HO540.out; subst eo22; obtain ⟨z23_0, y23_0, z23_1, y23_1, z23_2, y23_2, z23_3, y23_3⟩ := cl4 BK537)) | (go_at_call 16; (with_reducible refine (impl_ReqOk.calls k t531 t532 _ _ t538 t536 t541 _ ?side1 ?side2 A7.out).mono ?_); (case side1 => refine (Kd.R_reads' (e := 46) (base := w.heap.size) (ok := fun k_ => (True ∧ some k_ ≠ (.slice Ao19 t533.length co19 : Value).ownBlock)) (n := t538.length) (c := co22) ?_).2.2; exact (rj (Kd.R_types HO540.out BK537.out (by decide)) (fun _ h_ => h_.1))); (case side2 => exact (Kd.R_reads' HO540.out).2.1); rintro e w24 ⟨rfl, hb⟩; replace HO535 := am (Kd.R_below (rj (Kd.R_types HO535.out BK537.out (by decide)) (fun _ h_ => h_.1)) hb); replace HO540 := am (Kd.R_below (rj (Kd.R_types HO540.out BK537.out (by decide)) (fun _ h_ => h_.1)) hb); replace BK527 := kg1 BK527 NB527_537 hb; replace BK528 := kg1 BK528 NB528_537 hb; replace BK537 := am (blk_below (g := gb537) (o := .cells #[.int .i64 t531, .string t532, .slice Ao22 t538.length co22, .string t536] 26 (0, 0)) (pt0 BK537) hb); replace HB := am (below_step bl hb); clear hb))
 have H := HH8.out
 clear HH8
 by_cases c25 : t541 = true
 ·subst c25
  rw [if_pos rfl] at H
  simp only [Option.some.injEq, Prod.mk.injEq] at H
  obtain ⟨rfl, rfl, rfl, rfl⟩ := H
  have hnb26 := NB537_527.out
  have hnc26 := NB527_537.out
  have hnb27 := NB537_528.out
  have hnc27 := NB528_537.out
  obtain ⟨z28_0, y28_0, z28_1, y28_1, z28_2, y28_2, z28_3, y28_3⟩ := cl4 BK537
  have hnb29 := NB528_527.out
  have hnc29 := NB527_528.out
  obtain ⟨z30_0, y30_0, z30_1, y30_1, z30_2, y30_2, z30_3, y30_3⟩ := cl4 BK528
  go_wp2
  refine bodyPost_ret (results_cell_row rfl _ _ gb528 26 #[.int .i64 t531, .string t532, .slice Ao22 t538.length co22, .string t536] (0, 0) _ rfl (pt0 BK528) Tryd.underlying26 rfl (by kernel_rfl)) rfl ?_
  exact ⟨_, rf, rj (Kd.R_types HO540.out BK528.out (by decide)) (fun _ hk => trivial), bl⟩
 replace c25 := Bool.eq_false_iff.mpr c25
 subst c25
 rw [if_neg (show ¬ (false = true) by decide)] at H
 revert H
 refine ok1 fun t542 A31 H => ?_
 simp only [Option.some.injEq, Prod.mk.injEq] at H
 obtain ⟨rfl, rfl, rfl, rfl⟩ := H
 have hnb32 := NB527_528.out
 have hnc32 := NB528_527.out
 have hnb33 := NB527_537.out
 have hnc33 := NB537_527.out
 obtain ⟨z34_0, y34_0, z34_1, y34_1, z34_2, y34_2, z34_3, y34_3⟩ := cl4 BK527
 go_wp2_with ((with_reducible refine gw ?_); first | (refine gl 29 Tryd.func24 #[.slice A0_2 l0_2.length c0_2, .string (⟨#[105, 102, 45, 110, 111, 110, 101, 45, 109, 97, 116, 99, 104]⟩ : ByteArray)] ?_; (with_reducible refine (impl_Drop.calls _ _ l0_2 (⟨#[105, 102, 45, 110, 111, 110, 101, 45, 109, 97, 116, 99, 104]⟩ : ByteArray) t542 _ ?side1 ?side2 A31.out).mono ?_); (case side1 => exact cb HR0_2); (case side2 => exact HC0_2.out); rintro e w35 ⟨v543, rfl, ho0, hb⟩; refine ⟨_, rfl, ?_⟩; have HO544 := am (Kd.R_lower (Kd.R_new' (Kd.R_new' ho0 (Kd.R_lt (ro HO535))) (Kd.R_lt (ro HO540))) (below_size bl)); replace HO535 := am (Kd.R_elder' (ro HO535) (Kd.R_base ho0) hb); replace HO540 := am (Kd.R_elder' (ro HO540) (Kd.R_base ho0) hb); replace BK527 := kb BK527 hb; replace BK528 := kb BK528 hb; replace BK537 := kb BK537 hb; replace HB := am (below_step bl hb); clear hb ho0; obtain ⟨Ao36, co36, eo36⟩ := Kd.R_slice HO544.out; subst eo36; have hnb37 := NB537_528.out; have hnc37 := NB528_537.out; obtain ⟨z38_0, y38_0, z38_1, y38_1, z38_2, y38_2, z38_3, y38_3⟩ := cl4 BK537; obtain ⟨z39_0, y39_0, z39_1, y39_1, z39_2, y39_2, z39_3, y39_3⟩ := cl4 BK528))
 refine bodyPost_ret (results_cell_row rfl _ _ gb528 26 #[.int .i64 t531, .string t532, .slice Ao36 t542.length co36, .string t536] (0, 0) _ rfl (pt1 BK528 NB528_537) Tryd.underlying26 rfl (by kernel_rfl)) rfl ?_
 exact ⟨_, rf, rj (Kd.R_types (Kd.R_types HO544.out BK537.out (by decide)) BK528.out (by decide)) (fun _ hk => trivial), bl⟩

/-! ### laws_sameFields: function 7 -/
attribute [local go_sem high] eqA46
def laws_sameFields.l0 : Nat → List (S46) → List (S46) → Int → Option (Bool)
 | 0, _, _, _ => none
 | k + 1, x0, x1, x5 => if x5 < (x0.length : Int) then (if 0 ≤ x5 then (if x5 < (x1.length : Int) then (if (!((((rd_T46 x0 x5).f0).toList) == (((rd_T46 x1 x5).f0).toList)) || (!((((rd_T46 x0 x5).f1).toList) == (((rd_T46 x1 x5).f1).toList)))) = true then (some false) else (laws_sameFields.l0 k x0 x1 (wrap64 (x5 + 1)))) else (none)) else (none)) else (some true)
def laws_sameFields.f (k : Nat) (l0 : List (S46)) (l1 : List (S46)) : Option (Bool) := if (l0.length : Int) = (l1.length : Int) then (laws_sameFields.l0 k l0 l1 0) else (some false)
theorem laws_sameFields.mono_l : ∀ k, (∀ y0 y1 y2, LeO (laws_sameFields.l0 k y0 y1 y2) (laws_sameFields.l0 (k + 1) y0 y1 y2))
 | 0 => fun _ _ _ r h => by simp [laws_sameFields.l0] at h
 | k + 1 => by
  have ih0 := laws_sameFields.mono_l k
  ·intro y0 y1 y2
   unfold laws_sameFields.l0
   exact mo
theorem laws_sameFields.mono : ∀ a0 a1 k, LeO (laws_sameFields.f k a0 a1) (laws_sameFields.f (k + 1) a0 a1) := by
 intro a0 a1 k
 have ih0 := laws_sameFields.mono_l k
 unfold laws_sameFields.f
 exact mo
set_option maxHeartbeats 8000000 in
set_option maxRecDepth 100000 in
theorem laws_sameFields.calls (k : Nat) (A0 : Option Addr) (c0 : Nat) (l0 : List (S46)) (A1 : Option Addr) (c1 : Nat) (l1 : List (S46)) (r : Bool) (w : World) (hr0 : Kd.C k46 w A0 l0.length l0) (hc0 : l0.length ≤ c0) (hr1 : Kd.C k46 w A1 l1.length l1) (hc1 : l1.length ≤ c1) (h : laws_sameFields.f k l0 l1 = some r) :
  Calls Tryd.prog 7 #[.slice A0 l0.length c0, .slice A1 l1.length c1] w fun e w' => e = .returned (.bool r) ∧ Drawn0 w w' := by
 have hu46 := Tryd.underlying46
 have HR0 := am hr0
 have HC0 := am hc0
 clear hr0 hc0
 have HR1 := am hr1
 have HC1 := am hc1
 clear hr1 hc1
 unfold laws_sameFields.f at h
 have H := h
 clear h
 by_cases c3 : (l0.length : Int) = (l1.length : Int)
 rotate_left
 ·rw [if_neg c3] at H
  have c3b0 : ((l0.length : Int) == (l1.length : Int)) = false := beq_eq_false_iff_ne.mpr c3
  have c3b1 : ((l0.length : Int) != (l1.length : Int)) = true := bne_iff_ne.mpr c3
  have c3b2 : (l0.length == l1.length) = false := by first | simpa using c3 | (simp at c3 ⊢; omega)
  obtain rfl := Option.some.inj H
  go_enter Tryd.func7, Tryd.ntmps7
  go_wp2
  repeat (go_quiet (fail); try go_wp2)
  go_ret
  exact ⟨rs, dr⟩
 rw [if_pos c3] at H
 have c3b0 : ((l0.length : Int) == (l1.length : Int)) = true := beq_iff_eq.mpr c3
 have c3b1 : ((l0.length : Int) != (l1.length : Int)) = false := bne_eq_false_iff_eq.mpr c3
 have c3b2 : (l0.length == l1.length) = true := by first | simpa using c3 | (simp at c3 ⊢; omega)
 clear c3
 have H' := am H
 clear H
 go_enter Tryd.func7, Tryd.ntmps7
 go_wp2
 repeat (go_quiet (fail); try go_wp2)
 (try simp only [Act.put, List.setIfInBounds_toArray, List.set_cons_zero, List.set_cons_succ])
 go_loopg [5] k (fun kq v5 w' => ∃ (x5_1 : Int), v5 = .int .i64 x5_1 ∧ Aside0 (laws_sameFields.l0 kq l0 l1 x5_1 = some r) ∧ Aside0 (kq ≤ k) ∧ Drawn0 w w')
 case atStart => exact ⟨(0), rs, H', ⟨Nat.le_refl _⟩, dr⟩
 case round =>
  clear H'
  try clear c1
  try clear p2
  try clear c3
  try clear c3b0
  try clear c3b1
  try clear c3b2
  obtain ⟨x5_1, rfl, HA, HK1, ⟨m1, rfl⟩⟩ := hrel
  cases gk with
  | zero => exact absurd HA.out (by simp [laws_sameFields.l0])
  | succ k1 =>
   have H := HA.out
   clear HA
   simp only [laws_sameFields.l0] at H
   by_cases c4 : x5_1 < (l0.length : Int)
   rotate_left
   ·rw [if_neg c4] at H
    have c4b0 := decide_eq_false c4
    clear c4
    obtain rfl := Option.some.inj H
    go_wp2
    repeat (go_quiet (fail); try go_wp2)
    go_ret
    exact ⟨rs, dr⟩
   rw [if_pos c4] at H
   have c4b0 := decide_eq_true c4
   clear c4
   revert H
   refine ifn fun c5 H => ?_
   have c5b0 := decide_eq_true c5
   clear c5
   revert H
   refine ifn fun c6 H => ?_
   have c6b0 := decide_eq_true c6
   clear c6
   by_cases c7 : (!((((rd_T46 l0 x5_1).f0).toList) == (((rd_T46 l1 x5_1).f0).toList)) || (!((((rd_T46 l0 x5_1).f1).toList) == (((rd_T46 l1 x5_1).f1).toList)))) = true
   ·rw [if_pos c7] at H
    have c7b0 : (!((((rd_T46 l0 x5_1).f0).toList) == (((rd_T46 l1 x5_1).f0).toList)) || (!((((rd_T46 l0 x5_1).f1).toList) == (((rd_T46 l1 x5_1).f1).toList)))) = true := c7
    clear c7
    obtain rfl := Option.some.inj H
    have p548 : 0 ≤ (x5_1 : Int) := od
    have q548 : x5_1 < (l0.length : Int) := od
    obtain ⟨ad548, e548, hx548_0, hx548_1⟩ := at_T46 HR0.out x5_1 p548 q548
    cases e548
    replace p548 := eq_true p548
    replace q548 := eq_true q548
    have p549 : 0 ≤ (x5_1 : Int) := od
    have q549 : x5_1 < (l1.length : Int) := od
    obtain ⟨ad549, e549, hx549_0, hx549_1⟩ := at_T46 HR1.out x5_1 p549 q549
    cases e549
    replace p549 := eq_true p549
    replace q549 := eq_true q549
    go_wp2
    repeat (go_quiet (fail); try go_wp2)
    go_ret
    exact ⟨rs, dr⟩
   rw [if_neg c7] at H
   have c7b0 : (!((((rd_T46 l0 x5_1).f0).toList) == (((rd_T46 l1 x5_1).f0).toList)) || (!((((rd_T46 l0 x5_1).f1).toList) == (((rd_T46 l1 x5_1).f1).toList)))) = false := Bool.eq_false_iff.mpr c7
   clear c7
   have H' := am H
   clear H
   have p548 : 0 ≤ (x5_1 : Int) := od
   have q548 : x5_1 < (l0.length : Int) := od
   obtain ⟨ad548, e548, hx548_0, hx548_1⟩ := at_T46 HR0.out x5_1 p548 q548
   cases e548
   replace p548 := eq_true p548
   replace q548 := eq_true q548
   have p549 : 0 ≤ (x5_1 : Int) := od
   have q549 : x5_1 < (l1.length : Int) := od
   obtain ⟨ad549, e549, hx549_0, hx549_1⟩ := at_T46 HR1.out x5_1 p549 q549
   cases e549
   replace p549 := eq_true p549
   replace q549 := eq_true q549
   go_wp2
   repeat (go_quiet (fail); try go_wp2)
   go_roundg k1
   case measure => have := HK1.out; omega
   case rel => exact ⟨(wrap64 (x5_1 + 1)), rs, H', ⟨by have := HK1.out; omega⟩, dr⟩

/-! ### spec_Get: function 25 -/
def spec_Get.f (k : Nat) (l0 : List (S46)) (a1 : ByteArray) : Option (ByteArray × Bool) := (spec_l2At.f k l0 a1).bind fun t550 => (if t550 < 0 then (some ((⟨#[]⟩ : ByteArray), false)) else (if 0 ≤ t550 then (if t550 < (l0.length : Int) then (some ((rd_T46 l0 t550).f1, true)) else (none)) else (none)))
theorem spec_Get.mono : ∀ a0 a1 k, LeO (spec_Get.f k a0 a1) (spec_Get.f (k + 1) a0 a1) := by
 intro a0 a1 k
 unfold spec_Get.f
 have m0 := @spec_l2At.mono
 exact mo
set_option maxHeartbeats 8000000 in
set_option maxRecDepth 100000 in
theorem spec_Get.calls (k : Nat) (A0 : Option Addr) (c0 : Nat) (l0 : List (S46)) (a1 : ByteArray) (r1 : ByteArray) (r2 : Bool) (w : World) (hr0 : Kd.C k46 w A0 l0.length l0) (hc0 : l0.length ≤ c0) (h : spec_Get.f k l0 a1 = some (r1, r2)) :
  Calls Tryd.prog 25 #[.slice A0 l0.length c0, .string a1] w fun e w' => e = .returned (.tuple #[.string r1, .bool r2]) ∧ Drawn0 w w' := by
 have HR0 := am hr0
 have HC0 := am hc0
 clear hr0 hc0
 unfold spec_Get.f at h
 have H := h
 clear h
 revert H
 refine ok1 fun t550 A3 H => ?_
 by_cases c4 : t550 < 0
 ·rw [if_pos c4] at H
  have c4b0 := decide_eq_true c4
  clear c4
  simp only [Option.some.injEq, Prod.mk.injEq] at H
  obtain ⟨rfl, rfl⟩ := H
  go_enter Tryd.func25, Tryd.ntmps25
  go_wp2_with ((with_reducible refine gw ?_); first | (refine gl 9 Tryd.func36 #[.slice A0 l0.length c0, .string a1] ?_; (with_reducible refine (spec_l2At.calls k _ _ l0 a1 t550 _ ?side1 ?side2 A3.out).mono ?_); (case side1 => exact cc HR0); (case side2 => exact HC0.out); rintro e w' ⟨rfl, ⟨nd, rfl⟩⟩; refine ⟨_, rfl, ?_⟩))
  go_ret2
  exact ⟨rs, dr⟩
 rw [if_neg c4] at H
 have c4b0 := decide_eq_false c4
 clear c4
 revert H
 refine ifn fun c5 H => ?_
 have c5b0 := decide_eq_true c5
 clear c5
 revert H
 refine ifn fun c6 H => ?_
 have c6b0 := decide_eq_true c6
 clear c6
 simp only [Option.some.injEq, Prod.mk.injEq] at H
 obtain ⟨rfl, rfl⟩ := H
 go_enter Tryd.func25, Tryd.ntmps25
 go_wp2_with ((with_reducible refine gw ?_); first | (refine gl 9 Tryd.func36 #[.slice A0 l0.length c0, .string a1] ?_; (with_reducible refine (spec_l2At.calls k _ _ l0 a1 t550 _ ?side1 ?side2 A3.out).mono ?_); (case side1 => exact cc HR0); (case side2 => exact HC0.out); rintro e w' ⟨rfl, ⟨nd, rfl⟩⟩; refine ⟨_, rfl, ?_⟩; have p551 : 0 ≤ (t550 : Int) := od; have q551 : t550 < (l0.length : Int) := od; obtain ⟨ad551, e551, hx551_0, hx551_1⟩ := at_T46 HR0.out t550 p551 q551; cases e551; replace p551 := eq_true p551; replace q551 := eq_true q551))
 go_ret2
 exact ⟨rs, dr⟩

/-! ### spec_l3Path: function 39 -/
def spec_l3Path.l0 : Nat → ByteArray → Int → Option (Bool)
 | 0, _, _ => none
 | k + 1, x0, x3 => if x3 < (x0.size : Int) then (if 0 ≤ x3 then (if (bt x0 x3) < 33 then (some false) else (if (bt x0 x3) > 126 then (some false) else (spec_l3Path.l0 k x0 (wrap64 (x3 + 1))))) else (none)) else ((spec_l1In.f (x0.size : Int) 1 60).bind fun t552 => (if t552 = true then (if 0 < (x0.size : Int) then (some ((bt x0 0) == 47)) else (none)) else (some false)))
def spec_l3Path.f (k : Nat) (a0 : ByteArray) : Option (Bool) := spec_l3Path.l0 k a0 0
theorem spec_l3Path.mono_l : ∀ k, (∀ y0 y1, LeO (spec_l3Path.l0 k y0 y1) (spec_l3Path.l0 (k + 1) y0 y1))
 | 0 => fun _ _ r h => by simp [spec_l3Path.l0] at h
 | k + 1 => by
  have ih0 := spec_l3Path.mono_l k
  ·intro y0 y1
   unfold spec_l3Path.l0
   exact mo
theorem spec_l3Path.mono : ∀ a0 k, LeO (spec_l3Path.f k a0) (spec_l3Path.f (k + 1) a0) := by
 intro a0 k
 have ih0 := spec_l3Path.mono_l k
 unfold spec_l3Path.f
 exact mo
set_option maxHeartbeats 8000000 in
set_option maxRecDepth 100000 in
theorem spec_l3Path.calls (k : Nat) (a0 : ByteArray) (r : Bool) (w : World) (h : spec_l3Path.f k a0 = some r) :
  Calls Tryd.prog 39 #[.string a0] w fun e w' => e = .returned (.bool r) ∧ Drawn0 w w' := by
 unfold spec_l3Path.f at h
 have H := h
 clear h
 have H' := am H
 clear H
 go_enter Tryd.func39, Tryd.ntmps39
 go_wp2
 (try simp only [Act.put, List.setIfInBounds_toArray, List.set_cons_zero, List.set_cons_succ])
 go_loopg [3] k (fun kq v3 w' => ∃ (x3_1 : Int), v3 = .int .i64 x3_1 ∧ Aside0 (spec_l3Path.l0 kq a0 x3_1 = some r) ∧ Aside0 (kq ≤ k) ∧ Drawn0 w w')
 case atStart => exact ⟨(0), rs, H', ⟨Nat.le_refl _⟩, dr⟩
 case round =>
  clear H'
  obtain ⟨x3_1, rfl, HA, HK1, ⟨m1, rfl⟩⟩ := hrel
  cases gk with
  | zero => exact absurd HA.out (by simp [spec_l3Path.l0])
  | succ k1 =>
   have H := HA.out
   clear HA
   simp only [spec_l3Path.l0] at H
   by_cases c2 : x3_1 < (a0.size : Int)
   rotate_left
   ·rw [if_neg c2] at H
    have c2b0 := decide_eq_false c2
    clear c2
    revert H
    refine ok1 fun t552 A8 H => ?_
    by_cases c9 : t552 = true
    rotate_left
    ·replace c9 := Bool.eq_false_iff.mpr c9
     subst c9
     rw [if_neg (show ¬ (false = true) by decide)] at H
     obtain rfl := Option.some.inj H
     go_wp2_with ((with_reducible refine gw ?_); first | (refine gl 22 Tryd.func35 #[.int .i64 (a0.size : Int), .int .i64 1, .int .i64 60] ?_; (with_reducible refine (spec_l1In.calls (a0.size : Int) 1 60 false _ A8.out).mono ?_); rintro e w' ⟨rfl, ⟨nd, rfl⟩⟩; refine ⟨_, rfl, ?_⟩))
     go_ret
     exact ⟨rs, dr⟩
    subst c9
    rw [if_pos rfl] at H
    revert H
    refine ifn fun c10 H => ?_
    have c10b0 := decide_eq_true c10
    have c10b1 : decide (0 < a0.size) = true := decide_eq_true (by omega)
    clear c10
    obtain rfl := Option.some.inj H
    go_wp2_with ((with_reducible refine gw ?_); first | (refine gl 22 Tryd.func35 #[.int .i64 (a0.size : Int), .int .i64 1, .int .i64 60] ?_; (with_reducible refine (spec_l1In.calls (a0.size : Int) 1 60 true _ A8.out).mono ?_); rintro e w' ⟨rfl, ⟨nd, rfl⟩⟩; refine ⟨_, rfl, ?_⟩; have p11 : 0 ≤ (0 : Int) := (by omega); have q11 : 0 < a0.size := (by have : (0 : Int) < (a0.size : Int) := od; omega); have hx11 : ∀ h : 0 < a0.size, ((a0[0]'h).toNat : Int) = bt a0 0 := bt_at a0 0; clear p11; have qi11 : (0 < (a0.size : Int)) = True := eq_true (od); replace q11 := eq_true q11))
    go_ret
    exact ⟨rs, dr⟩
   rw [if_pos c2] at H
   have c2b0 := decide_eq_true c2
   clear c2
   revert H
   refine ifn fun c3 H => ?_
   have c3b0 := decide_eq_true c3
   clear c3
   by_cases c5 : (bt a0 x3_1) < 33
   ·rw [if_pos c5] at H
    have c5b0 := decide_eq_true c5
    clear c5
    obtain rfl := Option.some.inj H
    have p4 : 0 ≤ (x3_1 : Int) := od
    have q4 : x3_1 < (a0.size : Int) := od
    have hx4 := bt_at a0 x3_1
    replace p4 := eq_true p4
    replace q4 := eq_true q4
    go_wp2
    go_ret
    exact ⟨rs, dr⟩
   rw [if_neg c5] at H
   have c5b0 := decide_eq_false c5
   clear c5
   by_cases c7 : (bt a0 x3_1) > 126
   ·rw [if_pos c7] at H
    have c7b0 := decide_eq_true c7
    clear c7
    obtain rfl := Option.some.inj H
    have p4 : 0 ≤ (x3_1 : Int) := od
    have q4 : x3_1 < (a0.size : Int) := od
    have hx4 := bt_at a0 x3_1
    replace p4 := eq_true p4
    replace q4 := eq_true q4
    have p6 : 0 ≤ (x3_1 : Int) := od
    have q6 : x3_1 < (a0.size : Int) := od
    have hx6 := bt_at a0 x3_1
    replace p6 := eq_true p6
    replace q6 := eq_true q6
    go_wp2
    go_ret
    exact ⟨rs, dr⟩
   rw [if_neg c7] at H
   have c7b0 := decide_eq_false c7
   clear c7
   have H' := am H
   clear H
   have p4 : 0 ≤ (x3_1 : Int) := od
   have q4 : x3_1 < (a0.size : Int) := od
   have hx4 := bt_at a0 x3_1
   replace p4 := eq_true p4
   replace q4 := eq_true q4
   have p6 : 0 ≤ (x3_1 : Int) := od
   have q6 : x3_1 < (a0.size : Int) := od
   have hx6 := bt_at a0 x3_1
   replace p6 := eq_true p6
   replace q6 := eq_true q6
   go_wp2
   go_roundg k1
   case measure => have := HK1.out; omega
   case rel => exact ⟨(wrap64 (x3_1 + 1)), rs, H', ⟨by have := HK1.out; omega⟩, dr⟩

/-! ### spec_TokenOk: function 52 -/
def spec_TokenOk.l0 : Nat → ByteArray → Int → Option (Bool)
 | 0, _, _ => none
 | k + 1, x0, x3 => if x3 < (x0.size : Int) then (if 0 ≤ x3 then (if (bt x0 x3) < 97 then (if (bt x0 x3) < 48 then (if (bt x0 x3) = 45 then (spec_TokenOk.l0 k x0 (wrap64 (x3 + 1))) else (some false)) else (if (bt x0 x3) > 57 then (if (bt x0 x3) = 45 then (spec_TokenOk.l0 k x0 (wrap64 (x3 + 1))) else (some false)) else (spec_TokenOk.l0 k x0 (wrap64 (x3 + 1))))) else (if (bt x0 x3) > 122 then (if (bt x0 x3) < 48 then (if (bt x0 x3) = 45 then (spec_TokenOk.l0 k x0 (wrap64 (x3 + 1))) else (some false)) else (if (bt x0 x3) > 57 then (if (bt x0 x3) = 45 then (spec_TokenOk.l0 k x0 (wrap64 (x3 + 1))) else (some false)) else (spec_TokenOk.l0 k x0 (wrap64 (x3 + 1))))) else (spec_TokenOk.l0 k x0 (wrap64 (x3 + 1))))) else (none)) else ((spec_l1In.f (x0.size : Int) 1 20).bind fun t553 => (some t553))
def spec_TokenOk.f (k : Nat) (a0 : ByteArray) : Option (Bool) := spec_TokenOk.l0 k a0 0
theorem spec_TokenOk.mono_l : ∀ k, (∀ y0 y1, LeO (spec_TokenOk.l0 k y0 y1) (spec_TokenOk.l0 (k + 1) y0 y1))
 | 0 => fun _ _ r h => by simp [spec_TokenOk.l0] at h
 | k + 1 => by
  have ih0 := spec_TokenOk.mono_l k
  ·intro y0 y1
   unfold spec_TokenOk.l0
   exact mo
theorem spec_TokenOk.mono : ∀ a0 k, LeO (spec_TokenOk.f k a0) (spec_TokenOk.f (k + 1) a0) := by
 intro a0 k
 have ih0 := spec_TokenOk.mono_l k
 unfold spec_TokenOk.f
 exact mo
set_option maxHeartbeats 8000000 in
set_option maxRecDepth 100000 in
theorem spec_TokenOk.calls (k : Nat) (a0 : ByteArray) (r : Bool) (w : World) (h : spec_TokenOk.f k a0 = some r) :
  Calls Tryd.prog 52 #[.string a0] w fun e w' => e = .returned (.bool r) ∧ Drawn0 w w' := by
 unfold spec_TokenOk.f at h
 have H := h
 clear h
 have H' := am H
 clear H
 go_enter Tryd.func52, Tryd.ntmps52
 go_wp2
 (try simp only [Act.put, List.setIfInBounds_toArray, List.set_cons_zero, List.set_cons_succ])
 go_loopg [3] k (fun kq v3 w' => ∃ (x3_1 : Int), v3 = .int .i64 x3_1 ∧ Aside0 (spec_TokenOk.l0 kq a0 x3_1 = some r) ∧ Aside0 (kq ≤ k) ∧ Drawn0 w w')
 case atStart => exact ⟨(0), rs, H', ⟨Nat.le_refl _⟩, dr⟩
 case round =>
  clear H'
  obtain ⟨x3_1, rfl, HA, HK1, ⟨m1, rfl⟩⟩ := hrel
  cases gk with
  | zero => exact absurd HA.out (by simp [spec_TokenOk.l0])
  | succ k1 =>
   have H := HA.out
   clear HA
   simp only [spec_TokenOk.l0] at H
   by_cases c2 : x3_1 < (a0.size : Int)
   rotate_left
   ·rw [if_neg c2] at H
    have c2b0 := decide_eq_false c2
    clear c2
    revert H
    refine ok1 fun t553 A15 H => ?_
    obtain rfl := Option.some.inj H
    go_wp2_with ((with_reducible refine gw ?_); first | (refine gl 34 Tryd.func35 #[.int .i64 (a0.size : Int), .int .i64 1, .int .i64 20] ?_; (with_reducible refine (spec_l1In.calls (a0.size : Int) 1 20 t553 _ A15.out).mono ?_); rintro e w' ⟨rfl, ⟨nd, rfl⟩⟩; refine ⟨_, rfl, ?_⟩))
    go_ret
    exact ⟨rs, dr⟩
   rw [if_pos c2] at H
   have c2b0 := decide_eq_true c2
   clear c2
   revert H
   refine ifn fun c3 H => ?_
   have c3b0 := decide_eq_true c3
   clear c3
   by_cases c5 : (bt a0 x3_1) < 97
   ·rw [if_pos c5] at H
    have c5b0 := decide_eq_true c5
    clear c5
    by_cases c6 : (bt a0 x3_1) < 48
    ·rw [if_pos c6] at H
     have c6b0 := decide_eq_true c6
     clear c6
     by_cases c7 : (bt a0 x3_1) = 45
     rotate_left
     ·rw [if_neg c7] at H
      have c7b0 : ((bt a0 x3_1) == 45) = false := beq_eq_false_iff_ne.mpr c7
      have c7b1 : ((bt a0 x3_1) != 45) = true := bne_iff_ne.mpr c7
      obtain rfl := Option.some.inj H
      have p4 : 0 ≤ (x3_1 : Int) := od
      have q4 : x3_1 < (a0.size : Int) := od
      have hx4 := bt_at a0 x3_1
      replace p4 := eq_true p4
      replace q4 := eq_true q4
      go_wp2
      go_ret
      exact ⟨rs, dr⟩
     rw [if_pos c7] at H
     have c7b0 : ((bt a0 x3_1) == 45) = true := beq_iff_eq.mpr c7
     have c7b1 : ((bt a0 x3_1) != 45) = false := bne_eq_false_iff_eq.mpr c7
     clear c7
     have H' := am H
     clear H
     have p4 : 0 ≤ (x3_1 : Int) := od
     have q4 : x3_1 < (a0.size : Int) := od
     have hx4 := bt_at a0 x3_1
     replace p4 := eq_true p4
     replace q4 := eq_true q4
     go_wp2
     go_roundg k1
     case measure => have := HK1.out; omega
     case rel => exact ⟨(wrap64 (x3_1 + 1)), rs, H', ⟨by have := HK1.out; omega⟩, dr⟩
    rw [if_neg c6] at H
    have c6b0 := decide_eq_false c6
    clear c6
    by_cases c8 : (bt a0 x3_1) > 57
    rotate_left
    ·rw [if_neg c8] at H
     have c8b0 := decide_eq_false c8
     clear c8
     have H' := am H
     clear H
     have p4 : 0 ≤ (x3_1 : Int) := od
     have q4 : x3_1 < (a0.size : Int) := od
     have hx4 := bt_at a0 x3_1
     replace p4 := eq_true p4
     replace q4 := eq_true q4
     go_wp2
     go_roundg k1
     case measure => have := HK1.out; omega
     case rel => exact ⟨(wrap64 (x3_1 + 1)), rs, H', ⟨by have := HK1.out; omega⟩, dr⟩
    rw [if_pos c8] at H
    have c8b0 := decide_eq_true c8
    clear c8
    by_cases c9 : (bt a0 x3_1) = 45
    rotate_left
    ·rw [if_neg c9] at H
     have c9b0 : ((bt a0 x3_1) == 45) = false := beq_eq_false_iff_ne.mpr c9
     have c9b1 : ((bt a0 x3_1) != 45) = true := bne_iff_ne.mpr c9
     obtain rfl := Option.some.inj H
     have p4 : 0 ≤ (x3_1 : Int) := od
     have q4 : x3_1 < (a0.size : Int) := od
     have hx4 := bt_at a0 x3_1
     replace p4 := eq_true p4
     replace q4 := eq_true q4
     go_wp2
     go_ret
     exact ⟨rs, dr⟩
    rw [if_pos c9] at H
    have c9b0 : ((bt a0 x3_1) == 45) = true := beq_iff_eq.mpr c9
    have c9b1 : ((bt a0 x3_1) != 45) = false := bne_eq_false_iff_eq.mpr c9
    clear c9
    have H' := am H
    clear H
    have p4 : 0 ≤ (x3_1 : Int) := od
    have q4 : x3_1 < (a0.size : Int) := od
    have hx4 := bt_at a0 x3_1
    replace p4 := eq_true p4
    replace q4 := eq_true q4
    go_wp2
    go_roundg k1
    case measure => have := HK1.out; omega
    case rel => exact ⟨(wrap64 (x3_1 + 1)), rs, H', ⟨by have := HK1.out; omega⟩, dr⟩
   rw [if_neg c5] at H
   have c5b0 := decide_eq_false c5
   clear c5
   by_cases c10 : (bt a0 x3_1) > 122
   rotate_left
   ·rw [if_neg c10] at H
    have c10b0 := decide_eq_false c10
    clear c10
    have H' := am H
    clear H
    have p4 : 0 ≤ (x3_1 : Int) := od
    have q4 : x3_1 < (a0.size : Int) := od
    have hx4 := bt_at a0 x3_1
    replace p4 := eq_true p4
    replace q4 := eq_true q4
    go_wp2
    go_roundg k1
    case measure => have := HK1.out; omega
    case rel => exact ⟨(wrap64 (x3_1 + 1)), rs, H', ⟨by have := HK1.out; omega⟩, dr⟩
   rw [if_pos c10] at H
   have c10b0 := decide_eq_true c10
   clear c10
   by_cases c11 : (bt a0 x3_1) < 48
   ·rw [if_pos c11] at H
    have c11b0 := decide_eq_true c11
    clear c11
    by_cases c12 : (bt a0 x3_1) = 45
    rotate_left
    ·rw [if_neg c12] at H
     have c12b0 : ((bt a0 x3_1) == 45) = false := beq_eq_false_iff_ne.mpr c12
     have c12b1 : ((bt a0 x3_1) != 45) = true := bne_iff_ne.mpr c12
     obtain rfl := Option.some.inj H
     have p4 : 0 ≤ (x3_1 : Int) := od
     have q4 : x3_1 < (a0.size : Int) := od
     have hx4 := bt_at a0 x3_1
     replace p4 := eq_true p4
     replace q4 := eq_true q4
     go_wp2
     go_ret
     exact ⟨rs, dr⟩
    rw [if_pos c12] at H
    have c12b0 : ((bt a0 x3_1) == 45) = true := beq_iff_eq.mpr c12
    have c12b1 : ((bt a0 x3_1) != 45) = false := bne_eq_false_iff_eq.mpr c12
    clear c12
    have H' := am H
    clear H
    have p4 : 0 ≤ (x3_1 : Int) := od
    have q4 : x3_1 < (a0.size : Int) := od
    have hx4 := bt_at a0 x3_1
    replace p4 := eq_true p4
    replace q4 := eq_true q4
    go_wp2
    go_roundg k1
    case measure => have := HK1.out; omega
    case rel => exact ⟨(wrap64 (x3_1 + 1)), rs, H', ⟨by have := HK1.out; omega⟩, dr⟩
   rw [if_neg c11] at H
   have c11b0 := decide_eq_false c11
   clear c11
   by_cases c13 : (bt a0 x3_1) > 57
   rotate_left
   ·rw [if_neg c13] at H
    have c13b0 := decide_eq_false c13
    clear c13
    have H' := am H
    clear H
    have p4 : 0 ≤ (x3_1 : Int) := od
    have q4 : x3_1 < (a0.size : Int) := od
    have hx4 := bt_at a0 x3_1
    replace p4 := eq_true p4
    replace q4 := eq_true q4
    go_wp2
    go_roundg k1
    case measure => have := HK1.out; omega
    case rel => exact ⟨(wrap64 (x3_1 + 1)), rs, H', ⟨by have := HK1.out; omega⟩, dr⟩
   rw [if_pos c13] at H
   have c13b0 := decide_eq_true c13
   clear c13
   by_cases c14 : (bt a0 x3_1) = 45
   rotate_left
   ·rw [if_neg c14] at H
    have c14b0 : ((bt a0 x3_1) == 45) = false := beq_eq_false_iff_ne.mpr c14
    have c14b1 : ((bt a0 x3_1) != 45) = true := bne_iff_ne.mpr c14
    obtain rfl := Option.some.inj H
    have p4 : 0 ≤ (x3_1 : Int) := od
    have q4 : x3_1 < (a0.size : Int) := od
    have hx4 := bt_at a0 x3_1
    replace p4 := eq_true p4
    replace q4 := eq_true q4
    go_wp2
    go_ret
    exact ⟨rs, dr⟩
   rw [if_pos c14] at H
   have c14b0 : ((bt a0 x3_1) == 45) = true := beq_iff_eq.mpr c14
   have c14b1 : ((bt a0 x3_1) != 45) = false := bne_eq_false_iff_eq.mpr c14
   clear c14
   have H' := am H
   clear H
   have p4 : 0 ≤ (x3_1 : Int) := od
   have q4 : x3_1 < (a0.size : Int) := od
   have hx4 := bt_at a0 x3_1
   replace p4 := eq_true p4
   replace q4 := eq_true q4
   go_wp2
   go_roundg k1
   case measure => have := HK1.out; omega
   case rel => exact ⟨(wrap64 (x3_1 + 1)), rs, H', ⟨by have := HK1.out; omega⟩, dr⟩

/-! ### spec_Trim: function 58 -/
mutual
def spec_Trim.j1 : Nat → ByteArray → Int → Int → Option (ByteArray)
 | 0, _, _, _ => none
 | k + 1, x0, x3, x4 => spec_Trim.l1 k x0 x3 x4
def spec_Trim.l1 : Nat → ByteArray → Int → Int → Option (ByteArray)
 | 0, _, _, _ => none
 | k + 1, x0, x3, x4 => if x4 > x3 then (if 0 ≤ (wrap64 (x4 - 1)) then (if (wrap64 (x4 - 1)) < (x0.size : Int) then (if (bt x0 (wrap64 (x4 - 1))) = 32 then (spec_Trim.l1 k x0 x3 (wrap64 (x4 - 1))) else (if 0 ≤ x3 then (if x3 ≤ x4 then (if x4 ≤ (x0.size : Int) then (some (x0.extract (x3 : Int).toNat (x4 : Int).toNat)) else (none)) else (none)) else (none))) else (none)) else (none)) else (if 0 ≤ x3 then (if x3 ≤ x4 then (if x4 ≤ (x0.size : Int) then (some (x0.extract (x3 : Int).toNat (x4 : Int).toNat)) else (none)) else (none)) else (none))
def spec_Trim.l0 : Nat → ByteArray → Int → Int → Option (ByteArray)
 | 0, _, _, _ => none
 | k + 1, x0, x3, x4 => if x3 < x4 then (if 0 ≤ x3 then (if x3 < (x0.size : Int) then (if (bt x0 x3) = 32 then (spec_Trim.l0 k x0 (wrap64 (x3 + 1)) x4) else (spec_Trim.j1 k x0 x3 x4)) else (none)) else (none)) else (spec_Trim.j1 k x0 x3 x4)
end
def spec_Trim.f (k : Nat) (a0 : ByteArray) : Option (ByteArray) := spec_Trim.l0 k a0 0 (a0.size : Int)
theorem spec_Trim.mono_l : ∀ k, (∀ y0 y1 y2, LeO (spec_Trim.j1 k y0 y1 y2) (spec_Trim.j1 (k + 1) y0 y1 y2)) ∧ (∀ y0 y1 y2, LeO (spec_Trim.l1 k y0 y1 y2) (spec_Trim.l1 (k + 1) y0 y1 y2)) ∧ (∀ y0 y1 y2, LeO (spec_Trim.l0 k y0 y1 y2) (spec_Trim.l0 (k + 1) y0 y1 y2))
 | 0 => ⟨fun _ _ _ r h => by simp [spec_Trim.j1] at h, fun _ _ _ r h => by simp [spec_Trim.l1] at h, fun _ _ _ r h => by simp [spec_Trim.l0] at h⟩
 | k + 1 => by
  obtain ⟨ih0, ih1, ih2⟩ := spec_Trim.mono_l k
  refine ⟨?_, ?_, ?_⟩
  ·intro y0 y1 y2
   unfold spec_Trim.j1
   exact mo
  ·intro y0 y1 y2
   unfold spec_Trim.l1
   exact mo
  ·intro y0 y1 y2
   unfold spec_Trim.l0
   exact mo
theorem spec_Trim.mono : ∀ a0 k, LeO (spec_Trim.f k a0) (spec_Trim.f (k + 1) a0) := by
 intro a0 k
 obtain ⟨ih0, ih1, ih2⟩ := spec_Trim.mono_l k
 unfold spec_Trim.f
 exact mo
set_option maxHeartbeats 8000000 in
set_option maxRecDepth 100000 in
theorem spec_Trim.calls (k : Nat) (a0 : ByteArray) (r : ByteArray) (w : World) (h : spec_Trim.f k a0 = some r) :
  Calls Tryd.prog 58 #[.string a0] w fun e w' => e = .returned (.string r) ∧ Drawn0 w w' := by
 unfold spec_Trim.f at h
 have H := h
 clear h
 have HC2 := am H
 clear H
 go_enter Tryd.func58, Tryd.ntmps58
 go_upto_block 0 with (fail)
 go_cut [3] (fun v3 wc => ∃ (kq : Nat) (x3_1 : Int), v3 = .int .i64 x3_1 ∧ Aside0 (spec_Trim.j1 kq a0 x3_1 (a0.size : Int) = some r) ∧ Aside0 (kq ≤ k) ∧ Drawn0 w wc)
 case first =>
  have H := HC2.out
  clear HC2
  have H' := am H
  clear H
  go_wp2
  (try simp only [Act.put, List.setIfInBounds_toArray, List.set_cons_zero, List.set_cons_succ])
  go_loopg [3] k (fun kq v3 w' => ∃ (x3_1 : Int), v3 = .int .i64 x3_1 ∧ Aside0 (spec_Trim.l0 kq a0 x3_1 (a0.size : Int) = some r) ∧ Aside0 (kq ≤ k) ∧ Drawn0 w w')
  case atStart => exact ⟨(0), rs, H', ⟨Nat.le_refl _⟩, dr⟩
  case round =>
   clear H'
   try clear p2
   obtain ⟨x3_1, rfl, HA, HK1, ⟨m1, rfl⟩⟩ := hrel
   cases gk with
   | zero => exact absurd HA.out (by simp [spec_Trim.l0])
   | succ k1 =>
    have H := HA.out
    clear HA
    simp only [spec_Trim.l0] at H
    by_cases c3 : x3_1 < (a0.size : Int)
    rotate_left
    ·rw [if_neg c3] at H
     have c3b0 := decide_eq_false c3
     clear c3
     (first | rw [c3b0] | (simp only [i64_w, i32_w]; rw [c3b0]) | skip)
     have H' := am H
     clear H
     go_wp2
     go_meet
     case rel => exact ⟨_, (x3_1), rs, H', ⟨by have := HK1.out; first | omega | exact Nat.le_refl _⟩, dr⟩
    rw [if_pos c3] at H
    have c3b0 := decide_eq_true c3
    clear c3
    (first | rw [c3b0] | (simp only [i64_w, i32_w]; rw [c3b0]) | skip)
    revert H
    refine ifn fun c4 H => ?_
    have c4b0 := decide_eq_true c4
    clear c4
    revert H
    refine ifn fun c5 H => ?_
    have c5b0 := decide_eq_true c5
    clear c5
    by_cases c7 : (bt a0 x3_1) = 32
    rotate_left
    ·rw [if_neg c7] at H
     have c7b0 : ((bt a0 x3_1) == 32) = false := beq_eq_false_iff_ne.mpr c7
     have c7b1 : ((bt a0 x3_1) != 32) = true := bne_iff_ne.mpr c7
     have H' := am H
     clear H
     have p6 : 0 ≤ (x3_1 : Int) := od
     have q6 : x3_1 < (a0.size : Int) := od
     have hx6 := bt_at a0 x3_1
     replace p6 := eq_true p6
     replace q6 := eq_true q6
     go_wp2
     go_meet
     case rel => exact ⟨_, (x3_1), rs, H', ⟨by have := HK1.out; first | omega | exact Nat.le_refl _⟩, dr⟩
    rw [if_pos c7] at H
    have c7b0 : ((bt a0 x3_1) == 32) = true := beq_iff_eq.mpr c7
    have c7b1 : ((bt a0 x3_1) != 32) = false := bne_eq_false_iff_eq.mpr c7
    clear c7
    have H' := am H
    clear H
    have p6 : 0 ≤ (x3_1 : Int) := od
    have q6 : x3_1 < (a0.size : Int) := od
    have hx6 := bt_at a0 x3_1
    replace p6 := eq_true p6
    replace q6 := eq_true q6
    go_wp2
    go_roundg k1
    case measure => have := HK1.out; omega
    case rel => exact ⟨(wrap64 (x3_1 + 1)), rs, H', ⟨by have := HK1.out; omega⟩, dr⟩
 case rest =>
  clear HC2
  try clear p2
  try clear c3
  try clear c3b0
  try clear c4
  try clear c4b0
  try clear c5
  try clear c5b0
  try clear p6
  try clear q6
  try clear hx6
  try clear c7
  try clear c7b0
  try clear c7b1
  try clear p2
  try clear p6
  try clear q6
  obtain ⟨kq, x3_1, rfl, HA, HJ1, ⟨mc1, rfl⟩⟩ := hcut
  cases kq with
  | zero => exact absurd HA.out (by simp [spec_Trim.j1])
  | succ kj1 =>
   have H := HA.out
   clear HA
   simp only [spec_Trim.j1] at H
   have H' := am H
   clear H
   go_wp2
   (try simp only [Act.put, List.setIfInBounds_toArray, List.set_cons_zero, List.set_cons_succ])
   go_loopg [4] kj1 (fun kq v4 w' => ∃ (x4_2 : Int), v4 = .int .i64 x4_2 ∧ Aside0 (spec_Trim.l1 kq a0 x3_1 x4_2 = some r) ∧ Aside0 (kq ≤ kj1) ∧ Drawn0 w w')
   case atStart => exact ⟨((a0.size : Int)), rs, H', ⟨Nat.le_refl _⟩, dr⟩
   case round =>
    clear H'
    try clear c1
    try clear p2
    try clear c3
    try clear c3b0
    try clear c4
    try clear c4b0
    try clear c5
    try clear c5b0
    try clear p6
    try clear q6
    try clear hx6
    try clear c7
    try clear c7b0
    try clear c7b1
    try clear p2
    try clear p6
    try clear q6
    obtain ⟨x4_2, rfl, HA, HK2, ⟨m2, rfl⟩⟩ := hrel
    cases gk with
    | zero => exact absurd HA.out (by simp [spec_Trim.l1])
    | succ k2 =>
     have H := HA.out
     clear HA
     simp only [spec_Trim.l1] at H
     by_cases c8 : x4_2 > x3_1
     rotate_left
     ·rw [if_neg c8] at H
      have c8b0 := decide_eq_false c8
      clear c8
      revert H
      refine ifn fun c17 H => ?_
      have c17b0 := eq_true c17
      have c17b1 := decide_eq_true c17
      clear c17
      revert H
      refine ifn fun c18 H => ?_
      have c18b0 := eq_true c18
      have c18b1 := decide_eq_true c18
      clear c18
      revert H
      refine ifn fun c19 H => ?_
      have c19b0 := eq_true c19
      have c19b1 := decide_eq_true c19
      clear c19
      obtain rfl := Option.some.inj H
      go_wp2
      go_ret
      exact ⟨rs, dr⟩
     rw [if_pos c8] at H
     have c8b0 := decide_eq_true c8
     clear c8
     obtain ⟨ji9, hji9⟩ : ∃ j_ : Int, (wrap64 (x4_2 - 1)) = j_ := ⟨_, rfl⟩
     replace H : (if 0 ≤ (ji9) then (if (ji9) < (a0.size : Int) then (if (bt a0 (ji9)) = 32 then (spec_Trim.l1 k2 a0 x3_1 ji9) else (if 0 ≤ x3_1 then (if x3_1 ≤ x4_2 then (if x4_2 ≤ (a0.size : Int) then (some (a0.extract (x3_1 : Int).toNat (x4_2 : Int).toNat)) else (none)) else (none)) else (none))) else (none)) else (none)) = some r := by first | (rw [hji9] at H; exact H) | (simp only [hji9] at H ⊢; exact H)
     have hji9w : (IntKind.i64.wrap (x4_2 - 1)) = ji9 := (i64_w _).trans hji9
     revert H
     refine ifn fun c10 H => ?_
     have c10b0 := decide_eq_true c10
     clear c10
     revert H
     refine ifn fun c11 H => ?_
     have c11b0 := decide_eq_true c11
     clear c11
     by_cases c13 : (bt a0 (ji9)) = 32
     ·rw [if_pos c13] at H
      have c13b0 : ((bt a0 (ji9)) == 32) = true := beq_iff_eq.mpr c13
      have c13b1 : ((bt a0 (ji9)) != 32) = false := bne_eq_false_iff_eq.mpr c13
      clear c13
      have H' := am H
      clear H
      have p12 : 0 ≤ ((ji9) : Int) := od
      have q12 : (ji9) < (a0.size : Int) := od
      have hx12 := bt_at a0 (ji9)
      replace p12 := eq_true p12
      replace q12 := eq_true q12
      go_wp2
      go_roundg k2
      case measure => have := HJ1.out; have := HK2.out; omega
      case rel => exact ⟨(ji9), (by first | rfl | (simp; done) | (simp only [← hji9] <;> (first | rfl | simp)) | (simp [*]; done)), H', ⟨by have := HJ1.out; have := HK2.out; omega⟩, dr⟩
     rw [if_neg c13] at H
     have c13b0 : ((bt a0 (ji9)) == 32) = false := beq_eq_false_iff_ne.mpr c13
     have c13b1 : ((bt a0 (ji9)) != 32) = true := bne_iff_ne.mpr c13
     revert H
     refine ifn fun c14 H => ?_
     have c14b0 := eq_true c14
     have c14b1 := decide_eq_true c14
     clear c14
     revert H
     refine ifn fun c15 H => ?_
     have c15b0 := eq_true c15
     have c15b1 := decide_eq_true c15
     clear c15
     revert H
     refine ifn fun c16 H => ?_
     have c16b0 := eq_true c16
     have c16b1 := decide_eq_true c16
     clear c16
     obtain rfl := Option.some.inj H
     have p12 : 0 ≤ ((ji9) : Int) := od
     have q12 : (ji9) < (a0.size : Int) := od
     have hx12 := bt_at a0 (ji9)
     replace p12 := eq_true p12
     replace q12 := eq_true q12
     go_wp2
     go_ret
     exact ⟨by first | rfl | (simp; done) | (simp only [← hji9] <;> (first | rfl | simp)) | (simp [*]; done), dr⟩

/-! ### spec_ValueOk: function 53 -/
def spec_ValueOk.l0 : Nat → ByteArray → Int → Option (Bool)
 | 0, _, _ => none
 | k + 1, x0, x3 => if x3 < (x0.size : Int) then (if 0 ≤ x3 then (if (bt x0 x3) < 32 then (some false) else (if (bt x0 x3) > 126 then (some false) else (spec_ValueOk.l0 k x0 (wrap64 (x3 + 1))))) else (none)) else ((spec_l1In.f (x0.size : Int) 1 60).bind fun t554 => (if t554 = true then ((spec_Trim.f k x0).bind fun t555 => (some (t555.toList == x0.toList))) else (some false)))
def spec_ValueOk.f (k : Nat) (a0 : ByteArray) : Option (Bool) := spec_ValueOk.l0 k a0 0
theorem spec_ValueOk.mono_l : ∀ k, (∀ y0 y1, LeO (spec_ValueOk.l0 k y0 y1) (spec_ValueOk.l0 (k + 1) y0 y1))
 | 0 => fun _ _ r h => by simp [spec_ValueOk.l0] at h
 | k + 1 => by
  have ih0 := spec_ValueOk.mono_l k
  ·intro y0 y1
   unfold spec_ValueOk.l0
   have m0 := @spec_Trim.mono
   exact mo
theorem spec_ValueOk.mono : ∀ a0 k, LeO (spec_ValueOk.f k a0) (spec_ValueOk.f (k + 1) a0) := by
 intro a0 k
 have ih0 := spec_ValueOk.mono_l k
 unfold spec_ValueOk.f
 have m0 := @spec_Trim.mono
 exact mo
set_option maxHeartbeats 8000000 in
set_option maxRecDepth 100000 in
theorem spec_ValueOk.calls (k : Nat) (a0 : ByteArray) (r : Bool) (w : World) (h : spec_ValueOk.f k a0 = some r) :
  Calls Tryd.prog 53 #[.string a0] w fun e w' => e = .returned (.bool r) ∧ Drawn0 w w' := by
 unfold spec_ValueOk.f at h
 have H := h
 clear h
 have H' := am H
 clear H
 go_enter Tryd.func53, Tryd.ntmps53
 go_wp2
 (try simp only [Act.put, List.setIfInBounds_toArray, List.set_cons_zero, List.set_cons_succ])
 go_loopg [3] k (fun kq v3 w' => ∃ (x3_1 : Int), v3 = .int .i64 x3_1 ∧ Aside0 (spec_ValueOk.l0 kq a0 x3_1 = some r) ∧ Aside0 (kq ≤ k) ∧ Drawn0 w w')
 case atStart => exact ⟨(0), rs, H', ⟨Nat.le_refl _⟩, dr⟩
 case round =>
  clear H'
  obtain ⟨x3_1, rfl, HA, HK1, ⟨m1, rfl⟩⟩ := hrel
  cases gk with
  | zero => exact absurd HA.out (by simp [spec_ValueOk.l0])
  | succ k1 =>
   have H := HA.out
   clear HA
   simp only [spec_ValueOk.l0] at H
   by_cases c2 : x3_1 < (a0.size : Int)
   rotate_left
   ·rw [if_neg c2] at H
    have c2b0 := decide_eq_false c2
    clear c2
    revert H
    refine ok1 fun t554 A8 H => ?_
    by_cases c9 : t554 = true
    rotate_left
    ·replace c9 := Bool.eq_false_iff.mpr c9
     subst c9
     rw [if_neg (show ¬ (false = true) by decide)] at H
     obtain rfl := Option.some.inj H
     go_wp2_with ((with_reducible refine gw ?_); first | (refine gl 22 Tryd.func35 #[.int .i64 (a0.size : Int), .int .i64 1, .int .i64 60] ?_; (with_reducible refine (spec_l1In.calls (a0.size : Int) 1 60 false _ A8.out).mono ?_); rintro e w' ⟨rfl, ⟨nd, rfl⟩⟩; refine ⟨_, rfl, ?_⟩))
     go_ret
     exact ⟨rs, dr⟩
    subst c9
    rw [if_pos rfl] at H
    revert H
    refine ok1 fun t555 A10 H => ?_
    obtain rfl := Option.some.inj H
    go_wp2_with (first | ((with_reducible refine gw ?_); first | (refine gl 22 Tryd.func35 #[.int .i64 (a0.size : Int), .int .i64 1, .int .i64 60] ?_; (with_reducible refine (spec_l1In.calls (a0.size : Int) 1 60 true _ A8.out).mono ?_); rintro e w' ⟨rfl, ⟨nd, rfl⟩⟩; refine ⟨_, rfl, ?_⟩)) | (go_at_call 58; (with_reducible refine (spec_Trim.calls k1 a0 t555 _ A10.out).mono ?_); rintro e w' ⟨rfl, ⟨nd, rfl⟩⟩))
    go_ret
    exact ⟨rs, dr⟩
   rw [if_pos c2] at H
   have c2b0 := decide_eq_true c2
   clear c2
   revert H
   refine ifn fun c3 H => ?_
   have c3b0 := decide_eq_true c3
   clear c3
   by_cases c5 : (bt a0 x3_1) < 32
   ·rw [if_pos c5] at H
    have c5b0 := decide_eq_true c5
    clear c5
    obtain rfl := Option.some.inj H
    have p4 : 0 ≤ (x3_1 : Int) := od
    have q4 : x3_1 < (a0.size : Int) := od
    have hx4 := bt_at a0 x3_1
    replace p4 := eq_true p4
    replace q4 := eq_true q4
    go_wp2
    go_ret
    exact ⟨rs, dr⟩
   rw [if_neg c5] at H
   have c5b0 := decide_eq_false c5
   clear c5
   by_cases c7 : (bt a0 x3_1) > 126
   ·rw [if_pos c7] at H
    have c7b0 := decide_eq_true c7
    clear c7
    obtain rfl := Option.some.inj H
    have p4 : 0 ≤ (x3_1 : Int) := od
    have q4 : x3_1 < (a0.size : Int) := od
    have hx4 := bt_at a0 x3_1
    replace p4 := eq_true p4
    replace q4 := eq_true q4
    have p6 : 0 ≤ (x3_1 : Int) := od
    have q6 : x3_1 < (a0.size : Int) := od
    have hx6 := bt_at a0 x3_1
    replace p6 := eq_true p6
    replace q6 := eq_true q6
    go_wp2
    go_ret
    exact ⟨rs, dr⟩
   rw [if_neg c7] at H
   have c7b0 := decide_eq_false c7
   clear c7
   have H' := am H
   clear H
   have p4 : 0 ≤ (x3_1 : Int) := od
   have q4 : x3_1 < (a0.size : Int) := od
   have hx4 := bt_at a0 x3_1
   replace p4 := eq_true p4
   replace q4 := eq_true q4
   have p6 : 0 ≤ (x3_1 : Int) := od
   have q6 : x3_1 < (a0.size : Int) := od
   have hx6 := bt_at a0 x3_1
   replace p6 := eq_true p6
   replace q6 := eq_true q6
   go_wp2
   go_roundg k1
   case measure => have := HK1.out; omega
   case rel => exact ⟨(wrap64 (x3_1 + 1)), rs, H', ⟨by have := HK1.out; omega⟩, dr⟩

/-! ### spec_FieldsOk: function 40 -/
def spec_FieldsOk.l0 : Nat → List (S46) → Int → Option (Bool)
 | 0, _, _ => none
 | k + 1, x0, x3 => if x3 < (x0.length : Int) then (if 0 ≤ x3 then ((spec_TokenOk.f k ((rd_T46 x0 x3).f0)).bind fun t557 => (if t557 = true then ((spec_ValueOk.f k ((rd_T46 x0 x3).f1)).bind fun t559 => (if t559 = true then ((spec_l2At.f k x0 ((rd_T46 x0 x3).f0)).bind fun t561 => (if t561 = x3 then (if ((rd_T46 x0 x3).f0).toList = ([99, 111, 110, 116, 101, 110, 116, 45, 108, 101, 110, 103, 116, 104] : List UInt8) then (some false) else (spec_FieldsOk.l0 k x0 (wrap64 (x3 + 1)))) else (some false))) else (some false))) else (some false))) else (none)) else (some (decide ((x0.length : Int) ≤ 8)))
def spec_FieldsOk.f (k : Nat) (l0 : List (S46)) : Option (Bool) := spec_FieldsOk.l0 k l0 0
theorem spec_FieldsOk.mono_l : ∀ k, (∀ y0 y1, LeO (spec_FieldsOk.l0 k y0 y1) (spec_FieldsOk.l0 (k + 1) y0 y1))
 | 0 => fun _ _ r h => by simp [spec_FieldsOk.l0] at h
 | k + 1 => by
  have ih0 := spec_FieldsOk.mono_l k
  ·intro y0 y1
   unfold spec_FieldsOk.l0
   have m0 := @spec_TokenOk.mono
   have m1 := @spec_ValueOk.mono
   have m2 := @spec_l2At.mono
   exact mo
theorem spec_FieldsOk.mono : ∀ a0 k, LeO (spec_FieldsOk.f k a0) (spec_FieldsOk.f (k + 1) a0) := by
 intro a0 k
 have ih0 := spec_FieldsOk.mono_l k
 unfold spec_FieldsOk.f
 have m0 := @spec_TokenOk.mono
 have m1 := @spec_ValueOk.mono
 have m2 := @spec_l2At.mono
 exact mo
set_option maxHeartbeats 8000000 in
set_option maxRecDepth 100000 in
theorem spec_FieldsOk.calls (k : Nat) (A0 : Option Addr) (c0 : Nat) (l0 : List (S46)) (r : Bool) (w : World) (hr0 : Kd.C k46 w A0 l0.length l0) (hc0 : l0.length ≤ c0) (h : spec_FieldsOk.f k l0 = some r) :
  Calls Tryd.prog 40 #[.slice A0 l0.length c0] w fun e w' => e = .returned (.bool r) ∧ Drawn0 w w' := by
 have HR0 := am hr0
 have HC0 := am hc0
 clear hr0 hc0
 unfold spec_FieldsOk.f at h
 have H := h
 clear h
 have H' := am H
 clear H
 go_enter Tryd.func40, Tryd.ntmps40
 go_wp2
 (try simp only [Act.put, List.setIfInBounds_toArray, List.set_cons_zero, List.set_cons_succ])
 go_loopg [3] k (fun kq v3 w' => ∃ (x3_1 : Int), v3 = .int .i64 x3_1 ∧ Aside0 (spec_FieldsOk.l0 kq l0 x3_1 = some r) ∧ Aside0 (kq ≤ k) ∧ Drawn0 w w')
 case atStart => exact ⟨(0), rs, H', ⟨Nat.le_refl _⟩, dr⟩
 case round =>
  clear H'
  obtain ⟨x3_1, rfl, HA, HK1, ⟨m1, rfl⟩⟩ := hrel
  cases gk with
  | zero => exact absurd HA.out (by simp [spec_FieldsOk.l0])
  | succ k1 =>
   have H := HA.out
   clear HA
   simp only [spec_FieldsOk.l0] at H
   by_cases c2 : x3_1 < (l0.length : Int)
   rotate_left
   ·rw [if_neg c2] at H
    have c2b0 := decide_eq_false c2
    clear c2
    obtain rfl := Option.some.inj H
    go_wp2
    go_ret
    exact ⟨rs, dr⟩
   rw [if_pos c2] at H
   have c2b0 := decide_eq_true c2
   clear c2
   revert H
   refine ifn fun c3 H => ?_
   have c3b0 := decide_eq_true c3
   clear c3
   revert H
   refine ok1 fun t557 A4 H => ?_
   by_cases c5 : t557 = true
   rotate_left
   ·replace c5 := Bool.eq_false_iff.mpr c5
    subst c5
    rw [if_neg (show ¬ (false = true) by decide)] at H
    obtain rfl := Option.some.inj H
    have p556 : 0 ≤ (x3_1 : Int) := od
    have q556 : x3_1 < (l0.length : Int) := od
    obtain ⟨ad556, e556, hx556_0, hx556_1⟩ := at_T46 HR0.out x3_1 p556 q556
    cases e556
    replace p556 := eq_true p556
    replace q556 := eq_true q556
    go_wp2_with ((with_reducible refine gw ?_); first | (refine gl 15 Tryd.func52 #[.string ((rd_T46 l0 x3_1).f0)] ?_; (with_reducible refine (spec_TokenOk.calls k1 ((rd_T46 l0 x3_1).f0) false _ A4.out).mono ?_); rintro e w' ⟨rfl, ⟨nd, rfl⟩⟩; refine ⟨_, rfl, ?_⟩))
    go_ret
    exact ⟨rs, dr⟩
   subst c5
   rw [if_pos rfl] at H
   revert H
   refine ok1 fun t559 A6 H => ?_
   by_cases c7 : t559 = true
   rotate_left
   ·replace c7 := Bool.eq_false_iff.mpr c7
    subst c7
    rw [if_neg (show ¬ (false = true) by decide)] at H
    obtain rfl := Option.some.inj H
    have p556 : 0 ≤ (x3_1 : Int) := od
    have q556 : x3_1 < (l0.length : Int) := od
    obtain ⟨ad556, e556, hx556_0, hx556_1⟩ := at_T46 HR0.out x3_1 p556 q556
    cases e556
    replace p556 := eq_true p556
    replace q556 := eq_true q556
    go_wp2_with (first | ((with_reducible refine gw ?_); first | (refine gl 15 Tryd.func52 #[.string ((rd_T46 l0 x3_1).f0)] ?_; (with_reducible refine (spec_TokenOk.calls k1 ((rd_T46 l0 x3_1).f0) true _ A4.out).mono ?_); rintro e w' ⟨rfl, ⟨nd, rfl⟩⟩; refine ⟨_, rfl, ?_⟩; have p558 : 0 ≤ (x3_1 : Int) := od; have q558 : x3_1 < (l0.length : Int) := od; obtain ⟨ad558, e558, hx558_0, hx558_1⟩ := at_T46 HR0.out x3_1 p558 q558; obtain rfl : ad556 = ad558 := (by injection e558); replace p558 := eq_true p558; replace q558 := eq_true q558)) | (go_at_call 53; (with_reducible refine (spec_ValueOk.calls k1 ((rd_T46 l0 x3_1).f1) false _ A6.out).mono ?_); rintro e w' ⟨rfl, ⟨nd, rfl⟩⟩))
    go_ret
    exact ⟨rs, dr⟩
   subst c7
   rw [if_pos rfl] at H
   revert H
   refine ok1 fun t561 A8 H => ?_
   by_cases c9 : t561 = x3_1
   rotate_left
   ·rw [if_neg c9] at H
    have c9b0 : (t561 == x3_1) = false := beq_eq_false_iff_ne.mpr c9
    have c9b1 : (t561 != x3_1) = true := bne_iff_ne.mpr c9
    obtain rfl := Option.some.inj H
    have p556 : 0 ≤ (x3_1 : Int) := od
    have q556 : x3_1 < (l0.length : Int) := od
    obtain ⟨ad556, e556, hx556_0, hx556_1⟩ := at_T46 HR0.out x3_1 p556 q556
    cases e556
    replace p556 := eq_true p556
    replace q556 := eq_true q556
    go_wp2_with (first | ((with_reducible refine gw ?_); first | (refine gl 15 Tryd.func52 #[.string ((rd_T46 l0 x3_1).f0)] ?_; (with_reducible refine (spec_TokenOk.calls k1 ((rd_T46 l0 x3_1).f0) true _ A4.out).mono ?_); rintro e w' ⟨rfl, ⟨nd, rfl⟩⟩; refine ⟨_, rfl, ?_⟩; have p558 : 0 ≤ (x3_1 : Int) := od; have q558 : x3_1 < (l0.length : Int) := od; obtain ⟨ad558, e558, hx558_0, hx558_1⟩ := at_T46 HR0.out x3_1 p558 q558; obtain rfl : ad556 = ad558 := (by injection e558); replace p558 := eq_true p558; replace q558 := eq_true q558)) | (go_at_call 53; (with_reducible refine (spec_ValueOk.calls k1 ((rd_T46 l0 x3_1).f1) true _ A6.out).mono ?_); rintro e w' ⟨rfl, ⟨nd, rfl⟩⟩; have p560 : 0 ≤ (x3_1 : Int) := od; have q560 : x3_1 < (l0.length : Int) := od; obtain ⟨ad560, e560, hx560_0, hx560_1⟩ := at_T46 HR0.out x3_1 p560 q560; obtain rfl : ad556 = ad560 := (by injection e560); replace p560 := eq_true p560; replace q560 := eq_true q560) | (go_at_call 36; (with_reducible refine (spec_l2At.calls k1 _ _ l0 ((rd_T46 l0 x3_1).f0) t561 _ ?side1 ?side2 A8.out).mono ?_); (case side1 => exact cc HR0); (case side2 => exact HC0.out); rintro e w' ⟨rfl, ⟨nd, rfl⟩⟩))
    go_ret
    exact ⟨rs, dr⟩
   rw [if_pos c9] at H
   have c9b0 : (t561 == x3_1) = true := beq_iff_eq.mpr c9
   have c9b1 : (t561 != x3_1) = false := bne_eq_false_iff_eq.mpr c9
   clear c9
   have HH10 := am H
   clear H
   have p556 : 0 ≤ (x3_1 : Int) := od
   have q556 : x3_1 < (l0.length : Int) := od
   obtain ⟨ad556, e556, hx556_0, hx556_1⟩ := at_T46 HR0.out x3_1 p556 q556
   cases e556
   replace p556 := eq_true p556
   replace q556 := eq_true q556
   go_upto_if 44 with (first | ((with_reducible refine gw ?_); first | (refine gl 15 Tryd.func52 #[.string ((rd_T46 l0 x3_1).f0)] ?_; (with_reducible refine (spec_TokenOk.calls k1 ((rd_T46 l0 x3_1).f0) true _ A4.out).mono ?_); rintro e w' ⟨rfl, ⟨nd, rfl⟩⟩; refine ⟨_, rfl, ?_⟩; have p558 : 0 ≤ (x3_1 : Int) := od; have q558 : x3_1 < (l0.length : Int) := od; obtain ⟨ad558, e558, hx558_0, hx558_1⟩ := at_T46 HR0.out x3_1 p558 q558; obtain rfl : ad556 = ad558 := (by injection e558); replace p558 := eq_true p558; replace q558 := eq_true q558)) | (go_at_call 53; (with_reducible refine (spec_ValueOk.calls k1 ((rd_T46 l0 x3_1).f1) true _ A6.out).mono ?_); rintro e w' ⟨rfl, ⟨nd, rfl⟩⟩; have p560 : 0 ≤ (x3_1 : Int) := od; have q560 : x3_1 < (l0.length : Int) := od; obtain ⟨ad560, e560, hx560_0, hx560_1⟩ := at_T46 HR0.out x3_1 p560 q560; obtain rfl : ad556 = ad560 := (by injection e560); replace p560 := eq_true p560; replace q560 := eq_true q560) | (go_at_call 36; (with_reducible refine (spec_l2At.calls k1 _ _ l0 ((rd_T46 l0 x3_1).f0) t561 _ ?side1 ?side2 A8.out).mono ?_); (case side1 => exact cc HR0); (case side2 => exact HC0.out); rintro e w' ⟨rfl, ⟨nd, rfl⟩⟩; have p562 : 0 ≤ (x3_1 : Int) := od; have q562 : x3_1 < (l0.length : Int) := od; obtain ⟨ad562, e562, hx562_0, hx562_1⟩ := at_T46 HR0.out x3_1 p562 q562; obtain rfl : ad556 = ad562 := (by injection e562); replace p562 := eq_true p562; replace q562 := eq_true q562))
   have H := HH10.out
   clear HH10
   by_cases c11 : ((rd_T46 l0 x3_1).f0).toList = ([99, 111, 110, 116, 101, 110, 116, 45, 108, 101, 110, 103, 116, 104] : List UInt8)
   ·rw [if_pos c11] at H
    have c11b0 : (((rd_T46 l0 x3_1).f0).toList == ([99, 111, 110, 116, 101, 110, 116, 45, 108, 101, 110, 103, 116, 104] : List UInt8)) = true := beq_iff_eq.mpr c11
    have c11b1 : (((rd_T46 l0 x3_1).f0).toList != ([99, 111, 110, 116, 101, 110, 116, 45, 108, 101, 110, 103, 116, 104] : List UInt8)) = false := bne_eq_false_iff_eq.mpr c11
    clear c11
    (first | rw [c11b0] | (simp only [i64_w, i32_w]; rw [c11b0]) | skip)
    obtain rfl := Option.some.inj H
    go_wp2
    go_ret
    exact ⟨rs, dr⟩
   rw [if_neg c11] at H
   have c11b0 : (((rd_T46 l0 x3_1).f0).toList == ([99, 111, 110, 116, 101, 110, 116, 45, 108, 101, 110, 103, 116, 104] : List UInt8)) = false := beq_eq_false_iff_ne.mpr c11
   have c11b1 : (((rd_T46 l0 x3_1).f0).toList != ([99, 111, 110, 116, 101, 110, 116, 45, 108, 101, 110, 103, 116, 104] : List UInt8)) = true := bne_iff_ne.mpr c11
   (first | rw [c11b0] | (simp only [i64_w, i32_w]; rw [c11b0]) | skip)
   have H' := am H
   clear H
   go_wp2
   go_roundg k1
   case measure => have := HK1.out; omega
   case rel => exact ⟨(wrap64 (x3_1 + 1)), rs, H', ⟨by have := HK1.out; omega⟩, dr⟩

/-! ### spec_ReqOk: function 27 -/
def spec_ReqOk.f (k : Nat) (a0_0 : Int) (a0_1 : ByteArray) (l0_2 : List (S46)) (a0_3 : ByteArray) : Option (Bool) := (spec_l1In.f a0_0 1 4).bind fun t564 => (if t564 = true then ((spec_l3Path.f k a0_1).bind fun t565 => (if t565 = true then ((spec_FieldsOk.f k l0_2).bind fun t566 => (if t566 = true then (some (decide ((a0_3.size : Int) ≤ 120))) else (some false))) else (some false))) else (some false))
theorem spec_ReqOk.mono : ∀ a0 a1 a2 a3 k, LeO (spec_ReqOk.f k a0 a1 a2 a3) (spec_ReqOk.f (k + 1) a0 a1 a2 a3) := by
 intro a0 a1 a2 a3 k
 unfold spec_ReqOk.f
 have m0 := @spec_FieldsOk.mono
 have m1 := @spec_l3Path.mono
 exact mo
set_option maxHeartbeats 8000000 in
set_option maxRecDepth 100000 in
theorem spec_ReqOk.calls (k : Nat) (a0_0 : Int) (a0_1 : ByteArray) (A0_2 : Option Addr) (c0_2 : Nat) (l0_2 : List (S46)) (a0_3 : ByteArray) (r : Bool) (w : World) (hr0_2 : Kd.C k46 w A0_2 l0_2.length l0_2) (hc0_2 : l0_2.length ≤ c0_2) (h : spec_ReqOk.f k a0_0 a0_1 l0_2 a0_3 = some r) :
  Calls Tryd.prog 27 #[.agg #[.int .i64 a0_0, .string a0_1, .slice A0_2 l0_2.length c0_2, .string a0_3]] w fun e w' => e = .returned (.bool r) ∧ Below w.heap.size w w' := by
 have hu26 := Tryd.underlying26
 have HR0_2 := am hr0_2
 have HC0_2 := am hc0_2
 clear hr0_2 hc0_2
 have HB := am (Below.refl w.heap.size w)
 unfold spec_ReqOk.f at h
 have H := h
 clear h
 revert H
 refine ok1 fun t564 A2 H => ?_
 by_cases c3 : t564 = true
 rotate_left
 ·replace c3 := Bool.eq_false_iff.mpr c3
  subst c3
  rw [if_neg (show ¬ (false = true) by decide)] at H
  obtain rfl := Option.some.inj H
  go_enter Tryd.func27, Tryd.ntmps27
  go_wp2_with (first | ((with_reducible refine gate_dst (N := 1) rfl ?_); (try (refine gate_guard (by rfl) ?_; dsimp only)); refine box_event ?hg (N := 1) ?hd (cs := #[.int .i64 a0_0, .string a0_1, .slice A0_2 l0_2.length c0_2, .string a0_3]) (t := 26) ?hr ?_; (case hd => rfl); (case hg => rfl); (case hr => first | (go_simp; done) | (go_simp; rfl)); intro gb563 hg w14 hbox hb; have BK563 := am (hbox); have GW563 := am (sz hg : w.heap.size ≤ gb563); have GE563 := am (sz hg : w.heap.size ≤ gb563); replace HB := am (below_step bl hb); clear hb hbox hg; obtain ⟨z15_0, y15_0, z15_1, y15_1, z15_2, y15_2, z15_3, y15_3⟩ := cl4 BK563) | ((with_reducible refine gw ?_); first | (refine gl 5 Tryd.func35 #[.int .i64 a0_0, .int .i64 1, .int .i64 4] ?_; (with_reducible refine (spec_l1In.calls a0_0 1 4 false _ A2.out).mono ?_); rintro e w' ⟨rfl, ⟨nd, rfl⟩⟩; refine ⟨_, rfl, ?_⟩)))
  go_ret
  exact ⟨rf, bl⟩
 subst c3
 rw [if_pos rfl] at H
 revert H
 refine ok1 fun t565 A4 H => ?_
 by_cases c5 : t565 = true
 rotate_left
 ·replace c5 := Bool.eq_false_iff.mpr c5
  subst c5
  rw [if_neg (show ¬ (false = true) by decide)] at H
  obtain rfl := Option.some.inj H
  go_enter Tryd.func27, Tryd.ntmps27
  go_wp2_with (first | ((with_reducible refine gate_dst (N := 1) rfl ?_); (try (refine gate_guard (by rfl) ?_; dsimp only)); refine box_event ?hg (N := 1) ?hd (cs := #[.int .i64 a0_0, .string a0_1, .slice A0_2 l0_2.length c0_2, .string a0_3]) (t := 26) ?hr ?_; (case hd => rfl); (case hg => rfl); (case hr => first | (go_simp; done) | (go_simp; rfl)); intro gb563 hg w12 hbox hb; have BK563 := am (hbox); have GW563 := am (sz hg : w.heap.size ≤ gb563); have GE563 := am (sz hg : w.heap.size ≤ gb563); replace HB := am (below_step bl hb); clear hb hbox hg; obtain ⟨z13_0, y13_0, z13_1, y13_1, z13_2, y13_2, z13_3, y13_3⟩ := cl4 BK563) | ((with_reducible refine gw ?_); first | (refine gl 5 Tryd.func35 #[.int .i64 a0_0, .int .i64 1, .int .i64 4] ?_; (with_reducible refine (spec_l1In.calls a0_0 1 4 true _ A2.out).mono ?_); rintro e w' ⟨rfl, ⟨nd, rfl⟩⟩; refine ⟨_, rfl, ?_⟩)) | (go_at_call 39; (with_reducible refine (spec_l3Path.calls k a0_1 false _ A4.out).mono ?_); rintro e w' ⟨rfl, ⟨nd, rfl⟩⟩))
  go_ret
  exact ⟨rf, bl⟩
 subst c5
 rw [if_pos rfl] at H
 revert H
 refine ok1 fun t566 A6 H => ?_
 by_cases c7 : t566 = true
 ·subst c7
  rw [if_pos rfl] at H
  obtain rfl := Option.some.inj H
  go_enter Tryd.func27, Tryd.ntmps27
  go_wp2_with (first | ((with_reducible refine gate_dst (N := 1) rfl ?_); (try (refine gate_guard (by rfl) ?_; dsimp only)); refine box_event ?hg (N := 1) ?hd (cs := #[.int .i64 a0_0, .string a0_1, .slice A0_2 l0_2.length c0_2, .string a0_3]) (t := 26) ?hr ?_; (case hd => rfl); (case hg => rfl); (case hr => first | (go_simp; done) | (go_simp; rfl)); intro gb563 hg w8 hbox hb; have BK563 := am (hbox); have GW563 := am (sz hg : w.heap.size ≤ gb563); have GE563 := am (sz hg : w.heap.size ≤ gb563); replace HB := am (below_step bl hb); clear hb hbox hg; obtain ⟨z9_0, y9_0, z9_1, y9_1, z9_2, y9_2, z9_3, y9_3⟩ := cl4 BK563) | ((with_reducible refine gw ?_); first | (refine gl 5 Tryd.func35 #[.int .i64 a0_0, .int .i64 1, .int .i64 4] ?_; (with_reducible refine (spec_l1In.calls a0_0 1 4 true _ A2.out).mono ?_); rintro e w' ⟨rfl, ⟨nd, rfl⟩⟩; refine ⟨_, rfl, ?_⟩)) | (go_at_call 39; (with_reducible refine (spec_l3Path.calls k a0_1 true _ A4.out).mono ?_); rintro e w' ⟨rfl, ⟨nd, rfl⟩⟩) | (go_at_call 40; (with_reducible refine (spec_FieldsOk.calls k _ _ l0_2 true _ ?side1 ?side2 A6.out).mono ?_); (case side1 => repeat (first | exact (Kd.C_below HR0_2.out bl) | (with_reducible refine Kd.C_alloc ?_ _) | (with_reducible refine Kd.C_drewN ?_ _) | (with_reducible refine Kd.C_drew ?_))); (case side2 => exact HC0_2.out); rintro e w' ⟨rfl, ⟨nd, rfl⟩⟩))
  go_ret
  exact ⟨rf, bl⟩
 replace c7 := Bool.eq_false_iff.mpr c7
 subst c7
 rw [if_neg (show ¬ (false = true) by decide)] at H
 obtain rfl := Option.some.inj H
 go_enter Tryd.func27, Tryd.ntmps27
 go_wp2_with (first | ((with_reducible refine gate_dst (N := 1) rfl ?_); (try (refine gate_guard (by rfl) ?_; dsimp only)); refine box_event ?hg (N := 1) ?hd (cs := #[.int .i64 a0_0, .string a0_1, .slice A0_2 l0_2.length c0_2, .string a0_3]) (t := 26) ?hr ?_; (case hd => rfl); (case hg => rfl); (case hr => first | (go_simp; done) | (go_simp; rfl)); intro gb563 hg w10 hbox hb; have BK563 := am (hbox); have GW563 := am (sz hg : w.heap.size ≤ gb563); have GE563 := am (sz hg : w.heap.size ≤ gb563); replace HB := am (below_step bl hb); clear hb hbox hg; obtain ⟨z11_0, y11_0, z11_1, y11_1, z11_2, y11_2, z11_3, y11_3⟩ := cl4 BK563) | ((with_reducible refine gw ?_); first | (refine gl 5 Tryd.func35 #[.int .i64 a0_0, .int .i64 1, .int .i64 4] ?_; (with_reducible refine (spec_l1In.calls a0_0 1 4 true _ A2.out).mono ?_); rintro e w' ⟨rfl, ⟨nd, rfl⟩⟩; refine ⟨_, rfl, ?_⟩)) | (go_at_call 39; (with_reducible refine (spec_l3Path.calls k a0_1 true _ A4.out).mono ?_); rintro e w' ⟨rfl, ⟨nd, rfl⟩⟩) | (go_at_call 40; (with_reducible refine (spec_FieldsOk.calls k _ _ l0_2 false _ ?side1 ?side2 A6.out).mono ?_); (case side1 => repeat (first | exact (Kd.C_below HR0_2.out bl) | (with_reducible refine Kd.C_alloc ?_ _) | (with_reducible refine Kd.C_drewN ?_ _) | (with_reducible refine Kd.C_drew ?_))); (case side2 => exact HC0_2.out); rintro e w' ⟨rfl, ⟨nd, rfl⟩⟩))
 go_ret
 exact ⟨rf, bl⟩

/-! ### spec_Ask: function 8 -/
def spec_Ask.f (k : Nat) (a0_0 : Int) (a0_1 : ByteArray) (l0_2 : List (S46)) (a0_3 : ByteArray) (l1 : List (S46)) : Option (Int × ByteArray × (List (S46)) × ByteArray) := (spec_Get.f k l1 (⟨#[101, 116, 97, 103]⟩ : ByteArray)).bind fun bt570 => (if bt570.2 = true then ((spec_Put.f k l0_2 (⟨#[105, 102, 45, 110, 111, 110, 101, 45, 109, 97, 116, 99, 104]⟩ : ByteArray) bt570.1).bind fun t572 => ((spec_ReqOk.f k a0_0 a0_1 t572 a0_3).bind fun t575 => (if t575 = true then (some (a0_0, a0_1, t572, a0_3)) else ((spec_Drop.f k l0_2 (⟨#[105, 102, 45, 110, 111, 110, 101, 45, 109, 97, 116, 99, 104]⟩ : ByteArray)).bind fun t576 => (some (a0_0, a0_1, t576, a0_3)))))) else ((spec_Drop.f k l0_2 (⟨#[105, 102, 45, 110, 111, 110, 101, 45, 109, 97, 116, 99, 104]⟩ : ByteArray)).bind fun t579 => (some (a0_0, a0_1, t579, a0_3))))
theorem spec_Ask.mono : ∀ a0 a1 a2 a3 a4 k, LeO (spec_Ask.f k a0 a1 a2 a3 a4) (spec_Ask.f (k + 1) a0 a1 a2 a3 a4) := by
 intro a0 a1 a2 a3 a4 k
 unfold spec_Ask.f
 have m0 := @spec_Drop.mono
 have m1 := @spec_Get.mono
 have m2 := @spec_Put.mono
 have m3 := @spec_ReqOk.mono
 exact mo
set_option maxHeartbeats 8000000 in
set_option maxRecDepth 100000 in
theorem spec_Ask.calls (k : Nat) (a0_0 : Int) (a0_1 : ByteArray) (A0_2 : Option Addr) (c0_2 : Nat) (l0_2 : List (S46)) (a0_3 : ByteArray) (A1 : Option Addr) (c1 : Nat) (l1 : List (S46)) (r1 : Int) (r2 : ByteArray) (r3 : List (S46)) (r4 : ByteArray) (w : World) (hr0_2 : Kd.C k46 w A0_2 l0_2.length l0_2) (hc0_2 : l0_2.length ≤ c0_2) (hr1 : Kd.C k46 w A1 l1.length l1) (hc1 : l1.length ≤ c1) (h : spec_Ask.f k a0_0 a0_1 l0_2 a0_3 l1 = some (r1, r2, r3, r4)) :
  Calls Tryd.prog 8 #[.agg #[.int .i64 a0_0, .string a0_1, .slice A0_2 l0_2.length c0_2, .string a0_3], .slice A1 l1.length c1] w fun e w' => ∃ v2_ : Value, e = .returned (.agg #[.int .i64 r1, .string r2, v2_, .string r4]) ∧ Kd.R k46 46 w' w.heap.size (fun _ => True) v2_ r3 ∧ Below w.heap.size w w' := by
 have hu26 := Tryd.underlying26
 have HR0_2 := am hr0_2
 have HC0_2 := am hc0_2
 clear hr0_2 hc0_2
 have HR1 := am hr1
 have HC1 := am hc1
 clear hr1 hc1
 have HB := am (Below.refl w.heap.size w)
 unfold spec_Ask.f at h
 have H := h
 clear h
 revert H
 refine ok2 fun t570 t571 A3 H => ?_
 (try dsimp only at H)
 have HH4 := am H
 clear H
 go_enter Tryd.func8, Tryd.ntmps8
 go_upto_if 14 with ((with_reducible refine gw ?_); first | (refine bx 2 #[.int .i64 a0_0, .string a0_1, .slice A0_2 l0_2.length c0_2, .string a0_3] 26 ?_; intro gb567 hg w5 hbox hb; have BK567 := am (hbox); have GW567 := am (sz hg : w.heap.size ≤ gb567); have GE567 := am (sz hg : w.heap.size ≤ gb567); replace HB := am (below_step bl hb); clear hb hbox hg) | (refine bx 4 #[.int .i64 0, .string (⟨#[]⟩ : ByteArray), .slice none 0 0, .string (⟨#[]⟩ : ByteArray)] 26 ?_; intro gb568 hg w6 hbox hb; have BK568 := am (hbox); have GW568 := am (sz hg : w.heap.size ≤ gb568); have GE568 := am (sz hg : w.heap.size ≤ gb568); replace HB := am (below_step bl hb); have NB567_568 := am (nl hg BK567 : gb567 ≠ gb568); have NB568_567 := am (ng hg BK567 : gb568 ≠ gb567); replace BK567 := kb BK567 hb; clear hb hbox hg; have hnb7 := NB567_568.out; have hnc7 := NB568_567.out; obtain ⟨z8_0, y8_0, z8_1, y8_1, z8_2, y8_2, z8_3, y8_3⟩ := cl4 BK567) | (refine bx 5 #[.int .i64 0, .string (⟨#[]⟩ : ByteArray), .slice none 0 0, .string (⟨#[]⟩ : ByteArray)] 26 ?_; intro gb569 hg w9 hbox hb; have BK569 := am (hbox); have GW569 := am (sz hg : w.heap.size ≤ gb569); have GE569 := am (sz hg : w.heap.size ≤ gb569); replace HB := am (below_step bl hb); have NB567_569 := am (nl hg BK567 : gb567 ≠ gb569); have NB569_567 := am (ng hg BK567 : gb569 ≠ gb567); replace BK567 := kb BK567 hb; have NB568_569 := am (nl hg BK568 : gb568 ≠ gb569); have NB569_568 := am (ng hg BK568 : gb569 ≠ gb568); replace BK568 := kb BK568 hb; clear hb hbox hg; have hnb10 := NB569_567.out; have hnc10 := NB567_569.out; have hnb11 := NB569_568.out; have hnc11 := NB568_569.out; obtain ⟨z12_0, y12_0, z12_1, y12_1, z12_2, y12_2, z12_3, y12_3⟩ := cl4 BK569) | (refine gl 11 Tryd.func25 #[.slice A1 l1.length c1, .string (⟨#[101, 116, 97, 103]⟩ : ByteArray)] ?_; (with_reducible refine (spec_Get.calls k _ _ l1 (⟨#[101, 116, 97, 103]⟩ : ByteArray) t570 t571 _ ?side1 ?side2 A3.out).mono ?_); (case side1 => exact Kd.C_below HR1.out bl); (case side2 => exact HC1.out); rintro e w' ⟨rfl, ⟨nd, rfl⟩⟩; refine ⟨_, rfl, ?_⟩))
 have H := HH4.out
 clear HH4
 by_cases c13 : t571 = true
 rotate_left
 ·replace c13 := Bool.eq_false_iff.mpr c13
  subst c13
  rw [if_neg (show ¬ (false = true) by decide)] at H
  revert H
  refine ok1 fun t579 A40 H => ?_
  simp only [Option.some.injEq, Prod.mk.injEq] at H
  obtain ⟨rfl, rfl, rfl, rfl⟩ := H
  have hnb41 := NB567_568.out
  have hnc41 := NB568_567.out
  have hnb42 := NB567_569.out
  have hnc42 := NB569_567.out
  obtain ⟨z43_0, y43_0, z43_1, y43_1, z43_2, y43_2, z43_3, y43_3⟩ := cl4 BK567
  go_wp2_with ((with_reducible refine gw ?_); first | (refine gl 29 Tryd.func21 #[.slice A0_2 l0_2.length c0_2, .string (⟨#[105, 102, 45, 110, 111, 110, 101, 45, 109, 97, 116, 99, 104]⟩ : ByteArray)] ?_; (with_reducible refine (spec_Drop.calls k _ _ l0_2 (⟨#[105, 102, 45, 110, 111, 110, 101, 45, 109, 97, 116, 99, 104]⟩ : ByteArray) t579 _ ?side1 ?side2 A40.out).mono ?_); (case side1 => exact Kd.C_below HR0_2.out bl); (case side2 => exact HC0_2.out); rintro e w44 ⟨v580, rfl, ho0, hb⟩; refine ⟨_, rfl, ?_⟩; have HO581 := am (Kd.R_lower ho0 (below_size bl)); replace BK567 := kg1 BK567 NB567_569 hb; replace BK568 := kg1 BK568 NB568_569 hb; replace BK569 := am (blk_below (g := gb569) (o := .cells #[.int .i64 a0_0, .string a0_1, .slice A0_2 l0_2.length c0_2, .string a0_3] 26 (0, 0)) (pt0 BK569) hb); replace HB := am (below_step bl hb); clear hb ho0; obtain ⟨Ao45, co45, eo45⟩ := Kd.R_slice HO581.out; subst eo45; have hnb46 := NB569_568.out; have hnc46 := NB568_569.out; obtain ⟨z47_0, y47_0, z47_1, y47_1, z47_2, y47_2, z47_3, y47_3⟩ := cl4 BK569; obtain ⟨z48_0, y48_0, z48_1, y48_1, z48_2, y48_2, z48_3, y48_3⟩ := cl4 BK568))
  refine bodyPost_ret (results_cell_row rfl _ _ gb568 26 #[.int .i64 a0_0, .string a0_1, .slice Ao45 t579.length co45, .string a0_3] (0, 0) _ rfl (pt1 BK568 NB568_569) Tryd.underlying26 rfl (by kernel_rfl)) rfl ?_
  exact ⟨_, rf, rj (Kd.R_types (Kd.R_types HO581.out BK569.out (by decide)) BK568.out (by decide)) (fun _ hk => trivial), bl⟩
 subst c13
 rw [if_pos rfl] at H
 revert H
 refine ok1 fun t572 A14 H => ?_
 revert H
 refine ok1 fun t575 A15 H => ?_
 have HH16 := am H
 clear H
 have hnb17 := NB567_568.out
 have hnc17 := NB568_567.out
 have hnb18 := NB567_569.out
 have hnc18 := NB569_567.out
 obtain ⟨z19_0, y19_0, z19_1, y19_1, z19_2, y19_2, z19_3, y19_3⟩ := cl4 BK567
 go_upto_if 26 with (first | ((with_reducible refine gw ?_); first | (refine gl 18 Tryd.func26 #[.slice A0_2 l0_2.length c0_2, .string (⟨#[105, 102, 45, 110, 111, 110, 101, 45, 109, 97, 116, 99, 104]⟩ : ByteArray), .string t570] ?_; (with_reducible refine (spec_Put.calls k _ _ l0_2 (⟨#[105, 102, 45, 110, 111, 110, 101, 45, 109, 97, 116, 99, 104]⟩ : ByteArray) t570 t572 _ ?side1 ?side2 A14.out).mono ?_); (case side1 => exact Kd.C_below HR0_2.out bl); (case side2 => exact HC0_2.out); rintro e w20 ⟨v573, rfl, ho0, hb⟩; refine ⟨_, rfl, ?_⟩; have HO574 := am (Kd.R_lower ho0 (below_size bl)); replace BK567 := kg1 BK567 NB567_569 hb; replace BK568 := kg1 BK568 NB568_569 hb; replace BK569 := am (blk_below (g := gb569) (o := .cells #[.int .i64 a0_0, .string a0_1, .slice A0_2 l0_2.length c0_2, .string a0_3] 26 (0, 0)) (pt0 BK569) hb); replace HB := am (below_step bl hb); clear hb ho0; obtain ⟨Ao21, co21, eo21⟩ := Kd.R_slice HO574.out; subst eo21; have hnb22 := NB569_568.out; have hnc22 := NB568_569.out; obtain ⟨z23_0, y23_0, z23_1, y23_1, z23_2, y23_2, z23_3, y23_3⟩ := cl4 BK569)) | (go_at_call 27; (with_reducible refine (spec_ReqOk.calls k a0_0 a0_1 _ _ t572 a0_3 t575 _ ?side1 ?side2 A15.out).mono ?_); (case side1 => refine (Kd.R_reads' (e := 46) (base := w.heap.size) (ok := fun k_ => True) (n := t572.length) (c := co21) ?_).2.2; exact (rj (Kd.R_types HO574.out BK569.out (by decide)) (fun _ h_ => h_.1))); (case side2 => exact (Kd.R_reads' HO574.out).2.1); rintro e w24 ⟨rfl, hb⟩; replace HO574 := am (Kd.R_below (rj (Kd.R_types HO574.out BK569.out (by decide)) (fun _ h_ => h_.1)) hb); replace BK567 := kg1 BK567 NB567_569 hb; replace BK568 := kg1 BK568 NB568_569 hb; replace BK569 := am (blk_below (g := gb569) (o := .cells #[.int .i64 a0_0, .string a0_1, .slice Ao21 t572.length co21, .string a0_3] 26 (0, 0)) (pt0 BK569) hb); replace HB := am (below_step bl hb); clear hb))
 have H := HH16.out
 clear HH16
 by_cases c25 : t575 = true
 ·subst c25
  rw [if_pos rfl] at H
  simp only [Option.some.injEq, Prod.mk.injEq] at H
  obtain ⟨rfl, rfl, rfl, rfl⟩ := H
  have hnb26 := NB569_567.out
  have hnc26 := NB567_569.out
  have hnb27 := NB569_568.out
  have hnc27 := NB568_569.out
  obtain ⟨z28_0, y28_0, z28_1, y28_1, z28_2, y28_2, z28_3, y28_3⟩ := cl4 BK569
  have hnb29 := NB568_567.out
  have hnc29 := NB567_568.out
  obtain ⟨z30_0, y30_0, z30_1, y30_1, z30_2, y30_2, z30_3, y30_3⟩ := cl4 BK568
  go_wp2
  refine bodyPost_ret (results_cell_row rfl _ _ gb568 26 #[.int .i64 a0_0, .string a0_1, .slice Ao21 t572.length co21, .string a0_3] (0, 0) _ rfl (pt0 BK568) Tryd.underlying26 rfl (by kernel_rfl)) rfl ?_
  exact ⟨_, rf, rj (Kd.R_types HO574.out BK568.out (by decide)) (fun _ hk => trivial), bl⟩
 replace c25 := Bool.eq_false_iff.mpr c25
 subst c25
 rw [if_neg (show ¬ (false = true) by decide)] at H
 revert H
 refine ok1 fun t576 A31 H => ?_
 simp only [Option.some.injEq, Prod.mk.injEq] at H
 obtain ⟨rfl, rfl, rfl, rfl⟩ := H
 have hnb32 := NB567_568.out
 have hnc32 := NB568_567.out
 have hnb33 := NB567_569.out
 have hnc33 := NB569_567.out
 obtain ⟨z34_0, y34_0, z34_1, y34_1, z34_2, y34_2, z34_3, y34_3⟩ := cl4 BK567
 go_wp2_with ((with_reducible refine gw ?_); first | (refine gl 29 Tryd.func21 #[.slice A0_2 l0_2.length c0_2, .string (⟨#[105, 102, 45, 110, 111, 110, 101, 45, 109, 97, 116, 99, 104]⟩ : ByteArray)] ?_; (with_reducible refine (spec_Drop.calls k _ _ l0_2 (⟨#[105, 102, 45, 110, 111, 110, 101, 45, 109, 97, 116, 99, 104]⟩ : ByteArray) t576 _ ?side1 ?side2 A31.out).mono ?_); (case side1 => exact cb HR0_2); (case side2 => exact HC0_2.out); rintro e w35 ⟨v577, rfl, ho0, hb⟩; refine ⟨_, rfl, ?_⟩; have HO578 := am (Kd.R_lower (Kd.R_new' ho0 (Kd.R_lt (ro HO574))) (below_size bl)); replace HO574 := am (Kd.R_elder' (ro HO574) (Kd.R_base ho0) hb); replace BK567 := kb BK567 hb; replace BK568 := kb BK568 hb; replace BK569 := kb BK569 hb; replace HB := am (below_step bl hb); clear hb ho0; obtain ⟨Ao36, co36, eo36⟩ := Kd.R_slice HO578.out; subst eo36; have hnb37 := NB569_568.out; have hnc37 := NB568_569.out; obtain ⟨z38_0, y38_0, z38_1, y38_1, z38_2, y38_2, z38_3, y38_3⟩ := cl4 BK569; obtain ⟨z39_0, y39_0, z39_1, y39_1, z39_2, y39_2, z39_3, y39_3⟩ := cl4 BK568))
 refine bodyPost_ret (results_cell_row rfl _ _ gb568 26 #[.int .i64 a0_0, .string a0_1, .slice Ao36 t576.length co36, .string a0_3] (0, 0) _ rfl (pt1 BK568 NB568_569) Tryd.underlying26 rfl (by kernel_rfl)) rfl ?_
 exact ⟨_, rf, rj (Kd.R_types (Kd.R_types HO578.out BK569.out (by decide)) BK568.out (by decide)) (fun _ hk => trivial), bl⟩

end Go.Proofs.YtjlpjbkpmmpojaaDoor.All
