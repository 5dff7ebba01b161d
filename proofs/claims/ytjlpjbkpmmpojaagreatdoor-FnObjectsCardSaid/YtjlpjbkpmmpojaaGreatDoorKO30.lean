import Derived.Test.YtjlpjbkpmmpojaaGreatDoorKO28
import Derived.Test.YtjlpjbkpmmpojaaGreatDoorKO29
namespace Go.Proofs.YtjlpjbkpmmpojaaGreatDoor.All
open Go.RowKit Go.Proofs.YtjlpjbkpmmpojaaGreatDoorW.PrintWords Go.Proofs.YtjlpjbkpmmpojaaGreatDoorW.PrintLast Go.Proofs.YtjlpjbkpmmpojaaGreatDoorW.PrintMore
set_option maxHeartbeats 8000000
set_option maxRecDepth 100000
attribute [local go_sem] min2_int min_two
set_option linter.unusedVariables false
set_option linter.unusedSimpArgs false
theorem u107HB {p : Prop} (h : p := by repeat (first | (with_reducible first | exact HB.out | apply below_alloc | apply pw_below_drewN | apply below_drew1 | refine below_set ?_ GE37.out) | exact HB.out)) : p := h
def spec_RespRead.j0 : Nat → ByteArray → List ByteArray → Int → Bool → Option (Int × (List (S116)) × ByteArray × Bool)
 | 0, _, _, _, _ => none
 | k + 1, x0, x4, x5, x21 => if x21 = true then (some (0, ([] : List (S116)), (⟨#[]⟩ : ByteArray), false)) else (if 0 < (x4.length : Int) then ((spec_l3Words.f k (rdOf ByteArray.empty x4 0)).bind fun t47 => (if (t47.length : Int) = 3 then (if 1 < (t47.length : Int) then ((spec_NumRead.f k (rdOf ByteArray.empty t47 1)).bind fun bt52 => (if 1 ≤ (x4.length : Int) then ((spec_l3Fields.f k (x4.drop 1)).bind fun t48 => (if 0 ≤ x5 then (if x5 ≤ (x0.size : Int) then ((spec_RespText.f k bt52.1 t48 (x0.extract (x5 : Int).toNat x0.size)).bind fun t53 => (if t53.toList = x0.toList then (some (bt52.1, t48, x0.extract (x5 : Int).toNat x0.size, true)) else (some (0, ([] : List (S116)), (⟨#[]⟩ : ByteArray), false)))) else (none)) else (none))) else (none))) else (none)) else (some (0, ([] : List (S116)), (⟨#[]⟩ : ByteArray), false)))) else (none))
def spec_RespRead.f (k : Nat) (a0 : ByteArray) : Option (Int × (List (S116)) × ByteArray × Bool) := (spec_l3Head.f k a0).bind fun bt42 => (if bt42.2 < 0 then (spec_RespRead.j0 k a0 bt42.1 bt42.2 true) else (spec_RespRead.j0 k a0 bt42.1 bt42.2 ((bt42.1.length : Int) == 0)))
def spec_RespRead.T8 : Bool × List (List Nat × List Nat) := (true, [([], []), ([], []), ([1], [1]), ([2], [2]), ([], []), ([], []), ([4, 5], [4, 5]), ([0, 3, 6], [0, 3, 6]), ([], []), ([8, 7, 3, 0, 1, 2, 3, 4, 5, 6, 7, 8], [7, 8])])
def spec_RespRead.B8 : List Nat := [0, 0, 2, 6, 0, 0, 48, 127, 0, 511]
theorem spec_RespRead.tab8 : rtab .any (opsOf Tryz.f107 8) = spec_RespRead.T8 := by kernel_rfl
theorem spec_RespRead.bits8 : waitsOk spec_RespRead.T8.2 spec_RespRead.B8 = true := by kernel_rfl
theorem spec_RespRead.calls (k : Nat) (a0 : ByteArray) (r1 : Int) (r2 : List (S116)) (r3 : ByteArray) (r4 : Bool) (w : World) (h : spec_RespRead.f k a0 = some (r1, r2, r3, r4)) :
  Calls Tryz.prog 107 #[.string a0] w fun e w' => ∃ v1_ : Value, e = .returned (.tuple #[.agg #[.int .i64 r1, v1_, .string r3], .bool r4]) ∧ Kd.R k116 116 w' w.heap.size (fun _ => True) v1_ r2 ∧ Below w.heap.size w w' := by
 have hu29 := Tryz.underlying29
 have HB := am (Below.refl w.heap.size w)
 unfold spec_RespRead.f at h
 have H := h
 clear h
 revert H
 refine ok2 fun t42 t51 A2 H => ?_
 (try dsimp only at H)
 have HC3 := am H
 clear H
 go_enter Tryz.func107, Tryz.ntmps107
 go_upto_region 2 with (first | ((with_reducible refine gate_dst (N := 2) rfl ?_); (try (refine gate_guard (by rfl) ?_; dsimp only)); refine box_event ?hg (N := 2) ?hd (cs := #[.int .i64 0, .slice none 0 0, .string (⟨#[]⟩ : ByteArray)]) (t := 29) ?hr ?_; (case hd => rfl); (case hg => rfl); (case hr => first | (go_simp; done) | (go_simp; rfl)); intro gb37 hg w4 hbox hb; have BK37 := am (hbox); have GW37 := am (sz hg : w.heap.size ≤ gb37); have GE37 := am (sz hg : w.heap.size ≤ gb37); replace HB := am (below_step bl hb); clear hb hbox hg) | ((with_reducible refine gw ?_); first | (refine gl 12 Tryz.func153 #[.string a0] ?_; (with_reducible refine (spec_l3Head.calls k a0 t42 t51 _ A2.out).mono ?_); rintro e w5 ⟨v57, rfl, ho0, hb⟩; refine ⟨_, rfl, ?_⟩; have HO54 := am (Kd.R_lower ho0 (below_size bl)); replace BK37 := kb BK37 hb; replace HB := am (below_step bl hb); clear hb ho0)))
 (try simp only [Act.put, List.setIfInBounds_toArray, List.set_cons_zero, List.set_cons_succ])
 go_cut [21] (fun v21 wc => ∃ (kq : Nat) (x21_2 : Bool), v21 = .bool x21_2 ∧ Aside0 (spec_RespRead.j0 kq a0 t42 t51 x21_2 = some (r1, r2, r3, r4)) ∧ Aside0 (kq ≤ k) ∧ Aside0 (Kd.R Kd.string 9 wc w.heap.size (fun _ => True) v57 t42) ∧ Aside0 (wc.heap[gb37]? = some (.cells #[.int .i64 0, (.slice none 0 0), .string (⟨#[]⟩ : ByteArray)] 29 (0, 0))) ∧ Aside0 (Below w.heap.size w wc))
 case first =>
  have H := HC3.out
  clear HC3
  by_cases c6 : t51 < 0
  ·rw [if_pos c6] at H
   have c6b0 := decide_eq_true c6
   clear c6
   (first | rw [c6b0] | (simp only [i64_w, i32_w]; rw [c6b0]) | skip)
   have H' := am H
   clear H
   go_wp2
   go_meet
   case rel => exact ⟨_, (true), rs, H', ⟨by first | omega | exact Nat.le_refl _⟩, ⟨ro HO54⟩, ⟨bk BK37⟩, ⟨u107HB⟩⟩
  rw [if_neg c6] at H
  have c6b0 := decide_eq_false c6
  clear c6
  (first | rw [c6b0] | (simp only [i64_w, i32_w]; rw [c6b0]) | skip)
  have H' := am H
  clear H
  obtain ⟨Ao7, co7, eo7⟩ := Kd.R_slice HO54.out
  subst eo7
  go_wp2
  go_meet
  case rel => exact ⟨_, (((t42.length : Int) == 0)), rs, H', ⟨by first | omega | exact Nat.le_refl _⟩, ⟨ro HO54⟩, ⟨bk BK37⟩, ⟨u107HB⟩⟩
 case rest =>
  clear HC3
  obtain ⟨kq, x21_2, rfl, HA, HJ2, HO_4, BK37, HB⟩ := hcut
  cases kq with
  | zero => exact absurd HA.out (by simp [spec_RespRead.j0])
  | succ kj2 =>
   have H := HA.out
   clear HA
   simp only [spec_RespRead.j0] at H
   by_cases c8 : x21_2 = true
   ·subst c8
    rw [if_pos rfl] at H
    simp only [Option.some.injEq, Prod.mk.injEq] at H
    obtain ⟨rfl, rfl, rfl, rfl⟩ := H
    obtain ⟨_, _, _, _, _, _⟩ := cl3 BK37
    go_wp2
    refine bodyPost_ret (results_ct rfl _ _ gb37 29 #[.int .i64 0, .slice none 0 0, .string (⟨#[]⟩ : ByteArray)] (0, 0) _ rfl (pt0 BK37) Tryz.underlying29 rfl (by kernel_rfl)) rfl ?_
    exact ⟨_, rf, by first | exact Kd.R_nil _ _ _ _ _ | exact Kd.N_nil _ _ _ _ _ | exact Kd.V_nil _ _ _ _ _ | exact Kd.Q_nil _ _ _ _ _ | exact Kd.S_nil _ _ _ _ _, bl⟩
   replace c8 := nb_ c8
   subst c8
   rw [if_neg ff_] at H
   revert H
   refine ifn fun c10 H => ?_
   have c10b0 := decide_eq_true c10
   have c10b1 : decide (0 < t42.length) = true := decide_eq_true (by omega)
   clear c10
   revert H
   refine ok1 fun t47 A11 H => ?_
   have HH12 := am H
   clear H
   obtain ⟨Ao13, co13, eo13⟩ := Kd.R_slice HO_4.out
   subst eo13
   have p44 : 0 ≤ (0 : Int) := (by omega)
   have q44 : 0 < (t42.length : Int) := od
   obtain ⟨ad44, e44, hx44_0⟩ := Kd.at_string (Kd.R_reads' HO_4.out).2.2 0 p44 q44
   cases e44
   have qi1342 : (0 < t42.length) = True := eq_true (by omega)
   (try rw [show ((0 : Int)).toNat = 0 from rfl] at hx44_0)
   (try rw [Addr.add_zero'] at hx44_0)
   replace p44 := eq_true p44
   replace q44 := eq_true q44
   go_upto_if 29 with ((with_reducible refine gw ?_); first | (refine gl 26 Tryz.func105 #[.string (rdOf ByteArray.empty t42 0)] ?_; (with_reducible refine (spec_l3Words.calls kj2 (rdOf ByteArray.empty t42 0) t47 _ A11.out).mono ?_); rintro e w14 ⟨v59, rfl, ho0, hb⟩; refine ⟨_, rfl, ?_⟩; have HO45 := am (Kd.R_lower (Kd.R_new' ho0 (Kd.R_lt (ro HO_4))) (below_size bl)); replace HO_4 := am (Kd.R_elder' (ro HO_4) (Kd.R_base ho0) hb); replace BK37 := kb BK37 hb; replace HB := am (below_step bl hb); clear hb ho0; obtain ⟨Ao15, co15, eo15⟩ := Kd.R_slice HO45.out; subst eo15))
   have H := HH12.out
   clear HH12
   by_cases c16 : (t47.length : Int) = 3
   rotate_left
   ·rw [if_neg c16] at H
    have c16b0 := eqf c16
    have c16b1 := net c16
    (first | rw [c16b0] | (simp only [i64_w, i32_w]; rw [c16b0]) | skip)
    simp only [Option.some.injEq, Prod.mk.injEq] at H
    obtain ⟨rfl, rfl, rfl, rfl⟩ := H
    obtain ⟨_, _, _, _, _, _⟩ := cl3 BK37
    go_wp2
    refine bodyPost_ret (results_ct rfl _ _ gb37 29 #[.int .i64 0, .slice none 0 0, .string (⟨#[]⟩ : ByteArray)] (0, 0) _ rfl (pt0 BK37) Tryz.underlying29 rfl (by kernel_rfl)) rfl ?_
    exact ⟨_, rf, by first | exact Kd.R_nil _ _ _ _ _ | exact Kd.N_nil _ _ _ _ _ | exact Kd.V_nil _ _ _ _ _ | exact Kd.Q_nil _ _ _ _ _ | exact Kd.S_nil _ _ _ _ _, bl⟩
   rw [if_pos c16] at H
   have c16b0 := eqt c16
   have c16b1 := nef c16
   clear c16
   (first | rw [c16b0] | (simp only [i64_w, i32_w]; rw [c16b0]) | skip)
   revert H
   refine ifn fun c17 H => ?_
   have c17b0 := decide_eq_true c17
   have c17b1 : decide (1 < t47.length) = true := decide_eq_true (by omega)
   clear c17
   revert H
   refine ok2 fun t52 t58 A18 H => ?_
   (try dsimp only at H)
   revert H
   refine ifn fun c19 H => ?_
   have c19b0 := eq_true c19
   have c19b1 := decide_eq_true c19
   clear c19
   obtain ⟨y46, hy46⟩ : ∃ y_ : List ByteArray, y_ = (t42.drop 1) := ⟨_, rfl⟩
   replace H : ((spec_l3Fields.f kj2 y46).bind fun t48 => (if 0 ≤ t51 then (if t51 ≤ (a0.size : Int) then ((spec_RespText.f kj2 t52 t48 (a0.extract (t51 : Int).toNat a0.size)).bind fun t53 => (if t53.toList = a0.toList then (some (t52, t48, a0.extract (t51 : Int).toNat a0.size, true)) else (some (0, ([] : List (S116)), (⟨#[]⟩ : ByteArray), false)))) else (none)) else (none))) = some (r1, r2, r3, r4) := by first | (rw [hy46]; with_reducible exact H) | (have H2_ := (Option.bind_some _ _).symm.trans H; rw [hy46]; with_reducible exact H2_) | (have H2_ := (Option.bind_some _ _).symm.trans H; with_reducible exact H2_) | with_reducible exact H | (rw [hy46]; exact H) | exact H
   have Ny46 := am hy46
   clear hy46
   revert H
   refine ok1 fun t48 A20 H => ?_
   revert H
   refine ifn fun c21 H => ?_
   have c21b0 := eq_true c21
   have c21b1 := decide_eq_true c21
   clear c21
   revert H
   refine ifn fun c22 H => ?_
   have c22b0 := eq_true c22
   have c22b1 := decide_eq_true c22
   clear c22
   revert H
   refine ok1 fun t53 A23 H => ?_
   have HH24 := am H
   clear H
   have p49 : 0 ≤ (1 : Int) := (by omega)
   have q49 : 1 < (t47.length : Int) := od
   obtain ⟨ad49, e49, hx49_0⟩ := Kd.at_string (Kd.R_reads' HO45.out).2.2 1 p49 q49
   cases e49
   (try simp only [show (1 : Int).toNat = 1 from rfl, Nat.reduceMul, Nat.reduceEqDiff, Go.Addr.add, ↓reduceIte] at hx49_0)
   have qi1346 : (1 < t47.length) = True := eq_true (by omega)
   (try rw [show ((1 : Int)).toNat = 1 from rfl] at hx49_0)
   replace p49 := eq_true p49
   replace q49 := eq_true q49
   try go_wp2_with ((with_reducible refine gw ?_); first | (refine gl 35 Tryz.func106 #[.string (rdOf ByteArray.empty t47 1)] ?_; (with_reducible refine (spec_NumRead.calls kj2 (rdOf ByteArray.empty t47 1) t52 t58 _ A18.out).mono ?_); rintro e w25 ⟨rfl, hb⟩; refine ⟨_, rfl, ?_⟩; replace HO_4 := kr HO_4 hb; replace HO45 := kr HO45 hb; replace BK37 := kb BK37 hb; replace HB := am (below_step bl hb); clear hb))
   replace HO_4 := am (Kd.R_drew HO_4.out)
   replace HO45 := am (Kd.R_drew HO45.out)
   replace BK37 := am (blk_drew BK37.out)
   replace HB := am (below_drew1 HB.out)
   have q27 : (1 : Int) ≤ ((t42.length : Int) : Int) := od
   obtain ⟨i027, hi027, _, hsz27, _⟩ := info_parts info9
   have hroom27 : t42.length ≤ co13 := (Kd.R_reads' HO_4.out).2.1
   have hC27 : Kd.C Kd.string _ (some ad44) t42.length t42 := (Kd.R_reads' HO_4.out).2.2
   have hcut27 := cut_from (P := Tryz.prog) 26 9 .i64 Tryz.underlying26 hi027 1 hsz27 (some ad44) t42.length co13 1 (by omega) q27
   have hr27 := Kd.C_drop (m := (1 : Int).toNat) (c := co13) hC27 (by omega) hroom27
   obtain ⟨A27, hA27⟩ : ∃ A1, A1 = (if co13 = (1 : Int).toNat then (some ad44) else ((some ad44) : Option Addr).map (·.add ((1 : Int).toNat * 1))) := ⟨_, rfl⟩
   obtain ⟨c27, hc27⟩ : ∃ c1, c1 = co13 - (1 : Int).toNat := ⟨_, rfl⟩
   have hy27 : y46.length = t42.length - (1 : Int).toNat := (by rw [Ny46.out, List.length_drop] <;> omega)
   rw [show (t42).drop (1 : Int).toNat = y46 from Ny46.out.symm] at hr27
   replace hr27 : Kd.C Kd.string _ A27 y46.length y46 := (by rw [hA27]; exact hr27)
   rw [← hy27, ← hA27, ← hc27] at hcut27
   have HR1352 := am hr27
   have HC56 := am (show y46.length ≤ c27 from by rw [hy27, hc27]; exact Nat.sub_le_sub_right hroom27 _)
   clear hr27 hC27 hroom27 hi027 hsz27 hc27
   have KY27 := am hy27
   have KA27 := am hA27
   clear hy27 hA27
   have KL27 := am (show 1 ≤ t42.length from by omega)
   replace q27 := eq_true q27
   refine start_ (n := 10) (S := fun w' => True) (ds := []) ⟨br true [0, 10]⟩ (by kernel_rfl) rfl (by kernel_rfl) trivial (fun hHeld => ?_); refine with_tabW spec_RespRead.tab8 spec_RespRead.bits8 (fun HT_ HW_ => ?_)
   generalize w25.drew = w26 at HO_4 HO45 BK37 HB HR1352 hHeld ⊢
   refine pu 0 38 [1, 9] ?_
   refine pu 1 39 [2, 8] ?_
   refine pu 2 40 [3, 7] ?_
   refine pu 4 42 [3, 1, 1, 5] ?_
   refine pu 5 43 [3, 1, 2, 4] ?_
   refine pu 6 44 [3, 1, 3, 3] ?_
   refine join_ (σ := Value × Nat) 1 #[true, true, true, true, true, true, true, true, true, false] (fun s_ => [(41, s_.1), (9, .pointer (some ⟨s_.2, 0, none⟩)), (45, .agg #[.int .i64 t52, s_.1, .string (a0.extract (t51 : Int).toNat a0.size)])]) (fun s_ w' => (Kd.R Kd.string 9 w' w.heap.size (fun k_ => some k_ ≠ (.slice (some ad44) t42.length co13 : Value).ownBlock) (.slice (some ad49) t47.length co15) t47) ∧ (Kd.R k116 116 w' w.heap.size (fun _ => True) s_.1 t48) ∧ (Kd.R Kd.string 9 w' w.heap.size (fun k_ => some k_ ≠ (.slice (some ad49) t47.length co15 : Value).ownBlock) (.slice (some ad44) t42.length co13) t42) ∧ (w'.heap[gb37]? = some (.cells #[.int .i64 0, .slice none 0 0, .string (⟨#[]⟩ : ByteArray)] 29 (0, 0))) ∧ (w'.heap[s_.2]? = some (.cells #[.int .i64 0, .slice none 0 0, .string (⟨#[]⟩ : ByteArray)] 29 (0, 0))) ∧ (w.heap.size ≤ s_.2) ∧ (w.heap.size ≤ s_.2) ∧ (gb37 ≠ s_.2) ∧ (s_.2 ≠ gb37) ∧ (Below w.heap.size w w')) ?_ ?_
   rotate_left
   ·intro hCont
    refine two_ (i := 3) (j := 8) (Ni := some 41) (Nj := some 9) #[true, true, true, true, true, true, true, false, false, false] #[true, true, true, false, true, true, true, false, true, false] rfl rfl rfl rfl (two_of HT_.out (by kernel_rfl)) (by decide) (by decide) (fun K hK => ?_) (fun K hK => ?_)
    ·skip
     refine goes_ Tryz.func154 (by kernel_rfl) rfl #[.slice A27 y46.length c27] (by rfl) rfl rfl ma ?_
     with_reducible refine (spec_l3Fields.calls kj2 _ _ y46 t48 _ ?side1 ?side2 A20.out).mono ?_
     (case side1 => repeat (first | exact (by repeat (first | (with_reducible exact HR1352.out) | (with_reducible refine Kd.C_alloc ?_ _) | (with_reducible refine Kd.C_drewN ?_ _) | (with_reducible refine Kd.C_drew ?_) | exact HR1352.out)) | (with_reducible refine Kd.C_alloc ?_ _) | (with_reducible refine Kd.C_drewN ?_ _) | (with_reducible refine Kd.C_drew ?_)))
     (case side2 => exact HC56.out)
     rintro e w28 ⟨v55, rfl, ho0, hb⟩
     refine ⟨_, rfl, ?_⟩
     replace HO_4 := kr HO_4 hb
     replace HO45 := kr HO45 hb
     have HO50 := am (Kd.R_lower ho0 (below_size bl))
     replace BK37 := kb BK37 hb
     replace HR1352 := am (Kd.C_below (by repeat (first | (with_reducible exact HR1352.out) | (with_reducible refine Kd.C_alloc ?_ _) | (with_reducible refine Kd.C_drewN ?_ _) | (with_reducible refine Kd.C_drew ?_) | exact HR1352.out)) hb)
     replace HB := am (below_step bl hb)
     clear hb ho0
     obtain ⟨Ao29, co29, eo29⟩ := Kd.R_slice HO50.out
     (first | subst eo29 | (injection eo29 with f1_ f2_ f3_; have f4_ := f1_.symm; have f5_ := f3_.symm; clear f1_ f2_ f3_; subst f4_; subst f5_))
     refine hK.out _ _ trivial (fun hHeld => ?_)
     clear hK K
     refine nm 41 ?_
     refine pu 7 45 [8, 2] ?_
     refine one_ (i := 8) (N := some 9) #[true, true, true, true, true, true, true, true, true, false] rfl rfl (one_of HT_.out (by kernel_rfl)) (by decide) (fun K hK => ?_)
     refine box_step ?hg (N := 9) ?hd (cs := #[.int .i64 0, .slice none 0 0, .string (⟨#[]⟩ : ByteArray)]) (t := 29) ?hr ?_; (case hd => rfl); (case hg => rfl); (case hr => first | (go_simp; done) | (go_simp; rfl))
     intro gb41 hg w30 hbox hb
     replace HO_4 := am (Kd.R_below (ro HO_4) hb)
     replace HO45 := am (Kd.R_below (ro HO45) hb)
     replace HO50 := am (Kd.R_below (ro HO50) hb)
     replace HR1352 := am (Kd.C_below (by repeat (first | (with_reducible exact HR1352.out) | (with_reducible refine Kd.C_alloc ?_ _) | (with_reducible refine Kd.C_drewN ?_ _) | (with_reducible refine Kd.C_drew ?_) | exact HR1352.out)) hb)
     have BK41 := am (hbox)
     have GW41 := am (sz hg : w.heap.size ≤ gb41)
     have GE41 := am (sz hg : w.heap.size ≤ gb41)
     replace HB := am (below_step bl hb)
     have NB37_41 := am (nl hg BK37 : gb37 ≠ gb41)
     have NB41_37 := am (ng hg BK37 : gb41 ≠ gb37)
     replace BK37 := kb BK37 hb
     clear hb hbox hg
     refine hK.out _ _ trivial (fun hHeld => ?_)
     clear hK K
     refine nm 9 ?_
     exact norm_ (by simp only [putAll, Act.put, List.setIfInBounds_toArray, List.set_cons_zero, List.set_cons_succ]) (hCont (.slice Ao29 t48.length co29, gb41) _ ⟨(rm HO45 (fun _ hk => hk.2)), (ro HO50), (rm HO_4 (fun _ hk => hk.2)), (bk BK37), (bk BK41), GW41.out, GE41.out, NB37_41.out, NB41_37.out, bl⟩)
    ·skip
     refine box_step ?hg (N := 9) ?hd (cs := #[.int .i64 0, .slice none 0 0, .string (⟨#[]⟩ : ByteArray)]) (t := 29) ?hr ?_; (case hd => rfl); (case hg => rfl); (case hr => first | (go_simp; done) | (go_simp; rfl))
     intro gb41 hg w28 hbox hb
     replace HO_4 := am (Kd.R_below (ro HO_4) hb)
     replace HO45 := am (Kd.R_below (ro HO45) hb)
     replace HR1352 := am (Kd.C_below (by repeat (first | (with_reducible exact HR1352.out) | (with_reducible refine Kd.C_alloc ?_ _) | (with_reducible refine Kd.C_drewN ?_ _) | (with_reducible refine Kd.C_drew ?_) | exact HR1352.out)) hb)
     have BK41 := am (hbox)
     have GW41 := am (sz hg : w.heap.size ≤ gb41)
     have GE41 := am (sz hg : w.heap.size ≤ gb41)
     replace HB := am (below_step bl hb)
     have NB37_41 := am (nl hg BK37 : gb37 ≠ gb41)
     have NB41_37 := am (ng hg BK37 : gb41 ≠ gb37)
     replace BK37 := kb BK37 hb
     clear hb hbox hg
     refine hK.out _ _ trivial (fun hHeld => ?_)
     clear hK K
     refine nm 9 ?_
     refine og 3 41 [7, 1, 1, 1] Tryz.func154 #[.slice A27 y46.length c27] (fun K hK => ?_)
     with_reducible refine (spec_l3Fields.calls kj2 _ _ y46 t48 _ ?side1 ?side2 A20.out).mono ?_
     (case side1 => repeat (first | exact (by repeat (first | (with_reducible exact HR1352.out) | (with_reducible refine Kd.C_alloc ?_ _) | (with_reducible refine Kd.C_drewN ?_ _) | (with_reducible refine Kd.C_drew ?_) | exact HR1352.out)) | (with_reducible refine Kd.C_alloc ?_ _) | (with_reducible refine Kd.C_drewN ?_ _) | (with_reducible refine Kd.C_drew ?_)))
     (case side2 => exact HC56.out)
     rintro e w29 ⟨v55, rfl, ho0, hb⟩
     refine ⟨_, rfl, ?_⟩
     replace HO_4 := kr HO_4 hb
     replace HO45 := kr HO45 hb
     have HO50 := am (Kd.R_lower ho0 (below_size bl))
     replace BK37 := kb BK37 hb
     replace HR1352 := am (Kd.C_below (by repeat (first | (with_reducible exact HR1352.out) | (with_reducible refine Kd.C_alloc ?_ _) | (with_reducible refine Kd.C_drewN ?_ _) | (with_reducible refine Kd.C_drew ?_) | exact HR1352.out)) hb)
     replace BK41 := kb BK41 hb
     replace HB := am (below_step bl hb)
     clear hb ho0
     obtain ⟨Ao30, co30, eo30⟩ := Kd.R_slice HO50.out
     (first | subst eo30 | (injection eo30 with f1_ f2_ f3_; have f4_ := f1_.symm; have f5_ := f3_.symm; clear f1_ f2_ f3_; subst f4_; subst f5_))
     refine hK.out _ _ trivial (fun hHeld => ?_)
     clear hK K
     refine nm 41 ?_
     refine pu 7 45 [9, 1] ?_
     exact norm_ (by simp only [putAll, Act.put, List.setIfInBounds_toArray, List.set_cons_zero, List.set_cons_succ]) (hCont (.slice Ao30 t48.length co30, gb41) _ ⟨(rm HO45 (fun _ hk => hk.2)), (ro HO50), (rm HO_4 (fun _ hk => hk.2)), (bk BK37), (bk BK41), GW41.out, GE41.out, NB37_41.out, NB41_37.out, bl⟩)
   rintro ⟨v55, gb41⟩ w31 ⟨h0_, h1_, h2_, h3_, h4_, h5_, h6_, h7_, h8_, h9_⟩
   have n0_ : Aside0 (Kd.R Kd.string 9 w31 w.heap.size (fun k_ => some k_ ≠ (.slice (some ad44) t42.length co13 : Value).ownBlock) (.slice (some ad49) t47.length co15) t47) := ⟨h0_⟩
   have n1_ : Aside0 (Kd.R k116 116 w31 w.heap.size (fun _ => True) v55 t48) := ⟨h1_⟩
   have n2_ : Aside0 (Kd.R Kd.string 9 w31 w.heap.size (fun k_ => some k_ ≠ (.slice (some ad49) t47.length co15 : Value).ownBlock) (.slice (some ad44) t42.length co13) t42) := ⟨h2_⟩
   have n3_ : Aside0 (w31.heap[gb37]? = some (.cells #[.int .i64 0, .slice none 0 0, .string (⟨#[]⟩ : ByteArray)] 29 (0, 0))) := ⟨h3_⟩
   have n4_ : Aside0 (w31.heap[gb41]? = some (.cells #[.int .i64 0, .slice none 0 0, .string (⟨#[]⟩ : ByteArray)] 29 (0, 0))) := ⟨h4_⟩
   have n5_ : Aside0 (w.heap.size ≤ gb41) := ⟨h5_⟩
   have n6_ : Aside0 (w.heap.size ≤ gb41) := ⟨h6_⟩
   have n7_ : Aside0 (gb37 ≠ gb41) := ⟨h7_⟩
   have n8_ : Aside0 (gb41 ≠ gb37) := ⟨h8_⟩
   have n9_ : Aside0 (Below w.heap.size w w31) := ⟨h9_⟩
   clear HO_4
   clear HO45
   clear BK37
   clear HB
   clear h0_ h1_ h2_ h3_ h4_ h5_ h6_ h7_ h8_ h9_
   have HO45 := n0_
   have HO50 := n1_
   have HO_4 := n2_
   have BK37 := n3_
   have BK41 := n4_
   have GW41 := n5_
   have GE41 := n6_
   have NB37_41 := n7_
   have NB41_37 := n8_
   have HB := n9_
   clear n0_ n1_ n2_ n3_ n4_ n5_ n6_ n7_ n8_ n9_
   have hHeld := trivial
   obtain ⟨Ao32, co32, eo32⟩ := Kd.R_slice HO50.out
   (first | subst eo32 | (injection eo32 with f1_ f2_ f3_; have f4_ := f1_.symm; have f5_ := f3_.symm; clear f1_ f2_ f3_; subst f4_; subst f5_))
   refine norm_ (a' := ?_) ?_ ?_
   rotate_left
   ·simp only [putAll, Act.put, List.setIfInBounds_toArray, List.set_cons_zero, List.set_cons_succ]
    rfl
   refine one_ (i := 9) (N := none) #[true, true, true, true, true, true, true, true, true, true] rfl rfl (one_of HT_.out (by kernel_rfl)) (by decide) (fun K hK => ?_)
   have hs33 : w31.cell? ⟨gb41, 0, none⟩ = some (.int .i64 0) := bc BK41
   have hfs33 := blk_frozen BK41.out 0
   have hns33_0 := NB37_41.out
   have hms33_0 := NB41_37.out
   have hs34 : w31.cell? ⟨gb41, 1, none⟩ = some (.slice none 0 0) := bc BK41
   have hfs34 := blk_frozen BK41.out 1
   have hns34_0 := NB37_41.out
   have hms34_0 := NB41_37.out
   have hs35 : w31.cell? ⟨gb41, 2, none⟩ = some (.string (⟨#[]⟩ : ByteArray)) := bc BK41
   have hfs35 := blk_frozen BK41.out 2
   have hns35_0 := NB37_41.out
   have hms35_0 := NB41_37.out
   refine skip_ (w1 := ?_) (by rfl) rfl ?_ ?_
   rotate_left
   ·go_simp
    rfl
   refine hK.out _ _ trivial (fun hHeld => ?_)
   clear hK K
   refine done_ (done_of HT_.out (by kernel_rfl)) ?_
   have hnb36 := NB41_37.out
   have hnc36 := NB37_41.out
   obtain ⟨_, _, _, _, _, _⟩ := cl3 BK41
   go_upto_if 49 with ((with_reducible refine gw ?_); first | (refine gl 47 Tryz.func127 #[.agg #[.int .i64 t52, .slice Ao32 t48.length co32, .string (a0.extract (t51 : Int).toNat a0.size)]] ?_; (with_reducible refine (spec_RespText.calls kj2 t52 _ _ t48 (a0.extract (t51 : Int).toNat a0.size) t53 _ ?side1 ?side2 A23.out).mono ?_); (case side1 => refine (Kd.R_reads' (e := 116) (base := w.heap.size) (ok := fun k_ => True) (n := t48.length) (c := co32) ?_).2.2; exact (rj (Kd.R_types HO50.out BK41.out (by decide)) (fun _ h_ => h_.1))); (case side2 => exact (Kd.R_reads' HO50.out).2.1); rintro e w38 ⟨rfl, hb⟩; refine ⟨_, rfl, ?_⟩; replace HO_4 := am (Kd.R_below (rj (Kd.R_types HO_4.out BK41.out (by decide)) (fun _ h_ => h_.1)) hb); replace HO45 := am (Kd.R_below (rj (Kd.R_types HO45.out BK41.out (by decide)) (fun _ h_ => h_.1)) hb); replace HO50 := am (Kd.R_below (rj (Kd.R_types HO50.out BK41.out (by decide)) (fun _ h_ => h_.1)) hb); replace BK37 := kg1 BK37 NB37_41 hb; replace BK41 := am (blk_below (g := gb41) (o := .cells #[.int .i64 t52, .slice Ao32 t48.length co32, .string (a0.extract (t51 : Int).toNat a0.size)] 29 (0, 0)) (pt0 BK41) hb); replace HB := am (below_step bl hb); clear hb))
   have H := HH24.out
   clear HH24
   by_cases c39 : t53.toList = a0.toList
   rotate_left
   ·rw [if_neg c39] at H
    have c39b0 := eqf c39
    have c39b1 := net c39
    (first | rw [c39b0] | (simp only [i64_w, i32_w]; rw [c39b0]) | skip)
    simp only [Option.some.injEq, Prod.mk.injEq] at H
    obtain ⟨rfl, rfl, rfl, rfl⟩ := H
    have hnb43 := NB37_41.out
    have hnc43 := NB41_37.out
    obtain ⟨_, _, _, _, _, _⟩ := cl3 BK37
    go_wp2
    refine bodyPost_ret (results_ct rfl _ _ gb37 29 #[.int .i64 0, .slice none 0 0, .string (⟨#[]⟩ : ByteArray)] (0, 0) _ rfl (pt0 BK37) Tryz.underlying29 rfl (by kernel_rfl)) rfl ?_
    exact ⟨_, rf, by first | exact Kd.R_nil _ _ _ _ _ | exact Kd.N_nil _ _ _ _ _ | exact Kd.V_nil _ _ _ _ _ | exact Kd.Q_nil _ _ _ _ _ | exact Kd.S_nil _ _ _ _ _, bl⟩
   rw [if_pos c39] at H
   have c39b0 := eqt c39
   have c39b1 := nef c39
   clear c39
   (first | rw [c39b0] | (simp only [i64_w, i32_w]; rw [c39b0]) | skip)
   simp only [Option.some.injEq, Prod.mk.injEq] at H
   obtain ⟨rfl, rfl, rfl, rfl⟩ := H
   have hnb40 := NB41_37.out
   have hnc40 := NB37_41.out
   obtain ⟨_, _, _, _, _, _⟩ := cl3 BK41
   obtain ⟨_, _, _, _, _, _⟩ := cl3 BK37
   go_wp2
   refine bodyPost_ret (results_ct rfl _ _ gb37 29 #[.int .i64 t52, .slice Ao32 t48.length co32, .string (a0.extract (t51 : Int).toNat a0.size)] (0, 0) _ rfl (pt0 BK37) Tryz.underlying29 rfl (by kernel_rfl)) rfl ?_
   exact ⟨_, rf, rj (Kd.R_types HO50.out BK37.out (by decide)) (fun _ hk => trivial), bl⟩
theorem u37HB {p : Prop} (h : p := by repeat (first | (with_reducible first | exact HB.out | apply below_alloc | apply pw_below_drewN | apply below_drew1 | refine below_set ?_ GE22.out | refine below_set ?_ GE35.out) | exact HB.out)) : p := h
mutual
def spec_ObjRead.j0 : Nat → ByteArray → Int → List ByteArray → Bool → Option (ByteArray × List ByteArray × List ByteArray × Int × (List (S116)) × ByteArray × Int × Bool)
 | 0, _, _, _, _ => none
 | k + 1, x0, x5, x6, x28 => if x28 = true then (some ((⟨#[]⟩ : ByteArray), ([] : List ByteArray), ([] : List ByteArray), 0, ([] : List (S116)), (⟨#[]⟩ : ByteArray), 0, false)) else (if 2 < (x6.length : Int) then ((spec_NumRead.f k (rdOf ByteArray.empty x6 2)).bind fun bt58 => (if 3 < (x6.length : Int) then ((spec_NumRead.f k (rdOf ByteArray.empty x6 3)).bind fun bt69 => (if 1 < (x6.length : Int) then (spec_ObjRead.l0 k x0 x5 bt69.1 0 (rdOf ByteArray.empty x6 1) ([] : List ByteArray) 0 (⟨#[]⟩ : ByteArray) bt58.1) else (none))) else (none))) else (none))
def spec_ObjRead.j2 : Nat → ByteArray → Int → ByteArray → List ByteArray → Int → ByteArray → Int → Option (ByteArray × List ByteArray × List ByteArray × Int × (List (S116)) × ByteArray × Int × Bool)
 | 0, _, _, _, _, _, _, _ => none
 | k + 1, x0, x5, x66, x44, x72, x73, x67 => if x5 < 0 then (some ((⟨#[]⟩ : ByteArray), ([] : List ByteArray), ([] : List ByteArray), 0, ([] : List (S116)), (⟨#[]⟩ : ByteArray), 0, false)) else (if 0 ≤ x5 then (if x5 ≤ (x0.size : Int) then ((spec_RespRead.f k (x0.extract (x5 : Int).toNat x0.size)).bind fun bt59 => ((spec_VaryOf.f k bt59.2.1).bind fun t61 => ((spec_ObjText.f k x66 t61 x44 bt59.1 bt59.2.1 bt59.2.2.1 x67).bind fun t74 => (if t74.toList = x0.toList then (some (x66, t61, x44, bt59.1, bt59.2.1, bt59.2.2.1, x67, true)) else (some ((⟨#[]⟩ : ByteArray), ([] : List ByteArray), ([] : List ByteArray), 0, ([] : List (S116)), (⟨#[]⟩ : ByteArray), 0, false)))))) else (none)) else (none))
def spec_ObjRead.l0 : Nat → ByteArray → Int → Int → Int → ByteArray → List ByteArray → Int → ByteArray → Int → Option (ByteArray × List ByteArray × List ByteArray × Int × (List (S116)) × ByteArray × Int × Bool)
 | 0, _, _, _, _, _, _, _, _, _ => none
 | k + 1, x0, x5, x9, x12, x66, x44, x72, x73, x67 => if x12 < x9 then (if x12 < 4 then (if x5 ≥ 0 then ((spec_l10Line.f k x0 x5).bind fun bt68 => (if x44.length < 8796093022208 then (spec_ObjRead.l0 k x0 bt68.2 x9 (wrap64 (x12 + 1)) x66 (x44 ++ [bt68.1]) x72 x73 x67) else (none))) else (spec_ObjRead.j2 k x0 x5 x66 x44 x72 x73 x67)) else (spec_ObjRead.j2 k x0 x5 x66 x44 x72 x73 x67)) else (spec_ObjRead.j2 k x0 x5 x66 x44 x72 x73 x67)
end
def spec_ObjRead.f (k : Nat) (a0 : ByteArray) : Option (ByteArray × List ByteArray × List ByteArray × Int × (List (S116)) × ByteArray × Int × Bool) := (spec_l10Line.f k a0 0).bind fun bt65 => ((spec_l3Words.f k bt65.1).bind fun t48 => (if bt65.2 < 0 then (spec_ObjRead.j0 k a0 bt65.2 t48 true) else (spec_ObjRead.j0 k a0 bt65.2 t48 ((t48.length : Int) != 4))))
theorem spec_ObjRead.calls (k : Nat) (a0 : ByteArray) (r1 : ByteArray) (r2 : List ByteArray) (r3 : List ByteArray) (r4 : Int) (r5 : List (S116)) (r6 : ByteArray) (r7 : Int) (r8 : Bool) (w : World) (h : spec_ObjRead.f k a0 = some (r1, r2, r3, r4, r5, r6, r7, r8)) :
  Calls Tryz.prog 37 #[.string a0] w fun e w' => ∃ v1_ v2_ v4_ : Value, e = .returned (.tuple #[.agg #[.string r1, v1_, v2_, .int .i64 r4, v4_, .string r6, .int .i64 r7], .bool r8]) ∧ Kd.R Kd.string 9 w' w.heap.size (fun k_ => some k_ ≠ (v2_ : Value).ownBlock) v1_ r2 ∧ Kd.R Kd.string 9 w' w.heap.size (fun k_ => some k_ ≠ (v1_ : Value).ownBlock) v2_ r3 ∧ Kd.R k116 116 w' w.heap.size (fun _ => True) v4_ r5 ∧ Below w.heap.size w w' := by
 have hu31 := Tryz.underlying31
 have hu29 := Tryz.underlying29
 have HB := am (Below.refl w.heap.size w)
 unfold spec_ObjRead.f at h
 have H := h
 clear h
 revert H
 refine ok2 fun t65 t75 A2 H => ?_
 (try dsimp only at H)
 revert H
 refine ok1 fun t48 A3 H => ?_
 have HC4 := am H
 clear H
 go_enter Tryz.func37, Tryz.ntmps37
 go_upto_region 3 with (first | ((with_reducible refine gate_dst (N := 2) rfl ?_); (try (refine gate_guard (by rfl) ?_; dsimp only)); refine box_event ?hg (N := 2) ?hd (cs := #[.string (⟨#[]⟩ : ByteArray), .slice none 0 0, .slice none 0 0, .int .i64 0, .slice none 0 0, .string (⟨#[]⟩ : ByteArray), .int .i64 0]) (t := 31) ?hr ?_; (case hd => rfl); (case hg => rfl); (case hr => first | (go_simp; done) | (go_simp; rfl)); intro gb22 hg w5 hbox hb; have BK22 := am (hbox); have GW22 := am (sz hg : w.heap.size ≤ gb22); have GE22 := am (sz hg : w.heap.size ≤ gb22); replace HB := am (below_step bl hb); clear hb hbox hg) | ((with_reducible refine gw ?_); first | (refine gl 17 Tryz.func104 #[.string a0, .int .i64 0] ?_; (with_reducible refine (spec_l10Line.calls k a0 0 t65 t75 _ A2.out).mono ?_); rintro e w' ⟨rfl, ⟨nd, rfl⟩⟩; refine ⟨_, rfl, ?_⟩) | (refine gl 21 Tryz.func105 #[.string t65] ?_; (with_reducible refine (spec_l3Words.calls k t65 t48 _ A3.out).mono ?_); rintro e w6 ⟨v79, rfl, ho0, hb⟩; refine ⟨_, rfl, ?_⟩; have HO76 := am (Kd.R_lower ho0 (below_size bl)); replace BK22 := kb BK22 hb; replace HB := am (below_step bl hb); clear hb ho0)))
 (try simp only [Act.put, List.setIfInBounds_toArray, List.set_cons_zero, List.set_cons_succ])
 go_cut [28] (fun v28 wc => ∃ (kq : Nat) (x28_3 : Bool), v28 = .bool x28_3 ∧ Aside0 (spec_ObjRead.j0 kq a0 t75 t48 x28_3 = some (r1, r2, r3, r4, r5, r6, r7, r8)) ∧ Aside0 (kq ≤ k) ∧ Aside0 (Kd.R Kd.string 9 wc w.heap.size (fun _ => True) v79 t48) ∧ Aside0 (wc.heap[gb22]? = some (.cells #[.string (⟨#[]⟩ : ByteArray), (.slice none 0 0), (.slice none 0 0), .int .i64 0, (.slice none 0 0), .string (⟨#[]⟩ : ByteArray), .int .i64 0] 31 (0, 0))) ∧ Aside0 (Below w.heap.size w wc))
 case first =>
  have H := HC4.out
  clear HC4
  by_cases c7 : t75 < 0
  ·rw [if_pos c7] at H
   have c7b0 := decide_eq_true c7
   clear c7
   (first | rw [c7b0] | (simp only [i64_w, i32_w]; rw [c7b0]) | skip)
   have H' := am H
   clear H
   go_wp2
   go_meet
   case rel => exact ⟨_, (true), rs, H', ⟨by first | omega | exact Nat.le_refl _⟩, ⟨ro HO76⟩, ⟨bk BK22⟩, ⟨u37HB⟩⟩
  rw [if_neg c7] at H
  have c7b0 := decide_eq_false c7
  clear c7
  (first | rw [c7b0] | (simp only [i64_w, i32_w]; rw [c7b0]) | skip)
  have H' := am H
  clear H
  obtain ⟨Ao8, co8, eo8⟩ := Kd.R_slice HO76.out
  subst eo8
  go_wp2
  go_meet
  case rel => exact ⟨_, (((t48.length : Int) != 4)), rs, H', ⟨by first | omega | exact Nat.le_refl _⟩, ⟨ro HO76⟩, ⟨bk BK22⟩, ⟨u37HB⟩⟩
 case rest =>
  clear HC4
  obtain ⟨kq, x28_3, rfl, HA, HJ3, HO_6, BK22, HB⟩ := hcut
  cases kq with
  | zero => exact absurd HA.out (by simp [spec_ObjRead.j0])
  | succ kj3 =>
   have H := HA.out
   clear HA
   simp only [spec_ObjRead.j0] at H
   by_cases c9 : x28_3 = true
   ·subst c9
    rw [if_pos rfl] at H
    simp only [Option.some.injEq, Prod.mk.injEq] at H
    obtain ⟨rfl, rfl, rfl, rfl, rfl, rfl, rfl, rfl⟩ := H
    obtain ⟨_, _, _, _, _, _, _, _, _, _, _, _, _, _⟩ := cl7 BK22
    go_wp2
    refine bodyPost_ret (results_ct rfl _ _ gb22 31 #[.string (⟨#[]⟩ : ByteArray), .slice none 0 0, .slice none 0 0, .int .i64 0, .slice none 0 0, .string (⟨#[]⟩ : ByteArray), .int .i64 0] (0, 0) _ rfl (pt0 BK22) Tryz.underlying31 rfl (by kernel_rfl)) rfl ?_
    exact ⟨_, _, _, rf, by first | exact Kd.R_nil _ _ _ _ _ | exact Kd.N_nil _ _ _ _ _ | exact Kd.V_nil _ _ _ _ _ | exact Kd.Q_nil _ _ _ _ _ | exact Kd.S_nil _ _ _ _ _, by first | exact Kd.R_nil _ _ _ _ _ | exact Kd.N_nil _ _ _ _ _ | exact Kd.V_nil _ _ _ _ _ | exact Kd.Q_nil _ _ _ _ _ | exact Kd.S_nil _ _ _ _ _, by first | exact Kd.R_nil _ _ _ _ _ | exact Kd.N_nil _ _ _ _ _ | exact Kd.V_nil _ _ _ _ _ | exact Kd.Q_nil _ _ _ _ _ | exact Kd.S_nil _ _ _ _ _, bl⟩
   replace c9 := nb_ c9
   subst c9
   rw [if_neg ff_] at H
   revert H
   refine ifn fun c11 H => ?_
   have c11b0 := decide_eq_true c11
   have c11b1 : decide (2 < t48.length) = true := decide_eq_true (by omega)
   clear c11
   revert H
   refine ok2 fun t58 t80 A12 H => ?_
   (try dsimp only at H)
   revert H
   refine ifn fun c13 H => ?_
   have c13b0 := decide_eq_true c13
   have c13b1 : decide (3 < t48.length) = true := decide_eq_true (by omega)
   clear c13
   revert H
   refine ok2 fun t69 t81 A14 H => ?_
   (try dsimp only at H)
   revert H
   refine ifn fun c15 H => ?_
   have c15b0 := decide_eq_true c15
   have c15b1 : decide (1 < t48.length) = true := decide_eq_true (by omega)
   clear c15
   have HC16 := am H
   clear H
   obtain ⟨Ao17, co17, eo17⟩ := Kd.R_slice HO_6.out
   subst eo17
   have p53 : 0 ≤ (2 : Int) := (by omega)
   have q53 : 2 < (t48.length : Int) := od
   obtain ⟨ad53, e53, hx53_0⟩ := Kd.at_string (Kd.R_reads' HO_6.out).2.2 2 p53 q53
   cases e53
   (try simp only [show (2 : Int).toNat = 2 from rfl, Nat.reduceMul, Nat.reduceEqDiff, Go.Addr.add, ↓reduceIte] at hx53_0)
   have qi1364 : (2 < t48.length) = True := eq_true (by omega)
   (try rw [show ((2 : Int)).toNat = 2 from rfl] at hx53_0)
   replace p53 := eq_true p53
   replace q53 := eq_true q53
   go_upto_block 0 with (first | ((with_reducible refine gw ?_); first | (refine gl 34 Tryz.func106 #[.string (rdOf ByteArray.empty t48 2)] ?_; (with_reducible refine (spec_NumRead.calls kj3 (rdOf ByteArray.empty t48 2) t58 t80 _ A12.out).mono ?_); rintro e w18 ⟨rfl, hb⟩; refine ⟨_, rfl, ?_⟩; replace HO_6 := kr HO_6 hb; replace BK22 := kb BK22 hb; replace HB := am (below_step bl hb); clear hb; have p54 : 0 ≤ (3 : Int) := (by omega); have q54 : 3 < (t48.length : Int) := od; obtain ⟨ad54, e54, hx54_0⟩ := Kd.at_string (Kd.R_reads' HO_6.out).2.2 3 p54 q54; obtain rfl : ad53 = ad54 := (by injection e54); (try simp only [show (3 : Int).toNat = 3 from rfl, Nat.reduceMul, Nat.reduceEqDiff, Go.Addr.add, ↓reduceIte] at hx54_0); have qi1367 : (3 < t48.length) = True := eq_true (by omega); (try rw [show ((3 : Int)).toNat = 3 from rfl] at hx54_0); replace p54 := eq_true p54; replace q54 := eq_true q54) | (refine gl 41 Tryz.func106 #[.string (rdOf ByteArray.empty t48 3)] ?_; (with_reducible refine (spec_NumRead.calls kj3 (rdOf ByteArray.empty t48 3) t69 t81 _ A14.out).mono ?_); rintro e w19 ⟨rfl, hb⟩; refine ⟨_, rfl, ?_⟩; replace HO_6 := kr HO_6 hb; replace BK22 := kb BK22 hb; replace HB := am (below_step bl hb); clear hb; have p57 : 0 ≤ (1 : Int) := (by omega); have q57 : 1 < (t48.length : Int) := od; obtain ⟨ad57, e57, hx57_0⟩ := Kd.at_string (Kd.R_reads' HO_6.out).2.2 1 p57 q57; obtain rfl : ad53 = ad57 := (by injection e57); (try simp only [show (1 : Int).toNat = 1 from rfl, Nat.reduceMul, Nat.reduceEqDiff, Go.Addr.add, ↓reduceIte] at hx57_0); have qi1370 : (1 < t48.length) = True := eq_true (by omega); (try rw [show ((1 : Int)).toNat = 1 from rfl] at hx57_0); replace p57 := eq_true p57; replace q57 := eq_true q57)) | ((with_reducible refine gate_dst (N := 11) rfl ?_); (try (refine gate_guard (by rfl) ?_; dsimp only)); refine box_event ?hg (N := 11) ?hd (cs := #[.string (⟨#[]⟩ : ByteArray), .slice none 0 0, .slice none 0 0, .int .i64 0, .slice none 0 0, .string (⟨#[]⟩ : ByteArray), .int .i64 0]) (t := 31) ?hr ?_; (case hd => rfl); (case hg => rfl); (case hr => first | (go_simp; done) | (go_simp; rfl)); intro gb35 hg w20 hbox hb; replace HO_6 := am (Kd.R_below (ro HO_6) hb); have BK35 := am (hbox); have GW35 := am (sz hg : w.heap.size ≤ gb35); have GE35 := am (sz hg : w.heap.size ≤ gb35); replace HB := am (below_step bl hb); have NB22_35 := am (nl hg BK22 : gb22 ≠ gb35); have NB35_22 := am (ng hg BK22 : gb35 ≠ gb22); replace BK22 := kb BK22 hb; clear hb hbox hg; have hnb21 := NB35_22.out; have hnc21 := NB22_35.out; obtain ⟨_, _, _, _, _, _, _, _, _, _, _, _, _, _⟩ := cl7 BK35))
   (try simp only [Act.put, List.setIfInBounds_toArray, List.set_cons_zero, List.set_cons_succ])
   go_cut [5] (fun v5 wc => ∃ (kq : Nat) (x5_15 : Int) (x44_15 : List ByteArray) (u44 : Value), v5 = .int .i64 x5_15 ∧ Aside0 (spec_ObjRead.j2 kq a0 x5_15 (rdOf ByteArray.empty t48 1) x44_15 0 (⟨#[]⟩ : ByteArray) t58 = some (r1, r2, r3, r4, r5, r6, r7, r8)) ∧ Aside0 (kq ≤ kj3) ∧ Aside0 (Kd.R Kd.string 9 wc w.heap.size (fun _ => True) u44 x44_15) ∧ Aside0 (wc.heap[gb22]? = some (.cells #[.string (⟨#[]⟩ : ByteArray), (.slice none 0 0), (.slice none 0 0), .int .i64 0, (.slice none 0 0), .string (⟨#[]⟩ : ByteArray), .int .i64 0] 31 (0, 0))) ∧ Aside0 (wc.heap[gb35]? = some (.cells #[.string (rdOf ByteArray.empty t48 1), (.slice none 0 0), u44, .int .i64 0, (.slice none 0 0), .string (⟨#[]⟩ : ByteArray), .int .i64 t58] 31 (0, 0))) ∧ Aside0 (Below w.heap.size w wc))
   case first =>
    have H := HC16.out
    clear HC16
    have H' := am H
    clear H
    go_wp2
    (try simp only [Act.put, List.setIfInBounds_toArray, List.set_cons_zero, List.set_cons_succ])
    go_loopg [5, 12] kj3 (fun kq v5 v12 w' => ∃ (x5_2 : Int) (x12_2 : Int) (x44_2 : List ByteArray) (u44 : Value), v5 = .int .i64 x5_2 ∧ v12 = .int .i64 x12_2 ∧ Aside0 (spec_ObjRead.l0 kq a0 x5_2 t69 x12_2 (rdOf ByteArray.empty t48 1) x44_2 0 (⟨#[]⟩ : ByteArray) t58 = some (r1, r2, r3, r4, r5, r6, r7, r8)) ∧ Aside0 (kq ≤ kj3) ∧ Aside0 (Kd.R Kd.string 9 w' w.heap.size (fun _ => True) u44 x44_2) ∧ Aside0 (w'.heap[gb22]? = some (.cells #[.string (⟨#[]⟩ : ByteArray), (.slice none 0 0), (.slice none 0 0), .int .i64 0, (.slice none 0 0), .string (⟨#[]⟩ : ByteArray), .int .i64 0] 31 (0, 0))) ∧ Aside0 (w'.heap[gb35]? = some (.cells #[.string (rdOf ByteArray.empty t48 1), (.slice none 0 0), u44, .int .i64 0, (.slice none 0 0), .string (⟨#[]⟩ : ByteArray), .int .i64 t58] 31 (0, 0))) ∧ Aside0 (Below w.heap.size w w'))
    case atStart => exact ⟨(t75), (0), (([] : List ByteArray)), (.slice none 0 0), rs, rs, H', ⟨Nat.le_refl _⟩, ⟨by first | exact Kd.R_nil _ _ _ _ _ | exact Kd.N_nil _ _ _ _ _ | exact Kd.V_nil _ _ _ _ _ | exact Kd.Q_nil _ _ _ _ _ | exact Kd.S_nil _ _ _ _ _⟩, ⟨bg1 BK22 NB22_35⟩, ⟨pt0 BK35⟩, ⟨u37HB⟩⟩
    case round =>
     clear H'
     obtain ⟨x5_2, x12_2, x44_2, u44, rfl, rfl, HA, HK2, HO_1372002, BK22, BK35, HB⟩ := hrel
     cases gk with
     | zero => exact absurd HA.out (by simp [spec_ObjRead.l0])
     | succ k2 =>
      have H := HA.out
      clear HA
      simp only [spec_ObjRead.l0] at H
      by_cases c23 : x12_2 < t69
      rotate_left
      ·rw [if_neg c23] at H
       have c23b0 := decide_eq_false c23
       clear c23
       (first | rw [c23b0] | (simp only [i64_w, i32_w]; rw [c23b0]) | skip)
       have H' := am H
       clear H
       go_wp2
       go_meet
       case rel => exact ⟨_, (x5_2), (x44_2), (u44), rs, H', ⟨by have := HJ3.out; have := HK2.out; first | omega | exact Nat.le_refl _⟩, ⟨ro HO_1372002⟩, ⟨bk BK22⟩, ⟨bk BK35⟩, ⟨u37HB⟩⟩
      rw [if_pos c23] at H
      have c23b0 := decide_eq_true c23
      clear c23
      (first | rw [c23b0] | (simp only [i64_w, i32_w]; rw [c23b0]) | skip)
      by_cases c24 : x12_2 < 4
      rotate_left
      ·rw [if_neg c24] at H
       have c24b0 := decide_eq_false c24
       clear c24
       have H' := am H
       clear H
       go_wp2
       go_meet
       case rel => exact ⟨_, (x5_2), (x44_2), (u44), rs, H', ⟨by have := HJ3.out; have := HK2.out; first | omega | exact Nat.le_refl _⟩, ⟨ro HO_1372002⟩, ⟨bk BK22⟩, ⟨bk BK35⟩, ⟨u37HB⟩⟩
      rw [if_pos c24] at H
      have c24b0 := decide_eq_true c24
      clear c24
      by_cases c25 : x5_2 ≥ 0
      rotate_left
      ·rw [if_neg c25] at H
       have c25b0 := decide_eq_false c25
       clear c25
       have H' := am H
       clear H
       go_wp2
       go_meet
       case rel => exact ⟨_, (x5_2), (x44_2), (u44), rs, H', ⟨by have := HJ3.out; have := HK2.out; first | omega | exact Nat.le_refl _⟩, ⟨ro HO_1372002⟩, ⟨bk BK22⟩, ⟨bk BK35⟩, ⟨u37HB⟩⟩
      rw [if_pos c25] at H
      have c25b0 := decide_eq_true c25
      clear c25
      revert H
      refine ok2 fun t68 t77 A26 H => ?_
      (try dsimp only at H)
      revert H
      refine ifn fun c27 H => ?_
      have LMc27 := am c27
      clear c27
      obtain ⟨y60, hy60⟩ : ∃ y_ : List ByteArray, y_ = (x44_2 ++ [t68]) := ⟨_, rfl⟩
      replace H : (spec_ObjRead.l0 k2 a0 t77 t69 (wrap64 (x12_2 + 1)) (rdOf ByteArray.empty t48 1) y60 0 (⟨#[]⟩ : ByteArray) t58) = some (r1, r2, r3, r4, r5, r6, r7, r8) := by first | (rw [hy60]; with_reducible exact H) | (have H2_ := (Option.bind_some _ _).symm.trans H; rw [hy60]; with_reducible exact H2_) | (have H2_ := (Option.bind_some _ _).symm.trans H; with_reducible exact H2_) | with_reducible exact H | (rw [hy60]; exact H) | exact H
      have Ny60 := am hy60
      clear hy60
      have H' := am H
      clear H
      go_wp2_with (first | ((with_reducible refine gw ?_); first | (refine gl 65 Tryz.func104 #[.string a0, .int .i64 x5_2] ?_; (with_reducible refine (spec_l10Line.calls k2 a0 x5_2 t68 t77 _ A26.out).mono ?_); rintro e w' ⟨rfl, ⟨nd, rfl⟩⟩; refine ⟨_, rfl, ?_⟩; (try (rw [drewN_self wr]; generalize hq_ : World.drewN wr _ = wr; have n0_ : Aside0 (Kd.R Kd.string 9 wr w.heap.size (fun _ => True) u44 x44_2) := ⟨by rw [← hq_]; exact (ro HO_1372002)⟩; have n1_ : Aside0 (wr.heap[gb22]? = some (.cells #[.string (⟨#[]⟩ : ByteArray), .slice none 0 0, .slice none 0 0, .int .i64 0, .slice none 0 0, .string (⟨#[]⟩ : ByteArray), .int .i64 0] 31 (0, 0))) := ⟨by rw [← hq_]; exact (bk BK22)⟩; have n2_ : Aside0 (wr.heap[gb35]? = some (.cells #[.string (rdOf ByteArray.empty t48 1), .slice none 0 0, u44, .int .i64 0, .slice none 0 0, .string (⟨#[]⟩ : ByteArray), .int .i64 t58] 31 (0, 0))) := ⟨by rw [← hq_]; exact (bk BK35)⟩; have n3_ : Aside0 (Below w.heap.size w wr) := ⟨by rw [← hq_]; exact bl⟩; clear HO_1372002 BK22 BK35 HB hq_; have HO_1372002 := n0_; have BK22 := n1_; have BK35 := n2_; have HB := n3_; clear n0_ n1_ n2_ n3_)); have hnb28 := NB35_22.out; have hnc28 := NB22_35.out; obtain ⟨_, _, _, _, _, _, _, _, _, _, _, _, _, _⟩ := cl7 BK35)) | ((with_reducible refine gate_builtin (b := .append) (xs := #[.tmp 69, .tmp 71]) rfl ?_); (try (refine gate_guard (by rfl) ?_; dsimp only)); at_builtin; refine Kd.R_append Kd.string (w0 := w) w.heap.size rfl (.tmp 69) (.tmp 71) 26 9 (.string ⟨#[]⟩) 16 rfl Tryz.underlying26 info9 rfl (by decide) (by omega) u44 x44_2 t68 [.string t68] (fun _ => True) (fun _ => False) rfl rfl ?aP (fun _ hk => hk.elim) ?aF ?aO ?aB ?aS ?aL ?_; (case aP => exact rfl); (case aB => exact bl); (case aF => exact (fun _ _ => trivial)); (case aO => exact (ro HO_1372002)); (case aS => exact (below_size bl)); (case aL => have := LMc27.out; omega); intro v83 w30 ho hb hg hat; rw [← Ny60.out] at ho; have n0_ := am (blk_grown (g := gb22) (o := .cells #[.string (⟨#[]⟩ : ByteArray), .slice none 0 0, .slice none 0 0, .int .i64 0, .slice none 0 0, .string (⟨#[]⟩ : ByteArray), .int .i64 0] 31 (0, 0)) (bk BK22) hg (Kd.R_ne HO_1372002.out BK22.out (by decide))); have n1_ := am (blk_grown (g := gb35) (o := .cells #[.string (rdOf ByteArray.empty t48 1), .slice none 0 0, u44, .int .i64 0, .slice none 0 0, .string (⟨#[]⟩ : ByteArray), .int .i64 t58] 31 (0, 0)) (bk BK35) hg (Kd.R_ne HO_1372002.out BK35.out (by decide))); have n2_ := am (hb); have n3_ := am (ho); clear BK22; clear BK35; clear HB; clear HO_1372002; have BK22 := n0_; have BK35 := n1_; have HB := n2_; have HO78 := n3_; clear n0_ n1_ n2_ n3_; clear ho hb hg hat; obtain ⟨Ao31, co31, eo31⟩ := Kd.R_slice HO78.out; subst eo31; obtain ⟨_, _, _, _, _, _, _, _, _, _, _, _, _, _⟩ := cl7 BK35))
      go_roundg k2
      case measure => have := HJ3.out; have := HK2.out; omega
      case rel => exact ⟨(t77), (wrap64 (x12_2 + 1)), (y60), (.slice Ao31 y60.length co31), rs, rs, H', ⟨by have := HJ3.out; have := HK2.out; omega⟩, ⟨rj (Kd.R_types HO78.out BK35.out (by decide)) (fun _ hk => trivial)⟩, ⟨bg1 BK22 NB22_35⟩, ⟨pt0 BK35⟩, ⟨u37HB⟩⟩
   case rest =>
    clear HC16
    obtain ⟨kq, x5_15, x44_15, u44, rfl, HA, HJ15, HO_1372002, BK22, BK35, HB⟩ := hcut
    cases kq with
    | zero => exact absurd HA.out (by simp [spec_ObjRead.j2])
    | succ kj15 =>
     have H := HA.out
     clear HA
     simp only [spec_ObjRead.j2] at H
     by_cases c33 : x5_15 < 0
     ·rw [if_pos c33] at H
      have c33b0 := decide_eq_true c33
      clear c33
      simp only [Option.some.injEq, Prod.mk.injEq] at H
      obtain ⟨rfl, rfl, rfl, rfl, rfl, rfl, rfl, rfl⟩ := H
      have hnb34 := NB22_35.out
      have hnc34 := NB35_22.out
      obtain ⟨_, _, _, _, _, _, _, _, _, _, _, _, _, _⟩ := cl7 BK22
      go_wp2
      refine bodyPost_ret (results_ct rfl _ _ gb22 31 #[.string (⟨#[]⟩ : ByteArray), .slice none 0 0, .slice none 0 0, .int .i64 0, .slice none 0 0, .string (⟨#[]⟩ : ByteArray), .int .i64 0] (0, 0) _ rfl (pt0 BK22) Tryz.underlying31 rfl (by kernel_rfl)) rfl ?_
      exact ⟨_, _, _, rf, by first | exact Kd.R_nil _ _ _ _ _ | exact Kd.N_nil _ _ _ _ _ | exact Kd.V_nil _ _ _ _ _ | exact Kd.Q_nil _ _ _ _ _ | exact Kd.S_nil _ _ _ _ _, by first | exact Kd.R_nil _ _ _ _ _ | exact Kd.N_nil _ _ _ _ _ | exact Kd.V_nil _ _ _ _ _ | exact Kd.Q_nil _ _ _ _ _ | exact Kd.S_nil _ _ _ _ _, by first | exact Kd.R_nil _ _ _ _ _ | exact Kd.N_nil _ _ _ _ _ | exact Kd.V_nil _ _ _ _ _ | exact Kd.Q_nil _ _ _ _ _ | exact Kd.S_nil _ _ _ _ _, bl⟩
     rw [if_neg c33] at H
     have c33b0 := decide_eq_false c33
     clear c33
     revert H
     refine ifn fun c36 H => ?_
     have c36b0 := eq_true c36
     have c36b1 := decide_eq_true c36
     clear c36
     revert H
     refine ifn fun c37 H => ?_
     have c37b0 := eq_true c37
     have c37b1 := decide_eq_true c37
     clear c37
     revert H
     refine ok4 fun t59 t62 t70 t82 A38 H => ?_
     (try dsimp only at H)
     revert H
     refine ok1 fun t61 A39 H => ?_
     revert H
     refine ok1 fun t74 A40 H => ?_
     have HH41 := am H
     clear H
     go_upto_if 94 with ((with_reducible refine gw ?_); first | (refine gl 82 Tryz.func107 #[.string (a0.extract (x5_15 : Int).toNat a0.size)] ?_; (with_reducible refine (spec_RespRead.calls kj15 (a0.extract (x5_15 : Int).toNat a0.size) t59 t62 t70 t82 _ A38.out).mono ?_); rintro e w42 ⟨v84, rfl, ho0, hb⟩; refine ⟨_, rfl, ?_⟩; replace HO_1372002 := kr HO_1372002 hb; have HO63 := am (Kd.R_lower ho0 (below_size bl)); replace BK22 := kb BK22 hb; replace BK35 := kb BK35 hb; replace HB := am (below_step bl hb); clear hb ho0; have hnb43 := NB35_22.out; have hnc43 := NB22_35.out; obtain ⟨_, _, _, _, _, _, _, _, _, _, _, _, _, _⟩ := cl7 BK35; obtain ⟨Ao45, co45, eo45⟩ := Kd.R_slice HO63.out; subst eo45) | (refine gl 89 Tryz.func94 #[.slice Ao45 t62.length co45] ?_; (with_reducible refine (spec_VaryOf.calls kj15 _ _ t62 t61 _ ?side1 ?side2 A39.out).mono ?_); (case side1 => refine (Kd.R_reads' (e := 116) (base := w.heap.size) (ok := fun k_ => True) (n := t62.length) (c := co45) ?_).2.2; exact (rj (Kd.R_types HO63.out BK35.out (by decide)) (fun _ h_ => h_.1))); (case side2 => exact (Kd.R_reads' HO63.out).2.1); rintro e w46 ⟨v85, rfl, ho0, hb⟩; refine ⟨_, rfl, ?_⟩; replace HO63 := am (Kd.R_below (rj (Kd.R_types HO63.out BK35.out (by decide)) (fun _ h_ => h_.1)) hb); have HO71 := am (Kd.R_lower (Kd.R_new' ho0 (Kd.R_lt (rj (Kd.R_types HO_1372002.out BK35.out (by decide)) (fun _ h_ => h_.1)))) (below_size bl)); replace HO_1372002 := am (Kd.R_elder' (rj (Kd.R_types HO_1372002.out BK35.out (by decide)) (fun _ h_ => h_.1)) (Kd.R_base ho0) hb); replace BK22 := kg1 BK22 NB22_35 hb; replace BK35 := am (blk_below (g := gb35) (o := .cells #[.string (rdOf ByteArray.empty t48 1), .slice none 0 0, u44, .int .i64 t59, .slice Ao45 t62.length co45, .string t70, .int .i64 t58] 31 (0, 0)) (pt0 BK35) hb); replace HB := am (below_step bl hb); clear hb ho0; obtain ⟨Ao47, co47, eo47⟩ := Kd.R_slice HO71.out; subst eo47; obtain ⟨_, _, _, _, _, _, _, _, _, _, _, _, _, _⟩ := cl7 BK35; obtain ⟨Ao49, co49, eo49⟩ := Kd.R_slice HO_1372002.out; subst eo49) | (refine gl 92 Tryz.func56 #[.agg #[.string (rdOf ByteArray.empty t48 1), .slice Ao47 t61.length co47, .slice Ao49 x44_15.length co49, .int .i64 t59, .slice Ao45 t62.length co45, .string t70, .int .i64 t58]] ?_; (with_reducible refine (spec_ObjText.calls kj15 (rdOf ByteArray.empty t48 1) _ _ t61 _ _ x44_15 t59 _ _ t62 t70 t58 t74 _ ?side1 ?side2 ?side3 ?side4 ?side5 ?side6 A40.out).mono ?_); (case side1 => refine (Kd.R_reads' (e := 9) (base := w.heap.size) (ok := fun k_ => (True ∧ some k_ ≠ (.slice Ao49 x44_15.length co49 : Value).ownBlock)) (n := t61.length) (c := co47) ?_).2.2; exact (rj (Kd.R_types HO71.out BK35.out (by decide)) (fun _ h_ => h_.1))); (case side2 => exact (Kd.R_reads' HO71.out).2.1); (case side3 => refine (Kd.R_reads' (e := 9) (base := w.heap.size) (ok := fun k_ => (True ∧ some k_ ≠ (.slice Ao47 t61.length co47 : Value).ownBlock)) (n := x44_15.length) (c := co49) ?_).2.2; exact (rj (Kd.R_types HO_1372002.out BK35.out (by decide)) (fun _ h_ => h_.1))); (case side4 => exact (Kd.R_reads' HO_1372002.out).2.1); (case side5 => refine (Kd.R_reads' (e := 116) (base := w.heap.size) (ok := fun k_ => True) (n := t62.length) (c := co45) ?_).2.2; exact (rj (Kd.R_types HO63.out BK35.out (by decide)) (fun _ h_ => h_.1))); (case side6 => exact (Kd.R_reads' HO63.out).2.1); rintro e w50 ⟨rfl, hb⟩; refine ⟨_, rfl, ?_⟩; replace HO_1372002 := am (Kd.R_below (rj (Kd.R_types HO_1372002.out BK35.out (by decide)) (fun _ h_ => h_.1)) hb); replace HO63 := am (Kd.R_below (rj (Kd.R_types HO63.out BK35.out (by decide)) (fun _ h_ => h_.1)) hb); replace HO71 := am (Kd.R_below (rj (Kd.R_types HO71.out BK35.out (by decide)) (fun _ h_ => h_.1)) hb); replace BK22 := kg1 BK22 NB22_35 hb; replace BK35 := am (blk_below (g := gb35) (o := .cells #[.string (rdOf ByteArray.empty t48 1), .slice Ao47 t61.length co47, .slice Ao49 x44_15.length co49, .int .i64 t59, .slice Ao45 t62.length co45, .string t70, .int .i64 t58] 31 (0, 0)) (pt0 BK35) hb); replace HB := am (below_step bl hb); clear hb))
     have H := HH41.out
     clear HH41
     by_cases c51 : t74.toList = a0.toList
     ·rw [if_pos c51] at H
      have c51b0 := eqt c51
      have c51b1 := nef c51
      clear c51
      (first | rw [c51b0] | (simp only [i64_w, i32_w]; rw [c51b0]) | skip)
      simp only [Option.some.injEq, Prod.mk.injEq] at H
      obtain ⟨rfl, rfl, rfl, rfl, rfl, rfl, rfl, rfl⟩ := H
      have hnb52 := NB35_22.out
      have hnc52 := NB22_35.out
      obtain ⟨_, _, _, _, _, _, _, _, _, _, _, _, _, _⟩ := cl7 BK35
      obtain ⟨_, _, _, _, _, _, _, _, _, _, _, _, _, _⟩ := cl7 BK22
      go_wp2
      refine bodyPost_ret (results_ct rfl _ _ gb22 31 #[.string (rdOf ByteArray.empty t48 1), .slice Ao47 t61.length co47, .slice Ao49 x44_15.length co49, .int .i64 t59, .slice Ao45 t62.length co45, .string t70, .int .i64 t58] (0, 0) _ rfl (pt0 BK22) Tryz.underlying31 rfl (by kernel_rfl)) rfl ?_
      exact ⟨_, _, _, rf, rj (Kd.R_types HO71.out BK22.out (by decide)) (fun _ hk => hk.1.2), rj (Kd.R_types HO_1372002.out BK22.out (by decide)) (fun _ hk => hk.1.2), rj (Kd.R_types HO63.out BK22.out (by decide)) (fun _ hk => trivial), bl⟩
     rw [if_neg c51] at H
     have c51b0 := eqf c51
     have c51b1 := net c51
     (first | rw [c51b0] | (simp only [i64_w, i32_w]; rw [c51b0]) | skip)
     simp only [Option.some.injEq, Prod.mk.injEq] at H
     obtain ⟨rfl, rfl, rfl, rfl, rfl, rfl, rfl, rfl⟩ := H
     have hnb55 := NB22_35.out
     have hnc55 := NB35_22.out
     obtain ⟨_, _, _, _, _, _, _, _, _, _, _, _, _, _⟩ := cl7 BK22
     go_wp2
     refine bodyPost_ret (results_ct rfl _ _ gb22 31 #[.string (⟨#[]⟩ : ByteArray), .slice none 0 0, .slice none 0 0, .int .i64 0, .slice none 0 0, .string (⟨#[]⟩ : ByteArray), .int .i64 0] (0, 0) _ rfl (pt0 BK22) Tryz.underlying31 rfl (by kernel_rfl)) rfl ?_
     exact ⟨_, _, _, rf, by first | exact Kd.R_nil _ _ _ _ _ | exact Kd.N_nil _ _ _ _ _ | exact Kd.V_nil _ _ _ _ _ | exact Kd.Q_nil _ _ _ _ _ | exact Kd.S_nil _ _ _ _ _, by first | exact Kd.R_nil _ _ _ _ _ | exact Kd.N_nil _ _ _ _ _ | exact Kd.V_nil _ _ _ _ _ | exact Kd.Q_nil _ _ _ _ _ | exact Kd.S_nil _ _ _ _ _, by first | exact Kd.R_nil _ _ _ _ _ | exact Kd.N_nil _ _ _ _ _ | exact Kd.V_nil _ _ _ _ _ | exact Kd.Q_nil _ _ _ _ _ | exact Kd.S_nil _ _ _ _ _, bl⟩
theorem u55HB {p : Prop} (h : p := by repeat (first | (with_reducible first | exact HB.out | apply below_alloc | apply pw_below_drewN | apply below_drew1 | refine below_set ?_ GE19.out) | exact HB.out)) : p := h
def impl_ObjText.l0 : Nat → ByteArray → List ByteArray → Int → Int → ByteArray → List ByteArray → List ByteArray → Int → List (S116) → ByteArray → Int → Option (ByteArray)
 | 0, _, _, _, _, _, _, _, _, _, _, _ => none
 | k + 1, x3, x25, x26, x27, x41, x42, x43, x38, x39, x40, x44 => if x27 < x26 then (if 0 ≤ x27 then (if x27 < (x25.length : Int) then (if (rdOf ByteArray.empty x25 x27).size + 1 ≤ 9223372036854775807 then (if x3.size + ((rdOf ByteArray.empty x25 x27) ++ (⟨#[10]⟩ : ByteArray)).size ≤ 9223372036854775807 then (impl_ObjText.l0 k (x3 ++ ((rdOf ByteArray.empty x25 x27) ++ (⟨#[10]⟩ : ByteArray))) x25 x26 (wrap64 (x27 + 1)) x41 x42 x43 x38 x39 x40 x44) else (none)) else (none)) else (none)) else (none)) else ((impl_RespText.f k x38 x39 x40).bind fun t36 => (if x3.size + t36.size ≤ 9223372036854775807 then (some (x3 ++ t36)) else (none)))
def impl_ObjText.f (k : Nat) (a0_0 : ByteArray) (l0_1 : List ByteArray) (l0_2 : List ByteArray) (a0_3 : Int) (l0_4 : List (S116)) (a0_5 : ByteArray) (a0_6 : Int) : Option (ByteArray) := (impl_ObjOk.f k a0_0 l0_1 l0_2 a0_3 l0_4 a0_5 a0_6).bind fun t37 => (if t37 = true then (if 4 + a0_0.size ≤ 9223372036854775807 then (if ((⟨#[111, 98, 106, 32]⟩ : ByteArray) ++ a0_0).size + 1 ≤ 9223372036854775807 then ((impl_NumText.f a0_6).bind fun t33 => (if (((⟨#[111, 98, 106, 32]⟩ : ByteArray) ++ a0_0) ++ (⟨#[32]⟩ : ByteArray)).size + t33.size ≤ 9223372036854775807 then (if ((((⟨#[111, 98, 106, 32]⟩ : ByteArray) ++ a0_0) ++ (⟨#[32]⟩ : ByteArray)) ++ t33).size + 1 ≤ 9223372036854775807 then ((strconv_Itoa.f (l0_2.length : Int)).bind fun t34 => (if (((((⟨#[111, 98, 106, 32]⟩ : ByteArray) ++ a0_0) ++ (⟨#[32]⟩ : ByteArray)) ++ t33) ++ (⟨#[32]⟩ : ByteArray)).size + t34.size ≤ 9223372036854775807 then (if ((((((⟨#[111, 98, 106, 32]⟩ : ByteArray) ++ a0_0) ++ (⟨#[32]⟩ : ByteArray)) ++ t33) ++ (⟨#[32]⟩ : ByteArray)) ++ t34).size + 1 ≤ 9223372036854775807 then (impl_ObjText.l0 k (((((((⟨#[111, 98, 106, 32]⟩ : ByteArray) ++ a0_0) ++ (⟨#[32]⟩ : ByteArray)) ++ t33) ++ (⟨#[32]⟩ : ByteArray)) ++ t34) ++ (⟨#[10]⟩ : ByteArray)) l0_2 (l0_2.length : Int) 0 a0_0 l0_1 l0_2 a0_3 l0_4 a0_5 a0_6) else (none)) else (none))) else (none)) else (none))) else (none)) else (none)) else (some (⟨#[]⟩ : ByteArray)))
def impl_ObjText.T3 : Bool × List (List Nat × List Nat) := (true, [([], []), ([0], [0]), ([1], [1]), ([2], [2]), ([], []), ([4], [4]), ([5], [5]), ([3, 6], [3, 6]), ([7], [7]), ([], []), ([9], [9]), ([10], [10]), ([11, 6], [11]), ([8, 12], [8, 12]), ([13], [13]), ([14, 12, 0, 1, 2, 3, 4, 5, 6, 7, 8, 9, 10, 11, 12, 13, 14], [14])])
def impl_ObjText.B3 : List Nat := [0, 1, 3, 7, 0, 16, 48, 127, 255, 0, 512, 1536, 3696, 8191, 16383, 32767]
theorem impl_ObjText.tab3 : rtab .any (opsOf Tryz.f55 3) = impl_ObjText.T3 := by kernel_rfl
theorem impl_ObjText.bits3 : waitsOk impl_ObjText.T3.2 impl_ObjText.B3 = true := by kernel_rfl
theorem impl_ObjText.calls (k : Nat) (a0_0 : ByteArray) (A0_1 : Option Addr) (c0_1 : Nat) (l0_1 : List ByteArray) (A0_2 : Option Addr) (c0_2 : Nat) (l0_2 : List ByteArray) (a0_3 : Int) (A0_4 : Option Addr) (c0_4 : Nat) (l0_4 : List (S116)) (a0_5 : ByteArray) (a0_6 : Int) (r : ByteArray) (w : World) (hGM : GLOBM w) (hGT : GLOBT w) (hr0_1 : Kd.C Kd.string w A0_1 l0_1.length l0_1) (hc0_1 : l0_1.length ≤ c0_1) (hr0_2 : Kd.C Kd.string w A0_2 l0_2.length l0_2) (hc0_2 : l0_2.length ≤ c0_2) (hr0_4 : Kd.C k116 w A0_4 l0_4.length l0_4) (hc0_4 : l0_4.length ≤ c0_4) (h : impl_ObjText.f k a0_0 l0_1 l0_2 a0_3 l0_4 a0_5 a0_6 = some r) :
  Calls Tryz.prog 55 #[.agg #[.string a0_0, .slice A0_1 l0_1.length c0_1, .slice A0_2 l0_2.length c0_2, .int .i64 a0_3, .slice A0_4 l0_4.length c0_4, .string a0_5, .int .i64 a0_6]] w fun e w' => e = .returned (.string r) ∧ Below w.heap.size w w' := by
 have hu31 := Tryz.underlying31
 have hu29 := Tryz.underlying29
 have HR0_1 := am hr0_1
 have HC0_1 := am hc0_1
 clear hr0_1 hc0_1
 have HR0_2 := am hr0_2
 have HC0_2 := am hc0_2
 clear hr0_2 hc0_2
 have HR0_4 := am hr0_4
 have HC0_4 := am hc0_4
 clear hr0_4 hc0_4
 have HGM := am hGM
 clear hGM
 have HGT := am hGT
 clear hGT
 have HB := am (Below.refl w.heap.size w)
 unfold impl_ObjText.f at h
 have H := h
 clear h
 revert H
 refine ok1 fun t37 A2 H => ?_
 have HH3 := am H
 clear H
 go_enter Tryz.func55, Tryz.ntmps55
 go_upto_if 8 with ((with_reducible refine gw ?_); first | (refine bx 1 #[.string a0_0, .slice A0_1 l0_1.length c0_1, .slice A0_2 l0_2.length c0_2, .int .i64 a0_3, .slice A0_4 l0_4.length c0_4, .string a0_5, .int .i64 a0_6] 31 ?_; intro gb19 hg w4 hbox hb; have BK19 := am (hbox); have GW19 := am (sz hg : w.heap.size ≤ gb19); have GE19 := am (sz hg : w.heap.size ≤ gb19); replace HB := am (below_step bl hb); clear hb hbox hg; obtain ⟨_, _, _, _, _, _, _, _, _, _, _, _, _, _⟩ := cl7 BK19) | (refine gl 7 Tryz.func15 #[.agg #[.string a0_0, .slice A0_1 l0_1.length c0_1, .slice A0_2 l0_2.length c0_2, .int .i64 a0_3, .slice A0_4 l0_4.length c0_4, .string a0_5, .int .i64 a0_6]] ?_; refine (impl_ObjOk.calls k a0_0 _ _ l0_1 _ _ l0_2 a0_3 _ _ l0_4 a0_5 a0_6 t37 _ (GLOBM.below HGM.out bl) (cb HR0_1) HC0_1.out (cb HR0_2) HC0_2.out (cb HR0_4) HC0_4.out A2.out).mono ?_; rintro e w6 ⟨rfl, hb⟩; refine ⟨_, rfl, ?_⟩; replace BK19 := kb BK19 hb; replace HB := am (below_step bl hb); clear hb))
 have H := HH3.out
 clear HH3
 by_cases c7 : t37 = true
 rotate_left
 ·replace c7 := nb_ c7
  subst c7
  rw [if_neg ff_] at H
  obtain rfl := si_ H
  go_wp2
  go_ret
  exact ⟨rf, bl⟩
 subst c7
 rw [if_pos rfl] at H
 revert H
 refine ifn fun c8 H => ?_
 have c8b0 := eq_true c8
 have c8b1 := decide_eq_true c8
 try have c8b2 := eq_false (Nat.not_lt.2 c8)
 revert H
 refine ifn fun c9 H => ?_
 have c9b0 := eq_true c9
 have c9b1 := decide_eq_true c9
 try have c9b2 := eq_false (Nat.not_lt.2 c9)
 have c9b3 : (9223372036854775807 < 4 + (a0_0).size + 1) = False := b3 c9
 revert H
 refine ok1 fun t33 A10 H => ?_
 revert H
 refine ifn fun c11 H => ?_
 have c11b0 := eq_true c11
 have c11b1 := decide_eq_true c11
 try have c11b2 := eq_false (Nat.not_lt.2 c11)
 have c11b3 : (9223372036854775807 < 4 + (a0_0).size + 1 + (t33).size) = False := b3 c11
 revert H
 refine ifn fun c12 H => ?_
 have c12b0 := eq_true c12
 have c12b1 := decide_eq_true c12
 try have c12b2 := eq_false (Nat.not_lt.2 c12)
 have c12b3 : (9223372036854775807 < 4 + (a0_0).size + 1 + (t33).size + 1) = False := b3 c12
 revert H
 refine ok1 fun t34 A13 H => ?_
 revert H
 refine ifn fun c14 H => ?_
 have c14b0 := eq_true c14
 have c14b1 := decide_eq_true c14
 try have c14b2 := eq_false (Nat.not_lt.2 c14)
 have c14b3 : (9223372036854775807 < 4 + (a0_0).size + 1 + (t33).size + 1 + (t34).size) = False := b3 c14
 revert H
 refine ifn fun c15 H => ?_
 have c15b0 := eq_true c15
 have c15b1 := decide_eq_true c15
 try have c15b2 := eq_false (Nat.not_lt.2 c15)
 have c15b3 : (9223372036854775807 < 4 + (a0_0).size + 1 + (t33).size + 1 + (t34).size + 1) = False := b3 c15
 have H' := am H
 clear H
 try go_wp2
 replace BK19 := am (blk_drew BK19.out)
 replace HB := am (below_drew1 HB.out)
 refine start_ (n := 16) (S := fun w' => w'.cell? ⟨gb19, 0, none⟩ = some (.string a0_0) ∧ w'.cell? ⟨gb19, 1, none⟩ = some (.slice A0_1 l0_1.length c0_1) ∧ w'.cell? ⟨gb19, 2, none⟩ = some (.slice A0_2 l0_2.length c0_2) ∧ w'.cell? ⟨gb19, 3, none⟩ = some (.int .i64 a0_3) ∧ w'.cell? ⟨gb19, 4, none⟩ = some (.slice A0_4 l0_4.length c0_4) ∧ w'.cell? ⟨gb19, 5, none⟩ = some (.string a0_5) ∧ w'.cell? ⟨gb19, 6, none⟩ = some (.int .i64 a0_6)) (ds := []) ⟨br true [0, 16]⟩ (by kernel_rfl) rfl (by kernel_rfl) ⟨bc BK19, bc BK19, bc BK19, bc BK19, bc BK19, bc BK19, bc BK19⟩ (fun hHeld => ?_); refine with_tabW impl_ObjText.tab3 impl_ObjText.bits3 (fun HT_ HW_ => ?_)
 generalize w6.drew = w16 at BK19 HB hHeld ⊢
 refine pu 0 9 [1, 15] ?_
 refine pu 4 13 [1, 3, 1, 11] ?_
 refine pu 9 18 [1, 3, 1, 4, 1, 6] ?_
 refine tk 1 10 [2, 2, 1, 4, 1, 6] ?_
 refine pu 2 11 [3, 1, 1, 4, 1, 6] ?_
 refine pu 3 12 [5, 4, 1, 6] ?_
 refine tk 5 14 [6, 3, 1, 6] ?_
 refine tk 10 19 [6, 3, 2, 5] ?_
 refine pu 11 20 [6, 3, 3, 4] ?_
 refine og 6 15 [7, 2, 3, 4] Tryz.func77 #[.int .i64 a0_6] (fun K hK => ?_)
 refine (impl_NumText.calls a0_6 t33 _ (GLOBT.below HGT.out bl) A10.out).mono ?_
 rintro e w17 ⟨rfl, hb⟩
 refine ⟨_, rfl, ?_⟩
 replace BK19 := kb BK19 hb
 replace HB := am (below_step bl hb)
 clear hb
 refine hK.out _ _ ⟨bc BK19, bc BK19, bc BK19, bc BK19, bc BK19, bc BK19, bc BK19⟩ (fun hHeld => ?_)
 clear hK K
 refine nm 15 ?_
 refine pu 7 16 [8, 1, 3, 4] ?_
 refine pu 8 17 [12, 4] ?_
 refine og 12 21 [13, 3] Tryz.func99 #[.int .i64 (l0_2.length : Int)] (fun K hK => ?_)
 refine (strconv_Itoa.calls (l0_2.length : Int) t34 _ (GLOBT.below HGT.out bl) A13.out).mono ?_
 rintro e w18 ⟨rfl, hb⟩
 refine ⟨_, rfl, ?_⟩
 replace BK19 := kb BK19 hb
 replace HB := am (below_step bl hb)
 clear hb
 refine hK.out _ _ ⟨bc BK19, bc BK19, bc BK19, bc BK19, bc BK19, bc BK19, bc BK19⟩ (fun hHeld => ?_)
 clear hK K
 refine nm 21 ?_
 refine pu 13 22 [14, 2] ?_
 refine pu 14 23 [15, 1] ?_
 refine pu 15 3 [16] ?_
 refine done_ (done_of HT_.out (by kernel_rfl)) ?_
 obtain ⟨_, _, _, _, _, _, _, _, _, _, _, _, _, _⟩ := cl7 BK19
 try go_wp2
 (try simp only [Act.put, List.setIfInBounds_toArray, List.set_cons_zero, List.set_cons_succ])
 go_loopg [3, 27] k (fun kq v3 v27 w' => ∃ (x3_1 : ByteArray) (x27_1 : Int), v3 = .string x3_1 ∧ v27 = .int .i64 x27_1 ∧ Aside0 (impl_ObjText.l0 kq x3_1 l0_2 (l0_2.length : Int) x27_1 a0_0 l0_1 l0_2 a0_3 l0_4 a0_5 a0_6 = some r) ∧ Aside0 (kq ≤ k) ∧ Aside0 (w'.heap[gb19]? = some (.cells #[.string a0_0, (.slice A0_1 l0_1.length c0_1), (.slice A0_2 l0_2.length c0_2), .int .i64 a0_3, (.slice A0_4 l0_4.length c0_4), .string a0_5, .int .i64 a0_6] 31 (0, 0))) ∧ Aside0 (Below w.heap.size w w'))
 case atStart => exact ⟨(((((((⟨#[111, 98, 106, 32]⟩ : ByteArray) ++ a0_0) ++ (⟨#[32]⟩ : ByteArray)) ++ t33) ++ (⟨#[32]⟩ : ByteArray)) ++ t34) ++ (⟨#[10]⟩ : ByteArray)), (0), rs, rs, H', ⟨Nat.le_refl _⟩, ⟨bk BK19⟩, ⟨u55HB⟩⟩
 case round =>
  clear H'
  obtain ⟨x3_1, x27_1, rfl, rfl, HA, HK1, BK19, HB⟩ := hrel
  cases gk with
  | zero => exact absurd HA.out (by simp [impl_ObjText.l0])
  | succ k1 =>
   have H := HA.out
   clear HA
   simp only [impl_ObjText.l0] at H
   by_cases c20 : x27_1 < (l0_2.length : Int)
   rotate_left
   ·rw [if_neg c20] at H
    have c20b0 := decide_eq_false c20
    clear c20
    (first | rw [c20b0] | (simp only [i64_w, i32_w]; rw [c20b0]) | skip)
    revert H
    refine ok1 fun t36 A25 H => ?_
    revert H
    refine ifn fun c26 H => ?_
    have c26b0 := eq_true c26
    have c26b1 := decide_eq_true c26
    try have c26b2 := eq_false (Nat.not_lt.2 c26)
    obtain rfl := si_ H
    obtain ⟨_, _, _, _, _, _, _, _, _, _, _, _, _, _⟩ := cl7 BK19
    go_wp2_with ((with_reducible refine gw ?_); first | (refine gl 39 Tryz.func35 #[.agg #[.int .i64 a0_3, .slice A0_4 l0_4.length c0_4, .string a0_5]] ?_; refine (impl_RespText.calls k1 a0_3 _ _ l0_4 a0_5 t36 _ (GLOBT.below HGT.out bl) (cb HR0_4) HC0_4.out A25.out).mono ?_; rintro e w28 ⟨rfl, hb⟩; refine ⟨_, rfl, ?_⟩; replace BK19 := kb BK19 hb; replace HB := am (below_step bl hb); clear hb))
    go_ret
    exact ⟨rf, bl⟩
   rw [if_pos c20] at H
   have c20b0 := decide_eq_true c20
   clear c20
   (first | rw [c20b0] | (simp only [i64_w, i32_w]; rw [c20b0]) | skip)
   revert H
   refine ifn fun c21 H => ?_
   have c21b0 := decide_eq_true c21
   clear c21
   revert H
   refine ifn fun c22 H => ?_
   have c22b0 := decide_eq_true c22
   clear c22
   revert H
   refine ifn fun c23 H => ?_
   have c23b0 := eq_true c23
   have c23b1 := decide_eq_true c23
   try have c23b2 := eq_false (Nat.not_lt.2 c23)
   revert H
   refine ifn fun c24 H => ?_
   have c24b0 := eq_true c24
   have c24b1 := decide_eq_true c24
   try have c24b2 := eq_false (Nat.not_lt.2 c24)
   have c24b3 : (9223372036854775807 < (x3_1).size + ((rdOf ByteArray.empty l0_2 x27_1).size + 1)) = False := b3 c24
   have H' := am H
   clear H
   have p30 : 0 ≤ (x27_1 : Int) := od
   have q30 : x27_1 < (l0_2.length : Int) := od
   obtain ⟨ad30, e30, hx30_0⟩ := Kd.at_string HR0_2.out x27_1 p30 q30
   cases e30
   replace hx30_0 := hcw hx30_0
   replace p30 := eq_true p30
   replace q30 := eq_true q30
   go_wp2
   go_roundg k1
   case measure => have := HK1.out; omega
   case rel => exact ⟨(x3_1 ++ ((rdOf ByteArray.empty l0_2 x27_1) ++ (⟨#[10]⟩ : ByteArray))), (wrap64 (x27_1 + 1)), rs, rs, H', ⟨by have := HK1.out; omega⟩, ⟨bk BK19⟩, ⟨u55HB⟩⟩
def strings_Cut.f (a0 a1 : ByteArray) : Option (ByteArray × ByteArray × Bool) := if a0.size < 4294967281 then some (⟨(Lib.cut a0.data.toList a1.data.toList).1.toArray⟩, ⟨(Lib.cut a0.data.toList a1.data.toList).2.1.toArray⟩, (Lib.cut a0.data.toList a1.data.toList).2.2) else none
theorem strings_Cut.calls (a0 a1 : ByteArray) (r1 r2 : ByteArray) (r3 : Bool) (w : World) (hGM : GLOBM w) (h : strings_Cut.f a0 a1 = some (r1, r2, r3)) :
  Calls Tryz.prog 108 #[.string a0, .string a1] w fun e w' => e = .returned (.tuple #[.string r1, .string r2, .bool r3]) ∧ Below w.heap.size w w' := by
 unfold strings_Cut.f at h
 split at h
 case isFalse => cases h
 rename_i hl
 simp only [Option.some.injEq, Prod.mk.injEq] at h
 obtain ⟨rfl, rfl, rfl⟩ := h
 obtain ⟨m, hm⟩ := hGM
 refine (Tryz.strings_Cut a0 a1 m w hl hm).mono ?_
 rintro e w' ⟨rfl, n, rfl⟩
 exact ⟨rfl, pw_below_drewN (Below.refl _ _) n⟩
end Go.Proofs.YtjlpjbkpmmpojaaGreatDoor.All
