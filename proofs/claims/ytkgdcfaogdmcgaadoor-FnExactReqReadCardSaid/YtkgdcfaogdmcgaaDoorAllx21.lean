-- Written by a program of this session (wip/tools/hprint.py) out of the translation. Lean checks it.
import Derived.Test.YtkgdcfaogdmcgaaDoorAllx0
import Derived.Test.YtkgdcfaogdmcgaaDoorAllx17
import Derived.Test.YtkgdcfaogdmcgaaDoorAllx18
import Derived.Test.YtkgdcfaogdmcgaaDoorAllx20
namespace Go.Proofs.YtkgdcfaogdmcgaaDoor.All
open Go.RowKit Go.Proofs.YtkgdcfaogdmcgaaDoorW.PrintWords Go.Proofs.YtkgdcfaogdmcgaaDoorW.PrintLast Go.Proofs.YtkgdcfaogdmcgaaDoorW.PrintMore
attribute [local go_sem] max2_int min2_int max_two min_two max_three min_three max_four min_four   -- for this text's walks alone
set_option linter.unusedVariables false
set_option linter.unusedSimpArgs false

/-! ### spec_ReqRead: function 37 -/
theorem u37HB {p : Prop} (h : p := by repeat (first | (with_reducible first | exact HB.out | apply below_alloc | apply pw_below_drewN | apply below_drew1 | refine below_set ?_ GE1077.out | refine below_set ?_ GE1094.out) | exact HB.out)) : p := h
mutual
def spec_ReqRead.j0 : Nat → ByteArray → List ByteArray → Int → Bool → Option (Int × ByteArray × (List (S84)) × ByteArray × Bool)
 | 0, _, _, _, _ => none
 | k + 1, x0, x4, x5, x21 => if x21 = true then (some (0, (⟨#[]⟩ : ByteArray), ([] : List (S84)), (⟨#[]⟩ : ByteArray), false)) else (if 0 < (x4.length : Int) then ((spec_l3Words.f k (rdOf ByteArray.empty x4 0)).bind fun t1083 => (if (t1083.length : Int) = 3 then (if 1 < (t1083.length : Int) then (if 1 ≤ (x4.length : Int) then ((spec_l3Fields.f k (x4.drop 1)).bind fun t1091 => (if 0 ≤ x5 then (if x5 ≤ (x0.size : Int) then ((spec_l3Methods.f).bind fun t1095 => (spec_ReqRead.l0 k x0 t1083 t1095 1 0 (rdOf ByteArray.empty t1083 1) t1091 (x0.extract (x5 : Int).toNat x0.size))) else (none)) else (none))) else (none)) else (none)) else (some (0, (⟨#[]⟩ : ByteArray), ([] : List (S84)), (⟨#[]⟩ : ByteArray), false)))) else (none))
def spec_ReqRead.l0 : Nat → ByteArray → List ByteArray → List ByteArray → Int → Int → ByteArray → List (S84) → ByteArray → Option (Int × ByteArray × (List (S84)) × ByteArray × Bool)
 | 0, _, _, _, _, _, _, _, _ => none
 | k + 1, x0, x6, x8, x9, x1095000, x1095001, x1095002, x1095003 => if x9 < (x8.length : Int) then (if 0 ≤ x9 then (if 0 < (x6.length : Int) then (if (rdOf ByteArray.empty x8 x9).toList = (rdOf ByteArray.empty x6 0).toList then (spec_ReqRead.l0 k x0 x6 x8 (wrap64 (x9 + 1)) x9 x1095001 x1095002 x1095003) else (spec_ReqRead.l0 k x0 x6 x8 (wrap64 (x9 + 1)) x1095000 x1095001 x1095002 x1095003)) else (none)) else (none)) else ((spec_ReqText.f k x1095000 x1095001 x1095002 x1095003).bind fun t1100 => (if t1100.toList = x0.toList then (some (x1095000, x1095001, x1095002, x1095003, true)) else (some (0, (⟨#[]⟩ : ByteArray), ([] : List (S84)), (⟨#[]⟩ : ByteArray), false))))
end
def spec_ReqRead.f (k : Nat) (a0 : ByteArray) : Option (Int × ByteArray × (List (S84)) × ByteArray × Bool) := (spec_l3Head.f k a0).bind fun bt1078 => (if bt1078.2 < 0 then (spec_ReqRead.j0 k a0 bt1078.1 bt1078.2 true) else (spec_ReqRead.j0 k a0 bt1078.1 bt1078.2 ((bt1078.1.length : Int) == 0)))
theorem spec_ReqRead.mono_l : ∀ k, (∀ y0 y1 y2 y3, LeO (spec_ReqRead.j0 k y0 y1 y2 y3) (spec_ReqRead.j0 (k + 1) y0 y1 y2 y3)) ∧ (∀ y0 y1 y2 y3 y4 y5 y6 y7, LeO (spec_ReqRead.l0 k y0 y1 y2 y3 y4 y5 y6 y7) (spec_ReqRead.l0 (k + 1) y0 y1 y2 y3 y4 y5 y6 y7))
 | 0 => ⟨fun _ _ _ _ r h => by simp [spec_ReqRead.j0] at h, fun _ _ _ _ _ _ _ _ r h => by simp [spec_ReqRead.l0] at h⟩
 | k + 1 => by
  obtain ⟨ih0, ih1⟩ := spec_ReqRead.mono_l k
  refine ⟨?_, ?_⟩
  ·intro y0 y1 y2 y3
   unfold spec_ReqRead.j0
   have m0 := @spec_ReqText.mono
   have m1 := @spec_l3Fields.mono
   have m2 := @spec_l3Head.mono
   have m3 := @spec_l3Words.mono
   exact mo
  ·intro y0 y1 y2 y3 y4 y5 y6 y7
   unfold spec_ReqRead.l0
   have m0 := @spec_ReqText.mono
   have m1 := @spec_l3Fields.mono
   have m2 := @spec_l3Head.mono
   have m3 := @spec_l3Words.mono
   exact mo
theorem spec_ReqRead.mono : ∀ a0 k, LeO (spec_ReqRead.f k a0) (spec_ReqRead.f (k + 1) a0) := by
 intro a0 k
 obtain ⟨ih0, ih1⟩ := spec_ReqRead.mono_l k
 unfold spec_ReqRead.f
 have m0 := @spec_ReqText.mono
 have m1 := @spec_l3Fields.mono
 have m2 := @spec_l3Head.mono
 have m3 := @spec_l3Words.mono
 exact mo
def spec_ReqRead.T7 : Bool × List (List Nat × List Nat) := (true, [([], []), ([0], [0]), ([1], [1]), ([], []), ([3], [3]), ([4], [4]), ([], []), ([], []), ([6, 7], [6, 7]), ([2, 5, 8], [2, 5, 8]), ([], []), ([10, 9, 5, 0, 1, 2, 3, 4, 5, 6, 7, 8, 9, 10], [9, 10])])
def spec_ReqRead.B7 : List Nat := [0, 1, 3, 0, 8, 24, 0, 0, 192, 511, 0, 2047]
theorem spec_ReqRead.tab7 : rtab .any (opsOf Tryd.f37 7) = spec_ReqRead.T7 := by kernel_rfl
theorem spec_ReqRead.bits7 : waitsOk spec_ReqRead.T7.2 spec_ReqRead.B7 = true := by kernel_rfl
def spec_ReqRead.T12 : Bool × List (List Nat × List Nat) := (true, [([], []), ([], []), ([0, 1], [0, 1]), ([2], [2]), ([], []), ([4], [4]), ([5], [5]), ([3, 6], [3, 6])])
def spec_ReqRead.B12 : List Nat := [0, 0, 3, 7, 0, 16, 48, 127]
theorem spec_ReqRead.tab12 : rtab .any (opsOf Tryd.f37 12) = spec_ReqRead.T12 := by kernel_rfl
theorem spec_ReqRead.bits12 : waitsOk spec_ReqRead.T12.2 spec_ReqRead.B12 = true := by kernel_rfl
set_option maxHeartbeats 8000000 in
set_option maxRecDepth 100000 in
theorem spec_ReqRead.calls (k : Nat) (a0 : ByteArray) (r1 : Int) (r2 : ByteArray) (r3 : List (S84)) (r4 : ByteArray) (r5 : Bool) (w : World) (h : spec_ReqRead.f k a0 = some (r1, r2, r3, r4, r5)) :
  Calls Tryd.prog 37 #[.string a0] w fun e w' => ∃ v2_ : Value, e = .returned (.tuple #[.agg #[.int .i64 r1, .string r2, v2_, .string r4], .bool r5]) ∧ Kd.R k84 84 w' w.heap.size (fun _ => True) v2_ r3 ∧ Below w.heap.size w w' := by
 have hu26 := Tryd.underlying26
 have HB := am (Below.refl w.heap.size w)
 unfold spec_ReqRead.f at h
 have H := h
 clear h
 revert H
 refine ok2 fun t1078 t1079 A2 H => ?_
 (try dsimp only at H)
 have HC3 := am H
 clear H
 go_enter Tryd.func37, Tryd.ntmps37
 go_upto_region 2 with (first | ((with_reducible refine gate_dst (N := 2) rfl ?_); (try (refine gate_guard (by rfl) ?_; dsimp only)); refine box_event ?hg (N := 2) ?hd (cs := #[.int .i64 0, .string (⟨#[]⟩ : ByteArray), .slice none 0 0, .string (⟨#[]⟩ : ByteArray)]) (t := 26) ?hr ?_; (case hd => rfl); (case hg => rfl); (case hr => first | (go_simp; done) | (go_simp; rfl)); intro gb1077 hg w4 hbox hb; have BK1077 := am (hbox); have GW1077 := am (sz hg : w.heap.size ≤ gb1077); have GE1077 := am (sz hg : w.heap.size ≤ gb1077); replace HB := am (below_step bl hb); clear hb hbox hg) | (refine gl 12 Tryd.func92 #[.string a0] ?_; (with_reducible refine (spec_l3Head.calls k a0 t1078 t1079 _ A2.out).mono ?_); rintro e w5 ⟨v1080, rfl, ho0, hb⟩; refine ⟨_, rfl, ?_⟩; have HO1081 := am (Kd.R_lower ho0 (below_size bl)); replace BK1077 := kb BK1077 hb; replace HB := am (below_step bl hb); clear hb ho0))
 (try simp only [Act.put, List.setIfInBounds_toArray, List.set_cons_zero, List.set_cons_succ])
 go_cut [21] (fun v21 wc => ∃ (kq : Nat) (x21_2 : Bool), v21 = .bool x21_2 ∧ Aside0 (spec_ReqRead.j0 kq a0 t1078 t1079 x21_2 = some (r1, r2, r3, r4, r5)) ∧ Aside0 (kq ≤ k) ∧ Aside0 (Kd.R Kd.string 9 wc w.heap.size (fun _ => True) v1080 t1078) ∧ Aside0 (wc.heap[gb1077]? = some (.cells #[.int .i64 0, .string (⟨#[]⟩ : ByteArray), (.slice none 0 0), .string (⟨#[]⟩ : ByteArray)] 26 (0, 0))) ∧ Aside0 (Below w.heap.size w wc))
 case first =>
  have H := HC3.out
  clear HC3
  by_cases c6 : t1079 < 0
  ·rw [if_pos c6] at H
   have c6b0 := decide_eq_true c6
   clear c6
   (first | rw [c6b0] | (simp only [i64_w, i32_w]; rw [c6b0]) | skip)
   have H' := am H
   clear H
   go_wp2
   go_meet
   case rel => exact ⟨_, (true), rs, H', ⟨by first | omega | exact Nat.le_refl _⟩, ⟨by (with_reducible repeat (first | apply Kd.R_alloc | apply Kd.R_drewN | apply Kd.R_drew)); exact HO1081.out⟩, ⟨by (with_reducible repeat (first | refine blk_drewN ?_ _ | refine blk_drew ?_ | refine blk_alloc ?_ _)); exact BK1077.out⟩, ⟨u37HB⟩⟩
  rw [if_neg c6] at H
  have c6b0 := decide_eq_false c6
  clear c6
  (first | rw [c6b0] | (simp only [i64_w, i32_w]; rw [c6b0]) | skip)
  have H' := am H
  clear H
  obtain ⟨Ao7, co7, eo7⟩ := Kd.R_slice HO1081.out
  subst eo7
  go_wp2
  go_meet
  case rel => exact ⟨_, (((t1078.length : Int) == 0)), rs, H', ⟨by first | omega | exact Nat.le_refl _⟩, ⟨by (with_reducible repeat (first | apply Kd.R_alloc | apply Kd.R_drewN | apply Kd.R_drew)); exact HO1081.out⟩, ⟨by (with_reducible repeat (first | refine blk_drewN ?_ _ | refine blk_drew ?_ | refine blk_alloc ?_ _)); exact BK1077.out⟩, ⟨u37HB⟩⟩
 case rest =>
  clear HC3
  try clear p2
  try clear c3
  try clear c6
  try clear c6b0
  obtain ⟨kq, x21_2, rfl, HA, HJ2, HO_4, BK1077, HB⟩ := hcut
  cases kq with
  | zero => exact absurd HA.out (by simp [spec_ReqRead.j0])
  | succ kj2 =>
   have H := HA.out
   clear HA
   simp only [spec_ReqRead.j0] at H
   by_cases c8 : x21_2 = true
   ·subst c8
    rw [if_pos rfl] at H
    simp only [Option.some.injEq, Prod.mk.injEq] at H
    obtain ⟨rfl, rfl, rfl, rfl, rfl⟩ := H
    obtain ⟨z9_0, y9_0, z9_1, y9_1, z9_2, y9_2, z9_3, y9_3⟩ := cl4 BK1077
    go_wp2
    refine bodyPost_ret (results_ct rfl _ _ gb1077 26 #[.int .i64 0, .string (⟨#[]⟩ : ByteArray), .slice none 0 0, .string (⟨#[]⟩ : ByteArray)] (0, 0) _ rfl (pt0 BK1077) Tryd.underlying26 rfl (by kernel_rfl)) rfl ?_
    exact ⟨_, rf, by first | exact Kd.R_nil _ _ _ _ _ | exact Kd.N_nil _ _ _ _ _ | exact Kd.V_nil _ _ _ _ _ | exact Kd.Q_nil _ _ _ _ _ | exact Kd.S_nil _ _ _ _ _, bl⟩
   replace c8 := Bool.eq_false_iff.mpr c8
   subst c8
   rw [if_neg (show ¬ (false = true) by decide)] at H
   revert H
   refine ifn fun c10 H => ?_
   have c10b0 := decide_eq_true c10
   have c10b1 : decide (0 < t1078.length) = true := decide_eq_true (by omega)
   clear c10
   revert H
   refine ok1 fun t1083 A11 H => ?_
   by_cases c12 : (t1083.length : Int) = 3
   rotate_left
   ·rw [if_neg c12] at H
    have c12b0 : ((t1083.length : Int) == 3) = false := beq_eq_false_iff_ne.mpr c12
    have c12b1 : ((t1083.length : Int) != 3) = true := bne_iff_ne.mpr c12
    simp only [Option.some.injEq, Prod.mk.injEq] at H
    obtain ⟨rfl, rfl, rfl, rfl, rfl⟩ := H
    obtain ⟨Ao57, co57, eo57⟩ := Kd.R_slice HO_4.out
    subst eo57
    have p1082 : 0 ≤ (0 : Int) := (by omega)
    have q1082 : 0 < (t1078.length : Int) := od
    obtain ⟨ad1082, e1082, hx1082_0⟩ := Kd.at_string (Kd.R_reads' HO_4.out).2.2 0 p1082 q1082
    cases e1082
    have qi1082 : (0 < t1078.length) = True := eq_true (by omega)
    (try rw [show ((0 : Int)).toNat = 0 from rfl] at hx1082_0)
    (try rw [Addr.add_zero'] at hx1082_0)
    replace p1082 := eq_true p1082
    replace q1082 := eq_true q1082
    go_wp2_with (first | (refine gl 26 Tryd.func93 #[.string (rdOf ByteArray.empty t1078 0)] ?_; (with_reducible refine (spec_l3Words.calls kj2 (rdOf ByteArray.empty t1078 0) t1083 _ A11.out).mono ?_); rintro e w58 ⟨v1084, rfl, ho0, hb⟩; refine ⟨_, rfl, ?_⟩; have HO1085 := am (Kd.R_lower (Kd.R_new' ho0 (Kd.R_lt (ro HO_4))) (below_size bl)); replace HO_4 := am (Kd.R_elder' (ro HO_4) (Kd.R_base ho0) hb); replace BK1077 := kb BK1077 hb; replace HB := am (below_step bl hb); clear hb ho0; obtain ⟨Ao59, co59, eo59⟩ := Kd.R_slice HO1085.out; subst eo59; obtain ⟨z60_0, y60_0, z60_1, y60_1, z60_2, y60_2, z60_3, y60_3⟩ := cl4 BK1077))
    refine bodyPost_ret (results_ct rfl _ _ gb1077 26 #[.int .i64 0, .string (⟨#[]⟩ : ByteArray), .slice none 0 0, .string (⟨#[]⟩ : ByteArray)] (0, 0) _ rfl (pt0 BK1077) Tryd.underlying26 rfl (by kernel_rfl)) rfl ?_
    exact ⟨_, rf, by first | exact Kd.R_nil _ _ _ _ _ | exact Kd.N_nil _ _ _ _ _ | exact Kd.V_nil _ _ _ _ _ | exact Kd.Q_nil _ _ _ _ _ | exact Kd.S_nil _ _ _ _ _, bl⟩
   rw [if_pos c12] at H
   have c12b0 : ((t1083.length : Int) == 3) = true := beq_iff_eq.mpr c12
   have c12b1 : ((t1083.length : Int) != 3) = false := bne_eq_false_iff_eq.mpr c12
   clear c12
   revert H
   refine ifn fun c13 H => ?_
   have c13b0 := decide_eq_true c13
   have c13b1 : decide (1 < t1083.length) = true := decide_eq_true (by omega)
   clear c13
   revert H
   refine ifn fun c14 H => ?_
   have c14b0 := eq_true c14
   have c14b1 := decide_eq_true c14
   clear c14
   obtain ⟨y1087, hy1087⟩ : ∃ y_ : List ByteArray, y_ = (t1078.drop 1) := ⟨_, rfl⟩
   replace H : ((spec_l3Fields.f kj2 y1087).bind fun t1091 => (if 0 ≤ t1079 then (if t1079 ≤ (a0.size : Int) then ((spec_l3Methods.f).bind fun t1095 => (spec_ReqRead.l0 kj2 a0 t1083 t1095 1 0 (rdOf ByteArray.empty t1083 1) t1091 (a0.extract (t1079 : Int).toNat a0.size))) else (none)) else (none))) = some (r1, r2, r3, r4, r5) := by first | (rw [hy1087]; with_reducible exact H) | (have H2_ := (Option.bind_some _ _).symm.trans H; rw [hy1087]; with_reducible exact H2_) | (have H2_ := (Option.bind_some _ _).symm.trans H; with_reducible exact H2_) | with_reducible exact H | (rw [hy1087]; exact H) | exact H
   have Ny1087 := am hy1087
   clear hy1087
   revert H
   refine ok1 fun t1091 A15 H => ?_
   revert H
   refine ifn fun c16 H => ?_
   have c16b0 := eq_true c16
   have c16b1 := decide_eq_true c16
   clear c16
   revert H
   refine ifn fun c17 H => ?_
   have c17b0 := eq_true c17
   have c17b1 := decide_eq_true c17
   clear c17
   revert H
   refine ok1 fun t1095 A18 H => ?_
   have H' := am H
   clear H
   obtain ⟨Ao19, co19, eo19⟩ := Kd.R_slice HO_4.out
   subst eo19
   have p1082 : 0 ≤ (0 : Int) := (by omega)
   have q1082 : 0 < (t1078.length : Int) := od
   obtain ⟨ad1082, e1082, hx1082_0⟩ := Kd.at_string (Kd.R_reads' HO_4.out).2.2 0 p1082 q1082
   cases e1082
   have qi1082 : (0 < t1078.length) = True := eq_true (by omega)
   (try rw [show ((0 : Int)).toNat = 0 from rfl] at hx1082_0)
   (try rw [Addr.add_zero'] at hx1082_0)
   replace p1082 := eq_true p1082
   replace q1082 := eq_true q1082
   try go_wp2_with (first | (refine gl 26 Tryd.func93 #[.string (rdOf ByteArray.empty t1078 0)] ?_; (with_reducible refine (spec_l3Words.calls kj2 (rdOf ByteArray.empty t1078 0) t1083 _ A11.out).mono ?_); rintro e w20 ⟨v1084, rfl, ho0, hb⟩; refine ⟨_, rfl, ?_⟩; have HO1085 := am (Kd.R_lower (Kd.R_new' ho0 (Kd.R_lt (ro HO_4))) (below_size bl)); replace HO_4 := am (Kd.R_elder' (ro HO_4) (Kd.R_base ho0) hb); replace BK1077 := kb BK1077 hb; replace HB := am (below_step bl hb); clear hb ho0; obtain ⟨Ao21, co21, eo21⟩ := Kd.R_slice HO1085.out; subst eo21))
   replace HO_4 := am (Kd.R_drew HO_4.out)
   replace HO1085 := am (Kd.R_drew HO1085.out)
   replace BK1077 := am (blk_drew BK1077.out)
   replace HB := am (below_drew1 HB.out)
   have p1086 : 0 ≤ (1 : Int) := (by omega)
   have q1086 : 1 < (t1083.length : Int) := od
   obtain ⟨ad1086, e1086, hx1086_0⟩ := Kd.at_string (Kd.R_reads' HO1085.out).2.2 1 p1086 q1086
   cases e1086
   (try simp only [show (1 : Int).toNat = 1 from rfl, Nat.reduceMul, Nat.reduceEqDiff, Go.Addr.add, ↓reduceIte] at hx1086_0)
   have qi1086 : (1 < t1083.length) = True := eq_true (by omega)
   (try rw [show ((1 : Int)).toNat = 1 from rfl] at hx1086_0)
   replace p1086 := eq_true p1086
   replace q1086 := eq_true q1086
   have q23 : (1 : Int) ≤ ((t1078.length : Int) : Int) := od
   obtain ⟨i023, hi023, _, hsz23, _⟩ := info_parts info9
   have hroom23 : t1078.length ≤ co19 := (Kd.R_reads' HO_4.out).2.1
   have hC23 : Kd.C Kd.string _ (some ad1082) t1078.length t1078 := (Kd.R_reads' HO_4.out).2.2
   have hcut23 := cut_from (P := Tryd.prog) 47 9 .i64 Tryd.underlying47 hi023 1 hsz23 (some ad1082) t1078.length co19 1 (by omega) q23
   have hr23 := Kd.C_drop (m := (1 : Int).toNat) (c := co19) hC23 (by omega) hroom23
   obtain ⟨A23, hA23⟩ : ∃ A1, A1 = (if co19 = (1 : Int).toNat then (some ad1082) else ((some ad1082) : Option Addr).map (·.add ((1 : Int).toNat * 1))) := ⟨_, rfl⟩
   obtain ⟨c23, hc23⟩ : ∃ c1, c1 = co19 - (1 : Int).toNat := ⟨_, rfl⟩
   have hy23 : y1087.length = t1078.length - (1 : Int).toNat := (by rw [Ny1087.out, List.length_drop] <;> omega)
   rw [show (t1078).drop (1 : Int).toNat = y1087 from Ny1087.out.symm] at hr23
   replace hr23 : Kd.C Kd.string _ A23 y1087.length y1087 := (by rw [hA23]; exact hr23)
   rw [← hy23, ← hA23, ← hc23] at hcut23
   have HR1090 := am hr23
   have HC1090 := am (show y1087.length ≤ c23 from by rw [hy23, hc23]; exact Nat.sub_le_sub_right hroom23 _)
   clear hr23 hC23 hroom23 hi023 hsz23 hc23
   have KY23 := am hy23
   have KA23 := am hA23
   clear hy23 hA23
   have KL23 := am (show 1 ≤ t1078.length from by omega)
   replace q23 := eq_true q23
   refine start_ (n := 12) (S := fun w' => w'.cell? ⟨ad1086.block, ad1086.off + 1, none⟩ = some (.string (rdOf ByteArray.empty t1083 1))) (ds := []) ⟨br true [0, 12]⟩ (by kernel_rfl) rfl (by kernel_rfl) (hx1086_0) (fun hHeld => ?_); refine with_tabW spec_ReqRead.tab7 spec_ReqRead.bits7 (fun HT_ HW_ => ?_)
   generalize w20.drew = w22 at HO_4 HO1085 BK1077 HB HR1090 hx1086_0 hHeld ⊢
   refine pu 0 31 [1, 11] ?_
   refine pu 1 32 [2, 10] ?_
   refine pu 3 34 [2, 1, 1, 8] ?_
   refine pu 4 35 [2, 1, 2, 7] ?_
   refine pu 6 37 [2, 1, 2, 1, 1, 5] ?_
   refine pu 7 38 [2, 1, 2, 1, 2, 4] ?_
   refine pu 8 39 [2, 1, 2, 1, 3, 3] ?_
   refine take_ (i := 2) (N := some 33) (v := ?_) (a' := ?_) #[true, true, true, true, true, false, true, true, true, false, false, false] rfl rfl (take_ofW HT_.out HW_.out (by kernel_rfl)) (fun _ _ _ h => h) (Or.inl ⟨by rfl, ?_⟩) hHeld ?_ ?_
   rotate_left
   ·intro w' s0
    go_simp
    with_reducible rfl
   rotate_left
   ·simp only [Act.put, List.setIfInBounds_toArray, List.set_cons_zero, List.set_cons_succ, i64_w, i32_w]
    rfl
   refine join_ (σ := Value × Nat) 1 #[true, true, true, true, true, true, true, true, true, true, true, false] (fun s_ => [(36, s_.1), (7, .pointer (some ⟨s_.2, 0, none⟩)), (40, .agg #[.int .i64 0, .string (rdOf ByteArray.empty t1083 1), s_.1, .string (a0.extract (t1079 : Int).toNat a0.size)])]) (fun s_ w' => (w'.cell? ⟨ad1086.block, ad1086.off + 1, none⟩ = some (.string (rdOf ByteArray.empty t1083 1))) ∧ (Kd.R Kd.string 9 w' w.heap.size (fun k_ => some k_ ≠ (.slice (some ad1082) t1078.length co19 : Value).ownBlock) (.slice (some ad1086) t1083.length co21) t1083) ∧ (Kd.R k84 84 w' w.heap.size (fun _ => True) s_.1 t1091) ∧ (Kd.R Kd.string 9 w' w.heap.size (fun k_ => some k_ ≠ (.slice (some ad1086) t1083.length co21 : Value).ownBlock) (.slice (some ad1082) t1078.length co19) t1078) ∧ (w'.heap[gb1077]? = some (.cells #[.int .i64 0, .string (⟨#[]⟩ : ByteArray), .slice none 0 0, .string (⟨#[]⟩ : ByteArray)] 26 (0, 0))) ∧ (w'.heap[s_.2]? = some (.cells #[.int .i64 0, .string (⟨#[]⟩ : ByteArray), .slice none 0 0, .string (⟨#[]⟩ : ByteArray)] 26 (0, 0))) ∧ (w.heap.size ≤ s_.2) ∧ (w.heap.size ≤ s_.2) ∧ (gb1077 ≠ s_.2) ∧ (s_.2 ≠ gb1077) ∧ (Below w.heap.size w w')) ?_ ?_
   rotate_left
   ·intro hCont
    refine two_ (i := 5) (j := 10) (Ni := some 36) (Nj := some 7) #[true, true, true, true, true, true, true, true, true, false, false, false] #[true, true, true, true, true, false, true, true, true, false, true, false] rfl rfl rfl rfl (two_of HT_.out (by kernel_rfl)) (by decide) (by decide) (fun K hK => ?_) (fun K hK => ?_)
    ·skip
     refine goes_ Tryd.func94 (by kernel_rfl) rfl #[.slice A23 y1087.length c23] (by rfl) rfl rfl ma ?_
     with_reducible refine (spec_l3Fields.calls kj2 _ _ y1087 t1091 _ ?side1 ?side2 A15.out).mono ?_
     (case side1 => repeat (first | exact (by repeat (first | (with_reducible exact HR1090.out) | (with_reducible refine Kd.C_alloc ?_ _) | (with_reducible refine Kd.C_drewN ?_ _) | (with_reducible refine Kd.C_drew ?_) | exact HR1090.out)) | (with_reducible refine Kd.C_alloc ?_ _) | (with_reducible refine Kd.C_drewN ?_ _) | (with_reducible refine Kd.C_drew ?_)))
     (case side2 => exact HC1090.out)
     rintro e w24 ⟨v1092, rfl, ho0, hb⟩
     have HS0_ := (hb.cell (World.block_lt_of_cell? _ _ (hHeld))).trans (hHeld)
     refine ⟨_, rfl, ?_⟩
     replace HO_4 := kr HO_4 hb
     replace HO1085 := kr HO1085 hb
     have HO1093 := am (Kd.R_lower ho0 (below_size bl))
     replace BK1077 := kb BK1077 hb
     replace HR1090 := am (Kd.C_below (by repeat (first | (with_reducible exact HR1090.out) | (with_reducible refine Kd.C_alloc ?_ _) | (with_reducible refine Kd.C_drewN ?_ _) | (with_reducible refine Kd.C_drew ?_) | exact HR1090.out)) hb)
     replace HB := am (below_step bl hb)
     clear hb ho0
     obtain ⟨Ao25, co25, eo25⟩ := Kd.R_slice HO1093.out
     (first | subst eo25 | (injection eo25 with f1_ f2_ f3_; have f4_ := f1_.symm; have f5_ := f3_.symm; clear f1_ f2_ f3_; subst f4_; subst f5_))
     refine hK.out _ _ (HS0_) (fun hHeld => ?_)
     clear hK K
     refine nm 36 ?_
     refine pu 9 40 [10, 2] ?_
     refine one_ (i := 10) (N := some 7) #[true, true, true, true, true, true, true, true, true, true, true, false] rfl rfl (one_of HT_.out (by kernel_rfl)) (by decide) (fun K hK => ?_)
     refine box_step ?hg (N := 7) ?hd (cs := #[.int .i64 0, .string (⟨#[]⟩ : ByteArray), .slice none 0 0, .string (⟨#[]⟩ : ByteArray)]) (t := 26) ?hr ?_; (case hd => rfl); (case hg => rfl); (case hr => first | (go_simp; done) | (go_simp; rfl))
     intro gb1094 hg w26 hbox hb
     have HS0_ := (hb.cell (World.block_lt_of_cell? _ _ (hHeld))).trans (hHeld)
     replace HO_4 := am (Kd.R_below (ro HO_4) hb)
     replace HO1085 := am (Kd.R_below (ro HO1085) hb)
     replace HO1093 := am (Kd.R_below (ro HO1093) hb)
     replace HR1090 := am (Kd.C_below (by repeat (first | (with_reducible exact HR1090.out) | (with_reducible refine Kd.C_alloc ?_ _) | (with_reducible refine Kd.C_drewN ?_ _) | (with_reducible refine Kd.C_drew ?_) | exact HR1090.out)) hb)
     have BK1094 := am (hbox)
     have GW1094 := am (sz hg : w.heap.size ≤ gb1094)
     have GE1094 := am (sz hg : w.heap.size ≤ gb1094)
     replace HB := am (below_step bl hb)
     have NB1077_1094 := am (nl hg BK1077 : gb1077 ≠ gb1094)
     have NB1094_1077 := am (ng hg BK1077 : gb1094 ≠ gb1077)
     replace BK1077 := kb BK1077 hb
     clear hb hbox hg
     refine hK.out _ _ (HS0_) (fun hHeld => ?_)
     clear hK K
     refine nm 7 ?_
     exact norm_ (by simp only [putAll, Act.put, List.setIfInBounds_toArray, List.set_cons_zero, List.set_cons_succ]) (hCont (.slice Ao25 t1091.length co25, gb1094) _ ⟨hHeld, (by (with_reducible repeat (first | apply Kd.R_alloc | apply Kd.R_drewN | apply Kd.R_drew)); exact Kd.R_mono HO1085.out (fun _ hk => hk.2)), (ro HO1093), (by (with_reducible repeat (first | apply Kd.R_alloc | apply Kd.R_drewN | apply Kd.R_drew)); exact Kd.R_mono HO_4.out (fun _ hk => hk.2)), (bk BK1077), (bk BK1094), GW1094.out, GE1094.out, NB1077_1094.out, NB1094_1077.out, bl⟩)
    ·skip
     refine box_step ?hg (N := 7) ?hd (cs := #[.int .i64 0, .string (⟨#[]⟩ : ByteArray), .slice none 0 0, .string (⟨#[]⟩ : ByteArray)]) (t := 26) ?hr ?_; (case hd => rfl); (case hg => rfl); (case hr => first | (go_simp; done) | (go_simp; rfl))
     intro gb1094 hg w24 hbox hb
     have HS0_ := (hb.cell (World.block_lt_of_cell? _ _ (hHeld))).trans (hHeld)
     replace HO_4 := am (Kd.R_below (ro HO_4) hb)
     replace HO1085 := am (Kd.R_below (ro HO1085) hb)
     replace HR1090 := am (Kd.C_below (by repeat (first | (with_reducible exact HR1090.out) | (with_reducible refine Kd.C_alloc ?_ _) | (with_reducible refine Kd.C_drewN ?_ _) | (with_reducible refine Kd.C_drew ?_) | exact HR1090.out)) hb)
     have BK1094 := am (hbox)
     have GW1094 := am (sz hg : w.heap.size ≤ gb1094)
     have GE1094 := am (sz hg : w.heap.size ≤ gb1094)
     replace HB := am (below_step bl hb)
     have NB1077_1094 := am (nl hg BK1077 : gb1077 ≠ gb1094)
     have NB1094_1077 := am (ng hg BK1077 : gb1094 ≠ gb1077)
     replace BK1077 := kb BK1077 hb
     clear hb hbox hg
     refine hK.out _ _ (HS0_) (fun hHeld => ?_)
     clear hK K
     refine nm 7 ?_
     refine og 5 36 [9, 1, 1, 1] Tryd.func94 #[.slice A23 y1087.length c23] (fun K hK => ?_)
     with_reducible refine (spec_l3Fields.calls kj2 _ _ y1087 t1091 _ ?side1 ?side2 A15.out).mono ?_
     (case side1 => repeat (first | exact (by repeat (first | (with_reducible exact HR1090.out) | (with_reducible refine Kd.C_alloc ?_ _) | (with_reducible refine Kd.C_drewN ?_ _) | (with_reducible refine Kd.C_drew ?_) | exact HR1090.out)) | (with_reducible refine Kd.C_alloc ?_ _) | (with_reducible refine Kd.C_drewN ?_ _) | (with_reducible refine Kd.C_drew ?_)))
     (case side2 => exact HC1090.out)
     rintro e w25 ⟨v1092, rfl, ho0, hb⟩
     have HS0_ := (hb.cell (World.block_lt_of_cell? _ _ (hHeld))).trans (hHeld)
     refine ⟨_, rfl, ?_⟩
     replace HO_4 := kr HO_4 hb
     replace HO1085 := kr HO1085 hb
     have HO1093 := am (Kd.R_lower ho0 (below_size bl))
     replace BK1077 := kb BK1077 hb
     replace HR1090 := am (Kd.C_below (by repeat (first | (with_reducible exact HR1090.out) | (with_reducible refine Kd.C_alloc ?_ _) | (with_reducible refine Kd.C_drewN ?_ _) | (with_reducible refine Kd.C_drew ?_) | exact HR1090.out)) hb)
     replace BK1094 := kb BK1094 hb
     replace HB := am (below_step bl hb)
     clear hb ho0
     obtain ⟨Ao26, co26, eo26⟩ := Kd.R_slice HO1093.out
     (first | subst eo26 | (injection eo26 with f1_ f2_ f3_; have f4_ := f1_.symm; have f5_ := f3_.symm; clear f1_ f2_ f3_; subst f4_; subst f5_))
     refine hK.out _ _ (HS0_) (fun hHeld => ?_)
     clear hK K
     refine nm 36 ?_
     refine pu 9 40 [11, 1] ?_
     exact norm_ (by simp only [putAll, Act.put, List.setIfInBounds_toArray, List.set_cons_zero, List.set_cons_succ]) (hCont (.slice Ao26 t1091.length co26, gb1094) _ ⟨hHeld, (by (with_reducible repeat (first | apply Kd.R_alloc | apply Kd.R_drewN | apply Kd.R_drew)); exact Kd.R_mono HO1085.out (fun _ hk => hk.2)), (ro HO1093), (by (with_reducible repeat (first | apply Kd.R_alloc | apply Kd.R_drewN | apply Kd.R_drew)); exact Kd.R_mono HO_4.out (fun _ hk => hk.2)), (bk BK1077), (bk BK1094), GW1094.out, GE1094.out, NB1077_1094.out, NB1094_1077.out, bl⟩)
   rintro ⟨v1092, gb1094⟩ w27 ⟨hS_, h0_, h1_, h2_, h3_, h4_, h5_, h6_, h7_, h8_, h9_⟩
   have n0_ : Aside0 (Kd.R Kd.string 9 w27 w.heap.size (fun k_ => some k_ ≠ (.slice (some ad1082) t1078.length co19 : Value).ownBlock) (.slice (some ad1086) t1083.length co21) t1083) := ⟨h0_⟩
   have n1_ : Aside0 (Kd.R k84 84 w27 w.heap.size (fun _ => True) v1092 t1091) := ⟨h1_⟩
   have n2_ : Aside0 (Kd.R Kd.string 9 w27 w.heap.size (fun k_ => some k_ ≠ (.slice (some ad1086) t1083.length co21 : Value).ownBlock) (.slice (some ad1082) t1078.length co19) t1078) := ⟨h2_⟩
   have n3_ : Aside0 (w27.heap[gb1077]? = some (.cells #[.int .i64 0, .string (⟨#[]⟩ : ByteArray), .slice none 0 0, .string (⟨#[]⟩ : ByteArray)] 26 (0, 0))) := ⟨h3_⟩
   have n4_ : Aside0 (w27.heap[gb1094]? = some (.cells #[.int .i64 0, .string (⟨#[]⟩ : ByteArray), .slice none 0 0, .string (⟨#[]⟩ : ByteArray)] 26 (0, 0))) := ⟨h4_⟩
   have n5_ : Aside0 (w.heap.size ≤ gb1094) := ⟨h5_⟩
   have n6_ : Aside0 (w.heap.size ≤ gb1094) := ⟨h6_⟩
   have n7_ : Aside0 (gb1077 ≠ gb1094) := ⟨h7_⟩
   have n8_ : Aside0 (gb1094 ≠ gb1077) := ⟨h8_⟩
   have n9_ : Aside0 (Below w.heap.size w w27) := ⟨h9_⟩
   clear HO_4
   clear HO1085
   clear BK1077
   clear HB
   clear h0_ h1_ h2_ h3_ h4_ h5_ h6_ h7_ h8_ h9_
   have HO1085 := n0_
   have HO1093 := n1_
   have HO_4 := n2_
   have BK1077 := n3_
   have BK1094 := n4_
   have GW1094 := n5_
   have GE1094 := n6_
   have NB1077_1094 := n7_
   have NB1094_1077 := n8_
   have HB := n9_
   clear n0_ n1_ n2_ n3_ n4_ n5_ n6_ n7_ n8_ n9_
   have hHeld : w27.cell? ⟨ad1086.block, ad1086.off + 1, none⟩ = some (.string (rdOf ByteArray.empty t1083 1)) := hS_
   obtain ⟨Ao28, co28, eo28⟩ := Kd.R_slice HO1093.out
   (first | subst eo28 | (injection eo28 with f1_ f2_ f3_; have f4_ := f1_.symm; have f5_ := f3_.symm; clear f1_ f2_ f3_; subst f4_; subst f5_))
   refine norm_ (a' := ?_) ?_ ?_
   rotate_left
   ·simp only [putAll, Act.put, List.setIfInBounds_toArray, List.set_cons_zero, List.set_cons_succ]
    rfl
   refine one_ (i := 11) (N := none) #[true, true, true, true, true, true, true, true, true, true, true, true] rfl rfl (one_of HT_.out (by kernel_rfl)) (by decide) (fun K hK => ?_)
   have hs29 : w27.cell? ⟨gb1094, 0, none⟩ = some (.int .i64 0) := bc BK1094
   have hfs29 := blk_frozen BK1094.out 0
   have hns29_0 := NB1077_1094.out
   have hms29_0 := NB1094_1077.out
   have hs30 : w27.cell? ⟨gb1094, 1, none⟩ = some (.string (⟨#[]⟩ : ByteArray)) := bc BK1094
   have hfs30 := blk_frozen BK1094.out 1
   have hns30_0 := NB1077_1094.out
   have hms30_0 := NB1094_1077.out
   have hs31 : w27.cell? ⟨gb1094, 2, none⟩ = some (.slice none 0 0) := bc BK1094
   have hfs31 := blk_frozen BK1094.out 2
   have hns31_0 := NB1077_1094.out
   have hms31_0 := NB1094_1077.out
   have hs32 : w27.cell? ⟨gb1094, 3, none⟩ = some (.string (⟨#[]⟩ : ByteArray)) := bc BK1094
   have hfs32 := blk_frozen BK1094.out 3
   have hns32_0 := NB1077_1094.out
   have hms32_0 := NB1094_1077.out
   refine skip_ (w1 := ?_) (by rfl) rfl ?_ ?_
   rotate_left
   ·go_simp
    rfl
   refine hK.out _ _ (((cell_far (p := ⟨gb1094, _, none⟩) (by first | exact Kd.own_blk (Kd.R_ne HO1085.out BK1094.out (by decide)) | (rw [add_block]; exact Kd.own_blk (Kd.R_ne HO1085.out BK1094.out (by decide))) | (show (Addr.add _ _).block ≠ _; rw [add_block]; exact Kd.own_blk (Kd.R_ne HO1085.out BK1094.out (by decide))) | (dsimp only; exact Kd.own_blk (Kd.R_ne HO1085.out BK1094.out (by decide)))) _).trans (((cell_far (p := ⟨gb1094, _, none⟩) (by first | exact Kd.own_blk (Kd.R_ne HO1085.out BK1094.out (by decide)) | (rw [add_block]; exact Kd.own_blk (Kd.R_ne HO1085.out BK1094.out (by decide))) | (show (Addr.add _ _).block ≠ _; rw [add_block]; exact Kd.own_blk (Kd.R_ne HO1085.out BK1094.out (by decide))) | (dsimp only; exact Kd.own_blk (Kd.R_ne HO1085.out BK1094.out (by decide)))) _).trans (((cell_far (p := ⟨gb1094, _, none⟩) (by first | exact Kd.own_blk (Kd.R_ne HO1085.out BK1094.out (by decide)) | (rw [add_block]; exact Kd.own_blk (Kd.R_ne HO1085.out BK1094.out (by decide))) | (show (Addr.add _ _).block ≠ _; rw [add_block]; exact Kd.own_blk (Kd.R_ne HO1085.out BK1094.out (by decide))) | (dsimp only; exact Kd.own_blk (Kd.R_ne HO1085.out BK1094.out (by decide)))) _).trans (((cell_far (p := ⟨gb1094, _, none⟩) (by first | exact Kd.own_blk (Kd.R_ne HO1085.out BK1094.out (by decide)) | (rw [add_block]; exact Kd.own_blk (Kd.R_ne HO1085.out BK1094.out (by decide))) | (show (Addr.add _ _).block ≠ _; rw [add_block]; exact Kd.own_blk (Kd.R_ne HO1085.out BK1094.out (by decide))) | (dsimp only; exact Kd.own_blk (Kd.R_ne HO1085.out BK1094.out (by decide)))) _).trans (hHeld))))))))) (fun hHeld => ?_)
   clear hK K
   refine done_ (done_of HT_.out (by kernel_rfl)) ?_
   try go_wp2_with (first | (refine gl 41 Tryd.func63 #[] ?_; (with_reducible refine (spec_l3Methods.calls  t1095 _ A18.out).mono ?_); rintro e w33 ⟨v1096, rfl, ho0, hb⟩; refine ⟨_, rfl, ?_⟩; have n0_ := am (Kd.R_elder' (by (with_reducible repeat (first | apply Kd.R_alloc | apply Kd.R_drewN | apply Kd.R_drew)); exact (Kd.R_mono (Kd.R_far (p := ⟨gb1094, 3, none⟩) (Kd.R_far (p := ⟨gb1094, 2, none⟩) (Kd.R_far (p := ⟨gb1094, 1, none⟩) (Kd.R_far (p := ⟨gb1094, 0, none⟩) (Kd.R_types HO_4.out BK1094.out (by decide)) (fun _ hk => hk.2) (.int .i64 0)) (fun _ hk => hk.2) (.string (rdOf ByteArray.empty t1083 1))) (fun _ hk => hk.2) (.slice Ao28 t1091.length co28)) (fun _ hk => hk.2) (.string (a0.extract (t1079 : Int).toNat a0.size))) (fun _ h_ => h_.1))) (Kd.R_base ho0) hb); have n1_ := am (Kd.R_elder' (by (with_reducible repeat (first | apply Kd.R_alloc | apply Kd.R_drewN | apply Kd.R_drew)); exact (Kd.R_mono (Kd.R_far (p := ⟨gb1094, 3, none⟩) (Kd.R_far (p := ⟨gb1094, 2, none⟩) (Kd.R_far (p := ⟨gb1094, 1, none⟩) (Kd.R_far (p := ⟨gb1094, 0, none⟩) (Kd.R_types HO1085.out BK1094.out (by decide)) (fun _ hk => hk.2) (.int .i64 0)) (fun _ hk => hk.2) (.string (rdOf ByteArray.empty t1083 1))) (fun _ hk => hk.2) (.slice Ao28 t1091.length co28)) (fun _ hk => hk.2) (.string (a0.extract (t1079 : Int).toNat a0.size))) (fun _ h_ => h_.1))) (Kd.R_base ho0) hb); have n2_ := am (Kd.R_below (by (with_reducible repeat (first | apply Kd.R_alloc | apply Kd.R_drewN | apply Kd.R_drew)); exact (Kd.R_mono (Kd.R_far (p := ⟨gb1094, 3, none⟩) (Kd.R_far (p := ⟨gb1094, 2, none⟩) (Kd.R_far (p := ⟨gb1094, 1, none⟩) (Kd.R_far (p := ⟨gb1094, 0, none⟩) (Kd.R_types HO1093.out BK1094.out (by decide)) (fun _ hk => hk.2) (.int .i64 0)) (fun _ hk => hk.2) (.string (rdOf ByteArray.empty t1083 1))) (fun _ hk => hk.2) (.slice Ao28 t1091.length co28)) (fun _ hk => hk.2) (.string (a0.extract (t1079 : Int).toNat a0.size))) (fun _ h_ => h_.1))) hb); have n3_ := am (Kd.R_lower (Kd.R_new' (Kd.R_new' ho0 (Kd.R_lt (by (with_reducible repeat (first | apply Kd.R_alloc | apply Kd.R_drewN | apply Kd.R_drew)); exact (Kd.R_mono (Kd.R_far (p := ⟨gb1094, 3, none⟩) (Kd.R_far (p := ⟨gb1094, 2, none⟩) (Kd.R_far (p := ⟨gb1094, 1, none⟩) (Kd.R_far (p := ⟨gb1094, 0, none⟩) (Kd.R_types HO_4.out BK1094.out (by decide)) (fun _ hk => hk.2) (.int .i64 0)) (fun _ hk => hk.2) (.string (rdOf ByteArray.empty t1083 1))) (fun _ hk => hk.2) (.slice Ao28 t1091.length co28)) (fun _ hk => hk.2) (.string (a0.extract (t1079 : Int).toNat a0.size))) (fun _ h_ => h_.1))))) (Kd.R_lt (by (with_reducible repeat (first | apply Kd.R_alloc | apply Kd.R_drewN | apply Kd.R_drew)); exact (Kd.R_mono (Kd.R_far (p := ⟨gb1094, 3, none⟩) (Kd.R_far (p := ⟨gb1094, 2, none⟩) (Kd.R_far (p := ⟨gb1094, 1, none⟩) (Kd.R_far (p := ⟨gb1094, 0, none⟩) (Kd.R_types HO1085.out BK1094.out (by decide)) (fun _ hk => hk.2) (.int .i64 0)) (fun _ hk => hk.2) (.string (rdOf ByteArray.empty t1083 1))) (fun _ hk => hk.2) (.slice Ao28 t1091.length co28)) (fun _ hk => hk.2) (.string (a0.extract (t1079 : Int).toNat a0.size))) (fun _ h_ => h_.1))))) (below_size bl)); have n4_ := kg1 BK1077 NB1077_1094 hb; have n5_ := am (blk_below (g := gb1094) (o := .cells #[.int .i64 0, .string (rdOf ByteArray.empty t1083 1), .slice Ao28 t1091.length co28, .string (a0.extract (t1079 : Int).toNat a0.size)] 26 (0, 0)) (pt0 BK1094) hb); have n6_ := am (below_step bl hb); clear HO_4; clear HO1085; clear HO1093; clear BK1077; clear BK1094; clear HB; have HO_4 := n0_; have HO1085 := n1_; have HO1093 := n2_; have HO1097 := n3_; have BK1077 := n4_; have BK1094 := n5_; have HB := n6_; clear n0_ n1_ n2_ n3_ n4_ n5_ n6_; clear hb ho0))
   (try simp only [Act.put, List.setIfInBounds_toArray, List.set_cons_zero, List.set_cons_succ])
   go_loopg [9] kj2 (fun kq v9 w' => ∃ (x9_2 : Int) (x1095000_2 : Int), v9 = .int .i64 x9_2 ∧ Aside0 (spec_ReqRead.l0 kq a0 t1083 t1095 x9_2 x1095000_2 (rdOf ByteArray.empty t1083 1) t1091 (a0.extract (t1079 : Int).toNat a0.size) = some (r1, r2, r3, r4, r5)) ∧ Aside0 (kq ≤ kj2) ∧ Aside0 (Kd.R Kd.string 9 w' w.heap.size (fun k_ => some k_ ≠ (v1096 : Value).ownBlock) (.slice (some ad1086) t1083.length co21) t1083) ∧ Aside0 (Kd.R Kd.string 9 w' w.heap.size (fun k_ => some k_ ≠ ((.slice (some ad1086) t1083.length co21) : Value).ownBlock) v1096 t1095) ∧ Aside0 (Kd.R k84 84 w' w.heap.size (fun _ => True) (.slice Ao28 t1091.length co28) t1091) ∧ Aside0 (w'.heap[gb1077]? = some (.cells #[.int .i64 0, .string (⟨#[]⟩ : ByteArray), (.slice none 0 0), .string (⟨#[]⟩ : ByteArray)] 26 (0, 0))) ∧ Aside0 (w'.heap[gb1094]? = some (.cells #[.int .i64 x1095000_2, .string (rdOf ByteArray.empty t1083 1), (.slice Ao28 t1091.length co28), .string (a0.extract (t1079 : Int).toNat a0.size)] 26 (0, 0))) ∧ Aside0 (Below w.heap.size w w'))
   case atStart => exact ⟨(1), (0), rs, H', ⟨Nat.le_refl _⟩, ⟨by (with_reducible repeat (first | apply Kd.R_alloc | apply Kd.R_drewN | apply Kd.R_drew)); exact Kd.R_mono HO1085.out (fun _ hk => hk.2)⟩, ⟨by (with_reducible repeat (first | apply Kd.R_alloc | apply Kd.R_drewN | apply Kd.R_drew)); exact Kd.R_mono HO1097.out (fun _ hk => hk.2)⟩, ⟨by (with_reducible repeat (first | apply Kd.R_alloc | apply Kd.R_drewN | apply Kd.R_drew)); exact HO1093.out⟩, ⟨by (with_reducible repeat (first | refine blk_drewN ?_ _ | refine blk_drew ?_ | refine blk_alloc ?_ _)); exact BK1077.out⟩, ⟨by (with_reducible repeat (first | refine blk_drewN ?_ _ | refine blk_drew ?_ | refine blk_alloc ?_ _)); exact BK1094.out⟩, ⟨u37HB⟩⟩
   case round =>
    clear H'
    try clear c1
    try clear p1
    try clear q1
    try clear hx1
    try clear qi1
    try clear c2
    try clear p2
    try clear q2
    try clear c3
    try clear c6
    try clear c6b0
    try clear c8
    try clear c9
    try clear c10
    try clear c10b0
    try clear c10b1
    try clear p10
    try clear q10
    try clear hx10
    try clear qi10
    try clear c12
    try clear c12b0
    try clear c12b1
    try clear c13
    try clear c13b0
    try clear c13b1
    try clear c14
    try clear c14b0
    try clear c14b1
    try clear c16
    try clear c16b0
    try clear c16b1
    try clear c17
    try clear c17b0
    try clear c17b1
    try clear c23
    try clear q23
    try clear z9_0
    try clear z9_1
    try clear z9_2
    try clear z9_3
    try clear y9_0
    try clear y9_1
    try clear y9_2
    try clear y9_3
    try clear hx1082_0
    try clear hx1086_0
    try clear p1082
    try clear p1086
    try clear p2
    try clear q1082
    try clear q1086
    try clear q23
    obtain ⟨x9_2, x1095000_2, rfl, HA, HK2, HO_6, HO_8, HO_1095002, BK1077, BK1094, HB⟩ := hrel
    cases gk with
    | zero => exact absurd HA.out (by simp [spec_ReqRead.l0])
    | succ k2 =>
     have H := HA.out
     clear HA
     simp only [spec_ReqRead.l0] at H
     by_cases c34 : x9_2 < (t1095.length : Int)
     rotate_left
     ·rw [if_neg c34] at H
      have c34b0 := decide_eq_false c34
      clear c34
      revert H
      refine ok1 fun t1100 A44 H => ?_
      by_cases c45 : t1100.toList = a0.toList
      rotate_left
      ·rw [if_neg c45] at H
       have c45b0 : (t1100.toList == a0.toList) = false := beq_eq_false_iff_ne.mpr c45
       have c45b1 : (t1100.toList != a0.toList) = true := bne_iff_ne.mpr c45
       simp only [Option.some.injEq, Prod.mk.injEq] at H
       obtain ⟨rfl, rfl, rfl, rfl, rfl⟩ := H
       obtain ⟨Ao52, co52, eo52⟩ := Kd.R_slice HO_8.out
       subst eo52
       have hnb53 := NB1094_1077.out
       have hnc53 := NB1077_1094.out
       obtain ⟨z54_0, y54_0, z54_1, y54_1, z54_2, y54_2, z54_3, y54_3⟩ := cl4 BK1094
       go_wp2_with (first | (refine gl 59 Tryd.func23 #[.agg #[.int .i64 x1095000_2, .string (rdOf ByteArray.empty t1083 1), .slice Ao28 t1091.length co28, .string (a0.extract (t1079 : Int).toNat a0.size)]] ?_; (with_reducible refine (spec_ReqText.calls k2 x1095000_2 (rdOf ByteArray.empty t1083 1) _ _ t1091 (a0.extract (t1079 : Int).toNat a0.size) t1100 _ ?side1 ?side2 A44.out).mono ?_); (case side1 => exact rc HO_1095002); (case side2 => exact (Kd.R_reads' HO_1095002.out).2.1); rintro e w55 ⟨rfl, hb⟩; refine ⟨_, rfl, ?_⟩; replace HO_6 := kr HO_6 hb; replace HO_8 := kr HO_8 hb; replace HO_1095002 := kr HO_1095002 hb; replace BK1077 := kb BK1077 hb; replace BK1094 := kb BK1094 hb; replace HB := am (below_step bl hb); clear hb; obtain ⟨z56_0, y56_0, z56_1, y56_1, z56_2, y56_2, z56_3, y56_3⟩ := cl4 BK1077))
       refine bodyPost_ret (results_ct rfl _ _ gb1077 26 #[.int .i64 0, .string (⟨#[]⟩ : ByteArray), .slice none 0 0, .string (⟨#[]⟩ : ByteArray)] (0, 0) _ rfl (pt0 BK1077) Tryd.underlying26 rfl (by kernel_rfl)) rfl ?_
       exact ⟨_, rf, by first | exact Kd.R_nil _ _ _ _ _ | exact Kd.N_nil _ _ _ _ _ | exact Kd.V_nil _ _ _ _ _ | exact Kd.Q_nil _ _ _ _ _ | exact Kd.S_nil _ _ _ _ _, bl⟩
      rw [if_pos c45] at H
      have c45b0 : (t1100.toList == a0.toList) = true := beq_iff_eq.mpr c45
      have c45b1 : (t1100.toList != a0.toList) = false := bne_eq_false_iff_eq.mpr c45
      clear c45
      simp only [Option.some.injEq, Prod.mk.injEq] at H
      obtain ⟨rfl, rfl, rfl, rfl, rfl⟩ := H
      obtain ⟨Ao46, co46, eo46⟩ := Kd.R_slice HO_8.out
      subst eo46
      have hnb47 := NB1094_1077.out
      have hnc47 := NB1077_1094.out
      obtain ⟨z48_0, y48_0, z48_1, y48_1, z48_2, y48_2, z48_3, y48_3⟩ := cl4 BK1094
      go_wp2_with (first | (refine gl 59 Tryd.func23 #[.agg #[.int .i64 x1095000_2, .string (rdOf ByteArray.empty t1083 1), .slice Ao28 t1091.length co28, .string (a0.extract (t1079 : Int).toNat a0.size)]] ?_; (with_reducible refine (spec_ReqText.calls k2 x1095000_2 (rdOf ByteArray.empty t1083 1) _ _ t1091 (a0.extract (t1079 : Int).toNat a0.size) t1100 _ ?side1 ?side2 A44.out).mono ?_); (case side1 => exact rc HO_1095002); (case side2 => exact (Kd.R_reads' HO_1095002.out).2.1); rintro e w49 ⟨rfl, hb⟩; refine ⟨_, rfl, ?_⟩; replace HO_6 := kr HO_6 hb; replace HO_8 := kr HO_8 hb; replace HO_1095002 := kr HO_1095002 hb; replace BK1077 := kb BK1077 hb; replace BK1094 := kb BK1094 hb; replace HB := am (below_step bl hb); clear hb; obtain ⟨z50_0, y50_0, z50_1, y50_1, z50_2, y50_2, z50_3, y50_3⟩ := cl4 BK1094; obtain ⟨z51_0, y51_0, z51_1, y51_1, z51_2, y51_2, z51_3, y51_3⟩ := cl4 BK1077))
      refine bodyPost_ret (results_ct rfl _ _ gb1077 26 #[.int .i64 x1095000_2, .string (rdOf ByteArray.empty t1083 1), .slice Ao28 t1091.length co28, .string (a0.extract (t1079 : Int).toNat a0.size)] (0, 0) _ rfl (pt0 BK1077) Tryd.underlying26 rfl (by kernel_rfl)) rfl ?_
      exact ⟨_, rf, rg (Kd.R_types HO_1095002.out BK1077.out (by decide)), bl⟩
     rw [if_pos c34] at H
     have c34b0 := decide_eq_true c34
     clear c34
     revert H
     refine ifn fun c35 H => ?_
     have c35b0 := decide_eq_true c35
     clear c35
     revert H
     refine ifn fun c36 H => ?_
     have c36b0 := decide_eq_true c36
     have c36b1 : decide (0 < t1083.length) = true := decide_eq_true (by omega)
     clear c36
     by_cases c37 : (rdOf ByteArray.empty t1095 x9_2).toList = (rdOf ByteArray.empty t1083 0).toList
     rotate_left
     ·rw [if_neg c37] at H
      have c37b0 : ((rdOf ByteArray.empty t1095 x9_2).toList == (rdOf ByteArray.empty t1083 0).toList) = false := beq_eq_false_iff_ne.mpr c37
      have c37b1 : ((rdOf ByteArray.empty t1095 x9_2).toList != (rdOf ByteArray.empty t1083 0).toList) = true := bne_iff_ne.mpr c37
      have H' := am H
      clear H
      obtain ⟨Ao42, co42, eo42⟩ := Kd.R_slice HO_8.out
      subst eo42
      try go_wp2
      replace HO_6 := am (Kd.R_drew HO_6.out)
      replace HO_8 := am (Kd.R_drew HO_8.out)
      replace HO_1095002 := am (Kd.R_drew HO_1095002.out)
      replace BK1077 := am (blk_drew BK1077.out)
      replace BK1094 := am (blk_drew BK1094.out)
      replace HB := am (below_drew1 HB.out)
      have p1098 : 0 ≤ (x9_2 : Int) := od
      have q1098 : x9_2 < (t1095.length : Int) := od
      obtain ⟨ad1098, e1098, hx1098_0⟩ := Kd.at_string (Kd.R_reads' HO_8.out).2.2 x9_2 p1098 q1098
      cases e1098
      replace p1098 := eq_true p1098
      replace q1098 := eq_true q1098
      have p1099 : 0 ≤ (0 : Int) := (by omega)
      have q1099 : 0 < (t1083.length : Int) := od
      obtain ⟨ad1099, e1099, hx1099_0⟩ := Kd.at_string (Kd.R_reads' HO_6.out).2.2 0 p1099 q1099
      obtain rfl : ad1086 = ad1099 := (by injection e1099)
      have qi1099 : (0 < t1083.length) = True := eq_true (by omega)
      (try rw [show ((0 : Int)).toNat = 0 from rfl] at hx1099_0)
      (try rw [Addr.add_zero'] at hx1099_0)
      replace p1099 := eq_true p1099
      replace q1099 := eq_true q1099
      refine start_ (n := 8) (S := fun w' => w'.cell? (ad1098.add (x9_2).toNat) = some (.string (rdOf ByteArray.empty t1095 x9_2)) ∧ w'.cell? ad1086 = some (.string (rdOf ByteArray.empty t1083 0))) (ds := []) ⟨br true [0, 8]⟩ (by kernel_rfl) rfl (by kernel_rfl) ⟨hx1098_0, hx1099_0⟩ (fun hHeld => ?_); refine with_tabW spec_ReqRead.tab12 spec_ReqRead.bits12 (fun HT_ HW_ => ?_)
      generalize wr.drew = w43 at HO_6 HO_8 HO_1095002 BK1077 BK1094 HB hx1098_0 hx1099_0 hHeld ⊢
      refine pu 0 48 [1, 7] ?_
      refine pu 1 49 [2, 6] ?_
      refine pu 2 50 [3, 5] ?_
      refine pu 4 52 [3, 1, 1, 3] ?_
      refine pu 5 53 [3, 1, 2, 2] ?_
      refine tk 3 51 [6, 2] ?_
      refine tk 6 54 [7, 1] ?_
      refine pu 7 55 [8] ?_
      refine done_ (done_of HT_.out (by kernel_rfl)) ?_
      try go_wp2
      go_roundg k2
      case measure => have := HJ2.out; have := HK2.out; omega
      case rel => exact ⟨(wrap64 (x9_2 + 1)), (x1095000_2), rs, H', ⟨by have := HJ2.out; have := HK2.out; omega⟩, ⟨by (with_reducible repeat (first | apply Kd.R_alloc | apply Kd.R_drewN | apply Kd.R_drew)); exact HO_6.out⟩, ⟨by (with_reducible repeat (first | apply Kd.R_alloc | apply Kd.R_drewN | apply Kd.R_drew)); exact HO_8.out⟩, ⟨by (with_reducible repeat (first | apply Kd.R_alloc | apply Kd.R_drewN | apply Kd.R_drew)); exact HO_1095002.out⟩, ⟨by (with_reducible repeat (first | refine blk_drewN ?_ _ | refine blk_drew ?_ | refine blk_alloc ?_ _)); exact BK1077.out⟩, ⟨by (with_reducible repeat (first | refine blk_drewN ?_ _ | refine blk_drew ?_ | refine blk_alloc ?_ _)); exact BK1094.out⟩, ⟨u37HB⟩⟩
     rw [if_pos c37] at H
     have c37b0 : ((rdOf ByteArray.empty t1095 x9_2).toList == (rdOf ByteArray.empty t1083 0).toList) = true := beq_iff_eq.mpr c37
     have c37b1 : ((rdOf ByteArray.empty t1095 x9_2).toList != (rdOf ByteArray.empty t1083 0).toList) = false := bne_eq_false_iff_eq.mpr c37
     clear c37
     have H' := am H
     clear H
     obtain ⟨Ao38, co38, eo38⟩ := Kd.R_slice HO_8.out
     subst eo38
     try go_wp2
     replace HO_6 := am (Kd.R_drew HO_6.out)
     replace HO_8 := am (Kd.R_drew HO_8.out)
     replace HO_1095002 := am (Kd.R_drew HO_1095002.out)
     replace BK1077 := am (blk_drew BK1077.out)
     replace BK1094 := am (blk_drew BK1094.out)
     replace HB := am (below_drew1 HB.out)
     have p1098 : 0 ≤ (x9_2 : Int) := od
     have q1098 : x9_2 < (t1095.length : Int) := od
     obtain ⟨ad1098, e1098, hx1098_0⟩ := Kd.at_string (Kd.R_reads' HO_8.out).2.2 x9_2 p1098 q1098
     cases e1098
     replace p1098 := eq_true p1098
     replace q1098 := eq_true q1098
     have p1099 : 0 ≤ (0 : Int) := (by omega)
     have q1099 : 0 < (t1083.length : Int) := od
     obtain ⟨ad1099, e1099, hx1099_0⟩ := Kd.at_string (Kd.R_reads' HO_6.out).2.2 0 p1099 q1099
     obtain rfl : ad1086 = ad1099 := (by injection e1099)
     have qi1099 : (0 < t1083.length) = True := eq_true (by omega)
     (try rw [show ((0 : Int)).toNat = 0 from rfl] at hx1099_0)
     (try rw [Addr.add_zero'] at hx1099_0)
     replace p1099 := eq_true p1099
     replace q1099 := eq_true q1099
     refine start_ (n := 8) (S := fun w' => w'.cell? (ad1098.add (x9_2).toNat) = some (.string (rdOf ByteArray.empty t1095 x9_2)) ∧ w'.cell? ad1086 = some (.string (rdOf ByteArray.empty t1083 0))) (ds := []) ⟨br true [0, 8]⟩ (by kernel_rfl) rfl (by kernel_rfl) ⟨hx1098_0, hx1099_0⟩ (fun hHeld => ?_); refine with_tabW spec_ReqRead.tab12 spec_ReqRead.bits12 (fun HT_ HW_ => ?_)
     generalize wr.drew = w39 at HO_6 HO_8 HO_1095002 BK1077 BK1094 HB hx1098_0 hx1099_0 hHeld ⊢
     refine pu 0 48 [1, 7] ?_
     refine pu 1 49 [2, 6] ?_
     refine pu 2 50 [3, 5] ?_
     refine pu 4 52 [3, 1, 1, 3] ?_
     refine pu 5 53 [3, 1, 2, 2] ?_
     refine tk 3 51 [6, 2] ?_
     refine tk 6 54 [7, 1] ?_
     refine pu 7 55 [8] ?_
     refine done_ (done_of HT_.out (by kernel_rfl)) ?_
     have hnb40 := NB1094_1077.out
     have hnc40 := NB1077_1094.out
     obtain ⟨z41_0, y41_0, z41_1, y41_1, z41_2, y41_2, z41_3, y41_3⟩ := cl4 BK1094
     try go_wp2
     go_roundg k2
     case measure => have := HJ2.out; have := HK2.out; omega
     case rel => exact ⟨(wrap64 (x9_2 + 1)), (x9_2), rs, H', ⟨by have := HJ2.out; have := HK2.out; omega⟩, ⟨rg (Kd.R_types HO_6.out BK1094.out (by decide))⟩, ⟨rg (Kd.R_types HO_8.out BK1094.out (by decide))⟩, ⟨rg (Kd.R_types HO_1095002.out BK1094.out (by decide))⟩, ⟨by (with_reducible repeat (first | refine blk_drewN ?_ _ | refine blk_drew ?_ | refine blk_alloc ?_ _)); refine blk_far ?_ NB1077_1094.out _; (with_reducible repeat (first | refine blk_drewN ?_ _ | refine blk_drew ?_ | refine blk_alloc ?_ _)); exact BK1077.out⟩, ⟨pt0 BK1094⟩, ⟨u37HB⟩⟩

/-! ### strings.Cut -/
def strings_Cut.f (a0 a1 : ByteArray) : Option (ByteArray × ByteArray × Bool) := if a0.size < 4294967281 then some (⟨(Lib.cut a0.data.toList a1.data.toList).1.toArray⟩, ⟨(Lib.cut a0.data.toList a1.data.toList).2.1.toArray⟩, (Lib.cut a0.data.toList a1.data.toList).2.2) else none
theorem strings_Cut.calls (a0 a1 : ByteArray) (r1 r2 : ByteArray) (r3 : Bool) (w : World) (hGM : GLOBM w) (h : strings_Cut.f a0 a1 = some (r1, r2, r3)) :
  Calls Tryd.prog 130 #[.string a0, .string a1] w fun e w' => e = .returned (.tuple #[.string r1, .string r2, .bool r3]) ∧ Below w.heap.size w w' := by
 unfold strings_Cut.f at h
 split at h
 case isFalse => cases h
 rename_i hl
 simp only [Option.some.injEq, Prod.mk.injEq] at h
 obtain ⟨rfl, rfl, rfl⟩ := h
 obtain ⟨m, hm⟩ := hGM
 refine (Tryd.strings_Cut a0 a1 m w hl hm).mono ?_
 rintro e w' ⟨rfl, n, rfl⟩
 exact ⟨rfl, pw_below_drewN (Below.refl _ _) n⟩

/-! ### impl_parts: function 95 -/
theorem u95HB {p : Prop} (h : p := by repeat (first | (with_reducible first | exact HB.out | apply below_alloc | apply pw_below_drewN | apply below_drew1) | exact HB.out)) : p := h
mutual
def impl_parts.j0 : Nat → ByteArray → List ByteArray → Bool → Option (ByteArray × (List (S84)) × ByteArray × Bool)
 | 0, _, _, _ => none
 | k + 1, x7, x9, x30 => if x30 = true then (some ((⟨#[]⟩ : ByteArray), ([] : List (S84)), (⟨#[]⟩ : ByteArray), false)) else (if 1 ≤ (x9.length : Int) then ((some (x9.drop 1 : List ByteArray)).bind fun y1107 => (impl_parts.l0 k x7 x9 ([] : List (S84)) y1107 (y1107.length : Int) 0)) else (none))
def impl_parts.l0 : Nat → ByteArray → List ByteArray → List (S84) → List ByteArray → Int → Int → Option (ByteArray × (List (S84)) × ByteArray × Bool)
 | 0, _, _, _, _, _, _ => none
 | k + 1, x7, x9, x10, x32, x33, x34 => if x34 < x33 then (if 0 ≤ x34 then (if x34 < (x32.length : Int) then ((strings_Cut.f (rdOf ByteArray.empty x32 x34) (⟨#[58, 32]⟩ : ByteArray)).bind fun bt1113 => (if bt1113.2.2 = true then (if x34 = (wrap64 ((x9.length : Int) - 2)) then (if bt1113.1.toList = ([99, 111, 110, 116, 101, 110, 116, 45, 108, 101, 110, 103, 116, 104] : List UInt8) then (if 0 < (x9.length : Int) then (some (rdOf ByteArray.empty x9 0, x10, x7, true)) else (none)) else (if x10.length < 4398046511104 then (impl_parts.l0 k x7 x9 (x10 ++ [(⟨bt1113.1, bt1113.2.1⟩ : S84)]) x32 x33 (wrap64 (x34 + 1))) else (none))) else (if x10.length < 4398046511104 then (impl_parts.l0 k x7 x9 (x10 ++ [(⟨bt1113.1, bt1113.2.1⟩ : S84)]) x32 x33 (wrap64 (x34 + 1))) else (none))) else (some ((⟨#[]⟩ : ByteArray), ([] : List (S84)), (⟨#[]⟩ : ByteArray), false)))) else (none)) else (none)) else (if 0 < (x9.length : Int) then (some (rdOf ByteArray.empty x9 0, x10, x7, true)) else (none))
end
def impl_parts.f (k : Nat) (a0 : ByteArray) : Option (ByteArray × (List (S84)) × ByteArray × Bool) := (strings_Cut.f a0 (⟨#[13, 10, 13, 10]⟩ : ByteArray)).bind fun bt1101 => ((strings_Split.f bt1101.1 (⟨#[13, 10]⟩ : ByteArray)).bind fun t1104 => (if bt1101.2.2 = true then (impl_parts.j0 k bt1101.2.1 t1104 (decide ((t1104.length : Int) > 10))) else (impl_parts.j0 k bt1101.2.1 t1104 true)))
theorem impl_parts.mono_l : ∀ k, (∀ y0 y1 y2, LeO (impl_parts.j0 k y0 y1 y2) (impl_parts.j0 (k + 1) y0 y1 y2)) ∧ (∀ y0 y1 y2 y3 y4 y5, LeO (impl_parts.l0 k y0 y1 y2 y3 y4 y5) (impl_parts.l0 (k + 1) y0 y1 y2 y3 y4 y5))
 | 0 => ⟨fun _ _ _ r h => by simp [impl_parts.j0] at h, fun _ _ _ _ _ _ r h => by simp [impl_parts.l0] at h⟩
 | k + 1 => by
  obtain ⟨ih0, ih1⟩ := impl_parts.mono_l k
  refine ⟨?_, ?_⟩
  ·intro y0 y1 y2
   unfold impl_parts.j0
   exact mo
  ·intro y0 y1 y2 y3 y4 y5
   unfold impl_parts.l0
   exact mo
theorem impl_parts.mono : ∀ a0 k, LeO (impl_parts.f k a0) (impl_parts.f (k + 1) a0) := by
 intro a0 k
 obtain ⟨ih0, ih1⟩ := impl_parts.mono_l k
 unfold impl_parts.f
 exact mo
set_option maxHeartbeats 8000000 in
set_option maxRecDepth 100000 in
theorem impl_parts.calls (k : Nat) (a0 : ByteArray) (r1 : ByteArray) (r2 : List (S84)) (r3 : ByteArray) (r4 : Bool) (w : World) (hGM : GLOBM w) (h : impl_parts.f k a0 = some (r1, r2, r3, r4)) :
  Calls Tryd.prog 95 #[.string a0] w fun e w' => ∃ v1_ : Value, e = .returned (.tuple #[.string r1, v1_, .string r3, .bool r4]) ∧ Kd.R k84 84 w' w.heap.size (fun _ => True) v1_ r2 ∧ Below w.heap.size w w' := by
 have hu84 := Tryd.underlying84
 have HGM := am hGM
 clear hGM
 have HB := am (Below.refl w.heap.size w)
 unfold impl_parts.f at h
 have H := h
 clear h
 revert H
 refine ok3 fun t1101 t1102 t1103 A2 H => ?_
 (try dsimp only at H)
 revert H
 refine ok1 fun t1104 A3 H => ?_
 have HC4 := am H
 clear H
 go_enter Tryd.func95, Tryd.ntmps95
 go_upto_region 3 with (first | (refine gl 18 Tryd.func130 #[.string a0, .string (⟨#[13, 10, 13, 10]⟩ : ByteArray)] ?_; (with_reducible refine (strings_Cut.calls a0 (⟨#[13, 10, 13, 10]⟩ : ByteArray) t1101 t1102 t1103 _ ?side1 A2.out).mono ?_); (case side1 => exact GLOBM.below HGM.out bl); rintro e w5 ⟨rfl, hb⟩; refine ⟨_, rfl, ?_⟩; replace HB := am (below_step bl hb); clear hb) | (refine gl 23 Tryd.func96 #[.string t1101, .string (⟨#[13, 10]⟩ : ByteArray)] ?_; (with_reducible refine (strings_Split.calls t1101 (⟨#[13, 10]⟩ : ByteArray) t1104 _ ?side1 A3.out).mono ?_); (case side1 => exact GLOBM.below HGM.out bl); rintro e w6 ⟨v1105, rfl, ho0, hb⟩; refine ⟨_, rfl, ?_⟩; have HO1106 := am (Kd.R_lower ho0 (below_size bl)); replace HB := am (below_step bl hb); clear hb ho0))
 (try simp only [Act.put, List.setIfInBounds_toArray, List.set_cons_zero, List.set_cons_succ])
 go_cut [30] (fun v30 wc => ∃ (kq : Nat) (x30_3 : Bool), v30 = .bool x30_3 ∧ Aside0 (impl_parts.j0 kq t1102 t1104 x30_3 = some (r1, r2, r3, r4)) ∧ Aside0 (kq ≤ k) ∧ Aside0 (Kd.R Kd.string 9 wc w.heap.size (fun _ => True) v1105 t1104) ∧ Aside0 (Below w.heap.size w wc))
 case first =>
  have H := HC4.out
  clear HC4
  by_cases c7 : t1103 = true
  rotate_left
  ·replace c7 := Bool.eq_false_iff.mpr c7
   subst c7
   rw [if_neg (show ¬ (false = true) by decide)] at H
   have H' := am H
   clear H
   go_wp2
   go_meet
   case rel => exact ⟨_, (true), rs, H', ⟨by first | omega | exact Nat.le_refl _⟩, ⟨by (with_reducible repeat (first | apply Kd.R_alloc | apply Kd.R_drewN | apply Kd.R_drew)); exact HO1106.out⟩, ⟨u95HB⟩⟩
  subst c7
  rw [if_pos rfl] at H
  have H' := am H
  clear H
  obtain ⟨Ao8, co8, eo8⟩ := Kd.R_slice HO1106.out
  subst eo8
  go_wp2
  go_meet
  case rel => exact ⟨_, (decide ((t1104.length : Int) > 10)), rs, H', ⟨by first | omega | exact Nat.le_refl _⟩, ⟨by (with_reducible repeat (first | apply Kd.R_alloc | apply Kd.R_drewN | apply Kd.R_drew)); exact HO1106.out⟩, ⟨u95HB⟩⟩
 case rest =>
  clear HC4
  try clear c1
  try clear p2
  try clear c7
  obtain ⟨kq, x30_3, rfl, HA, HJ3, HO_9, HB⟩ := hcut
  cases kq with
  | zero => exact absurd HA.out (by simp [impl_parts.j0])
  | succ kj3 =>
   have H := HA.out
   clear HA
   simp only [impl_parts.j0] at H
   by_cases c9 : x30_3 = true
   ·subst c9
    rw [if_pos rfl] at H
    simp only [Option.some.injEq, Prod.mk.injEq] at H
    obtain ⟨rfl, rfl, rfl, rfl⟩ := H
    go_wp2
    refine bodyPost_ret (results_list (rs := [.tmp 2, .tmp 3, .tmp 4, .tmp 5]) rfl (by simp) (.tmp (.tmp (.tmp (.tmp .nil))))) rfl ?_
    exact ⟨_, rf, by first | exact Kd.R_nil _ _ _ _ _ | exact Kd.N_nil _ _ _ _ _ | exact Kd.V_nil _ _ _ _ _ | exact Kd.Q_nil _ _ _ _ _ | exact Kd.S_nil _ _ _ _ _, bl⟩
   replace c9 := Bool.eq_false_iff.mpr c9
   subst c9
   rw [if_neg (show ¬ (false = true) by decide)] at H
   revert H
   refine ifn fun c10 H => ?_
   have c10b0 := eq_true c10
   have c10b1 := decide_eq_true c10
   clear c10
   obtain ⟨y1107, hy1107⟩ : ∃ y_ : List ByteArray, y_ = (t1104.drop 1) := ⟨_, rfl⟩
   replace H : (impl_parts.l0 kj3 t1102 t1104 ([] : List (S84)) y1107 (y1107.length : Int) 0) = some (r1, r2, r3, r4) := by first | (rw [hy1107]; with_reducible exact H) | (have H2_ := (Option.bind_some _ _).symm.trans H; rw [hy1107]; with_reducible exact H2_) | (have H2_ := (Option.bind_some _ _).symm.trans H; with_reducible exact H2_) | with_reducible exact H | (rw [hy1107]; exact H) | exact H
   have Ny1107 := am hy1107
   clear hy1107
   have H' := am H
   clear H
   obtain ⟨Ao12, co12, eo12⟩ := Kd.R_slice HO_9.out
   subst eo12
   have q11 : (1 : Int) ≤ ((t1104.length : Int) : Int) := od
   obtain ⟨i011, hi011, _, hsz11, _⟩ := info_parts info9
   have hroom11 : t1104.length ≤ co12 := (Kd.R_reads' HO_9.out).2.1
   have hC11 : Kd.C Kd.string _ Ao12 t1104.length t1104 := (Kd.R_reads' HO_9.out).2.2
   have hcut11 := cut_from (P := Tryd.prog) 47 9 .i64 Tryd.underlying47 hi011 1 hsz11 Ao12 t1104.length co12 1 (by omega) q11
   have hr11 := Kd.C_drop (m := (1 : Int).toNat) (c := co12) hC11 (by omega) hroom11
   obtain ⟨A11, hA11⟩ : ∃ A1, A1 = (if co12 = (1 : Int).toNat then Ao12 else (Ao12 : Option Addr).map (·.add ((1 : Int).toNat * 1))) := ⟨_, rfl⟩
   obtain ⟨c11, hc11⟩ : ∃ c1, c1 = co12 - (1 : Int).toNat := ⟨_, rfl⟩
   have hy11 : y1107.length = t1104.length - (1 : Int).toNat := (by rw [Ny1107.out, List.length_drop] <;> omega)
   rw [show (t1104).drop (1 : Int).toNat = y1107 from Ny1107.out.symm] at hr11
   replace hr11 : Kd.C Kd.string _ A11 y1107.length y1107 := (by rw [hA11]; exact hr11)
   rw [← hy11, ← hA11, ← hc11] at hcut11
   have HR1110 := am hr11
   have HC1110 := am (show y1107.length ≤ c11 from by rw [hy11, hc11]; exact Nat.sub_le_sub_right hroom11 _)
   clear hr11 hC11 hroom11 hi011 hsz11 hc11
   have KY11 := am hy11
   have KA11 := am hA11
   clear hy11 hA11
   have KL11 := am (show 1 ≤ t1104.length from by omega)
   replace q11 := eq_true q11
   go_wp2
   (try simp only [Act.put, List.setIfInBounds_toArray, List.set_cons_zero, List.set_cons_succ])
   go_loopg [10, 34] kj3 (fun kq v10 v34 w' => ∃ (x10_2 : List (S84)) (x34_2 : Int), v34 = .int .i64 x34_2 ∧ Aside0 (impl_parts.l0 kq t1102 t1104 x10_2 y1107 (y1107.length : Int) x34_2 = some (r1, r2, r3, r4)) ∧ Aside0 (kq ≤ kj3) ∧ Aside0 (Kd.R Kd.string 9 w' w.heap.size (fun _ => True) (.slice Ao12 t1104.length co12) t1104) ∧ Aside0 (Kd.R k84 84 w' w.heap.size (fun _ => True) v10 x10_2) ∧ Aside0 (Kd.C Kd.string w' A11 y1107.length y1107) ∧ Aside0 (Below w.heap.size w w'))
   case atStart => exact ⟨(([] : List (S84))), (0), rs, H', ⟨Nat.le_refl _⟩, ⟨by (with_reducible repeat (first | apply Kd.R_alloc | apply Kd.R_drewN | apply Kd.R_drew)); exact HO_9.out⟩, ⟨by first | exact Kd.R_nil _ _ _ _ _ | exact Kd.N_nil _ _ _ _ _ | exact Kd.V_nil _ _ _ _ _ | exact Kd.Q_nil _ _ _ _ _ | exact Kd.S_nil _ _ _ _ _⟩, ⟨by repeat (first | (with_reducible exact HR1110.out) | (with_reducible refine Kd.C_alloc ?_ _) | (with_reducible refine Kd.C_drewN ?_ _) | (with_reducible refine Kd.C_drew ?_) | exact HR1110.out)⟩, ⟨u95HB⟩⟩
   case round =>
    clear H'
    try clear c1
    try clear q1
    try clear p2
    try clear c7
    try clear c9
    try clear c10
    try clear c10b0
    try clear c10b1
    try clear c11
    try clear q11
    try clear p2
    try clear q11
    obtain ⟨x10_2, x34_2, rfl, HA, HK2, HO_9, HO_10, HR1110, HB⟩ := hrel
    cases gk with
    | zero => exact absurd HA.out (by simp [impl_parts.l0])
    | succ k2 =>
     have H := HA.out
     clear HA
     simp only [impl_parts.l0] at H
     by_cases c13 : x34_2 < (y1107.length : Int)
     rotate_left
     ·rw [if_neg c13] at H
      have c13b0 := decide_eq_false c13
      clear c13
      revert H
      refine ifn fun c29 H => ?_
      have c29b0 := decide_eq_true c29
      have c29b1 : decide (0 < t1104.length) = true := decide_eq_true (by omega)
      clear c29
      simp only [Option.some.injEq, Prod.mk.injEq] at H
      obtain ⟨rfl, rfl, rfl, rfl⟩ := H
      have p1111 : 0 ≤ (0 : Int) := (by omega)
      have q1111 : 0 < (t1104.length : Int) := od
      obtain ⟨ad1111, e1111, hx1111_0⟩ := Kd.at_string (Kd.R_reads' HO_9.out).2.2 0 p1111 q1111
      cases e1111
      have qi1111 : (0 < t1104.length) = True := eq_true (by omega)
      (try rw [show ((0 : Int)).toNat = 0 from rfl] at hx1111_0)
      (try rw [Addr.add_zero'] at hx1111_0)
      replace p1111 := eq_true p1111
      replace q1111 := eq_true q1111
      go_wp2
      refine bodyPost_ret (results_list (rs := [.tmp 2, .tmp 3, .tmp 4, .tmp 5]) rfl (by simp) (.tmp (.tmp (.tmp (.tmp .nil))))) rfl ?_
      exact ⟨_, rf, by (with_reducible repeat (first | apply Kd.R_alloc | apply Kd.R_drewN | apply Kd.R_drew)); exact HO_10.out, bl⟩
     rw [if_pos c13] at H
     have c13b0 := decide_eq_true c13
     clear c13
     revert H
     refine ifn fun c14 H => ?_
     have c14b0 := decide_eq_true c14
     clear c14
     revert H
     refine ifn fun c15 H => ?_
     have c15b0 := decide_eq_true c15
     clear c15
     revert H
     refine ok3 fun t1113 t1114 t1115 A16 H => ?_
     (try dsimp only at H)
     by_cases c17 : t1115 = true
     rotate_left
     ·replace c17 := Bool.eq_false_iff.mpr c17
      subst c17
      rw [if_neg (show ¬ (false = true) by decide)] at H
      simp only [Option.some.injEq, Prod.mk.injEq] at H
      obtain ⟨rfl, rfl, rfl, rfl⟩ := H
      have p1112 : 0 ≤ (x34_2 : Int) := od
      have q1112 : x34_2 < (y1107.length : Int) := od
      obtain ⟨ad1112, e1112, hx1112_0⟩ := Kd.at_string HR1110.out x34_2 p1112 q1112
      cases e1112
      replace p1112 := eq_true p1112
      replace q1112 := eq_true q1112
      go_wp2_with (first | (refine gl 41 Tryd.func130 #[.string (rdOf ByteArray.empty y1107 x34_2), .string (⟨#[58, 32]⟩ : ByteArray)] ?_; (with_reducible refine (strings_Cut.calls (rdOf ByteArray.empty y1107 x34_2) (⟨#[58, 32]⟩ : ByteArray) t1113 t1114 false _ ?side1 A16.out).mono ?_); (case side1 => exact GLOBM.below HGM.out bl); rintro e w28 ⟨rfl, hb⟩; refine ⟨_, rfl, ?_⟩; replace HO_9 := kr HO_9 hb; replace HO_10 := kr HO_10 hb; replace HR1110 := am (Kd.C_below (by repeat (first | (with_reducible exact HR1110.out) | (with_reducible refine Kd.C_alloc ?_ _) | (with_reducible refine Kd.C_drewN ?_ _) | (with_reducible refine Kd.C_drew ?_) | exact HR1110.out)) hb); replace HB := am (below_step bl hb); clear hb))
      refine bodyPost_ret (results_list (rs := [.tmp 2, .tmp 3, .tmp 4, .tmp 5]) rfl (by simp) (.tmp (.tmp (.tmp (.tmp .nil))))) rfl ?_
      exact ⟨_, rf, by first | exact Kd.R_nil _ _ _ _ _ | exact Kd.N_nil _ _ _ _ _ | exact Kd.V_nil _ _ _ _ _ | exact Kd.Q_nil _ _ _ _ _ | exact Kd.S_nil _ _ _ _ _, bl⟩
     subst c17
     rw [if_pos rfl] at H
     by_cases c18 : x34_2 = (wrap64 ((t1104.length : Int) - 2))
     rotate_left
     ·rw [if_neg c18] at H
      have c18b0 : (x34_2 == (wrap64 ((t1104.length : Int) - 2))) = false := beq_eq_false_iff_ne.mpr c18
      have c18b1 : (x34_2 != (wrap64 ((t1104.length : Int) - 2))) = true := bne_iff_ne.mpr c18
      revert H
      refine ifn fun c25 H => ?_
      have LMc25 := am c25
      clear c25
      obtain ⟨y1120, hy1120⟩ : ∃ y_ : List (S84), y_ = (x10_2 ++ [(⟨t1113, t1114⟩ : S84)]) := ⟨_, rfl⟩
      replace H : (impl_parts.l0 k2 t1102 t1104 y1120 y1107 (y1107.length : Int) (wrap64 (x34_2 + 1))) = some (r1, r2, r3, r4) := by first | (rw [hy1120]; with_reducible exact H) | (have H2_ := (Option.bind_some _ _).symm.trans H; rw [hy1120]; with_reducible exact H2_) | (have H2_ := (Option.bind_some _ _).symm.trans H; with_reducible exact H2_) | with_reducible exact H | (rw [hy1120]; exact H) | exact H
      have Ny1120 := am hy1120
      clear hy1120
      have H' := am H
      clear H
      have p1112 : 0 ≤ (x34_2 : Int) := od
      have q1112 : x34_2 < (y1107.length : Int) := od
      obtain ⟨ad1112, e1112, hx1112_0⟩ := Kd.at_string HR1110.out x34_2 p1112 q1112
      cases e1112
      replace p1112 := eq_true p1112
      replace q1112 := eq_true q1112
      go_wp2_with (first | (refine gl 41 Tryd.func130 #[.string (rdOf ByteArray.empty y1107 x34_2), .string (⟨#[58, 32]⟩ : ByteArray)] ?_; (with_reducible refine (strings_Cut.calls (rdOf ByteArray.empty y1107 x34_2) (⟨#[58, 32]⟩ : ByteArray) t1113 t1114 true _ ?side1 A16.out).mono ?_); (case side1 => exact GLOBM.below HGM.out bl); rintro e w26 ⟨rfl, hb⟩; refine ⟨_, rfl, ?_⟩; replace HO_9 := kr HO_9 hb; replace HO_10 := kr HO_10 hb; replace HR1110 := am (Kd.C_below (by repeat (first | (with_reducible exact HR1110.out) | (with_reducible refine Kd.C_alloc ?_ _) | (with_reducible refine Kd.C_drewN ?_ _) | (with_reducible refine Kd.C_drew ?_) | exact HR1110.out)) hb); replace HB := am (below_step bl hb); clear hb) | ((with_reducible refine gate_builtin (b := .append) (xs := #[.tmp 56, .tmp 60]) rfl ?_); (try (refine gate_guard (by rfl) ?_; dsimp only)); at_builtin; refine Kd.R_append k84 (w0 := w) w.heap.size rfl (.tmp 56) (.tmp 60) 24 84 (.agg #[(.string ⟨#[]⟩), (.string ⟨#[]⟩)]) 32 rfl Tryd.underlying24 info84 rfl (by decide) (by omega) u10 x10_2 (⟨t1113, t1114⟩ : S84) [.string t1113, .string t1114] (fun _ => True) (fun _ => False) rfl rfl ?aP (fun _ hk => hk.elim) ?aF ?aO ?aB ?aS ?aL ?_; (case aP => exact k84_mkM _ _ _ (⟨t1113, t1114⟩ : S84)); (case aB => exact bl); (case aF => exact (fun _ _ => trivial)); (case aO => exact (ro HO_10)); (case aS => exact (below_size bl)); (case aL => have := LMc25.out; omega); intro v1121 w27 ho hb hg hat; rw [← Ny1120.out] at ho; have n0_ := am (Kd.R_over' (ro HO_9) (Kd.R_typed (ro HO_10)) (by decide) hg); have n1_ := am (hb); have n2_ := am ((show Kd.C Kd.string w27 (some ad1112) y1107.length y1107 from by rw [Ny1107.out, KA11.out]; exact Kd.C_drop (m := 1) (c := co12) ((Kd.R_reads' (Kd.R_over' (ro HO_9) (Kd.R_typed (ro HO_10)) (by decide) hg)).2.2) KL11.out ((Kd.R_reads' (Kd.R_over' (ro HO_9) (Kd.R_typed (ro HO_10)) (by decide) hg)).2.1))); have n3_ := am (ho); clear HO_9; clear HB; clear HR1110; clear HO_10; have HO_9 := n0_; have HB := n1_; have HR1110 := n2_; have HO1122 := n3_; clear n0_ n1_ n2_ n3_; clear ho hb hg hat))
      go_roundg k2
      case measure => have := HJ3.out; have := HK2.out; omega
      case rel => exact ⟨(y1120), (wrap64 (x34_2 + 1)), rs, H', ⟨by have := HJ3.out; have := HK2.out; omega⟩, ⟨by (with_reducible repeat (first | apply Kd.R_alloc | apply Kd.R_drewN | apply Kd.R_drew)); exact HO_9.out⟩, ⟨by (with_reducible repeat (first | apply Kd.R_alloc | apply Kd.R_drewN | apply Kd.R_drew)); exact HO1122.out⟩, ⟨by repeat (first | (with_reducible exact HR1110.out) | (with_reducible refine Kd.C_alloc ?_ _) | (with_reducible refine Kd.C_drewN ?_ _) | (with_reducible refine Kd.C_drew ?_) | exact HR1110.out)⟩, ⟨u95HB⟩⟩
     rw [if_pos c18] at H
     have c18b0 : (x34_2 == (wrap64 ((t1104.length : Int) - 2))) = true := beq_iff_eq.mpr c18
     have c18b1 : (x34_2 != (wrap64 ((t1104.length : Int) - 2))) = false := bne_eq_false_iff_eq.mpr c18
     clear c18
     by_cases c19 : t1113.toList = ([99, 111, 110, 116, 101, 110, 116, 45, 108, 101, 110, 103, 116, 104] : List UInt8)
     ·rw [if_pos c19] at H
      have c19b0 : (t1113.toList == ([99, 111, 110, 116, 101, 110, 116, 45, 108, 101, 110, 103, 116, 104] : List UInt8)) = true := beq_iff_eq.mpr c19
      have c19b1 : (t1113.toList != ([99, 111, 110, 116, 101, 110, 116, 45, 108, 101, 110, 103, 116, 104] : List UInt8)) = false := bne_eq_false_iff_eq.mpr c19
      clear c19
      revert H
      refine ifn fun c20 H => ?_
      have c20b0 := decide_eq_true c20
      have c20b1 : decide (0 < t1104.length) = true := decide_eq_true (by omega)
      clear c20
      simp only [Option.some.injEq, Prod.mk.injEq] at H
      obtain ⟨rfl, rfl, rfl, rfl⟩ := H
      have p1112 : 0 ≤ (x34_2 : Int) := od
      have q1112 : x34_2 < (y1107.length : Int) := od
      obtain ⟨ad1112, e1112, hx1112_0⟩ := Kd.at_string HR1110.out x34_2 p1112 q1112
      cases e1112
      replace p1112 := eq_true p1112
      replace q1112 := eq_true q1112
      go_wp2_with (first | (refine gl 41 Tryd.func130 #[.string (rdOf ByteArray.empty y1107 x34_2), .string (⟨#[58, 32]⟩ : ByteArray)] ?_; (with_reducible refine (strings_Cut.calls (rdOf ByteArray.empty y1107 x34_2) (⟨#[58, 32]⟩ : ByteArray) t1113 t1114 true _ ?side1 A16.out).mono ?_); (case side1 => exact GLOBM.below HGM.out bl); rintro e w21 ⟨rfl, hb⟩; refine ⟨_, rfl, ?_⟩; replace HO_9 := kr HO_9 hb; replace HO_10 := kr HO_10 hb; replace HR1110 := am (Kd.C_below (by repeat (first | (with_reducible exact HR1110.out) | (with_reducible refine Kd.C_alloc ?_ _) | (with_reducible refine Kd.C_drewN ?_ _) | (with_reducible refine Kd.C_drew ?_) | exact HR1110.out)) hb); replace HB := am (below_step bl hb); clear hb; have p1116 : 0 ≤ (0 : Int) := (by omega); have q1116 : 0 < (t1104.length : Int) := od; obtain ⟨ad1116, e1116, hx1116_0⟩ := Kd.at_string (Kd.R_reads' HO_9.out).2.2 0 p1116 q1116; cases e1116; have qi1116 : (0 < t1104.length) = True := eq_true (by omega); (try rw [show ((0 : Int)).toNat = 0 from rfl] at hx1116_0); (try rw [Addr.add_zero'] at hx1116_0); replace p1116 := eq_true p1116; replace q1116 := eq_true q1116))
      refine bodyPost_ret (results_list (rs := [.tmp 2, .tmp 3, .tmp 4, .tmp 5]) rfl (by simp) (.tmp (.tmp (.tmp (.tmp .nil))))) rfl ?_
      exact ⟨_, rf, by (with_reducible repeat (first | apply Kd.R_alloc | apply Kd.R_drewN | apply Kd.R_drew)); exact HO_10.out, bl⟩
     rw [if_neg c19] at H
     have c19b0 : (t1113.toList == ([99, 111, 110, 116, 101, 110, 116, 45, 108, 101, 110, 103, 116, 104] : List UInt8)) = false := beq_eq_false_iff_ne.mpr c19
     have c19b1 : (t1113.toList != ([99, 111, 110, 116, 101, 110, 116, 45, 108, 101, 110, 103, 116, 104] : List UInt8)) = true := bne_iff_ne.mpr c19
     revert H
     refine ifn fun c22 H => ?_
     have LMc22 := am c22
     clear c22
     obtain ⟨y1117, hy1117⟩ : ∃ y_ : List (S84), y_ = (x10_2 ++ [(⟨t1113, t1114⟩ : S84)]) := ⟨_, rfl⟩
     replace H : (impl_parts.l0 k2 t1102 t1104 y1117 y1107 (y1107.length : Int) (wrap64 (x34_2 + 1))) = some (r1, r2, r3, r4) := by first | (rw [hy1117]; with_reducible exact H) | (have H2_ := (Option.bind_some _ _).symm.trans H; rw [hy1117]; with_reducible exact H2_) | (have H2_ := (Option.bind_some _ _).symm.trans H; with_reducible exact H2_) | with_reducible exact H | (rw [hy1117]; exact H) | exact H
     have Ny1117 := am hy1117
     clear hy1117
     have H' := am H
     clear H
     have p1112 : 0 ≤ (x34_2 : Int) := od
     have q1112 : x34_2 < (y1107.length : Int) := od
     obtain ⟨ad1112, e1112, hx1112_0⟩ := Kd.at_string HR1110.out x34_2 p1112 q1112
     cases e1112
     replace p1112 := eq_true p1112
     replace q1112 := eq_true q1112
     go_wp2_with (first | (refine gl 41 Tryd.func130 #[.string (rdOf ByteArray.empty y1107 x34_2), .string (⟨#[58, 32]⟩ : ByteArray)] ?_; (with_reducible refine (strings_Cut.calls (rdOf ByteArray.empty y1107 x34_2) (⟨#[58, 32]⟩ : ByteArray) t1113 t1114 true _ ?side1 A16.out).mono ?_); (case side1 => exact GLOBM.below HGM.out bl); rintro e w23 ⟨rfl, hb⟩; refine ⟨_, rfl, ?_⟩; replace HO_9 := kr HO_9 hb; replace HO_10 := kr HO_10 hb; replace HR1110 := am (Kd.C_below (by repeat (first | (with_reducible exact HR1110.out) | (with_reducible refine Kd.C_alloc ?_ _) | (with_reducible refine Kd.C_drewN ?_ _) | (with_reducible refine Kd.C_drew ?_) | exact HR1110.out)) hb); replace HB := am (below_step bl hb); clear hb) | ((with_reducible refine gate_builtin (b := .append) (xs := #[.tmp 56, .tmp 60]) rfl ?_); (try (refine gate_guard (by rfl) ?_; dsimp only)); at_builtin; refine Kd.R_append k84 (w0 := w) w.heap.size rfl (.tmp 56) (.tmp 60) 24 84 (.agg #[(.string ⟨#[]⟩), (.string ⟨#[]⟩)]) 32 rfl Tryd.underlying24 info84 rfl (by decide) (by omega) u10 x10_2 (⟨t1113, t1114⟩ : S84) [.string t1113, .string t1114] (fun _ => True) (fun _ => False) rfl rfl ?aP (fun _ hk => hk.elim) ?aF ?aO ?aB ?aS ?aL ?_; (case aP => exact k84_mkM _ _ _ (⟨t1113, t1114⟩ : S84)); (case aB => exact bl); (case aF => exact (fun _ _ => trivial)); (case aO => exact (ro HO_10)); (case aS => exact (below_size bl)); (case aL => have := LMc22.out; omega); intro v1118 w24 ho hb hg hat; rw [← Ny1117.out] at ho; have n0_ := am (Kd.R_over' (ro HO_9) (Kd.R_typed (ro HO_10)) (by decide) hg); have n1_ := am (hb); have n2_ := am ((show Kd.C Kd.string w24 (some ad1112) y1107.length y1107 from by rw [Ny1107.out, KA11.out]; exact Kd.C_drop (m := 1) (c := co12) ((Kd.R_reads' (Kd.R_over' (ro HO_9) (Kd.R_typed (ro HO_10)) (by decide) hg)).2.2) KL11.out ((Kd.R_reads' (Kd.R_over' (ro HO_9) (Kd.R_typed (ro HO_10)) (by decide) hg)).2.1))); have n3_ := am (ho); clear HO_9; clear HB; clear HR1110; clear HO_10; have HO_9 := n0_; have HB := n1_; have HR1110 := n2_; have HO1119 := n3_; clear n0_ n1_ n2_ n3_; clear ho hb hg hat))
     go_roundg k2
     case measure => have := HJ3.out; have := HK2.out; omega
     case rel => exact ⟨(y1117), (wrap64 (x34_2 + 1)), rs, H', ⟨by have := HJ3.out; have := HK2.out; omega⟩, ⟨by (with_reducible repeat (first | apply Kd.R_alloc | apply Kd.R_drewN | apply Kd.R_drew)); exact HO_9.out⟩, ⟨by (with_reducible repeat (first | apply Kd.R_alloc | apply Kd.R_drewN | apply Kd.R_drew)); exact HO1119.out⟩, ⟨by repeat (first | (with_reducible exact HR1110.out) | (with_reducible refine Kd.C_alloc ?_ _) | (with_reducible refine Kd.C_drewN ?_ _) | (with_reducible refine Kd.C_drew ?_) | exact HR1110.out)⟩, ⟨u95HB⟩⟩

end Go.Proofs.YtkgdcfaogdmcgaaDoor.All
