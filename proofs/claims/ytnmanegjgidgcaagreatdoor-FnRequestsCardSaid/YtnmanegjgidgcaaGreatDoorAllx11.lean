-- Written by a program of this session (wip/tools/hprint.py) out of the translation. Lean checks it.
import Derived.Test.YtnmanegjgidgcaaGreatDoorAllx0
import Derived.Test.YtnmanegjgidgcaaGreatDoorAllx3
import Derived.Test.YtnmanegjgidgcaaGreatDoorAllx4
import Derived.Test.YtnmanegjgidgcaaGreatDoorAllx6
import Derived.Test.YtnmanegjgidgcaaGreatDoorAllx10
namespace Go.Proofs.YtnmanegjgidgcaaGreatDoor.All
open Go.RowKit Go.Proofs.YtnmanegjgidgcaaGreatDoorW.PrintWords Go.Proofs.YtnmanegjgidgcaaGreatDoorW.PrintLast Go.Proofs.YtnmanegjgidgcaaGreatDoorW.PrintMore
attribute [local go_sem] max2_int min2_int max_two min_two max_three min_three max_four min_four   -- for this text's walks alone
set_option linter.unusedVariables false
set_option linter.unusedSimpArgs false

/-! ### spec_ReqRead: function 26 -/
theorem u26HB {p : Prop} (h : p := by repeat (first | (with_reducible first | exact HB.out | apply below_alloc | apply pw_below_drewN | apply below_drew1 | refine below_set ?_ GE383.out | refine below_set ?_ GE400.out) | exact HB.out)) : p := h
mutual
def spec_ReqRead.j0 : Nat → ByteArray → List ByteArray → Int → Bool → Option (Int × ByteArray × (List (S100)) × ByteArray × Bool)
 | 0, _, _, _, _ => none
 | k + 1, x0, x4, x5, x21 => if x21 = true then (some (0, (⟨#[]⟩ : ByteArray), ([] : List (S100)), (⟨#[]⟩ : ByteArray), false)) else (if 0 < (x4.length : Int) then ((spec_l3Words.f k (rdOf ByteArray.empty x4 0)).bind fun t389 => (if (t389.length : Int) = 3 then (if 1 < (t389.length : Int) then (if 1 ≤ (x4.length : Int) then ((spec_l3Fields.f k (x4.drop 1)).bind fun t397 => (if 0 ≤ x5 then (if x5 ≤ (x0.size : Int) then ((spec_l3Methods.f).bind fun t401 => (spec_ReqRead.l0 k x0 t389 t401 1 0 (rdOf ByteArray.empty t389 1) t397 (x0.extract (x5 : Int).toNat x0.size))) else (none)) else (none))) else (none)) else (none)) else (some (0, (⟨#[]⟩ : ByteArray), ([] : List (S100)), (⟨#[]⟩ : ByteArray), false)))) else (none))
def spec_ReqRead.l0 : Nat → ByteArray → List ByteArray → List ByteArray → Int → Int → ByteArray → List (S100) → ByteArray → Option (Int × ByteArray × (List (S100)) × ByteArray × Bool)
 | 0, _, _, _, _, _, _, _, _ => none
 | k + 1, x0, x6, x8, x9, x401000, x401001, x401002, x401003 => if x9 < (x8.length : Int) then (if 0 ≤ x9 then (if 0 < (x6.length : Int) then (if (rdOf ByteArray.empty x8 x9).toList = (rdOf ByteArray.empty x6 0).toList then (spec_ReqRead.l0 k x0 x6 x8 (wrap64 (x9 + 1)) x9 x401001 x401002 x401003) else (spec_ReqRead.l0 k x0 x6 x8 (wrap64 (x9 + 1)) x401000 x401001 x401002 x401003)) else (none)) else (none)) else ((spec_ReqText.f k x401000 x401001 x401002 x401003).bind fun t406 => (if t406.toList = x0.toList then (some (x401000, x401001, x401002, x401003, true)) else (some (0, (⟨#[]⟩ : ByteArray), ([] : List (S100)), (⟨#[]⟩ : ByteArray), false))))
end
def spec_ReqRead.f (k : Nat) (a0 : ByteArray) : Option (Int × ByteArray × (List (S100)) × ByteArray × Bool) := (spec_l3Head.f k a0).bind fun bt384 => (if bt384.2 < 0 then (spec_ReqRead.j0 k a0 bt384.1 bt384.2 true) else (spec_ReqRead.j0 k a0 bt384.1 bt384.2 ((bt384.1.length : Int) == 0)))
theorem spec_ReqRead.mono_l : ∀ k, (∀ y0 y1 y2 y3, LeO (spec_ReqRead.j0 k y0 y1 y2 y3) (spec_ReqRead.j0 (k + 1) y0 y1 y2 y3)) ∧ (∀ y0 y1 y2 y3 y4 y5 y6 y7, LeO (spec_ReqRead.l0 k y0 y1 y2 y3 y4 y5 y6 y7) (spec_ReqRead.l0 (k + 1) y0 y1 y2 y3 y4 y5 y6 y7))
 | 0 => ⟨fun _ _ _ _ r h => by simp [spec_ReqRead.j0] at h, fun _ _ _ _ _ _ _ _ r h => by simp [spec_ReqRead.l0] at h⟩
 | k + 1 => by
  obtain ⟨ih0, ih1⟩ := spec_ReqRead.mono_l k
  refine ⟨?_, ?_⟩
  ·intro y0 y1 y2 y3
   unfold spec_ReqRead.j0
   have m0 := @spec_ReqText.mono
   have m1 := @spec_l3Fields.mono
   have m2 := @spec_l3Head.mono
   have m3 := @spec_l3Words.mono
   exact mo
  ·intro y0 y1 y2 y3 y4 y5 y6 y7
   unfold spec_ReqRead.l0
   have m0 := @spec_ReqText.mono
   have m1 := @spec_l3Fields.mono
   have m2 := @spec_l3Head.mono
   have m3 := @spec_l3Words.mono
   exact mo
theorem spec_ReqRead.mono : ∀ a0 k, LeO (spec_ReqRead.f k a0) (spec_ReqRead.f (k + 1) a0) := by
 intro a0 k
 obtain ⟨ih0, ih1⟩ := spec_ReqRead.mono_l k
 unfold spec_ReqRead.f
 have m0 := @spec_ReqText.mono
 have m1 := @spec_l3Fields.mono
 have m2 := @spec_l3Head.mono
 have m3 := @spec_l3Words.mono
 exact mo
def spec_ReqRead.T7 : Bool × List (List Nat × List Nat) := (true, [([], []), ([0], [0]), ([1], [1]), ([], []), ([3], [3]), ([4], [4]), ([], []), ([], []), ([6, 7], [6, 7]), ([2, 5, 8], [2, 5, 8]), ([], []), ([10, 9, 5, 0, 1, 2, 3, 4, 5, 6, 7, 8, 9, 10], [9, 10])])
def spec_ReqRead.B7 : List Nat := [0, 1, 3, 0, 8, 24, 0, 0, 192, 511, 0, 2047]
theorem spec_ReqRead.tab7 : rtab .any (opsOf Tryz.f26 7) = spec_ReqRead.T7 := by kernel_rfl
theorem spec_ReqRead.bits7 : waitsOk spec_ReqRead.T7.2 spec_ReqRead.B7 = true := by kernel_rfl
def spec_ReqRead.T12 : Bool × List (List Nat × List Nat) := (true, [([], []), ([], []), ([0, 1], [0, 1]), ([2], [2]), ([], []), ([4], [4]), ([5], [5]), ([3, 6], [3, 6])])
def spec_ReqRead.B12 : List Nat := [0, 0, 3, 7, 0, 16, 48, 127]
theorem spec_ReqRead.tab12 : rtab .any (opsOf Tryz.f26 12) = spec_ReqRead.T12 := by kernel_rfl
theorem spec_ReqRead.bits12 : waitsOk spec_ReqRead.T12.2 spec_ReqRead.B12 = true := by kernel_rfl
set_option maxHeartbeats 8000000 in
set_option maxRecDepth 100000 in
theorem spec_ReqRead.calls (k : Nat) (a0 : ByteArray) (r1 : Int) (r2 : ByteArray) (r3 : List (S100)) (r4 : ByteArray) (r5 : Bool) (w : World) (h : spec_ReqRead.f k a0 = some (r1, r2, r3, r4, r5)) :
  Calls Tryz.prog 26 #[.string a0] w fun e w' => ∃ v2_ : Value, e = .returned (.tuple #[.agg #[.int .i64 r1, .string r2, v2_, .string r4], .bool r5]) ∧ Kd.R k100 100 w' w.heap.size (fun _ => True) v2_ r3 ∧ Below w.heap.size w w' := by
 have hu40 := Tryz.underlying40
 have HB := am (Below.refl w.heap.size w)
 unfold spec_ReqRead.f at h
 have H := h
 clear h
 revert H
 refine ok2 fun t384 t385 A2 H => ?_
 (try dsimp only at H)
 have HC3 := am H
 clear H
 go_enter Tryz.func26, Tryz.ntmps26
 go_upto_region 2 with (first | ((with_reducible refine gate_dst (N := 2) rfl ?_); (try (refine gate_guard (by rfl) ?_; dsimp only)); refine box_event ?hg (N := 2) ?hd (cs := #[.int .i64 0, .string (⟨#[]⟩ : ByteArray), .slice none 0 0, .string (⟨#[]⟩ : ByteArray)]) (t := 40) ?hr ?_; (case hd => rfl); (case hg => rfl); (case hr => first | (go_simp; done) | (go_simp; rfl)); intro gb383 hg w4 hbox hb; have BK383 := am (hbox); have GW383 := am (sz hg : w.heap.size ≤ gb383); have GE383 := am (sz hg : w.heap.size ≤ gb383); replace HB := am (below_step bl hb); clear hb hbox hg) | (refine gl 12 Tryz.func86 #[.string a0] ?_; (with_reducible refine (spec_l3Head.calls k a0 t384 t385 _ A2.out).mono ?_); rintro e w5 ⟨v386, rfl, ho0, hb⟩; refine ⟨_, rfl, ?_⟩; have HO387 := am (Kd.R_lower ho0 (below_size bl)); replace BK383 := kb BK383 hb; replace HB := am (below_step bl hb); clear hb ho0))
 (try simp only [Act.put, List.setIfInBounds_toArray, List.set_cons_zero, List.set_cons_succ])
 go_cut [21] (fun v21 wc => ∃ (kq : Nat) (x21_2 : Bool), v21 = .bool x21_2 ∧ Aside0 (spec_ReqRead.j0 kq a0 t384 t385 x21_2 = some (r1, r2, r3, r4, r5)) ∧ Aside0 (kq ≤ k) ∧ Aside0 (Kd.R Kd.string 9 wc w.heap.size (fun _ => True) v386 t384) ∧ Aside0 (wc.heap[gb383]? = some (.cells #[.int .i64 0, .string (⟨#[]⟩ : ByteArray), (.slice none 0 0), .string (⟨#[]⟩ : ByteArray)] 40 (0, 0))) ∧ Aside0 (Below w.heap.size w wc))
 case first =>
  have H := HC3.out
  clear HC3
  by_cases c6 : t385 < 0
  ·rw [if_pos c6] at H
   have c6b0 := decide_eq_true c6
   clear c6
   (first | rw [c6b0] | (simp only [i64_w, i32_w]; rw [c6b0]) | skip)
   have H' := am H
   clear H
   go_wp2
   go_meet
   case rel => exact ⟨_, (true), rs, H', ⟨by first | omega | exact Nat.le_refl _⟩, ⟨by (with_reducible repeat (first | apply Kd.R_alloc | apply Kd.R_drewN | apply Kd.R_drew)); exact HO387.out⟩, ⟨by (with_reducible repeat (first | refine blk_drewN ?_ _ | refine blk_drew ?_ | refine blk_alloc ?_ _)); exact BK383.out⟩, ⟨u26HB⟩⟩
  rw [if_neg c6] at H
  have c6b0 := decide_eq_false c6
  clear c6
  (first | rw [c6b0] | (simp only [i64_w, i32_w]; rw [c6b0]) | skip)
  have H' := am H
  clear H
  obtain ⟨Ao7, co7, eo7⟩ := Kd.R_slice HO387.out
  subst eo7
  go_wp2
  go_meet
  case rel => exact ⟨_, (((t384.length : Int) == 0)), rs, H', ⟨by first | omega | exact Nat.le_refl _⟩, ⟨by (with_reducible repeat (first | apply Kd.R_alloc | apply Kd.R_drewN | apply Kd.R_drew)); exact HO387.out⟩, ⟨by (with_reducible repeat (first | refine blk_drewN ?_ _ | refine blk_drew ?_ | refine blk_alloc ?_ _)); exact BK383.out⟩, ⟨u26HB⟩⟩
 case rest =>
  clear HC3
  try clear c2
  try clear p2
  try clear c6
  try clear c6b0
  obtain ⟨kq, x21_2, rfl, HA, HJ2, HO_4, BK383, HB⟩ := hcut
  cases kq with
  | zero => exact absurd HA.out (by simp [spec_ReqRead.j0])
  | succ kj2 =>
   have H := HA.out
   clear HA
   simp only [spec_ReqRead.j0] at H
   by_cases c8 : x21_2 = true
   ·subst c8
    rw [if_pos rfl] at H
    simp only [Option.some.injEq, Prod.mk.injEq] at H
    obtain ⟨rfl, rfl, rfl, rfl, rfl⟩ := H
    obtain ⟨z9_0, y9_0, z9_1, y9_1, z9_2, y9_2, z9_3, y9_3⟩ := cl4 BK383
    go_wp2
    refine bodyPost_ret (results_ct rfl _ _ gb383 40 #[.int .i64 0, .string (⟨#[]⟩ : ByteArray), .slice none 0 0, .string (⟨#[]⟩ : ByteArray)] (0, 0) _ rfl (pt0 BK383) Tryz.underlying40 rfl (by kernel_rfl)) rfl ?_
    exact ⟨_, rf, by first | exact Kd.R_nil _ _ _ _ _ | exact Kd.N_nil _ _ _ _ _ | exact Kd.V_nil _ _ _ _ _ | exact Kd.Q_nil _ _ _ _ _ | exact Kd.S_nil _ _ _ _ _, bl⟩
   replace c8 := Bool.eq_false_iff.mpr c8
   subst c8
   rw [if_neg (show ¬ (false = true) by decide)] at H
   revert H
   refine ifn fun c10 H => ?_
   have c10b0 := decide_eq_true c10
   have c10b1 : decide (0 < t384.length) = true := decide_eq_true (by omega)
   clear c10
   revert H
   refine ok1 fun t389 A11 H => ?_
   by_cases c12 : (t389.length : Int) = 3
   rotate_left
   ·rw [if_neg c12] at H
    have c12b0 : ((t389.length : Int) == 3) = false := beq_eq_false_iff_ne.mpr c12
    have c12b1 : ((t389.length : Int) != 3) = true := bne_iff_ne.mpr c12
    simp only [Option.some.injEq, Prod.mk.injEq] at H
    obtain ⟨rfl, rfl, rfl, rfl, rfl⟩ := H
    obtain ⟨Ao57, co57, eo57⟩ := Kd.R_slice HO_4.out
    subst eo57
    have p388 : 0 ≤ (0 : Int) := (by omega)
    have q388 : 0 < (t384.length : Int) := od
    obtain ⟨ad388, e388, hx388_0⟩ := Kd.at_string (Kd.R_reads' HO_4.out).2.2 0 p388 q388
    cases e388
    have qi388 : (0 < t384.length) = True := eq_true (by omega)
    (try rw [show ((0 : Int)).toNat = 0 from rfl] at hx388_0)
    (try rw [Addr.add_zero'] at hx388_0)
    replace p388 := eq_true p388
    replace q388 := eq_true q388
    go_wp2_with (first | (refine gl 26 Tryz.func87 #[.string (rdOf ByteArray.empty t384 0)] ?_; (with_reducible refine (spec_l3Words.calls kj2 (rdOf ByteArray.empty t384 0) t389 _ A11.out).mono ?_); rintro e w58 ⟨v390, rfl, ho0, hb⟩; refine ⟨_, rfl, ?_⟩; have HO391 := am (Kd.R_lower (Kd.R_new' ho0 (Kd.R_lt (ro HO_4))) (below_size bl)); replace HO_4 := am (Kd.R_elder' (ro HO_4) (Kd.R_base ho0) hb); replace BK383 := kb BK383 hb; replace HB := am (below_step bl hb); clear hb ho0; obtain ⟨Ao59, co59, eo59⟩ := Kd.R_slice HO391.out; subst eo59; obtain ⟨z60_0, y60_0, z60_1, y60_1, z60_2, y60_2, z60_3, y60_3⟩ := cl4 BK383))
    refine bodyPost_ret (results_ct rfl _ _ gb383 40 #[.int .i64 0, .string (⟨#[]⟩ : ByteArray), .slice none 0 0, .string (⟨#[]⟩ : ByteArray)] (0, 0) _ rfl (pt0 BK383) Tryz.underlying40 rfl (by kernel_rfl)) rfl ?_
    exact ⟨_, rf, by first | exact Kd.R_nil _ _ _ _ _ | exact Kd.N_nil _ _ _ _ _ | exact Kd.V_nil _ _ _ _ _ | exact Kd.Q_nil _ _ _ _ _ | exact Kd.S_nil _ _ _ _ _, bl⟩
   rw [if_pos c12] at H
   have c12b0 : ((t389.length : Int) == 3) = true := beq_iff_eq.mpr c12
   have c12b1 : ((t389.length : Int) != 3) = false := bne_eq_false_iff_eq.mpr c12
   clear c12
   revert H
   refine ifn fun c13 H => ?_
   have c13b0 := decide_eq_true c13
   have c13b1 : decide (1 < t389.length) = true := decide_eq_true (by omega)
   clear c13
   revert H
   refine ifn fun c14 H => ?_
   have c14b0 := eq_true c14
   have c14b1 := decide_eq_true c14
   clear c14
   obtain ⟨y393, hy393⟩ : ∃ y_ : List ByteArray, y_ = (t384.drop 1) := ⟨_, rfl⟩
   replace H : ((spec_l3Fields.f kj2 y393).bind fun t397 => (if 0 ≤ t385 then (if t385 ≤ (a0.size : Int) then ((spec_l3Methods.f).bind fun t401 => (spec_ReqRead.l0 kj2 a0 t389 t401 1 0 (rdOf ByteArray.empty t389 1) t397 (a0.extract (t385 : Int).toNat a0.size))) else (none)) else (none))) = some (r1, r2, r3, r4, r5) := by first | (rw [hy393]; with_reducible exact H) | (have H2_ := (Option.bind_some _ _).symm.trans H; rw [hy393]; with_reducible exact H2_) | (have H2_ := (Option.bind_some _ _).symm.trans H; with_reducible exact H2_) | with_reducible exact H | (rw [hy393]; exact H) | exact H
   have Ny393 := am hy393
   clear hy393
   revert H
   refine ok1 fun t397 A15 H => ?_
   revert H
   refine ifn fun c16 H => ?_
   have c16b0 := eq_true c16
   have c16b1 := decide_eq_true c16
   clear c16
   revert H
   refine ifn fun c17 H => ?_
   have c17b0 := eq_true c17
   have c17b1 := decide_eq_true c17
   clear c17
   revert H
   refine ok1 fun t401 A18 H => ?_
   have H' := am H
   clear H
   obtain ⟨Ao19, co19, eo19⟩ := Kd.R_slice HO_4.out
   subst eo19
   have p388 : 0 ≤ (0 : Int) := (by omega)
   have q388 : 0 < (t384.length : Int) := od
   obtain ⟨ad388, e388, hx388_0⟩ := Kd.at_string (Kd.R_reads' HO_4.out).2.2 0 p388 q388
   cases e388
   have qi388 : (0 < t384.length) = True := eq_true (by omega)
   (try rw [show ((0 : Int)).toNat = 0 from rfl] at hx388_0)
   (try rw [Addr.add_zero'] at hx388_0)
   replace p388 := eq_true p388
   replace q388 := eq_true q388
   try go_wp2_with (first | (refine gl 26 Tryz.func87 #[.string (rdOf ByteArray.empty t384 0)] ?_; (with_reducible refine (spec_l3Words.calls kj2 (rdOf ByteArray.empty t384 0) t389 _ A11.out).mono ?_); rintro e w20 ⟨v390, rfl, ho0, hb⟩; refine ⟨_, rfl, ?_⟩; have HO391 := am (Kd.R_lower (Kd.R_new' ho0 (Kd.R_lt (ro HO_4))) (below_size bl)); replace HO_4 := am (Kd.R_elder' (ro HO_4) (Kd.R_base ho0) hb); replace BK383 := kb BK383 hb; replace HB := am (below_step bl hb); clear hb ho0; obtain ⟨Ao21, co21, eo21⟩ := Kd.R_slice HO391.out; subst eo21))
   replace HO_4 := am (Kd.R_drew HO_4.out)
   replace HO391 := am (Kd.R_drew HO391.out)
   replace BK383 := am (blk_drew BK383.out)
   replace HB := am (below_drew1 HB.out)
   have p392 : 0 ≤ (1 : Int) := (by omega)
   have q392 : 1 < (t389.length : Int) := od
   obtain ⟨ad392, e392, hx392_0⟩ := Kd.at_string (Kd.R_reads' HO391.out).2.2 1 p392 q392
   cases e392
   (try simp only [show (1 : Int).toNat = 1 from rfl, Nat.reduceMul, Nat.reduceEqDiff, Go.Addr.add, ↓reduceIte] at hx392_0)
   have qi392 : (1 < t389.length) = True := eq_true (by omega)
   (try rw [show ((1 : Int)).toNat = 1 from rfl] at hx392_0)
   replace p392 := eq_true p392
   replace q392 := eq_true q392
   have q23 : (1 : Int) ≤ ((t384.length : Int) : Int) := od
   obtain ⟨i023, hi023, _, hsz23, _⟩ := info_parts info9
   have hroom23 : t384.length ≤ co19 := (Kd.R_reads' HO_4.out).2.1
   have hC23 : Kd.C Kd.string _ (some ad388) t384.length t384 := (Kd.R_reads' HO_4.out).2.2
   have hcut23 := cut_from (P := Tryz.prog) 35 9 .i64 Tryz.underlying35 hi023 1 hsz23 (some ad388) t384.length co19 1 (by omega) q23
   have hr23 := Kd.C_drop (m := (1 : Int).toNat) (c := co19) hC23 (by omega) hroom23
   obtain ⟨A23, hA23⟩ : ∃ A1, A1 = (if co19 = (1 : Int).toNat then (some ad388) else ((some ad388) : Option Addr).map (·.add ((1 : Int).toNat * 1))) := ⟨_, rfl⟩
   obtain ⟨c23, hc23⟩ : ∃ c1, c1 = co19 - (1 : Int).toNat := ⟨_, rfl⟩
   have hy23 : y393.length = t384.length - (1 : Int).toNat := (by rw [Ny393.out, List.length_drop] <;> omega)
   rw [show (t384).drop (1 : Int).toNat = y393 from Ny393.out.symm] at hr23
   replace hr23 : Kd.C Kd.string _ A23 y393.length y393 := (by rw [hA23]; exact hr23)
   rw [← hy23, ← hA23, ← hc23] at hcut23
   have HR396 := am hr23
   have HC396 := am (show y393.length ≤ c23 from by rw [hy23, hc23]; exact Nat.sub_le_sub_right hroom23 _)
   clear hr23 hC23 hroom23 hi023 hsz23 hc23
   have KY23 := am hy23
   have KA23 := am hA23
   clear hy23 hA23
   have KL23 := am (show 1 ≤ t384.length from by omega)
   replace q23 := eq_true q23
   refine start_ (n := 12) (S := fun w' => w'.cell? ⟨ad392.block, ad392.off + 1, none⟩ = some (.string (rdOf ByteArray.empty t389 1))) (ds := []) ⟨br true [0, 12]⟩ (by kernel_rfl) rfl (by kernel_rfl) (hx392_0) (fun hHeld => ?_); refine with_tabW spec_ReqRead.tab7 spec_ReqRead.bits7 (fun HT_ HW_ => ?_)
   generalize w20.drew = w22 at HO_4 HO391 BK383 HB HR396 hx392_0 hHeld ⊢
   refine pu 0 31 [1, 11] ?_
   refine pu 1 32 [2, 10] ?_
   refine pu 3 34 [2, 1, 1, 8] ?_
   refine pu 4 35 [2, 1, 2, 7] ?_
   refine pu 6 37 [2, 1, 2, 1, 1, 5] ?_
   refine pu 7 38 [2, 1, 2, 1, 2, 4] ?_
   refine pu 8 39 [2, 1, 2, 1, 3, 3] ?_
   refine take_ (i := 2) (N := some 33) (v := ?_) (a' := ?_) #[true, true, true, true, true, false, true, true, true, false, false, false] rfl rfl (take_ofW HT_.out HW_.out (by kernel_rfl)) (fun _ _ _ h => h) (Or.inl ⟨by rfl, ?_⟩) hHeld ?_ ?_
   rotate_left
   ·intro w' s0
    go_simp
    with_reducible rfl
   rotate_left
   ·simp only [Act.put, List.setIfInBounds_toArray, List.set_cons_zero, List.set_cons_succ, i64_w, i32_w]
    rfl
   refine join_ (σ := Value × Nat) 1 #[true, true, true, true, true, true, true, true, true, true, true, false] (fun s_ => [(36, s_.1), (7, .pointer (some ⟨s_.2, 0, none⟩)), (40, .agg #[.int .i64 0, .string (rdOf ByteArray.empty t389 1), s_.1, .string (a0.extract (t385 : Int).toNat a0.size)])]) (fun s_ w' => (w'.cell? ⟨ad392.block, ad392.off + 1, none⟩ = some (.string (rdOf ByteArray.empty t389 1))) ∧ (Kd.R Kd.string 9 w' w.heap.size (fun k_ => some k_ ≠ (.slice (some ad388) t384.length co19 : Value).ownBlock) (.slice (some ad392) t389.length co21) t389) ∧ (Kd.R k100 100 w' w.heap.size (fun _ => True) s_.1 t397) ∧ (Kd.R Kd.string 9 w' w.heap.size (fun k_ => some k_ ≠ (.slice (some ad392) t389.length co21 : Value).ownBlock) (.slice (some ad388) t384.length co19) t384) ∧ (w'.heap[gb383]? = some (.cells #[.int .i64 0, .string (⟨#[]⟩ : ByteArray), .slice none 0 0, .string (⟨#[]⟩ : ByteArray)] 40 (0, 0))) ∧ (w'.heap[s_.2]? = some (.cells #[.int .i64 0, .string (⟨#[]⟩ : ByteArray), .slice none 0 0, .string (⟨#[]⟩ : ByteArray)] 40 (0, 0))) ∧ (w.heap.size ≤ s_.2) ∧ (w.heap.size ≤ s_.2) ∧ (gb383 ≠ s_.2) ∧ (s_.2 ≠ gb383) ∧ (Below w.heap.size w w')) ?_ ?_
   rotate_left
   ·intro hCont
    refine two_ (i := 5) (j := 10) (Ni := some 36) (Nj := some 7) #[true, true, true, true, true, true, true, true, true, false, false, false] #[true, true, true, true, true, false, true, true, true, false, true, false] rfl rfl rfl rfl (two_of HT_.out (by kernel_rfl)) (by decide) (by decide) (fun K hK => ?_) (fun K hK => ?_)
    ·skip
     refine goes_ Tryz.func88 (by kernel_rfl) rfl #[.slice A23 y393.length c23] (by rfl) rfl rfl ma ?_
     with_reducible refine (spec_l3Fields.calls kj2 _ _ y393 t397 _ ?side1 ?side2 A15.out).mono ?_
     (case side1 => repeat (first | exact (by repeat (first | (with_reducible exact HR396.out) | (with_reducible refine Kd.C_alloc ?_ _) | (with_reducible refine Kd.C_drewN ?_ _) | (with_reducible refine Kd.C_drew ?_) | exact HR396.out)) | (with_reducible refine Kd.C_alloc ?_ _) | (with_reducible refine Kd.C_drewN ?_ _) | (with_reducible refine Kd.C_drew ?_)))
     (case side2 => exact HC396.out)
     rintro e w24 ⟨v398, rfl, ho0, hb⟩
     have HS0_ := (hb.cell (World.block_lt_of_cell? _ _ (hHeld))).trans (hHeld)
     refine ⟨_, rfl, ?_⟩
     replace HO_4 := kr HO_4 hb
     replace HO391 := kr HO391 hb
     have HO399 := am (Kd.R_lower ho0 (below_size bl))
     replace BK383 := kb BK383 hb
     replace HR396 := am (Kd.C_below (by repeat (first | (with_reducible exact HR396.out) | (with_reducible refine Kd.C_alloc ?_ _) | (with_reducible refine Kd.C_drewN ?_ _) | (with_reducible refine Kd.C_drew ?_) | exact HR396.out)) hb)
     replace HB := am (below_step bl hb)
     clear hb ho0
     obtain ⟨Ao25, co25, eo25⟩ := Kd.R_slice HO399.out
     (first | subst eo25 | (injection eo25 with f1_ f2_ f3_; have f4_ := f1_.symm; have f5_ := f3_.symm; clear f1_ f2_ f3_; subst f4_; subst f5_))
     refine hK.out _ _ (HS0_) (fun hHeld => ?_)
     clear hK K
     refine nm 36 ?_
     refine pu 9 40 [10, 2] ?_
     refine one_ (i := 10) (N := some 7) #[true, true, true, true, true, true, true, true, true, true, true, false] rfl rfl (one_of HT_.out (by kernel_rfl)) (by decide) (fun K hK => ?_)
     refine box_step ?hg (N := 7) ?hd (cs := #[.int .i64 0, .string (⟨#[]⟩ : ByteArray), .slice none 0 0, .string (⟨#[]⟩ : ByteArray)]) (t := 40) ?hr ?_; (case hd => rfl); (case hg => rfl); (case hr => first | (go_simp; done) | (go_simp; rfl))
     intro gb400 hg w26 hbox hb
     have HS0_ := (hb.cell (World.block_lt_of_cell? _ _ (hHeld))).trans (hHeld)
     replace HO_4 := am (Kd.R_below (ro HO_4) hb)
     replace HO391 := am (Kd.R_below (ro HO391) hb)
     replace HO399 := am (Kd.R_below (ro HO399) hb)
     replace HR396 := am (Kd.C_below (by repeat (first | (with_reducible exact HR396.out) | (with_reducible refine Kd.C_alloc ?_ _) | (with_reducible refine Kd.C_drewN ?_ _) | (with_reducible refine Kd.C_drew ?_) | exact HR396.out)) hb)
     have BK400 := am (hbox)
     have GW400 := am (sz hg : w.heap.size ≤ gb400)
     have GE400 := am (sz hg : w.heap.size ≤ gb400)
     replace HB := am (below_step bl hb)
     have NB383_400 := am (nl hg BK383 : gb383 ≠ gb400)
     have NB400_383 := am (ng hg BK383 : gb400 ≠ gb383)
     replace BK383 := kb BK383 hb
     clear hb hbox hg
     refine hK.out _ _ (HS0_) (fun hHeld => ?_)
     clear hK K
     refine nm 7 ?_
     exact norm_ (by simp only [putAll, Act.put, List.setIfInBounds_toArray, List.set_cons_zero, List.set_cons_succ]) (hCont (.slice Ao25 t397.length co25, gb400) _ ⟨hHeld, (by (with_reducible repeat (first | apply Kd.R_alloc | apply Kd.R_drewN | apply Kd.R_drew)); exact Kd.R_mono HO391.out (fun _ hk => hk.2)), (ro HO399), (by (with_reducible repeat (first | apply Kd.R_alloc | apply Kd.R_drewN | apply Kd.R_drew)); exact Kd.R_mono HO_4.out (fun _ hk => hk.2)), (bk BK383), (bk BK400), GW400.out, GE400.out, NB383_400.out, NB400_383.out, bl⟩)
    ·skip
     refine box_step ?hg (N := 7) ?hd (cs := #[.int .i64 0, .string (⟨#[]⟩ : ByteArray), .slice none 0 0, .string (⟨#[]⟩ : ByteArray)]) (t := 40) ?hr ?_; (case hd => rfl); (case hg => rfl); (case hr => first | (go_simp; done) | (go_simp; rfl))
     intro gb400 hg w24 hbox hb
     have HS0_ := (hb.cell (World.block_lt_of_cell? _ _ (hHeld))).trans (hHeld)
     replace HO_4 := am (Kd.R_below (ro HO_4) hb)
     replace HO391 := am (Kd.R_below (ro HO391) hb)
     replace HR396 := am (Kd.C_below (by repeat (first | (with_reducible exact HR396.out) | (with_reducible refine Kd.C_alloc ?_ _) | (with_reducible refine Kd.C_drewN ?_ _) | (with_reducible refine Kd.C_drew ?_) | exact HR396.out)) hb)
     have BK400 := am (hbox)
     have GW400 := am (sz hg : w.heap.size ≤ gb400)
     have GE400 := am (sz hg : w.heap.size ≤ gb400)
     replace HB := am (below_step bl hb)
     have NB383_400 := am (nl hg BK383 : gb383 ≠ gb400)
     have NB400_383 := am (ng hg BK383 : gb400 ≠ gb383)
     replace BK383 := kb BK383 hb
     clear hb hbox hg
     refine hK.out _ _ (HS0_) (fun hHeld => ?_)
     clear hK K
     refine nm 7 ?_
     refine og 5 36 [9, 1, 1, 1] Tryz.func88 #[.slice A23 y393.length c23] (fun K hK => ?_)
     with_reducible refine (spec_l3Fields.calls kj2 _ _ y393 t397 _ ?side1 ?side2 A15.out).mono ?_
     (case side1 => repeat (first | exact (by repeat (first | (with_reducible exact HR396.out) | (with_reducible refine Kd.C_alloc ?_ _) | (with_reducible refine Kd.C_drewN ?_ _) | (with_reducible refine Kd.C_drew ?_) | exact HR396.out)) | (with_reducible refine Kd.C_alloc ?_ _) | (with_reducible refine Kd.C_drewN ?_ _) | (with_reducible refine Kd.C_drew ?_)))
     (case side2 => exact HC396.out)
     rintro e w25 ⟨v398, rfl, ho0, hb⟩
     have HS0_ := (hb.cell (World.block_lt_of_cell? _ _ (hHeld))).trans (hHeld)
     refine ⟨_, rfl, ?_⟩
     replace HO_4 := kr HO_4 hb
     replace HO391 := kr HO391 hb
     have HO399 := am (Kd.R_lower ho0 (below_size bl))
     replace BK383 := kb BK383 hb
     replace HR396 := am (Kd.C_below (by repeat (first | (with_reducible exact HR396.out) | (with_reducible refine Kd.C_alloc ?_ _) | (with_reducible refine Kd.C_drewN ?_ _) | (with_reducible refine Kd.C_drew ?_) | exact HR396.out)) hb)
     replace BK400 := kb BK400 hb
     replace HB := am (below_step bl hb)
     clear hb ho0
     obtain ⟨Ao26, co26, eo26⟩ := Kd.R_slice HO399.out
     (first | subst eo26 | (injection eo26 with f1_ f2_ f3_; have f4_ := f1_.symm; have f5_ := f3_.symm; clear f1_ f2_ f3_; subst f4_; subst f5_))
     refine hK.out _ _ (HS0_) (fun hHeld => ?_)
     clear hK K
     refine nm 36 ?_
     refine pu 9 40 [11, 1] ?_
     exact norm_ (by simp only [putAll, Act.put, List.setIfInBounds_toArray, List.set_cons_zero, List.set_cons_succ]) (hCont (.slice Ao26 t397.length co26, gb400) _ ⟨hHeld, (by (with_reducible repeat (first | apply Kd.R_alloc | apply Kd.R_drewN | apply Kd.R_drew)); exact Kd.R_mono HO391.out (fun _ hk => hk.2)), (ro HO399), (by (with_reducible repeat (first | apply Kd.R_alloc | apply Kd.R_drewN | apply Kd.R_drew)); exact Kd.R_mono HO_4.out (fun _ hk => hk.2)), (bk BK383), (bk BK400), GW400.out, GE400.out, NB383_400.out, NB400_383.out, bl⟩)
   rintro ⟨v398, gb400⟩ w27 ⟨hS_, h0_, h1_, h2_, h3_, h4_, h5_, h6_, h7_, h8_, h9_⟩
   have n0_ : Aside0 (Kd.R Kd.string 9 w27 w.heap.size (fun k_ => some k_ ≠ (.slice (some ad388) t384.length co19 : Value).ownBlock) (.slice (some ad392) t389.length co21) t389) := ⟨h0_⟩
   have n1_ : Aside0 (Kd.R k100 100 w27 w.heap.size (fun _ => True) v398 t397) := ⟨h1_⟩
   have n2_ : Aside0 (Kd.R Kd.string 9 w27 w.heap.size (fun k_ => some k_ ≠ (.slice (some ad392) t389.length co21 : Value).ownBlock) (.slice (some ad388) t384.length co19) t384) := ⟨h2_⟩
   have n3_ : Aside0 (w27.heap[gb383]? = some (.cells #[.int .i64 0, .string (⟨#[]⟩ : ByteArray), .slice none 0 0, .string (⟨#[]⟩ : ByteArray)] 40 (0, 0))) := ⟨h3_⟩
   have n4_ : Aside0 (w27.heap[gb400]? = some (.cells #[.int .i64 0, .string (⟨#[]⟩ : ByteArray), .slice none 0 0, .string (⟨#[]⟩ : ByteArray)] 40 (0, 0))) := ⟨h4_⟩
   have n5_ : Aside0 (w.heap.size ≤ gb400) := ⟨h5_⟩
   have n6_ : Aside0 (w.heap.size ≤ gb400) := ⟨h6_⟩
   have n7_ : Aside0 (gb383 ≠ gb400) := ⟨h7_⟩
   have n8_ : Aside0 (gb400 ≠ gb383) := ⟨h8_⟩
   have n9_ : Aside0 (Below w.heap.size w w27) := ⟨h9_⟩
   clear HO_4
   clear HO391
   clear BK383
   clear HB
   clear h0_ h1_ h2_ h3_ h4_ h5_ h6_ h7_ h8_ h9_
   have HO391 := n0_
   have HO399 := n1_
   have HO_4 := n2_
   have BK383 := n3_
   have BK400 := n4_
   have GW400 := n5_
   have GE400 := n6_
   have NB383_400 := n7_
   have NB400_383 := n8_
   have HB := n9_
   clear n0_ n1_ n2_ n3_ n4_ n5_ n6_ n7_ n8_ n9_
   have hHeld : w27.cell? ⟨ad392.block, ad392.off + 1, none⟩ = some (.string (rdOf ByteArray.empty t389 1)) := hS_
   obtain ⟨Ao28, co28, eo28⟩ := Kd.R_slice HO399.out
   (first | subst eo28 | (injection eo28 with f1_ f2_ f3_; have f4_ := f1_.symm; have f5_ := f3_.symm; clear f1_ f2_ f3_; subst f4_; subst f5_))
   refine norm_ (a' := ?_) ?_ ?_
   rotate_left
   ·simp only [putAll, Act.put, List.setIfInBounds_toArray, List.set_cons_zero, List.set_cons_succ]
    rfl
   refine one_ (i := 11) (N := none) #[true, true, true, true, true, true, true, true, true, true, true, true] rfl rfl (one_of HT_.out (by kernel_rfl)) (by decide) (fun K hK => ?_)
   have hs29 : w27.cell? ⟨gb400, 0, none⟩ = some (.int .i64 0) := bc BK400
   have hfs29 := blk_frozen BK400.out 0
   have hns29_0 := NB383_400.out
   have hms29_0 := NB400_383.out
   have hs30 : w27.cell? ⟨gb400, 1, none⟩ = some (.string (⟨#[]⟩ : ByteArray)) := bc BK400
   have hfs30 := blk_frozen BK400.out 1
   have hns30_0 := NB383_400.out
   have hms30_0 := NB400_383.out
   have hs31 : w27.cell? ⟨gb400, 2, none⟩ = some (.slice none 0 0) := bc BK400
   have hfs31 := blk_frozen BK400.out 2
   have hns31_0 := NB383_400.out
   have hms31_0 := NB400_383.out
   have hs32 : w27.cell? ⟨gb400, 3, none⟩ = some (.string (⟨#[]⟩ : ByteArray)) := bc BK400
   have hfs32 := blk_frozen BK400.out 3
   have hns32_0 := NB383_400.out
   have hms32_0 := NB400_383.out
   refine skip_ (w1 := ?_) (by rfl) rfl ?_ ?_
   rotate_left
   ·go_simp
    rfl
   refine hK.out _ _ (((cell_far (p := ⟨gb400, _, none⟩) (by first | exact Kd.own_blk (Kd.R_ne HO391.out BK400.out (by decide)) | (rw [add_block]; exact Kd.own_blk (Kd.R_ne HO391.out BK400.out (by decide))) | (show (Addr.add _ _).block ≠ _; rw [add_block]; exact Kd.own_blk (Kd.R_ne HO391.out BK400.out (by decide))) | (dsimp only; exact Kd.own_blk (Kd.R_ne HO391.out BK400.out (by decide)))) _).trans (((cell_far (p := ⟨gb400, _, none⟩) (by first | exact Kd.own_blk (Kd.R_ne HO391.out BK400.out (by decide)) | (rw [add_block]; exact Kd.own_blk (Kd.R_ne HO391.out BK400.out (by decide))) | (show (Addr.add _ _).block ≠ _; rw [add_block]; exact Kd.own_blk (Kd.R_ne HO391.out BK400.out (by decide))) | (dsimp only; exact Kd.own_blk (Kd.R_ne HO391.out BK400.out (by decide)))) _).trans (((cell_far (p := ⟨gb400, _, none⟩) (by first | exact Kd.own_blk (Kd.R_ne HO391.out BK400.out (by decide)) | (rw [add_block]; exact Kd.own_blk (Kd.R_ne HO391.out BK400.out (by decide))) | (show (Addr.add _ _).block ≠ _; rw [add_block]; exact Kd.own_blk (Kd.R_ne HO391.out BK400.out (by decide))) | (dsimp only; exact Kd.own_blk (Kd.R_ne HO391.out BK400.out (by decide)))) _).trans (((cell_far (p := ⟨gb400, _, none⟩) (by first | exact Kd.own_blk (Kd.R_ne HO391.out BK400.out (by decide)) | (rw [add_block]; exact Kd.own_blk (Kd.R_ne HO391.out BK400.out (by decide))) | (show (Addr.add _ _).block ≠ _; rw [add_block]; exact Kd.own_blk (Kd.R_ne HO391.out BK400.out (by decide))) | (dsimp only; exact Kd.own_blk (Kd.R_ne HO391.out BK400.out (by decide)))) _).trans (hHeld))))))))) (fun hHeld => ?_)
   clear hK K
   refine done_ (done_of HT_.out (by kernel_rfl)) ?_
   try go_wp2_with (first | (refine gl 41 Tryz.func77 #[] ?_; (with_reducible refine (spec_l3Methods.calls  t401 _ A18.out).mono ?_); rintro e w33 ⟨v402, rfl, ho0, hb⟩; refine ⟨_, rfl, ?_⟩; have n0_ := am (Kd.R_elder' (by (with_reducible repeat (first | apply Kd.R_alloc | apply Kd.R_drewN | apply Kd.R_drew)); exact (Kd.R_mono (Kd.R_far (p := ⟨gb400, 3, none⟩) (Kd.R_far (p := ⟨gb400, 2, none⟩) (Kd.R_far (p := ⟨gb400, 1, none⟩) (Kd.R_far (p := ⟨gb400, 0, none⟩) (Kd.R_types HO_4.out BK400.out (by decide)) (fun _ hk => hk.2) (.int .i64 0)) (fun _ hk => hk.2) (.string (rdOf ByteArray.empty t389 1))) (fun _ hk => hk.2) (.slice Ao28 t397.length co28)) (fun _ hk => hk.2) (.string (a0.extract (t385 : Int).toNat a0.size))) (fun _ h_ => h_.1))) (Kd.R_base ho0) hb); have n1_ := am (Kd.R_elder' (by (with_reducible repeat (first | apply Kd.R_alloc | apply Kd.R_drewN | apply Kd.R_drew)); exact (Kd.R_mono (Kd.R_far (p := ⟨gb400, 3, none⟩) (Kd.R_far (p := ⟨gb400, 2, none⟩) (Kd.R_far (p := ⟨gb400, 1, none⟩) (Kd.R_far (p := ⟨gb400, 0, none⟩) (Kd.R_types HO391.out BK400.out (by decide)) (fun _ hk => hk.2) (.int .i64 0)) (fun _ hk => hk.2) (.string (rdOf ByteArray.empty t389 1))) (fun _ hk => hk.2) (.slice Ao28 t397.length co28)) (fun _ hk => hk.2) (.string (a0.extract (t385 : Int).toNat a0.size))) (fun _ h_ => h_.1))) (Kd.R_base ho0) hb); have n2_ := am (Kd.R_below (by (with_reducible repeat (first | apply Kd.R_alloc | apply Kd.R_drewN | apply Kd.R_drew)); exact (Kd.R_mono (Kd.R_far (p := ⟨gb400, 3, none⟩) (Kd.R_far (p := ⟨gb400, 2, none⟩) (Kd.R_far (p := ⟨gb400, 1, none⟩) (Kd.R_far (p := ⟨gb400, 0, none⟩) (Kd.R_types HO399.out BK400.out (by decide)) (fun _ hk => hk.2) (.int .i64 0)) (fun _ hk => hk.2) (.string (rdOf ByteArray.empty t389 1))) (fun _ hk => hk.2) (.slice Ao28 t397.length co28)) (fun _ hk => hk.2) (.string (a0.extract (t385 : Int).toNat a0.size))) (fun _ h_ => h_.1))) hb); have n3_ := am (Kd.R_lower (Kd.R_new' (Kd.R_new' ho0 (Kd.R_lt (by (with_reducible repeat (first | apply Kd.R_alloc | apply Kd.R_drewN | apply Kd.R_drew)); exact (Kd.R_mono (Kd.R_far (p := ⟨gb400, 3, none⟩) (Kd.R_far (p := ⟨gb400, 2, none⟩) (Kd.R_far (p := ⟨gb400, 1, none⟩) (Kd.R_far (p := ⟨gb400, 0, none⟩) (Kd.R_types HO_4.out BK400.out (by decide)) (fun _ hk => hk.2) (.int .i64 0)) (fun _ hk => hk.2) (.string (rdOf ByteArray.empty t389 1))) (fun _ hk => hk.2) (.slice Ao28 t397.length co28)) (fun _ hk => hk.2) (.string (a0.extract (t385 : Int).toNat a0.size))) (fun _ h_ => h_.1))))) (Kd.R_lt (by (with_reducible repeat (first | apply Kd.R_alloc | apply Kd.R_drewN | apply Kd.R_drew)); exact (Kd.R_mono (Kd.R_far (p := ⟨gb400, 3, none⟩) (Kd.R_far (p := ⟨gb400, 2, none⟩) (Kd.R_far (p := ⟨gb400, 1, none⟩) (Kd.R_far (p := ⟨gb400, 0, none⟩) (Kd.R_types HO391.out BK400.out (by decide)) (fun _ hk => hk.2) (.int .i64 0)) (fun _ hk => hk.2) (.string (rdOf ByteArray.empty t389 1))) (fun _ hk => hk.2) (.slice Ao28 t397.length co28)) (fun _ hk => hk.2) (.string (a0.extract (t385 : Int).toNat a0.size))) (fun _ h_ => h_.1))))) (below_size bl)); have n4_ := kg1 BK383 NB383_400 hb; have n5_ := am (blk_below (g := gb400) (o := .cells #[.int .i64 0, .string (rdOf ByteArray.empty t389 1), .slice Ao28 t397.length co28, .string (a0.extract (t385 : Int).toNat a0.size)] 40 (0, 0)) (pt0 BK400) hb); have n6_ := am (below_step bl hb); clear HO_4; clear HO391; clear HO399; clear BK383; clear BK400; clear HB; have HO_4 := n0_; have HO391 := n1_; have HO399 := n2_; have HO403 := n3_; have BK383 := n4_; have BK400 := n5_; have HB := n6_; clear n0_ n1_ n2_ n3_ n4_ n5_ n6_; clear hb ho0))
   (try simp only [Act.put, List.setIfInBounds_toArray, List.set_cons_zero, List.set_cons_succ])
   go_loopg [9] kj2 (fun kq v9 w' => ∃ (x9_2 : Int) (x401000_2 : Int), v9 = .int .i64 x9_2 ∧ Aside0 (spec_ReqRead.l0 kq a0 t389 t401 x9_2 x401000_2 (rdOf ByteArray.empty t389 1) t397 (a0.extract (t385 : Int).toNat a0.size) = some (r1, r2, r3, r4, r5)) ∧ Aside0 (kq ≤ kj2) ∧ Aside0 (Kd.R Kd.string 9 w' w.heap.size (fun k_ => some k_ ≠ (v402 : Value).ownBlock) (.slice (some ad392) t389.length co21) t389) ∧ Aside0 (Kd.R Kd.string 9 w' w.heap.size (fun k_ => some k_ ≠ ((.slice (some ad392) t389.length co21) : Value).ownBlock) v402 t401) ∧ Aside0 (Kd.R k100 100 w' w.heap.size (fun _ => True) (.slice Ao28 t397.length co28) t397) ∧ Aside0 (w'.heap[gb383]? = some (.cells #[.int .i64 0, .string (⟨#[]⟩ : ByteArray), (.slice none 0 0), .string (⟨#[]⟩ : ByteArray)] 40 (0, 0))) ∧ Aside0 (w'.heap[gb400]? = some (.cells #[.int .i64 x401000_2, .string (rdOf ByteArray.empty t389 1), (.slice Ao28 t397.length co28), .string (a0.extract (t385 : Int).toNat a0.size)] 40 (0, 0))) ∧ Aside0 (Below w.heap.size w w'))
   case atStart => exact ⟨(1), (0), rs, H', ⟨Nat.le_refl _⟩, ⟨by (with_reducible repeat (first | apply Kd.R_alloc | apply Kd.R_drewN | apply Kd.R_drew)); exact Kd.R_mono HO391.out (fun _ hk => hk.2)⟩, ⟨by (with_reducible repeat (first | apply Kd.R_alloc | apply Kd.R_drewN | apply Kd.R_drew)); exact Kd.R_mono HO403.out (fun _ hk => hk.2)⟩, ⟨by (with_reducible repeat (first | apply Kd.R_alloc | apply Kd.R_drewN | apply Kd.R_drew)); exact HO399.out⟩, ⟨by (with_reducible repeat (first | refine blk_drewN ?_ _ | refine blk_drew ?_ | refine blk_alloc ?_ _)); exact BK383.out⟩, ⟨by (with_reducible repeat (first | refine blk_drewN ?_ _ | refine blk_drew ?_ | refine blk_alloc ?_ _)); exact BK400.out⟩, ⟨u26HB⟩⟩
   case round =>
    clear H'
    try clear c1
    try clear c2
    try clear p2
    try clear q2
    try clear p3
    try clear q3
    try clear hx3
    try clear qi3
    try clear c6
    try clear c6b0
    try clear c7
    try clear c8
    try clear c10
    try clear c10b0
    try clear c10b1
    try clear c12
    try clear c12b0
    try clear c12b1
    try clear c13
    try clear c13b0
    try clear c13b1
    try clear c14
    try clear c14b0
    try clear c14b1
    try clear c16
    try clear c16b0
    try clear c16b1
    try clear c17
    try clear c17b0
    try clear c17b1
    try clear c23
    try clear q23
    try clear c26
    try clear z9_0
    try clear z9_1
    try clear z9_2
    try clear z9_3
    try clear y9_0
    try clear y9_1
    try clear y9_2
    try clear y9_3
    try clear hx388_0
    try clear hx392_0
    try clear p2
    try clear p388
    try clear p392
    try clear q23
    try clear q388
    try clear q392
    obtain ⟨x9_2, x401000_2, rfl, HA, HK2, HO_6, HO_8, HO_401002, BK383, BK400, HB⟩ := hrel
    cases gk with
    | zero => exact absurd HA.out (by simp [spec_ReqRead.l0])
    | succ k2 =>
     have H := HA.out
     clear HA
     simp only [spec_ReqRead.l0] at H
     by_cases c34 : x9_2 < (t401.length : Int)
     rotate_left
     ·rw [if_neg c34] at H
      have c34b0 := decide_eq_false c34
      clear c34
      revert H
      refine ok1 fun t406 A44 H => ?_
      by_cases c45 : t406.toList = a0.toList
      rotate_left
      ·rw [if_neg c45] at H
       have c45b0 : (t406.toList == a0.toList) = false := beq_eq_false_iff_ne.mpr c45
       have c45b1 : (t406.toList != a0.toList) = true := bne_iff_ne.mpr c45
       simp only [Option.some.injEq, Prod.mk.injEq] at H
       obtain ⟨rfl, rfl, rfl, rfl, rfl⟩ := H
       obtain ⟨Ao52, co52, eo52⟩ := Kd.R_slice HO_8.out
       subst eo52
       have hnb53 := NB400_383.out
       have hnc53 := NB383_400.out
       obtain ⟨z54_0, y54_0, z54_1, y54_1, z54_2, y54_2, z54_3, y54_3⟩ := cl4 BK400
       go_wp2_with (first | (refine gl 59 Tryz.func21 #[.agg #[.int .i64 x401000_2, .string (rdOf ByteArray.empty t389 1), .slice Ao28 t397.length co28, .string (a0.extract (t385 : Int).toNat a0.size)]] ?_; (with_reducible refine (spec_ReqText.calls k2 x401000_2 (rdOf ByteArray.empty t389 1) _ _ t397 (a0.extract (t385 : Int).toNat a0.size) t406 _ ?side1 ?side2 A44.out).mono ?_); (case side1 => exact rc HO_401002); (case side2 => exact (Kd.R_reads' HO_401002.out).2.1); rintro e w55 ⟨rfl, hb⟩; refine ⟨_, rfl, ?_⟩; replace HO_6 := kr HO_6 hb; replace HO_8 := kr HO_8 hb; replace HO_401002 := kr HO_401002 hb; replace BK383 := kb BK383 hb; replace BK400 := kb BK400 hb; replace HB := am (below_step bl hb); clear hb; obtain ⟨z56_0, y56_0, z56_1, y56_1, z56_2, y56_2, z56_3, y56_3⟩ := cl4 BK383))
       refine bodyPost_ret (results_ct rfl _ _ gb383 40 #[.int .i64 0, .string (⟨#[]⟩ : ByteArray), .slice none 0 0, .string (⟨#[]⟩ : ByteArray)] (0, 0) _ rfl (pt0 BK383) Tryz.underlying40 rfl (by kernel_rfl)) rfl ?_
       exact ⟨_, rf, by first | exact Kd.R_nil _ _ _ _ _ | exact Kd.N_nil _ _ _ _ _ | exact Kd.V_nil _ _ _ _ _ | exact Kd.Q_nil _ _ _ _ _ | exact Kd.S_nil _ _ _ _ _, bl⟩
      rw [if_pos c45] at H
      have c45b0 : (t406.toList == a0.toList) = true := beq_iff_eq.mpr c45
      have c45b1 : (t406.toList != a0.toList) = false := bne_eq_false_iff_eq.mpr c45
      clear c45
      simp only [Option.some.injEq, Prod.mk.injEq] at H
      obtain ⟨rfl, rfl, rfl, rfl, rfl⟩ := H
      obtain ⟨Ao46, co46, eo46⟩ := Kd.R_slice HO_8.out
      subst eo46
      have hnb47 := NB400_383.out
      have hnc47 := NB383_400.out
      obtain ⟨z48_0, y48_0, z48_1, y48_1, z48_2, y48_2, z48_3, y48_3⟩ := cl4 BK400
      go_wp2_with (first | (refine gl 59 Tryz.func21 #[.agg #[.int .i64 x401000_2, .string (rdOf ByteArray.empty t389 1), .slice Ao28 t397.length co28, .string (a0.extract (t385 : Int).toNat a0.size)]] ?_; (with_reducible refine (spec_ReqText.calls k2 x401000_2 (rdOf ByteArray.empty t389 1) _ _ t397 (a0.extract (t385 : Int).toNat a0.size) t406 _ ?side1 ?side2 A44.out).mono ?_); (case side1 => exact rc HO_401002); (case side2 => exact (Kd.R_reads' HO_401002.out).2.1); rintro e w49 ⟨rfl, hb⟩; refine ⟨_, rfl, ?_⟩; replace HO_6 := kr HO_6 hb; replace HO_8 := kr HO_8 hb; replace HO_401002 := kr HO_401002 hb; replace BK383 := kb BK383 hb; replace BK400 := kb BK400 hb; replace HB := am (below_step bl hb); clear hb; obtain ⟨z50_0, y50_0, z50_1, y50_1, z50_2, y50_2, z50_3, y50_3⟩ := cl4 BK400; obtain ⟨z51_0, y51_0, z51_1, y51_1, z51_2, y51_2, z51_3, y51_3⟩ := cl4 BK383))
      refine bodyPost_ret (results_ct rfl _ _ gb383 40 #[.int .i64 x401000_2, .string (rdOf ByteArray.empty t389 1), .slice Ao28 t397.length co28, .string (a0.extract (t385 : Int).toNat a0.size)] (0, 0) _ rfl (pt0 BK383) Tryz.underlying40 rfl (by kernel_rfl)) rfl ?_
      exact ⟨_, rf, rg (Kd.R_types HO_401002.out BK383.out (by decide)), bl⟩
     rw [if_pos c34] at H
     have c34b0 := decide_eq_true c34
     clear c34
     revert H
     refine ifn fun c35 H => ?_
     have c35b0 := decide_eq_true c35
     clear c35
     revert H
     refine ifn fun c36 H => ?_
     have c36b0 := decide_eq_true c36
     have c36b1 : decide (0 < t389.length) = true := decide_eq_true (by omega)
     clear c36
     by_cases c37 : (rdOf ByteArray.empty t401 x9_2).toList = (rdOf ByteArray.empty t389 0).toList
     rotate_left
     ·rw [if_neg c37] at H
      have c37b0 : ((rdOf ByteArray.empty t401 x9_2).toList == (rdOf ByteArray.empty t389 0).toList) = false := beq_eq_false_iff_ne.mpr c37
      have c37b1 : ((rdOf ByteArray.empty t401 x9_2).toList != (rdOf ByteArray.empty t389 0).toList) = true := bne_iff_ne.mpr c37
      have H' := am H
      clear H
      obtain ⟨Ao42, co42, eo42⟩ := Kd.R_slice HO_8.out
      subst eo42
      try go_wp2
      replace HO_6 := am (Kd.R_drew HO_6.out)
      replace HO_8 := am (Kd.R_drew HO_8.out)
      replace HO_401002 := am (Kd.R_drew HO_401002.out)
      replace BK383 := am (blk_drew BK383.out)
      replace BK400 := am (blk_drew BK400.out)
      replace HB := am (below_drew1 HB.out)
      have p404 : 0 ≤ (x9_2 : Int) := od
      have q404 : x9_2 < (t401.length : Int) := od
      obtain ⟨ad404, e404, hx404_0⟩ := Kd.at_string (Kd.R_reads' HO_8.out).2.2 x9_2 p404 q404
      cases e404
      replace p404 := eq_true p404
      replace q404 := eq_true q404
      have p405 : 0 ≤ (0 : Int) := (by omega)
      have q405 : 0 < (t389.length : Int) := od
      obtain ⟨ad405, e405, hx405_0⟩ := Kd.at_string (Kd.R_reads' HO_6.out).2.2 0 p405 q405
      obtain rfl : ad392 = ad405 := (by injection e405)
      have qi405 : (0 < t389.length) = True := eq_true (by omega)
      (try rw [show ((0 : Int)).toNat = 0 from rfl] at hx405_0)
      (try rw [Addr.add_zero'] at hx405_0)
      replace p405 := eq_true p405
      replace q405 := eq_true q405
      refine start_ (n := 8) (S := fun w' => w'.cell? (ad404.add (x9_2).toNat) = some (.string (rdOf ByteArray.empty t401 x9_2)) ∧ w'.cell? ad392 = some (.string (rdOf ByteArray.empty t389 0))) (ds := []) ⟨br true [0, 8]⟩ (by kernel_rfl) rfl (by kernel_rfl) ⟨hx404_0, hx405_0⟩ (fun hHeld => ?_); refine with_tabW spec_ReqRead.tab12 spec_ReqRead.bits12 (fun HT_ HW_ => ?_)
      generalize wr.drew = w43 at HO_6 HO_8 HO_401002 BK383 BK400 HB hx404_0 hx405_0 hHeld ⊢
      refine pu 0 48 [1, 7] ?_
      refine pu 1 49 [2, 6] ?_
      refine pu 2 50 [3, 5] ?_
      refine pu 4 52 [3, 1, 1, 3] ?_
      refine pu 5 53 [3, 1, 2, 2] ?_
      refine tk 3 51 [6, 2] ?_
      refine tk 6 54 [7, 1] ?_
      refine pu 7 55 [8] ?_
      refine done_ (done_of HT_.out (by kernel_rfl)) ?_
      try go_wp2
      go_roundg k2
      case measure => have := HJ2.out; have := HK2.out; omega
      case rel => exact ⟨(wrap64 (x9_2 + 1)), (x401000_2), rs, H', ⟨by have := HJ2.out; have := HK2.out; omega⟩, ⟨by (with_reducible repeat (first | apply Kd.R_alloc | apply Kd.R_drewN | apply Kd.R_drew)); exact HO_6.out⟩, ⟨by (with_reducible repeat (first | apply Kd.R_alloc | apply Kd.R_drewN | apply Kd.R_drew)); exact HO_8.out⟩, ⟨by (with_reducible repeat (first | apply Kd.R_alloc | apply Kd.R_drewN | apply Kd.R_drew)); exact HO_401002.out⟩, ⟨by (with_reducible repeat (first | refine blk_drewN ?_ _ | refine blk_drew ?_ | refine blk_alloc ?_ _)); exact BK383.out⟩, ⟨by (with_reducible repeat (first | refine blk_drewN ?_ _ | refine blk_drew ?_ | refine blk_alloc ?_ _)); exact BK400.out⟩, ⟨u26HB⟩⟩
     rw [if_pos c37] at H
     have c37b0 : ((rdOf ByteArray.empty t401 x9_2).toList == (rdOf ByteArray.empty t389 0).toList) = true := beq_iff_eq.mpr c37
     have c37b1 : ((rdOf ByteArray.empty t401 x9_2).toList != (rdOf ByteArray.empty t389 0).toList) = false := bne_eq_false_iff_eq.mpr c37
     clear c37
     have H' := am H
     clear H
     obtain ⟨Ao38, co38, eo38⟩ := Kd.R_slice HO_8.out
     subst eo38
     try go_wp2
     replace HO_6 := am (Kd.R_drew HO_6.out)
     replace HO_8 := am (Kd.R_drew HO_8.out)
     replace HO_401002 := am (Kd.R_drew HO_401002.out)
     replace BK383 := am (blk_drew BK383.out)
     replace BK400 := am (blk_drew BK400.out)
     replace HB := am (below_drew1 HB.out)
     have p404 : 0 ≤ (x9_2 : Int) := od
     have q404 : x9_2 < (t401.length : Int) := od
     obtain ⟨ad404, e404, hx404_0⟩ := Kd.at_string (Kd.R_reads' HO_8.out).2.2 x9_2 p404 q404
     cases e404
     replace p404 := eq_true p404
     replace q404 := eq_true q404
     have p405 : 0 ≤ (0 : Int) := (by omega)
     have q405 : 0 < (t389.length : Int) := od
     obtain ⟨ad405, e405, hx405_0⟩ := Kd.at_string (Kd.R_reads' HO_6.out).2.2 0 p405 q405
     obtain rfl : ad392 = ad405 := (by injection e405)
     have qi405 : (0 < t389.length) = True := eq_true (by omega)
     (try rw [show ((0 : Int)).toNat = 0 from rfl] at hx405_0)
     (try rw [Addr.add_zero'] at hx405_0)
     replace p405 := eq_true p405
     replace q405 := eq_true q405
     refine start_ (n := 8) (S := fun w' => w'.cell? (ad404.add (x9_2).toNat) = some (.string (rdOf ByteArray.empty t401 x9_2)) ∧ w'.cell? ad392 = some (.string (rdOf ByteArray.empty t389 0))) (ds := []) ⟨br true [0, 8]⟩ (by kernel_rfl) rfl (by kernel_rfl) ⟨hx404_0, hx405_0⟩ (fun hHeld => ?_); refine with_tabW spec_ReqRead.tab12 spec_ReqRead.bits12 (fun HT_ HW_ => ?_)
     generalize wr.drew = w39 at HO_6 HO_8 HO_401002 BK383 BK400 HB hx404_0 hx405_0 hHeld ⊢
     refine pu 0 48 [1, 7] ?_
     refine pu 1 49 [2, 6] ?_
     refine pu 2 50 [3, 5] ?_
     refine pu 4 52 [3, 1, 1, 3] ?_
     refine pu 5 53 [3, 1, 2, 2] ?_
     refine tk 3 51 [6, 2] ?_
     refine tk 6 54 [7, 1] ?_
     refine pu 7 55 [8] ?_
     refine done_ (done_of HT_.out (by kernel_rfl)) ?_
     have hnb40 := NB400_383.out
     have hnc40 := NB383_400.out
     obtain ⟨z41_0, y41_0, z41_1, y41_1, z41_2, y41_2, z41_3, y41_3⟩ := cl4 BK400
     try go_wp2
     go_roundg k2
     case measure => have := HJ2.out; have := HK2.out; omega
     case rel => exact ⟨(wrap64 (x9_2 + 1)), (x9_2), rs, H', ⟨by have := HJ2.out; have := HK2.out; omega⟩, ⟨rg (Kd.R_types HO_6.out BK400.out (by decide))⟩, ⟨rg (Kd.R_types HO_8.out BK400.out (by decide))⟩, ⟨rg (Kd.R_types HO_401002.out BK400.out (by decide))⟩, ⟨by (with_reducible repeat (first | refine blk_drewN ?_ _ | refine blk_drew ?_ | refine blk_alloc ?_ _)); refine blk_far ?_ NB383_400.out _; (with_reducible repeat (first | refine blk_drewN ?_ _ | refine blk_drew ?_ | refine blk_alloc ?_ _)); exact BK383.out⟩, ⟨pt0 BK400⟩, ⟨u26HB⟩⟩

end Go.Proofs.YtnmanegjgidgcaaGreatDoor.All
