-- Written by a program of this session (wip/tools/hprint.py) out of the translation. Lean checks it.
import Derived.Test.YtjckfmipegemcaaGreatDoorKPiecesAllx0
import Derived.Test.YtjckfmipegemcaaGreatDoorKPiecesAllx1
namespace Go.Proofs.YtjckfmipegemcaaGreatDoor.All
open Go.RowKit Go.Proofs.YtjckfmipegemcaaGreatDoorW.PrintWords Go.Proofs.YtjckfmipegemcaaGreatDoorW.PrintLast Go.Proofs.YtjckfmipegemcaaGreatDoorW.PrintMore
attribute [local go_sem] max2_int min2_int max_two min_two max_three min_three max_four min_four  -- for this text's walks alone
set_option linter.unusedVariables false
set_option linter.unusedSimpArgs false

/-! ### NumRead: strconv.Atoi there, strconv.Itoa back -/
def numRead (s : ByteArray) : Int × Bool :=
 if 7 < s.size then (0, false)
 else match Lib.atoiAll s.data.toList with
  | .ok n => if 0 ≤ n ∧ n ≤ 1000000 ∧ Lib.itoa n = s.data.toList then (n, true) else (0, false)
  | _ => (0, false)
def impl_NumRead.f (a0 : ByteArray) : Option (Int × Bool) := some (numRead a0)
set_option maxHeartbeats 4000000 in
theorem impl_NumRead.calls (a0 : ByteArray) (r1 : Int) (r2 : Bool) (w : World) (hGE : GLOBE w) (hGT : GLOBT w) (h : impl_NumRead.f a0 = some (r1, r2)) :
  Calls Tryz.prog 81 #[.string a0] w fun e w' => e = .returned (.tuple #[.int .i64 r1, .bool r2]) ∧ Below w.heap.size w w' := by
 obtain rfl : (numRead a0).1 = r1 := by rw [Option.some.inj h]
 obtain rfl : (numRead a0).2 = r2 := by rw [Option.some.inj h]
 clear h
 have HGE := am hGE
 have HGT := am hGT
 clear hGE hGT
 have HB := am (Below.refl w.heap.size w)
 by_cases c : 7 < a0.size
 ·have c0 : decide ((a0.size : Int) > 7) = true := decide_eq_true (by omega)
  go_enter Tryz.func81, Tryz.ntmps81
  go_wp2
  go_ret2
  exact ⟨by unfold numRead; rw [if_pos c]; rfl, HB.out⟩
 have c0 : decide ((a0.size : Int) > 7) = false := decide_eq_false (by omega)
 have hmax : a0.size ≤ 9223372036854775806 := by omega
 have hlim : a0.size ≤ 281474976710656 := by omega
 cases hA : Lib.atoiAll a0.data.toList with
 | ok n =>
  have HA := am hA
  clear hA
  go_enter Tryz.func81, Tryz.ntmps81
  by_cases c1 : 0 ≤ n ∧ n ≤ 1000000
  rotate_left
  ·have c1' : impl_inRange.f n 0 1000000 = some false := by
    unfold impl_inRange.f
    by_cases h : n ≥ 0
    ·rw [if_pos h, decide_eq_false (fun e => c1 ⟨h, e⟩)]
    ·rw [if_neg h]
   go_wp2_with (first | (go_at_call 98; refine (Tryz.strconv_Atoi_ok a0 hmax n HA.out _).mono ?_; rintro e w1 ⟨rfl, hb⟩; have HB1 : Aside0 (Below w.heap.size w w1) := ⟨by rcases hb with rfl | ⟨t, rfl⟩ <;> first | exact Below.refl _ _ | exact Lib.bytesWorld_below _ _ _⟩; clear hb) | (go_at_call 68; refine (impl_inRange.calls n 0 1000000 false _ c1').mono ?_; rintro e w2 ⟨rfl, ⟨nd, rfl⟩⟩))
   go_ret2
   exact ⟨by unfold numRead; rw [if_neg c, HA.out]; simp only; rw [if_neg (fun e => c1 ⟨e.1, e.2.1⟩)]; rfl, by repeat (first | (with_reducible first | exact HB1.out | apply below_alloc | apply pw_below_drewN | apply below_drew1) | exact HB1.out)⟩
  by_cases c2 : Lib.itoa n = a0.data.toList
  ·have e2 : (Lib.itoa n == a0.toList) = true := by rw [ByteArray.toList_eq, c2]; simp
   have e3 : (!(Lib.itoa n == a0.toList)) = false := by rw [e2]; rfl
   go_wp2_with (first | (go_at_call 98; refine (Tryz.strconv_Atoi_ok a0 hmax n HA.out _).mono ?_; rintro e w1 ⟨rfl, hb⟩; have HB1 : Aside0 (Below w.heap.size w w1) := ⟨by rcases hb with rfl | ⟨t, rfl⟩ <;> first | exact Below.refl _ _ | exact Lib.bytesWorld_below _ _ _⟩; clear hb) | (go_at_call 68; refine (impl_inRange.calls n 0 1000000 true _ (by unfold impl_inRange.f; rw [if_pos c1.1, decide_eq_true c1.2])).mono ?_; rintro e w2 ⟨rfl, ⟨nd, rfl⟩⟩) | (go_at_call 73; refine (strconv_Itoa.calls n ⟨(Lib.itoa n).toArray⟩ _ ?hg (by unfold strconv_Itoa.f; rw [if_pos (by omega)])).mono ?_; (case hg => exact GLOBT.below HGT.out (pw_below_drewN HB1.out _)); rintro e w3 ⟨rfl, hb3⟩; have HB3 := am (below_step (pw_below_drewN HB1.out _) hb3); clear hb3))
   go_ret2
   exact ⟨by unfold numRead; rw [if_neg c, HA.out]; simp only; rw [if_pos ⟨c1.1, c1.2, c2⟩]; rfl, by repeat (first | (with_reducible first | exact HB3.out | apply below_alloc | apply pw_below_drewN | apply below_drew1) | exact HB3.out)⟩
  have e2 : (Lib.itoa n == a0.toList) = false := by rw [ByteArray.toList_eq, beq_eq_false_iff_ne]; exact c2
  have e3 : (!(Lib.itoa n == a0.toList)) = true := by rw [e2]; rfl
  go_wp2_with (first | (go_at_call 98; refine (Tryz.strconv_Atoi_ok a0 hmax n HA.out _).mono ?_; rintro e w1 ⟨rfl, hb⟩; have HB1 : Aside0 (Below w.heap.size w w1) := ⟨by rcases hb with rfl | ⟨t, rfl⟩ <;> first | exact Below.refl _ _ | exact Lib.bytesWorld_below _ _ _⟩; clear hb) | (go_at_call 68; refine (impl_inRange.calls n 0 1000000 true _ (by unfold impl_inRange.f; rw [if_pos c1.1, decide_eq_true c1.2])).mono ?_; rintro e w2 ⟨rfl, ⟨nd, rfl⟩⟩) | (go_at_call 73; refine (strconv_Itoa.calls n ⟨(Lib.itoa n).toArray⟩ _ ?hg (by unfold strconv_Itoa.f; rw [if_pos (by omega)])).mono ?_; (case hg => exact GLOBT.below HGT.out (pw_below_drewN HB1.out _)); rintro e w3 ⟨rfl, hb3⟩; have HB3 := am (below_step (pw_below_drewN HB1.out _) hb3); clear hb3))
  go_ret2
  exact ⟨by unfold numRead; rw [if_neg c, HA.out]; simp only; rw [if_neg (fun e => c2 e.2.2)]; rfl, by repeat (first | (with_reducible first | exact HB3.out | apply below_alloc | apply pw_below_drewN | apply below_drew1) | exact HB3.out)⟩
 | range =>
  have HA := am hA
  clear hA
  obtain ⟨_, ⟨tp, pv, hv⟩⟩ := HGE.out
  go_enter Tryz.func81, Tryz.ntmps81
  go_wp2_with (first | (go_at_call 98; refine (Tryz.strconv_Atoi_range_var a0 hlim HA.out tp pv _ hv).mono ?_; rintro e w1 ⟨N, rfl, _, _, hb⟩; have HB1 := am hb; clear hb))
  go_ret2
  exact ⟨by unfold numRead; rw [if_neg c, HA.out]; rfl, by repeat (first | (with_reducible first | exact HB1.out | apply below_alloc | apply pw_below_drewN | apply below_drew1) | exact HB1.out)⟩
 | _ =>
  have HA := am hA
  clear hA
  obtain ⟨⟨tp, pv, hv⟩, _⟩ := HGE.out
  go_enter Tryz.func81, Tryz.ntmps81
  go_wp2_with (first | (go_at_call 98; refine (Tryz.strconv_Atoi_syntax_var a0 hlim HA.out tp pv _ hv).mono ?_; rintro e w1 ⟨N, rfl, _, _, hb⟩; have HB1 := am hb; clear hb))
  go_ret2
  exact ⟨by unfold numRead; rw [if_neg c, HA.out]; rfl, by repeat (first | (with_reducible first | exact HB1.out | apply below_alloc | apply pw_below_drewN | apply below_drew1) | exact HB1.out)⟩

/-! ### impl_lengthOf: function 61 -/
theorem u61HB {p : Prop} (h : p := by repeat (first | (with_reducible first | exact HB.out | apply below_alloc | apply pw_below_drewN | apply below_drew1) | exact HB.out)) : p := h
def impl_lengthOf.l0 : Nat → List ByteArray → Int → Int → Option (Int)
 | 0, _, _, _ => none
 | k + 1, x11, x12, x13 => if x13 < x12 then (if 0 ≤ x13 then (if x13 < (x11.length : Int) then ((strings_CutPrefix.f (rdOf ByteArray.empty x11 x13) (⟨#[99, 111, 110, 116, 101, 110, 116, 45, 108, 101, 110, 103, 116, 104, 58, 32]⟩ : ByteArray)).bind fun bt290 => (if bt290.2 = true then ((impl_NumRead.f bt290.1).bind fun bt292 => (if bt292.2 = true then (some bt292.1) else (impl_lengthOf.l0 k x11 x12 (wrap64 (x13 + 1))))) else (impl_lengthOf.l0 k x11 x12 (wrap64 (x13 + 1))))) else (none)) else (none)) else (some 0)
def impl_lengthOf.f (k : Nat) (a0 : ByteArray) : Option (Int) := (strings_Split.f a0 (⟨#[13, 10]⟩ : ByteArray)).bind fun t282 => (if 1 ≤ (t282.length : Int) then ((some (t282.drop 1 : List ByteArray)).bind fun y285 => (impl_lengthOf.l0 k y285 (y285.length : Int) 0)) else (none))
set_option maxHeartbeats 8000000 in
set_option maxRecDepth 100000 in
theorem impl_lengthOf.calls (k : Nat) (a0 : ByteArray) (r : Int) (w : World) (hGE : GLOBE w) (hGM : GLOBM w) (hGT : GLOBT w) (h : impl_lengthOf.f k a0 = some r) :
  Calls Tryz.prog 61 #[.string a0] w fun e w' => e = .returned (.int .i64 r) ∧ Below w.heap.size w w' := by
 have HGE := am hGE
 clear hGE
 have HGM := am hGM
 clear hGM
 have HGT := am hGT
 clear hGT
 have HB := am (Below.refl w.heap.size w)
 unfold impl_lengthOf.f at h
 have H := h
 clear h
 revert H
 refine ok1 fun t282 A2 H => ?_
 revert H
 refine ifn fun c3 H => ?_
 have c3b0 := eq_true c3
 have c3b1 := decide_eq_true c3
 clear c3
 obtain ⟨y285, hy285⟩ : ∃ y_ : List ByteArray, y_ = (t282.drop 1) := ⟨_, rfl⟩
 replace H : (impl_lengthOf.l0 k y285 (y285.length : Int) 0) = some r := by first | (rw [hy285]; with_reducible exact H) | (have H2_ := (Option.bind_some _ _).symm.trans H; rw [hy285]; with_reducible exact H2_) | (have H2_ := (Option.bind_some _ _).symm.trans H; with_reducible exact H2_) | with_reducible exact H | (rw [hy285]; exact H) | exact H
 have Ny285 := am hy285
 clear hy285
 have H' := am H
 clear H
 go_enter Tryz.func61, Tryz.ntmps61
 go_wp2_with ((with_reducible refine gw ?_); first | (refine gl 10 Tryz.func79 #[.string a0, .string (⟨#[13, 10]⟩ : ByteArray)] ?_; (with_reducible refine (strings_Split.calls a0 (⟨#[13, 10]⟩ : ByteArray) t282 _ ?side1 A2.out).mono ?_); (case side1 => exact GLOBM.below HGM.out bl); rintro e w4 ⟨v283, rfl, ho0, hb⟩; refine ⟨_, rfl, ?_⟩; have HO284 := am (Kd.R_lower ho0 (below_size bl)); replace HB := am (below_step bl hb); clear hb ho0; obtain ⟨Ao6, co6, eo6⟩ := Kd.R_slice HO284.out; subst eo6; have q5 : (1 : Int) ≤ ((t282.length : Int) : Int) := od; obtain ⟨i05, hi05, _, hsz5, _⟩ := info_parts info9; have hroom5 : t282.length ≤ co6 := (Kd.R_reads' HO284.out).2.1; have hC5 : Kd.C Kd.string _ Ao6 t282.length t282 := (Kd.R_reads' HO284.out).2.2; have hcut5 := cut_from (P := Tryz.prog) 35 9 .i64 Tryz.underlying35 hi05 1 hsz5 Ao6 t282.length co6 1 (by omega) q5; have hr5 := Kd.C_drop (m := (1 : Int).toNat) (c := co6) hC5 (by omega) hroom5; obtain ⟨A5, hA5⟩ : ∃ A1, A1 = (if co6 = (1 : Int).toNat then Ao6 else (Ao6 : Option Addr).map (·.add ((1 : Int).toNat * 1))) := ⟨_, rfl⟩; obtain ⟨c5, hc5⟩ : ∃ c1, c1 = co6 - (1 : Int).toNat := ⟨_, rfl⟩; have hy5 : y285.length = t282.length - (1 : Int).toNat := (by rw [Ny285.out, List.length_drop] <;> omega); rw [show (t282).drop (1 : Int).toNat = y285 from Ny285.out.symm] at hr5; replace hr5 : Kd.C Kd.string _ A5 y285.length y285 := (by rw [hA5]; exact hr5); rw [← hy5, ← hA5, ← hc5] at hcut5; have HR288 := am hr5; have HC288 := am (show y285.length ≤ c5 from by rw [hy5, hc5]; exact Nat.sub_le_sub_right hroom5 _); clear hr5 hC5 hroom5 hi05 hsz5 hc5; have KY5 := am hy5; have KA5 := am hA5; clear hy5 hA5; have KL5 := am (show 1 ≤ t282.length from by omega); replace q5 := eq_true q5))
 (try simp only [Act.put, List.setIfInBounds_toArray, List.set_cons_zero, List.set_cons_succ])
 go_loopg [13] k (fun kq v13 w' => ∃ (x13_1 : Int), v13 = .int .i64 x13_1 ∧ Aside0 (impl_lengthOf.l0 kq y285 (y285.length : Int) x13_1 = some r) ∧ Aside0 (kq ≤ k) ∧ Aside0 (Kd.C Kd.string w' A5 y285.length y285) ∧ Aside0 (Below w.heap.size w w'))
 case atStart => exact ⟨(0), rs, H', ⟨Nat.le_refl _⟩, ⟨by repeat (first | (with_reducible exact HR288.out) | (with_reducible refine Kd.C_alloc ?_ _) | (with_reducible refine Kd.C_drewN ?_ _) | (with_reducible refine Kd.C_drew ?_) | exact HR288.out)⟩, ⟨u61HB⟩⟩
 case round =>
  clear H'
  try clear c1
  try clear p2
  try clear c3
  try clear c3b0
  try clear c3b1
  try clear c5
  try clear q5
  try clear c6
  try clear q5
  obtain ⟨x13_1, rfl, HA, HK1, HR288, HB⟩ := hrel
  cases gk with
  | zero => exact absurd HA.out (by simp [impl_lengthOf.l0])
  | succ k1 =>
   have H := HA.out
   clear HA
   simp only [impl_lengthOf.l0] at H
   by_cases c7 : x13_1 < (y285.length : Int)
   rotate_left
   ·rw [if_neg c7] at H
    have c7b0 := decide_eq_false c7
    clear c7
    obtain rfl := Option.some.inj H
    go_wp2
    go_ret
    exact ⟨rf, bl⟩
   rw [if_pos c7] at H
   have c7b0 := decide_eq_true c7
   clear c7
   revert H
   refine ifn fun c8 H => ?_
   have c8b0 := decide_eq_true c8
   clear c8
   revert H
   refine ifn fun c9 H => ?_
   have c9b0 := decide_eq_true c9
   clear c9
   revert H
   refine ok2 fun t290 t291 A10 H => ?_
   (try dsimp only at H)
   have HH11 := am H
   clear H
   have p289 : 0 ≤ (x13_1 : Int) := od
   have q289 : x13_1 < (y285.length : Int) := od
   obtain ⟨ad289, e289, hx289_0⟩ := Kd.at_string HR288.out x13_1 p289 q289
   cases e289
   replace p289 := eq_true p289
   replace q289 := eq_true q289
   go_upto_if 23 with ((with_reducible refine gw ?_); first | (refine gl 19 Tryz.func80 #[.string (rdOf ByteArray.empty y285 x13_1), .string (⟨#[99, 111, 110, 116, 101, 110, 116, 45, 108, 101, 110, 103, 116, 104, 58, 32]⟩ : ByteArray)] ?_; (with_reducible refine (strings_CutPrefix.calls (rdOf ByteArray.empty y285 x13_1) (⟨#[99, 111, 110, 116, 101, 110, 116, 45, 108, 101, 110, 103, 116, 104, 58, 32]⟩ : ByteArray) t290 t291 _ A10.out).mono ?_); rintro e w' ⟨rfl, ⟨nd, rfl⟩⟩; refine ⟨_, rfl, ?_⟩))
   have H := HH11.out
   clear HH11
   by_cases c12 : t291 = true
   rotate_left
   ·replace c12 := Bool.eq_false_iff.mpr c12
    subst c12
    rw [if_neg (show ¬ (false = true) by decide)] at H
    have H' := am H
    clear H
    go_wp2
    go_roundg k1
    case measure => have := HK1.out; omega
    case rel => exact ⟨(wrap64 (x13_1 + 1)), rs, H', ⟨by have := HK1.out; omega⟩, ⟨by repeat (first | (with_reducible exact HR288.out) | (with_reducible refine Kd.C_alloc ?_ _) | (with_reducible refine Kd.C_drewN ?_ _) | (with_reducible refine Kd.C_drew ?_) | exact HR288.out)⟩, ⟨u61HB⟩⟩
   subst c12
   rw [if_pos rfl] at H
   revert H
   refine ok2 fun t292 t293 A13 H => ?_
   (try dsimp only at H)
   by_cases c14 : t293 = true
   ·subst c14
    rw [if_pos rfl] at H
    obtain rfl := Option.some.inj H
    go_wp2_with ((with_reducible refine gw ?_); first | (refine gl 26 Tryz.func81 #[.string t290] ?_; (with_reducible refine (impl_NumRead.calls t290 t292 true _ ?side1 ?side2 A13.out).mono ?_); (case side1 => exact GLOBE.below HGE.out bl); (case side2 => exact GLOBT.below HGT.out bl); rintro e w15 ⟨rfl, hb⟩; refine ⟨_, rfl, ?_⟩; replace HR288 := am (Kd.C_below (by repeat (first | (with_reducible exact HR288.out) | (with_reducible refine Kd.C_alloc ?_ _) | (with_reducible refine Kd.C_drewN ?_ _) | (with_reducible refine Kd.C_drew ?_) | exact HR288.out)) hb); replace HB := am (below_step bl hb); clear hb))
    go_ret
    exact ⟨rf, bl⟩
   replace c14 := Bool.eq_false_iff.mpr c14
   subst c14
   rw [if_neg (show ¬ (false = true) by decide)] at H
   have H' := am H
   clear H
   go_wp2_with ((with_reducible refine gw ?_); first | (refine gl 26 Tryz.func81 #[.string t290] ?_; (with_reducible refine (impl_NumRead.calls t290 t292 false _ ?side1 ?side2 A13.out).mono ?_); (case side1 => exact GLOBE.below HGE.out bl); (case side2 => exact GLOBT.below HGT.out bl); rintro e w16 ⟨rfl, hb⟩; refine ⟨_, rfl, ?_⟩; replace HR288 := am (Kd.C_below (by repeat (first | (with_reducible exact HR288.out) | (with_reducible refine Kd.C_alloc ?_ _) | (with_reducible refine Kd.C_drewN ?_ _) | (with_reducible refine Kd.C_drew ?_) | exact HR288.out)) hb); replace HB := am (below_step bl hb); clear hb))
   go_roundg k1
   case measure => have := HK1.out; omega
   case rel => exact ⟨(wrap64 (x13_1 + 1)), rs, H', ⟨by have := HK1.out; omega⟩, ⟨by repeat (first | (with_reducible exact HR288.out) | (with_reducible refine Kd.C_alloc ?_ _) | (with_reducible refine Kd.C_drewN ?_ _) | (with_reducible refine Kd.C_drew ?_) | exact HR288.out)⟩, ⟨u61HB⟩⟩

/-! ### impl_areFrom: function 83 -/
def impl_areFrom.l0 : Nat → ByteArray → Int → Int → Option (Bool)
 | 0, _, _, _ => none
 | k + 1, x0, x1, x5 => if x5 < (x0.size : Int) then (if 0 ≤ x5 then (if (bt x0 x5) < x1 then (some false) else (if (bt x0 x5) > 126 then (some false) else (impl_areFrom.l0 k x0 x1 (wrap64 (x5 + 1))))) else (none)) else (some true)
def impl_areFrom.f (k : Nat) (a0 : ByteArray) (a1 : Int) : Option (Bool) := impl_areFrom.l0 k a0 a1 0
set_option maxHeartbeats 8000000 in
set_option maxRecDepth 100000 in
theorem impl_areFrom.calls (k : Nat) (a0 : ByteArray) (a1 : Int) (r : Bool) (w : World) (h : impl_areFrom.f k a0 a1 = some r) :
  Calls Tryz.prog 83 #[.string a0, .int .u8 a1] w fun e w' => e = .returned (.bool r) ∧ Drawn0 w w' := by
 unfold impl_areFrom.f at h
 have H := h
 clear h
 have H' := am H
 clear H
 go_enter Tryz.func83, Tryz.ntmps83
 go_wp2
 (try simp only [Act.put, List.setIfInBounds_toArray, List.set_cons_zero, List.set_cons_succ])
 go_loopg [5] k (fun kq v5 w' => ∃ (x5_1 : Int), v5 = .int .i64 x5_1 ∧ Aside0 (impl_areFrom.l0 kq a0 a1 x5_1 = some r) ∧ Aside0 (kq ≤ k) ∧ Drawn0 w w')
 case atStart => exact ⟨(0), rs, H', ⟨Nat.le_refl _⟩, dr⟩
 case round =>
  clear H'
  try clear p2
  obtain ⟨x5_1, rfl, HA, HK1, ⟨m1, rfl⟩⟩ := hrel
  cases gk with
  | zero => exact absurd HA.out (by simp [impl_areFrom.l0])
  | succ k1 =>
   have H := HA.out
   clear HA
   simp only [impl_areFrom.l0] at H
   by_cases c3 : x5_1 < (a0.size : Int)
   rotate_left
   ·rw [if_neg c3] at H
    have c3b0 := decide_eq_false c3
    clear c3
    obtain rfl := Option.some.inj H
    go_wp2
    go_ret
    exact ⟨rs, dr⟩
   rw [if_pos c3] at H
   have c3b0 := decide_eq_true c3
   clear c3
   revert H
   refine ifn fun c4 H => ?_
   have c4b0 := decide_eq_true c4
   clear c4
   by_cases c6 : (bt a0 x5_1) < a1
   ·rw [if_pos c6] at H
    have c6b0 := decide_eq_true c6
    clear c6
    obtain rfl := Option.some.inj H
    have p5 : 0 ≤ (x5_1 : Int) := od
    have q5 : x5_1 < (a0.size : Int) := od
    have hx5 := bt_at a0 x5_1
    replace p5 := eq_true p5
    replace q5 := eq_true q5
    go_wp2
    go_ret
    exact ⟨rs, dr⟩
   rw [if_neg c6] at H
   have c6b0 := decide_eq_false c6
   clear c6
   by_cases c8 : (bt a0 x5_1) > 126
   ·rw [if_pos c8] at H
    have c8b0 := decide_eq_true c8
    clear c8
    obtain rfl := Option.some.inj H
    have p5 : 0 ≤ (x5_1 : Int) := od
    have q5 : x5_1 < (a0.size : Int) := od
    have hx5 := bt_at a0 x5_1
    replace p5 := eq_true p5
    replace q5 := eq_true q5
    have p7 : 0 ≤ (x5_1 : Int) := od
    have q7 : x5_1 < (a0.size : Int) := od
    have hx7 := bt_at a0 x5_1
    replace p7 := eq_true p7
    replace q7 := eq_true q7
    go_wp2
    go_ret
    exact ⟨rs, dr⟩
   rw [if_neg c8] at H
   have c8b0 := decide_eq_false c8
   clear c8
   have H' := am H
   clear H
   have p5 : 0 ≤ (x5_1 : Int) := od
   have q5 : x5_1 < (a0.size : Int) := od
   have hx5 := bt_at a0 x5_1
   replace p5 := eq_true p5
   replace q5 := eq_true q5
   have p7 : 0 ≤ (x5_1 : Int) := od
   have q7 : x5_1 < (a0.size : Int) := od
   have hx7 := bt_at a0 x5_1
   replace p7 := eq_true p7
   replace q7 := eq_true q7
   go_wp2
   go_roundg k1
   case measure => have := HK1.out; omega
   case rel => exact ⟨(wrap64 (x5_1 + 1)), rs, H', ⟨by have := HK1.out; omega⟩, dr⟩

/-! ### impl_pathOk: function 69 -/
def impl_pathOk.f (k : Nat) (a0 : ByteArray) : Option (Bool) := (impl_inRange.f (a0.size : Int) 1 60).bind fun t294 => (if t294 = true then (if 0 < (a0.size : Int) then (if (bt a0 0) = 47 then ((impl_areFrom.f k a0 33).bind fun t295 => (some t295)) else (some false)) else (none)) else (some false))
set_option maxHeartbeats 8000000 in
set_option maxRecDepth 100000 in
theorem impl_pathOk.calls (k : Nat) (a0 : ByteArray) (r : Bool) (w : World) (h : impl_pathOk.f k a0 = some r) :
  Calls Tryz.prog 69 #[.string a0] w fun e w' => e = .returned (.bool r) ∧ Drawn0 w w' := by
 unfold impl_pathOk.f at h
 have H := h
 clear h
 revert H
 refine ok1 fun t294 A2 H => ?_
 by_cases c3 : t294 = true
 rotate_left
 ·replace c3 := Bool.eq_false_iff.mpr c3
  subst c3
  rw [if_neg (show ¬ (false = true) by decide)] at H
  obtain rfl := Option.some.inj H
  go_enter Tryz.func69, Tryz.ntmps69
  go_wp2_with ((with_reducible refine gw ?_); first | (refine gl 5 Tryz.func68 #[.int .i64 (a0.size : Int), .int .i64 1, .int .i64 60] ?_; (with_reducible refine (impl_inRange.calls (a0.size : Int) 1 60 false _ A2.out).mono ?_); rintro e w' ⟨rfl, ⟨nd, rfl⟩⟩; refine ⟨_, rfl, ?_⟩))
  go_ret
  exact ⟨rs, dr⟩
 subst c3
 rw [if_pos rfl] at H
 revert H
 refine ifn fun c4 H => ?_
 have c4b0 := decide_eq_true c4
 have c4b1 : decide (0 < a0.size) = true := decide_eq_true (by omega)
 clear c4
 by_cases c6 : (bt a0 0) = 47
 rotate_left
 ·rw [if_neg c6] at H
  have c6b0 : ((bt a0 0) == 47) = false := beq_eq_false_iff_ne.mpr c6
  have c6b1 : ((bt a0 0) != 47) = true := bne_iff_ne.mpr c6
  obtain rfl := Option.some.inj H
  go_enter Tryz.func69, Tryz.ntmps69
  go_wp2_with ((with_reducible refine gw ?_); first | (refine gl 5 Tryz.func68 #[.int .i64 (a0.size : Int), .int .i64 1, .int .i64 60] ?_; (with_reducible refine (impl_inRange.calls (a0.size : Int) 1 60 true _ A2.out).mono ?_); rintro e w' ⟨rfl, ⟨nd, rfl⟩⟩; refine ⟨_, rfl, ?_⟩; have p5 : 0 ≤ (0 : Int) := (by omega); have q5 : 0 < a0.size := (by have : (0 : Int) < (a0.size : Int) := od; omega); have hx5 : ∀ h : 0 < a0.size, ((a0[0]'h).toNat : Int) = bt a0 0 := bt_at a0 0; clear p5; have qi5 : (0 < (a0.size : Int)) = True := eq_true (od); replace q5 := eq_true q5))
  go_ret
  exact ⟨rs, dr⟩
 rw [if_pos c6] at H
 have c6b0 : ((bt a0 0) == 47) = true := beq_iff_eq.mpr c6
 have c6b1 : ((bt a0 0) != 47) = false := bne_eq_false_iff_eq.mpr c6
 clear c6
 revert H
 refine ok1 fun t295 A7 H => ?_
 obtain rfl := Option.some.inj H
 go_enter Tryz.func69, Tryz.ntmps69
 go_wp2_with (first | ((with_reducible refine gw ?_); first | (refine gl 5 Tryz.func68 #[.int .i64 (a0.size : Int), .int .i64 1, .int .i64 60] ?_; (with_reducible refine (impl_inRange.calls (a0.size : Int) 1 60 true _ A2.out).mono ?_); rintro e w' ⟨rfl, ⟨nd, rfl⟩⟩; refine ⟨_, rfl, ?_⟩; have p5 : 0 ≤ (0 : Int) := (by omega); have q5 : 0 < a0.size := (by have : (0 : Int) < (a0.size : Int) := od; omega); have hx5 : ∀ h : 0 < a0.size, ((a0[0]'h).toNat : Int) = bt a0 0 := bt_at a0 0; clear p5; have qi5 : (0 < (a0.size : Int)) = True := eq_true (od); replace q5 := eq_true q5)) | (go_at_call 83; (with_reducible refine (impl_areFrom.calls k a0 33 t295 _ A7.out).mono ?_); rintro e w' ⟨rfl, ⟨nd, rfl⟩⟩))
 go_ret
 exact ⟨rs, dr⟩

/-! ### impl_TokenOk: function 84 -/
def impl_TokenOk.l0 : Nat → ByteArray → Int → Option (Bool)
 | 0, _, _ => none
 | k + 1, x0, x3 => if x3 < (x0.size : Int) then (if 0 ≤ x3 then (if (bt x0 x3) ≥ 97 then (if (bt x0 x3) ≤ 122 then (impl_TokenOk.l0 k x0 (wrap64 (x3 + 1))) else (if (bt x0 x3) ≥ 48 then (if (bt x0 x3) ≤ 57 then (impl_TokenOk.l0 k x0 (wrap64 (x3 + 1))) else (if ((bt x0 x3) = 45) then (impl_TokenOk.l0 k x0 (wrap64 (x3 + 1))) else (some false))) else (if ((bt x0 x3) = 45) then (impl_TokenOk.l0 k x0 (wrap64 (x3 + 1))) else (some false)))) else (if (bt x0 x3) ≥ 48 then (if (bt x0 x3) ≤ 57 then (impl_TokenOk.l0 k x0 (wrap64 (x3 + 1))) else (if ((bt x0 x3) = 45) then (impl_TokenOk.l0 k x0 (wrap64 (x3 + 1))) else (some false))) else (if ((bt x0 x3) = 45) then (impl_TokenOk.l0 k x0 (wrap64 (x3 + 1))) else (some false)))) else (none)) else ((impl_inRange.f (x0.size : Int) 1 20).bind fun t296 => (some t296))
def impl_TokenOk.f (k : Nat) (a0 : ByteArray) : Option (Bool) := impl_TokenOk.l0 k a0 0
set_option maxHeartbeats 8000000 in
set_option maxRecDepth 100000 in
theorem impl_TokenOk.calls (k : Nat) (a0 : ByteArray) (r : Bool) (w : World) (h : impl_TokenOk.f k a0 = some r) :
  Calls Tryz.prog 84 #[.string a0] w fun e w' => e = .returned (.bool r) ∧ Drawn0 w w' := by
 unfold impl_TokenOk.f at h
 have H := h
 clear h
 have H' := am H
 clear H
 go_enter Tryz.func84, Tryz.ntmps84
 go_wp2
 (try simp only [Act.put, List.setIfInBounds_toArray, List.set_cons_zero, List.set_cons_succ])
 go_loopg [3] k (fun kq v3 w' => ∃ (x3_1 : Int), v3 = .int .i64 x3_1 ∧ Aside0 (impl_TokenOk.l0 kq a0 x3_1 = some r) ∧ Aside0 (kq ≤ k) ∧ Drawn0 w w')
 case atStart => exact ⟨(0), rs, H', ⟨Nat.le_refl _⟩, dr⟩
 case round =>
  clear H'
  obtain ⟨x3_1, rfl, HA, HK1, ⟨m1, rfl⟩⟩ := hrel
  cases gk with
  | zero => exact absurd HA.out (by simp [impl_TokenOk.l0])
  | succ k1 =>
   have H := HA.out
   clear HA
   simp only [impl_TokenOk.l0] at H
   by_cases c2 : x3_1 < (a0.size : Int)
   rotate_left
   ·rw [if_neg c2] at H
    have c2b0 := decide_eq_false c2
    clear c2
    revert H
    refine ok1 fun t296 A24 H => ?_
    obtain rfl := Option.some.inj H
    go_wp2_with ((with_reducible refine gw ?_); first | (refine gl 41 Tryz.func68 #[.int .i64 (a0.size : Int), .int .i64 1, .int .i64 20] ?_; (with_reducible refine (impl_inRange.calls (a0.size : Int) 1 20 t296 _ A24.out).mono ?_); rintro e w' ⟨rfl, ⟨nd, rfl⟩⟩; refine ⟨_, rfl, ?_⟩))
    go_ret
    exact ⟨rs, dr⟩
   rw [if_pos c2] at H
   have c2b0 := decide_eq_true c2
   clear c2
   revert H
   refine ifn fun c3 H => ?_
   have c3b0 := decide_eq_true c3
   clear c3
   by_cases c5 : (bt a0 x3_1) ≥ 97
   rotate_left
   ·rw [if_neg c5] at H
    have c5b0 := decide_eq_false c5
    clear c5
    by_cases c17 : (bt a0 x3_1) ≥ 48
    rotate_left
    ·rw [if_neg c17] at H
     have c17b0 := decide_eq_false c17
     clear c17
     by_cases c23 : ((bt a0 x3_1) = 45)
     rotate_left
     ·rw [if_neg c23] at H
      have c23b0 : ((bt a0 x3_1) == 45) = false := beq_eq_false_iff_ne.mpr c23
      have c23b1 : ((bt a0 x3_1) != 45) = true := bne_iff_ne.mpr c23
      obtain rfl := Option.some.inj H
      have p4 : 0 ≤ (x3_1 : Int) := od
      have q4 : x3_1 < (a0.size : Int) := od
      have hx4 := bt_at a0 x3_1
      replace p4 := eq_true p4
      replace q4 := eq_true q4
      have p16 : 0 ≤ (x3_1 : Int) := od
      have q16 : x3_1 < (a0.size : Int) := od
      have hx16 := bt_at a0 x3_1
      replace p16 := eq_true p16
      replace q16 := eq_true q16
      have p22 : 0 ≤ (x3_1 : Int) := od
      have q22 : x3_1 < (a0.size : Int) := od
      have hx22 := bt_at a0 x3_1
      replace p22 := eq_true p22
      replace q22 := eq_true q22
      go_wp2
      go_ret
      exact ⟨rs, dr⟩
     rw [if_pos c23] at H
     have c23b0 : ((bt a0 x3_1) == 45) = true := beq_iff_eq.mpr c23
     have c23b1 : ((bt a0 x3_1) != 45) = false := bne_eq_false_iff_eq.mpr c23
     clear c23
     have H' := am H
     clear H
     have p4 : 0 ≤ (x3_1 : Int) := od
     have q4 : x3_1 < (a0.size : Int) := od
     have hx4 := bt_at a0 x3_1
     replace p4 := eq_true p4
     replace q4 := eq_true q4
     have p16 : 0 ≤ (x3_1 : Int) := od
     have q16 : x3_1 < (a0.size : Int) := od
     have hx16 := bt_at a0 x3_1
     replace p16 := eq_true p16
     replace q16 := eq_true q16
     have p22 : 0 ≤ (x3_1 : Int) := od
     have q22 : x3_1 < (a0.size : Int) := od
     have hx22 := bt_at a0 x3_1
     replace p22 := eq_true p22
     replace q22 := eq_true q22
     go_wp2
     go_roundg k1
     case measure => have := HK1.out; omega
     case rel => exact ⟨(wrap64 (x3_1 + 1)), rs, H', ⟨by have := HK1.out; omega⟩, dr⟩
    rw [if_pos c17] at H
    have c17b0 := decide_eq_true c17
    clear c17
    by_cases c19 : (bt a0 x3_1) ≤ 57
    ·rw [if_pos c19] at H
     have c19b0 := decide_eq_true c19
     clear c19
     have H' := am H
     clear H
     have p4 : 0 ≤ (x3_1 : Int) := od
     have q4 : x3_1 < (a0.size : Int) := od
     have hx4 := bt_at a0 x3_1
     replace p4 := eq_true p4
     replace q4 := eq_true q4
     have p16 : 0 ≤ (x3_1 : Int) := od
     have q16 : x3_1 < (a0.size : Int) := od
     have hx16 := bt_at a0 x3_1
     replace p16 := eq_true p16
     replace q16 := eq_true q16
     have p18 : 0 ≤ (x3_1 : Int) := od
     have q18 : x3_1 < (a0.size : Int) := od
     have hx18 := bt_at a0 x3_1
     replace p18 := eq_true p18
     replace q18 := eq_true q18
     go_wp2
     go_roundg k1
     case measure => have := HK1.out; omega
     case rel => exact ⟨(wrap64 (x3_1 + 1)), rs, H', ⟨by have := HK1.out; omega⟩, dr⟩
    rw [if_neg c19] at H
    have c19b0 := decide_eq_false c19
    clear c19
    by_cases c21 : ((bt a0 x3_1) = 45)
    rotate_left
    ·rw [if_neg c21] at H
     have c21b0 : ((bt a0 x3_1) == 45) = false := beq_eq_false_iff_ne.mpr c21
     have c21b1 : ((bt a0 x3_1) != 45) = true := bne_iff_ne.mpr c21
     obtain rfl := Option.some.inj H
     have p4 : 0 ≤ (x3_1 : Int) := od
     have q4 : x3_1 < (a0.size : Int) := od
     have hx4 := bt_at a0 x3_1
     replace p4 := eq_true p4
     replace q4 := eq_true q4
     have p16 : 0 ≤ (x3_1 : Int) := od
     have q16 : x3_1 < (a0.size : Int) := od
     have hx16 := bt_at a0 x3_1
     replace p16 := eq_true p16
     replace q16 := eq_true q16
     have p18 : 0 ≤ (x3_1 : Int) := od
     have q18 : x3_1 < (a0.size : Int) := od
     have hx18 := bt_at a0 x3_1
     replace p18 := eq_true p18
     replace q18 := eq_true q18
     have p20 : 0 ≤ (x3_1 : Int) := od
     have q20 : x3_1 < (a0.size : Int) := od
     have hx20 := bt_at a0 x3_1
     replace p20 := eq_true p20
     replace q20 := eq_true q20
     go_wp2
     go_ret
     exact ⟨rs, dr⟩
    rw [if_pos c21] at H
    have c21b0 : ((bt a0 x3_1) == 45) = true := beq_iff_eq.mpr c21
    have c21b1 : ((bt a0 x3_1) != 45) = false := bne_eq_false_iff_eq.mpr c21
    clear c21
    have H' := am H
    clear H
    have p4 : 0 ≤ (x3_1 : Int) := od
    have q4 : x3_1 < (a0.size : Int) := od
    have hx4 := bt_at a0 x3_1
    replace p4 := eq_true p4
    replace q4 := eq_true q4
    have p16 : 0 ≤ (x3_1 : Int) := od
    have q16 : x3_1 < (a0.size : Int) := od
    have hx16 := bt_at a0 x3_1
    replace p16 := eq_true p16
    replace q16 := eq_true q16
    have p18 : 0 ≤ (x3_1 : Int) := od
    have q18 : x3_1 < (a0.size : Int) := od
    have hx18 := bt_at a0 x3_1
    replace p18 := eq_true p18
    replace q18 := eq_true q18
    have p20 : 0 ≤ (x3_1 : Int) := od
    have q20 : x3_1 < (a0.size : Int) := od
    have hx20 := bt_at a0 x3_1
    replace p20 := eq_true p20
    replace q20 := eq_true q20
    go_wp2
    go_roundg k1
    case measure => have := HK1.out; omega
    case rel => exact ⟨(wrap64 (x3_1 + 1)), rs, H', ⟨by have := HK1.out; omega⟩, dr⟩
   rw [if_pos c5] at H
   have c5b0 := decide_eq_true c5
   clear c5
   by_cases c7 : (bt a0 x3_1) ≤ 122
   ·rw [if_pos c7] at H
    have c7b0 := decide_eq_true c7
    clear c7
    have H' := am H
    clear H
    have p4 : 0 ≤ (x3_1 : Int) := od
    have q4 : x3_1 < (a0.size : Int) := od
    have hx4 := bt_at a0 x3_1
    replace p4 := eq_true p4
    replace q4 := eq_true q4
    have p6 : 0 ≤ (x3_1 : Int) := od
    have q6 : x3_1 < (a0.size : Int) := od
    have hx6 := bt_at a0 x3_1
    replace p6 := eq_true p6
    replace q6 := eq_true q6
    go_wp2
    go_roundg k1
    case measure => have := HK1.out; omega
    case rel => exact ⟨(wrap64 (x3_1 + 1)), rs, H', ⟨by have := HK1.out; omega⟩, dr⟩
   rw [if_neg c7] at H
   have c7b0 := decide_eq_false c7
   clear c7
   by_cases c9 : (bt a0 x3_1) ≥ 48
   rotate_left
   ·rw [if_neg c9] at H
    have c9b0 := decide_eq_false c9
    clear c9
    by_cases c15 : ((bt a0 x3_1) = 45)
    rotate_left
    ·rw [if_neg c15] at H
     have c15b0 : ((bt a0 x3_1) == 45) = false := beq_eq_false_iff_ne.mpr c15
     have c15b1 : ((bt a0 x3_1) != 45) = true := bne_iff_ne.mpr c15
     obtain rfl := Option.some.inj H
     have p4 : 0 ≤ (x3_1 : Int) := od
     have q4 : x3_1 < (a0.size : Int) := od
     have hx4 := bt_at a0 x3_1
     replace p4 := eq_true p4
     replace q4 := eq_true q4
     have p6 : 0 ≤ (x3_1 : Int) := od
     have q6 : x3_1 < (a0.size : Int) := od
     have hx6 := bt_at a0 x3_1
     replace p6 := eq_true p6
     replace q6 := eq_true q6
     have p8 : 0 ≤ (x3_1 : Int) := od
     have q8 : x3_1 < (a0.size : Int) := od
     have hx8 := bt_at a0 x3_1
     replace p8 := eq_true p8
     replace q8 := eq_true q8
     have p14 : 0 ≤ (x3_1 : Int) := od
     have q14 : x3_1 < (a0.size : Int) := od
     have hx14 := bt_at a0 x3_1
     replace p14 := eq_true p14
     replace q14 := eq_true q14
     go_wp2
     go_ret
     exact ⟨rs, dr⟩
    rw [if_pos c15] at H
    have c15b0 : ((bt a0 x3_1) == 45) = true := beq_iff_eq.mpr c15
    have c15b1 : ((bt a0 x3_1) != 45) = false := bne_eq_false_iff_eq.mpr c15
    clear c15
    have H' := am H
    clear H
    have p4 : 0 ≤ (x3_1 : Int) := od
    have q4 : x3_1 < (a0.size : Int) := od
    have hx4 := bt_at a0 x3_1
    replace p4 := eq_true p4
    replace q4 := eq_true q4
    have p6 : 0 ≤ (x3_1 : Int) := od
    have q6 : x3_1 < (a0.size : Int) := od
    have hx6 := bt_at a0 x3_1
    replace p6 := eq_true p6
    replace q6 := eq_true q6
    have p8 : 0 ≤ (x3_1 : Int) := od
    have q8 : x3_1 < (a0.size : Int) := od
    have hx8 := bt_at a0 x3_1
    replace p8 := eq_true p8
    replace q8 := eq_true q8
    have p14 : 0 ≤ (x3_1 : Int) := od
    have q14 : x3_1 < (a0.size : Int) := od
    have hx14 := bt_at a0 x3_1
    replace p14 := eq_true p14
    replace q14 := eq_true q14
    go_wp2
    go_roundg k1
    case measure => have := HK1.out; omega
    case rel => exact ⟨(wrap64 (x3_1 + 1)), rs, H', ⟨by have := HK1.out; omega⟩, dr⟩
   rw [if_pos c9] at H
   have c9b0 := decide_eq_true c9
   clear c9
   by_cases c11 : (bt a0 x3_1) ≤ 57
   ·rw [if_pos c11] at H
    have c11b0 := decide_eq_true c11
    clear c11
    have H' := am H
    clear H
    have p4 : 0 ≤ (x3_1 : Int) := od
    have q4 : x3_1 < (a0.size : Int) := od
    have hx4 := bt_at a0 x3_1
    replace p4 := eq_true p4
    replace q4 := eq_true q4
    have p6 : 0 ≤ (x3_1 : Int) := od
    have q6 : x3_1 < (a0.size : Int) := od
    have hx6 := bt_at a0 x3_1
    replace p6 := eq_true p6
    replace q6 := eq_true q6
    have p8 : 0 ≤ (x3_1 : Int) := od
    have q8 : x3_1 < (a0.size : Int) := od
    have hx8 := bt_at a0 x3_1
    replace p8 := eq_true p8
    replace q8 := eq_true q8
    have p10 : 0 ≤ (x3_1 : Int) := od
    have q10 : x3_1 < (a0.size : Int) := od
    have hx10 := bt_at a0 x3_1
    replace p10 := eq_true p10
    replace q10 := eq_true q10
    go_wp2
    go_roundg k1
    case measure => have := HK1.out; omega
    case rel => exact ⟨(wrap64 (x3_1 + 1)), rs, H', ⟨by have := HK1.out; omega⟩, dr⟩
   rw [if_neg c11] at H
   have c11b0 := decide_eq_false c11
   clear c11
   by_cases c13 : ((bt a0 x3_1) = 45)
   rotate_left
   ·rw [if_neg c13] at H
    have c13b0 : ((bt a0 x3_1) == 45) = false := beq_eq_false_iff_ne.mpr c13
    have c13b1 : ((bt a0 x3_1) != 45) = true := bne_iff_ne.mpr c13
    obtain rfl := Option.some.inj H
    have p4 : 0 ≤ (x3_1 : Int) := od
    have q4 : x3_1 < (a0.size : Int) := od
    have hx4 := bt_at a0 x3_1
    replace p4 := eq_true p4
    replace q4 := eq_true q4
    have p6 : 0 ≤ (x3_1 : Int) := od
    have q6 : x3_1 < (a0.size : Int) := od
    have hx6 := bt_at a0 x3_1
    replace p6 := eq_true p6
    replace q6 := eq_true q6
    have p8 : 0 ≤ (x3_1 : Int) := od
    have q8 : x3_1 < (a0.size : Int) := od
    have hx8 := bt_at a0 x3_1
    replace p8 := eq_true p8
    replace q8 := eq_true q8
    have p10 : 0 ≤ (x3_1 : Int) := od
    have q10 : x3_1 < (a0.size : Int) := od
    have hx10 := bt_at a0 x3_1
    replace p10 := eq_true p10
    replace q10 := eq_true q10
    have p12 : 0 ≤ (x3_1 : Int) := od
    have q12 : x3_1 < (a0.size : Int) := od
    have hx12 := bt_at a0 x3_1
    replace p12 := eq_true p12
    replace q12 := eq_true q12
    go_wp2
    go_ret
    exact ⟨rs, dr⟩
   rw [if_pos c13] at H
   have c13b0 : ((bt a0 x3_1) == 45) = true := beq_iff_eq.mpr c13
   have c13b1 : ((bt a0 x3_1) != 45) = false := bne_eq_false_iff_eq.mpr c13
   clear c13
   have H' := am H
   clear H
   have p4 : 0 ≤ (x3_1 : Int) := od
   have q4 : x3_1 < (a0.size : Int) := od
   have hx4 := bt_at a0 x3_1
   replace p4 := eq_true p4
   replace q4 := eq_true q4
   have p6 : 0 ≤ (x3_1 : Int) := od
   have q6 : x3_1 < (a0.size : Int) := od
   have hx6 := bt_at a0 x3_1
   replace p6 := eq_true p6
   replace q6 := eq_true q6
   have p8 : 0 ≤ (x3_1 : Int) := od
   have q8 : x3_1 < (a0.size : Int) := od
   have hx8 := bt_at a0 x3_1
   replace p8 := eq_true p8
   replace q8 := eq_true q8
   have p10 : 0 ≤ (x3_1 : Int) := od
   have q10 : x3_1 < (a0.size : Int) := od
   have hx10 := bt_at a0 x3_1
   replace p10 := eq_true p10
   replace q10 := eq_true q10
   have p12 : 0 ≤ (x3_1 : Int) := od
   have q12 : x3_1 < (a0.size : Int) := od
   have hx12 := bt_at a0 x3_1
   replace p12 := eq_true p12
   replace q12 := eq_true q12
   go_wp2
   go_roundg k1
   case measure => have := HK1.out; omega
   case rel => exact ⟨(wrap64 (x3_1 + 1)), rs, H', ⟨by have := HK1.out; omega⟩, dr⟩

/-! ### strings.Trim at one blank -/
def strings_Trim.f (a0 a1 : ByteArray) : Option ByteArray := if a1 = ⟨#[32]⟩ ∧ a0.size ≤ 9223372036854775807 then some ⟨(Lib.trimB a0.data.toList 32).toArray⟩ else none
theorem strings_Trim.calls (a0 a1 : ByteArray) (r : ByteArray) (w : World) (h : strings_Trim.f a0 a1 = some r) :
  Calls Tryz.prog 114 #[.string a0, .string a1] w fun e w' => e = .returned (.string r) ∧ Below w.heap.size w w' := by
 unfold strings_Trim.f at h
 split at h
 case isFalse => cases h
 rename_i hl
 obtain rfl := Option.some.inj h
 rw [hl.1]
 refine (Tryz.strings_Trim_one a0 32 (by decide) w hl.2).mono ?_
 rintro e w' ⟨rfl, rfl | rfl⟩
 ·exact ⟨rfl, Below.refl _ _⟩
 ·exact ⟨rfl, below_drew1 (Below.refl _ _)⟩

/-! ### impl_Trim: function 100 -/
def impl_Trim.f (a0 : ByteArray) : Option (ByteArray) := (strings_Trim.f a0 (⟨#[32]⟩ : ByteArray)).bind fun t297 => (some t297)
set_option maxHeartbeats 8000000 in
set_option maxRecDepth 100000 in
theorem impl_Trim.calls (a0 : ByteArray) (r : ByteArray) (w : World) (h : impl_Trim.f a0 = some r) :
  Calls Tryz.prog 100 #[.string a0] w fun e w' => e = .returned (.string r) ∧ Below w.heap.size w w' := by
 have HB := am (Below.refl w.heap.size w)
 unfold impl_Trim.f at h
 have H := h
 clear h
 revert H
 refine ok1 fun t297 A2 H => ?_
 obtain rfl := Option.some.inj H
 go_enter Tryz.func100, Tryz.ntmps100
 go_wp2_with ((with_reducible refine gw ?_); first | (refine gl 4 Tryz.func114 #[.string a0, .string (⟨#[32]⟩ : ByteArray)] ?_; (with_reducible refine (strings_Trim.calls a0 (⟨#[32]⟩ : ByteArray) t297 _ A2.out).mono ?_); rintro e w3 ⟨rfl, hb⟩; refine ⟨_, rfl, ?_⟩; replace HB := am (below_step bl hb); clear hb))
 go_ret
 exact ⟨rf, bl⟩

/-! ### impl_ValueOk: function 85 -/
def impl_ValueOk.f (k : Nat) (a0 : ByteArray) : Option (Bool) := (impl_inRange.f (a0.size : Int) 1 60).bind fun t298 => (if t298 = true then ((impl_areFrom.f k a0 32).bind fun t299 => (if t299 = true then ((impl_Trim.f a0).bind fun t300 => (some (t300.toList == a0.toList))) else (some false))) else (some false))
set_option maxHeartbeats 8000000 in
set_option maxRecDepth 100000 in
theorem impl_ValueOk.calls (k : Nat) (a0 : ByteArray) (r : Bool) (w : World) (h : impl_ValueOk.f k a0 = some r) :
  Calls Tryz.prog 85 #[.string a0] w fun e w' => e = .returned (.bool r) ∧ Below w.heap.size w w' := by
 have HB := am (Below.refl w.heap.size w)
 unfold impl_ValueOk.f at h
 have H := h
 clear h
 revert H
 refine ok1 fun t298 A2 H => ?_
 by_cases c3 : t298 = true
 rotate_left
 ·replace c3 := Bool.eq_false_iff.mpr c3
  subst c3
  rw [if_neg (show ¬ (false = true) by decide)] at H
  obtain rfl := Option.some.inj H
  go_enter Tryz.func85, Tryz.ntmps85
  go_wp2_with ((with_reducible refine gw ?_); first | (refine gl 5 Tryz.func68 #[.int .i64 (a0.size : Int), .int .i64 1, .int .i64 60] ?_; (with_reducible refine (impl_inRange.calls (a0.size : Int) 1 60 false _ A2.out).mono ?_); rintro e w' ⟨rfl, ⟨nd, rfl⟩⟩; refine ⟨_, rfl, ?_⟩))
  go_ret
  exact ⟨rf, bl⟩
 subst c3
 rw [if_pos rfl] at H
 revert H
 refine ok1 fun t299 A4 H => ?_
 by_cases c5 : t299 = true
 rotate_left
 ·replace c5 := Bool.eq_false_iff.mpr c5
  subst c5
  rw [if_neg (show ¬ (false = true) by decide)] at H
  obtain rfl := Option.some.inj H
  go_enter Tryz.func85, Tryz.ntmps85
  go_wp2_with (first | ((with_reducible refine gw ?_); first | (refine gl 5 Tryz.func68 #[.int .i64 (a0.size : Int), .int .i64 1, .int .i64 60] ?_; (with_reducible refine (impl_inRange.calls (a0.size : Int) 1 60 true _ A2.out).mono ?_); rintro e w' ⟨rfl, ⟨nd, rfl⟩⟩; refine ⟨_, rfl, ?_⟩)) | (go_at_call 83; (with_reducible refine (impl_areFrom.calls k a0 32 false _ A4.out).mono ?_); rintro e w' ⟨rfl, ⟨nd, rfl⟩⟩))
  go_ret
  exact ⟨rf, bl⟩
 subst c5
 rw [if_pos rfl] at H
 revert H
 refine ok1 fun t300 A6 H => ?_
 obtain rfl := Option.some.inj H
 go_enter Tryz.func85, Tryz.ntmps85
 go_wp2_with (first | ((with_reducible refine gw ?_); first | (refine gl 5 Tryz.func68 #[.int .i64 (a0.size : Int), .int .i64 1, .int .i64 60] ?_; (with_reducible refine (impl_inRange.calls (a0.size : Int) 1 60 true _ A2.out).mono ?_); rintro e w' ⟨rfl, ⟨nd, rfl⟩⟩; refine ⟨_, rfl, ?_⟩)) | (go_at_call 83; (with_reducible refine (impl_areFrom.calls k a0 32 true _ A4.out).mono ?_); rintro e w' ⟨rfl, ⟨nd, rfl⟩⟩) | (go_at_call 100; (with_reducible refine (impl_Trim.calls a0 t300 _ A6.out).mono ?_); rintro e w7 ⟨rfl, hb⟩; replace HB := am (below_step bl hb); clear hb))
 go_ret
 exact ⟨rf, bl⟩

/-! ### impl.fieldAt: through slices.IndexFunc and its closure -/
theorem clos37 (x : S81) (name : ByteArray) (B : Nat) (w : World) (hcell : w.cell? ⟨B, 0, none⟩ = some (.string name)) :
  Calls Tryz.prog 102 #[.agg #[.string x.f0, .string x.f1], .pointer (some ⟨B, 0, none⟩)] w fun e w' => e = .returned (.bool (x.f0.toList == name.toList)) ∧ Below w.heap.size w w' := by
 have hl := World.block_lt_of_cell? w _ hcell
 go_enter Tryz.func102, Tryz.ntmps102
 go_wp2
 go_ret
 exact ⟨rfl, (Below.refl _ _).alloc (Nat.le_refl _) _⟩

/-- where the first field of a name stands from i on -/
def at_ (name : ByteArray) : List S81 → Nat → Int
 | [], _ => -1
 | x :: r, i => if x.f0.toList == name.toList then i else at_ name r (i + 1)

set_option maxHeartbeats 4000000 in
theorem index36 (A0 : Option Addr) (c0 : Nat) (l0 : List S81) (name : ByteArray) (B : Nat) (w : World) (hn : l0.length ≤ 9223372036854775807) (hr0 : Kd.C k81 w A0 l0.length l0) (hcell : w.cell? ⟨B, 0, none⟩ = some (.string name)) :
  Calls Tryz.prog 101 #[.slice A0 l0.length c0, .func (.func 102) #[] #[.pointer (some ⟨B, 0, none⟩)]] w fun e w' => e = .returned (.int .i64 (at_ name l0 0)) ∧ Below w.heap.size w w' := by
 go_enter Tryz.func101, Tryz.ntmps101
 go_wp2
 go_loopw [8] (fun i wr => ∃ k : Nat, k ≤ l0.length ∧ i = .int .i64 k ∧ Aside0 (at_ name l0 0 = at_ name (l0.drop k) k) ∧ Below w.heap.size w wr) (fun i _ => l0.length - (intOf i).toNat)
 case atStart => exact ⟨0, Nat.zero_le _, rfl, ⟨rfl⟩, Below.refl _ _⟩
 case round =>
  obtain ⟨k, hk, rfl, ha, hb⟩ := hrel
  have hk2 : ((k : Nat) : Int) ≤ 9223372036854775807 := by omega
  by_cases hlt : k < l0.length
  ·obtain ⟨ad, e1, hx0, hx1⟩ := at_T81 hr0 k (by omega) (by omega)
   have hx : rd_T81 l0 k = l0[k] := by simp [rd_T81, List.getD, hlt]
   rw [hx, Int.toNat_natCast] at hx0 hx1
   have hd : at_ name (l0.drop k) k = if (l0[k].f0.toList == name.toList) = true then (k : Int) else at_ name (l0.drop (k + 1)) (k + 1) := by
    rw [List.drop_eq_getElem_cons hlt]; rfl
   cases e1
   replace hx0 := pw_cell_below hb hx0
   replace hx1 := pw_cell_below hb hx1
   have hc := pw_cell_below hb hcell
   have H := am hd
   have HX := am hx
   clear hd hx hcell hr0
   have h0 : (0 : Int) ≤ (k : Int) := by omega
   have h1 : (k : Int) < (l0.length : Int) := by omega
   go_wp2_with (first | (go_at_call 102; refine (clos37 l0[k] name B _ hc).mono ?_; rintro e w2 ⟨rfl, hb2⟩))
   ·have ht : (l0[k].f0.toList == name.toList) = true := by assumption
    go_ret
    exact ⟨ret_int (show (k : Int) = at_ name l0 0 by rw [ha.out, H.out, if_pos ht]), below_then hb hb.size hb2⟩
   ·have ht : (l0[k].f0.toList == name.toList) = false := by assumption
    go_roundw
    case rel => exact ⟨k + 1, by omega, by go_num, ⟨by rw [ha.out, H.out, ht]; rfl⟩, below_then hb hb.size hb2⟩
    case measure => simp [intOf]; omega
  ·go_wp2
   go_ret
   exact ⟨ret_int (show (-1 : Int) = at_ name l0 0 by rw [ha.out, List.drop_eq_nil_of_le (by omega)]; rfl), hb⟩

def impl_fieldAt.f (l0 : List S81) (a1 : ByteArray) : Option Int := if l0.length < 4398046511104 then some (at_ a1 l0 0) else none
theorem impl_fieldAt.calls (A0 : Option Addr) (c0 : Nat) (l0 : List (S81)) (a1 : ByteArray) (r : Int) (w : World) (hr0 : Kd.C k81 w A0 l0.length l0) (hc0 : l0.length ≤ c0) (h : impl_fieldAt.f l0 a1 = some r) :
  Calls Tryz.prog 86 #[.slice A0 l0.length c0, .string a1] w fun e w' => e = .returned (.int .i64 r) ∧ Below w.heap.size w w' := by
 unfold impl_fieldAt.f at h
 split at h
 case isFalse => cases h
 rename_i hl
 obtain rfl := Option.some.inj h
 have HN := am hl
 have HR := am hr0
 clear h hl hr0 hc0
 go_enter Tryz.func86, Tryz.ntmps86
 go_wp2_with (first | (go_at_call 101; refine (index36 A0 c0 l0 a1 w.heap.size _ (by have := HN.out; omega) (Kd.C_below HR.out ((Below.refl _ _).alloc (Nat.le_refl _) _)) (by simp)).mono ?_; rintro e w2 ⟨rfl, hb2⟩))
 go_ret
 exact ⟨rfl, below_then ((Below.refl _ _).alloc (Nat.le_refl _) _) (by simp) hb2⟩

/-! ### impl_FieldsOk: function 70 -/
theorem u70HB {p : Prop} (h : p := by repeat (first | (with_reducible first | exact HB.out | apply below_alloc | apply pw_below_drewN | apply below_drew1 | refine below_set ?_ GE302.out) | exact HB.out)) : p := h
def impl_FieldsOk.l0 : Nat → List (S81) → List (S81) → Int → Int → Option (Bool)
 | 0, _, _, _, _ => none
 | k + 1, x0, x5, x6, x7 => if x7 < x6 then (if 0 ≤ x7 then (if x7 < (x5.length : Int) then ((impl_TokenOk.f k ((rd_T81 x5 x7).f0)).bind fun t303 => (if t303 = true then ((impl_ValueOk.f k ((rd_T81 x5 x7).f1)).bind fun t304 => (if t304 = true then (if ((rd_T81 x5 x7).f0).toList = ([99, 111, 110, 116, 101, 110, 116, 45, 108, 101, 110, 103, 116, 104] : List UInt8) then (some false) else ((impl_fieldAt.f x0 ((rd_T81 x5 x7).f0)).bind fun t305 => (if t305 = x7 then (impl_FieldsOk.l0 k x0 x5 x6 (wrap64 (x7 + 1))) else (some false)))) else (some false))) else (some false))) else (none)) else (none)) else (some (decide ((x0.length : Int) ≤ 8)))
def impl_FieldsOk.f (k : Nat) (l0 : List (S81)) : Option (Bool) := impl_FieldsOk.l0 k l0 l0 (l0.length : Int) 0
set_option maxHeartbeats 8000000 in
set_option maxRecDepth 100000 in
theorem impl_FieldsOk.calls (k : Nat) (A0 : Option Addr) (c0 : Nat) (l0 : List (S81)) (r : Bool) (w : World) (hr0 : Kd.C k81 w A0 l0.length l0) (hc0 : l0.length ≤ c0) (h : impl_FieldsOk.f k l0 = some r) :
  Calls Tryz.prog 70 #[.slice A0 l0.length c0] w fun e w' => e = .returned (.bool r) ∧ Below w.heap.size w w' := by
 have hu81 := Tryz.underlying81
 have HR0 := am hr0
 have HC0 := am hc0
 clear hr0 hc0
 have HB := am (Below.refl w.heap.size w)
 unfold impl_FieldsOk.f at h
 have H := h
 clear h
 have H' := am H
 clear H
 go_enter Tryz.func70, Tryz.ntmps70
 go_wp2
 (try simp only [Act.put, List.setIfInBounds_toArray, List.set_cons_zero, List.set_cons_succ])
 go_loopg [7] k (fun kq v7 w' => ∃ (x7_1 : Int), v7 = .int .i64 x7_1 ∧ Aside0 (impl_FieldsOk.l0 kq l0 l0 (l0.length : Int) x7_1 = some r) ∧ Aside0 (kq ≤ k) ∧ Aside0 (Below w.heap.size w w'))
 case atStart => exact ⟨(0), rs, H', ⟨Nat.le_refl _⟩, ⟨u70HB⟩⟩
 case round =>
  clear H'
  obtain ⟨x7_1, rfl, HA, HK1, HB⟩ := hrel
  cases gk with
  | zero => exact absurd HA.out (by simp [impl_FieldsOk.l0])
  | succ k1 =>
   have H := HA.out
   clear HA
   simp only [impl_FieldsOk.l0] at H
   by_cases c2 : x7_1 < (l0.length : Int)
   rotate_left
   ·rw [if_neg c2] at H
    have c2b0 := decide_eq_false c2
    clear c2
    obtain rfl := Option.some.inj H
    go_wp2
    go_ret
    exact ⟨rf, bl⟩
   rw [if_pos c2] at H
   have c2b0 := decide_eq_true c2
   clear c2
   revert H
   refine ifn fun c3 H => ?_
   have c3b0 := decide_eq_true c3
   clear c3
   revert H
   refine ifn fun c4 H => ?_
   have c4b0 := decide_eq_true c4
   clear c4
   revert H
   refine ok1 fun t303 A5 H => ?_
   by_cases c6 : t303 = true
   rotate_left
   ·replace c6 := Bool.eq_false_iff.mpr c6
    subst c6
    rw [if_neg (show ¬ (false = true) by decide)] at H
    obtain rfl := Option.some.inj H
    have p301 : 0 ≤ (x7_1 : Int) := od
    have q301 : x7_1 < (l0.length : Int) := od
    obtain ⟨ad301, e301, hx301_0, hx301_1⟩ := at_T81 HR0.out x7_1 p301 q301
    cases e301
    replace hx301_0 := hcw hx301_0
    replace hx301_1 := hcw hx301_1
    replace p301 := eq_true p301
    replace q301 := eq_true q301
    go_wp2_with ((with_reducible refine gw ?_); first | (refine bx 4 #[.string (⟨#[]⟩ : ByteArray), .string (⟨#[]⟩ : ByteArray)] 81 ?_; intro gb302 hg w25 hbox hb; have BK302 := am (hbox); have GW302 := am (sz hg : w.heap.size ≤ gb302); have GE302 := am (sz hg : w.heap.size ≤ gb302); replace HB := am (below_step bl hb); clear hb hbox hg; obtain ⟨z26_0, y26_0, z26_1, y26_1⟩ := cl2 BK302) | (refine gl 14 Tryz.func84 #[.string ((rd_T81 l0 x7_1).f0)] ?_; (with_reducible refine (impl_TokenOk.calls k1 ((rd_T81 l0 x7_1).f0) false _ A5.out).mono ?_); rintro e w' ⟨rfl, ⟨nd, rfl⟩⟩; refine ⟨_, rfl, ?_⟩))
    go_ret
    exact ⟨rf, bl⟩
   subst c6
   rw [if_pos rfl] at H
   revert H
   refine ok1 fun t304 A7 H => ?_
   by_cases c8 : t304 = true
   rotate_left
   ·replace c8 := Bool.eq_false_iff.mpr c8
    subst c8
    rw [if_neg (show ¬ (false = true) by decide)] at H
    obtain rfl := Option.some.inj H
    have p301 : 0 ≤ (x7_1 : Int) := od
    have q301 : x7_1 < (l0.length : Int) := od
    obtain ⟨ad301, e301, hx301_0, hx301_1⟩ := at_T81 HR0.out x7_1 p301 q301
    cases e301
    replace hx301_0 := hcw hx301_0
    replace hx301_1 := hcw hx301_1
    replace p301 := eq_true p301
    replace q301 := eq_true q301
    go_wp2_with (first | ((with_reducible refine gw ?_); first | (refine bx 4 #[.string (⟨#[]⟩ : ByteArray), .string (⟨#[]⟩ : ByteArray)] 81 ?_; intro gb302 hg w22 hbox hb; have BK302 := am (hbox); have GW302 := am (sz hg : w.heap.size ≤ gb302); have GE302 := am (sz hg : w.heap.size ≤ gb302); replace HB := am (below_step bl hb); clear hb hbox hg; obtain ⟨z23_0, y23_0, z23_1, y23_1⟩ := cl2 BK302) | (refine gl 14 Tryz.func84 #[.string ((rd_T81 l0 x7_1).f0)] ?_; (with_reducible refine (impl_TokenOk.calls k1 ((rd_T81 l0 x7_1).f0) true _ A5.out).mono ?_); rintro e w' ⟨rfl, ⟨nd, rfl⟩⟩; refine ⟨_, rfl, ?_⟩)) | (go_at_call 85; (with_reducible refine (impl_ValueOk.calls k1 ((rd_T81 l0 x7_1).f1) false _ A7.out).mono ?_); rintro e w24 ⟨rfl, hb⟩; replace BK302 := am (blk_below (g := gb302) (o := .cells #[.string ((rd_T81 l0 x7_1).f0), .string ((rd_T81 l0 x7_1).f1)] 81 (0, 0)) (pt0 BK302) hb); replace HB := am (below_step bl hb); clear hb))
    go_ret
    exact ⟨rf, bl⟩
   subst c8
   rw [if_pos rfl] at H
   by_cases c9 : ((rd_T81 l0 x7_1).f0).toList = ([99, 111, 110, 116, 101, 110, 116, 45, 108, 101, 110, 103, 116, 104] : List UInt8)
   ·rw [if_pos c9] at H
    have c9b0 : (((rd_T81 l0 x7_1).f0).toList == ([99, 111, 110, 116, 101, 110, 116, 45, 108, 101, 110, 103, 116, 104] : List UInt8)) = true := beq_iff_eq.mpr c9
    have c9b1 : (((rd_T81 l0 x7_1).f0).toList != ([99, 111, 110, 116, 101, 110, 116, 45, 108, 101, 110, 103, 116, 104] : List UInt8)) = false := bne_eq_false_iff_eq.mpr c9
    clear c9
    obtain rfl := Option.some.inj H
    have p301 : 0 ≤ (x7_1 : Int) := od
    have q301 : x7_1 < (l0.length : Int) := od
    obtain ⟨ad301, e301, hx301_0, hx301_1⟩ := at_T81 HR0.out x7_1 p301 q301
    cases e301
    replace hx301_0 := hcw hx301_0
    replace hx301_1 := hcw hx301_1
    replace p301 := eq_true p301
    replace q301 := eq_true q301
    go_wp2_with (first | ((with_reducible refine gw ?_); first | (refine bx 4 #[.string (⟨#[]⟩ : ByteArray), .string (⟨#[]⟩ : ByteArray)] 81 ?_; intro gb302 hg w10 hbox hb; have BK302 := am (hbox); have GW302 := am (sz hg : w.heap.size ≤ gb302); have GE302 := am (sz hg : w.heap.size ≤ gb302); replace HB := am (below_step bl hb); clear hb hbox hg; obtain ⟨z11_0, y11_0, z11_1, y11_1⟩ := cl2 BK302) | (refine gl 14 Tryz.func84 #[.string ((rd_T81 l0 x7_1).f0)] ?_; (with_reducible refine (impl_TokenOk.calls k1 ((rd_T81 l0 x7_1).f0) true _ A5.out).mono ?_); rintro e w' ⟨rfl, ⟨nd, rfl⟩⟩; refine ⟨_, rfl, ?_⟩)) | (go_at_call 85; (with_reducible refine (impl_ValueOk.calls k1 ((rd_T81 l0 x7_1).f1) true _ A7.out).mono ?_); rintro e w12 ⟨rfl, hb⟩; replace BK302 := am (blk_below (g := gb302) (o := .cells #[.string ((rd_T81 l0 x7_1).f0), .string ((rd_T81 l0 x7_1).f1)] 81 (0, 0)) (pt0 BK302) hb); replace HB := am (below_step bl hb); clear hb; obtain ⟨z13_0, y13_0, z13_1, y13_1⟩ := cl2 BK302))
    go_ret
    exact ⟨rf, bl⟩
   rw [if_neg c9] at H
   have c9b0 : (((rd_T81 l0 x7_1).f0).toList == ([99, 111, 110, 116, 101, 110, 116, 45, 108, 101, 110, 103, 116, 104] : List UInt8)) = false := beq_eq_false_iff_ne.mpr c9
   have c9b1 : (((rd_T81 l0 x7_1).f0).toList != ([99, 111, 110, 116, 101, 110, 116, 45, 108, 101, 110, 103, 116, 104] : List UInt8)) = true := bne_iff_ne.mpr c9
   revert H
   refine ok1 fun t305 A14 H => ?_
   have HH15 := am H
   clear H
   have p301 : 0 ≤ (x7_1 : Int) := od
   have q301 : x7_1 < (l0.length : Int) := od
   obtain ⟨ad301, e301, hx301_0, hx301_1⟩ := at_T81 HR0.out x7_1 p301 q301
   cases e301
   replace hx301_0 := hcw hx301_0
   replace hx301_1 := hcw hx301_1
   replace p301 := eq_true p301
   replace q301 := eq_true q301
   go_upto_if 34 with (first | ((with_reducible refine gw ?_); first | (refine bx 4 #[.string (⟨#[]⟩ : ByteArray), .string (⟨#[]⟩ : ByteArray)] 81 ?_; intro gb302 hg w16 hbox hb; have BK302 := am (hbox); have GW302 := am (sz hg : w.heap.size ≤ gb302); have GE302 := am (sz hg : w.heap.size ≤ gb302); replace HB := am (below_step bl hb); clear hb hbox hg; obtain ⟨z17_0, y17_0, z17_1, y17_1⟩ := cl2 BK302) | (refine gl 14 Tryz.func84 #[.string ((rd_T81 l0 x7_1).f0)] ?_; (with_reducible refine (impl_TokenOk.calls k1 ((rd_T81 l0 x7_1).f0) true _ A5.out).mono ?_); rintro e w' ⟨rfl, ⟨nd, rfl⟩⟩; refine ⟨_, rfl, ?_⟩)) | (go_at_call 85; (with_reducible refine (impl_ValueOk.calls k1 ((rd_T81 l0 x7_1).f1) true _ A7.out).mono ?_); rintro e w18 ⟨rfl, hb⟩; replace BK302 := am (blk_below (g := gb302) (o := .cells #[.string ((rd_T81 l0 x7_1).f0), .string ((rd_T81 l0 x7_1).f1)] 81 (0, 0)) (pt0 BK302) hb); replace HB := am (below_step bl hb); clear hb; obtain ⟨z19_0, y19_0, z19_1, y19_1⟩ := cl2 BK302) | (go_at_call 86; (with_reducible refine (impl_fieldAt.calls _ _ l0 ((rd_T81 l0 x7_1).f0) t305 _ ?side1 ?side2 A14.out).mono ?_); (case side1 => exact cb HR0); (case side2 => exact HC0.out); rintro e w20 ⟨rfl, hb⟩; replace BK302 := kb BK302 hb; replace HB := am (below_step bl hb); clear hb))
   have H := HH15.out
   clear HH15
   by_cases c21 : t305 = x7_1
   rotate_left
   ·rw [if_neg c21] at H
    have c21b0 : (t305 == x7_1) = false := beq_eq_false_iff_ne.mpr c21
    have c21b1 : (t305 != x7_1) = true := bne_iff_ne.mpr c21
    (first | rw [c21b0] | (simp only [i64_w, i32_w]; rw [c21b0]) | skip)
    obtain rfl := Option.some.inj H
    go_wp2
    go_ret
    exact ⟨rf, bl⟩
   rw [if_pos c21] at H
   have c21b0 : (t305 == x7_1) = true := beq_iff_eq.mpr c21
   have c21b1 : (t305 != x7_1) = false := bne_eq_false_iff_eq.mpr c21
   clear c21
   (first | rw [c21b0] | (simp only [i64_w, i32_w]; rw [c21b0]) | skip)
   have H' := am H
   clear H
   go_wp2
   go_roundg k1
   case measure => have := HK1.out; omega
   case rel => exact ⟨(wrap64 (x7_1 + 1)), rs, H', ⟨by have := HK1.out; omega⟩, ⟨u70HB⟩⟩

/-! ### impl_ReqOk: function 42 -/
def impl_ReqOk.f (k : Nat) (a0_0 : Int) (a0_1 : ByteArray) (l0_2 : List (S81)) (a0_3 : ByteArray) : Option (Bool) := (impl_inRange.f a0_0 1 4).bind fun t307 => (if t307 = true then ((impl_pathOk.f k a0_1).bind fun t308 => (if t308 = true then (if (a0_3.size : Int) ≤ 120 then ((impl_FieldsOk.f k l0_2).bind fun t309 => (some t309)) else (some false)) else (some false))) else (some false))
set_option maxHeartbeats 8000000 in
set_option maxRecDepth 100000 in
theorem impl_ReqOk.calls (k : Nat) (a0_0 : Int) (a0_1 : ByteArray) (A0_2 : Option Addr) (c0_2 : Nat) (l0_2 : List (S81)) (a0_3 : ByteArray) (r : Bool) (w : World) (hr0_2 : Kd.C k81 w A0_2 l0_2.length l0_2) (hc0_2 : l0_2.length ≤ c0_2) (h : impl_ReqOk.f k a0_0 a0_1 l0_2 a0_3 = some r) :
  Calls Tryz.prog 42 #[.agg #[.int .i64 a0_0, .string a0_1, .slice A0_2 l0_2.length c0_2, .string a0_3]] w fun e w' => e = .returned (.bool r) ∧ Below w.heap.size w w' := by
 have hu40 := Tryz.underlying40
 have HR0_2 := am hr0_2
 have HC0_2 := am hc0_2
 clear hr0_2 hc0_2
 have HB := am (Below.refl w.heap.size w)
 unfold impl_ReqOk.f at h
 have H := h
 clear h
 revert H
 refine ok1 fun t307 A2 H => ?_
 by_cases c3 : t307 = true
 rotate_left
 ·replace c3 := Bool.eq_false_iff.mpr c3
  subst c3
  rw [if_neg (show ¬ (false = true) by decide)] at H
  obtain rfl := Option.some.inj H
  go_enter Tryz.func42, Tryz.ntmps42
  go_wp2_with (first | ((with_reducible refine gate_dst (N := 1) rfl ?_); (try (refine gate_guard (by rfl) ?_; dsimp only)); refine box_event ?hg (N := 1) ?hd (cs := #[.int .i64 a0_0, .string a0_1, .slice A0_2 l0_2.length c0_2, .string a0_3]) (t := 40) ?hr ?_; (case hd => rfl); (case hg => rfl); (case hr => first | (go_simp; done) | (go_simp; rfl)); intro gb306 hg w15 hbox hb; have BK306 := am (hbox); have GW306 := am (sz hg : w.heap.size ≤ gb306); have GE306 := am (sz hg : w.heap.size ≤ gb306); replace HB := am (below_step bl hb); clear hb hbox hg; obtain ⟨z16_0, y16_0, z16_1, y16_1, z16_2, y16_2, z16_3, y16_3⟩ := cl4 BK306) | ((with_reducible refine gw ?_); first | (refine gl 5 Tryz.func68 #[.int .i64 a0_0, .int .i64 1, .int .i64 4] ?_; (with_reducible refine (impl_inRange.calls a0_0 1 4 false _ A2.out).mono ?_); rintro e w' ⟨rfl, ⟨nd, rfl⟩⟩; refine ⟨_, rfl, ?_⟩)))
  go_ret
  exact ⟨rf, bl⟩
 subst c3
 rw [if_pos rfl] at H
 revert H
 refine ok1 fun t308 A4 H => ?_
 by_cases c5 : t308 = true
 rotate_left
 ·replace c5 := Bool.eq_false_iff.mpr c5
  subst c5
  rw [if_neg (show ¬ (false = true) by decide)] at H
  obtain rfl := Option.some.inj H
  go_enter Tryz.func42, Tryz.ntmps42
  go_wp2_with (first | ((with_reducible refine gate_dst (N := 1) rfl ?_); (try (refine gate_guard (by rfl) ?_; dsimp only)); refine box_event ?hg (N := 1) ?hd (cs := #[.int .i64 a0_0, .string a0_1, .slice A0_2 l0_2.length c0_2, .string a0_3]) (t := 40) ?hr ?_; (case hd => rfl); (case hg => rfl); (case hr => first | (go_simp; done) | (go_simp; rfl)); intro gb306 hg w13 hbox hb; have BK306 := am (hbox); have GW306 := am (sz hg : w.heap.size ≤ gb306); have GE306 := am (sz hg : w.heap.size ≤ gb306); replace HB := am (below_step bl hb); clear hb hbox hg; obtain ⟨z14_0, y14_0, z14_1, y14_1, z14_2, y14_2, z14_3, y14_3⟩ := cl4 BK306) | ((with_reducible refine gw ?_); first | (refine gl 5 Tryz.func68 #[.int .i64 a0_0, .int .i64 1, .int .i64 4] ?_; (with_reducible refine (impl_inRange.calls a0_0 1 4 true _ A2.out).mono ?_); rintro e w' ⟨rfl, ⟨nd, rfl⟩⟩; refine ⟨_, rfl, ?_⟩)) | (go_at_call 69; (with_reducible refine (impl_pathOk.calls k a0_1 false _ A4.out).mono ?_); rintro e w' ⟨rfl, ⟨nd, rfl⟩⟩))
  go_ret
  exact ⟨rf, bl⟩
 subst c5
 rw [if_pos rfl] at H
 by_cases c6 : (a0_3.size : Int) ≤ 120
 rotate_left
 ·rw [if_neg c6] at H
  have c6b0 := decide_eq_false c6
  have c6b1 : decide (a0_3.size ≤ 120) = false := decide_eq_false (by omega)
  clear c6
  obtain rfl := Option.some.inj H
  go_enter Tryz.func42, Tryz.ntmps42
  go_wp2_with (first | ((with_reducible refine gate_dst (N := 1) rfl ?_); (try (refine gate_guard (by rfl) ?_; dsimp only)); refine box_event ?hg (N := 1) ?hd (cs := #[.int .i64 a0_0, .string a0_1, .slice A0_2 l0_2.length c0_2, .string a0_3]) (t := 40) ?hr ?_; (case hd => rfl); (case hg => rfl); (case hr => first | (go_simp; done) | (go_simp; rfl)); intro gb306 hg w11 hbox hb; have BK306 := am (hbox); have GW306 := am (sz hg : w.heap.size ≤ gb306); have GE306 := am (sz hg : w.heap.size ≤ gb306); replace HB := am (below_step bl hb); clear hb hbox hg; obtain ⟨z12_0, y12_0, z12_1, y12_1, z12_2, y12_2, z12_3, y12_3⟩ := cl4 BK306) | ((with_reducible refine gw ?_); first | (refine gl 5 Tryz.func68 #[.int .i64 a0_0, .int .i64 1, .int .i64 4] ?_; (with_reducible refine (impl_inRange.calls a0_0 1 4 true _ A2.out).mono ?_); rintro e w' ⟨rfl, ⟨nd, rfl⟩⟩; refine ⟨_, rfl, ?_⟩)) | (go_at_call 69; (with_reducible refine (impl_pathOk.calls k a0_1 true _ A4.out).mono ?_); rintro e w' ⟨rfl, ⟨nd, rfl⟩⟩))
  go_ret
  exact ⟨rf, bl⟩
 rw [if_pos c6] at H
 have c6b0 := decide_eq_true c6
 have c6b1 : decide (a0_3.size ≤ 120) = true := decide_eq_true (by omega)
 clear c6
 revert H
 refine ok1 fun t309 A7 H => ?_
 obtain rfl := Option.some.inj H
 go_enter Tryz.func42, Tryz.ntmps42
 go_wp2_with (first | ((with_reducible refine gate_dst (N := 1) rfl ?_); (try (refine gate_guard (by rfl) ?_; dsimp only)); refine box_event ?hg (N := 1) ?hd (cs := #[.int .i64 a0_0, .string a0_1, .slice A0_2 l0_2.length c0_2, .string a0_3]) (t := 40) ?hr ?_; (case hd => rfl); (case hg => rfl); (case hr => first | (go_simp; done) | (go_simp; rfl)); intro gb306 hg w8 hbox hb; have BK306 := am (hbox); have GW306 := am (sz hg : w.heap.size ≤ gb306); have GE306 := am (sz hg : w.heap.size ≤ gb306); replace HB := am (below_step bl hb); clear hb hbox hg; obtain ⟨z9_0, y9_0, z9_1, y9_1, z9_2, y9_2, z9_3, y9_3⟩ := cl4 BK306) | ((with_reducible refine gw ?_); first | (refine gl 5 Tryz.func68 #[.int .i64 a0_0, .int .i64 1, .int .i64 4] ?_; (with_reducible refine (impl_inRange.calls a0_0 1 4 true _ A2.out).mono ?_); rintro e w' ⟨rfl, ⟨nd, rfl⟩⟩; refine ⟨_, rfl, ?_⟩)) | (go_at_call 69; (with_reducible refine (impl_pathOk.calls k a0_1 true _ A4.out).mono ?_); rintro e w' ⟨rfl, ⟨nd, rfl⟩⟩) | (go_at_call 70; (with_reducible refine (impl_FieldsOk.calls k _ _ l0_2 t309 _ ?side1 ?side2 A7.out).mono ?_); (case side1 => repeat (first | exact (Kd.C_below HR0_2.out bl) | (with_reducible refine Kd.C_alloc ?_ _) | (with_reducible refine Kd.C_drewN ?_ _) | (with_reducible refine Kd.C_drew ?_))); (case side2 => exact HC0_2.out); rintro e w10 ⟨rfl, hb⟩; replace BK306 := kb BK306 hb; replace HB := am (below_step bl hb); clear hb))
 go_ret
 exact ⟨rf, bl⟩

/-! ### an element of an array value -/
theorem run_index_plain {P : Program} (w : World) {t e : TypeId} {n : Nat} {cs : Array Value} {k : IntKind} {i : Int} {v : Value} {inf : TypeInfo} (h : P.underlying t = some (.array n e)) (he : P.plainKey e = true) (hinf : P.info? e = some inf) (hsz : P.cellsOf e = 1) (h0 : 0 ≤ i ∧ i < n) (hv : cs[i.toNat]? = some v) :
  (Instr.index t (.agg cs) (.int k i)).run P w = .ok v w := by
 simp [Instr.index, run_underlying h, asIntOf, h0, run_sizeOf w hinf, hsz, run_part_plain w he hv]

/-! ### a word out of an array -/
def impl_methodText.f (a0 : Int) : Option ByteArray := if a0 = 1 then some ⟨#[71, 69, 84]⟩ else if a0 = 2 then some ⟨#[72, 69, 65, 68]⟩ else if a0 = 3 then some ⟨#[80, 79, 83, 84]⟩ else if a0 = 4 then some ⟨#[80, 85, 82, 71, 69]⟩ else none
set_option maxHeartbeats 2000000 in
set_option maxRecDepth 100000 in
theorem impl_methodText.calls (a0 : Int) (r : ByteArray) (w : World) (h : impl_methodText.f a0 = some r) :
  Calls Tryz.prog 43 #[.int .i64 a0] w fun e w' => e = .returned (.string r) ∧ Below w.heap.size w w' := by
 unfold impl_methodText.f at h
 have HB := am (Below.refl w.heap.size w)
 obtain ⟨inf, hinf, _⟩ := Option.map_eq_some_iff.1 (show (Tryz.prog.info? 9).map (fun i => i.size) = some 1 by kernel_rfl)
 split at h
 ·rename_i e; obtain rfl := Option.some.inj h; subst e; clear h
  go_enter Tryz.func43, Tryz.ntmps43
  go_wp2
  rw [run_index_plain w Tryz.underlying95 (by kernel_rfl) hinf (by kernel_rfl) (by decide) rfl]
  simp only [Result.andThen]
  rw [Oper.upon_value]
  go_wp2
  go_ret
  exact ⟨rfl, bl⟩
 split at h
 ·rename_i e; obtain rfl := Option.some.inj h; subst e; clear h
  go_enter Tryz.func43, Tryz.ntmps43
  go_wp2
  rw [run_index_plain w Tryz.underlying95 (by kernel_rfl) hinf (by kernel_rfl) (by decide) rfl]
  simp only [Result.andThen]
  rw [Oper.upon_value]
  go_wp2
  go_ret
  exact ⟨rfl, bl⟩
 split at h
 ·rename_i e; obtain rfl := Option.some.inj h; subst e; clear h
  go_enter Tryz.func43, Tryz.ntmps43
  go_wp2
  rw [run_index_plain w Tryz.underlying95 (by kernel_rfl) hinf (by kernel_rfl) (by decide) rfl]
  simp only [Result.andThen]
  rw [Oper.upon_value]
  go_wp2
  go_ret
  exact ⟨rfl, bl⟩
 split at h
 ·rename_i e; obtain rfl := Option.some.inj h; subst e; clear h
  go_enter Tryz.func43, Tryz.ntmps43
  go_wp2
  rw [run_index_plain w Tryz.underlying95 (by kernel_rfl) hinf (by kernel_rfl) (by decide) rfl]
  simp only [Result.andThen]
  rw [Oper.upon_value]
  go_wp2
  go_ret
  exact ⟨rfl, bl⟩
 ·cases h

/-! ### strings.Builder, written and read: a builder that the call has made -/
set_option maxHeartbeats 1000000 in
set_option maxRecDepth 100000 in
theorem bldCheck_used (b : Nat) (w : World) (h0 : w.cell? ⟨b, 0, none⟩ = some (.pointer (some ⟨b, 0, none⟩))) :
  Calls Tryz.prog 87 #[.pointer (some ⟨b, 0, none⟩)] w fun e w' => e = .returned (.tuple #[]) ∧ w' = w := by
 obtain ⟨j, hj, _⟩ := Option.map_eq_some_iff.1 (show (Tryz.prog.info? 98).map (fun i => i.size) = some 2 by kernel_rfl)
 go_enter Tryz.func87, Tryz.ntmps87
 go_wp2
 rw [Lib.run_neq_ptr_same w _ Tryz.underlying96 hj]
 go_wp2
 go_end0
 exact ⟨rfl, rfl⟩
set_option maxHeartbeats 1000000 in
set_option maxRecDepth 100000 in
theorem bldCheck_fresh (b : Nat) (w : World) (h0 : w.cell? ⟨b, 0, none⟩ = some (.pointer none)) (hsh : w.shape? b = some (98, 2)) (hfz : w.frozen? ⟨b, 0, none⟩ = false) :
  Calls Tryz.prog 87 #[.pointer (some ⟨b, 0, none⟩)] w fun e w' => e = .returned (.tuple #[]) ∧ w' = w.setCell ⟨b, 0, none⟩ (.pointer (some ⟨b, 0, none⟩)) := by
 obtain ⟨j, hj, hjs⟩ := Option.map_eq_some_iff.1 (show (Tryz.prog.info? 98).map (fun i => i.size) = some 2 by kernel_rfl)
 go_enter Tryz.func87, Tryz.ntmps87
 go_wp2
 rw [Lib.run_to_unsafe w ⟨b, 0, none⟩ Tryz.underlying96 Tryz.underlying121 hj (by rw [hjs]; decide) hsh (Nat.zero_lt_succ 1)]
 simp only [Result.andThen]
 rw [Oper.upon_value]
 go_wp2
 rw [run_callFunc_extern Tryz.func103 (by kernel_rfl) (by kernel_rfl) (by kernel_rfl) (e := Extern.AbiNoEscape.same) (by kernel_rfl)]
 rw [Lib.run_noEscape]
 simp only [Result.andThen]
 rw [Oper.upon_value]
 go_wp2
 rw [Lib.run_from_unsafe w ⟨b, 0, none⟩ Tryz.underlying121 Tryz.underlying96 hj hsh (by kernel_rfl)]
 simp only [Result.andThen]
 rw [Oper.upon_value]
 go_wp2
 go_end0
 exact ⟨rfl, rfl⟩
theorem bldCheck (B b : Nat) (bs : List Value) (w : World) (h : Lib.IsBuilder 98 5 B b bs w) :
  Calls Tryz.prog 87 #[.pointer (some ⟨b, 0, none⟩)] w fun e w' => e = .returned (.tuple #[]) ∧ (Lib.BuilderAt 98 5 B b (.pointer (some ⟨b, 0, none⟩)) bs w' ∧ Below B w w') := by
 rcases h with h | h
 ·refine (bldCheck_fresh b w h.cell0 h.shape h.frozen0).mono ?_
  rintro e w' ⟨rfl, rfl⟩
  exact ⟨rfl, h.used _, (Below.refl B w).setCell (p := ⟨b, 0, none⟩) h.1 _⟩
 ·refine (bldCheck_used b w h.cell0).mono ?_
  rintro e w' ⟨rfl, rfl⟩
  exact ⟨rfl, h, Below.refl B _⟩
set_option maxHeartbeats 2000000 in
set_option maxRecDepth 100000 in
theorem bldWrite (B b : Nat) (bs : List Value) (s : ByteArray) (w : World) (h : Lib.IsBuilder 98 5 B b bs w) (hlen : bs.length + s.size ≤ 140737488355328) (hBw : B ≤ w.heap.size) :
  Calls Tryz.prog 71 #[.pointer (some ⟨b, 0, none⟩), .string s] w fun e w' => e = .returned (.tuple #[.int .i64 s.size, .nilIface]) ∧ (Lib.BuilderAt 98 5 B b (.pointer (some ⟨b, 0, none⟩)) (bs ++ Lib.strCells s) w' ∧ Below B w w') := by
 obtain ⟨i0, hi, hz0, hz1, hz2⟩ := info_parts (show (Tryz.prog.info? 5).map (fun i => (i.zero, i.size, i.bytes)) = some (some (.int .u8 0), 1, 1) by kernel_rfl)
 go_enter Tryz.func71, Tryz.ntmps71
 go_wp2_with (go_at_call 87; refine (bldCheck B b bs _ h).mono ?_)
 rintro e w1 ⟨rfl, h1, hb1⟩
 obtain ⟨hB, v, hbk, hown, hne⟩ := h1
 have c0 : w1.cell? ⟨b, 0, none⟩ = some (.pointer (some ⟨b, 0, none⟩)) := by rw [Lib.cell_of_heap hbk]; rfl
 have c1 : w1.cell? ⟨b, 1, none⟩ = some v := by rw [Lib.cell_of_heap hbk]; rfl
 go_wp2_with (at_builtin; refine Lib.wpList_append_own_string _ rfl _ _ 22 9 rfl B 5 i0 Tryz.underlying22 Tryz.underlying9 hi hz0 hz1 hz2 _ _ _ rfl hown s rfl ?c3 ?c4 ?c5 ?_)
 case c3 => unfold maxLen; omega
 case c4 => omega
 case c5 => have := hb1.size; omega
 intro v' w2 hown' hgrow _
 have hlt : b < w1.heap.size := by
  rcases Nat.lt_or_ge b w1.heap.size with h' | h'
  ·exact h'
  ·simp [Array.getElem?_eq_none h'] at hbk
 have hb2 : w2.heap[b]? = some (.cells #[.pointer (some ⟨b, 0, none⟩), v] 98 (0, 0)) := by
  rw [hgrow.block b hlt (fun e => hne e.symm)]
  exact hbk
 have d0 : w2.cell? ⟨b, 0, none⟩ = some (.pointer (some ⟨b, 0, none⟩)) := by rw [Lib.cell_of_heap hb2]; rfl
 have d1 : w2.cell? ⟨b, 1, none⟩ = some v := by rw [Lib.cell_of_heap hb2]; rfl
 have f1 : w2.frozen? ⟨b, 1, none⟩ = false := Lib.frozen_of_heap hb2 1
 obtain ⟨ao, n', cap, rfl⟩ : ∃ ao n' cap, v' = .slice ao n' cap := by
  rcases hown'.2 with ⟨hv, _⟩ | ⟨g, cap, cur, hv, _⟩
  ·exact ⟨_, _, _, hv⟩
  ·exact ⟨_, _, _, hv⟩
 go_wp2
 go_ret2
 refine ⟨rfl, ?_, ?_⟩
 ·exact Lib.BuilderAt.put (T := 98) (e := 5) hB hb2 (bs' := bs ++ Lib.strCells s) (by simpa [Lib.strCells_length] using hown') (by decide)
 ·exact (hb1.grown hgrow (by have := hb1.size; omega) (fun k hk => (hown.lt k hk).1)).setCell (p := ⟨b, 1, none⟩) hB _
theorem bldAt_below {T e : TypeId} {B b : Nat} {p : Value} {bs : List Value} {w w1 : World} (h : Lib.BuilderAt T e B b p bs w) (hb : Below w.heap.size w w1) : Lib.BuilderAt T e B b p bs w1 := by
 obtain ⟨h1, v, h2, h3, h4⟩ := h
 exact ⟨h1, v, blk_below h2 hb, pw_own_below h3 hb, h4⟩
theorem bld_below {T e : TypeId} {B b : Nat} {bs : List Value} {w w1 : World} (h : Lib.IsBuilder T e B b bs w) (hb : Below w.heap.size w w1) : Lib.IsBuilder T e B b bs w1 := by
 rcases h with h | h
 ·exact .inl (bldAt_below h hb)
 ·exact .inr (bldAt_below h hb)

/-! ### impl.FieldsText: through a strings.Builder -/
def fieldLine (x : S81) : List UInt8 := x.f0.data.toList ++ [58, 32] ++ x.f1.data.toList ++ [13, 10]
def fieldLines : List S81 → List UInt8
 | [] => []
 | x :: r => fieldLine x ++ fieldLines r
theorem fieldLines_append : ∀ a b, fieldLines (a ++ b) = fieldLines a ++ fieldLines b
 | [], b => rfl
 | x :: r, b => by simp [fieldLines, fieldLines_append r b]
theorem fieldLines_take {l : List S81} {k : Nat} (h : k < l.length) : fieldLines (l.take (k + 1)) = fieldLines (l.take k) ++ fieldLine l[k] := by
 rw [List.take_succ_eq_append_getElem h, fieldLines_append]; simp [fieldLines]
theorem fieldLines_le {l : List S81} {k : Nat} (h : k < l.length) : (fieldLines (l.take k)).length + (fieldLine l[k]).length ≤ (fieldLines l).length := by
 have h1 : fieldLines l = fieldLines (l.take (k + 1)) ++ fieldLines (l.drop (k + 1)) := by rw [← fieldLines_append, List.take_append_drop]
 rw [h1, fieldLines_take h, List.length_append, List.length_append]; omega
def impl_FieldsText.f (l0 : List S81) : Option ByteArray := if l0.length < 4398046511104 ∧ (fieldLines l0).length ≤ 1099511627776 then some ⟨(fieldLines l0).toArray⟩ else none
set_option maxHeartbeats 4000000 in
set_option maxRecDepth 100000 in
theorem impl_FieldsText.calls (A0 : Option Addr) (c0 : Nat) (l0 : List (S81)) (r : ByteArray) (w : World) (hr0 : Kd.C k81 w A0 l0.length l0) (hc0 : l0.length ≤ c0) (h : impl_FieldsText.f l0 = some r) :
  Calls Tryz.prog 44 #[.slice A0 l0.length c0] w fun e w' => e = .returned (.string r) ∧ Below w.heap.size w w' := by
 unfold impl_FieldsText.f at h
 split at h
 case isFalse => cases h
 rename_i hl
 obtain rfl := Option.some.inj h
 have HN := am hl
 have HR := am hr0
 clear h hl hr0 hc0
 have HF := am (Lib.fresh_isBuilder 98 5 w)
 go_enter Tryz.func44, Tryz.ntmps44
 go_wp2
 go_loopw [8] (fun i wr => ∃ k : Nat, k ≤ l0.length ∧ i = .int .i64 k ∧ Aside0 (Lib.IsBuilder 98 5 w.heap.size w.heap.size (Lib.byteCells (fieldLines (l0.take k))) wr) ∧ Below w.heap.size w wr) (fun i _ => l0.length - (intOf i).toNat)
 case atStart => exact ⟨0, Nat.zero_le _, rfl, HF, (Below.refl _ _).alloc (Nat.le_refl _) _⟩
 case round =>
  obtain ⟨k, hk, rfl, hr, hb⟩ := hrel
  have hk2 : ((k : Nat) : Int) ≤ 4611686018427387904 := by have := HN.out.1; omega
  by_cases hlt : k < l0.length
  ·obtain ⟨ad, e1, hx0, hx1⟩ := at_T81 HR.out k (by omega) (by omega)
   have hx : rd_T81 l0 k = l0[k] := by simp [rd_T81, List.getD, hlt]
   rw [hx, Int.toNat_natCast] at hx0 hx1
   cases e1
   replace hx0 := pw_cell_below hb hx0
   replace hx1 := pw_cell_below hb hx1
   have hle := fieldLines_le hlt
   have hsz : (fieldLine l0[k]).length = l0[k].f0.size + 2 + l0[k].f1.size + 2 := by
    simp only [fieldLine, List.length_append, data_length]; rfl
   have ht := fieldLines_take hlt
   obtain ⟨f0, hf0⟩ : ∃ f, f = l0[k].f0 := ⟨_, rfl⟩
   obtain ⟨f1, hf1⟩ : ∃ f, f = l0[k].f1 := ⟨_, rfl⟩
   have hline : fieldLine l0[k] = (f0 ++ (⟨#[58, 32]⟩ : ByteArray) ++ f1 ++ (⟨#[13, 10]⟩ : ByteArray)).data.toList := by
    rw [hf0, hf1]; simp [fieldLine, ByteArray.data_append]
   rw [← hf0] at hx0
   rw [← hf1] at hx1
   rw [hline] at ht
   rw [hsz, ← hf0, ← hf1] at hle
   have HT := am ht
   have s1 : f0.size + 2 ≤ 9223372036854775807 := by have := HN.out.2; omega
   have s2 : f0.size + 2 + f1.size ≤ 9223372036854775807 := by have := HN.out.2; omega
   have s3 : f0.size + 2 + f1.size + 2 ≤ 9223372036854775807 := by have := HN.out.2; omega
   have HLE := am hle
   clear hx hle hsz ht hline hf0 hf1
   have HS : ((f0 ++ (⟨#[58, 32]⟩ : ByteArray) ++ f1 ++ (⟨#[13, 10]⟩ : ByteArray)).size) = f0.size + 2 + f1.size + 2 := by
    rw [ByteArray.size_append, ByteArray.size_append, ByteArray.size_append]; rfl
   have HS := am HS
   go_wp2_with (first | (go_at_call 71; refine (bldWrite w.heap.size w.heap.size _ _ _ (bld_below hr.out ((Below.refl _ _).alloc (Nat.le_refl _) _)) (by rw [HS.out, Lib.byteCells_length]; have := HLE.out; have := HN.out.2; omega) (by have := hb.size; simp; omega)).mono ?_; rintro e w2 ⟨rfl, h2, hb2⟩; rw [Lib.strCells_eq, ← Lib.byteCells_append, ← HT.out] at h2; have H2 := am h2; have HB2 := am hb2; clear h2 hb2))
   go_roundw
   case rel => exact ⟨k + 1, by omega, by go_num, ⟨.inr H2.out⟩, (hb.alloc hb.size _).trans HB2.out⟩
   case measure => simp [intOf]; omega
  ·have hkk : k = l0.length := by omega
   have HK := am hkk
   clear hkk
   go_wp2_with (first | (go_at_call 72; refine (Tryz.Builder_String_any w.heap.size w.heap.size _ _ hr.out hb.size).mono ?_; rintro e w2 ⟨rfl, hb2⟩; have HB2 := am hb2; clear hb2))
   go_ret
   exact ⟨by rw [HK.out, List.take_length]; rfl, hb.trans HB2.out⟩

/-! ### impl_lengthLine: function 45 -/
def impl_lengthLine.f (a0 : ByteArray) : Option (ByteArray) := (strconv_Itoa.f (a0.size : Int)).bind fun t310 => (if 16 + t310.size ≤ 9223372036854775807 then (if ((⟨#[99, 111, 110, 116, 101, 110, 116, 45, 108, 101, 110, 103, 116, 104, 58, 32]⟩ : ByteArray) ++ t310).size + 2 ≤ 9223372036854775807 then (some (((⟨#[99, 111, 110, 116, 101, 110, 116, 45, 108, 101, 110, 103, 116, 104, 58, 32]⟩ : ByteArray) ++ t310) ++ (⟨#[13, 10]⟩ : ByteArray))) else (none)) else (none))
set_option maxHeartbeats 8000000 in
set_option maxRecDepth 100000 in
theorem impl_lengthLine.calls (a0 : ByteArray) (r : ByteArray) (w : World) (hGT : GLOBT w) (h : impl_lengthLine.f a0 = some r) :
  Calls Tryz.prog 45 #[.string a0] w fun e w' => e = .returned (.string r) ∧ Below w.heap.size w w' := by
 have HGT := am hGT
 clear hGT
 have HB := am (Below.refl w.heap.size w)
 unfold impl_lengthLine.f at h
 have H := h
 clear h
 revert H
 refine ok1 fun t310 A2 H => ?_
 revert H
 refine ifn fun c3 H => ?_
 have c3b0 := eq_true c3
 have c3b1 := decide_eq_true c3
 try have c3b2 := eq_false (Nat.not_lt.2 c3)
 revert H
 refine ifn fun c4 H => ?_
 have c4b0 := eq_true c4
 have c4b1 := decide_eq_true c4
 try have c4b2 := eq_false (Nat.not_lt.2 c4)
 have c4b3 : (9223372036854775807 < 16 + (t310).size + 2) = False := b3 c4
 obtain rfl := Option.some.inj H
 go_enter Tryz.func45, Tryz.ntmps45
 go_wp2_with ((with_reducible refine gw ?_); first | (refine gl 5 Tryz.func73 #[.int .i64 (a0.size : Int)] ?_; (with_reducible refine (strconv_Itoa.calls (a0.size : Int) t310 _ ?side1 A2.out).mono ?_); (case side1 => exact GLOBT.below HGT.out bl); rintro e w5 ⟨rfl, hb⟩; refine ⟨_, rfl, ?_⟩; replace HB := am (below_step bl hb); clear hb))
 go_ret
 exact ⟨rf, bl⟩

end Go.Proofs.YtjckfmipegemcaaGreatDoor.All
