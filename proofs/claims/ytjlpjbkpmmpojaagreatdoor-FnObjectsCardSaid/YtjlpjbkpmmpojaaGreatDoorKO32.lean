import Derived.Test.YtjlpjbkpmmpojaaGreatDoorKO26
import Derived.Test.YtjlpjbkpmmpojaaGreatDoorKO31
namespace Go.Proofs.YtjlpjbkpmmpojaaGreatDoor.All
open Go.RowKit Go.Proofs.YtjlpjbkpmmpojaaGreatDoorW.PrintWords Go.Proofs.YtjlpjbkpmmpojaaGreatDoorW.PrintLast Go.Proofs.YtjlpjbkpmmpojaaGreatDoorW.PrintMore
set_option maxHeartbeats 8000000
set_option maxRecDepth 100000
attribute [local go_sem] min2_int min_two
set_option linter.unusedVariables false
set_option linter.unusedSimpArgs false
theorem u54HB {p : Prop} (h : p := by repeat (first | (with_reducible first | exact HB.out | apply below_alloc | apply pw_below_drewN | apply below_drew1 | refine below_set ?_ GE12.out | refine below_set ?_ (IsS139.ge HI13.out)) | exact HB.out)) : p := h
theorem u54HI13 {p : Prop} (h : p := by repeat (first | (with_reducible first | exact HI13.out | apply IsS139.alloc | apply IsS139.drewN | apply IsS139.drew | apply IsS139.set_1 | apply IsS139.set_2 | apply IsS139.far (p := ⟨gb12, _, none⟩) (hne := NB13_12.out)) | exact HI13.out)) : p := h
def spec_DrawObjText.f (k : Nat) (l0 : List Int) : Option (ByteArray × List ByteArray × List ByteArray × Int × (List (S116)) × ByteArray × Int) := (spec_l1New.f k l0).bind fun bt15 => ((spec_l10Draw.f k bt15.1 bt15.2.1 bt15.2.2).bind fun bt14 => (some (bt14.1, bt14.2.1, bt14.2.2.1, bt14.2.2.2.1, bt14.2.2.2.2.1, bt14.2.2.2.2.2.1, bt14.2.2.2.2.2.2.1)))
theorem spec_DrawObjText.calls (k : Nat) (A0 : Option Addr) (c0 : Nat) (l0 : List Int) (r1 : ByteArray) (r2 : List ByteArray) (r3 : List ByteArray) (r4 : Int) (r5 : List (S116)) (r6 : ByteArray) (r7 : Int) (w : World) (hr0 : Kd.C (Kd.int .u8) w A0 l0.length l0) (hc0 : l0.length ≤ c0) (h : spec_DrawObjText.f k l0 = some (r1, r2, r3, r4, r5, r6, r7)) :
  Calls Tryz.prog 54 #[.slice A0 l0.length c0] w fun e w' => ∃ v1_ v2_ v4_ : Value, e = .returned (.agg #[.string r1, v1_, v2_, .int .i64 r4, v4_, .string r6, .int .i64 r7]) ∧ Kd.R Kd.string 9 w' w.heap.size (fun k_ => some k_ ≠ (v2_ : Value).ownBlock) v1_ r2 ∧ Kd.R Kd.string 9 w' w.heap.size (fun k_ => some k_ ≠ (v1_ : Value).ownBlock) v2_ r3 ∧ Kd.R k116 116 w' w.heap.size (fun _ => True) v4_ r5 ∧ Below w.heap.size w w' := by
 have hu31 := Tryz.underlying31
 have HR0 := am hr0
 have HC0 := am hc0
 clear hr0 hc0
 have HB := am (Below.refl w.heap.size w)
 unfold spec_DrawObjText.f at h
 have H := h
 clear h
 revert H
 refine ok3 fun t15 t22 t23 A2 H => ?_
 (try dsimp only at H)
 replace H := ob H
 obtain ⟨⟨t14, t16, t17, t18, t19, t20, t21, t27, t28⟩, A30, H⟩ := H
 replace H : (some (t14, t16, t17, t18, t19, t20, t21)) = some (r1, r2, r3, r4, r5, r6, r7) := H
 have A3 := am A30
 clear A30
 simp only [Option.some.injEq, Prod.mk.injEq] at H
 obtain ⟨rfl, rfl, rfl, rfl, rfl, rfl, rfl⟩ := H
 go_enter Tryz.func54, Tryz.ntmps54
 go_wp2_with ((with_reducible refine gw ?_); first | (refine bx 2 #[.string (⟨#[]⟩ : ByteArray), .slice none 0 0, .slice none 0 0, .int .i64 0, .slice none 0 0, .string (⟨#[]⟩ : ByteArray), .int .i64 0] 31 ?_; intro gb12 hg w4 hbox hb; have BK12 := am (hbox); have GW12 := am (sz hg : w.heap.size ≤ gb12); have GE12 := am (sz hg : w.heap.size ≤ gb12); replace HB := am (below_step bl hb); clear hb hbox hg) | (refine gl 4 Tryz.func59 #[.slice A0 l0.length c0] ?_; refine (spec_l1New.calls k _ _ l0 t15 t22 t23 w _ u54HB HR0.out HC0.out A2.out).mono ?_; rintro e w5 ⟨g13, rfl, hi, hb, hb2⟩; refine ⟨_, rfl, ?_⟩; replace HB := am (hb); have HI13 := am (hi); have NB13_12 := am (IsS139.ne_blk hi (blk_below (g := gb12) (o := .cells #[.string (⟨#[]⟩ : ByteArray), .slice none 0 0, .slice none 0 0, .int .i64 0, .slice none 0 0, .string (⟨#[]⟩ : ByteArray), .int .i64 0] 31 (0, 0)) (bk BK12) hb2) (by decide)); have NB12_13 := am (Ne.symm (IsS139.ne_blk hi (blk_below (g := gb12) (o := .cells #[.string (⟨#[]⟩ : ByteArray), .slice none 0 0, .slice none 0 0, .int .i64 0, .slice none 0 0, .string (⟨#[]⟩ : ByteArray), .int .i64 0] 31 (0, 0)) (bk BK12) hb2) (by decide))); replace BK12 := am (blk_below (g := gb12) (o := .cells #[.string (⟨#[]⟩ : ByteArray), .slice none 0 0, .slice none 0 0, .int .i64 0, .slice none 0 0, .string (⟨#[]⟩ : ByteArray), .int .i64 0] 31 (0, 0)) (bk BK12) hb2); clear hb hb2 hi) | (refine gl 5 Tryz.func61 #[.pointer (some ⟨g13, 0, none⟩)] ?_; refine (spec_l10Draw.calls k g13 t15 t22 t23 t14 t16 t17 t18 t19 t20 t21 t27 t28 w _ u54HI13 u54HB A3.out).mono ?_; rintro e w6 ⟨v29, v32, v33, rfl, ho0, ho1, ho2, hi, hb, hk⟩; refine ⟨_, rfl, ?_⟩; replace BK12 := kp BK12 hk NB12_13; have HO24 := am (Kd.R_lower ho0 (below_size u54HB)); have HO25 := am (Kd.R_lower ho1 (below_size u54HB)); have HO26 := am (Kd.R_lower ho2 (below_size u54HB)); replace HB := am (hb); replace HI13 := am (hi); clear hb hk hi ho0 ho1 ho2; have hnb7 := NB12_13.out; have hnc7 := NB13_12.out; obtain ⟨_, _, _, _, _, _, _, _, _, _, _, _, _, _⟩ := cl7 BK12; obtain ⟨Ao9, co9, eo9⟩ := Kd.R_slice HO24.out; subst eo9; obtain ⟨Ao10, co10, eo10⟩ := Kd.R_slice HO25.out; subst eo10; obtain ⟨Ao11, co11, eo11⟩ := Kd.R_slice HO26.out; subst eo11))
 refine bodyPost_ret (results_cell_row rfl _ _ gb12 31 #[.string t14, .slice Ao9 t16.length co9, .slice Ao10 t17.length co10, .int .i64 t18, .slice Ao11 t19.length co11, .string t20, .int .i64 t21] (0, 0) _ rfl (pt0 BK12) Tryz.underlying31 rfl (by kernel_rfl)) rfl ?_
 exact ⟨_, _, _, rf, rj (Kd.R_types HO24.out BK12.out (by decide)) (fun _ hk => hk.1), rj (Kd.R_types HO25.out BK12.out (by decide)) (fun _ hk => hk.1), rj (Kd.R_types HO26.out BK12.out (by decide)) (fun _ hk => trivial), u54HB⟩
def laws_sameTexts.l0 : Nat → List ByteArray → List ByteArray → Int → Option (Bool)
 | 0, _, _, _ => none
 | k + 1, x0, x1, x5 => if x5 < (x0.length : Int) then (if 0 ≤ x5 then (if x5 < (x1.length : Int) then (if (rdOf ByteArray.empty x0 x5).toList = (rdOf ByteArray.empty x1 x5).toList then (laws_sameTexts.l0 k x0 x1 (wrap64 (x5 + 1))) else (some false)) else (none)) else (none)) else (some true)
def laws_sameTexts.f (k : Nat) (l0 : List ByteArray) (l1 : List ByteArray) : Option (Bool) := if (l0.length : Int) = (l1.length : Int) then (laws_sameTexts.l0 k l0 l1 0) else (some false)
theorem laws_sameTexts.calls (k : Nat) (A0 : Option Addr) (c0 : Nat) (l0 : List ByteArray) (A1 : Option Addr) (c1 : Nat) (l1 : List ByteArray) (r : Bool) (w : World) (hr0 : Kd.C Kd.string w A0 l0.length l0) (hc0 : l0.length ≤ c0) (hr1 : Kd.C Kd.string w A1 l1.length l1) (hc1 : l1.length ≤ c1) (h : laws_sameTexts.f k l0 l1 = some r) :
  Calls Tryz.prog 57 #[.slice A0 l0.length c0, .slice A1 l1.length c1] w fun e w' => e = .returned (.bool r) ∧ Drawn0 w w' := by
 have HR0 := am hr0
 have HC0 := am hc0
 clear hr0 hc0
 have HR1 := am hr1
 have HC1 := am hc1
 clear hr1 hc1
 unfold laws_sameTexts.f at h
 have H := h
 clear h
 by_cases c3 : (l0.length : Int) = (l1.length : Int)
 rotate_left
 ·rw [if_neg c3] at H
  have c3b0 := eqf c3
  have c3b1 := net c3
  have c3b2 : (l0.length == l1.length) = false := by first | simpa using c3 | (simp at c3 ⊢; omega)
  obtain rfl := si_ H
  go_enter Tryz.func57, Tryz.ntmps57
  go_wp2
  repeat (go_quiet (fail); try go_wp2)
  go_ret
  exact ⟨rs, dr⟩
 rw [if_pos c3] at H
 have c3b0 := eqt c3
 have c3b1 := nef c3
 have c3b2 : (l0.length == l1.length) = true := by first | simpa using c3 | (simp at c3 ⊢; omega)
 clear c3
 have H' := am H
 clear H
 go_enter Tryz.func57, Tryz.ntmps57
 go_wp2
 repeat (go_quiet (fail); try go_wp2)
 (try simp only [Act.put, List.setIfInBounds_toArray, List.set_cons_zero, List.set_cons_succ])
 go_loopg [5] k (fun kq v5 w' => ∃ (x5_1 : Int), v5 = .int .i64 x5_1 ∧ Aside0 (laws_sameTexts.l0 kq l0 l1 x5_1 = some r) ∧ Aside0 (kq ≤ k) ∧ Drawn0 w w')
 case atStart => exact ⟨(0), rs, H', ⟨Nat.le_refl _⟩, dr⟩
 case round =>
  clear H'
  obtain ⟨x5_1, rfl, HA, HK1, ⟨m1, rfl⟩⟩ := hrel
  cases gk with
  | zero => exact absurd HA.out (by simp [laws_sameTexts.l0])
  | succ k1 =>
   have H := HA.out
   clear HA
   simp only [laws_sameTexts.l0] at H
   by_cases c4 : x5_1 < (l0.length : Int)
   rotate_left
   ·rw [if_neg c4] at H
    have c4b0 := decide_eq_false c4
    clear c4
    obtain rfl := si_ H
    go_wp2
    repeat (go_quiet (fail); try go_wp2)
    go_ret
    exact ⟨rs, dr⟩
   rw [if_pos c4] at H
   have c4b0 := decide_eq_true c4
   clear c4
   revert H
   refine ifn fun c5 H => ?_
   have c5b0 := decide_eq_true c5
   clear c5
   revert H
   refine ifn fun c6 H => ?_
   have c6b0 := decide_eq_true c6
   clear c6
   by_cases c7 : (rdOf ByteArray.empty l0 x5_1).toList = (rdOf ByteArray.empty l1 x5_1).toList
   rotate_left
   ·rw [if_neg c7] at H
    have c7b0 := eqf c7
    have c7b1 := net c7
    obtain rfl := si_ H
    have p8 : 0 ≤ (x5_1 : Int) := od
    have q8 : x5_1 < (l0.length : Int) := od
    obtain ⟨ad8, e8, hx8_0⟩ := Kd.at_string HR0.out x5_1 p8 q8
    cases e8
    replace p8 := eq_true p8
    replace q8 := eq_true q8
    have p9 : 0 ≤ (x5_1 : Int) := od
    have q9 : x5_1 < (l1.length : Int) := od
    obtain ⟨ad9, e9, hx9_0⟩ := Kd.at_string HR1.out x5_1 p9 q9
    cases e9
    replace p9 := eq_true p9
    replace q9 := eq_true q9
    go_wp2
    repeat (go_quiet (fail); try go_wp2)
    go_ret
    exact ⟨rs, dr⟩
   rw [if_pos c7] at H
   have c7b0 := eqt c7
   have c7b1 := nef c7
   clear c7
   have H' := am H
   clear H
   have p8 : 0 ≤ (x5_1 : Int) := od
   have q8 : x5_1 < (l0.length : Int) := od
   obtain ⟨ad8, e8, hx8_0⟩ := Kd.at_string HR0.out x5_1 p8 q8
   cases e8
   replace p8 := eq_true p8
   replace q8 := eq_true q8
   have p9 : 0 ≤ (x5_1 : Int) := od
   have q9 : x5_1 < (l1.length : Int) := od
   obtain ⟨ad9, e9, hx9_0⟩ := Kd.at_string HR1.out x5_1 p9 q9
   cases e9
   replace p9 := eq_true p9
   replace q9 := eq_true q9
   go_wp2
   repeat (go_quiet (fail); try go_wp2)
   go_roundg k1
   case measure => have := HK1.out; omega
   case rel => exact ⟨(wrap64 (x5_1 + 1)), rs, H', ⟨by have := HK1.out; omega⟩, dr⟩
theorem u128HI0 {p : Prop} (h : p := by repeat (first | (with_reducible first | exact HI0.out | apply IsS139.alloc | apply IsS139.drewN | apply IsS139.drew | apply IsS139.set_1 | apply IsS139.set_2) | exact HI0.out)) : p := h
theorem u128HB {p : Prop} (h : p := by repeat (first | (with_reducible first | exact HB.out | apply below_alloc | apply pw_below_drewN | apply below_drew1 | refine below_set ?_ (IsS139.ge HI0.out)) | exact HB.out)) : p := h
theorem u128HK {p : Prop} (h : p := by repeat (first | (with_reducible first | exact HK.out | apply KeepBut.set_ | apply keep_drewN | apply keep_drew | apply keep_alloc) | exact HK.out)) : p := h
def spec_l3Dent.f (s0_0 : List Int) (s0_1 : Int) (s0_2 : Int) (a1 : ByteArray) (l2 : List ByteArray) : Option (ByteArray × Int × Int) := (spec_l1Below.f s0_0 s0_1 s0_2 (wrap64 ((a1.size : Int) + 1))).bind fun bt22 => ((spec_l1Below.f s0_0 bt22.2.1 bt22.2.2 5).bind fun bt23 => (if bt23.1 = 0 then (if 0 ≤ bt22.1 then (if bt22.1 ≤ (a1.size : Int) then (some (a1.extract 0 (bt22.1 : Int).toNat, bt23.2.1, bt23.2.2)) else (none)) else (none)) else (if bt23.1 = 1 then (if 0 ≤ bt22.1 then (if bt22.1 ≤ (a1.size : Int) then ((spec_l1Pick.f s0_0 bt23.2.1 bt23.2.2 l2).bind fun bt24 => (if (a1.extract 0 (bt22.1 : Int).toNat).size + bt24.1.size ≤ 9223372036854775807 then (if ((a1.extract 0 (bt22.1 : Int).toNat) ++ bt24.1).size + (a1.extract (bt22.1 : Int).toNat a1.size).size ≤ 9223372036854775807 then (some (((a1.extract 0 (bt22.1 : Int).toNat) ++ bt24.1) ++ (a1.extract (bt22.1 : Int).toNat a1.size), bt24.2.1, bt24.2.2)) else (none)) else (none))) else (none)) else (none)) else (some (a1, bt23.2.1, bt23.2.2)))))
def spec_l3Dent.T6 : Bool × List (List Nat × List Nat) := (true, [([], []), ([], []), ([0, 1], [0, 1]), ([], []), ([], []), ([3, 4], [3, 4]), ([2, 5], [2, 5]), ([], []), ([], []), ([7, 8], [7, 8]), ([6, 9], [6, 9]), ([10, 5, 0, 1, 2, 3, 4, 5, 6, 7, 8, 9, 10], [10])])
def spec_l3Dent.B6 : List Nat := [0, 0, 3, 0, 0, 24, 63, 0, 0, 384, 1023, 2047]
theorem spec_l3Dent.tab6 : rtab .any (opsOf Tryz.f128 6) = spec_l3Dent.T6 := by kernel_rfl
theorem spec_l3Dent.bits6 : waitsOk spec_l3Dent.T6.2 spec_l3Dent.B6 = true := by kernel_rfl
theorem spec_l3Dent.calls (g : Nat) (s0_0 : List Int) (s0_1 : Int) (s0_2 : Int) (a1 : ByteArray) (A2 : Option Addr) (c2 : Nat) (l2 : List ByteArray) (r1 : ByteArray) (r2 : Int) (r3 : Int) (w0 w : World) (hI : IsS139 w0 w g s0_0 s0_1 s0_2) (hB : Below w0.heap.size w0 w) (hr2 : Kd.C Kd.string w A2 l2.length l2) (hc2 : l2.length ≤ c2) (hf2 : ∀ ad, A2 = some ad → 0 < l2.length → ad.block ≠ g) (h : spec_l3Dent.f s0_0 s0_1 s0_2 a1 l2 = some (r1, r2, r3)) :
  Calls Tryz.prog 128 #[.pointer (some ⟨g, 0, none⟩), .string a1, .slice A2 l2.length c2] w fun e w' => e = .returned (.string r1) ∧ IsS139 w0 w' g s0_0 r2 r3 ∧ Below w0.heap.size w0 w' ∧ KeepBut w w' g none := by
 have HR2 := am hr2
 have HC2 := am hc2
 clear hr2 hc2
 have HI0 := am hI
 have HK := am (KeepBut.refl w g none)
 have HL := am hB.size
 clear hI
 have HW0 := am hB.size
 have HB := am hB
 clear hB
 unfold spec_l3Dent.f at h
 have H := h
 clear h
 revert H
 refine ok3 fun t22 t25 t26 A4 H => ?_
 (try dsimp only at H)
 revert H
 refine ok3 fun t23 t27 t28 A5 H => ?_
 (try dsimp only at H)
 have HH6 := am H
 clear H
 go_enter Tryz.func128, Tryz.ntmps128
 go_upto_if 15 with ((with_reducible refine gw ?_); first | (refine gl 12 Tryz.func74 #[.pointer (some ⟨g, 0, none⟩), .int .i64 (wrap64 ((a1.size : Int) + 1))] ?_; refine (spec_l1Below.calls g s0_0 s0_1 s0_2 (wrap64 ((a1.size : Int) + 1)) t22 t25 t26 w0 _ u128HI0 u128HB A4.out).mono ?_; rintro e w7 ⟨rfl, hi, hb, hk⟩; refine ⟨_, rfl, ?_⟩; replace HK := am (KeepBut.trans u128HK hk (.inl rfl)); replace HB := am (hb); replace HI0 := am (hi); clear hb hk hi) | (refine gl 14 Tryz.func74 #[.pointer (some ⟨g, 0, none⟩), .int .i64 5] ?_; refine (spec_l1Below.calls g s0_0 t25 t26 5 t23 t27 t28 w0 _ u128HI0 u128HB A5.out).mono ?_; rintro e w8 ⟨rfl, hi, hb, hk⟩; refine ⟨_, rfl, ?_⟩; replace HK := am (KeepBut.trans u128HK hk (.inl rfl)); replace HB := am (hb); replace HI0 := am (hi); clear hb hk hi))
 have H := HH6.out
 clear HH6
 by_cases c9 : t23 = 0
 ·rw [if_pos c9] at H
  have c9b0 := eqt c9
  have c9b1 := nef c9
  clear c9
  (first | rw [c9b0] | (simp only [i64_w, i32_w]; rw [c9b0]) | skip)
  revert H
  refine ifn fun c10 H => ?_
  have c10b0 := eq_true c10
  have c10b1 := decide_eq_true c10
  clear c10
  revert H
  refine ifn fun c11 H => ?_
  have c11b0 := eq_true c11
  have c11b1 := decide_eq_true c11
  clear c11
  simp only [Option.some.injEq, Prod.mk.injEq] at H
  obtain ⟨rfl, rfl, rfl⟩ := H
  go_wp2
  go_ret
  exact ⟨rf, u128HI0, u128HB, u128HK⟩
 rw [if_neg c9] at H
 have c9b0 := eqf c9
 have c9b1 := net c9
 (first | rw [c9b0] | (simp only [i64_w, i32_w]; rw [c9b0]) | skip)
 by_cases c12 : t23 = 1
 rotate_left
 ·rw [if_neg c12] at H
  have c12b0 := eqf c12
  have c12b1 := net c12
  simp only [Option.some.injEq, Prod.mk.injEq] at H
  obtain ⟨rfl, rfl, rfl⟩ := H
  go_wp2
  go_ret
  exact ⟨rf, u128HI0, u128HB, u128HK⟩
 rw [if_pos c12] at H
 have c12b0 := eqt c12
 have c12b1 := nef c12
 clear c12
 revert H
 refine ifn fun c13 H => ?_
 have c13b0 := eq_true c13
 have c13b1 := decide_eq_true c13
 clear c13
 revert H
 refine ifn fun c14 H => ?_
 have c14b0 := eq_true c14
 have c14b1 := decide_eq_true c14
 clear c14
 revert H
 refine ok3 fun t24 t29 t30 A15 H => ?_
 (try dsimp only at H)
 revert H
 refine ifn fun c16 H => ?_
 have c16b0 := eq_true c16
 have c16b1 := decide_eq_true c16
 try have c16b2 := eq_false (Nat.not_lt.2 c16)
 have c17b0 := eq_true (od : 0 ≤ t22)
 have c18b0 := eq_true (od : t22 ≤ (a1.size : Int))
 revert H
 refine ifn fun c19 H => ?_
 have c19b0 := eq_true c19
 have c19b1 := decide_eq_true c19
 try have c19b2 := eq_false (Nat.not_lt.2 c19)
 have c19b3 : (9223372036854775807 < (a1.extract 0 (t22 : Int).toNat).size + (t24).size + (a1.extract (t22 : Int).toNat a1.size).size) = False := b3 c19
 have e0_ : (a1.extract 0 t22.toNat).size = t22.toNat := by rw [ByteArray.size_extract]; have h1_ := of_eq_true c17b0; have h2_ := of_eq_true c18b0; omega
 have e1_ : (a1.extract t22.toNat a1.size).size = a1.size - t22.toNat := by rw [ByteArray.size_extract]; omega
 have e2_ : (9223372036854775807 < t22.toNat + t24.size) = False := by have h_ := c16b2; rw [e0_] at h_; exact h_
 have e3_ : (9223372036854775807 < t22.toNat + t24.size + (a1.size - t22.toNat)) = False := by have h_ := c19b3; rw [e0_, e1_] at h_; exact h_
 simp only [Option.some.injEq, Prod.mk.injEq] at H
 obtain ⟨rfl, rfl, rfl⟩ := H
 try go_wp2
 replace HI0 := am (IsS139.drew HI0.out)
 replace HK := am (keep_drew HK.out)
 replace HB := am (below_drew1 HB.out)
 refine start_ (n := 12) (S := fun w' => True) (ds := []) ⟨br true [0, 12]⟩ (by kernel_rfl) rfl (by kernel_rfl) trivial (fun hHeld => ?_); refine with_tabW spec_l3Dent.tab6 spec_l3Dent.bits6 (fun HT_ HW_ => ?_)
 generalize w8.drew = w20 at HI0 HK HB hHeld ⊢
 refine pu 0 22 [1, 11] ?_
 refine pu 1 23 [2, 10] ?_
 refine pu 2 24 [3, 9] ?_
 refine pu 3 25 [4, 8] ?_
 refine pu 4 26 [5, 7] ?_
 refine pu 7 29 [5, 2, 1, 4] ?_
 refine pu 8 30 [5, 2, 2, 3] ?_
 refine pu 9 31 [5, 2, 3, 2] ?_
 refine og 5 27 [6, 1, 3, 2] Tryz.func84 #[.pointer (some ⟨g, 0, none⟩), .slice A2 l2.length c2] (fun K hK => ?_)
 refine (spec_l1Pick.calls g s0_0 t27 t28 _ _ l2 t24 t29 t30 w0 _ u128HI0 u128HB (Kd.C_keep (⟨#[]⟩ : ByteArray) HR2.out u128HK hf2) HC2.out hf2 A15.out).mono ?_
 rintro e w21 ⟨rfl, hi, hb, hk⟩
 refine ⟨_, rfl, ?_⟩
 replace HK := am (KeepBut.trans u128HK hk (.inl rfl))
 replace HB := am (hb)
 replace HI0 := am (hi)
 clear hb hk hi
 refine hK.out _ _ trivial (fun hHeld => ?_)
 clear hK K
 refine nm 27 ?_
 refine pu 6 28 [10, 2] ?_
 refine pu 10 32 [11, 1] ?_
 refine pu 11 6 [12] ?_
 refine done_ (done_of HT_.out (by kernel_rfl)) ?_
 try go_wp2
 go_ret
 exact ⟨rf, u128HI0, u128HB, u128HK⟩
theorem u58HB {p : Prop} (h : p := by repeat (first | (with_reducible first | exact HB.out | apply below_alloc | apply pw_below_drewN | apply below_drew1 | refine below_set ?_ (IsS139.ge HI18.out)) | exact HB.out)) : p := h
theorem u58HI18 {p : Prop} (h : p := by repeat (first | (with_reducible first | exact HI18.out | apply IsS139.alloc | apply IsS139.drewN | apply IsS139.drew | apply IsS139.set_1 | apply IsS139.set_2) | exact HI18.out)) : p := h
def spec_DrawObjRead.f (k : Nat) (l0 : List Int) : Option (ByteArray) := (spec_l1New.f k l0).bind fun bt19 => ((spec_l1Below.f bt19.1 bt19.2.1 bt19.2.2 30).bind fun bt25 => ((spec_l10DrawRight.f k bt19.1 bt25.2.1 bt25.2.2 bt25.1).bind fun bt20 => ((spec_ObjText.f k bt20.1 bt20.2.1 bt20.2.2.1 bt20.2.2.2.1 bt20.2.2.2.2.1 bt20.2.2.2.2.2.1 bt20.2.2.2.2.2.2.1).bind fun t26 => ((spec_l3Dent.f bt19.1 bt20.2.2.2.2.2.2.2.1 bt20.2.2.2.2.2.2.2.2 t26 (([(⟨#[32]⟩ : ByteArray), (⟨#[10]⟩ : ByteArray), (⟨#[48]⟩ : ByteArray), (⟨#[120]⟩ : ByteArray), (⟨#[49]⟩ : ByteArray)] : List ByteArray))).bind fun bt30 => (some bt30.1)))))
theorem spec_DrawObjRead.calls (k : Nat) (A0 : Option Addr) (c0 : Nat) (l0 : List Int) (r : ByteArray) (w : World) (hr0 : Kd.C (Kd.int .u8) w A0 l0.length l0) (hc0 : l0.length ≤ c0) (h : spec_DrawObjRead.f k l0 = some r) :
  Calls Tryz.prog 58 #[.slice A0 l0.length c0] w fun e w' => e = .returned (.string r) ∧ Below w.heap.size w w' := by
 have HR0 := am hr0
 have HC0 := am hc0
 clear hr0 hc0
 have HB := am (Below.refl w.heap.size w)
 unfold spec_DrawObjRead.f at h
 have H := h
 clear h
 revert H
 refine ok3 fun t19 t37 t38 A2 H => ?_
 (try dsimp only at H)
 revert H
 refine ok3 fun t25 t39 t41 A3 H => ?_
 (try dsimp only at H)
 replace H := ob H
 obtain ⟨⟨t20, t31, t32, t33, t34, t35, t36, t27, t28⟩, A40, H⟩ := H
 replace H : ((spec_ObjText.f k t20 t31 t32 t33 t34 t35 t36).bind fun t26 => ((spec_l3Dent.f t19 t27 t28 t26 (([(⟨#[32]⟩ : ByteArray), (⟨#[10]⟩ : ByteArray), (⟨#[48]⟩ : ByteArray), (⟨#[120]⟩ : ByteArray), (⟨#[49]⟩ : ByteArray)] : List ByteArray))).bind fun bt30 => (some bt30.1))) = some r := H
 have A4 := am A40
 clear A40
 revert H
 refine ok1 fun t26 A5 H => ?_
 obtain ⟨y23, hy23⟩ : ∃ y_, y_ = (([(⟨#[32]⟩ : ByteArray), (⟨#[10]⟩ : ByteArray), (⟨#[48]⟩ : ByteArray), (⟨#[120]⟩ : ByteArray), (⟨#[49]⟩ : ByteArray)] : List ByteArray)) := ⟨_, rfl⟩
 (try with_reducible replace H := bs_ H)
 rw [← hy23] at H
 have Ny23 := am hy23
 clear hy23
 revert H
 refine ok3 fun t30 t42 t43 A6 H => ?_
 (try dsimp only at H)
 obtain rfl := si_ H
 go_enter Tryz.func58, Tryz.ntmps58
 go_wp2_with (first | ((with_reducible refine gw ?_); refine gl 5 Tryz.func59 #[.slice A0 l0.length c0] ?_; refine (spec_l1New.calls k _ _ l0 t19 t37 t38 w _ u58HB HR0.out HC0.out A2.out).mono ?_; rintro e w7 ⟨g18, rfl, hi, hb, hb2⟩; refine ⟨_, rfl, ?_⟩; replace HB := am (hb); have HI18 := am (hi); clear hb hb2 hi) | ((with_reducible refine gw ?_); refine gl 9 Tryz.func74 #[.pointer (some ⟨g18, 0, none⟩), .int .i64 30] ?_; refine (spec_l1Below.calls g18 t19 t37 t38 30 t25 t39 t41 w _ u58HI18 u58HB A3.out).mono ?_; rintro e w8 ⟨rfl, hi, hb, hk⟩; refine ⟨_, rfl, ?_⟩; replace HB := am (hb); replace HI18 := am (hi); clear hb hk hi) | ((with_reducible refine gw ?_); refine gl 10 Tryz.func129 #[.pointer (some ⟨g18, 0, none⟩), .int .i64 t25] ?_; refine (spec_l10DrawRight.calls k g18 t19 t39 t41 t25 t20 t31 t32 t33 t34 t35 t36 t27 t28 w _ u58HI18 u58HB A4.out).mono ?_; rintro e w9 ⟨v44, v45, v46, rfl, ho0, ho1, ho2, hi, hb, hk⟩; refine ⟨_, rfl, ?_⟩; have HO21 := am (Kd.R_lower ho0 (below_size u58HB)); have HO22 := am (Kd.R_lower ho1 (below_size u58HB)); have HO24 := am (Kd.R_lower ho2 (below_size u58HB)); replace HB := am (hb); replace HI18 := am (hi); clear hb hk hi ho0 ho1 ho2; obtain ⟨Ao10, co10, eo10⟩ := Kd.R_slice HO21.out; subst eo10; obtain ⟨Ao11, co11, eo11⟩ := Kd.R_slice HO22.out; subst eo11; obtain ⟨Ao12, co12, eo12⟩ := Kd.R_slice HO24.out; subst eo12) | ((with_reducible refine gw ?_); refine gl 11 Tryz.func56 #[.agg #[.string t20, .slice Ao10 t31.length co10, .slice Ao11 t32.length co11, .int .i64 t33, .slice Ao12 t34.length co12, .string t35, .int .i64 t36]] ?_; refine (spec_ObjText.calls k t20 _ _ t31 _ _ t32 t33 _ _ t34 t35 t36 t26 _ (rc HO21) ((Kd.R_reads' HO21.out).2.1) (rc HO22) ((Kd.R_reads' HO22.out).2.1) (rc HO24) ((Kd.R_reads' HO24.out).2.1) A5.out).mono ?_; rintro e w13 ⟨rfl, hb⟩; refine ⟨_, rfl, ?_⟩; replace HO21 := kr HO21 hb; replace HO22 := kr HO22 hb; replace HO24 := kr HO24 hb; replace HB := am (below_step u58HB hb); replace HI18 := am (IsS139.below u58HI18 hb); clear hb) | ((with_reducible refine gate_dst (N := 12) rfl ?_); refine rl Kd.string 9 12 ([(⟨#[32]⟩ : ByteArray), (⟨#[10]⟩ : ByteArray), (⟨#[48]⟩ : ByteArray), (⟨#[120]⟩ : ByteArray), (⟨#[49]⟩ : ByteArray)] : List ByteArray) [.string (⟨#[32]⟩ : ByteArray), .string (⟨#[10]⟩ : ByteArray), .string (⟨#[48]⟩ : ByteArray), .string (⟨#[120]⟩ : ByteArray), .string (⟨#[49]⟩ : ByteArray)] ?_; intro v47 w14 ho15 hb; (first | rw [← Ny23.out] at ho15 | (simp only [Int.reduceToNat] at ho15; rw [← Ny23.out] at ho15)); replace HO24 := kr HO24 hb; have HO29 := am (Kd.R_lower (Kd.R_new' (Kd.R_new' ho15 (Kd.R_lt (ro HO21))) (Kd.R_lt (ro HO22))) (below_size u58HB)); replace HO21 := am (Kd.R_elder' (ro HO21) (Kd.R_base ho15) hb); replace HO22 := am (Kd.R_elder' (ro HO22) (Kd.R_base ho15) hb); replace HB := am (below_step u58HB hb); replace HI18 := am (IsS139.below u58HI18 hb); clear hb ho15; obtain ⟨Ao16, co16, eo16⟩ := Kd.R_slice HO29.out; subst eo16) | ((with_reducible refine gw ?_); refine gl 13 Tryz.func128 #[.pointer (some ⟨g18, 0, none⟩), .string t26, .slice Ao16 y23.length co16] ?_; refine (spec_l3Dent.calls g18 t19 t27 t28 t26 _ _ y23 t30 t42 t43 w _ u58HI18 u58HB (rc HO29) ((Kd.R_reads' HO29.out).2.1) (far_slice (IsS139.own_ne HI18.out HO29.out (by decide))) A6.out).mono ?_; rintro e w17 ⟨rfl, hi, hb, hk⟩; refine ⟨_, rfl, ?_⟩; replace HO21 := am (Kd.R_mono (Kd.R_keep (IsS139.apart (show IsS139 w _ g18 t19 t27 t28 from u58HI18) (ro HO21) (by decide)) hk (fun _ h => h.2)) (fun _ h => h.1)); replace HO22 := am (Kd.R_mono (Kd.R_keep (IsS139.apart (show IsS139 w _ g18 t19 t27 t28 from u58HI18) (ro HO22) (by decide)) hk (fun _ h => h.2)) (fun _ h => h.1)); replace HO24 := am (Kd.R_mono (Kd.R_keep (IsS139.apart (show IsS139 w _ g18 t19 t27 t28 from u58HI18) (ro HO24) (by decide)) hk (fun _ h => h.2)) (fun _ h => h.1)); replace HO29 := am (Kd.R_mono (Kd.R_keep (IsS139.apart (show IsS139 w _ g18 t19 t27 t28 from u58HI18) (ro HO29) (by decide)) hk (fun _ h => h.2)) (fun _ h => h.1)); replace HB := am (hb); replace HI18 := am (hi); clear hb hk hi))
 go_ret
 exact ⟨rf, u58HB⟩
theorem laws_FnObjects.gx {P : Program} {ops : Array Oper} {oi : Oper} {a : Act} {w : World} {Q : Exit → Act → World → Prop} {rest : List Oper} (n : Nat) (_hd : oi.dst = some n) (_hg : oi.guard = none) (h : wpList P ops Q (oi :: rest) a w) : wpList P ops Q (oi :: rest) a w := h
theorem u9HB {p : Prop} (h : p := by repeat (first | (with_reducible first | exact HB.out | apply below_alloc | apply pw_below_drewN | apply below_drew1 | refine below_set ?_ GE17.out | refine below_set ?_ GE19.out) | exact HB.out)) : p := h
mutual
def laws_FnObjects.j0 : Nat → List Int → ByteArray → Bool → ByteArray → List ByteArray → List ByteArray → Int → List (S116) → ByteArray → Int → Option (Bool)
 | 0, _, _, _, _, _, _, _, _, _, _ => none
 | k + 1, x0, x4, x28, x139, x140, x141, x142, x143, x144, x145 => if x28 = true then (some false) else (if x4.toList = ([] : List UInt8) then (laws_FnObjects.j1 k x0) else ((impl_ObjRead.f k x4).bind fun bt89 => (if bt89.2.2.2.2.2.2.2 = true then (if bt89.1.toList = x139.toList then (if bt89.2.2.2.2.2.2.1 = x145 then ((laws_sameTexts.f k bt89.2.2.1 x141).bind fun t132 => (if t132 = true then ((laws_sameTexts.f k bt89.2.1 x140).bind fun t133 => (if t133 = true then ((impl_RespText.f k bt89.2.2.2.1 bt89.2.2.2.2.1 bt89.2.2.2.2.2.1).bind fun t128 => ((impl_RespText.f k x142 x143 x144).bind fun t129 => (if t128.toList = t129.toList then (laws_FnObjects.j1 k x0) else (some false)))) else (some false))) else (some false))) else (some false)) else (some false)) else (some false))))
def laws_FnObjects.j1 : Nat → List Int → Option (Bool)
 | 0, _ => none
 | k + 1, x0 => (spec_DrawObjRead.f k x0).bind fun t107 => ((impl_ObjRead.f k t107).bind fun bt94 => ((spec_ObjRead.f k t107).bind fun bt121 => (if (bt94.2.2.2.2.2.2.2 == bt121.2.2.2.2.2.2.2) = true then (if bt94.2.2.2.2.2.2.2 = true then ((impl_ObjText.f k bt94.1 bt94.2.1 bt94.2.2.1 bt94.2.2.2.1 bt94.2.2.2.2.1 bt94.2.2.2.2.2.1 bt94.2.2.2.2.2.2.1).bind fun t134 => (some (t134.toList == t107.toList))) else (if bt94.1.toList = ([] : List UInt8) then (some true) else (some false))) else (some false))))
end
def laws_FnObjects.f (k : Nat) (l0 : List Int) : Option (Bool) := (laws_big.f l0).bind fun t135 => (if t135 = true then (some true) else ((spec_DrawObjText.f k l0).bind fun bt83 => ((impl_ObjText.f k bt83.1 bt83.2.1 bt83.2.2.1 bt83.2.2.2.1 bt83.2.2.2.2.1 bt83.2.2.2.2.2.1 bt83.2.2.2.2.2.2).bind fun t98 => ((spec_ObjText.f k bt83.1 bt83.2.1 bt83.2.2.1 bt83.2.2.2.1 bt83.2.2.2.2.1 bt83.2.2.2.2.2.1 bt83.2.2.2.2.2.2).bind fun t130 => (if t98.toList = t130.toList then ((impl_ObjOk.f k bt83.1 bt83.2.1 bt83.2.2.1 bt83.2.2.2.1 bt83.2.2.2.2.1 bt83.2.2.2.2.2.1 bt83.2.2.2.2.2.2).bind fun t122 => (laws_FnObjects.j0 k l0 t98 ((t98.toList != ([] : List UInt8)) != t122) bt83.1 bt83.2.1 bt83.2.2.1 bt83.2.2.2.1 bt83.2.2.2.2.1 bt83.2.2.2.2.2.1 bt83.2.2.2.2.2.2)) else (laws_FnObjects.j0 k l0 t98 true bt83.1 bt83.2.1 bt83.2.2.1 bt83.2.2.2.1 bt83.2.2.2.2.1 bt83.2.2.2.2.2.1 bt83.2.2.2.2.2.2))))))
def laws_FnObjects.T9 : Bool × List (List Nat × List Nat) := (true, [([], []), ([0], [0]), ([1], [1]), ([2], [2]), ([3, 2], [2, 3]), ([2], [2]), ([5, 2], [2, 5]), ([4, 6, 2], [2, 4, 6]), ([2, 7], [2, 7]), ([8, 2], [8]), ([9], [9]), ([10, 9], [9, 10]), ([9], [9]), ([12, 9], [9, 12]), ([11, 13, 9], [9, 11, 13]), ([9, 14], [9, 14]), ([15, 9], [15]), ([16], [16]), ([17, 16], [16, 17]), ([16], [16]), ([19, 16], [16, 19]), ([18, 20, 16, 16], [16, 18, 20]), ([21, 16], [16, 21]), ([16, 22], [16, 22]), ([23, 21], [23]), ([24], [24]), ([25, 24], [24, 25]), ([24], [24]), ([27, 24], [24, 27]), ([26, 28, 24, 24], [24, 26, 28]), ([29, 24], [24, 29]), ([24, 30], [24, 30]), ([31, 29], [31]), ([32], [32]), ([33, 32], [32, 33]), ([34, 32, 32], [32, 34]), ([32], [32]), ([36, 32], [32, 36]), ([37, 35, 32], [32, 37]), ([35, 38, 32], [32, 35, 38]), ([32, 39], [32, 39])])
def laws_FnObjects.B9 : List Nat := [0, 1, 3, 7, 15, 7, 39, 127, 255, 511, 1023, 2047, 1023, 5119, 16383, 32767, 65535, 131071, 262143, 131071, 655359, 2097151, 4194303, 8388607, 16777215, 33554431, 67108863, 33554431, 167772159, 536870911, 1073741823, 2147483647, 4294967295, 8589934591, 17179869183, 34359738367, 8589934591, 77309411327, 274877906943, 549755813887, 1099511627775]
theorem laws_FnObjects.tab9 : rtab .any (opsOf Tryz.f9 9) = laws_FnObjects.T9 := by kernel_rfl
theorem laws_FnObjects.bits9 : waitsOk laws_FnObjects.T9.2 laws_FnObjects.B9 = true := by kernel_rfl
theorem laws_FnObjects.calls (k : Nat) (A0 : Option Addr) (c0 : Nat) (l0 : List Int) (r : Bool) (w : World) (hGE : GLOBE w) (hGM : GLOBM w) (hGT : GLOBT w) (hr0 : Kd.C (Kd.int .u8) w A0 l0.length l0) (hc0 : l0.length ≤ c0) (ht_ : r = true) (h : laws_FnObjects.f k l0 = some r) :
  Calls Tryz.prog 9 #[.slice A0 l0.length c0] w fun e w' => e = .returned (.bool r) ∧ Below w.heap.size w w' := by
 have hu31 := Tryz.underlying31
 have hu29 := Tryz.underlying29
 have HR0 := am hr0
 have HC0 := am hc0
 clear hr0 hc0
 have HGE := am hGE
 clear hGE
 have HGM := am hGM
 clear hGM
 have HGT := am hGT
 clear hGT
 have HB := am (Below.refl w.heap.size w)
 unfold laws_FnObjects.f at h
 have H := h
 clear h
 revert H
 refine ok1 fun t135 A2 H => ?_
 by_cases c3 : t135 = true
 ·subst c3
  rw [if_pos rfl] at H
  obtain rfl := si_ H
  go_enter Tryz.func9, Tryz.ntmps9
  go_wp2_with (first | ((with_reducible refine laws_FnObjects.gx 13 rfl rfl ?_); refine gl 13 Tryz.func10 #[.slice A0 l0.length c0] ?_; refine (laws_big.calls _ _ l0 true _ (cc HR0) HC0.out A2.out).mono ?_; rintro e w' ⟨rfl, ⟨nd, rfl⟩⟩; refine ⟨_, rfl, ?_⟩))
  go_ret
  exact ⟨rf, bl⟩
 replace c3 := nb_ c3
 subst c3
 rw [if_neg ff_] at H
 revert H
 refine ok7 fun t83 t87 t88 t108 t90 t109 t111 A4 H => ?_
 (try dsimp only at H)
 revert H
 refine ok1 fun t98 A5 H => ?_
 have HC6 := am H
 clear H
 go_enter Tryz.func9, Tryz.ntmps9
 go_upto_region 5 with (first | ((with_reducible refine laws_FnObjects.gx 13 rfl rfl ?_); refine gl 13 Tryz.func10 #[.slice A0 l0.length c0] ?_; refine (laws_big.calls _ _ l0 false _ (cc HR0) HC0.out A2.out).mono ?_; rintro e w' ⟨rfl, ⟨nd, rfl⟩⟩; refine ⟨_, rfl, ?_⟩) | ((with_reducible refine laws_FnObjects.gx 15 rfl rfl ?_); refine gl 15 Tryz.func54 #[.slice A0 l0.length c0] ?_; refine (spec_DrawObjText.calls k _ _ l0 t83 t87 t88 t108 t90 t109 t111 _ (cc HR0) HC0.out A4.out).mono ?_; rintro e w7 ⟨v153, v154, v155, rfl, ho0, ho1, ho2, hb⟩; refine ⟨_, rfl, ?_⟩; have HO99 := am (Kd.R_lower ho0 (below_size bl)); have HO100 := am (Kd.R_lower ho1 (below_size bl)); have HO101 := am (Kd.R_lower ho2 (below_size bl)); replace HB := am (below_step bl hb); clear hb ho0 ho1 ho2) | ((with_reducible refine laws_FnObjects.gx 3 rfl rfl ?_); refine bx 3 #[.string (⟨#[]⟩ : ByteArray), .slice none 0 0, .slice none 0 0, .int .i64 0, .slice none 0 0, .string (⟨#[]⟩ : ByteArray), .int .i64 0] 31 ?_; intro gb17 hg w8 hbox hb; replace HO99 := am (Kd.R_below (ro HO99) hb); replace HO100 := am (Kd.R_below (ro HO100) hb); replace HO101 := am (Kd.R_below (ro HO101) hb); have BK17 := am (hbox); have GW17 := am (sz hg : w.heap.size ≤ gb17); have GE17 := am (sz hg : w.heap.size ≤ gb17); replace HB := am (below_step bl hb); clear hb hbox hg; obtain ⟨_, _, _, _, _, _, _, _, _, _, _, _, _, _⟩ := cl7 BK17; obtain ⟨Ao10, co10, eo10⟩ := Kd.R_slice HO99.out; subst eo10; obtain ⟨Ao11, co11, eo11⟩ := Kd.R_slice HO100.out; subst eo11; obtain ⟨Ao12, co12, eo12⟩ := Kd.R_slice HO101.out; subst eo12) | ((with_reducible refine laws_FnObjects.gx 17 rfl rfl ?_); refine gl 17 Tryz.func55 #[.agg #[.string t83, .slice Ao10 t87.length co10, .slice Ao11 t88.length co11, .int .i64 t108, .slice Ao12 t90.length co12, .string t109, .int .i64 t111]] ?_; (with_reducible refine (impl_ObjText.calls k t83 _ _ t87 _ _ t88 t108 _ _ t90 t109 t111 t98 _ ?side1 ?side2 ?side3 ?side4 ?side5 ?side6 ?side7 ?side8 A5.out).mono ?_); (case side1 => exact GLOBM.below HGM.out bl); (case side2 => exact GLOBT.below HGT.out bl); (case side3 => refine (Kd.R_reads' (e := 9) (base := w.heap.size) (ok := fun k_ => some k_ ≠ (.slice Ao11 t88.length co11 : Value).ownBlock) (n := t87.length) (c := co10) ?_).2.2; exact (rj (Kd.R_types HO99.out BK17.out (by decide)) (fun _ h_ => h_.1))); (case side4 => exact (Kd.R_reads' HO99.out).2.1); (case side5 => refine (Kd.R_reads' (e := 9) (base := w.heap.size) (ok := fun k_ => some k_ ≠ (.slice Ao10 t87.length co10 : Value).ownBlock) (n := t88.length) (c := co11) ?_).2.2; exact (rj (Kd.R_types HO100.out BK17.out (by decide)) (fun _ h_ => h_.1))); (case side6 => exact (Kd.R_reads' HO100.out).2.1); (case side7 => refine (Kd.R_reads' (e := 116) (base := w.heap.size) (ok := fun k_ => True) (n := t90.length) (c := co12) ?_).2.2; exact (rj (Kd.R_types HO101.out BK17.out (by decide)) (fun _ h_ => h_.1))); (case side8 => exact (Kd.R_reads' HO101.out).2.1); rintro e w13 ⟨rfl, hb⟩; refine ⟨_, rfl, ?_⟩; replace HO99 := am (Kd.R_below (rj (Kd.R_types HO99.out BK17.out (by decide)) (fun _ h_ => h_.1)) hb); replace HO100 := am (Kd.R_below (rj (Kd.R_types HO100.out BK17.out (by decide)) (fun _ h_ => h_.1)) hb); replace HO101 := am (Kd.R_below (rj (Kd.R_types HO101.out BK17.out (by decide)) (fun _ h_ => h_.1)) hb); replace BK17 := am (blk_below (g := gb17) (o := .cells #[.string t83, .slice Ao10 t87.length co10, .slice Ao11 t88.length co11, .int .i64 t108, .slice Ao12 t90.length co12, .string t109, .int .i64 t111] 31 (0, 0)) (pt0 BK17) hb); replace HB := am (below_step bl hb); clear hb))
 (try simp only [Act.put, List.setIfInBounds_toArray, List.set_cons_zero, List.set_cons_succ])
 go_cut [28] (fun v28 wc => ∃ (kq : Nat) (x28_5 : Bool), v28 = .bool x28_5 ∧ Aside0 (laws_FnObjects.j0 kq l0 t98 x28_5 t83 t87 t88 t108 t90 t109 t111 = some r) ∧ Aside0 (kq ≤ k) ∧ Aside0 (Kd.R Kd.string 9 wc w.heap.size (fun k_ => some k_ ≠ ((.slice Ao11 t88.length co11) : Value).ownBlock) (.slice Ao10 t87.length co10) t87) ∧ Aside0 (Kd.R Kd.string 9 wc w.heap.size (fun k_ => some k_ ≠ ((.slice Ao10 t87.length co10) : Value).ownBlock) (.slice Ao11 t88.length co11) t88) ∧ Aside0 (Kd.R k116 116 wc w.heap.size (fun _ => True) (.slice Ao12 t90.length co12) t90) ∧ Aside0 (wc.heap[gb17]? = some (.cells #[.string t83, (.slice Ao10 t87.length co10), (.slice Ao11 t88.length co11), .int .i64 t108, (.slice Ao12 t90.length co12), .string t109, .int .i64 t111] 31 (0, 0))) ∧ Aside0 (Below w.heap.size w wc))
 case first =>
  have H := HC6.out
  clear HC6
  revert H
  refine ok1 fun t130 A14 H => ?_
  by_cases c15 : t98.toList = t130.toList
  rotate_left
  ·rw [if_neg c15] at H
   have c15b0 := eqf c15
   have c15b1 := net c15
   (first | rw [c15b0] | (simp only [i64_w, i32_w]; rw [c15b0]) | skip)
   cases k with
   | zero => exact absurd H (by simp [laws_FnObjects.j0])
   | succ k_ => simp only [laws_FnObjects.j0, if_true] at H; exact absurd (Option.some.inj H) (by rw [ht_]; decide)
  rw [if_pos c15] at H
  have c15b0 := eqt c15
  have c15b1 := nef c15
  clear c15
  (first | rw [c15b0] | (simp only [i64_w, i32_w]; rw [c15b0]) | skip)
  revert H
  refine ok1 fun t122 A16 H => ?_
  have H' := am H
  clear H
  obtain ⟨_, _, _, _, _, _, _, _, _, _, _, _, _, _⟩ := cl7 BK17
  go_wp2_with (first | ((with_reducible refine laws_FnObjects.gx 20 rfl rfl ?_); refine gl 20 Tryz.func56 #[.agg #[.string t83, .slice Ao10 t87.length co10, .slice Ao11 t88.length co11, .int .i64 t108, .slice Ao12 t90.length co12, .string t109, .int .i64 t111]] ?_; refine (spec_ObjText.calls k t83 _ _ t87 _ _ t88 t108 _ _ t90 t109 t111 t130 _ (rc HO99) ((Kd.R_reads' HO99.out).2.1) (rc HO100) ((Kd.R_reads' HO100.out).2.1) (rc HO101) ((Kd.R_reads' HO101.out).2.1) A14.out).mono ?_; rintro e w18 ⟨rfl, hb⟩; refine ⟨_, rfl, ?_⟩; replace HO99 := kr HO99 hb; replace HO100 := kr HO100 hb; replace HO101 := kr HO101 hb; replace BK17 := kb BK17 hb; replace HB := am (below_step bl hb); clear hb; obtain ⟨_, _, _, _, _, _, _, _, _, _, _, _, _, _⟩ := cl7 BK17) | (go_at_call 15; refine (impl_ObjOk.calls k t83 _ _ t87 _ _ t88 t108 _ _ t90 t109 t111 t122 _ (GLOBM.below HGM.out bl) (rc HO99) ((Kd.R_reads' HO99.out).2.1) (rc HO100) ((Kd.R_reads' HO100.out).2.1) (rc HO101) ((Kd.R_reads' HO101.out).2.1) A16.out).mono ?_; rintro e w20 ⟨rfl, hb⟩; replace HO99 := kr HO99 hb; replace HO100 := kr HO100 hb; replace HO101 := kr HO101 hb; replace BK17 := kb BK17 hb; replace HB := am (below_step bl hb); clear hb))
  go_meet
  case rel => exact ⟨_, (((t98.toList != ([] : List UInt8)) != t122)), rs (by first | rfl | (simp; done) | (simp; cases h_ : t98.toList <;> cases t122 <;> first | rfl | simp)), H', ⟨by first | omega | exact Nat.le_refl _⟩, ⟨ro HO99⟩, ⟨ro HO100⟩, ⟨ro HO101⟩, ⟨bk BK17⟩, ⟨u9HB⟩⟩
 case rest =>
  clear HC6
  obtain ⟨kq, x28_5, rfl, HA, HJ5, HO_1919001, HO_1919002, HO_1919004, BK17, HB⟩ := hcut
  cases kq with
  | zero => exact absurd HA.out (by simp [laws_FnObjects.j0])
  | succ kj5 =>
   have H := HA.out
   clear HA
   simp only [laws_FnObjects.j0] at H
   by_cases c21 : x28_5 = true
   ·subst c21
    rw [if_pos rfl] at H
    exact absurd (Option.some.inj H) (by rw [ht_]; decide)
   replace c21 := nb_ c21
   subst c21
   rw [if_neg ff_] at H
   have HC22 := am H
   clear H
   go_upto_if 30 with (fail)
   go_cut [] (fun wc => ∃ (kq : Nat), Aside0 (laws_FnObjects.j1 kq l0 = some r) ∧ Aside0 (kq ≤ kj5) ∧ Aside0 (Kd.R Kd.string 9 wc w.heap.size (fun k_ => some k_ ≠ ((.slice Ao11 t88.length co11) : Value).ownBlock) (.slice Ao10 t87.length co10) t87) ∧ Aside0 (Kd.R Kd.string 9 wc w.heap.size (fun k_ => some k_ ≠ ((.slice Ao10 t87.length co10) : Value).ownBlock) (.slice Ao11 t88.length co11) t88) ∧ Aside0 (Kd.R k116 116 wc w.heap.size (fun _ => True) (.slice Ao12 t90.length co12) t90) ∧ Aside0 (wc.heap[gb17]? = some (.cells #[.string t83, (.slice Ao10 t87.length co10), (.slice Ao11 t88.length co11), .int .i64 t108, (.slice Ao12 t90.length co12), .string t109, .int .i64 t111] 31 (0, 0))) ∧ Aside0 (Below w.heap.size w wc))
   case first =>
    have H := HC22.out
    clear HC22
    by_cases c23 : t98.toList = ([] : List UInt8)
    ·rw [if_pos c23] at H
     have c23b0 := eqt c23
     have c23b2 : t98.toList.isEmpty = true := by rw [c23]; rfl
     have c23b1 := nef c23
     clear c23
     (first | rw [c23b0] | (simp only [i64_w, i32_w]; rw [c23b0]) | rw [c23b2] | skip)
     have H' := am H
     clear H
     go_wp2
     go_meet
     case rel => exact ⟨_, H', ⟨by have := HJ5.out; first | omega | exact Nat.le_refl _⟩, ⟨ro HO_1919001⟩, ⟨ro HO_1919002⟩, ⟨ro HO_1919004⟩, ⟨bk BK17⟩, ⟨u9HB⟩⟩
    rw [if_neg c23] at H
    have c23b0 := eqf c23
    have c23b2 : t98.toList.isEmpty = false := by cases h_ : t98.toList with | nil => exact absurd h_ c23 | cons _ _ => rfl
    have c23b1 := net c23
    (first | rw [c23b0] | (simp only [i64_w, i32_w]; rw [c23b0]) | rw [c23b2] | skip)
    revert H
    refine ok8 fun t89 t95 t96 t102 t97 t103 t110 t146 A24 H => ?_
    (try dsimp only at H)
    by_cases c25 : t146 = true
    rotate_left
    ·replace c25 := nb_ c25
     subst c25
     rw [if_neg ff_] at H
     exact absurd (Option.some.inj H) (by rw [ht_]; decide)
    subst c25
    rw [if_pos rfl] at H
    by_cases c26 : t89.toList = t83.toList
    rotate_left
    ·rw [if_neg c26] at H
     have c26b0 := eqf c26
     have c26b1 := net c26
     exact absurd (Option.some.inj H) (by rw [ht_]; decide)
    rw [if_pos c26] at H
    have c26b0 := eqt c26
    have c26b1 := nef c26
    clear c26
    by_cases c27 : t110 = t111
    rotate_left
    ·rw [if_neg c27] at H
     have c27b0 := eqf c27
     have c27b1 := net c27
     exact absurd (Option.some.inj H) (by rw [ht_]; decide)
    rw [if_pos c27] at H
    have c27b0 := eqt c27
    have c27b1 := nef c27
    clear c27
    revert H
    refine ok1 fun t132 A28 H => ?_
    by_cases c29 : t132 = true
    rotate_left
    ·replace c29 := nb_ c29
     subst c29
     rw [if_neg ff_] at H
     exact absurd (Option.some.inj H) (by rw [ht_]; decide)
    subst c29
    rw [if_pos rfl] at H
    revert H
    refine ok1 fun t133 A30 H => ?_
    by_cases c31 : t133 = true
    rotate_left
    ·replace c31 := nb_ c31
     subst c31
     rw [if_neg ff_] at H
     exact absurd (Option.some.inj H) (by rw [ht_]; decide)
    subst c31
    rw [if_pos rfl] at H
    revert H
    refine ok1 fun t128 A32 H => ?_
    revert H
    refine ok1 fun t129 A33 H => ?_
    by_cases c34 : t128.toList = t129.toList
    rotate_left
    ·rw [if_neg c34] at H
     have c34b0 := eqf c34
     have c34b1 := net c34
     exact absurd (Option.some.inj H) (by rw [ht_]; decide)
    rw [if_pos c34] at H
    have c34b0 := eqt c34
    have c34b1 := nef c34
    clear c34
    have H' := am H
    clear H
    try go_wp2_with (first | ((with_reducible refine laws_FnObjects.gx 33 rfl rfl ?_); refine gl 33 Tryz.func38 #[.string t98] ?_; refine (impl_ObjRead.calls kj5 t98 t89 t95 t96 t102 t97 t103 t110 true _ (GLOBE.below HGE.out bl) (GLOBM.below HGM.out bl) (GLOBT.below HGT.out bl) A24.out).mono ?_; rintro e w35 ⟨v156, v157, v158, rfl, ho0, ho1, ho2, hb⟩; refine ⟨_, rfl, ?_⟩; have HO104 := am (Kd.R_lower (Kd.R_new' (Kd.R_new' ho0 (Kd.R_lt (ro HO_1919001))) (Kd.R_lt (ro HO_1919002))) (below_size bl)); have HO105 := am (Kd.R_lower (Kd.R_new' (Kd.R_new' ho1 (Kd.R_lt (ro HO_1919001))) (Kd.R_lt (ro HO_1919002))) (below_size bl)); replace HO_1919001 := am (Kd.R_mono (Kd.R_told (Kd.R_told (Kd.R_old (ro HO_1919001) hb) (Kd.R_base ho0)) (Kd.R_base ho1)) (fun _ h_ => h_.1)); replace HO_1919002 := am (Kd.R_mono (Kd.R_told (Kd.R_told (Kd.R_old (ro HO_1919002) hb) (Kd.R_base ho0)) (Kd.R_base ho1)) (fun _ h_ => h_.1)); have HO106 := am (Kd.R_lower (Kd.R_new' ho2 (Kd.R_lt (ro HO_1919004))) (below_size bl)); replace HO_1919004 := am (Kd.R_elder' (ro HO_1919004) (Kd.R_base ho2) hb); replace BK17 := kb BK17 hb; replace HB := am (below_step bl hb); clear hb ho0 ho1 ho2) | ((with_reducible refine laws_FnObjects.gx 5 rfl rfl ?_); refine bx 5 #[.string (⟨#[]⟩ : ByteArray), .slice none 0 0, .slice none 0 0, .int .i64 0, .slice none 0 0, .string (⟨#[]⟩ : ByteArray), .int .i64 0] 31 ?_; intro gb19 hg w36 hbox hb; replace HO_1919001 := am (Kd.R_below (ro HO_1919001) hb); replace HO_1919002 := am (Kd.R_below (ro HO_1919002) hb); replace HO_1919004 := am (Kd.R_below (ro HO_1919004) hb); replace HO104 := am (Kd.R_below (ro HO104) hb); replace HO105 := am (Kd.R_below (ro HO105) hb); replace HO106 := am (Kd.R_below (ro HO106) hb); have BK19 := am (hbox); have GW19 := am (sz hg : w.heap.size ≤ gb19); have GE19 := am (sz hg : w.heap.size ≤ gb19); replace HB := am (below_step bl hb); have NB17_19 := am (nl hg BK17 : gb17 ≠ gb19); have NB19_17 := am (ng hg BK17 : gb19 ≠ gb17); replace BK17 := kb BK17 hb; clear hb hbox hg; have hnb37 := NB19_17.out; have hnc37 := NB17_19.out; obtain ⟨_, _, _, _, _, _, _, _, _, _, _, _, _, _⟩ := cl7 BK19; obtain ⟨Ao39, co39, eo39⟩ := Kd.R_slice HO104.out; subst eo39; obtain ⟨Ao40, co40, eo40⟩ := Kd.R_slice HO105.out; subst eo40; obtain ⟨Ao41, co41, eo41⟩ := Kd.R_slice HO106.out; subst eo41))
    have n0_ : Aside0 (Kd.R Kd.string 9 (((((((w36.setCell ⟨gb19, 0, none⟩ (.string t89)).setCell ⟨gb19, 1, none⟩ (.slice Ao39 t95.length co39)).setCell ⟨gb19, 2, none⟩ (.slice Ao40 t96.length co40)).setCell ⟨gb19, 3, none⟩ (.int .i64 t102)).setCell ⟨gb19, 4, none⟩ (.slice Ao41 t97.length co41)).setCell ⟨gb19, 5, none⟩ (.string t103)).setCell ⟨gb19, 6, none⟩ (.int .i64 t110)) w.heap.size (fun k_ => some k_ ≠ (.slice Ao11 t88.length co11 : Value).ownBlock ∧ some k_ ≠ (.slice Ao39 t95.length co39 : Value).ownBlock ∧ some k_ ≠ (.slice Ao40 t96.length co40 : Value).ownBlock) (.slice Ao10 t87.length co10) t87) := ⟨rj (Kd.R_types HO_1919001.out BK19.out (by decide)) (fun _ hk => ⟨hk.1.1.1, ⟨hk.1.1.2, hk.1.2⟩⟩)⟩
    have n1_ : Aside0 (Kd.R Kd.string 9 (((((((w36.setCell ⟨gb19, 0, none⟩ (.string t89)).setCell ⟨gb19, 1, none⟩ (.slice Ao39 t95.length co39)).setCell ⟨gb19, 2, none⟩ (.slice Ao40 t96.length co40)).setCell ⟨gb19, 3, none⟩ (.int .i64 t102)).setCell ⟨gb19, 4, none⟩ (.slice Ao41 t97.length co41)).setCell ⟨gb19, 5, none⟩ (.string t103)).setCell ⟨gb19, 6, none⟩ (.int .i64 t110)) w.heap.size (fun k_ => some k_ ≠ (.slice Ao10 t87.length co10 : Value).ownBlock ∧ some k_ ≠ (.slice Ao39 t95.length co39 : Value).ownBlock ∧ some k_ ≠ (.slice Ao40 t96.length co40 : Value).ownBlock) (.slice Ao11 t88.length co11) t88) := ⟨rj (Kd.R_types HO_1919002.out BK19.out (by decide)) (fun _ hk => ⟨hk.1.1.1, ⟨hk.1.1.2, hk.1.2⟩⟩)⟩
    have n2_ : Aside0 (Kd.R k116 116 (((((((w36.setCell ⟨gb19, 0, none⟩ (.string t89)).setCell ⟨gb19, 1, none⟩ (.slice Ao39 t95.length co39)).setCell ⟨gb19, 2, none⟩ (.slice Ao40 t96.length co40)).setCell ⟨gb19, 3, none⟩ (.int .i64 t102)).setCell ⟨gb19, 4, none⟩ (.slice Ao41 t97.length co41)).setCell ⟨gb19, 5, none⟩ (.string t103)).setCell ⟨gb19, 6, none⟩ (.int .i64 t110)) w.heap.size (fun k_ => some k_ ≠ (.slice Ao41 t97.length co41 : Value).ownBlock) (.slice Ao12 t90.length co12) t90) := ⟨rj (Kd.R_types HO_1919004.out BK19.out (by decide)) (fun _ hk => hk.1.2)⟩
    have n3_ : Aside0 (Kd.R Kd.string 9 (((((((w36.setCell ⟨gb19, 0, none⟩ (.string t89)).setCell ⟨gb19, 1, none⟩ (.slice Ao39 t95.length co39)).setCell ⟨gb19, 2, none⟩ (.slice Ao40 t96.length co40)).setCell ⟨gb19, 3, none⟩ (.int .i64 t102)).setCell ⟨gb19, 4, none⟩ (.slice Ao41 t97.length co41)).setCell ⟨gb19, 5, none⟩ (.string t103)).setCell ⟨gb19, 6, none⟩ (.int .i64 t110)) w.heap.size (fun k_ => some k_ ≠ (.slice Ao10 t87.length co10 : Value).ownBlock ∧ some k_ ≠ (.slice Ao11 t88.length co11 : Value).ownBlock ∧ some k_ ≠ (.slice Ao40 t96.length co40 : Value).ownBlock) (.slice Ao39 t95.length co39) t95) := ⟨rj (Kd.R_types HO104.out BK19.out (by decide)) (fun _ hk => ⟨hk.1.1.2, ⟨hk.1.2, hk.1.1.1⟩⟩)⟩
    have n4_ : Aside0 (Kd.R Kd.string 9 (((((((w36.setCell ⟨gb19, 0, none⟩ (.string t89)).setCell ⟨gb19, 1, none⟩ (.slice Ao39 t95.length co39)).setCell ⟨gb19, 2, none⟩ (.slice Ao40 t96.length co40)).setCell ⟨gb19, 3, none⟩ (.int .i64 t102)).setCell ⟨gb19, 4, none⟩ (.slice Ao41 t97.length co41)).setCell ⟨gb19, 5, none⟩ (.string t103)).setCell ⟨gb19, 6, none⟩ (.int .i64 t110)) w.heap.size (fun k_ => some k_ ≠ (.slice Ao10 t87.length co10 : Value).ownBlock ∧ some k_ ≠ (.slice Ao11 t88.length co11 : Value).ownBlock ∧ some k_ ≠ (.slice Ao39 t95.length co39 : Value).ownBlock) (.slice Ao40 t96.length co40) t96) := ⟨rj (Kd.R_types HO105.out BK19.out (by decide)) (fun _ hk => ⟨hk.1.1.2, ⟨hk.1.2, hk.1.1.1⟩⟩)⟩
    have n5_ : Aside0 (Kd.R k116 116 (((((((w36.setCell ⟨gb19, 0, none⟩ (.string t89)).setCell ⟨gb19, 1, none⟩ (.slice Ao39 t95.length co39)).setCell ⟨gb19, 2, none⟩ (.slice Ao40 t96.length co40)).setCell ⟨gb19, 3, none⟩ (.int .i64 t102)).setCell ⟨gb19, 4, none⟩ (.slice Ao41 t97.length co41)).setCell ⟨gb19, 5, none⟩ (.string t103)).setCell ⟨gb19, 6, none⟩ (.int .i64 t110)) w.heap.size (fun k_ => some k_ ≠ (.slice Ao12 t90.length co12 : Value).ownBlock) (.slice Ao41 t97.length co41) t97) := ⟨rj (Kd.R_types HO106.out BK19.out (by decide)) (fun _ hk => hk.1.2)⟩
    have n6_ : Aside0 ((((((((w36.setCell ⟨gb19, 0, none⟩ (.string t89)).setCell ⟨gb19, 1, none⟩ (.slice Ao39 t95.length co39)).setCell ⟨gb19, 2, none⟩ (.slice Ao40 t96.length co40)).setCell ⟨gb19, 3, none⟩ (.int .i64 t102)).setCell ⟨gb19, 4, none⟩ (.slice Ao41 t97.length co41)).setCell ⟨gb19, 5, none⟩ (.string t103)).setCell ⟨gb19, 6, none⟩ (.int .i64 t110)).heap[gb17]? = some (.cells #[.string t83, .slice Ao10 t87.length co10, .slice Ao11 t88.length co11, .int .i64 t108, .slice Ao12 t90.length co12, .string t109, .int .i64 t111] 31 (0, 0))) := ⟨bg1 BK17 NB17_19⟩
    have n7_ : Aside0 ((((((((w36.setCell ⟨gb19, 0, none⟩ (.string t89)).setCell ⟨gb19, 1, none⟩ (.slice Ao39 t95.length co39)).setCell ⟨gb19, 2, none⟩ (.slice Ao40 t96.length co40)).setCell ⟨gb19, 3, none⟩ (.int .i64 t102)).setCell ⟨gb19, 4, none⟩ (.slice Ao41 t97.length co41)).setCell ⟨gb19, 5, none⟩ (.string t103)).setCell ⟨gb19, 6, none⟩ (.int .i64 t110)).heap[gb19]? = some (.cells #[.string t89, .slice Ao39 t95.length co39, .slice Ao40 t96.length co40, .int .i64 t102, .slice Ao41 t97.length co41, .string t103, .int .i64 t110] 31 (0, 0))) := ⟨pt0 BK19⟩
    have n8_ : Aside0 (Below w.heap.size w (((((((w36.setCell ⟨gb19, 0, none⟩ (.string t89)).setCell ⟨gb19, 1, none⟩ (.slice Ao39 t95.length co39)).setCell ⟨gb19, 2, none⟩ (.slice Ao40 t96.length co40)).setCell ⟨gb19, 3, none⟩ (.int .i64 t102)).setCell ⟨gb19, 4, none⟩ (.slice Ao41 t97.length co41)).setCell ⟨gb19, 5, none⟩ (.string t103)).setCell ⟨gb19, 6, none⟩ (.int .i64 t110))) := ⟨u9HB⟩
    (try clear HO_1919001)
    (try clear HO_1919002)
    (try clear HO_1919004)
    (try clear HO104)
    (try clear HO105)
    (try clear HO106)
    (try clear BK17)
    (try clear BK19)
    (try clear HB)
    generalize (((((((w36.setCell ⟨gb19, 0, none⟩ (.string t89)).setCell ⟨gb19, 1, none⟩ (.slice Ao39 t95.length co39)).setCell ⟨gb19, 2, none⟩ (.slice Ao40 t96.length co40)).setCell ⟨gb19, 3, none⟩ (.int .i64 t102)).setCell ⟨gb19, 4, none⟩ (.slice Ao41 t97.length co41)).setCell ⟨gb19, 5, none⟩ (.string t103)).setCell ⟨gb19, 6, none⟩ (.int .i64 t110)) = w42 at n0_ n1_ n2_ n3_ n4_ n5_ n6_ n7_ n8_ ⊢
    have HO_1919001 := n0_
    have HO_1919002 := n1_
    have HO_1919004 := n2_
    have HO104 := n3_
    have HO105 := n4_
    have HO106 := n5_
    have BK17 := n6_
    have BK19 := n7_
    have HB := n8_
    clear n0_ n1_ n2_ n3_ n4_ n5_ n6_ n7_ n8_
    replace HO_1919001 := am (Kd.R_drew HO_1919001.out)
    replace HO_1919002 := am (Kd.R_drew HO_1919002.out)
    replace HO_1919004 := am (Kd.R_drew HO_1919004.out)
    replace HO104 := am (Kd.R_drew HO104.out)
    replace HO105 := am (Kd.R_drew HO105.out)
    replace HO106 := am (Kd.R_drew HO106.out)
    replace BK17 := am (blk_drew BK17.out)
    replace BK19 := am (blk_drew BK19.out)
    replace HB := am (below_drew1 HB.out)
    refine start_ (n := 41) (S := fun w' => w'.cell? ⟨gb19, 0, none⟩ = some (.string t89) ∧ w'.cell? ⟨gb19, 1, none⟩ = some (.slice Ao39 t95.length co39) ∧ w'.cell? ⟨gb19, 2, none⟩ = some (.slice Ao40 t96.length co40) ∧ w'.cell? ⟨gb19, 3, none⟩ = some (.int .i64 t102) ∧ w'.cell? ⟨gb19, 4, none⟩ = some (.slice Ao41 t97.length co41) ∧ w'.cell? ⟨gb19, 5, none⟩ = some (.string t103) ∧ w'.cell? ⟨gb19, 6, none⟩ = some (.int .i64 t110) ∧ w'.cell? ⟨gb17, 0, none⟩ = some (.string t83) ∧ w'.cell? ⟨gb17, 1, none⟩ = some (.slice Ao10 t87.length co10) ∧ w'.cell? ⟨gb17, 2, none⟩ = some (.slice Ao11 t88.length co11) ∧ w'.cell? ⟨gb17, 3, none⟩ = some (.int .i64 t108) ∧ w'.cell? ⟨gb17, 4, none⟩ = some (.slice Ao12 t90.length co12) ∧ w'.cell? ⟨gb17, 5, none⟩ = some (.string t109) ∧ w'.cell? ⟨gb17, 6, none⟩ = some (.int .i64 t111)) (ds := []) ⟨br true [0, 41]⟩ (by kernel_rfl) rfl (by kernel_rfl) ⟨bc BK19, bc BK19, bc BK19, bc BK19, bc BK19, bc BK19, bc BK19, bc BK17, bc BK17, bc BK17, bc BK17, bc BK17, bc BK17, bc BK17⟩ (fun hHeld => ?_); refine with_tabW laws_FnObjects.tab9 laws_FnObjects.bits9 (fun HT_ HW_ => ?_)
    generalize w42.drew = w43 at HO_1919001 HO_1919002 HO_1919004 HO104 HO105 HO106 BK17 BK19 HB hHeld ⊢
    refine pu 0 36 [1, 40] ?_
    refine pu 1 37 [2, 39] ?_
    refine pu 2 38 [3, 38] ?_
    refine pu 3 39 [4, 37] ?_
    refine pu 5 41 [4, 1, 1, 35] ?_
    refine tk 4 40 [6, 35] ?_
    refine tk 6 42 [7, 34] ?_
    refine pu 7 43 [8, 33] ?_
    refine pu 8 44 [9, 32] ?_
    refine pu 9 45 [10, 31] ?_
    refine pu 10 46 [11, 30] ?_
    refine pu 12 48 [11, 1, 1, 28] ?_
    refine tk 11 47 [13, 28] ?_
    refine tk 13 49 [14, 27] ?_
    refine pu 14 50 [15, 26] ?_
    refine pu 15 51 [16, 25] ?_
    refine pu 16 52 [17, 24] ?_
    refine pu 17 53 [18, 23] ?_
    refine pu 19 55 [18, 1, 1, 21] ?_
    refine tk 18 54 [20, 21] ?_
    refine tk 20 56 [21, 20] ?_
    refine og 21 57 [22, 19] Tryz.func57 #[.slice Ao40 t96.length co40, .slice Ao11 t88.length co11] (fun K hK => ?_)
    refine (laws_sameTexts.calls kj5 _ _ t96 _ _ t88 true _ (rc HO105) ((Kd.R_reads' HO105.out).2.1) (rc HO_1919002) ((Kd.R_reads' HO_1919002.out).2.1) A28.out).mono ?_
    rintro e w' ⟨rfl, ⟨nd, rfl⟩⟩
    refine ⟨_, rfl, ?_⟩
    refine hK.out _ _ ⟨bc BK19, bc BK19, bc BK19, bc BK19, bc BK19, bc BK19, bc BK19, bc BK17, bc BK17, bc BK17, bc BK17, bc BK17, bc BK17, bc BK17⟩ (fun hHeld => ?_)
    clear hK K
    refine nm 57 ?_
    refine pu 22 58 [23, 18] ?_
    refine pu 23 59 [24, 17] ?_
    refine pu 24 60 [25, 16] ?_
    refine pu 25 61 [26, 15] ?_
    refine pu 27 63 [26, 1, 1, 13] ?_
    refine tk 26 62 [28, 13] ?_
    refine tk 28 64 [29, 12] ?_
    refine og 29 65 [30, 11] Tryz.func57 #[.slice Ao39 t95.length co39, .slice Ao10 t87.length co10] (fun K hK => ?_)
    refine (laws_sameTexts.calls kj5 _ _ t95 _ _ t87 true _ (rc HO104) ((Kd.R_reads' HO104.out).2.1) (rc HO_1919001) ((Kd.R_reads' HO_1919001.out).2.1) A30.out).mono ?_
    rintro e w' ⟨rfl, ⟨nd, rfl⟩⟩
    refine ⟨_, rfl, ?_⟩
    refine hK.out _ _ ⟨bc BK19, bc BK19, bc BK19, bc BK19, bc BK19, bc BK19, bc BK19, bc BK17, bc BK17, bc BK17, bc BK17, bc BK17, bc BK17, bc BK17⟩ (fun hHeld => ?_)
    clear hK K
    refine nm 65 ?_
    refine pu 30 66 [31, 10] ?_
    refine pu 31 67 [32, 9] ?_
    refine pu 32 68 [33, 8] ?_
    refine pu 33 69 [34, 7] ?_
    refine pu 36 72 [34, 2, 1, 4] ?_
    refine tk 34 70 [35, 1, 1, 4] ?_
    refine tk 37 73 [35, 1, 2, 3] ?_
    refine og 35 71 [38, 3] Tryz.func35 #[.agg #[.int .i64 t102, .slice Ao41 t97.length co41, .string t103]] (fun K hK => ?_)
    refine (impl_RespText.calls kj5 t102 _ _ t97 t103 t128 _ (GLOBT.below HGT.out bl) (rc HO106) ((Kd.R_reads' HO106.out).2.1) A32.out).mono ?_
    rintro e w44 ⟨rfl, hb⟩
    refine ⟨_, rfl, ?_⟩
    replace HO_1919001 := kr HO_1919001 hb
    replace HO_1919002 := kr HO_1919002 hb
    replace HO_1919004 := kr HO_1919004 hb
    replace HO104 := kr HO104 hb
    replace HO105 := kr HO105 hb
    replace HO106 := kr HO106 hb
    replace BK17 := kb BK17 hb
    replace BK19 := kb BK19 hb
    replace HB := am (below_step bl hb)
    clear hb
    refine hK.out _ _ ⟨bc BK19, bc BK19, bc BK19, bc BK19, bc BK19, bc BK19, bc BK19, bc BK17, bc BK17, bc BK17, bc BK17, bc BK17, bc BK17, bc BK17⟩ (fun hHeld => ?_)
    clear hK K
    refine nm 71 ?_
    refine og 38 74 [39, 2] Tryz.func35 #[.agg #[.int .i64 t108, .slice Ao12 t90.length co12, .string t109]] (fun K hK => ?_)
    refine (impl_RespText.calls kj5 t108 _ _ t90 t109 t129 _ (GLOBT.below HGT.out bl) (rc HO_1919004) ((Kd.R_reads' HO_1919004.out).2.1) A33.out).mono ?_
    rintro e w45 ⟨rfl, hb⟩
    refine ⟨_, rfl, ?_⟩
    replace HO_1919001 := kr HO_1919001 hb
    replace HO_1919002 := kr HO_1919002 hb
    replace HO_1919004 := kr HO_1919004 hb
    replace HO104 := kr HO104 hb
    replace HO105 := kr HO105 hb
    replace HO106 := kr HO106 hb
    replace BK17 := kb BK17 hb
    replace BK19 := kb BK19 hb
    replace HB := am (below_step bl hb)
    clear hb
    refine hK.out _ _ ⟨bc BK19, bc BK19, bc BK19, bc BK19, bc BK19, bc BK19, bc BK19, bc BK17, bc BK17, bc BK17, bc BK17, bc BK17, bc BK17, bc BK17⟩ (fun hHeld => ?_)
    clear hK K
    refine nm 74 ?_
    refine pu 39 75 [40, 1] ?_
    refine pu 40 76 [41] ?_
    refine done_ (done_of HT_.out (by kernel_rfl)) ?_
    try go_wp2
    go_meet
    case rel => exact ⟨_, H', ⟨by have := HJ5.out; first | omega | exact Nat.le_refl _⟩, ⟨rm HO_1919001 (fun _ hk => hk.1)⟩, ⟨rm HO_1919002 (fun _ hk => hk.1)⟩, ⟨rm HO_1919004 (fun _ hk => trivial)⟩, ⟨bk BK17⟩, ⟨u9HB⟩⟩
   case rest =>
    clear HC22
    obtain ⟨kq, HA, HJ21, HO_1919001, HO_1919002, HO_1919004, BK17, HB⟩ := hcut
    cases kq with
    | zero => exact absurd HA.out (by simp [laws_FnObjects.j1])
    | succ kj21 =>
     have H := HA.out
     clear HA
     simp only [laws_FnObjects.j1] at H
     revert H
     refine ok1 fun t107 A46 H => ?_
     revert H
     refine ok8 fun t94 t118 t119 t123 t120 t124 t125 t113 A47 H => ?_
     (try dsimp only at H)
     revert H
     refine ok8 fun t121 t126 t127 t136 t131 t137 t138 t112 A48 H => ?_
     (try dsimp only at H)
     by_cases c49 : (t113 == t112) = true
     rotate_left
     ·rw [if_neg c49] at H
      have c49b0 : (t113 == t112) = false := by simpa using c49
      (try (have c49b1 : decide (t113 = t112) = false := by simpa using c49))
      (try (have c49b2 : (t113 == t112) = false := by simpa using c49))
      (try (have c49b3 : ¬ (t113 = t112) := by simpa using c49))
      clear c49
      exact absurd (Option.some.inj H) (by rw [ht_]; decide)
     rw [if_pos c49] at H
     have c49b0 : (t113 == t112) = true := c49
     (try (have c49b1 : decide (t113 = t112) = true := by simpa using c49))
     (try (have c49b2 : (t113 == t112) = true := by simpa using c49))
     clear c49
     by_cases c50 : t113 = true
     rotate_left
     ·replace c50 := nb_ c50
      subst c50
      rw [if_neg ff_] at H
      by_cases c70 : t94.toList = ([] : List UInt8)
      rotate_left
      ·rw [if_neg c70] at H
       have c70b0 := eqf c70
       have c70b2 : t94.toList.isEmpty = false := by cases h_ : t94.toList with | nil => exact absurd h_ c70 | cons _ _ => rfl
       have c70b1 := net c70
       exact absurd (Option.some.inj H) (by rw [ht_]; decide)
      rw [if_pos c70] at H
      have c70b0 := eqt c70
      have c70b2 : t94.toList.isEmpty = true := by rw [c70]; rfl
      have c70b1 := nef c70
      clear c70
      obtain rfl := si_ H
      go_wp2_with (first | ((with_reducible refine laws_FnObjects.gx 78 rfl rfl ?_); refine gl 78 Tryz.func58 #[.slice A0 l0.length c0] ?_; refine (spec_DrawObjRead.calls kj21 _ _ l0 t107 _ (cb HR0) HC0.out A46.out).mono ?_; rintro e w71 ⟨rfl, hb⟩; refine ⟨_, rfl, ?_⟩; replace HO_1919001 := kr HO_1919001 hb; replace HO_1919002 := kr HO_1919002 hb; replace HO_1919004 := kr HO_1919004 hb; replace BK17 := kb BK17 hb; replace HB := am (below_step bl hb); clear hb) | ((with_reducible refine laws_FnObjects.gx 81 rfl rfl ?_); refine gl 81 Tryz.func38 #[.string t107] ?_; refine (impl_ObjRead.calls kj21 t107 t94 t118 t119 t123 t120 t124 t125 false _ (GLOBE.below HGE.out bl) (GLOBM.below HGM.out bl) (GLOBT.below HGT.out bl) A47.out).mono ?_; rintro e w72 ⟨v147, v148, v149, rfl, ho0, ho1, ho2, hb⟩; refine ⟨_, rfl, ?_⟩; have HO91 := am (Kd.R_lower (Kd.R_new' (Kd.R_new' ho0 (Kd.R_lt (ro HO_1919001))) (Kd.R_lt (ro HO_1919002))) (below_size bl)); have HO92 := am (Kd.R_lower (Kd.R_new' (Kd.R_new' ho1 (Kd.R_lt (ro HO_1919001))) (Kd.R_lt (ro HO_1919002))) (below_size bl)); replace HO_1919001 := am (Kd.R_mono (Kd.R_told (Kd.R_told (Kd.R_old (ro HO_1919001) hb) (Kd.R_base ho0)) (Kd.R_base ho1)) (fun _ h_ => h_.1)); replace HO_1919002 := am (Kd.R_mono (Kd.R_told (Kd.R_told (Kd.R_old (ro HO_1919002) hb) (Kd.R_base ho0)) (Kd.R_base ho1)) (fun _ h_ => h_.1)); have HO93 := am (Kd.R_lower (Kd.R_new' ho2 (Kd.R_lt (ro HO_1919004))) (below_size bl)); replace HO_1919004 := am (Kd.R_elder' (ro HO_1919004) (Kd.R_base ho2) hb); replace BK17 := kb BK17 hb; replace HB := am (below_step bl hb); clear hb ho0 ho1 ho2) | ((with_reducible refine laws_FnObjects.gx 8 rfl rfl ?_); refine bx 8 #[.string (⟨#[]⟩ : ByteArray), .slice none 0 0, .slice none 0 0, .int .i64 0, .slice none 0 0, .string (⟨#[]⟩ : ByteArray), .int .i64 0] 31 ?_; intro gb68 hg w73 hbox hb; replace HO_1919001 := am (Kd.R_below (ro HO_1919001) hb); replace HO_1919002 := am (Kd.R_below (ro HO_1919002) hb); replace HO_1919004 := am (Kd.R_below (ro HO_1919004) hb); replace HO91 := am (Kd.R_below (ro HO91) hb); replace HO92 := am (Kd.R_below (ro HO92) hb); replace HO93 := am (Kd.R_below (ro HO93) hb); have BK68 := am (hbox); have GW68 := am (sz hg : w.heap.size ≤ gb68); have GE68 := am (sz hg : w.heap.size ≤ gb68); replace HB := am (below_step bl hb); have NB17_68 := am (nl hg BK17 : gb17 ≠ gb68); have NB68_17 := am (ng hg BK17 : gb68 ≠ gb17); replace BK17 := kb BK17 hb; clear hb hbox hg; have hnb74 := NB68_17.out; have hnc74 := NB17_68.out; obtain ⟨_, _, _, _, _, _, _, _, _, _, _, _, _, _⟩ := cl7 BK68; obtain ⟨Ao76, co76, eo76⟩ := Kd.R_slice HO91.out; subst eo76; obtain ⟨Ao77, co77, eo77⟩ := Kd.R_slice HO92.out; subst eo77; obtain ⟨Ao78, co78, eo78⟩ := Kd.R_slice HO93.out; subst eo78) | ((with_reducible refine laws_FnObjects.gx 86 rfl rfl ?_); refine gl 86 Tryz.func37 #[.string t107] ?_; (with_reducible refine (spec_ObjRead.calls kj21 t107 t121 t126 t127 t136 t131 t137 t138 t112 _ A48.out).mono ?_); rintro e w79 ⟨v150, v151, v152, rfl, ho0, ho1, ho2, hb⟩; refine ⟨_, rfl, ?_⟩; have HO114 := am (Kd.R_lower (Kd.R_new' (Kd.R_new' (Kd.R_new' (Kd.R_new' ho0 (Kd.R_lt (rj (Kd.R_types HO_1919001.out BK68.out (by decide)) (fun _ h_ => h_.1)))) (Kd.R_lt (rj (Kd.R_types HO_1919002.out BK68.out (by decide)) (fun _ h_ => h_.1)))) (Kd.R_lt (rj (Kd.R_types HO91.out BK68.out (by decide)) (fun _ h_ => h_.1)))) (Kd.R_lt (rj (Kd.R_types HO92.out BK68.out (by decide)) (fun _ h_ => h_.1)))) (below_size bl)); have HO115 := am (Kd.R_lower (Kd.R_new' (Kd.R_new' (Kd.R_new' (Kd.R_new' ho1 (Kd.R_lt (rj (Kd.R_types HO_1919001.out BK68.out (by decide)) (fun _ h_ => h_.1)))) (Kd.R_lt (rj (Kd.R_types HO_1919002.out BK68.out (by decide)) (fun _ h_ => h_.1)))) (Kd.R_lt (rj (Kd.R_types HO91.out BK68.out (by decide)) (fun _ h_ => h_.1)))) (Kd.R_lt (rj (Kd.R_types HO92.out BK68.out (by decide)) (fun _ h_ => h_.1)))) (below_size bl)); replace HO_1919001 := am (Kd.R_mono (Kd.R_told (Kd.R_told (Kd.R_old (rj (Kd.R_types HO_1919001.out BK68.out (by decide)) (fun _ h_ => h_.1)) hb) (Kd.R_base ho0)) (Kd.R_base ho1)) (fun _ h_ => h_.1)); replace HO_1919002 := am (Kd.R_mono (Kd.R_told (Kd.R_told (Kd.R_old (rj (Kd.R_types HO_1919002.out BK68.out (by decide)) (fun _ h_ => h_.1)) hb) (Kd.R_base ho0)) (Kd.R_base ho1)) (fun _ h_ => h_.1)); replace HO91 := am (Kd.R_mono (Kd.R_told (Kd.R_told (Kd.R_old (rj (Kd.R_types HO91.out BK68.out (by decide)) (fun _ h_ => h_.1)) hb) (Kd.R_base ho0)) (Kd.R_base ho1)) (fun _ h_ => h_.1)); replace HO92 := am (Kd.R_mono (Kd.R_told (Kd.R_told (Kd.R_old (rj (Kd.R_types HO92.out BK68.out (by decide)) (fun _ h_ => h_.1)) hb) (Kd.R_base ho0)) (Kd.R_base ho1)) (fun _ h_ => h_.1)); have HO117 := am (Kd.R_lower (Kd.R_new' (Kd.R_new' ho2 (Kd.R_lt (rj (Kd.R_types HO_1919004.out BK68.out (by decide)) (fun _ h_ => h_.1)))) (Kd.R_lt (rj (Kd.R_types HO93.out BK68.out (by decide)) (fun _ h_ => h_.1)))) (below_size bl)); replace HO_1919004 := am (Kd.R_elder' (rj (Kd.R_types HO_1919004.out BK68.out (by decide)) (fun _ h_ => h_.1)) (Kd.R_base ho2) hb); replace HO93 := am (Kd.R_elder' (rj (Kd.R_types HO93.out BK68.out (by decide)) (fun _ h_ => h_.1)) (Kd.R_base ho2) hb); replace BK17 := kg1 BK17 NB17_68 hb; replace BK68 := am (blk_below (g := gb68) (o := .cells #[.string t94, .slice Ao76 t118.length co76, .slice Ao77 t119.length co77, .int .i64 t123, .slice Ao78 t120.length co78, .string t124, .int .i64 t125] 31 (0, 0)) (pt0 BK68) hb); replace HB := am (below_step bl hb); clear hb ho0 ho1 ho2) | ((with_reducible refine laws_FnObjects.gx 10 rfl rfl ?_); refine bx 10 #[.string (⟨#[]⟩ : ByteArray), .slice none 0 0, .slice none 0 0, .int .i64 0, .slice none 0 0, .string (⟨#[]⟩ : ByteArray), .int .i64 0] 31 ?_; intro gb75 hg w80 hbox hb; replace HO_1919001 := am (Kd.R_below (ro HO_1919001) hb); replace HO_1919002 := am (Kd.R_below (ro HO_1919002) hb); replace HO_1919004 := am (Kd.R_below (ro HO_1919004) hb); replace HO91 := am (Kd.R_below (ro HO91) hb); replace HO92 := am (Kd.R_below (ro HO92) hb); replace HO93 := am (Kd.R_below (ro HO93) hb); replace HO114 := am (Kd.R_below (ro HO114) hb); replace HO115 := am (Kd.R_below (ro HO115) hb); replace HO117 := am (Kd.R_below (ro HO117) hb); have BK75 := am (hbox); have GW75 := am (sz hg : w.heap.size ≤ gb75); have GE75 := am (sz hg : w.heap.size ≤ gb75); replace HB := am (below_step bl hb); have NB17_75 := am (nl hg BK17 : gb17 ≠ gb75); have NB75_17 := am (ng hg BK17 : gb75 ≠ gb17); replace BK17 := kb BK17 hb; have NB68_75 := am (nl hg BK68 : gb68 ≠ gb75); have NB75_68 := am (ng hg BK68 : gb75 ≠ gb68); replace BK68 := kb BK68 hb; clear hb hbox hg; have hnb81 := NB75_17.out; have hnc81 := NB17_75.out; have hnb82 := NB75_68.out; have hnc82 := NB68_75.out; obtain ⟨_, _, _, _, _, _, _, _, _, _, _, _, _, _⟩ := cl7 BK75; obtain ⟨Ao84, co84, eo84⟩ := Kd.R_slice HO114.out; subst eo84; obtain ⟨Ao85, co85, eo85⟩ := Kd.R_slice HO115.out; subst eo85; obtain ⟨Ao86, co86, eo86⟩ := Kd.R_slice HO117.out; subst eo86; obtain ⟨_, _, _, _, _, _, _, _, _, _, _, _, _, _⟩ := cl7 BK68))
      go_ret
      exact ⟨rf, bl⟩
     subst c50
     rw [if_pos rfl] at H
     revert H
     refine ok1 fun t134 A51 H => ?_
     obtain rfl := si_ H
     go_wp2_with (first | ((with_reducible refine laws_FnObjects.gx 78 rfl rfl ?_); refine gl 78 Tryz.func58 #[.slice A0 l0.length c0] ?_; refine (spec_DrawObjRead.calls kj21 _ _ l0 t107 _ (cb HR0) HC0.out A46.out).mono ?_; rintro e w52 ⟨rfl, hb⟩; refine ⟨_, rfl, ?_⟩; replace HO_1919001 := kr HO_1919001 hb; replace HO_1919002 := kr HO_1919002 hb; replace HO_1919004 := kr HO_1919004 hb; replace BK17 := kb BK17 hb; replace HB := am (below_step bl hb); clear hb) | ((with_reducible refine laws_FnObjects.gx 81 rfl rfl ?_); refine gl 81 Tryz.func38 #[.string t107] ?_; refine (impl_ObjRead.calls kj21 t107 t94 t118 t119 t123 t120 t124 t125 true _ (GLOBE.below HGE.out bl) (GLOBM.below HGM.out bl) (GLOBT.below HGT.out bl) A47.out).mono ?_; rintro e w53 ⟨v147, v148, v149, rfl, ho0, ho1, ho2, hb⟩; refine ⟨_, rfl, ?_⟩; have HO91 := am (Kd.R_lower (Kd.R_new' (Kd.R_new' ho0 (Kd.R_lt (ro HO_1919001))) (Kd.R_lt (ro HO_1919002))) (below_size bl)); have HO92 := am (Kd.R_lower (Kd.R_new' (Kd.R_new' ho1 (Kd.R_lt (ro HO_1919001))) (Kd.R_lt (ro HO_1919002))) (below_size bl)); replace HO_1919001 := am (Kd.R_mono (Kd.R_told (Kd.R_told (Kd.R_old (ro HO_1919001) hb) (Kd.R_base ho0)) (Kd.R_base ho1)) (fun _ h_ => h_.1)); replace HO_1919002 := am (Kd.R_mono (Kd.R_told (Kd.R_told (Kd.R_old (ro HO_1919002) hb) (Kd.R_base ho0)) (Kd.R_base ho1)) (fun _ h_ => h_.1)); have HO93 := am (Kd.R_lower (Kd.R_new' ho2 (Kd.R_lt (ro HO_1919004))) (below_size bl)); replace HO_1919004 := am (Kd.R_elder' (ro HO_1919004) (Kd.R_base ho2) hb); replace BK17 := kb BK17 hb; replace HB := am (below_step bl hb); clear hb ho0 ho1 ho2) | ((with_reducible refine laws_FnObjects.gx 8 rfl rfl ?_); refine bx 8 #[.string (⟨#[]⟩ : ByteArray), .slice none 0 0, .slice none 0 0, .int .i64 0, .slice none 0 0, .string (⟨#[]⟩ : ByteArray), .int .i64 0] 31 ?_; intro gb68 hg w54 hbox hb; replace HO_1919001 := am (Kd.R_below (ro HO_1919001) hb); replace HO_1919002 := am (Kd.R_below (ro HO_1919002) hb); replace HO_1919004 := am (Kd.R_below (ro HO_1919004) hb); replace HO91 := am (Kd.R_below (ro HO91) hb); replace HO92 := am (Kd.R_below (ro HO92) hb); replace HO93 := am (Kd.R_below (ro HO93) hb); have BK68 := am (hbox); have GW68 := am (sz hg : w.heap.size ≤ gb68); have GE68 := am (sz hg : w.heap.size ≤ gb68); replace HB := am (below_step bl hb); have NB17_68 := am (nl hg BK17 : gb17 ≠ gb68); have NB68_17 := am (ng hg BK17 : gb68 ≠ gb17); replace BK17 := kb BK17 hb; clear hb hbox hg; have hnb55 := NB68_17.out; have hnc55 := NB17_68.out; obtain ⟨_, _, _, _, _, _, _, _, _, _, _, _, _, _⟩ := cl7 BK68; obtain ⟨Ao57, co57, eo57⟩ := Kd.R_slice HO91.out; subst eo57; obtain ⟨Ao58, co58, eo58⟩ := Kd.R_slice HO92.out; subst eo58; obtain ⟨Ao59, co59, eo59⟩ := Kd.R_slice HO93.out; subst eo59) | ((with_reducible refine laws_FnObjects.gx 86 rfl rfl ?_); refine gl 86 Tryz.func37 #[.string t107] ?_; (with_reducible refine (spec_ObjRead.calls kj21 t107 t121 t126 t127 t136 t131 t137 t138 t112 _ A48.out).mono ?_); rintro e w60 ⟨v150, v151, v152, rfl, ho0, ho1, ho2, hb⟩; refine ⟨_, rfl, ?_⟩; have HO114 := am (Kd.R_lower (Kd.R_new' (Kd.R_new' (Kd.R_new' (Kd.R_new' ho0 (Kd.R_lt (rj (Kd.R_types HO_1919001.out BK68.out (by decide)) (fun _ h_ => h_.1)))) (Kd.R_lt (rj (Kd.R_types HO_1919002.out BK68.out (by decide)) (fun _ h_ => h_.1)))) (Kd.R_lt (rj (Kd.R_types HO91.out BK68.out (by decide)) (fun _ h_ => h_.1)))) (Kd.R_lt (rj (Kd.R_types HO92.out BK68.out (by decide)) (fun _ h_ => h_.1)))) (below_size bl)); have HO115 := am (Kd.R_lower (Kd.R_new' (Kd.R_new' (Kd.R_new' (Kd.R_new' ho1 (Kd.R_lt (rj (Kd.R_types HO_1919001.out BK68.out (by decide)) (fun _ h_ => h_.1)))) (Kd.R_lt (rj (Kd.R_types HO_1919002.out BK68.out (by decide)) (fun _ h_ => h_.1)))) (Kd.R_lt (rj (Kd.R_types HO91.out BK68.out (by decide)) (fun _ h_ => h_.1)))) (Kd.R_lt (rj (Kd.R_types HO92.out BK68.out (by decide)) (fun _ h_ => h_.1)))) (below_size bl)); replace HO_1919001 := am (Kd.R_mono (Kd.R_told (Kd.R_told (Kd.R_old (rj (Kd.R_types HO_1919001.out BK68.out (by decide)) (fun _ h_ => h_.1)) hb) (Kd.R_base ho0)) (Kd.R_base ho1)) (fun _ h_ => h_.1)); replace HO_1919002 := am (Kd.R_mono (Kd.R_told (Kd.R_told (Kd.R_old (rj (Kd.R_types HO_1919002.out BK68.out (by decide)) (fun _ h_ => h_.1)) hb) (Kd.R_base ho0)) (Kd.R_base ho1)) (fun _ h_ => h_.1)); replace HO91 := am (Kd.R_mono (Kd.R_told (Kd.R_told (Kd.R_old (rj (Kd.R_types HO91.out BK68.out (by decide)) (fun _ h_ => h_.1)) hb) (Kd.R_base ho0)) (Kd.R_base ho1)) (fun _ h_ => h_.1)); replace HO92 := am (Kd.R_mono (Kd.R_told (Kd.R_told (Kd.R_old (rj (Kd.R_types HO92.out BK68.out (by decide)) (fun _ h_ => h_.1)) hb) (Kd.R_base ho0)) (Kd.R_base ho1)) (fun _ h_ => h_.1)); have HO117 := am (Kd.R_lower (Kd.R_new' (Kd.R_new' ho2 (Kd.R_lt (rj (Kd.R_types HO_1919004.out BK68.out (by decide)) (fun _ h_ => h_.1)))) (Kd.R_lt (rj (Kd.R_types HO93.out BK68.out (by decide)) (fun _ h_ => h_.1)))) (below_size bl)); replace HO_1919004 := am (Kd.R_elder' (rj (Kd.R_types HO_1919004.out BK68.out (by decide)) (fun _ h_ => h_.1)) (Kd.R_base ho2) hb); replace HO93 := am (Kd.R_elder' (rj (Kd.R_types HO93.out BK68.out (by decide)) (fun _ h_ => h_.1)) (Kd.R_base ho2) hb); replace BK17 := kg1 BK17 NB17_68 hb; replace BK68 := am (blk_below (g := gb68) (o := .cells #[.string t94, .slice Ao57 t118.length co57, .slice Ao58 t119.length co58, .int .i64 t123, .slice Ao59 t120.length co59, .string t124, .int .i64 t125] 31 (0, 0)) (pt0 BK68) hb); replace HB := am (below_step bl hb); clear hb ho0 ho1 ho2) | ((with_reducible refine laws_FnObjects.gx 10 rfl rfl ?_); refine bx 10 #[.string (⟨#[]⟩ : ByteArray), .slice none 0 0, .slice none 0 0, .int .i64 0, .slice none 0 0, .string (⟨#[]⟩ : ByteArray), .int .i64 0] 31 ?_; intro gb75 hg w61 hbox hb; replace HO_1919001 := am (Kd.R_below (ro HO_1919001) hb); replace HO_1919002 := am (Kd.R_below (ro HO_1919002) hb); replace HO_1919004 := am (Kd.R_below (ro HO_1919004) hb); replace HO91 := am (Kd.R_below (ro HO91) hb); replace HO92 := am (Kd.R_below (ro HO92) hb); replace HO93 := am (Kd.R_below (ro HO93) hb); replace HO114 := am (Kd.R_below (ro HO114) hb); replace HO115 := am (Kd.R_below (ro HO115) hb); replace HO117 := am (Kd.R_below (ro HO117) hb); have BK75 := am (hbox); have GW75 := am (sz hg : w.heap.size ≤ gb75); have GE75 := am (sz hg : w.heap.size ≤ gb75); replace HB := am (below_step bl hb); have NB17_75 := am (nl hg BK17 : gb17 ≠ gb75); have NB75_17 := am (ng hg BK17 : gb75 ≠ gb17); replace BK17 := kb BK17 hb; have NB68_75 := am (nl hg BK68 : gb68 ≠ gb75); have NB75_68 := am (ng hg BK68 : gb75 ≠ gb68); replace BK68 := kb BK68 hb; clear hb hbox hg; have hnb62 := NB75_17.out; have hnc62 := NB17_75.out; have hnb63 := NB75_68.out; have hnc63 := NB68_75.out; obtain ⟨_, _, _, _, _, _, _, _, _, _, _, _, _, _⟩ := cl7 BK75; obtain ⟨Ao65, co65, eo65⟩ := Kd.R_slice HO114.out; subst eo65; obtain ⟨Ao66, co66, eo66⟩ := Kd.R_slice HO115.out; subst eo66; obtain ⟨Ao67, co67, eo67⟩ := Kd.R_slice HO117.out; subst eo67; obtain ⟨_, _, _, _, _, _, _, _, _, _, _, _, _, _⟩ := cl7 BK68) | (go_at_call 55; (with_reducible refine (impl_ObjText.calls kj21 t94 _ _ t118 _ _ t119 t123 _ _ t120 t124 t125 t134 _ ?side1 ?side2 ?side3 ?side4 ?side5 ?side6 ?side7 ?side8 A51.out).mono ?_); (case side1 => exact GLOBM.below HGM.out bl); (case side2 => exact GLOBT.below HGT.out bl); (case side3 => refine (Kd.R_reads' (e := 9) (base := w.heap.size) (ok := fun k_ => ((((some k_ ≠ (.slice Ao58 t119.length co58 : Value).ownBlock ∧ some k_ ≠ (.slice Ao10 t87.length co10 : Value).ownBlock) ∧ some k_ ≠ (.slice Ao11 t88.length co11 : Value).ownBlock) ∧ some k_ ≠ (.slice Ao65 t126.length co65 : Value).ownBlock) ∧ some k_ ≠ (.slice Ao66 t127.length co66 : Value).ownBlock)) (n := t118.length) (c := co57) ?_).2.2; exact (rj (Kd.R_types HO91.out BK75.out (by decide)) (fun _ h_ => h_.1))); (case side4 => exact (Kd.R_reads' HO91.out).2.1); (case side5 => refine (Kd.R_reads' (e := 9) (base := w.heap.size) (ok := fun k_ => ((((some k_ ≠ (.slice Ao57 t118.length co57 : Value).ownBlock ∧ some k_ ≠ (.slice Ao10 t87.length co10 : Value).ownBlock) ∧ some k_ ≠ (.slice Ao11 t88.length co11 : Value).ownBlock) ∧ some k_ ≠ (.slice Ao65 t126.length co65 : Value).ownBlock) ∧ some k_ ≠ (.slice Ao66 t127.length co66 : Value).ownBlock)) (n := t119.length) (c := co58) ?_).2.2; exact (rj (Kd.R_types HO92.out BK75.out (by decide)) (fun _ h_ => h_.1))); (case side6 => exact (Kd.R_reads' HO92.out).2.1); (case side7 => refine (Kd.R_reads' (e := 116) (base := w.heap.size) (ok := fun k_ => ((True ∧ some k_ ≠ (.slice Ao12 t90.length co12 : Value).ownBlock) ∧ some k_ ≠ (.slice Ao67 t131.length co67 : Value).ownBlock)) (n := t120.length) (c := co59) ?_).2.2; exact (rj (Kd.R_types HO93.out BK75.out (by decide)) (fun _ h_ => h_.1))); (case side8 => exact (Kd.R_reads' HO93.out).2.1); rintro e w69 ⟨rfl, hb⟩; replace HO_1919001 := am (Kd.R_below (rj (Kd.R_types HO_1919001.out BK75.out (by decide)) (fun _ h_ => h_.1)) hb); replace HO_1919002 := am (Kd.R_below (rj (Kd.R_types HO_1919002.out BK75.out (by decide)) (fun _ h_ => h_.1)) hb); replace HO_1919004 := am (Kd.R_below (rj (Kd.R_types HO_1919004.out BK75.out (by decide)) (fun _ h_ => h_.1)) hb); replace HO91 := am (Kd.R_below (rj (Kd.R_types HO91.out BK75.out (by decide)) (fun _ h_ => h_.1)) hb); replace HO92 := am (Kd.R_below (rj (Kd.R_types HO92.out BK75.out (by decide)) (fun _ h_ => h_.1)) hb); replace HO93 := am (Kd.R_below (rj (Kd.R_types HO93.out BK75.out (by decide)) (fun _ h_ => h_.1)) hb); replace HO114 := am (Kd.R_below (rj (Kd.R_types HO114.out BK75.out (by decide)) (fun _ h_ => h_.1)) hb); replace HO115 := am (Kd.R_below (rj (Kd.R_types HO115.out BK75.out (by decide)) (fun _ h_ => h_.1)) hb); replace HO117 := am (Kd.R_below (rj (Kd.R_types HO117.out BK75.out (by decide)) (fun _ h_ => h_.1)) hb); replace BK17 := kg1 BK17 NB17_75 hb; replace BK68 := kg1 BK68 NB68_75 hb; replace BK75 := am (blk_below (g := gb75) (o := .cells #[.string t121, .slice Ao65 t126.length co65, .slice Ao66 t127.length co66, .int .i64 t136, .slice Ao67 t131.length co67, .string t137, .int .i64 t138] 31 (0, 0)) (pt0 BK75) hb); replace HB := am (below_step bl hb); clear hb))
     go_ret
     exact ⟨by first | rfl | (simp; done) | (simp <;> rfl) | (simp [*]; done) | (simp [*] <;> rfl), bl⟩
end Go.Proofs.YtjlpjbkpmmpojaaGreatDoor.All
