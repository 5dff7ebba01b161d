-- Written by a program of this session (wip/tools/hprint.py) out of the translation. Lean checks it.
import Derived.Test.YtjlpjbkpmmpojaaGreatDoorKHitsAllx0
import Derived.Test.YtjlpjbkpmmpojaaGreatDoorKHitsAllx1
namespace Go.Proofs.YtjlpjbkpmmpojaaGreatDoor.All
open Go.RowKit Go.Proofs.YtjlpjbkpmmpojaaGreatDoorW.PrintWords Go.Proofs.YtjlpjbkpmmpojaaGreatDoorW.PrintLast Go.Proofs.YtjlpjbkpmmpojaaGreatDoorW.PrintMore
attribute [local go_sem] max2_int min2_int max_two min_two max_three min_three max_four min_four  -- for this text's walks alone
set_option linter.unusedVariables false
set_option linter.unusedSimpArgs false

/-! ### spec_l6Age: function 88 -/
def spec_l6Age.f (k : Nat) (a0 : ByteArray) : Option (Int × Bool) := if (a0.size : Int) < 8 then (some (0, false)) else (if 0 ≤ 8 then (if 8 ≤ (a0.size : Int) then (if (a0.extract 0 8).toList = ([109, 97, 120, 45, 97, 103, 101, 61] : List UInt8) then ((spec_NumRead.f k (a0.extract 8 a0.size)).bind fun bt437 => (some (bt437.1, true))) else (some (0, false))) else (none)) else (none))
set_option maxHeartbeats 8000000 in
set_option maxRecDepth 100000 in
theorem spec_l6Age.calls (k : Nat) (a0 : ByteArray) (r1 : Int) (r2 : Bool) (w : World) (h : spec_l6Age.f k a0 = some (r1, r2)) :
  Calls Tryz.prog 88 #[.string a0] w fun e w' => e = .returned (.tuple #[.int .i64 r1, .bool r2]) ∧ Below w.heap.size w w' := by
 have HB := am (Below.refl w.heap.size w)
 unfold spec_l6Age.f at h
 have H := h
 clear h
 by_cases c2 : (a0.size : Int) < 8
 ·rw [if_pos c2] at H
  have c2b0 := decide_eq_true c2
  have c2b1 : decide (a0.size < 8) = true := decide_eq_true (by omega)
  clear c2
  simp only [Option.some.injEq, Prod.mk.injEq] at H
  obtain ⟨rfl, rfl⟩ := H
  go_enter Tryz.func88, Tryz.ntmps88
  go_wp2
  go_ret2
  exact ⟨rf, bl⟩
 rw [if_neg c2] at H
 have c2b0 := decide_eq_false c2
 have c2b1 : decide (a0.size < 8) = false := decide_eq_false (by omega)
 clear c2
 revert H
 refine ifn fun c3 H => ?_
 have c3b0 := eq_true c3
 have c3b1 := decide_eq_true c3
 clear c3
 revert H
 refine ifn fun c4 H => ?_
 have c4b0 := eq_true c4
 have c4b1 := decide_eq_true c4
 clear c4
 by_cases c5 : (a0.extract 0 8).toList = ([109, 97, 120, 45, 97, 103, 101, 61] : List UInt8)
 rotate_left
 ·rw [if_neg c5] at H
  have c5b0 : ((a0.extract 0 8).toList == ([109, 97, 120, 45, 97, 103, 101, 61] : List UInt8)) = false := beq_eq_false_iff_ne.mpr c5
  have c5b1 : ((a0.extract 0 8).toList != ([109, 97, 120, 45, 97, 103, 101, 61] : List UInt8)) = true := bne_iff_ne.mpr c5
  simp only [Option.some.injEq, Prod.mk.injEq] at H
  obtain ⟨rfl, rfl⟩ := H
  go_enter Tryz.func88, Tryz.ntmps88
  go_wp2
  go_ret2
  exact ⟨rf, bl⟩
 rw [if_pos c5] at H
 have c5b0 : ((a0.extract 0 8).toList == ([109, 97, 120, 45, 97, 103, 101, 61] : List UInt8)) = true := beq_iff_eq.mpr c5
 have c5b1 : ((a0.extract 0 8).toList != ([109, 97, 120, 45, 97, 103, 101, 61] : List UInt8)) = false := bne_eq_false_iff_eq.mpr c5
 clear c5
 have c6b0 := eq_true (od : 8 ≤ (a0.size : Int))
 revert H
 refine ok2 fun t437 t438 A7 H => ?_
 (try dsimp only at H)
 simp only [Option.some.injEq, Prod.mk.injEq] at H
 obtain ⟨rfl, rfl⟩ := H
 go_enter Tryz.func88, Tryz.ntmps88
 go_wp2_with ((with_reducible refine gw ?_); first | (refine gl 25 Tryz.func106 #[.string (a0.extract 8 a0.size)] ?_; (with_reducible refine (spec_NumRead.calls k (a0.extract 8 a0.size) t437 t438 _ A7.out).mono ?_); rintro e w8 ⟨rfl, hb⟩; refine ⟨_, rfl, ?_⟩; replace HB := am (below_step bl hb); clear hb))
 go_ret2
 exact ⟨rf, bl⟩

/-! ### spec_l1Min: function 89 -/
def spec_l1Min.f (a0 : Int) (a1 : Int) : Option (Int) := if a0 < a1 then (some a0) else (some a1)
set_option maxHeartbeats 8000000 in
set_option maxRecDepth 100000 in
theorem spec_l1Min.calls (a0 : Int) (a1 : Int) (r : Int) (w : World) (h : spec_l1Min.f a0 a1 = some r) :
  Calls Tryz.prog 89 #[.int .i64 a0, .int .i64 a1] w fun e w' => e = .returned (.int .i64 r) ∧ Drawn0 w w' := by
 unfold spec_l1Min.f at h
 have H := h
 clear h
 by_cases c3 : a0 < a1
 ·rw [if_pos c3] at H
  have c3b0 := decide_eq_true c3
  clear c3
  obtain rfl := Option.some.inj H
  go_enter Tryz.func89, Tryz.ntmps89
  go_wp2
  go_ret
  exact ⟨rs, dr⟩
 rw [if_neg c3] at H
 have c3b0 := decide_eq_false c3
 clear c3
 obtain rfl := Option.some.inj H
 go_enter Tryz.func89, Tryz.ntmps89
 go_wp2
 go_ret
 exact ⟨rs, dr⟩

/-! ### spec_CcRead: function 25 -/
theorem u25HB {p : Prop} (h : p := by repeat (first | (with_reducible first | exact HB.out | apply below_alloc | apply pw_below_drewN | apply below_drew1 | refine below_set ?_ GE439.out | refine below_set ?_ GE440.out) | exact HB.out)) : p := h
mutual
def spec_CcRead.l0 : Nat → List ByteArray → Int → Bool → Bool → Bool → Bool → Bool → Int → Option (Bool × Bool × Bool × Bool × Bool × Int)
 | 0, _, _, _, _, _, _, _, _ => none
 | k + 1, x4, x5, x441000, x441001, x441002, x441003, x441004, x441005 => if x5 < (x4.length : Int) then (if 0 ≤ x5 then ((spec_Lower.f k (rdOf ByteArray.empty x4 x5)).bind fun t445 => ((spec_l6Age.f k t445).bind fun bt446 => (if t445.toList = ([110, 111, 45, 115, 116, 111, 114, 101] : List UInt8) then (spec_CcRead.l0 k x4 (wrap64 (x5 + 1)) true x441001 x441002 x441003 x441004 x441005) else (if t445.toList = ([110, 111, 45, 99, 97, 99, 104, 101] : List UInt8) then (spec_CcRead.l0 k x4 (wrap64 (x5 + 1)) x441000 true x441002 x441003 x441004 x441005) else (if t445.toList = ([112, 114, 105, 118, 97, 116, 101] : List UInt8) then (spec_CcRead.l0 k x4 (wrap64 (x5 + 1)) x441000 x441001 true x441003 x441004 x441005) else (if t445.toList = ([109, 117, 115, 116, 45, 114, 101, 118, 97, 108, 105, 100, 97, 116, 101] : List UInt8) then (spec_CcRead.l0 k x4 (wrap64 (x5 + 1)) x441000 x441001 x441002 true x441004 x441005) else (if bt446.2 = true then (spec_CcRead.j1 k x4 x5 bt446.1 bt446.2 x441004 x441000 x441001 x441002 x441003 x441004 x441005) else (spec_CcRead.j1 k x4 x5 bt446.1 bt446.2 false x441000 x441001 x441002 x441003 x441004 x441005)))))))) else (none)) else (some (x441000, x441001, x441002, x441003, x441004, x441005))
def spec_CcRead.j1 : Nat → List ByteArray → Int → Int → Bool → Bool → Bool → Bool → Bool → Bool → Bool → Int → Option (Bool × Bool × Bool × Bool × Bool × Int)
 | 0, _, _, _, _, _, _, _, _, _, _, _ => none
 | k + 1, x4, x5, x7, x8, x44, x441000, x441001, x441002, x441003, x441004, x441005 => if x44 = true then ((spec_l1Min.f x441005 x7).bind fun t448 => (spec_CcRead.l0 k x4 (wrap64 (x5 + 1)) x441000 x441001 x441002 x441003 x441004 t448)) else (if x8 = true then (spec_CcRead.l0 k x4 (wrap64 (x5 + 1)) x441000 x441001 x441002 x441003 true x7) else (spec_CcRead.l0 k x4 (wrap64 (x5 + 1)) x441000 x441001 x441002 x441003 x441004 x441005))
end
def spec_CcRead.f (k : Nat) (a0 : ByteArray) : Option (Bool × Bool × Bool × Bool × Bool × Int) := (spec_Split.f k a0).bind fun t441 => (spec_CcRead.l0 k t441 0 false false false false false 0)
set_option maxHeartbeats 8000000 in
set_option maxRecDepth 100000 in
theorem spec_CcRead.calls (k : Nat) (a0 : ByteArray) (r1 : Bool) (r2 : Bool) (r3 : Bool) (r4 : Bool) (r5 : Bool) (r6 : Int) (w : World) (h : spec_CcRead.f k a0 = some (r1, r2, r3, r4, r5, r6)) :
  Calls Tryz.prog 25 #[.string a0] w fun e w' => e = .returned (.agg #[.bool r1, .bool r2, .bool r3, .bool r4, .bool r5, .int .i64 r6]) ∧ Below w.heap.size w w' := by
 have hu42 := Tryz.underlying42
 have HB := am (Below.refl w.heap.size w)
 unfold spec_CcRead.f at h
 have H := h
 clear h
 revert H
 refine ok1 fun t441 A2 H => ?_
 have H' := am H
 clear H
 go_enter Tryz.func25, Tryz.ntmps25
 go_wp2_with ((with_reducible refine gw ?_); first | (refine bx 2 #[.bool false, .bool false, .bool false, .bool false, .bool false, .int .i64 0] 42 ?_; intro gb439 hg w3 hbox hb; have BK439 := am (hbox); have GW439 := am (sz hg : w.heap.size ≤ gb439); have GE439 := am (sz hg : w.heap.size ≤ gb439); replace HB := am (below_step bl hb); clear hb hbox hg) | (refine bx 3 #[.bool false, .bool false, .bool false, .bool false, .bool false, .int .i64 0] 42 ?_; intro gb440 hg w4 hbox hb; have BK440 := am (hbox); have GW440 := am (sz hg : w.heap.size ≤ gb440); have GE440 := am (sz hg : w.heap.size ≤ gb440); replace HB := am (below_step bl hb); have NB439_440 := am (nl hg BK439 : gb439 ≠ gb440); have NB440_439 := am (ng hg BK439 : gb440 ≠ gb439); replace BK439 := kb BK439 hb; clear hb hbox hg; have hnb5 := NB440_439.out; have hnc5 := NB439_440.out; obtain ⟨z6_0, y6_0, z6_1, y6_1, z6_2, y6_2, z6_3, y6_3, z6_4, y6_4, z6_5, y6_5⟩ := cl6 BK440) | (refine gl 11 Tryz.func86 #[.string a0] ?_; (with_reducible refine (spec_Split.calls k a0 t441 _ A2.out).mono ?_); rintro e w7 ⟨v442, rfl, ho0, hb⟩; refine ⟨_, rfl, ?_⟩; have HO443 := am (Kd.R_lower ho0 (below_size bl)); replace BK439 := kg1 BK439 NB439_440 hb; replace BK440 := am (blk_below (g := gb440) (o := .cells #[.bool false, .bool false, .bool false, .bool false, .bool false, .int .i64 0] 42 (0, 0)) (pt0 BK440) hb); replace HB := am (below_step bl hb); clear hb ho0))
 (try simp only [Act.put, List.setIfInBounds_toArray, List.set_cons_zero, List.set_cons_succ])
 go_loopg [5] k (fun kq v5 w' => ∃ (x5_1 : Int) (x441000_1 : Bool) (x441001_1 : Bool) (x441002_1 : Bool) (x441003_1 : Bool) (x441004_1 : Bool) (x441005_1 : Int), v5 = .int .i64 x5_1 ∧ Aside0 (spec_CcRead.l0 kq t441 x5_1 x441000_1 x441001_1 x441002_1 x441003_1 x441004_1 x441005_1 = some (r1, r2, r3, r4, r5, r6)) ∧ Aside0 (kq ≤ k) ∧ Aside0 (Kd.R Kd.string 9 w' w.heap.size (fun _ => True) v442 t441) ∧ Aside0 (w'.heap[gb439]? = some (.cells #[.bool false, .bool false, .bool false, .bool false, .bool false, .int .i64 0] 42 (0, 0))) ∧ Aside0 (w'.heap[gb440]? = some (.cells #[.bool x441000_1, .bool x441001_1, .bool x441002_1, .bool x441003_1, .bool x441004_1, .int .i64 x441005_1] 42 (0, 0))) ∧ Aside0 (Below w.heap.size w w'))
 case atStart => exact ⟨(0), (false), (false), (false), (false), (false), (0), rs, H', ⟨Nat.le_refl _⟩, ⟨by (with_reducible repeat (first | apply Kd.R_alloc | apply Kd.R_drewN | apply Kd.R_drew)); exact HO443.out⟩, ⟨by (with_reducible repeat (first | refine blk_drewN ?_ _ | refine blk_drew ?_ | refine blk_alloc ?_ _)); exact BK439.out⟩, ⟨by (with_reducible repeat (first | refine blk_drewN ?_ _ | refine blk_drew ?_ | refine blk_alloc ?_ _)); exact BK440.out⟩, ⟨u25HB⟩⟩
 case round =>
  clear H'
  try clear c2
  try clear p2
  try clear c5
  try clear z6_0
  try clear z6_1
  try clear z6_2
  try clear z6_3
  try clear z6_4
  try clear z6_5
  try clear y6_0
  try clear y6_1
  try clear y6_2
  try clear y6_3
  try clear y6_4
  try clear y6_5
  obtain ⟨x5_1, x441000_1, x441001_1, x441002_1, x441003_1, x441004_1, x441005_1, rfl, HA, HK1, HO_4, BK439, BK440, HB⟩ := hrel
  cases gk with
  | zero => exact absurd HA.out (by simp [spec_CcRead.l0])
  | succ k1 =>
   have H := HA.out
   clear HA
   simp only [spec_CcRead.l0] at H
   by_cases c8 : x5_1 < (t441.length : Int)
   rotate_left
   ·rw [if_neg c8] at H
    have c8b0 := decide_eq_false c8
    clear c8
    simp only [Option.some.injEq, Prod.mk.injEq] at H
    obtain ⟨rfl, rfl, rfl, rfl, rfl, rfl⟩ := H
    obtain ⟨Ao39, co39, eo39⟩ := Kd.R_slice HO_4.out
    subst eo39
    have hnb40 := NB440_439.out
    have hnc40 := NB439_440.out
    obtain ⟨z41_0, y41_0, z41_1, y41_1, z41_2, y41_2, z41_3, y41_3, z41_4, y41_4, z41_5, y41_5⟩ := cl6 BK440
    obtain ⟨z42_0, y42_0, z42_1, y42_1, z42_2, y42_2, z42_3, y42_3, z42_4, y42_4, z42_5, y42_5⟩ := cl6 BK439
    go_wp2
    refine bodyPost_ret (results_cell_row rfl _ _ gb439 42 #[.bool x441000_1, .bool x441001_1, .bool x441002_1, .bool x441003_1, .bool x441004_1, .int .i64 x441005_1] (0, 0) _ rfl (pt0 BK439) Tryz.underlying42 rfl (by kernel_rfl)) rfl ?_
    exact ⟨rf, bl⟩
   rw [if_pos c8] at H
   have c8b0 := decide_eq_true c8
   clear c8
   revert H
   refine ifn fun c9 H => ?_
   have c9b0 := decide_eq_true c9
   clear c9
   revert H
   refine ok1 fun t445 A10 H => ?_
   revert H
   refine ok2 fun t446 t447 A11 H => ?_
   (try dsimp only at H)
   have HH12 := am H
   clear H
   obtain ⟨Ao13, co13, eo13⟩ := Kd.R_slice HO_4.out
   subst eo13
   have p444 : 0 ≤ (x5_1 : Int) := od
   have q444 : x5_1 < (t441.length : Int) := od
   obtain ⟨ad444, e444, hx444_0⟩ := Kd.at_string (Kd.R_reads' HO_4.out).2.2 x5_1 p444 q444
   cases e444
   replace p444 := eq_true p444
   replace q444 := eq_true q444
   go_upto_if 28 with ((with_reducible refine gw ?_); first | (refine gl 22 Tryz.func87 #[.string (rdOf ByteArray.empty t441 x5_1)] ?_; (with_reducible refine (spec_Lower.calls k1 (rdOf ByteArray.empty t441 x5_1) t445 _ A10.out).mono ?_); rintro e w14 ⟨rfl, hb⟩; refine ⟨_, rfl, ?_⟩; replace HO_4 := kr HO_4 hb; replace BK439 := kb BK439 hb; replace BK440 := kb BK440 hb; replace HB := am (below_step bl hb); clear hb) | (refine gl 25 Tryz.func88 #[.string t445] ?_; (with_reducible refine (spec_l6Age.calls k1 t445 t446 t447 _ A11.out).mono ?_); rintro e w15 ⟨rfl, hb⟩; refine ⟨_, rfl, ?_⟩; replace HO_4 := kr HO_4 hb; replace BK439 := kb BK439 hb; replace BK440 := kb BK440 hb; replace HB := am (below_step bl hb); clear hb))
   have H := HH12.out
   clear HH12
   by_cases c16 : t445.toList = ([110, 111, 45, 115, 116, 111, 114, 101] : List UInt8)
   ·rw [if_pos c16] at H
    have c16b0 : (t445.toList == ([110, 111, 45, 115, 116, 111, 114, 101] : List UInt8)) = true := beq_iff_eq.mpr c16
    have c16b1 : (t445.toList != ([110, 111, 45, 115, 116, 111, 114, 101] : List UInt8)) = false := bne_eq_false_iff_eq.mpr c16
    clear c16
    (first | rw [c16b0] | (simp only [i64_w, i32_w]; rw [c16b0]) | skip)
    have H' := am H
    clear H
    have hnb17 := NB440_439.out
    have hnc17 := NB439_440.out
    obtain ⟨z18_0, y18_0, z18_1, y18_1, z18_2, y18_2, z18_3, y18_3, z18_4, y18_4, z18_5, y18_5⟩ := cl6 BK440
    go_wp2
    go_roundg k1
    case measure => have := HK1.out; omega
    case rel => exact ⟨(wrap64 (x5_1 + 1)), (true), (x441001_1), (x441002_1), (x441003_1), (x441004_1), (x441005_1), rs, H', ⟨by have := HK1.out; omega⟩, ⟨rj (Kd.R_types HO_4.out BK440.out (by decide)) (fun _ hk => trivial)⟩, ⟨by (with_reducible repeat (first | refine blk_drewN ?_ _ | refine blk_drew ?_ | refine blk_alloc ?_ _)); refine blk_far ?_ NB439_440.out _; (with_reducible repeat (first | refine blk_drewN ?_ _ | refine blk_drew ?_ | refine blk_alloc ?_ _)); exact BK439.out⟩, ⟨pt0 BK440⟩, ⟨u25HB⟩⟩
   rw [if_neg c16] at H
   have c16b0 : (t445.toList == ([110, 111, 45, 115, 116, 111, 114, 101] : List UInt8)) = false := beq_eq_false_iff_ne.mpr c16
   have c16b1 : (t445.toList != ([110, 111, 45, 115, 116, 111, 114, 101] : List UInt8)) = true := bne_iff_ne.mpr c16
   (first | rw [c16b0] | (simp only [i64_w, i32_w]; rw [c16b0]) | skip)
   by_cases c19 : t445.toList = ([110, 111, 45, 99, 97, 99, 104, 101] : List UInt8)
   ·rw [if_pos c19] at H
    have c19b0 : (t445.toList == ([110, 111, 45, 99, 97, 99, 104, 101] : List UInt8)) = true := beq_iff_eq.mpr c19
    have c19b1 : (t445.toList != ([110, 111, 45, 99, 97, 99, 104, 101] : List UInt8)) = false := bne_eq_false_iff_eq.mpr c19
    clear c19
    have H' := am H
    clear H
    have hnb20 := NB440_439.out
    have hnc20 := NB439_440.out
    obtain ⟨z21_0, y21_0, z21_1, y21_1, z21_2, y21_2, z21_3, y21_3, z21_4, y21_4, z21_5, y21_5⟩ := cl6 BK440
    go_wp2
    go_roundg k1
    case measure => have := HK1.out; omega
    case rel => exact ⟨(wrap64 (x5_1 + 1)), (x441000_1), (true), (x441002_1), (x441003_1), (x441004_1), (x441005_1), rs, H', ⟨by have := HK1.out; omega⟩, ⟨rj (Kd.R_types HO_4.out BK440.out (by decide)) (fun _ hk => trivial)⟩, ⟨by (with_reducible repeat (first | refine blk_drewN ?_ _ | refine blk_drew ?_ | refine blk_alloc ?_ _)); refine blk_far ?_ NB439_440.out _; (with_reducible repeat (first | refine blk_drewN ?_ _ | refine blk_drew ?_ | refine blk_alloc ?_ _)); exact BK439.out⟩, ⟨pt0 BK440⟩, ⟨u25HB⟩⟩
   rw [if_neg c19] at H
   have c19b0 : (t445.toList == ([110, 111, 45, 99, 97, 99, 104, 101] : List UInt8)) = false := beq_eq_false_iff_ne.mpr c19
   have c19b1 : (t445.toList != ([110, 111, 45, 99, 97, 99, 104, 101] : List UInt8)) = true := bne_iff_ne.mpr c19
   by_cases c22 : t445.toList = ([112, 114, 105, 118, 97, 116, 101] : List UInt8)
   ·rw [if_pos c22] at H
    have c22b0 : (t445.toList == ([112, 114, 105, 118, 97, 116, 101] : List UInt8)) = true := beq_iff_eq.mpr c22
    have c22b1 : (t445.toList != ([112, 114, 105, 118, 97, 116, 101] : List UInt8)) = false := bne_eq_false_iff_eq.mpr c22
    clear c22
    have H' := am H
    clear H
    have hnb23 := NB440_439.out
    have hnc23 := NB439_440.out
    obtain ⟨z24_0, y24_0, z24_1, y24_1, z24_2, y24_2, z24_3, y24_3, z24_4, y24_4, z24_5, y24_5⟩ := cl6 BK440
    go_wp2
    go_roundg k1
    case measure => have := HK1.out; omega
    case rel => exact ⟨(wrap64 (x5_1 + 1)), (x441000_1), (x441001_1), (true), (x441003_1), (x441004_1), (x441005_1), rs, H', ⟨by have := HK1.out; omega⟩, ⟨rj (Kd.R_types HO_4.out BK440.out (by decide)) (fun _ hk => trivial)⟩, ⟨by (with_reducible repeat (first | refine blk_drewN ?_ _ | refine blk_drew ?_ | refine blk_alloc ?_ _)); refine blk_far ?_ NB439_440.out _; (with_reducible repeat (first | refine blk_drewN ?_ _ | refine blk_drew ?_ | refine blk_alloc ?_ _)); exact BK439.out⟩, ⟨pt0 BK440⟩, ⟨u25HB⟩⟩
   rw [if_neg c22] at H
   have c22b0 : (t445.toList == ([112, 114, 105, 118, 97, 116, 101] : List UInt8)) = false := beq_eq_false_iff_ne.mpr c22
   have c22b1 : (t445.toList != ([112, 114, 105, 118, 97, 116, 101] : List UInt8)) = true := bne_iff_ne.mpr c22
   by_cases c25 : t445.toList = ([109, 117, 115, 116, 45, 114, 101, 118, 97, 108, 105, 100, 97, 116, 101] : List UInt8)
   ·rw [if_pos c25] at H
    have c25b0 : (t445.toList == ([109, 117, 115, 116, 45, 114, 101, 118, 97, 108, 105, 100, 97, 116, 101] : List UInt8)) = true := beq_iff_eq.mpr c25
    have c25b1 : (t445.toList != ([109, 117, 115, 116, 45, 114, 101, 118, 97, 108, 105, 100, 97, 116, 101] : List UInt8)) = false := bne_eq_false_iff_eq.mpr c25
    clear c25
    have H' := am H
    clear H
    have hnb26 := NB440_439.out
    have hnc26 := NB439_440.out
    obtain ⟨z27_0, y27_0, z27_1, y27_1, z27_2, y27_2, z27_3, y27_3, z27_4, y27_4, z27_5, y27_5⟩ := cl6 BK440
    go_wp2
    go_roundg k1
    case measure => have := HK1.out; omega
    case rel => exact ⟨(wrap64 (x5_1 + 1)), (x441000_1), (x441001_1), (x441002_1), (true), (x441004_1), (x441005_1), rs, H', ⟨by have := HK1.out; omega⟩, ⟨rj (Kd.R_types HO_4.out BK440.out (by decide)) (fun _ hk => trivial)⟩, ⟨by (with_reducible repeat (first | refine blk_drewN ?_ _ | refine blk_drew ?_ | refine blk_alloc ?_ _)); refine blk_far ?_ NB439_440.out _; (with_reducible repeat (first | refine blk_drewN ?_ _ | refine blk_drew ?_ | refine blk_alloc ?_ _)); exact BK439.out⟩, ⟨pt0 BK440⟩, ⟨u25HB⟩⟩
   rw [if_neg c25] at H
   have c25b0 : (t445.toList == ([109, 117, 115, 116, 45, 114, 101, 118, 97, 108, 105, 100, 97, 116, 101] : List UInt8)) = false := beq_eq_false_iff_ne.mpr c25
   have c25b1 : (t445.toList != ([109, 117, 115, 116, 45, 114, 101, 118, 97, 108, 105, 100, 97, 116, 101] : List UInt8)) = true := bne_iff_ne.mpr c25
   have HC28 := am H
   clear H
   go_upto_region 16 with (fail)
   go_cut [44] (fun v44 wc => ∃ (kq : Nat) (x44_27 : Bool), v44 = .bool x44_27 ∧ Aside0 (spec_CcRead.j1 kq t441 x5_1 t446 t447 x44_27 x441000_1 x441001_1 x441002_1 x441003_1 x441004_1 x441005_1 = some (r1, r2, r3, r4, r5, r6)) ∧ Aside0 (kq ≤ k1) ∧ Aside0 (Kd.R Kd.string 9 wc w.heap.size (fun _ => True) (.slice (some ad444) t441.length co13) t441) ∧ Aside0 (wc.heap[gb439]? = some (.cells #[.bool false, .bool false, .bool false, .bool false, .bool false, .int .i64 0] 42 (0, 0))) ∧ Aside0 (wc.heap[gb440]? = some (.cells #[.bool x441000_1, .bool x441001_1, .bool x441002_1, .bool x441003_1, .bool x441004_1, .int .i64 x441005_1] 42 (0, 0))) ∧ Aside0 (Below w.heap.size w wc))
   case first =>
    have H := HC28.out
    clear HC28
    by_cases c29 : t447 = true
    rotate_left
    ·replace c29 := Bool.eq_false_iff.mpr c29
     subst c29
     rw [if_neg (show ¬ (false = true) by decide)] at H
     have H' := am H
     clear H
     go_wp2
     go_meet
     case rel => exact ⟨_, (false), rs, H', ⟨by have := HK1.out; first | omega | exact Nat.le_refl _⟩, ⟨by (with_reducible repeat (first | apply Kd.R_alloc | apply Kd.R_drewN | apply Kd.R_drew)); exact HO_4.out⟩, ⟨by (with_reducible repeat (first | refine blk_drewN ?_ _ | refine blk_drew ?_ | refine blk_alloc ?_ _)); exact BK439.out⟩, ⟨by (with_reducible repeat (first | refine blk_drewN ?_ _ | refine blk_drew ?_ | refine blk_alloc ?_ _)); exact BK440.out⟩, ⟨u25HB⟩⟩
    subst c29
    rw [if_pos rfl] at H
    have H' := am H
    clear H
    have hnb30 := NB440_439.out
    have hnc30 := NB439_440.out
    obtain ⟨z31_0, y31_0, z31_1, y31_1, z31_2, y31_2, z31_3, y31_3, z31_4, y31_4, z31_5, y31_5⟩ := cl6 BK440
    go_wp2
    go_meet
    case rel => exact ⟨_, (x441004_1), rs, H', ⟨by have := HK1.out; first | omega | exact Nat.le_refl _⟩, ⟨by (with_reducible repeat (first | apply Kd.R_alloc | apply Kd.R_drewN | apply Kd.R_drew)); exact HO_4.out⟩, ⟨by (with_reducible repeat (first | refine blk_drewN ?_ _ | refine blk_drew ?_ | refine blk_alloc ?_ _)); exact BK439.out⟩, ⟨by (with_reducible repeat (first | refine blk_drewN ?_ _ | refine blk_drew ?_ | refine blk_alloc ?_ _)); exact BK440.out⟩, ⟨u25HB⟩⟩
   case rest =>
    clear HC28
    try clear c1
    try clear c2
    try clear p2
    try clear c3
    try clear p4
    try clear q4
    try clear hx4
    try clear c5
    try clear p6
    try clear c8
    try clear c8b0
    try clear c9
    try clear c9b0
    try clear c16
    try clear c16b0
    try clear c16b1
    try clear c17
    try clear c19
    try clear c19b0
    try clear c19b1
    try clear c20
    try clear c22
    try clear c22b0
    try clear c22b1
    try clear c23
    try clear c25
    try clear c25b0
    try clear c25b1
    try clear c26
    try clear c29
    try clear c30
    try clear z18_0
    try clear z18_1
    try clear z18_2
    try clear z18_3
    try clear z18_4
    try clear z18_5
    try clear z21_0
    try clear z21_1
    try clear z21_2
    try clear z21_3
    try clear z21_4
    try clear z21_5
    try clear z24_0
    try clear z24_1
    try clear z24_2
    try clear z24_3
    try clear z24_4
    try clear z24_5
    try clear z27_0
    try clear z27_1
    try clear z27_2
    try clear z27_3
    try clear z27_4
    try clear z27_5
    try clear z31_0
    try clear z31_1
    try clear z31_2
    try clear z31_3
    try clear z31_4
    try clear z31_5
    try clear z6_0
    try clear z6_1
    try clear z6_2
    try clear z6_3
    try clear z6_4
    try clear z6_5
    try clear y18_0
    try clear y18_1
    try clear y18_2
    try clear y18_3
    try clear y18_4
    try clear y18_5
    try clear y21_0
    try clear y21_1
    try clear y21_2
    try clear y21_3
    try clear y21_4
    try clear y21_5
    try clear y24_0
    try clear y24_1
    try clear y24_2
    try clear y24_3
    try clear y24_4
    try clear y24_5
    try clear y27_0
    try clear y27_1
    try clear y27_2
    try clear y27_3
    try clear y27_4
    try clear y27_5
    try clear y31_0
    try clear y31_1
    try clear y31_2
    try clear y31_3
    try clear y31_4
    try clear y31_5
    try clear y6_0
    try clear y6_1
    try clear y6_2
    try clear y6_3
    try clear y6_4
    try clear y6_5
    try clear hx444_0
    try clear p2
    try clear p444
    try clear q444
    obtain ⟨kq, x44_27, rfl, HA, HJ27, HO_4, BK439, BK440, HB⟩ := hcut
    cases kq with
    | zero => exact absurd HA.out (by simp [spec_CcRead.j1])
    | succ kj27 =>
     have H := HA.out
     clear HA
     simp only [spec_CcRead.j1] at H
     by_cases c32 : x44_27 = true
     rotate_left
     ·replace c32 := Bool.eq_false_iff.mpr c32
      subst c32
      rw [if_neg (show ¬ (false = true) by decide)] at H
      by_cases c36 : t447 = true
      rotate_left
      ·replace c36 := Bool.eq_false_iff.mpr c36
       subst c36
       rw [if_neg (show ¬ (false = true) by decide)] at H
       have H' := am H
       clear H
       go_wp2
       go_roundg kj27
       case measure => have := HK1.out; have := HJ27.out; omega
       case rel => exact ⟨(wrap64 (x5_1 + 1)), (x441000_1), (x441001_1), (x441002_1), (x441003_1), (x441004_1), (x441005_1), rs, H', ⟨by have := HK1.out; have := HJ27.out; omega⟩, ⟨by (with_reducible repeat (first | apply Kd.R_alloc | apply Kd.R_drewN | apply Kd.R_drew)); exact HO_4.out⟩, ⟨by (with_reducible repeat (first | refine blk_drewN ?_ _ | refine blk_drew ?_ | refine blk_alloc ?_ _)); exact BK439.out⟩, ⟨by (with_reducible repeat (first | refine blk_drewN ?_ _ | refine blk_drew ?_ | refine blk_alloc ?_ _)); exact BK440.out⟩, ⟨u25HB⟩⟩
      subst c36
      rw [if_pos rfl] at H
      have H' := am H
      clear H
      have hnb37 := NB440_439.out
      have hnc37 := NB439_440.out
      obtain ⟨z38_0, y38_0, z38_1, y38_1, z38_2, y38_2, z38_3, y38_3, z38_4, y38_4, z38_5, y38_5⟩ := cl6 BK440
      go_wp2
      go_roundg kj27
      case measure => have := HK1.out; have := HJ27.out; omega
      case rel => exact ⟨(wrap64 (x5_1 + 1)), (x441000_1), (x441001_1), (x441002_1), (x441003_1), (true), (t446), rs, H', ⟨by have := HK1.out; have := HJ27.out; omega⟩, ⟨rj (Kd.R_types HO_4.out BK440.out (by decide)) (fun _ hk => trivial)⟩, ⟨by (with_reducible repeat (first | refine blk_drewN ?_ _ | refine blk_drew ?_ | refine blk_alloc ?_ _)); refine blk_far ?_ NB439_440.out _; (with_reducible repeat (first | refine blk_drewN ?_ _ | refine blk_drew ?_ | refine blk_alloc ?_ _)); refine blk_far ?_ NB439_440.out _; (with_reducible repeat (first | refine blk_drewN ?_ _ | refine blk_drew ?_ | refine blk_alloc ?_ _)); exact BK439.out⟩, ⟨pt0 BK440⟩, ⟨u25HB⟩⟩
     subst c32
     rw [if_pos rfl] at H
     revert H
     refine ok1 fun t448 A33 H => ?_
     have H' := am H
     clear H
     have hnb34 := NB440_439.out
     have hnc34 := NB439_440.out
     obtain ⟨z35_0, y35_0, z35_1, y35_1, z35_2, y35_2, z35_3, y35_3, z35_4, y35_4, z35_5, y35_5⟩ := cl6 BK440
     go_wp2_with ((with_reducible refine gw ?_); first | (refine gl 53 Tryz.func89 #[.int .i64 x441005_1, .int .i64 t446] ?_; (with_reducible refine (spec_l1Min.calls x441005_1 t446 t448 _ A33.out).mono ?_); rintro e w' ⟨rfl, ⟨nd, rfl⟩⟩; refine ⟨_, rfl, ?_⟩; (try (rw [drewN_self wc]; generalize hq_ : World.drewN wc _ = wc; have n0_ : Aside0 (Kd.R Kd.string 9 wc w.heap.size (fun _ => True) (.slice (some ad444) t441.length co13) t441) := ⟨by rw [← hq_]; exact (ro HO_4)⟩; have n1_ : Aside0 (wc.heap[gb439]? = some (.cells #[.bool false, .bool false, .bool false, .bool false, .bool false, .int .i64 0] 42 (0, 0))) := ⟨by rw [← hq_]; exact (bk BK439)⟩; have n2_ : Aside0 (wc.heap[gb440]? = some (.cells #[.bool x441000_1, .bool x441001_1, .bool x441002_1, .bool x441003_1, .bool x441004_1, .int .i64 x441005_1] 42 (0, 0))) := ⟨by rw [← hq_]; exact (bk BK440)⟩; have n3_ : Aside0 (Below w.heap.size w wc) := ⟨by rw [← hq_]; exact bl⟩; clear HO_4 BK439 BK440 HB hq_; have HO_4 := n0_; have BK439 := n1_; have BK440 := n2_; have HB := n3_; clear n0_ n1_ n2_ n3_; obtain ⟨z35_0, y35_0, z35_1, y35_1, z35_2, y35_2, z35_3, y35_3, z35_4, y35_4, z35_5, y35_5⟩ := cl6 BK440))))
     go_roundg kj27
     case measure => have := HK1.out; have := HJ27.out; omega
     case rel => exact ⟨(wrap64 (x5_1 + 1)), (x441000_1), (x441001_1), (x441002_1), (x441003_1), (x441004_1), (t448), rs, H', ⟨by have := HK1.out; have := HJ27.out; omega⟩, ⟨rj (Kd.R_types HO_4.out BK440.out (by decide)) (fun _ hk => trivial)⟩, ⟨by (with_reducible repeat (first | refine blk_drewN ?_ _ | refine blk_drew ?_ | refine blk_alloc ?_ _)); refine blk_far ?_ NB439_440.out _; (with_reducible repeat (first | refine blk_drewN ?_ _ | refine blk_drew ?_ | refine blk_alloc ?_ _)); exact BK439.out⟩, ⟨pt0 BK440⟩, ⟨u25HB⟩⟩

/-! ### spec_CcOf: function 27 -/
def spec_CcOf.f (k : Nat) (l0 : List (S116)) : Option (Bool × Bool × Bool × Bool × Bool × Int) := (spec_Get.f k l0 (⟨#[99, 97, 99, 104, 101, 45, 99, 111, 110, 116, 114, 111, 108]⟩ : ByteArray)).bind fun bt452 => ((spec_CcRead.f k bt452.1).bind fun bt454 => (some (bt454.1, bt454.2.1, bt454.2.2.1, bt454.2.2.2.1, bt454.2.2.2.2.1, bt454.2.2.2.2.2)))
set_option maxHeartbeats 8000000 in
set_option maxRecDepth 100000 in
theorem spec_CcOf.calls (k : Nat) (A0 : Option Addr) (c0 : Nat) (l0 : List (S116)) (r1 : Bool) (r2 : Bool) (r3 : Bool) (r4 : Bool) (r5 : Bool) (r6 : Int) (w : World) (hr0 : Kd.C k116 w A0 l0.length l0) (hc0 : l0.length ≤ c0) (h : spec_CcOf.f k l0 = some (r1, r2, r3, r4, r5, r6)) :
  Calls Tryz.prog 27 #[.slice A0 l0.length c0] w fun e w' => e = .returned (.agg #[.bool r1, .bool r2, .bool r3, .bool r4, .bool r5, .int .i64 r6]) ∧ Below w.heap.size w w' := by
 have hu42 := Tryz.underlying42
 have HR0 := am hr0
 have HC0 := am hc0
 clear hr0 hc0
 have HB := am (Below.refl w.heap.size w)
 unfold spec_CcOf.f at h
 have H := h
 clear h
 revert H
 refine ok2 fun t452 t453 A2 H => ?_
 (try dsimp only at H)
 revert H
 refine ok6 fun t454 t455 t456 t457 t458 t459 A3 H => ?_
 (try dsimp only at H)
 simp only [Option.some.injEq, Prod.mk.injEq] at H
 obtain ⟨rfl, rfl, rfl, rfl, rfl, rfl⟩ := H
 go_enter Tryz.func27, Tryz.ntmps27
 go_wp2_with ((with_reducible refine gw ?_); first | (refine bx 2 #[.bool false, .bool false, .bool false, .bool false, .bool false, .int .i64 0] 42 ?_; intro gb451 hg w4 hbox hb; have BK451 := am (hbox); have GW451 := am (sz hg : w.heap.size ≤ gb451); have GE451 := am (sz hg : w.heap.size ≤ gb451); replace HB := am (below_step bl hb); clear hb hbox hg) | (refine gl 7 Tryz.func66 #[.slice A0 l0.length c0, .string (⟨#[99, 97, 99, 104, 101, 45, 99, 111, 110, 116, 114, 111, 108]⟩ : ByteArray)] ?_; (with_reducible refine (spec_Get.calls k _ _ l0 (⟨#[99, 97, 99, 104, 101, 45, 99, 111, 110, 116, 114, 111, 108]⟩ : ByteArray) t452 t453 _ ?side1 ?side2 A2.out).mono ?_); (case side1 => exact cb HR0); (case side2 => exact HC0.out); rintro e w' ⟨rfl, ⟨nd, rfl⟩⟩; refine ⟨_, rfl, ?_⟩; (try (rw [drewN_self w4]; generalize hq_ : World.drewN w4 _ = w4; have n0_ : Aside0 (w4.heap[gb451]? = some (.cells #[.bool false, .bool false, .bool false, .bool false, .bool false, .int .i64 0] 42 (0, 0))) := ⟨by rw [← hq_]; exact (bk BK451)⟩; have n1_ : Aside0 (Below w.heap.size w w4) := ⟨by rw [← hq_]; exact bl⟩; clear BK451 HB hq_; have BK451 := n0_; have HB := n1_; clear n0_ n1_))) | (refine gl 11 Tryz.func25 #[.string t452] ?_; (with_reducible refine (spec_CcRead.calls k t452 t454 t455 t456 t457 t458 t459 _ A3.out).mono ?_); rintro e w5 ⟨rfl, hb⟩; refine ⟨_, rfl, ?_⟩; replace BK451 := kb BK451 hb; replace HB := am (below_step bl hb); clear hb; obtain ⟨z6_0, y6_0, z6_1, y6_1, z6_2, y6_2, z6_3, y6_3, z6_4, y6_4, z6_5, y6_5⟩ := cl6 BK451))
 refine bodyPost_ret (results_cell_row rfl _ _ gb451 42 #[.bool t454, .bool t455, .bool t456, .bool t457, .bool t458, .int .i64 t459] (0, 0) _ rfl (pt0 BK451) Tryz.underlying42 rfl (by kernel_rfl)) rfl ?_
 exact ⟨rf, bl⟩

/-! ### stringslite_HasPrefix: function 131 -/
def stringslite_HasPrefix.f (a0 : ByteArray) (a1 : ByteArray) : Option (Bool) := if (a0.size : Int) ≥ (a1.size : Int) then (if 0 ≤ (a1.size : Int) then (if (a1.size : Int) ≤ (a0.size : Int) then (some ((a0.extract 0 ((a1.size : Int) : Int).toNat).toList == a1.toList)) else (none)) else (none)) else (some false)
set_option maxHeartbeats 8000000 in
set_option maxRecDepth 100000 in
theorem stringslite_HasPrefix.calls (a0 : ByteArray) (a1 : ByteArray) (r : Bool) (w : World) (h : stringslite_HasPrefix.f a0 a1 = some r) :
  Calls Tryz.prog 131 #[.string a0, .string a1] w fun e w' => e = .returned (.bool r) ∧ Drawn0 w w' := by
 unfold stringslite_HasPrefix.f at h
 have H := h
 clear h
 by_cases c3 : (a0.size : Int) ≥ (a1.size : Int)
 rotate_left
 ·rw [if_neg c3] at H
  have c3b0 := decide_eq_false c3
  have c3b1 : decide (a1.size ≤ a0.size) = false := decide_eq_false (fun h => c3 (Int.ofNat_le.mpr h))
  clear c3
  obtain rfl := Option.some.inj H
  go_enter Tryz.func131, Tryz.ntmps131
  go_wp2
  go_ret
  exact ⟨rs, dr⟩
 rw [if_pos c3] at H
 have c3b0 := decide_eq_true c3
 have c3b1 : decide (a1.size ≤ a0.size) = true := decide_eq_true (Int.ofNat_le.mp c3)
 clear c3
 revert H
 refine ifn fun c4 H => ?_
 have c4b0 := eq_true c4
 have c4b1 := decide_eq_true c4
 clear c4
 revert H
 refine ifn fun c5 H => ?_
 have c5b0 := eq_true c5
 have c5b1 := decide_eq_true c5
 clear c5
 obtain rfl := Option.some.inj H
 go_enter Tryz.func131, Tryz.ntmps131
 go_wp2
 go_ret
 exact ⟨rs, dr⟩

end Go.Proofs.YtjlpjbkpmmpojaaGreatDoor.All
