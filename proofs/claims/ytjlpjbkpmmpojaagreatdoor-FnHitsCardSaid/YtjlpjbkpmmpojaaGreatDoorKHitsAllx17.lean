-- Written by a program of this session (wip/tools/hprint.py) out of the translation. Lean checks it.
import Derived.Test.YtjlpjbkpmmpojaaGreatDoorKHitsAllx0
import Derived.Test.YtjlpjbkpmmpojaaGreatDoorKHitsAllx1
import Derived.Test.YtjlpjbkpmmpojaaGreatDoorKHitsAllx2
import Derived.Test.YtjlpjbkpmmpojaaGreatDoorKHitsAllx8
import Derived.Test.YtjlpjbkpmmpojaaGreatDoorKHitsAllx13
import Derived.Test.YtjlpjbkpmmpojaaGreatDoorKHitsAllx15
import Derived.Test.YtjlpjbkpmmpojaaGreatDoorKHitsAllx16
namespace Go.Proofs.YtjlpjbkpmmpojaaGreatDoor.All
open Go.RowKit Go.Proofs.YtjlpjbkpmmpojaaGreatDoorW.PrintWords Go.Proofs.YtjlpjbkpmmpojaaGreatDoorW.PrintLast Go.Proofs.YtjlpjbkpmmpojaaGreatDoorW.PrintMore
attribute [local go_sem] max2_int min2_int max_two min_two max_three min_three max_four min_four  -- for this text's walks alone
set_option linter.unusedVariables false
set_option linter.unusedSimpArgs false

/-! ### spec_BanOk: function 64 -/
theorem u64HB {p : Prop} (h : p := by repeat (first | (with_reducible first | exact HB.out | apply below_alloc | apply pw_below_drewN | apply below_drew1 | refine below_set ?_ GE819.out) | exact HB.out)) : p := h
def spec_BanOk.j0 : Nat → Int → Bool → Int → ByteArray → ByteArray → Int → Option (Bool)
 | 0, _, _, _, _, _, _ => none
 | k + 1, x8, x9, x820000, x820001, x820002, x820003 => if x9 = true then ((spec_l3Path.f k x820001).bind fun t821 => (if t821 = true then (some (x820002.toList == ([] : List UInt8))) else (some false))) else (if x8 = 3 then ((spec_TokenOk.f k x820001).bind fun t822 => (if t822 = true then ((spec_ValueOk.f k x820002).bind fun t823 => (some t823)) else (some false))) else (some false))
def spec_BanOk.f (k : Nat) (a0_0 : Int) (a0_1 : ByteArray) (a0_2 : ByteArray) (a0_3 : Int) : Option (Bool) := (spec_l1In.f a0_3 0 1000000).bind fun t820 => (if t820 = true then (if a0_0 = 1 then (spec_BanOk.j0 k a0_0 (a0_0 == 1) a0_0 a0_1 a0_2 a0_3) else (spec_BanOk.j0 k a0_0 (a0_0 == 2) a0_0 a0_1 a0_2 a0_3)) else (some false))
set_option maxHeartbeats 8000000 in
set_option maxRecDepth 100000 in
theorem spec_BanOk.calls (k : Nat) (a0_0 : Int) (a0_1 : ByteArray) (a0_2 : ByteArray) (a0_3 : Int) (r : Bool) (w : World) (h : spec_BanOk.f k a0_0 a0_1 a0_2 a0_3 = some r) :
  Calls Tryz.prog 64 #[.agg #[.int .i64 a0_0, .string a0_1, .string a0_2, .int .i64 a0_3]] w fun e w' => e = .returned (.bool r) ∧ Below w.heap.size w w' := by
 have hu25 := Tryz.underlying25
 have HB := am (Below.refl w.heap.size w)
 unfold spec_BanOk.f at h
 have H := h
 clear h
 revert H
 refine ok1 fun t820 A2 H => ?_
 have HH3 := am H
 clear H
 go_enter Tryz.func64, Tryz.ntmps64
 go_upto_if 6 with ((with_reducible refine gw ?_); first | (refine bx 1 #[.int .i64 a0_0, .string a0_1, .string a0_2, .int .i64 a0_3] 25 ?_; intro gb819 hg w4 hbox hb; have BK819 := am (hbox); have GW819 := am (sz hg : w.heap.size ≤ gb819); have GE819 := am (sz hg : w.heap.size ≤ gb819); replace HB := am (below_step bl hb); clear hb hbox hg; obtain ⟨z5_0, y5_0, z5_1, y5_1, z5_2, y5_2, z5_3, y5_3⟩ := cl4 BK819) | (refine gl 5 Tryz.func79 #[.int .i64 a0_3, .int .i64 0, .int .i64 1000000] ?_; (with_reducible refine (spec_l1In.calls a0_3 0 1000000 t820 _ A2.out).mono ?_); rintro e w' ⟨rfl, ⟨nd, rfl⟩⟩; refine ⟨_, rfl, ?_⟩))
 have H := HH3.out
 clear HH3
 by_cases c6 : t820 = true
 rotate_left
 ·replace c6 := Bool.eq_false_iff.mpr c6
  subst c6
  rw [if_neg (show ¬ (false = true) by decide)] at H
  obtain rfl := Option.some.inj H
  go_wp2
  go_ret
  exact ⟨rf, bl⟩
 subst c6
 rw [if_pos rfl] at H
 have HC7 := am H
 clear H
 obtain ⟨z8_0, y8_0, z8_1, y8_1, z8_2, y8_2, z8_3, y8_3⟩ := cl4 BK819
 go_upto_if 9 with (fail)
 go_cut [9] (fun v9 wc => ∃ (kq : Nat) (x9_6 : Bool), v9 = .bool x9_6 ∧ Aside0 (spec_BanOk.j0 kq a0_0 x9_6 a0_0 a0_1 a0_2 a0_3 = some r) ∧ Aside0 (kq ≤ k) ∧ Aside0 (wc.heap[gb819]? = some (.cells #[.int .i64 a0_0, .string a0_1, .string a0_2, .int .i64 a0_3] 25 (0, 0))) ∧ Aside0 (Below w.heap.size w wc))
 case first =>
  have H := HC7.out
  clear HC7
  by_cases c9 : a0_0 = 1
  rotate_left
  ·rw [if_neg c9] at H
   have c9b0 : (a0_0 == 1) = false := beq_eq_false_iff_ne.mpr c9
   have c9b1 : (a0_0 != 1) = true := bne_iff_ne.mpr c9
   (first | rw [c9b0] | (simp only [i64_w, i32_w]; rw [c9b0]) | skip)
   have H' := am H
   clear H
   go_wp2
   go_meet
   case rel => exact ⟨_, ((a0_0 == 2)), rs, H', ⟨by first | omega | exact Nat.le_refl _⟩, ⟨by (with_reducible repeat (first | refine blk_drewN ?_ _ | refine blk_drew ?_ | refine blk_alloc ?_ _)); exact BK819.out⟩, ⟨u64HB⟩⟩
  rw [if_pos c9] at H
  have c9b0 : (a0_0 == 1) = true := beq_iff_eq.mpr c9
  have c9b1 : (a0_0 != 1) = false := bne_eq_false_iff_eq.mpr c9
  clear c9
  (first | rw [c9b0] | (simp only [i64_w, i32_w]; rw [c9b0]) | skip)
  have H' := am H
  clear H
  go_wp2
  go_meet
  case rel => exact ⟨_, ((a0_0 == 1)), rs, H', ⟨by first | omega | exact Nat.le_refl _⟩, ⟨by (with_reducible repeat (first | refine blk_drewN ?_ _ | refine blk_drew ?_ | refine blk_alloc ?_ _)); exact BK819.out⟩, ⟨u64HB⟩⟩
 case rest =>
  clear HC7
  try clear p2
  try clear c6
  try clear c7
  try clear c9
  try clear c9b0
  try clear c9b1
  try clear z5_0
  try clear z5_1
  try clear z5_2
  try clear z5_3
  try clear z8_0
  try clear z8_1
  try clear z8_2
  try clear z8_3
  try clear y5_0
  try clear y5_1
  try clear y5_2
  try clear y5_3
  try clear y8_0
  try clear y8_1
  try clear y8_2
  try clear y8_3
  obtain ⟨kq, x9_6, rfl, HA, HJ6, BK819, HB⟩ := hcut
  cases kq with
  | zero => exact absurd HA.out (by simp [spec_BanOk.j0])
  | succ kj6 =>
   have H := HA.out
   clear HA
   simp only [spec_BanOk.j0] at H
   by_cases c10 : x9_6 = true
   ·subst c10
    rw [if_pos rfl] at H
    revert H
    refine ok1 fun t821 A11 H => ?_
    by_cases c12 : t821 = true
    ·subst c12
     rw [if_pos rfl] at H
     obtain rfl := Option.some.inj H
     obtain ⟨z13_0, y13_0, z13_1, y13_1, z13_2, y13_2, z13_3, y13_3⟩ := cl4 BK819
     go_wp2_with ((with_reducible refine gw ?_); first | (refine gl 14 Tryz.func133 #[.string a0_1] ?_; (with_reducible refine (spec_l3Path.calls kj6 a0_1 true _ A11.out).mono ?_); rintro e w' ⟨rfl, ⟨nd, rfl⟩⟩; refine ⟨_, rfl, ?_⟩))
     go_ret
     exact ⟨rf, bl⟩
    replace c12 := Bool.eq_false_iff.mpr c12
    subst c12
    rw [if_neg (show ¬ (false = true) by decide)] at H
    obtain rfl := Option.some.inj H
    obtain ⟨z14_0, y14_0, z14_1, y14_1, z14_2, y14_2, z14_3, y14_3⟩ := cl4 BK819
    go_wp2_with ((with_reducible refine gw ?_); first | (refine gl 14 Tryz.func133 #[.string a0_1] ?_; (with_reducible refine (spec_l3Path.calls kj6 a0_1 false _ A11.out).mono ?_); rintro e w' ⟨rfl, ⟨nd, rfl⟩⟩; refine ⟨_, rfl, ?_⟩))
    go_ret
    exact ⟨rf, bl⟩
   replace c10 := Bool.eq_false_iff.mpr c10
   subst c10
   rw [if_neg (show ¬ (false = true) by decide)] at H
   by_cases c15 : a0_0 = 3
   rotate_left
   ·rw [if_neg c15] at H
    have c15b0 : (a0_0 == 3) = false := beq_eq_false_iff_ne.mpr c15
    have c15b1 : (a0_0 != 3) = true := bne_iff_ne.mpr c15
    obtain rfl := Option.some.inj H
    go_wp2
    go_ret
    exact ⟨rf, bl⟩
   rw [if_pos c15] at H
   have c15b0 : (a0_0 == 3) = true := beq_iff_eq.mpr c15
   have c15b1 : (a0_0 != 3) = false := bne_eq_false_iff_eq.mpr c15
   clear c15
   revert H
   refine ok1 fun t822 A16 H => ?_
   by_cases c17 : t822 = true
   rotate_left
   ·replace c17 := Bool.eq_false_iff.mpr c17
    subst c17
    rw [if_neg (show ¬ (false = true) by decide)] at H
    obtain rfl := Option.some.inj H
    obtain ⟨z20_0, y20_0, z20_1, y20_1, z20_2, y20_2, z20_3, y20_3⟩ := cl4 BK819
    go_wp2_with ((with_reducible refine gw ?_); first | (refine gl 24 Tryz.func134 #[.string a0_1] ?_; (with_reducible refine (spec_TokenOk.calls kj6 a0_1 false _ A16.out).mono ?_); rintro e w' ⟨rfl, ⟨nd, rfl⟩⟩; refine ⟨_, rfl, ?_⟩))
    go_ret
    exact ⟨rf, bl⟩
   subst c17
   rw [if_pos rfl] at H
   revert H
   refine ok1 fun t823 A18 H => ?_
   obtain rfl := Option.some.inj H
   obtain ⟨z19_0, y19_0, z19_1, y19_1, z19_2, y19_2, z19_3, y19_3⟩ := cl4 BK819
   go_wp2_with (first | ((with_reducible refine gw ?_); first | (refine gl 24 Tryz.func134 #[.string a0_1] ?_; (with_reducible refine (spec_TokenOk.calls kj6 a0_1 true _ A16.out).mono ?_); rintro e w' ⟨rfl, ⟨nd, rfl⟩⟩; refine ⟨_, rfl, ?_⟩)) | (go_at_call 135; (with_reducible refine (spec_ValueOk.calls kj6 a0_2 t823 _ A18.out).mono ?_); rintro e w' ⟨rfl, ⟨nd, rfl⟩⟩))
   go_ret
   exact ⟨rf, bl⟩

/-! ### spec_Hits: function 13 -/
theorem u13HB {p : Prop} (h : p := by repeat (first | (with_reducible first | exact HB.out | apply below_alloc | apply pw_below_drewN | apply below_drew1 | refine below_set ?_ GE824.out | refine below_set ?_ GE825.out) | exact HB.out)) : p := h
def spec_Hits.j0 : Nat → Bool → Int → ByteArray → ByteArray → Int → ByteArray → List ByteArray → List ByteArray → Int → List (S116) → ByteArray → Int → Option (Bool)
 | 0, _, _, _, _, _, _, _, _, _, _, _, _ => none
 | k + 1, x21, x825000, x825001, x825002, x825003, x826000, x826001, x826002, x826003, x826004, x826005, x826006 => if x21 = true then (some false) else (if x825000 = 1 then (some (x826000.toList == x825001.toList)) else (if x825000 = 2 then (if (x826000.size : Int) ≥ (x825001.size : Int) then (if 0 ≤ (x825001.size : Int) then (if (x825001.size : Int) ≤ (x826000.size : Int) then (some ((x826000.extract 0 ((x825001.size : Int) : Int).toNat).toList == x825001.toList)) else (none)) else (none)) else (some false)) else ((spec_Get.f k x826004 x825001).bind fun bt828 => (if bt828.2 = true then (some (bt828.1.toList == x825002.toList)) else (some false)))))
def spec_Hits.f (k : Nat) (a0_0 : Int) (a0_1 : ByteArray) (a0_2 : ByteArray) (a0_3 : Int) (a1_0 : ByteArray) (l1_1 : List ByteArray) (l1_2 : List ByteArray) (a1_3 : Int) (l1_4 : List (S116)) (a1_5 : ByteArray) (a1_6 : Int) : Option (Bool) := (spec_BanOk.f k a0_0 a0_1 a0_2 a0_3).bind fun t826 => (if t826 = true then ((spec_ObjOk.f k a1_0 l1_1 l1_2 a1_3 l1_4 a1_5 a1_6).bind fun t827 => (if t827 = true then (spec_Hits.j0 k (decide (a1_6 > a0_3)) a0_0 a0_1 a0_2 a0_3 a1_0 l1_1 l1_2 a1_3 l1_4 a1_5 a1_6) else (spec_Hits.j0 k true a0_0 a0_1 a0_2 a0_3 a1_0 l1_1 l1_2 a1_3 l1_4 a1_5 a1_6))) else (spec_Hits.j0 k true a0_0 a0_1 a0_2 a0_3 a1_0 l1_1 l1_2 a1_3 l1_4 a1_5 a1_6))
set_option maxHeartbeats 8000000 in
set_option maxRecDepth 100000 in
theorem spec_Hits.calls (k : Nat) (a0_0 : Int) (a0_1 : ByteArray) (a0_2 : ByteArray) (a0_3 : Int) (a1_0 : ByteArray) (A1_1 : Option Addr) (c1_1 : Nat) (l1_1 : List ByteArray) (A1_2 : Option Addr) (c1_2 : Nat) (l1_2 : List ByteArray) (a1_3 : Int) (A1_4 : Option Addr) (c1_4 : Nat) (l1_4 : List (S116)) (a1_5 : ByteArray) (a1_6 : Int) (r : Bool) (w : World) (hr1_1 : Kd.C Kd.string w A1_1 l1_1.length l1_1) (hc1_1 : l1_1.length ≤ c1_1) (hr1_2 : Kd.C Kd.string w A1_2 l1_2.length l1_2) (hc1_2 : l1_2.length ≤ c1_2) (hr1_4 : Kd.C k116 w A1_4 l1_4.length l1_4) (hc1_4 : l1_4.length ≤ c1_4) (h : spec_Hits.f k a0_0 a0_1 a0_2 a0_3 a1_0 l1_1 l1_2 a1_3 l1_4 a1_5 a1_6 = some r) :
  Calls Tryz.prog 13 #[.agg #[.int .i64 a0_0, .string a0_1, .string a0_2, .int .i64 a0_3], .agg #[.string a1_0, .slice A1_1 l1_1.length c1_1, .slice A1_2 l1_2.length c1_2, .int .i64 a1_3, .slice A1_4 l1_4.length c1_4, .string a1_5, .int .i64 a1_6]] w fun e w' => e = .returned (.bool r) ∧ Below w.heap.size w w' := by
 have hu25 := Tryz.underlying25
 have hu31 := Tryz.underlying31
 have HR1_1 := am hr1_1
 have HC1_1 := am hc1_1
 clear hr1_1 hc1_1
 have HR1_2 := am hr1_2
 have HC1_2 := am hc1_2
 clear hr1_2 hc1_2
 have HR1_4 := am hr1_4
 have HC1_4 := am hc1_4
 clear hr1_4 hc1_4
 have HB := am (Below.refl w.heap.size w)
 unfold spec_Hits.f at h
 have H := h
 clear h
 have HC3 := am H
 clear H
 go_enter Tryz.func13, Tryz.ntmps13
 go_upto_region 1 with (first | ((with_reducible refine gate_dst (N := 2) rfl ?_); (try (refine gate_guard (by rfl) ?_; dsimp only)); refine box_event ?hg (N := 2) ?hd (cs := #[.int .i64 a0_0, .string a0_1, .string a0_2, .int .i64 a0_3]) (t := 25) ?hr ?_; (case hd => rfl); (case hg => rfl); (case hr => first | (go_simp; done) | (go_simp; rfl)); intro gb824 hg w4 hbox hb; have BK824 := am (hbox); have GW824 := am (sz hg : w.heap.size ≤ gb824); have GE824 := am (sz hg : w.heap.size ≤ gb824); replace HB := am (below_step bl hb); clear hb hbox hg) | ((with_reducible refine gate_dst (N := 3) rfl ?_); (try (refine gate_guard (by rfl) ?_; dsimp only)); refine box_event ?hg (N := 3) ?hd (cs := #[.string a1_0, .slice A1_1 l1_1.length c1_1, .slice A1_2 l1_2.length c1_2, .int .i64 a1_3, .slice A1_4 l1_4.length c1_4, .string a1_5, .int .i64 a1_6]) (t := 31) ?hr ?_; (case hd => rfl); (case hg => rfl); (case hr => first | (go_simp; done) | (go_simp; rfl)); intro gb825 hg w5 hbox hb; have BK825 := am (hbox); have GW825 := am (sz hg : w.heap.size ≤ gb825); have GE825 := am (sz hg : w.heap.size ≤ gb825); replace HB := am (below_step bl hb); have NB824_825 := am (nl hg BK824 : gb824 ≠ gb825); have NB825_824 := am (ng hg BK824 : gb825 ≠ gb824); replace BK824 := kb BK824 hb; clear hb hbox hg))
 repeat (go_quiet (first | ((with_reducible refine gate_dst (N := 2) rfl ?_); (try (refine gate_guard (by rfl) ?_; dsimp only)); refine box_event ?hg (N := 2) ?hd (cs := #[.int .i64 a0_0, .string a0_1, .string a0_2, .int .i64 a0_3]) (t := 25) ?hr ?_; (case hd => rfl); (case hg => rfl); (case hr => first | (go_simp; done) | (go_simp; rfl)); intro gb824 hg w4 hbox hb; have BK824 := am (hbox); have GW824 := am (sz hg : w.heap.size ≤ gb824); have GE824 := am (sz hg : w.heap.size ≤ gb824); replace HB := am (below_step bl hb); clear hb hbox hg) | ((with_reducible refine gate_dst (N := 3) rfl ?_); (try (refine gate_guard (by rfl) ?_; dsimp only)); refine box_event ?hg (N := 3) ?hd (cs := #[.string a1_0, .slice A1_1 l1_1.length c1_1, .slice A1_2 l1_2.length c1_2, .int .i64 a1_3, .slice A1_4 l1_4.length c1_4, .string a1_5, .int .i64 a1_6]) (t := 31) ?hr ?_; (case hd => rfl); (case hg => rfl); (case hr => first | (go_simp; done) | (go_simp; rfl)); intro gb825 hg w5 hbox hb; have BK825 := am (hbox); have GW825 := am (sz hg : w.heap.size ≤ gb825); have GE825 := am (sz hg : w.heap.size ≤ gb825); replace HB := am (below_step bl hb); have NB824_825 := am (nl hg BK824 : gb824 ≠ gb825); have NB825_824 := am (ng hg BK824 : gb825 ≠ gb824); replace BK824 := kb BK824 hb; clear hb hbox hg)); go_upto_region 1 with (first | ((with_reducible refine gate_dst (N := 2) rfl ?_); (try (refine gate_guard (by rfl) ?_; dsimp only)); refine box_event ?hg (N := 2) ?hd (cs := #[.int .i64 a0_0, .string a0_1, .string a0_2, .int .i64 a0_3]) (t := 25) ?hr ?_; (case hd => rfl); (case hg => rfl); (case hr => first | (go_simp; done) | (go_simp; rfl)); intro gb824 hg w4 hbox hb; have BK824 := am (hbox); have GW824 := am (sz hg : w.heap.size ≤ gb824); have GE824 := am (sz hg : w.heap.size ≤ gb824); replace HB := am (below_step bl hb); clear hb hbox hg) | ((with_reducible refine gate_dst (N := 3) rfl ?_); (try (refine gate_guard (by rfl) ?_; dsimp only)); refine box_event ?hg (N := 3) ?hd (cs := #[.string a1_0, .slice A1_1 l1_1.length c1_1, .slice A1_2 l1_2.length c1_2, .int .i64 a1_3, .slice A1_4 l1_4.length c1_4, .string a1_5, .int .i64 a1_6]) (t := 31) ?hr ?_; (case hd => rfl); (case hg => rfl); (case hr => first | (go_simp; done) | (go_simp; rfl)); intro gb825 hg w5 hbox hb; have BK825 := am (hbox); have GW825 := am (sz hg : w.heap.size ≤ gb825); have GE825 := am (sz hg : w.heap.size ≤ gb825); replace HB := am (below_step bl hb); have NB824_825 := am (nl hg BK824 : gb824 ≠ gb825); have NB825_824 := am (ng hg BK824 : gb825 ≠ gb824); replace BK824 := kb BK824 hb; clear hb hbox hg)))
 (try simp only [Act.put, List.setIfInBounds_toArray, List.set_cons_zero, List.set_cons_succ])
 go_cut [21] (fun v21 wc => ∃ (kq : Nat) (x21_2 : Bool), v21 = .bool x21_2 ∧ Aside0 (spec_Hits.j0 kq x21_2 a0_0 a0_1 a0_2 a0_3 a1_0 l1_1 l1_2 a1_3 l1_4 a1_5 a1_6 = some r) ∧ Aside0 (kq ≤ k) ∧ Aside0 (wc.heap[gb824]? = some (.cells #[.int .i64 a0_0, .string a0_1, .string a0_2, .int .i64 a0_3] 25 (0, 0))) ∧ Aside0 (wc.heap[gb825]? = some (.cells #[.string a1_0, (.slice A1_1 l1_1.length c1_1), (.slice A1_2 l1_2.length c1_2), .int .i64 a1_3, (.slice A1_4 l1_4.length c1_4), .string a1_5, .int .i64 a1_6] 31 (0, 0))) ∧ Aside0 (Below w.heap.size w wc))
 case first =>
  have H := HC3.out
  clear HC3
  revert H
  refine ok1 fun t826 A6 H => ?_
  by_cases c7 : t826 = true
  rotate_left
  ·replace c7 := Bool.eq_false_iff.mpr c7
   subst c7
   rw [if_neg (show ¬ (false = true) by decide)] at H
   have H' := am H
   clear H
   have hnb22 := NB824_825.out
   have hnc22 := NB825_824.out
   obtain ⟨z23_0, y23_0, z23_1, y23_1, z23_2, y23_2, z23_3, y23_3⟩ := cl4 BK824
   go_wp2_with (first | (go_at_call 64; (with_reducible refine (spec_BanOk.calls k a0_0 a0_1 a0_2 a0_3 false _ A6.out).mono ?_); rintro e w24 ⟨rfl, hb⟩; replace BK824 := kb BK824 hb; replace BK825 := kb BK825 hb; replace HB := am (below_step bl hb); clear hb))
   repeat (go_quiet (first | (go_at_call 64; (with_reducible refine (spec_BanOk.calls k a0_0 a0_1 a0_2 a0_3 false _ A6.out).mono ?_); rintro e w24 ⟨rfl, hb⟩; replace BK824 := kb BK824 hb; replace BK825 := kb BK825 hb; replace HB := am (below_step bl hb); clear hb)); try go_wp2_with (first | (go_at_call 64; (with_reducible refine (spec_BanOk.calls k a0_0 a0_1 a0_2 a0_3 false _ A6.out).mono ?_); rintro e w24 ⟨rfl, hb⟩; replace BK824 := kb BK824 hb; replace BK825 := kb BK825 hb; replace HB := am (below_step bl hb); clear hb)))
   go_meet
   case rel => exact ⟨_, (true), rs, H', ⟨by first | omega | exact Nat.le_refl _⟩, ⟨by (with_reducible repeat (first | refine blk_drewN ?_ _ | refine blk_drew ?_ | refine blk_alloc ?_ _)); exact BK824.out⟩, ⟨by (with_reducible repeat (first | refine blk_drewN ?_ _ | refine blk_drew ?_ | refine blk_alloc ?_ _)); exact BK825.out⟩, ⟨u13HB⟩⟩
  subst c7
  rw [if_pos rfl] at H
  revert H
  refine ok1 fun t827 A8 H => ?_
  by_cases c9 : t827 = true
  rotate_left
  ·replace c9 := Bool.eq_false_iff.mpr c9
   subst c9
   rw [if_neg (show ¬ (false = true) by decide)] at H
   have H' := am H
   clear H
   have hnb17 := NB824_825.out
   have hnc17 := NB825_824.out
   obtain ⟨z18_0, y18_0, z18_1, y18_1, z18_2, y18_2, z18_3, y18_3⟩ := cl4 BK824
   go_wp2_with (first | (go_at_call 64; (with_reducible refine (spec_BanOk.calls k a0_0 a0_1 a0_2 a0_3 true _ A6.out).mono ?_); rintro e w19 ⟨rfl, hb⟩; replace BK824 := kb BK824 hb; replace BK825 := kb BK825 hb; replace HB := am (below_step bl hb); clear hb; obtain ⟨z20_0, y20_0, z20_1, y20_1, z20_2, y20_2, z20_3, y20_3, z20_4, y20_4, z20_5, y20_5, z20_6, y20_6⟩ := cl7 BK825) | (go_at_call 65; (with_reducible refine (spec_ObjOk.calls k a1_0 _ _ l1_1 _ _ l1_2 a1_3 _ _ l1_4 a1_5 a1_6 false _ ?side1 ?side2 ?side3 ?side4 ?side5 ?side6 A8.out).mono ?_); (case side1 => exact cb HR1_1); (case side2 => exact HC1_1.out); (case side3 => exact cb HR1_2); (case side4 => exact HC1_2.out); (case side5 => exact cb HR1_4); (case side6 => exact HC1_4.out); rintro e w21 ⟨rfl, hb⟩; replace BK824 := kb BK824 hb; replace BK825 := kb BK825 hb; replace HB := am (below_step bl hb); clear hb))
   repeat (go_quiet (first | (go_at_call 64; (with_reducible refine (spec_BanOk.calls k a0_0 a0_1 a0_2 a0_3 true _ A6.out).mono ?_); rintro e w19 ⟨rfl, hb⟩; replace BK824 := kb BK824 hb; replace BK825 := kb BK825 hb; replace HB := am (below_step bl hb); clear hb; obtain ⟨z20_0, y20_0, z20_1, y20_1, z20_2, y20_2, z20_3, y20_3, z20_4, y20_4, z20_5, y20_5, z20_6, y20_6⟩ := cl7 BK825) | (go_at_call 65; (with_reducible refine (spec_ObjOk.calls k a1_0 _ _ l1_1 _ _ l1_2 a1_3 _ _ l1_4 a1_5 a1_6 false _ ?side1 ?side2 ?side3 ?side4 ?side5 ?side6 A8.out).mono ?_); (case side1 => exact cb HR1_1); (case side2 => exact HC1_1.out); (case side3 => exact cb HR1_2); (case side4 => exact HC1_2.out); (case side5 => exact cb HR1_4); (case side6 => exact HC1_4.out); rintro e w21 ⟨rfl, hb⟩; replace BK824 := kb BK824 hb; replace BK825 := kb BK825 hb; replace HB := am (below_step bl hb); clear hb)); try go_wp2_with (first | (go_at_call 64; (with_reducible refine (spec_BanOk.calls k a0_0 a0_1 a0_2 a0_3 true _ A6.out).mono ?_); rintro e w19 ⟨rfl, hb⟩; replace BK824 := kb BK824 hb; replace BK825 := kb BK825 hb; replace HB := am (below_step bl hb); clear hb; obtain ⟨z20_0, y20_0, z20_1, y20_1, z20_2, y20_2, z20_3, y20_3, z20_4, y20_4, z20_5, y20_5, z20_6, y20_6⟩ := cl7 BK825) | (go_at_call 65; (with_reducible refine (spec_ObjOk.calls k a1_0 _ _ l1_1 _ _ l1_2 a1_3 _ _ l1_4 a1_5 a1_6 false _ ?side1 ?side2 ?side3 ?side4 ?side5 ?side6 A8.out).mono ?_); (case side1 => exact cb HR1_1); (case side2 => exact HC1_1.out); (case side3 => exact cb HR1_2); (case side4 => exact HC1_2.out); (case side5 => exact cb HR1_4); (case side6 => exact HC1_4.out); rintro e w21 ⟨rfl, hb⟩; replace BK824 := kb BK824 hb; replace BK825 := kb BK825 hb; replace HB := am (below_step bl hb); clear hb)))
   go_meet
   case rel => exact ⟨_, (true), rs, H', ⟨by first | omega | exact Nat.le_refl _⟩, ⟨by (with_reducible repeat (first | refine blk_drewN ?_ _ | refine blk_drew ?_ | refine blk_alloc ?_ _)); exact BK824.out⟩, ⟨by (with_reducible repeat (first | refine blk_drewN ?_ _ | refine blk_drew ?_ | refine blk_alloc ?_ _)); exact BK825.out⟩, ⟨u13HB⟩⟩
  subst c9
  rw [if_pos rfl] at H
  have H' := am H
  clear H
  have hnb10 := NB824_825.out
  have hnc10 := NB825_824.out
  obtain ⟨z11_0, y11_0, z11_1, y11_1, z11_2, y11_2, z11_3, y11_3⟩ := cl4 BK824
  go_wp2_with (first | (go_at_call 64; (with_reducible refine (spec_BanOk.calls k a0_0 a0_1 a0_2 a0_3 true _ A6.out).mono ?_); rintro e w12 ⟨rfl, hb⟩; replace BK824 := kb BK824 hb; replace BK825 := kb BK825 hb; replace HB := am (below_step bl hb); clear hb; obtain ⟨z13_0, y13_0, z13_1, y13_1, z13_2, y13_2, z13_3, y13_3, z13_4, y13_4, z13_5, y13_5, z13_6, y13_6⟩ := cl7 BK825) | (go_at_call 65; (with_reducible refine (spec_ObjOk.calls k a1_0 _ _ l1_1 _ _ l1_2 a1_3 _ _ l1_4 a1_5 a1_6 true _ ?side1 ?side2 ?side3 ?side4 ?side5 ?side6 A8.out).mono ?_); (case side1 => exact cb HR1_1); (case side2 => exact HC1_1.out); (case side3 => exact cb HR1_2); (case side4 => exact HC1_2.out); (case side5 => exact cb HR1_4); (case side6 => exact HC1_4.out); rintro e w14 ⟨rfl, hb⟩; replace BK824 := kb BK824 hb; replace BK825 := kb BK825 hb; replace HB := am (below_step bl hb); clear hb; obtain ⟨z15_0, y15_0, z15_1, y15_1, z15_2, y15_2, z15_3, y15_3, z15_4, y15_4, z15_5, y15_5, z15_6, y15_6⟩ := cl7 BK825; obtain ⟨z16_0, y16_0, z16_1, y16_1, z16_2, y16_2, z16_3, y16_3⟩ := cl4 BK824))
  repeat (go_quiet (first | (go_at_call 64; (with_reducible refine (spec_BanOk.calls k a0_0 a0_1 a0_2 a0_3 true _ A6.out).mono ?_); rintro e w12 ⟨rfl, hb⟩; replace BK824 := kb BK824 hb; replace BK825 := kb BK825 hb; replace HB := am (below_step bl hb); clear hb; obtain ⟨z13_0, y13_0, z13_1, y13_1, z13_2, y13_2, z13_3, y13_3, z13_4, y13_4, z13_5, y13_5, z13_6, y13_6⟩ := cl7 BK825) | (go_at_call 65; (with_reducible refine (spec_ObjOk.calls k a1_0 _ _ l1_1 _ _ l1_2 a1_3 _ _ l1_4 a1_5 a1_6 true _ ?side1 ?side2 ?side3 ?side4 ?side5 ?side6 A8.out).mono ?_); (case side1 => exact cb HR1_1); (case side2 => exact HC1_1.out); (case side3 => exact cb HR1_2); (case side4 => exact HC1_2.out); (case side5 => exact cb HR1_4); (case side6 => exact HC1_4.out); rintro e w14 ⟨rfl, hb⟩; replace BK824 := kb BK824 hb; replace BK825 := kb BK825 hb; replace HB := am (below_step bl hb); clear hb; obtain ⟨z15_0, y15_0, z15_1, y15_1, z15_2, y15_2, z15_3, y15_3, z15_4, y15_4, z15_5, y15_5, z15_6, y15_6⟩ := cl7 BK825; obtain ⟨z16_0, y16_0, z16_1, y16_1, z16_2, y16_2, z16_3, y16_3⟩ := cl4 BK824)); try go_wp2_with (first | (go_at_call 64; (with_reducible refine (spec_BanOk.calls k a0_0 a0_1 a0_2 a0_3 true _ A6.out).mono ?_); rintro e w12 ⟨rfl, hb⟩; replace BK824 := kb BK824 hb; replace BK825 := kb BK825 hb; replace HB := am (below_step bl hb); clear hb; obtain ⟨z13_0, y13_0, z13_1, y13_1, z13_2, y13_2, z13_3, y13_3, z13_4, y13_4, z13_5, y13_5, z13_6, y13_6⟩ := cl7 BK825) | (go_at_call 65; (with_reducible refine (spec_ObjOk.calls k a1_0 _ _ l1_1 _ _ l1_2 a1_3 _ _ l1_4 a1_5 a1_6 true _ ?side1 ?side2 ?side3 ?side4 ?side5 ?side6 A8.out).mono ?_); (case side1 => exact cb HR1_1); (case side2 => exact HC1_1.out); (case side3 => exact cb HR1_2); (case side4 => exact HC1_2.out); (case side5 => exact cb HR1_4); (case side6 => exact HC1_4.out); rintro e w14 ⟨rfl, hb⟩; replace BK824 := kb BK824 hb; replace BK825 := kb BK825 hb; replace HB := am (below_step bl hb); clear hb; obtain ⟨z15_0, y15_0, z15_1, y15_1, z15_2, y15_2, z15_3, y15_3, z15_4, y15_4, z15_5, y15_5, z15_6, y15_6⟩ := cl7 BK825; obtain ⟨z16_0, y16_0, z16_1, y16_1, z16_2, y16_2, z16_3, y16_3⟩ := cl4 BK824)))
  go_meet
  case rel => exact ⟨_, (decide (a1_6 > a0_3)), rs, H', ⟨by first | omega | exact Nat.le_refl _⟩, ⟨by (with_reducible repeat (first | refine blk_drewN ?_ _ | refine blk_drew ?_ | refine blk_alloc ?_ _)); exact BK824.out⟩, ⟨by (with_reducible repeat (first | refine blk_drewN ?_ _ | refine blk_drew ?_ | refine blk_alloc ?_ _)); exact BK825.out⟩, ⟨u13HB⟩⟩
 case rest =>
  clear HC3
  try clear c1
  try clear c2
  try clear p2
  try clear c7
  try clear c9
  try clear c10
  try clear c13
  try clear c17
  try clear c22
  try clear z11_0
  try clear z11_1
  try clear z11_2
  try clear z11_3
  try clear z13_0
  try clear z13_1
  try clear z13_2
  try clear z13_3
  try clear z13_4
  try clear z13_5
  try clear z13_6
  try clear z15_0
  try clear z15_1
  try clear z15_2
  try clear z15_3
  try clear z15_4
  try clear z15_5
  try clear z15_6
  try clear z16_0
  try clear z16_1
  try clear z16_2
  try clear z16_3
  try clear z18_0
  try clear z18_1
  try clear z18_2
  try clear z18_3
  try clear z20_0
  try clear z20_1
  try clear z20_2
  try clear z20_3
  try clear z20_4
  try clear z20_5
  try clear z20_6
  try clear z23_0
  try clear z23_1
  try clear z23_2
  try clear z23_3
  try clear y11_0
  try clear y11_1
  try clear y11_2
  try clear y11_3
  try clear y13_0
  try clear y13_1
  try clear y13_2
  try clear y13_3
  try clear y13_4
  try clear y13_5
  try clear y13_6
  try clear y15_0
  try clear y15_1
  try clear y15_2
  try clear y15_3
  try clear y15_4
  try clear y15_5
  try clear y15_6
  try clear y16_0
  try clear y16_1
  try clear y16_2
  try clear y16_3
  try clear y18_0
  try clear y18_1
  try clear y18_2
  try clear y18_3
  try clear y20_0
  try clear y20_1
  try clear y20_2
  try clear y20_3
  try clear y20_4
  try clear y20_5
  try clear y20_6
  try clear y23_0
  try clear y23_1
  try clear y23_2
  try clear y23_3
  obtain ⟨kq, x21_2, rfl, HA, HJ2, BK824, BK825, HB⟩ := hcut
  cases kq with
  | zero => exact absurd HA.out (by simp [spec_Hits.j0])
  | succ kj2 =>
   have H := HA.out
   clear HA
   simp only [spec_Hits.j0] at H
   by_cases c25 : x21_2 = true
   ·subst c25
    rw [if_pos rfl] at H
    obtain rfl := Option.some.inj H
    go_wp2
    repeat (go_quiet (fail); try go_wp2)
    go_ret
    exact ⟨rf, bl⟩
   replace c25 := Bool.eq_false_iff.mpr c25
   subst c25
   rw [if_neg (show ¬ (false = true) by decide)] at H
   by_cases c26 : a0_0 = 1
   ·rw [if_pos c26] at H
    have c26b0 : (a0_0 == 1) = true := beq_iff_eq.mpr c26
    have c26b1 : (a0_0 != 1) = false := bne_eq_false_iff_eq.mpr c26
    clear c26
    obtain rfl := Option.some.inj H
    have hnb27 := NB824_825.out
    have hnc27 := NB825_824.out
    obtain ⟨z28_0, y28_0, z28_1, y28_1, z28_2, y28_2, z28_3, y28_3⟩ := cl4 BK824
    obtain ⟨z29_0, y29_0, z29_1, y29_1, z29_2, y29_2, z29_3, y29_3, z29_4, y29_4, z29_5, y29_5, z29_6, y29_6⟩ := cl7 BK825
    go_wp2
    repeat (go_quiet (fail); try go_wp2)
    go_ret
    exact ⟨rf, bl⟩
   rw [if_neg c26] at H
   have c26b0 : (a0_0 == 1) = false := beq_eq_false_iff_ne.mpr c26
   have c26b1 : (a0_0 != 1) = true := bne_iff_ne.mpr c26
   by_cases c30 : a0_0 = 2
   ·rw [if_pos c30] at H
    have c30b0 : (a0_0 == 2) = true := beq_iff_eq.mpr c30
    have c30b1 : (a0_0 != 2) = false := bne_eq_false_iff_eq.mpr c30
    clear c30
    by_cases c31 : (a1_0.size : Int) ≥ (a0_1.size : Int)
    rotate_left
    ·rw [if_neg c31] at H
     have c31b0 := decide_eq_false c31
     have c31b1 : decide (a0_1.size ≤ a1_0.size) = false := decide_eq_false (fun h => c31 (Int.ofNat_le.mpr h))
     clear c31
     obtain rfl := Option.some.inj H
     have hnb37 := NB824_825.out
     have hnc37 := NB825_824.out
     obtain ⟨z38_0, y38_0, z38_1, y38_1, z38_2, y38_2, z38_3, y38_3⟩ := cl4 BK824
     obtain ⟨z39_0, y39_0, z39_1, y39_1, z39_2, y39_2, z39_3, y39_3, z39_4, y39_4, z39_5, y39_5, z39_6, y39_6⟩ := cl7 BK825
     go_wp2
     repeat (go_quiet (fail); try go_wp2)
     go_ret
     exact ⟨rf, bl⟩
    rw [if_pos c31] at H
    have c31b0 := decide_eq_true c31
    have c31b1 : decide (a0_1.size ≤ a1_0.size) = true := decide_eq_true (Int.ofNat_le.mp c31)
    clear c31
    revert H
    refine ifn fun c32 H => ?_
    have c32b0 := eq_true c32
    have c32b1 := decide_eq_true c32
    clear c32
    revert H
    refine ifn fun c33 H => ?_
    have c33b0 := eq_true c33
    have c33b1 := decide_eq_true c33
    clear c33
    obtain rfl := Option.some.inj H
    have hnb34 := NB824_825.out
    have hnc34 := NB825_824.out
    obtain ⟨z35_0, y35_0, z35_1, y35_1, z35_2, y35_2, z35_3, y35_3⟩ := cl4 BK824
    obtain ⟨z36_0, y36_0, z36_1, y36_1, z36_2, y36_2, z36_3, y36_3, z36_4, y36_4, z36_5, y36_5, z36_6, y36_6⟩ := cl7 BK825
    go_wp2
    repeat (go_quiet (fail); try go_wp2)
    go_ret
    exact ⟨rf, bl⟩
   rw [if_neg c30] at H
   have c30b0 : (a0_0 == 2) = false := beq_eq_false_iff_ne.mpr c30
   have c30b1 : (a0_0 != 2) = true := bne_iff_ne.mpr c30
   revert H
   refine ok2 fun t828 t829 A40 H => ?_
   (try dsimp only at H)
   by_cases c41 : t829 = true
   ·subst c41
    rw [if_pos rfl] at H
    obtain rfl := Option.some.inj H
    have hnb42 := NB824_825.out
    have hnc42 := NB825_824.out
    obtain ⟨z43_0, y43_0, z43_1, y43_1, z43_2, y43_2, z43_3, y43_3⟩ := cl4 BK824
    obtain ⟨z44_0, y44_0, z44_1, y44_1, z44_2, y44_2, z44_3, y44_3, z44_4, y44_4, z44_5, y44_5, z44_6, y44_6⟩ := cl7 BK825
    go_wp2_with (first | (go_at_call 66; (with_reducible refine (spec_Get.calls kj2 _ _ l1_4 a0_1 t828 true _ ?side1 ?side2 A40.out).mono ?_); (case side1 => exact cb HR1_4); (case side2 => exact HC1_4.out); rintro e w' ⟨rfl, ⟨nd, rfl⟩⟩; (try first | exact ⟨rfl, _, World.drewN_drewN _ _ _⟩ | exact ⟨rfl, _, Eq.trans (World.drewN_drewN _ _ _) (congrArg (World.drewN _) (Nat.add_assoc _ _ _))⟩)))
    repeat (go_quiet (first | (go_at_call 66; (with_reducible refine (spec_Get.calls kj2 _ _ l1_4 a0_1 t828 true _ ?side1 ?side2 A40.out).mono ?_); (case side1 => exact cb HR1_4); (case side2 => exact HC1_4.out); rintro e w' ⟨rfl, ⟨nd, rfl⟩⟩; (try first | exact ⟨rfl, _, World.drewN_drewN _ _ _⟩ | exact ⟨rfl, _, Eq.trans (World.drewN_drewN _ _ _) (congrArg (World.drewN _) (Nat.add_assoc _ _ _))⟩))); try go_wp2_with (first | (go_at_call 66; (with_reducible refine (spec_Get.calls kj2 _ _ l1_4 a0_1 t828 true _ ?side1 ?side2 A40.out).mono ?_); (case side1 => exact cb HR1_4); (case side2 => exact HC1_4.out); rintro e w' ⟨rfl, ⟨nd, rfl⟩⟩; (try first | exact ⟨rfl, _, World.drewN_drewN _ _ _⟩ | exact ⟨rfl, _, Eq.trans (World.drewN_drewN _ _ _) (congrArg (World.drewN _) (Nat.add_assoc _ _ _))⟩))))
    go_ret
    exact ⟨rf, bl⟩
   replace c41 := Bool.eq_false_iff.mpr c41
   subst c41
   rw [if_neg (show ¬ (false = true) by decide)] at H
   obtain rfl := Option.some.inj H
   have hnb45 := NB824_825.out
   have hnc45 := NB825_824.out
   obtain ⟨z46_0, y46_0, z46_1, y46_1, z46_2, y46_2, z46_3, y46_3⟩ := cl4 BK824
   obtain ⟨z47_0, y47_0, z47_1, y47_1, z47_2, y47_2, z47_3, y47_3, z47_4, y47_4, z47_5, y47_5, z47_6, y47_6⟩ := cl7 BK825
   go_wp2_with (first | (go_at_call 66; (with_reducible refine (spec_Get.calls kj2 _ _ l1_4 a0_1 t828 false _ ?side1 ?side2 A40.out).mono ?_); (case side1 => exact cb HR1_4); (case side2 => exact HC1_4.out); rintro e w' ⟨rfl, ⟨nd, rfl⟩⟩; (try first | exact ⟨rfl, _, World.drewN_drewN _ _ _⟩ | exact ⟨rfl, _, Eq.trans (World.drewN_drewN _ _ _) (congrArg (World.drewN _) (Nat.add_assoc _ _ _))⟩)))
   repeat (go_quiet (first | (go_at_call 66; (with_reducible refine (spec_Get.calls kj2 _ _ l1_4 a0_1 t828 false _ ?side1 ?side2 A40.out).mono ?_); (case side1 => exact cb HR1_4); (case side2 => exact HC1_4.out); rintro e w' ⟨rfl, ⟨nd, rfl⟩⟩; (try first | exact ⟨rfl, _, World.drewN_drewN _ _ _⟩ | exact ⟨rfl, _, Eq.trans (World.drewN_drewN _ _ _) (congrArg (World.drewN _) (Nat.add_assoc _ _ _))⟩))); try go_wp2_with (first | (go_at_call 66; (with_reducible refine (spec_Get.calls kj2 _ _ l1_4 a0_1 t828 false _ ?side1 ?side2 A40.out).mono ?_); (case side1 => exact cb HR1_4); (case side2 => exact HC1_4.out); rintro e w' ⟨rfl, ⟨nd, rfl⟩⟩; (try first | exact ⟨rfl, _, World.drewN_drewN _ _ _⟩ | exact ⟨rfl, _, Eq.trans (World.drewN_drewN _ _ _) (congrArg (World.drewN _) (Nat.add_assoc _ _ _))⟩))))
   go_ret
   exact ⟨rf, bl⟩

/-! ### spec_DrawHitsAny: function 16 -/
theorem u16HB {p : Prop} (h : p := by repeat (first | (with_reducible first | exact HB.out | apply below_alloc | apply pw_below_drewN | apply below_drew1 | refine below_set ?_ GE830.out | refine below_set ?_ (IsS139.ge HI834.out)) | exact HB.out)) : p := h
theorem u16HI834 {p : Prop} (h : p := by repeat (first | (with_reducible first | exact HI834.out | apply IsS139.alloc | apply IsS139.drewN | apply IsS139.drew | apply IsS139.set_1 | apply IsS139.set_2 | apply IsS139.far (p := ⟨gb830, _, none⟩) (hne := NB834_830.out)) | exact HI834.out)) : p := h
def spec_DrawHitsAny.l0 : Nat → List (S25) → Int → List Int → Int → Int → Option ((List (S25)) × ByteArray × List ByteArray × List ByteArray × Int × (List (S116)) × ByteArray × Int)
 | 0, _, _, _, _, _ => none
 | k + 1, x5, x6, x835000, x835001, x835002 => (spec_l1Below.f x835000 x835001 x835002 4).bind fun bt838 => (if x6 < bt838.1 then ((spec_l11Draw.f x835000 bt838.2.1 bt838.2.2).bind fun bt841 => (if x5.length < 2932031007402 then (spec_DrawHitsAny.l0 k (x5 ++ [(⟨bt841.1, bt841.2.1, bt841.2.2.1, bt841.2.2.2.1⟩ : S25)]) (wrap64 (x6 + 1)) x835000 bt841.2.2.2.2.1 bt841.2.2.2.2.2) else (none))) else ((spec_l10Draw.f k x835000 bt838.2.1 bt838.2.2).bind fun bt850 => (some (x5, bt850.1, bt850.2.1, bt850.2.2.1, bt850.2.2.2.1, bt850.2.2.2.2.1, bt850.2.2.2.2.2.1, bt850.2.2.2.2.2.2.1))))
def spec_DrawHitsAny.f (k : Nat) (l0 : List Int) : Option ((List (S25)) × ByteArray × List ByteArray × List ByteArray × Int × (List (S116)) × ByteArray × Int) := (spec_l1New.f k l0).bind fun bt831 => (spec_DrawHitsAny.l0 k (([] : List (S25))) 0 bt831.1 bt831.2.1 bt831.2.2)
set_option maxHeartbeats 8000000 in
set_option maxRecDepth 100000 in
theorem spec_DrawHitsAny.calls (k : Nat) (A0 : Option Addr) (c0 : Nat) (l0 : List Int) (r1 : List (S25)) (r2 : ByteArray) (r3 : List ByteArray) (r4 : List ByteArray) (r5 : Int) (r6 : List (S116)) (r7 : ByteArray) (r8 : Int) (w : World) (hr0 : Kd.C (Kd.int .u8) w A0 l0.length l0) (hc0 : l0.length ≤ c0) (h : spec_DrawHitsAny.f k l0 = some (r1, r2, r3, r4, r5, r6, r7, r8)) :
  Calls Tryz.prog 16 #[.slice A0 l0.length c0] w fun e w' => ∃ v0_ v2_ v3_ v5_ : Value, e = .returned (.tuple #[v0_, .agg #[.string r2, v2_, v3_, .int .i64 r5, v5_, .string r7, .int .i64 r8]]) ∧ Kd.R k25 25 w' w.heap.size (fun _ => True) v0_ r1 ∧ Kd.R Kd.string 9 w' w.heap.size (fun k_ => some k_ ≠ (v3_ : Value).ownBlock) v2_ r3 ∧ Kd.R Kd.string 9 w' w.heap.size (fun k_ => some k_ ≠ (v2_ : Value).ownBlock) v3_ r4 ∧ Kd.R k116 116 w' w.heap.size (fun _ => True) v5_ r6 ∧ Below w.heap.size w w' := by
 have hu31 := Tryz.underlying31
 have HR0 := am hr0
 have HC0 := am hc0
 clear hr0 hc0
 have HB := am (Below.refl w.heap.size w)
 unfold spec_DrawHitsAny.f at h
 have H := h
 clear h
 revert H
 refine ok3 fun t831 t832 t833 A2 H => ?_
 (try dsimp only at H)
 obtain ⟨y835, hy835⟩ : ∃ y_ : List (S25), y_ = (([] : List (S25))) := ⟨_, rfl⟩
 replace H : (spec_DrawHitsAny.l0 k y835 0 t831 t832 t833) = some (r1, r2, r3, r4, r5, r6, r7, r8) := by first | (rw [hy835]; with_reducible exact H) | (have H2_ := (Option.bind_some _ _).symm.trans H; rw [hy835]; with_reducible exact H2_) | (have H2_ := (Option.bind_some _ _).symm.trans H; with_reducible exact H2_) | with_reducible exact H | (rw [hy835]; exact H) | exact H
 have Ny835 := am hy835
 clear hy835
 have H' := am H
 clear H
 go_enter Tryz.func16, Tryz.ntmps16
 go_wp2_with (first | ((with_reducible refine gw ?_); first | (refine bx 3 #[.string (⟨#[]⟩ : ByteArray), .slice none 0 0, .slice none 0 0, .int .i64 0, .slice none 0 0, .string (⟨#[]⟩ : ByteArray), .int .i64 0] 31 ?_; intro gb830 hg w3 hbox hb; have BK830 := am (hbox); have GW830 := am (sz hg : w.heap.size ≤ gb830); have GE830 := am (sz hg : w.heap.size ≤ gb830); replace HB := am (below_step bl hb); clear hb hbox hg) | (refine gl 8 Tryz.func59 #[.slice A0 l0.length c0] ?_; (with_reducible refine (spec_l1New.calls k _ _ l0 t831 t832 t833 w _ ?side1 ?side2 ?side3 A2.out).mono ?_); (case side1 => exact u16HB); (case side2 => exact HR0.out); (case side3 => exact HC0.out); rintro e w4 ⟨g834, rfl, hi, hb, hb2⟩; refine ⟨_, rfl, ?_⟩; replace HB := am (hb); have HI834 := am (hi); have NB834_830 := am (IsS139.ne_blk hi (blk_below (g := gb830) (o := .cells #[.string (⟨#[]⟩ : ByteArray), .slice none 0 0, .slice none 0 0, .int .i64 0, .slice none 0 0, .string (⟨#[]⟩ : ByteArray), .int .i64 0] 31 (0, 0)) (bk BK830) hb2) (by decide)); have NB830_834 := am (Ne.symm (IsS139.ne_blk hi (blk_below (g := gb830) (o := .cells #[.string (⟨#[]⟩ : ByteArray), .slice none 0 0, .slice none 0 0, .int .i64 0, .slice none 0 0, .string (⟨#[]⟩ : ByteArray), .int .i64 0] 31 (0, 0)) (bk BK830) hb2) (by decide))); replace BK830 := am (blk_below (g := gb830) (o := .cells #[.string (⟨#[]⟩ : ByteArray), .slice none 0 0, .slice none 0 0, .int .i64 0, .slice none 0 0, .string (⟨#[]⟩ : ByteArray), .int .i64 0] 31 (0, 0)) (bk BK830) hb2); clear hb hb2 hi)) | ((with_reducible refine gate_dst (N := 9) rfl ?_); refine Kd.R_lit k25 _ 25 ?hg (N := 9) ?hd (xs := ([] : List (S25))) (inner := []) (ok := fun _ => True) (okp := fun _ => True) ?hr ?hp (fun _ hk => hk) trivial (Below.refl _ _) (Nat.le_refl _) (by simp) ?_; (case hd => rfl); (case hg => rfl); (case hr => first | (go_simp; done) | (go_simp; rfl)); (case hp => exact (Reps.none _ _)); intro v836 w5 ho6 hb hg_ hnew_; clear hg_ hnew_; (first | rw [← Ny835.out] at ho6 | (simp only [Int.reduceToNat] at ho6; rw [← Ny835.out] at ho6)); have HO837 := am (Kd.R_lower ho6 (below_size u16HB)); replace BK830 := kb BK830 hb; replace HB := am (below_step u16HB hb); replace HI834 := am (IsS139.below u16HI834 hb); clear hb ho6))
 (try simp only [Act.put, List.setIfInBounds_toArray, List.set_cons_zero, List.set_cons_succ])
 go_loopg [5, 6] k (fun kq v5 v6 w' => ∃ (x5_1 : List (S25)) (x6_1 : Int) (x835001_1 : Int) (x835002_1 : Int), v6 = .int .i64 x6_1 ∧ Aside0 (spec_DrawHitsAny.l0 kq x5_1 x6_1 t831 x835001_1 x835002_1 = some (r1, r2, r3, r4, r5, r6, r7, r8)) ∧ Aside0 (kq ≤ k) ∧ Aside0 (Kd.R k25 25 w' w.heap.size (fun _ => True) v5 x5_1) ∧ Aside0 (w'.heap[gb830]? = some (.cells #[.string (⟨#[]⟩ : ByteArray), (.slice none 0 0), (.slice none 0 0), .int .i64 0, (.slice none 0 0), .string (⟨#[]⟩ : ByteArray), .int .i64 0] 31 (0, 0))) ∧ Aside0 (IsS139 w w' g834 t831 x835001_1 x835002_1) ∧ Aside0 (Below w.heap.size w w'))
 case atStart => exact ⟨(y835), (0), (t832), (t833), rs, H', ⟨Nat.le_refl _⟩, ⟨by (with_reducible repeat (first | apply Kd.R_alloc | apply Kd.R_drewN | apply Kd.R_drew)); exact HO837.out⟩, ⟨by (with_reducible repeat (first | refine blk_drewN ?_ _ | refine blk_drew ?_ | refine blk_alloc ?_ _)); exact BK830.out⟩, ⟨u16HI834⟩, ⟨u16HB⟩⟩
 case round =>
  clear H'
  try clear c1
  try clear p2
  try clear c5
  obtain ⟨x5_1, x6_1, x835001_1, x835002_1, rfl, HA, HK1, HO_5, BK830, HI834, HB⟩ := hrel
  cases gk with
  | zero => exact absurd HA.out (by simp [spec_DrawHitsAny.l0])
  | succ k1 =>
   have H := HA.out
   clear HA
   simp only [spec_DrawHitsAny.l0] at H
   revert H
   refine ok3 fun t838 t839 t840 A7 H => ?_
   (try dsimp only at H)
   by_cases c8 : x6_1 < t838
   rotate_left
   ·rw [if_neg c8] at H
    have c8b0 := decide_eq_false c8
    clear c8
    replace H := ob H
    obtain ⟨⟨t850, t851, t854, t857, t858, t861, t862, t863, t864⟩, A140, H⟩ := H
    replace H : (some (x5_1, t850, t851, t854, t857, t858, t861, t862)) = some (r1, r2, r3, r4, r5, r6, r7, r8) := H
    have A14 := am A140
    clear A140
    simp only [Option.some.injEq, Prod.mk.injEq] at H
    obtain ⟨rfl, rfl, rfl, rfl, rfl, rfl, rfl, rfl⟩ := H
    go_wp2_with ((with_reducible refine gw ?_); first | (refine gl 12 Tryz.func74 #[.pointer (some ⟨g834, 0, none⟩), .int .i64 4] ?_; (with_reducible refine (spec_l1Below.calls g834 t831 x835001_1 x835002_1 4 t838 t839 t840 w _ ?side1 ?side2 A7.out).mono ?_); (case side1 => exact u16HI834); (case side2 => exact u16HB); rintro e w15 ⟨rfl, hi, hb, hk⟩; refine ⟨_, rfl, ?_⟩; replace HO_5 := am (Kd.R_mono (Kd.R_keep (IsS139.apart (show IsS139 w _ g834 t831 x835001_1 x835002_1 from u16HI834) (ro HO_5) (by decide)) hk (fun _ h => h.2)) (fun _ h => h.1)); replace BK830 := kp BK830 hk NB830_834; replace HB := am (hb); replace HI834 := am (hi); clear hb hk hi) | (refine gl 23 Tryz.func61 #[.pointer (some ⟨g834, 0, none⟩)] ?_; (with_reducible refine (spec_l10Draw.calls k1 g834 t831 t839 t840 t850 t851 t854 t857 t858 t861 t862 t863 t864 w _ ?side1 ?side2 A14.out).mono ?_); (case side1 => exact u16HI834); (case side2 => exact u16HB); rintro e w16 ⟨v852, v855, v859, rfl, ho0, ho1, ho2, hi, hb, hk⟩; refine ⟨_, rfl, ?_⟩; replace HO_5 := am (Kd.R_mono (Kd.R_keep (IsS139.apart (show IsS139 w _ g834 t831 t839 t840 from u16HI834) (ro HO_5) (by decide)) hk (fun _ h => h.2)) (fun _ h => h.1)); replace BK830 := kp BK830 hk NB830_834; have HO853 := am (Kd.R_lower ho0 (below_size u16HB)); have HO856 := am (Kd.R_lower ho1 (below_size u16HB)); have HO860 := am (Kd.R_lower ho2 (below_size u16HB)); replace HB := am (hb); replace HI834 := am (hi); clear hb hk hi ho0 ho1 ho2; have hnb17 := NB830_834.out; have hnc17 := NB834_830.out; obtain ⟨z18_0, y18_0, z18_1, y18_1, z18_2, y18_2, z18_3, y18_3, z18_4, y18_4, z18_5, y18_5, z18_6, y18_6⟩ := cl7 BK830; obtain ⟨Ao19, co19, eo19⟩ := Kd.R_slice HO853.out; subst eo19; obtain ⟨Ao20, co20, eo20⟩ := Kd.R_slice HO856.out; subst eo20; obtain ⟨Ao21, co21, eo21⟩ := Kd.R_slice HO860.out; subst eo21))
    refine bodyPost_ret (results_tc rfl _ _ gb830 31 #[.string t850, .slice Ao19 t851.length co19, .slice Ao20 t854.length co20, .int .i64 t857, .slice Ao21 t858.length co21, .string t861, .int .i64 t862] (0, 0) _ rfl (pt0 BK830) Tryz.underlying31 rfl (by kernel_rfl)) rfl ?_
    exact ⟨_, _, _, _, rf, rj (Kd.R_types HO_5.out BK830.out (by decide)) (fun _ hk => trivial), rj (Kd.R_types HO853.out BK830.out (by decide)) (fun _ hk => hk.1), rj (Kd.R_types HO856.out BK830.out (by decide)) (fun _ hk => hk.1), rj (Kd.R_types HO860.out BK830.out (by decide)) (fun _ hk => trivial), u16HB⟩
   rw [if_pos c8] at H
   have c8b0 := decide_eq_true c8
   clear c8
   revert H
   refine ok6 fun t841 t842 t843 t844 t845 t846 A9 H => ?_
   (try dsimp only at H)
   revert H
   refine ifn fun c10 H => ?_
   have LMc10 := am c10
   clear c10
   obtain ⟨y847, hy847⟩ : ∃ y_ : List (S25), y_ = (x5_1 ++ [(⟨t841, t842, t843, t844⟩ : S25)]) := ⟨_, rfl⟩
   replace H : (spec_DrawHitsAny.l0 k1 y847 (wrap64 (x6_1 + 1)) t831 t845 t846) = some (r1, r2, r3, r4, r5, r6, r7, r8) := by first | (rw [hy847]; with_reducible exact H) | (have H2_ := (Option.bind_some _ _).symm.trans H; rw [hy847]; with_reducible exact H2_) | (have H2_ := (Option.bind_some _ _).symm.trans H; with_reducible exact H2_) | with_reducible exact H | (rw [hy847]; exact H) | exact H
   have Ny847 := am hy847
   clear hy847
   have H' := am H
   clear H
   go_wp2_with (first | ((with_reducible refine gw ?_); first | (refine gl 12 Tryz.func74 #[.pointer (some ⟨g834, 0, none⟩), .int .i64 4] ?_; (with_reducible refine (spec_l1Below.calls g834 t831 x835001_1 x835002_1 4 t838 t839 t840 w _ ?side1 ?side2 A7.out).mono ?_); (case side1 => exact u16HI834); (case side2 => exact u16HB); rintro e w11 ⟨rfl, hi, hb, hk⟩; refine ⟨_, rfl, ?_⟩; replace HO_5 := am (Kd.R_mono (Kd.R_keep (IsS139.apart (show IsS139 w _ g834 t831 x835001_1 x835002_1 from u16HI834) (ro HO_5) (by decide)) hk (fun _ h => h.2)) (fun _ h => h.1)); replace BK830 := kp BK830 hk NB830_834; replace HB := am (hb); replace HI834 := am (hi); clear hb hk hi) | (refine gl 18 Tryz.func60 #[.pointer (some ⟨g834, 0, none⟩)] ?_; (with_reducible refine (spec_l11Draw.calls g834 t831 t839 t840 t841 t842 t843 t844 t845 t846 w _ ?side1 ?side2 A9.out).mono ?_); (case side1 => exact u16HI834); (case side2 => exact u16HB); rintro e w12 ⟨rfl, hi, hb, hk⟩; refine ⟨_, rfl, ?_⟩; replace HO_5 := am (Kd.R_mono (Kd.R_keep (IsS139.apart (show IsS139 w _ g834 t831 t839 t840 from u16HI834) (ro HO_5) (by decide)) hk (fun _ h => h.2)) (fun _ h => h.1)); replace BK830 := kp BK830 hk NB830_834; replace HB := am (hb); replace HI834 := am (hi); clear hb hk hi)) | ((with_reducible refine gate_builtin (b := .append) (xs := #[.tmp 16, .tmp 19]) rfl ?_); at_builtin; refine Kd.R_append k25 (w0 := w) w.heap.size rfl (.tmp 16) (.tmp 19) 37 25 (.agg #[(.int .i64 0), (.string ⟨#[]⟩), (.string ⟨#[]⟩), (.int .i64 0)]) 48 rfl Tryz.underlying37 info25 rfl (by decide) (by omega) u5 x5_1 (⟨t841, t842, t843, t844⟩ : S25) [.int .i64 t841, .string t842, .string t843, .int .i64 t844] (fun _ => True) (fun _ => False) rfl rfl ?aP (fun _ hk => hk.elim) ?aF ?aO ?aB ?aS ?aL ?_; (case aP => exact k25_mkM _ _ _ (⟨t841, t842, t843, t844⟩ : S25)); (case aB => exact u16HB); (case aF => exact (fun _ _ => trivial)); (case aO => exact (ro HO_5)); (case aS => exact (below_size u16HB)); (case aL => have := LMc10.out; omega); intro v848 w13 ho hb hg hat; rw [← Ny847.out] at ho; have n0_ := am (blk_grown (g := gb830) (o := .cells #[.string (⟨#[]⟩ : ByteArray), .slice none 0 0, .slice none 0 0, .int .i64 0, .slice none 0 0, .string (⟨#[]⟩ : ByteArray), .int .i64 0] 31 (0, 0)) (bk BK830) hg (Kd.R_ne HO_5.out BK830.out (by decide))); have n1_ := am (IsS139.grown u16HI834 hg (IsS139.own_ne HI834.out HO_5.out (by decide))); have n2_ := am (hb); have n3_ := am (ho); clear BK830; clear HI834; clear HB; clear HO_5; have BK830 := n0_; have HI834 := n1_; have HB := n2_; have HO849 := n3_; clear n0_ n1_ n2_ n3_; clear ho hb hg hat))
   go_roundg k1
   case measure => have := HK1.out; omega
   case rel => exact ⟨(y847), (wrap64 (x6_1 + 1)), (t845), (t846), rs, H', ⟨by have := HK1.out; omega⟩, ⟨by (with_reducible repeat (first | apply Kd.R_alloc | apply Kd.R_drewN | apply Kd.R_drew)); exact HO849.out⟩, ⟨by (with_reducible repeat (first | refine blk_drewN ?_ _ | refine blk_drew ?_ | refine blk_alloc ?_ _)); exact BK830.out⟩, ⟨u16HI834⟩, ⟨u16HB⟩⟩

/-! ### impl_HitsAny: function 17 -/
theorem u17HB {p : Prop} (h : p := by repeat (first | (with_reducible first | exact HB.out | apply below_alloc | apply pw_below_drewN | apply below_drew1 | refine below_set ?_ GE865.out | refine below_set ?_ GE867.out) | exact HB.out)) : p := h
def impl_HitsAny.l0 : Nat → List (S25) → Int → Int → ByteArray → List ByteArray → List ByteArray → Int → List (S116) → ByteArray → Int → Option (Bool)
 | 0, _, _, _, _, _, _, _, _, _, _ => none
 | k + 1, x7, x8, x9, x866000, x866001, x866002, x866003, x866004, x866005, x866006 => if x9 < x8 then (if 0 ≤ x9 then (if x9 < (x7.length : Int) then ((impl_Hits.f k ((rd_T25 x7 x9).f0) ((rd_T25 x7 x9).f1) ((rd_T25 x7 x9).f2) ((rd_T25 x7 x9).f3) x866000 x866001 x866002 x866003 x866004 x866005 x866006).bind fun t868 => (if t868 = true then (some true) else (impl_HitsAny.l0 k x7 x8 (wrap64 (x9 + 1)) x866000 x866001 x866002 x866003 x866004 x866005 x866006))) else (none)) else (none)) else (some false)
def impl_HitsAny.f (k : Nat) (l0 : List (S25)) (a1_0 : ByteArray) (l1_1 : List ByteArray) (l1_2 : List ByteArray) (a1_3 : Int) (l1_4 : List (S116)) (a1_5 : ByteArray) (a1_6 : Int) : Option (Bool) := impl_HitsAny.l0 k l0 (l0.length : Int) 0 a1_0 l1_1 l1_2 a1_3 l1_4 a1_5 a1_6
set_option maxHeartbeats 8000000 in
set_option maxRecDepth 100000 in
theorem impl_HitsAny.calls (k : Nat) (A0 : Option Addr) (c0 : Nat) (l0 : List (S25)) (a1_0 : ByteArray) (A1_1 : Option Addr) (c1_1 : Nat) (l1_1 : List ByteArray) (A1_2 : Option Addr) (c1_2 : Nat) (l1_2 : List ByteArray) (a1_3 : Int) (A1_4 : Option Addr) (c1_4 : Nat) (l1_4 : List (S116)) (a1_5 : ByteArray) (a1_6 : Int) (r : Bool) (w : World) (hGM : GLOBM w) (hr0 : Kd.C k25 w A0 l0.length l0) (hc0 : l0.length ≤ c0) (hr1_1 : Kd.C Kd.string w A1_1 l1_1.length l1_1) (hc1_1 : l1_1.length ≤ c1_1) (hr1_2 : Kd.C Kd.string w A1_2 l1_2.length l1_2) (hc1_2 : l1_2.length ≤ c1_2) (hr1_4 : Kd.C k116 w A1_4 l1_4.length l1_4) (hc1_4 : l1_4.length ≤ c1_4) (h : impl_HitsAny.f k l0 a1_0 l1_1 l1_2 a1_3 l1_4 a1_5 a1_6 = some r) :
  Calls Tryz.prog 17 #[.slice A0 l0.length c0, .agg #[.string a1_0, .slice A1_1 l1_1.length c1_1, .slice A1_2 l1_2.length c1_2, .int .i64 a1_3, .slice A1_4 l1_4.length c1_4, .string a1_5, .int .i64 a1_6]] w fun e w' => e = .returned (.bool r) ∧ Below w.heap.size w w' := by
 have hu31 := Tryz.underlying31
 have hu25 := Tryz.underlying25
 have HR0 := am hr0
 have HC0 := am hc0
 clear hr0 hc0
 have HR1_1 := am hr1_1
 have HC1_1 := am hc1_1
 clear hr1_1 hc1_1
 have HR1_2 := am hr1_2
 have HC1_2 := am hc1_2
 clear hr1_2 hc1_2
 have HR1_4 := am hr1_4
 have HC1_4 := am hc1_4
 clear hr1_4 hc1_4
 have HGM := am hGM
 clear hGM
 have HB := am (Below.refl w.heap.size w)
 unfold impl_HitsAny.f at h
 have H := h
 clear h
 have H' := am H
 clear H
 go_enter Tryz.func17, Tryz.ntmps17
 go_wp2_with ((with_reducible refine gw ?_); first | (refine bx 3 #[.string a1_0, .slice A1_1 l1_1.length c1_1, .slice A1_2 l1_2.length c1_2, .int .i64 a1_3, .slice A1_4 l1_4.length c1_4, .string a1_5, .int .i64 a1_6] 31 ?_; intro gb865 hg w3 hbox hb; have BK865 := am (hbox); have GW865 := am (sz hg : w.heap.size ≤ gb865); have GE865 := am (sz hg : w.heap.size ≤ gb865); replace HB := am (below_step bl hb); clear hb hbox hg))
 (try simp only [Act.put, List.setIfInBounds_toArray, List.set_cons_zero, List.set_cons_succ])
 go_loopg [9] k (fun kq v9 w' => ∃ (x9_1 : Int), v9 = .int .i64 x9_1 ∧ Aside0 (impl_HitsAny.l0 kq l0 (l0.length : Int) x9_1 a1_0 l1_1 l1_2 a1_3 l1_4 a1_5 a1_6 = some r) ∧ Aside0 (kq ≤ k) ∧ Aside0 (w'.heap[gb865]? = some (.cells #[.string a1_0, (.slice A1_1 l1_1.length c1_1), (.slice A1_2 l1_2.length c1_2), .int .i64 a1_3, (.slice A1_4 l1_4.length c1_4), .string a1_5, .int .i64 a1_6] 31 (0, 0))) ∧ Aside0 (Below w.heap.size w w'))
 case atStart => exact ⟨(0), rs, H', ⟨Nat.le_refl _⟩, ⟨by (with_reducible repeat (first | refine blk_drewN ?_ _ | refine blk_drew ?_ | refine blk_alloc ?_ _)); exact BK865.out⟩, ⟨u17HB⟩⟩
 case round =>
  clear H'
  try clear c1
  try clear p2
  obtain ⟨x9_1, rfl, HA, HK1, BK865, HB⟩ := hrel
  cases gk with
  | zero => exact absurd HA.out (by simp [impl_HitsAny.l0])
  | succ k1 =>
   have H := HA.out
   clear HA
   simp only [impl_HitsAny.l0] at H
   by_cases c4 : x9_1 < (l0.length : Int)
   rotate_left
   ·rw [if_neg c4] at H
    have c4b0 := decide_eq_false c4
    clear c4
    obtain rfl := Option.some.inj H
    go_wp2
    go_ret
    exact ⟨rf, bl⟩
   rw [if_pos c4] at H
   have c4b0 := decide_eq_true c4
   clear c4
   revert H
   refine ifn fun c5 H => ?_
   have c5b0 := decide_eq_true c5
   clear c5
   revert H
   refine ifn fun c6 H => ?_
   have c6b0 := decide_eq_true c6
   clear c6
   revert H
   refine ok1 fun t868 A7 H => ?_
   have HH8 := am H
   clear H
   have p866 : 0 ≤ (x9_1 : Int) := od
   have q866 : x9_1 < (l0.length : Int) := od
   obtain ⟨ad866, e866, hx866_0, hx866_1, hx866_2, hx866_3⟩ := at_T25 HR0.out x9_1 p866 q866
   cases e866
   replace hx866_0 := hcw hx866_0
   replace hx866_1 := hcw hx866_1
   replace hx866_2 := hcw hx866_2
   replace hx866_3 := hcw hx866_3
   replace p866 := eq_true p866
   replace q866 := eq_true q866
   go_upto_if 15 with ((with_reducible refine gw ?_); first | (refine bx 6 #[.int .i64 0, .string (⟨#[]⟩ : ByteArray), .string (⟨#[]⟩ : ByteArray), .int .i64 0] 25 ?_; intro gb867 hg w9 hbox hb; have BK867 := am (hbox); have GW867 := am (sz hg : w.heap.size ≤ gb867); have GE867 := am (sz hg : w.heap.size ≤ gb867); replace HB := am (below_step bl hb); have NB865_867 := am (nl hg BK865 : gb865 ≠ gb867); have NB867_865 := am (ng hg BK865 : gb867 ≠ gb865); replace BK865 := kb BK865 hb; clear hb hbox hg; have hnb10 := NB867_865.out; have hnc10 := NB865_867.out; obtain ⟨z11_0, y11_0, z11_1, y11_1, z11_2, y11_2, z11_3, y11_3⟩ := cl4 BK867; obtain ⟨z12_0, y12_0, z12_1, y12_1, z12_2, y12_2, z12_3, y12_3, z12_4, y12_4, z12_5, y12_5, z12_6, y12_6⟩ := cl7 BK865) | (refine gl 15 Tryz.func12 #[.agg #[.int .i64 ((rd_T25 l0 x9_1).f0), .string ((rd_T25 l0 x9_1).f1), .string ((rd_T25 l0 x9_1).f2), .int .i64 ((rd_T25 l0 x9_1).f3)], .agg #[.string a1_0, .slice A1_1 l1_1.length c1_1, .slice A1_2 l1_2.length c1_2, .int .i64 a1_3, .slice A1_4 l1_4.length c1_4, .string a1_5, .int .i64 a1_6]] ?_; (with_reducible refine (impl_Hits.calls k1 ((rd_T25 l0 x9_1).f0) ((rd_T25 l0 x9_1).f1) ((rd_T25 l0 x9_1).f2) ((rd_T25 l0 x9_1).f3) a1_0 _ _ l1_1 _ _ l1_2 a1_3 _ _ l1_4 a1_5 a1_6 t868 _ ?side1 ?side2 ?side3 ?side4 ?side5 ?side6 ?side7 A7.out).mono ?_); (case side1 => exact GLOBM.below HGM.out bl); (case side2 => exact Kd.C_below HR1_1.out bl); (case side3 => exact HC1_1.out); (case side4 => exact Kd.C_below HR1_2.out bl); (case side5 => exact HC1_2.out); (case side6 => exact Kd.C_below HR1_4.out bl); (case side7 => exact HC1_4.out); rintro e w13 ⟨rfl, hb⟩; refine ⟨_, rfl, ?_⟩; replace BK865 := kg1 BK865 NB865_867 hb; replace BK867 := am (blk_below (g := gb867) (o := .cells #[.int .i64 ((rd_T25 l0 x9_1).f0), .string ((rd_T25 l0 x9_1).f1), .string ((rd_T25 l0 x9_1).f2), .int .i64 ((rd_T25 l0 x9_1).f3)] 25 (0, 0)) (pt0 BK867) hb); replace HB := am (below_step bl hb); clear hb))
   have H := HH8.out
   clear HH8
   by_cases c14 : t868 = true
   ·subst c14
    rw [if_pos rfl] at H
    obtain rfl := Option.some.inj H
    go_wp2
    go_ret
    exact ⟨rf, bl⟩
   replace c14 := Bool.eq_false_iff.mpr c14
   subst c14
   rw [if_neg (show ¬ (false = true) by decide)] at H
   have H' := am H
   clear H
   go_wp2
   go_roundg k1
   case measure => have := HK1.out; omega
   case rel => exact ⟨(wrap64 (x9_1 + 1)), rs, H', ⟨by have := HK1.out; omega⟩, ⟨by (with_reducible repeat (first | refine blk_drewN ?_ _ | refine blk_drew ?_ | refine blk_alloc ?_ _)); exact BK865.out⟩, ⟨u17HB⟩⟩

/-! ### spec_HitsAny: function 18 -/
theorem u18HB {p : Prop} (h : p := by repeat (first | (with_reducible first | exact HB.out | apply below_alloc | apply pw_below_drewN | apply below_drew1 | refine below_set ?_ GE869.out) | exact HB.out)) : p := h
def spec_HitsAny.l0 : Nat → List (S25) → Int → ByteArray → List ByteArray → List ByteArray → Int → List (S116) → ByteArray → Int → Option (Bool)
 | 0, _, _, _, _, _, _, _, _, _ => none
 | k + 1, x0, x5, x870000, x870001, x870002, x870003, x870004, x870005, x870006 => if x5 < (x0.length : Int) then (if 0 ≤ x5 then ((spec_Hits.f k ((rd_T25 x0 x5).f0) ((rd_T25 x0 x5).f1) ((rd_T25 x0 x5).f2) ((rd_T25 x0 x5).f3) x870000 x870001 x870002 x870003 x870004 x870005 x870006).bind fun t871 => (if t871 = true then (some true) else (spec_HitsAny.l0 k x0 (wrap64 (x5 + 1)) x870000 x870001 x870002 x870003 x870004 x870005 x870006))) else (none)) else (some false)
def spec_HitsAny.f (k : Nat) (l0 : List (S25)) (a1_0 : ByteArray) (l1_1 : List ByteArray) (l1_2 : List ByteArray) (a1_3 : Int) (l1_4 : List (S116)) (a1_5 : ByteArray) (a1_6 : Int) : Option (Bool) := spec_HitsAny.l0 k l0 0 a1_0 l1_1 l1_2 a1_3 l1_4 a1_5 a1_6
set_option maxHeartbeats 8000000 in
set_option maxRecDepth 100000 in
theorem spec_HitsAny.calls (k : Nat) (A0 : Option Addr) (c0 : Nat) (l0 : List (S25)) (a1_0 : ByteArray) (A1_1 : Option Addr) (c1_1 : Nat) (l1_1 : List ByteArray) (A1_2 : Option Addr) (c1_2 : Nat) (l1_2 : List ByteArray) (a1_3 : Int) (A1_4 : Option Addr) (c1_4 : Nat) (l1_4 : List (S116)) (a1_5 : ByteArray) (a1_6 : Int) (r : Bool) (w : World) (hr0 : Kd.C k25 w A0 l0.length l0) (hc0 : l0.length ≤ c0) (hr1_1 : Kd.C Kd.string w A1_1 l1_1.length l1_1) (hc1_1 : l1_1.length ≤ c1_1) (hr1_2 : Kd.C Kd.string w A1_2 l1_2.length l1_2) (hc1_2 : l1_2.length ≤ c1_2) (hr1_4 : Kd.C k116 w A1_4 l1_4.length l1_4) (hc1_4 : l1_4.length ≤ c1_4) (h : spec_HitsAny.f k l0 a1_0 l1_1 l1_2 a1_3 l1_4 a1_5 a1_6 = some r) :
  Calls Tryz.prog 18 #[.slice A0 l0.length c0, .agg #[.string a1_0, .slice A1_1 l1_1.length c1_1, .slice A1_2 l1_2.length c1_2, .int .i64 a1_3, .slice A1_4 l1_4.length c1_4, .string a1_5, .int .i64 a1_6]] w fun e w' => e = .returned (.bool r) ∧ Below w.heap.size w w' := by
 have hu31 := Tryz.underlying31
 have hu25 := Tryz.underlying25
 have HR0 := am hr0
 have HC0 := am hc0
 clear hr0 hc0
 have HR1_1 := am hr1_1
 have HC1_1 := am hc1_1
 clear hr1_1 hc1_1
 have HR1_2 := am hr1_2
 have HC1_2 := am hc1_2
 clear hr1_2 hc1_2
 have HR1_4 := am hr1_4
 have HC1_4 := am hc1_4
 clear hr1_4 hc1_4
 have HB := am (Below.refl w.heap.size w)
 unfold spec_HitsAny.f at h
 have H := h
 clear h
 have H' := am H
 clear H
 go_enter Tryz.func18, Tryz.ntmps18
 go_wp2_with ((with_reducible refine gw ?_); first | (refine bx 3 #[.string a1_0, .slice A1_1 l1_1.length c1_1, .slice A1_2 l1_2.length c1_2, .int .i64 a1_3, .slice A1_4 l1_4.length c1_4, .string a1_5, .int .i64 a1_6] 31 ?_; intro gb869 hg w3 hbox hb; have BK869 := am (hbox); have GW869 := am (sz hg : w.heap.size ≤ gb869); have GE869 := am (sz hg : w.heap.size ≤ gb869); replace HB := am (below_step bl hb); clear hb hbox hg))
 (try simp only [Act.put, List.setIfInBounds_toArray, List.set_cons_zero, List.set_cons_succ])
 go_loopg [5] k (fun kq v5 w' => ∃ (x5_1 : Int), v5 = .int .i64 x5_1 ∧ Aside0 (spec_HitsAny.l0 kq l0 x5_1 a1_0 l1_1 l1_2 a1_3 l1_4 a1_5 a1_6 = some r) ∧ Aside0 (kq ≤ k) ∧ Aside0 (w'.heap[gb869]? = some (.cells #[.string a1_0, (.slice A1_1 l1_1.length c1_1), (.slice A1_2 l1_2.length c1_2), .int .i64 a1_3, (.slice A1_4 l1_4.length c1_4), .string a1_5, .int .i64 a1_6] 31 (0, 0))) ∧ Aside0 (Below w.heap.size w w'))
 case atStart => exact ⟨(0), rs, H', ⟨Nat.le_refl _⟩, ⟨by (with_reducible repeat (first | refine blk_drewN ?_ _ | refine blk_drew ?_ | refine blk_alloc ?_ _)); exact BK869.out⟩, ⟨u18HB⟩⟩
 case round =>
  clear H'
  try clear c1
  try clear p2
  obtain ⟨x5_1, rfl, HA, HK1, BK869, HB⟩ := hrel
  cases gk with
  | zero => exact absurd HA.out (by simp [spec_HitsAny.l0])
  | succ k1 =>
   have H := HA.out
   clear HA
   simp only [spec_HitsAny.l0] at H
   by_cases c4 : x5_1 < (l0.length : Int)
   rotate_left
   ·rw [if_neg c4] at H
    have c4b0 := decide_eq_false c4
    clear c4
    obtain rfl := Option.some.inj H
    go_wp2
    go_ret
    exact ⟨rf, bl⟩
   rw [if_pos c4] at H
   have c4b0 := decide_eq_true c4
   clear c4
   revert H
   refine ifn fun c5 H => ?_
   have c5b0 := decide_eq_true c5
   clear c5
   revert H
   refine ok1 fun t871 A6 H => ?_
   have HH7 := am H
   clear H
   try go_wp2
   replace BK869 := am (blk_drew BK869.out)
   replace HB := am (below_drew1 HB.out)
   have p870 : 0 ≤ (x5_1 : Int) := od
   have q870 : x5_1 < (l0.length : Int) := od
   obtain ⟨ad870, e870, hx870_0, hx870_1, hx870_2, hx870_3⟩ := at_T25 HR0.out x5_1 p870 q870
   have hw870_3 := hx870_3
   have hw870_2 := hx870_2
   have hw870_1 := hx870_1
   have hw870_0 := hx870_0
   cases e870
   replace hx870_0 := hcw hx870_0
   replace hx870_1 := hcw hx870_1
   replace hx870_2 := hcw hx870_2
   replace hx870_3 := hcw hx870_3
   replace p870 := eq_true p870
   replace q870 := eq_true q870
   refine start_ (n := 6) (S := fun w' => w'.cell? ⟨gb869, 0, none⟩ = some (.string a1_0) ∧ w'.cell? ⟨gb869, 1, none⟩ = some (.slice A1_1 l1_1.length c1_1) ∧ w'.cell? ⟨gb869, 2, none⟩ = some (.slice A1_2 l1_2.length c1_2) ∧ w'.cell? ⟨gb869, 3, none⟩ = some (.int .i64 a1_3) ∧ w'.cell? ⟨gb869, 4, none⟩ = some (.slice A1_4 l1_4.length c1_4) ∧ w'.cell? ⟨gb869, 5, none⟩ = some (.string a1_5) ∧ w'.cell? ⟨gb869, 6, none⟩ = some (.int .i64 a1_6) ∧ w'.cell? (ad870.add ((x5_1).toNat * 4)) = some (.int .i64 ((rd_T25 l0 x5_1).f0)) ∧ w'.cell? ⟨(ad870.add ((x5_1).toNat * 4)).block, (ad870.add ((x5_1).toNat * 4)).off + 1, none⟩ = some (.string ((rd_T25 l0 x5_1).f1)) ∧ w'.cell? ⟨(ad870.add ((x5_1).toNat * 4)).block, (ad870.add ((x5_1).toNat * 4)).off + 2, none⟩ = some (.string ((rd_T25 l0 x5_1).f2)) ∧ w'.cell? ⟨(ad870.add ((x5_1).toNat * 4)).block, (ad870.add ((x5_1).toNat * 4)).off + 3, none⟩ = some (.int .i64 ((rd_T25 l0 x5_1).f3))) (ds := []) ⟨br true [0, 6]⟩ (by kernel_rfl) rfl (by kernel_rfl) ⟨bc BK869, bc BK869, bc BK869, bc BK869, bc BK869, bc BK869, bc BK869, (hcw hw870_0), (hcw hw870_1), (hcw hw870_2), (hcw hw870_3)⟩ (fun hHeld => ?_)
   generalize wr.drew = w8 at BK869 HB hx870_0 hx870_1 hx870_2 hx870_3 hHeld ⊢
   refine pu 0 12 [1, 5] ?_
   refine pu 1 13 [2, 4] ?_
   refine pu 2 14 [3, 3] ?_
   refine tk 3 15 [4, 2] ?_
   refine tk 4 16 [5, 1] ?_
   refine og 5 17 [6] Tryz.func13 #[.agg #[.int .i64 ((rd_T25 l0 x5_1).f0), .string ((rd_T25 l0 x5_1).f1), .string ((rd_T25 l0 x5_1).f2), .int .i64 ((rd_T25 l0 x5_1).f3)], .agg #[.string a1_0, .slice A1_1 l1_1.length c1_1, .slice A1_2 l1_2.length c1_2, .int .i64 a1_3, .slice A1_4 l1_4.length c1_4, .string a1_5, .int .i64 a1_6]] (fun K hK => ?_)
   with_reducible refine (spec_Hits.calls k1 ((rd_T25 l0 x5_1).f0) ((rd_T25 l0 x5_1).f1) ((rd_T25 l0 x5_1).f2) ((rd_T25 l0 x5_1).f3) a1_0 _ _ l1_1 _ _ l1_2 a1_3 _ _ l1_4 a1_5 a1_6 t871 _ ?side1 ?side2 ?side3 ?side4 ?side5 ?side6 A6.out).mono ?_
   (case side1 => exact cb HR1_1)
   (case side2 => exact HC1_1.out)
   (case side3 => exact cb HR1_2)
   (case side4 => exact HC1_2.out)
   (case side5 => exact cb HR1_4)
   (case side6 => exact HC1_4.out)
   rintro e w9 ⟨rfl, hb⟩
   refine ⟨_, rfl, ?_⟩
   replace BK869 := kb BK869 hb
   replace HB := am (below_step bl hb)
   clear hb
   refine hK.out _ _ ⟨bc BK869, bc BK869, bc BK869, bc BK869, bc BK869, bc BK869, bc BK869, (hcw hw870_0), (hcw hw870_1), (hcw hw870_2), (hcw hw870_3)⟩ (fun hHeld => ?_)
   clear hK K
   refine nm 17 ?_
   refine done_ (by kernel_rfl) ?_
   go_upto_if 17 with (fail)
   have H := HH7.out
   clear HH7
   by_cases c10 : t871 = true
   ·subst c10
    rw [if_pos rfl] at H
    obtain rfl := Option.some.inj H
    go_wp2
    go_ret
    exact ⟨rf, bl⟩
   replace c10 := Bool.eq_false_iff.mpr c10
   subst c10
   rw [if_neg (show ¬ (false = true) by decide)] at H
   have H' := am H
   clear H
   go_wp2
   go_roundg k1
   case measure => have := HK1.out; omega
   case rel => exact ⟨(wrap64 (x5_1 + 1)), rs, H', ⟨by have := HK1.out; omega⟩, ⟨by (with_reducible repeat (first | refine blk_drewN ?_ _ | refine blk_drew ?_ | refine blk_alloc ?_ _)); exact BK869.out⟩, ⟨u18HB⟩⟩

end Go.Proofs.YtjlpjbkpmmpojaaGreatDoor.All
