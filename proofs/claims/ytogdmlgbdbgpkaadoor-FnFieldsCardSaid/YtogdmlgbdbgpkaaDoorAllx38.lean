-- Written by a program of this session (wip/tools/hprint.py) out of the translation. Lean checks it.
import Derived.Test.YtogdmlgbdbgpkaaDoorAllx0
import Derived.Test.YtogdmlgbdbgpkaaDoorAllx1
import Derived.Test.YtogdmlgbdbgpkaaDoorAllx11
import Derived.Test.YtogdmlgbdbgpkaaDoorAllx18
namespace Go.Proofs.YtogdmlgbdbgpkaaDoor.All
open Go.RowKit Go.Proofs.YtogdmlgbdbgpkaaDoorW.PrintWords Go.Proofs.YtogdmlgbdbgpkaaDoorW.PrintLast Go.Proofs.YtogdmlgbdbgpkaaDoorW.PrintMore
attribute [local go_sem] max2_int min2_int max_two min_two max_three min_three max_four min_four   -- for this text's walks alone
set_option linter.unusedVariables false
set_option linter.unusedSimpArgs false

/-! ### laws_szBan: function 75 -/
def laws_szBan.f (a0_0 : Int) (a0_1 : ByteArray) (a0_2 : ByteArray) (a0_3 : Int) (a1 : Int) : Option (Int) := if (wrap64 (a1 - (a0_1.size : Int))) < 0 then (some (-1)) else (if (wrap64 ((wrap64 (a1 - (a0_1.size : Int))) - (a0_2.size : Int))) < 0 then (some (-1)) else (some (wrap64 ((wrap64 (a1 - (a0_1.size : Int))) - (a0_2.size : Int)))))
set_option maxHeartbeats 8000000 in
set_option maxRecDepth 100000 in
theorem laws_szBan.calls (a0_0 : Int) (a0_1 : ByteArray) (a0_2 : ByteArray) (a0_3 : Int) (a1 : Int) (r : Int) (w : World) (h : laws_szBan.f a0_0 a0_1 a0_2 a0_3 a1 = some r) :
    Calls Tryd.prog 75 #[.agg #[.int .i64 a0_0, .string a0_1, .string a0_2, .int .i64 a0_3], .int .i64 a1] w fun e w' => e = .returned (.int .i64 r) ∧ Below w.heap.size w w' := by
  have hu88 := Tryd.underlying88
  have HB := Aside0.mk (Below.refl w.heap.size w)
  have H : (if (wrap64 (a1 - (a0_1.size : Int))) < 0 then (some (-1)) else (if (wrap64 ((wrap64 (a1 - (a0_1.size : Int))) - (a0_2.size : Int))) < 0 then (some (-1)) else (some (wrap64 ((wrap64 (a1 - (a0_1.size : Int))) - (a0_2.size : Int)))))) = some r := h
  clear h
  by_cases c3 : (wrap64 (a1 - (a0_1.size : Int))) < 0
  · rw [if_pos c3] at H
    have c3b0 : decide ((wrap64 (a1 - (a0_1.size : Int))) < 0) = true := decide_eq_true c3
    clear c3
    obtain rfl := Option.some.inj H
    go_enter Tryd.func75, Tryd.ntmps75
    go_wp2_with (first | ((with_reducible refine gate_dst (N := 2) rfl ?_); refine box_event ?hg (N := 2) ?hd (cs := #[.int .i64 a0_0, .string a0_1, .string a0_2, .int .i64 a0_3]) (t := 88) ?hr ?_; (case hd => rfl); (case hg => rfl); (case hr => first | (go_simp; done) | (go_simp; rfl)); intro gb958 hg w4 hbox hb; have n0_ := Aside0.mk (below_step bl hb); have n1_ := Aside0.mk (hbox); have n2_ := Aside0.mk ((by rw [hg]; exact (below_size bl) : w.heap.size ≤ gb958)); have n3_ := Aside0.mk ((by rw [hg]; exact (below_size bl) : w.heap.size ≤ gb958)); clear HB; have HB := n0_; have BK958 := n1_; have GW958 := n2_; have GE958 := n3_; clear n0_ n1_ n2_ n3_; clear hb hbox hg; have hcz5_0 : w4.cell? ⟨gb958, 0, none⟩ = some (.int .i64 a0_0) := (blk_cell BK958.out 0).trans rfl; have hcz5_1 : w4.cell? ⟨gb958, 1, none⟩ = some (.string a0_1) := (blk_cell BK958.out 1).trans rfl; have hcz5_2 : w4.cell? ⟨gb958, 2, none⟩ = some (.string a0_2) := (blk_cell BK958.out 2).trans rfl; have hcz5_3 : w4.cell? ⟨gb958, 3, none⟩ = some (.int .i64 a0_3) := (blk_cell BK958.out 3).trans rfl; have hfz5_0 := blk_frozen BK958.out 0; have hfz5_1 := blk_frozen BK958.out 1; have hfz5_2 := blk_frozen BK958.out 2; have hfz5_3 := blk_frozen BK958.out 3))
    go_ret
    exact ⟨rf, bl⟩
  · rw [if_neg c3] at H
    have c3b0 : decide ((wrap64 (a1 - (a0_1.size : Int))) < 0) = false := decide_eq_false c3
    clear c3
    by_cases c6 : (wrap64 ((wrap64 (a1 - (a0_1.size : Int))) - (a0_2.size : Int))) < 0
    · rw [if_pos c6] at H
      have c6b0 : decide ((wrap64 ((wrap64 (a1 - (a0_1.size : Int))) - (a0_2.size : Int))) < 0) = true := decide_eq_true c6
      clear c6
      obtain rfl := Option.some.inj H
      go_enter Tryd.func75, Tryd.ntmps75
      go_wp2_with (first | ((with_reducible refine gate_dst (N := 2) rfl ?_); refine box_event ?hg (N := 2) ?hd (cs := #[.int .i64 a0_0, .string a0_1, .string a0_2, .int .i64 a0_3]) (t := 88) ?hr ?_; (case hd => rfl); (case hg => rfl); (case hr => first | (go_simp; done) | (go_simp; rfl)); intro gb958 hg w7 hbox hb; have n0_ := Aside0.mk (below_step bl hb); have n1_ := Aside0.mk (hbox); have n2_ := Aside0.mk ((by rw [hg]; exact (below_size bl) : w.heap.size ≤ gb958)); have n3_ := Aside0.mk ((by rw [hg]; exact (below_size bl) : w.heap.size ≤ gb958)); clear HB; have HB := n0_; have BK958 := n1_; have GW958 := n2_; have GE958 := n3_; clear n0_ n1_ n2_ n3_; clear hb hbox hg; have hcz8_0 : w7.cell? ⟨gb958, 0, none⟩ = some (.int .i64 a0_0) := (blk_cell BK958.out 0).trans rfl; have hcz8_1 : w7.cell? ⟨gb958, 1, none⟩ = some (.string a0_1) := (blk_cell BK958.out 1).trans rfl; have hcz8_2 : w7.cell? ⟨gb958, 2, none⟩ = some (.string a0_2) := (blk_cell BK958.out 2).trans rfl; have hcz8_3 : w7.cell? ⟨gb958, 3, none⟩ = some (.int .i64 a0_3) := (blk_cell BK958.out 3).trans rfl; have hfz8_0 := blk_frozen BK958.out 0; have hfz8_1 := blk_frozen BK958.out 1; have hfz8_2 := blk_frozen BK958.out 2; have hfz8_3 := blk_frozen BK958.out 3))
      go_ret
      exact ⟨rf, bl⟩
    · rw [if_neg c6] at H
      have c6b0 : decide ((wrap64 ((wrap64 (a1 - (a0_1.size : Int))) - (a0_2.size : Int))) < 0) = false := decide_eq_false c6
      clear c6
      obtain rfl := Option.some.inj H
      go_enter Tryd.func75, Tryd.ntmps75
      go_wp2_with (first | ((with_reducible refine gate_dst (N := 2) rfl ?_); refine box_event ?hg (N := 2) ?hd (cs := #[.int .i64 a0_0, .string a0_1, .string a0_2, .int .i64 a0_3]) (t := 88) ?hr ?_; (case hd => rfl); (case hg => rfl); (case hr => first | (go_simp; done) | (go_simp; rfl)); intro gb958 hg w9 hbox hb; have n0_ := Aside0.mk (below_step bl hb); have n1_ := Aside0.mk (hbox); have n2_ := Aside0.mk ((by rw [hg]; exact (below_size bl) : w.heap.size ≤ gb958)); have n3_ := Aside0.mk ((by rw [hg]; exact (below_size bl) : w.heap.size ≤ gb958)); clear HB; have HB := n0_; have BK958 := n1_; have GW958 := n2_; have GE958 := n3_; clear n0_ n1_ n2_ n3_; clear hb hbox hg; have hcz10_0 : w9.cell? ⟨gb958, 0, none⟩ = some (.int .i64 a0_0) := (blk_cell BK958.out 0).trans rfl; have hcz10_1 : w9.cell? ⟨gb958, 1, none⟩ = some (.string a0_1) := (blk_cell BK958.out 1).trans rfl; have hcz10_2 : w9.cell? ⟨gb958, 2, none⟩ = some (.string a0_2) := (blk_cell BK958.out 2).trans rfl; have hcz10_3 : w9.cell? ⟨gb958, 3, none⟩ = some (.int .i64 a0_3) := (blk_cell BK958.out 3).trans rfl; have hfz10_0 := blk_frozen BK958.out 0; have hfz10_1 := blk_frozen BK958.out 1; have hfz10_2 := blk_frozen BK958.out 2; have hfz10_3 := blk_frozen BK958.out 3))
      go_ret
      exact ⟨rf, bl⟩

/-! ### spec_BanOk: function 116 -/
def spec_BanOk.j0 : Nat → Int → Bool → Int → ByteArray → ByteArray → Int → Option (Bool)
  | 0, _, _, _, _, _, _ => none
  | k + 1, x8, x9, x960000, x960001, x960002, x960003 => if x9 = true then ((spec_l3Path.f k x960001).bind fun t961 => (if t961 = true then (some (x960002.toList == ([] : List UInt8))) else (some false))) else (if x8 = 3 then ((spec_TokenOk.f k x960001).bind fun t962 => (if t962 = true then ((spec_ValueOk.f k x960002).bind fun t963 => (some t963)) else (some false))) else (some false))
def spec_BanOk.f (k : Nat) (a0_0 : Int) (a0_1 : ByteArray) (a0_2 : ByteArray) (a0_3 : Int) : Option (Bool) := (spec_l1In.f a0_3 0 1000000).bind fun t960 => (if t960 = true then (if a0_0 = 1 then (spec_BanOk.j0 k a0_0 (a0_0 == 1) a0_0 a0_1 a0_2 a0_3) else (spec_BanOk.j0 k a0_0 (a0_0 == 2) a0_0 a0_1 a0_2 a0_3)) else (some false))
theorem spec_BanOk.mono_l : ∀ k, (∀ y0 y1 y2 y3 y4 y5, LeO (spec_BanOk.j0 k y0 y1 y2 y3 y4 y5) (spec_BanOk.j0 (k + 1) y0 y1 y2 y3 y4 y5))
  | 0 => fun _ _ _ _ _ _ r h => by simp [spec_BanOk.j0] at h
  | k + 1 => by
    have ih0 := spec_BanOk.mono_l k
    · intro y0 y1 y2 y3 y4 y5
      unfold spec_BanOk.j0
      repeat' first
      | (with_reducible exact ih0 _ _ _ _ _ _)
      | (with_reducible exact spec_TokenOk.mono _ _)
      | (with_reducible exact spec_ValueOk.mono _ _)
      | (with_reducible exact spec_l3Path.mono _ _)
      | (with_reducible exact LeO.refl _)
      | (with_reducible exact LeO.none _)
      | (with_reducible refine LeO.ite ?_ ?_)
      | (with_reducible refine LeO.bind ?_ (fun _ => ?_))
      | exact ih0 _ _ _ _ _ _
      | exact spec_TokenOk.mono _ _
      | exact spec_ValueOk.mono _ _
      | exact spec_l3Path.mono _ _
      | exact LeO.none _
      | refine LeO.ite ?_ ?_
      | refine LeO.bind ?_ (fun _ => ?_)
theorem spec_BanOk.mono : ∀ a0 a1 a2 a3 k, LeO (spec_BanOk.f k a0 a1 a2 a3) (spec_BanOk.f (k + 1) a0 a1 a2 a3) := by
  intro a0 a1 a2 a3 k
  have ih0 := spec_BanOk.mono_l k
  unfold spec_BanOk.f
  repeat' first
      | (with_reducible exact ih0 _ _ _ _ _ _)
      | (with_reducible exact spec_TokenOk.mono _ _)
      | (with_reducible exact spec_ValueOk.mono _ _)
      | (with_reducible exact spec_l3Path.mono _ _)
      | (with_reducible exact LeO.refl _)
      | (with_reducible exact LeO.none _)
      | (with_reducible refine LeO.ite ?_ ?_)
      | (with_reducible refine LeO.bind ?_ (fun _ => ?_))
      | exact ih0 _ _ _ _ _ _
      | exact spec_TokenOk.mono _ _
      | exact spec_ValueOk.mono _ _
      | exact spec_l3Path.mono _ _
      | exact LeO.none _
      | refine LeO.ite ?_ ?_
      | refine LeO.bind ?_ (fun _ => ?_)
set_option maxHeartbeats 8000000 in
set_option maxRecDepth 100000 in
theorem spec_BanOk.calls (k : Nat) (a0_0 : Int) (a0_1 : ByteArray) (a0_2 : ByteArray) (a0_3 : Int) (r : Bool) (w : World) (h : spec_BanOk.f k a0_0 a0_1 a0_2 a0_3 = some r) :
    Calls Tryd.prog 116 #[.agg #[.int .i64 a0_0, .string a0_1, .string a0_2, .int .i64 a0_3]] w fun e w' => e = .returned (.bool r) ∧ Below w.heap.size w w' := by
  have hu91 := Tryd.underlying91
  have HB := Aside0.mk (Below.refl w.heap.size w)
  have H : ((spec_l1In.f a0_3 0 1000000).bind fun t960 => (if t960 = true then (if a0_0 = 1 then (spec_BanOk.j0 k a0_0 (a0_0 == 1) a0_0 a0_1 a0_2 a0_3) else (spec_BanOk.j0 k a0_0 (a0_0 == 2) a0_0 a0_1 a0_2 a0_3)) else (some false))) = some r := h
  clear h
  replace H := Option.bind_eq_some_iff.mp H
  obtain ⟨t960, A20, H⟩ := H
  replace H : (if t960 = true then (if a0_0 = 1 then (spec_BanOk.j0 k a0_0 (a0_0 == 1) a0_0 a0_1 a0_2 a0_3) else (spec_BanOk.j0 k a0_0 (a0_0 == 2) a0_0 a0_1 a0_2 a0_3)) else (some false)) = some r := H
  have A2 := Aside0.mk A20
  clear A20
  by_cases c3 : t960 = true
  · subst c3
    have H1 : (if a0_0 = 1 then (spec_BanOk.j0 k a0_0 (a0_0 == 1) a0_0 a0_1 a0_2 a0_3) else (spec_BanOk.j0 k a0_0 (a0_0 == 2) a0_0 a0_1 a0_2 a0_3)) = some r := by rw [if_pos rfl] at H; exact H
    clear H
    have H := H1
    clear H1
    have HC4 := Aside0.mk H
    clear H
    go_enter Tryd.func116, Tryd.ntmps116
    go_upto_if 9 with (first | ((with_reducible refine gate_dst (N := 1) rfl ?_); refine box_event ?hg (N := 1) ?hd (cs := #[.int .i64 a0_0, .string a0_1, .string a0_2, .int .i64 a0_3]) (t := 91) ?hr ?_; (case hd => rfl); (case hg => rfl); (case hr => first | (go_simp; done) | (go_simp; rfl)); intro gb959 hg w5 hbox hb; have n0_ := Aside0.mk (below_step bl hb); have n1_ := Aside0.mk (hbox); have n2_ := Aside0.mk ((by rw [hg]; exact (below_size bl) : w.heap.size ≤ gb959)); have n3_ := Aside0.mk ((by rw [hg]; exact (below_size bl) : w.heap.size ≤ gb959)); clear HB; have HB := n0_; have BK959 := n1_; have GW959 := n2_; have GE959 := n3_; clear n0_ n1_ n2_ n3_; clear hb hbox hg; have hcz6_0 : w5.cell? ⟨gb959, 0, none⟩ = some (.int .i64 a0_0) := (blk_cell BK959.out 0).trans rfl; have hcz6_1 : w5.cell? ⟨gb959, 1, none⟩ = some (.string a0_1) := (blk_cell BK959.out 1).trans rfl; have hcz6_2 : w5.cell? ⟨gb959, 2, none⟩ = some (.string a0_2) := (blk_cell BK959.out 2).trans rfl; have hcz6_3 : w5.cell? ⟨gb959, 3, none⟩ = some (.int .i64 a0_3) := (blk_cell BK959.out 3).trans rfl; have hfz6_0 := blk_frozen BK959.out 0; have hfz6_1 := blk_frozen BK959.out 1; have hfz6_2 := blk_frozen BK959.out 2; have hfz6_3 := blk_frozen BK959.out 3) | ((with_reducible refine gate_callee (f := 79) rfl ?_); refine goesL_ (some 5) rfl rfl Tryd.func79 (by kernel_rfl) rfl #[.int .i64 a0_3, .int .i64 0, .int .i64 1000000] rfl ma ?_; (with_reducible refine (spec_l1In.calls a0_3 0 1000000 true _ A2.out).mono ?_); rintro e w' ⟨rfl, ⟨nd, rfl⟩⟩; refine ⟨_, rfl, ?_⟩))
    (try simp only [Act.put, List.setIfInBounds_toArray, List.set_cons_zero, List.set_cons_succ])
    go_cut [9] (fun v9 wc => ∃ (kq : Nat) (x9_3 : Bool), v9 = .bool x9_3 ∧ Aside0 (spec_BanOk.j0 kq a0_0 x9_3 a0_0 a0_1 a0_2 a0_3 = some r) ∧ Aside0 (kq ≤ k) ∧ Aside0 (wc.heap[gb959]? = some (.cells #[.int .i64 a0_0, .string a0_1, .string a0_2, .int .i64 a0_3] 91 (0, 0))) ∧ Aside0 (Below w.heap.size w wc))
    case first =>
      have H := HC4.out
      clear HC4
      by_cases c7 : a0_0 = 1
      · rw [if_pos c7] at H
        have c7b0 : (a0_0 == 1) = true := beq_iff_eq.mpr c7
        have c7b1 : (a0_0 != 1) = false := bne_eq_false_iff_eq.mpr c7
        clear c7
        (first | rw [c7b0] | (simp only [i64_w, i32_w]; rw [c7b0]) | skip)
        have H' := Aside0.mk H
        clear H
        go_wp2
        go_meet
        case rel => exact ⟨_, ((a0_0 == 1)), (by first | rfl | (simp; done) | (simp [*]; done)), H', ⟨by first | omega | exact Nat.le_refl _⟩, ⟨by (with_reducible repeat (first | refine blk_drewN ?_ _ | refine blk_drew ?_ | refine blk_alloc ?_ _)); exact BK959.out⟩, ⟨by repeat (first | (with_reducible first | exact HB.out | apply below_alloc | apply pw_below_drewN | apply below_drew1 | refine below_set ?_ GE959.out) | exact HB.out)⟩⟩
      · rw [if_neg c7] at H
        have c7b0 : (a0_0 == 1) = false := beq_eq_false_iff_ne.mpr c7
        have c7b1 : (a0_0 != 1) = true := bne_iff_ne.mpr c7
        (first | rw [c7b0] | (simp only [i64_w, i32_w]; rw [c7b0]) | skip)
        have H' := Aside0.mk H
        clear H
        go_wp2
        go_meet
        case rel => exact ⟨_, ((a0_0 == 2)), (by first | rfl | (simp; done) | (simp [*]; done)), H', ⟨by first | omega | exact Nat.le_refl _⟩, ⟨by (with_reducible repeat (first | refine blk_drewN ?_ _ | refine blk_drew ?_ | refine blk_alloc ?_ _)); exact BK959.out⟩, ⟨by repeat (first | (with_reducible first | exact HB.out | apply below_alloc | apply pw_below_drewN | apply below_drew1 | refine below_set ?_ GE959.out) | exact HB.out)⟩⟩
    case rest =>
      clear HC4
      try clear c1
      try clear p2
      try clear c3
      try clear c7
      try clear c7b0
      try clear c7b1
      try clear hcz6_0
      try clear hcz6_1
      try clear hcz6_2
      try clear hcz6_3
      try clear hfz6_0
      try clear hfz6_1
      try clear hfz6_2
      try clear hfz6_3
      obtain ⟨kq, x9_3, rfl, HA, HJ3, BK959, HB⟩ := hcut
      cases kq with
      | zero => exact absurd HA.out (by simp [spec_BanOk.j0])
      | succ kj3 =>
        have H := HA.out
        clear HA
        simp only [spec_BanOk.j0] at H
        by_cases c8 : x9_3 = true
        · subst c8
          have H1 : ((spec_l3Path.f kj3 a0_1).bind fun t961 => (if t961 = true then (some (a0_2.toList == ([] : List UInt8))) else (some false))) = some r := by rw [if_pos rfl] at H; exact H
          clear H
          have H := H1
          clear H1
          replace H := Option.bind_eq_some_iff.mp H
          obtain ⟨t961, A90, H⟩ := H
          replace H : (if t961 = true then (some (a0_2.toList == ([] : List UInt8))) else (some false)) = some r := H
          have A9 := Aside0.mk A90
          clear A90
          by_cases c10 : t961 = true
          · subst c10
            have H1 : (some (a0_2.toList == ([] : List UInt8))) = some r := by rw [if_pos rfl] at H; exact H
            clear H
            have H := H1
            clear H1
            obtain rfl := Option.some.inj H
            have hcz11_0 : wc.cell? ⟨gb959, 0, none⟩ = some (.int .i64 a0_0) := (blk_cell BK959.out 0).trans rfl
            have hcz11_1 : wc.cell? ⟨gb959, 1, none⟩ = some (.string a0_1) := (blk_cell BK959.out 1).trans rfl
            have hcz11_2 : wc.cell? ⟨gb959, 2, none⟩ = some (.string a0_2) := (blk_cell BK959.out 2).trans rfl
            have hcz11_3 : wc.cell? ⟨gb959, 3, none⟩ = some (.int .i64 a0_3) := (blk_cell BK959.out 3).trans rfl
            have hfz11_0 := blk_frozen BK959.out 0
            have hfz11_1 := blk_frozen BK959.out 1
            have hfz11_2 := blk_frozen BK959.out 2
            have hfz11_3 := blk_frozen BK959.out 3
            go_wp2_with (first | ((with_reducible refine gate_callee (f := 104) rfl ?_); refine goesL_ (some 14) rfl rfl Tryd.func104 (by kernel_rfl) rfl #[.string a0_1] rfl ma ?_; (with_reducible refine (spec_l3Path.calls kj3 a0_1 true _ A9.out).mono ?_); rintro e w' ⟨rfl, ⟨nd, rfl⟩⟩; refine ⟨_, rfl, ?_⟩))
            go_ret
            exact ⟨rf, bl⟩
          · replace c10 := Bool.eq_false_iff.mpr c10
            subst c10
            have H1 : (some false) = some r := by rw [if_neg (show ¬ (false = true) by decide)] at H; exact H
            clear H
            have H := H1
            clear H1
            obtain rfl := Option.some.inj H
            have hcz12_0 : wc.cell? ⟨gb959, 0, none⟩ = some (.int .i64 a0_0) := (blk_cell BK959.out 0).trans rfl
            have hcz12_1 : wc.cell? ⟨gb959, 1, none⟩ = some (.string a0_1) := (blk_cell BK959.out 1).trans rfl
            have hcz12_2 : wc.cell? ⟨gb959, 2, none⟩ = some (.string a0_2) := (blk_cell BK959.out 2).trans rfl
            have hcz12_3 : wc.cell? ⟨gb959, 3, none⟩ = some (.int .i64 a0_3) := (blk_cell BK959.out 3).trans rfl
            have hfz12_0 := blk_frozen BK959.out 0
            have hfz12_1 := blk_frozen BK959.out 1
            have hfz12_2 := blk_frozen BK959.out 2
            have hfz12_3 := blk_frozen BK959.out 3
            go_wp2_with (first | ((with_reducible refine gate_callee (f := 104) rfl ?_); refine goesL_ (some 14) rfl rfl Tryd.func104 (by kernel_rfl) rfl #[.string a0_1] rfl ma ?_; (with_reducible refine (spec_l3Path.calls kj3 a0_1 false _ A9.out).mono ?_); rintro e w' ⟨rfl, ⟨nd, rfl⟩⟩; refine ⟨_, rfl, ?_⟩))
            go_ret
            exact ⟨rf, bl⟩
        · replace c8 := Bool.eq_false_iff.mpr c8
          subst c8
          have H1 : (if a0_0 = 3 then ((spec_TokenOk.f kj3 a0_1).bind fun t962 => (if t962 = true then ((spec_ValueOk.f kj3 a0_2).bind fun t963 => (some t963)) else (some false))) else (some false)) = some r := by rw [if_neg (show ¬ (false = true) by decide)] at H; exact H
          clear H
          have H := H1
          clear H1
          by_cases c13 : a0_0 = 3
          · rw [if_pos c13] at H
            have c13b0 : (a0_0 == 3) = true := beq_iff_eq.mpr c13
            have c13b1 : (a0_0 != 3) = false := bne_eq_false_iff_eq.mpr c13
            clear c13
            replace H := Option.bind_eq_some_iff.mp H
            obtain ⟨t962, A140, H⟩ := H
            replace H : (if t962 = true then ((spec_ValueOk.f kj3 a0_2).bind fun t963 => (some t963)) else (some false)) = some r := H
            have A14 := Aside0.mk A140
            clear A140
            by_cases c15 : t962 = true
            · subst c15
              have H1 : ((spec_ValueOk.f kj3 a0_2).bind fun t963 => (some t963)) = some r := by rw [if_pos rfl] at H; exact H
              clear H
              have H := H1
              clear H1
              replace H := Option.bind_eq_some_iff.mp H
              obtain ⟨t963, A160, H⟩ := H
              replace H : (some t963) = some r := H
              have A16 := Aside0.mk A160
              clear A160
              obtain rfl := Option.some.inj H
              have hcz17_0 : wc.cell? ⟨gb959, 0, none⟩ = some (.int .i64 a0_0) := (blk_cell BK959.out 0).trans rfl
              have hcz17_1 : wc.cell? ⟨gb959, 1, none⟩ = some (.string a0_1) := (blk_cell BK959.out 1).trans rfl
              have hcz17_2 : wc.cell? ⟨gb959, 2, none⟩ = some (.string a0_2) := (blk_cell BK959.out 2).trans rfl
              have hcz17_3 : wc.cell? ⟨gb959, 3, none⟩ = some (.int .i64 a0_3) := (blk_cell BK959.out 3).trans rfl
              have hfz17_0 := blk_frozen BK959.out 0
              have hfz17_1 := blk_frozen BK959.out 1
              have hfz17_2 := blk_frozen BK959.out 2
              have hfz17_3 := blk_frozen BK959.out 3
              go_wp2_with (first | ((with_reducible refine gate_callee (f := 31) rfl ?_); refine goesL_ (some 24) rfl rfl Tryd.func31 (by kernel_rfl) rfl #[.string a0_1] rfl ma ?_; (with_reducible refine (spec_TokenOk.calls kj3 a0_1 true _ A14.out).mono ?_); rintro e w' ⟨rfl, ⟨nd, rfl⟩⟩; refine ⟨_, rfl, ?_⟩) | (go_at_call 33; (with_reducible refine (spec_ValueOk.calls kj3 a0_2 t963 _ A16.out).mono ?_); rintro e w' ⟨rfl, ⟨nd, rfl⟩⟩))
              go_ret
              exact ⟨rf, bl⟩
            · replace c15 := Bool.eq_false_iff.mpr c15
              subst c15
              have H1 : (some false) = some r := by rw [if_neg (show ¬ (false = true) by decide)] at H; exact H
              clear H
              have H := H1
              clear H1
              obtain rfl := Option.some.inj H
              have hcz18_0 : wc.cell? ⟨gb959, 0, none⟩ = some (.int .i64 a0_0) := (blk_cell BK959.out 0).trans rfl
              have hcz18_1 : wc.cell? ⟨gb959, 1, none⟩ = some (.string a0_1) := (blk_cell BK959.out 1).trans rfl
              have hcz18_2 : wc.cell? ⟨gb959, 2, none⟩ = some (.string a0_2) := (blk_cell BK959.out 2).trans rfl
              have hcz18_3 : wc.cell? ⟨gb959, 3, none⟩ = some (.int .i64 a0_3) := (blk_cell BK959.out 3).trans rfl
              have hfz18_0 := blk_frozen BK959.out 0
              have hfz18_1 := blk_frozen BK959.out 1
              have hfz18_2 := blk_frozen BK959.out 2
              have hfz18_3 := blk_frozen BK959.out 3
              go_wp2_with (first | ((with_reducible refine gate_callee (f := 31) rfl ?_); refine goesL_ (some 24) rfl rfl Tryd.func31 (by kernel_rfl) rfl #[.string a0_1] rfl ma ?_; (with_reducible refine (spec_TokenOk.calls kj3 a0_1 false _ A14.out).mono ?_); rintro e w' ⟨rfl, ⟨nd, rfl⟩⟩; refine ⟨_, rfl, ?_⟩))
              go_ret
              exact ⟨rf, bl⟩
          · rw [if_neg c13] at H
            have c13b0 : (a0_0 == 3) = false := beq_eq_false_iff_ne.mpr c13
            have c13b1 : (a0_0 != 3) = true := bne_iff_ne.mpr c13
            obtain rfl := Option.some.inj H
            go_wp2
            go_ret
            exact ⟨rf, bl⟩
  · replace c3 := Bool.eq_false_iff.mpr c3
    subst c3
    have H1 : (some false) = some r := by rw [if_neg (show ¬ (false = true) by decide)] at H; exact H
    clear H
    have H := H1
    clear H1
    obtain rfl := Option.some.inj H
    go_enter Tryd.func116, Tryd.ntmps116
    go_wp2_with (first | ((with_reducible refine gate_dst (N := 1) rfl ?_); refine box_event ?hg (N := 1) ?hd (cs := #[.int .i64 a0_0, .string a0_1, .string a0_2, .int .i64 a0_3]) (t := 91) ?hr ?_; (case hd => rfl); (case hg => rfl); (case hr => first | (go_simp; done) | (go_simp; rfl)); intro gb959 hg w19 hbox hb; have n0_ := Aside0.mk (below_step bl hb); have n1_ := Aside0.mk (hbox); have n2_ := Aside0.mk ((by rw [hg]; exact (below_size bl) : w.heap.size ≤ gb959)); have n3_ := Aside0.mk ((by rw [hg]; exact (below_size bl) : w.heap.size ≤ gb959)); clear HB; have HB := n0_; have BK959 := n1_; have GW959 := n2_; have GE959 := n3_; clear n0_ n1_ n2_ n3_; clear hb hbox hg; have hcz20_0 : w19.cell? ⟨gb959, 0, none⟩ = some (.int .i64 a0_0) := (blk_cell BK959.out 0).trans rfl; have hcz20_1 : w19.cell? ⟨gb959, 1, none⟩ = some (.string a0_1) := (blk_cell BK959.out 1).trans rfl; have hcz20_2 : w19.cell? ⟨gb959, 2, none⟩ = some (.string a0_2) := (blk_cell BK959.out 2).trans rfl; have hcz20_3 : w19.cell? ⟨gb959, 3, none⟩ = some (.int .i64 a0_3) := (blk_cell BK959.out 3).trans rfl; have hfz20_0 := blk_frozen BK959.out 0; have hfz20_1 := blk_frozen BK959.out 1; have hfz20_2 := blk_frozen BK959.out 2; have hfz20_3 := blk_frozen BK959.out 3) | ((with_reducible refine gate_callee (f := 79) rfl ?_); refine goesL_ (some 5) rfl rfl Tryd.func79 (by kernel_rfl) rfl #[.int .i64 a0_3, .int .i64 0, .int .i64 1000000] rfl ma ?_; (with_reducible refine (spec_l1In.calls a0_3 0 1000000 false _ A2.out).mono ?_); rintro e w' ⟨rfl, ⟨nd, rfl⟩⟩; refine ⟨_, rfl, ?_⟩))
    go_ret
    exact ⟨rf, bl⟩

end Go.Proofs.YtogdmlgbdbgpkaaDoor.All
