-- Written by a program of this session (wip/tools/hprint.py) out of the translation. Lean checks it.
import Derived.Test.YtogdmlgbdbgpkaaDoorAllx0
import Derived.Test.YtogdmlgbdbgpkaaDoorAllx1
import Derived.Test.YtogdmlgbdbgpkaaDoorAllx6
import Derived.Test.YtogdmlgbdbgpkaaDoorAllx11
import Derived.Test.YtogdmlgbdbgpkaaDoorAllx18
import Derived.Test.YtogdmlgbdbgpkaaDoorAllx38
import Derived.Test.YtogdmlgbdbgpkaaDoorAllx39
namespace Go.Proofs.YtogdmlgbdbgpkaaDoor.All
open Go.RowKit Go.Proofs.YtogdmlgbdbgpkaaDoorW.PrintWords Go.Proofs.YtogdmlgbdbgpkaaDoorW.PrintLast Go.Proofs.YtogdmlgbdbgpkaaDoorW.PrintMore
attribute [local go_sem] max2_int min2_int max_two min_two max_three min_three max_four min_four   -- for this text's walks alone
set_option linter.unusedVariables false
set_option linter.unusedSimpArgs false

/-! ### laws_toBan: function 77 -/
def laws_toBan.f (a0_0 : Int) (a0_1 : ByteArray) (a0_2 : ByteArray) (a0_3 : Int) : Option (Int × ByteArray × ByteArray × Int) := some (a0_0, a0_1, a0_2, a0_3)
set_option maxHeartbeats 8000000 in
set_option maxRecDepth 100000 in
theorem laws_toBan.calls (a0_0 : Int) (a0_1 : ByteArray) (a0_2 : ByteArray) (a0_3 : Int) (r1 : Int) (r2 : ByteArray) (r3 : ByteArray) (r4 : Int) (w : World) (h : laws_toBan.f a0_0 a0_1 a0_2 a0_3 = some (r1, r2, r3, r4)) :
    Calls Tryd.prog 77 #[.agg #[.int .i64 a0_0, .string a0_1, .string a0_2, .int .i64 a0_3]] w fun e w' => e = .returned (.agg #[.int .i64 r1, .string r2, .string r3, .int .i64 r4]) ∧ Below w.heap.size w w' := by
  have hu88 := Tryd.underlying88
  have hu91 := Tryd.underlying91
  have HB := Aside0.mk (Below.refl w.heap.size w)
  have H : (some (a0_0, a0_1, a0_2, a0_3)) = some (r1, r2, r3, r4) := h
  clear h
  simp only [Option.some.injEq, Prod.mk.injEq] at H
  obtain ⟨rfl, rfl, rfl, rfl⟩ := H
  go_enter Tryd.func77, Tryd.ntmps77
  go_wp2_with (first | ((with_reducible refine gate_dst (N := 1) rfl ?_); refine box_event ?hg (N := 1) ?hd (cs := #[.int .i64 a0_0, .string a0_1, .string a0_2, .int .i64 a0_3]) (t := 88) ?hr ?_; (case hd => rfl); (case hg => rfl); (case hr => first | (go_simp; done) | (go_simp; rfl)); intro gb971 hg w2 hbox hb; have n0_ := Aside0.mk (below_step bl hb); have n1_ := Aside0.mk (hbox); have n2_ := Aside0.mk ((by rw [hg]; exact (below_size bl) : w.heap.size ≤ gb971)); have n3_ := Aside0.mk ((by rw [hg]; exact (below_size bl) : w.heap.size ≤ gb971)); clear HB; have HB := n0_; have BK971 := n1_; have GW971 := n2_; have GE971 := n3_; clear n0_ n1_ n2_ n3_; clear hb hbox hg) | ((with_reducible refine gate_dst (N := 2) rfl ?_); refine box_event ?hg (N := 2) ?hd (cs := #[.int .i64 0, .string (⟨#[]⟩ : ByteArray), .string (⟨#[]⟩ : ByteArray), .int .i64 0]) (t := 91) ?hr ?_; (case hd => rfl); (case hg => rfl); (case hr => first | (go_simp; done) | (go_simp; rfl)); intro gb972 hg w3 hbox hb; have n0_ := Aside0.mk (blk_below (g := gb971) (o := .cells #[.int .i64 a0_0, .string a0_1, .string a0_2, .int .i64 a0_3] 88 (0, 0)) (bk BK971) hb); have n1_ := Aside0.mk (below_step bl hb); have n2_ := Aside0.mk (hbox); have n3_ := Aside0.mk ((by rw [hg]; exact (below_size bl) : w.heap.size ≤ gb972)); have n4_ := Aside0.mk ((by rw [hg]; exact (below_size bl) : w.heap.size ≤ gb972)); have n5_ := Aside0.mk ((by rw [hg]; exact Nat.ne_of_lt (blk_lt (g := gb971) (o := .cells #[.int .i64 a0_0, .string a0_1, .string a0_2, .int .i64 a0_3] 88 (0, 0)) (bk BK971)) : gb971 ≠ gb972)); have n6_ := Aside0.mk ((by rw [hg]; exact Nat.ne_of_gt (blk_lt (g := gb971) (o := .cells #[.int .i64 a0_0, .string a0_1, .string a0_2, .int .i64 a0_3] 88 (0, 0)) (bk BK971)) : gb972 ≠ gb971)); clear BK971; clear HB; have BK971 := n0_; have HB := n1_; have BK972 := n2_; have GW972 := n3_; have GE972 := n4_; have NB971_972 := n5_; have NB972_971 := n6_; clear n0_ n1_ n2_ n3_ n4_ n5_ n6_; clear hb hbox hg) | ((with_reducible refine gate_dst (N := 3) rfl ?_); refine box_event ?hg (N := 3) ?hd (cs := #[.int .i64 0, .string (⟨#[]⟩ : ByteArray), .string (⟨#[]⟩ : ByteArray), .int .i64 0]) (t := 91) ?hr ?_; (case hd => rfl); (case hg => rfl); (case hr => first | (go_simp; done) | (go_simp; rfl)); intro gb973 hg w4 hbox hb; have n0_ := Aside0.mk (blk_below (g := gb971) (o := .cells #[.int .i64 a0_0, .string a0_1, .string a0_2, .int .i64 a0_3] 88 (0, 0)) (bk BK971) hb); have n1_ := Aside0.mk (blk_below (g := gb972) (o := .cells #[.int .i64 0, .string (⟨#[]⟩ : ByteArray), .string (⟨#[]⟩ : ByteArray), .int .i64 0] 91 (0, 0)) (bk BK972) hb); have n2_ := Aside0.mk (below_step bl hb); have n3_ := Aside0.mk (hbox); have n4_ := Aside0.mk ((by rw [hg]; exact (below_size bl) : w.heap.size ≤ gb973)); have n5_ := Aside0.mk ((by rw [hg]; exact (below_size bl) : w.heap.size ≤ gb973)); have n6_ := Aside0.mk ((by rw [hg]; exact Nat.ne_of_lt (blk_lt (g := gb971) (o := .cells #[.int .i64 a0_0, .string a0_1, .string a0_2, .int .i64 a0_3] 88 (0, 0)) (bk BK971)) : gb971 ≠ gb973)); have n7_ := Aside0.mk ((by rw [hg]; exact Nat.ne_of_gt (blk_lt (g := gb971) (o := .cells #[.int .i64 a0_0, .string a0_1, .string a0_2, .int .i64 a0_3] 88 (0, 0)) (bk BK971)) : gb973 ≠ gb971)); have n8_ := Aside0.mk ((by rw [hg]; exact Nat.ne_of_lt (blk_lt (g := gb972) (o := .cells #[.int .i64 0, .string (⟨#[]⟩ : ByteArray), .string (⟨#[]⟩ : ByteArray), .int .i64 0] 91 (0, 0)) (bk BK972)) : gb972 ≠ gb973)); have n9_ := Aside0.mk ((by rw [hg]; exact Nat.ne_of_gt (blk_lt (g := gb972) (o := .cells #[.int .i64 0, .string (⟨#[]⟩ : ByteArray), .string (⟨#[]⟩ : ByteArray), .int .i64 0] 91 (0, 0)) (bk BK972)) : gb973 ≠ gb972)); clear BK971; clear BK972; clear HB; have BK971 := n0_; have BK972 := n1_; have HB := n2_; have BK973 := n3_; have GW973 := n4_; have GE973 := n5_; have NB971_973 := n6_; have NB973_971 := n7_; have NB972_973 := n8_; have NB973_972 := n9_; clear n0_ n1_ n2_ n3_ n4_ n5_ n6_ n7_ n8_ n9_; clear hb hbox hg; have hnb5 := NB971_972.out; have hnc5 := NB972_971.out; have hnb6 := NB971_973.out; have hnc6 := NB973_971.out; have hcz7_0 : w4.cell? ⟨gb971, 0, none⟩ = some (.int .i64 a0_0) := (blk_cell BK971.out 0).trans rfl; have hcz7_1 : w4.cell? ⟨gb971, 1, none⟩ = some (.string a0_1) := (blk_cell BK971.out 1).trans rfl; have hcz7_2 : w4.cell? ⟨gb971, 2, none⟩ = some (.string a0_2) := (blk_cell BK971.out 2).trans rfl; have hcz7_3 : w4.cell? ⟨gb971, 3, none⟩ = some (.int .i64 a0_3) := (blk_cell BK971.out 3).trans rfl; have hfz7_0 := blk_frozen BK971.out 0; have hfz7_1 := blk_frozen BK971.out 1; have hfz7_2 := blk_frozen BK971.out 2; have hfz7_3 := blk_frozen BK971.out 3; have hnb8 := NB973_972.out; have hnc8 := NB972_973.out; have hcz9_0 : w4.cell? ⟨gb973, 0, none⟩ = some (.int .i64 0) := (blk_cell BK973.out 0).trans rfl; have hcz9_1 : w4.cell? ⟨gb973, 1, none⟩ = some (.string (⟨#[]⟩ : ByteArray)) := (blk_cell BK973.out 1).trans rfl; have hcz9_2 : w4.cell? ⟨gb973, 2, none⟩ = some (.string (⟨#[]⟩ : ByteArray)) := (blk_cell BK973.out 2).trans rfl; have hcz9_3 : w4.cell? ⟨gb973, 3, none⟩ = some (.int .i64 0) := (blk_cell BK973.out 3).trans rfl; have hfz9_0 := blk_frozen BK973.out 0; have hfz9_1 := blk_frozen BK973.out 1; have hfz9_2 := blk_frozen BK973.out 2; have hfz9_3 := blk_frozen BK973.out 3; have hcz10_0 : w4.cell? ⟨gb972, 0, none⟩ = some (.int .i64 0) := (blk_cell BK972.out 0).trans rfl; have hcz10_1 : w4.cell? ⟨gb972, 1, none⟩ = some (.string (⟨#[]⟩ : ByteArray)) := (blk_cell BK972.out 1).trans rfl; have hcz10_2 : w4.cell? ⟨gb972, 2, none⟩ = some (.string (⟨#[]⟩ : ByteArray)) := (blk_cell BK972.out 2).trans rfl; have hcz10_3 : w4.cell? ⟨gb972, 3, none⟩ = some (.int .i64 0) := (blk_cell BK972.out 3).trans rfl; have hfz10_0 := blk_frozen BK972.out 0; have hfz10_1 := blk_frozen BK972.out 1; have hfz10_2 := blk_frozen BK972.out 2; have hfz10_3 := blk_frozen BK972.out 3))
  refine bodyPost_ret (results_cell_row rfl _ _ gb972 91 #[.int .i64 a0_0, .string a0_1, .string a0_2, .int .i64 a0_3] (0, 0) _ rfl (by (with_reducible repeat (first | refine blk_drewN ?_ _ | refine blk_drew ?_ | refine blk_alloc ?_ _)); refine blk_put (cs := #[.int .i64 a0_0, .string a0_1, .string a0_2, .int .i64 0]) ?_ 3 _ rfl; (with_reducible repeat (first | refine blk_drewN ?_ _ | refine blk_drew ?_ | refine blk_alloc ?_ _)); refine blk_put (cs := #[.int .i64 a0_0, .string a0_1, .string (⟨#[]⟩ : ByteArray), .int .i64 0]) ?_ 2 _ rfl; (with_reducible repeat (first | refine blk_drewN ?_ _ | refine blk_drew ?_ | refine blk_alloc ?_ _)); refine blk_put (cs := #[.int .i64 a0_0, .string (⟨#[]⟩ : ByteArray), .string (⟨#[]⟩ : ByteArray), .int .i64 0]) ?_ 1 _ rfl; (with_reducible repeat (first | refine blk_drewN ?_ _ | refine blk_drew ?_ | refine blk_alloc ?_ _)); refine blk_put (cs := #[.int .i64 0, .string (⟨#[]⟩ : ByteArray), .string (⟨#[]⟩ : ByteArray), .int .i64 0]) ?_ 0 _ rfl; (with_reducible repeat (first | refine blk_drewN ?_ _ | refine blk_drew ?_ | refine blk_alloc ?_ _)); refine blk_far ?_ NB972_973.out _; (with_reducible repeat (first | refine blk_drewN ?_ _ | refine blk_drew ?_ | refine blk_alloc ?_ _)); refine blk_far ?_ NB972_973.out _; (with_reducible repeat (first | refine blk_drewN ?_ _ | refine blk_drew ?_ | refine blk_alloc ?_ _)); refine blk_far ?_ NB972_973.out _; (with_reducible repeat (first | refine blk_drewN ?_ _ | refine blk_drew ?_ | refine blk_alloc ?_ _)); refine blk_far ?_ NB972_973.out _; (with_reducible repeat (first | refine blk_drewN ?_ _ | refine blk_drew ?_ | refine blk_alloc ?_ _)); exact BK972.out) Tryd.underlying91 rfl (by kernel_rfl)) rfl ?_
  exact ⟨rf, bl⟩

/-! ### impl_isTime: function 137 -/
def impl_isTime.f (a0 : Int) : Option (Bool) := (impl_inRange.f a0 0 1000000).bind fun t974 => (some t974)
set_option maxHeartbeats 8000000 in
set_option maxRecDepth 100000 in
theorem impl_isTime.calls (a0 : Int) (r : Bool) (w : World) (h : impl_isTime.f a0 = some r) :
    Calls Tryd.prog 137 #[.int .i64 a0] w fun e w' => e = .returned (.bool r) ∧ Drawn0 w w' := by
  have H : ((impl_inRange.f a0 0 1000000).bind fun t974 => (some t974)) = some r := h
  clear h
  replace H := Option.bind_eq_some_iff.mp H
  obtain ⟨t974, A20, H⟩ := H
  replace H : (some t974) = some r := H
  have A2 := Aside0.mk A20
  clear A20
  obtain rfl := Option.some.inj H
  go_enter Tryd.func137, Tryd.ntmps137
  go_wp2_with (first | ((with_reducible refine gate_callee (f := 81) rfl ?_); refine goesL_ (some 4) rfl rfl Tryd.func81 (by kernel_rfl) rfl #[.int .i64 a0, .int .i64 0, .int .i64 1000000] rfl ma ?_; (with_reducible refine (impl_inRange.calls a0 0 1000000 t974 _ A2.out).mono ?_); rintro e w' ⟨rfl, ⟨nd, rfl⟩⟩; refine ⟨_, rfl, ?_⟩))
  go_ret
  exact ⟨by first | rfl | (simp; done) | (simp [*]; done), by repeat (first | exact Drawn0.refl _ | apply Drawn0.step)⟩

/-! ### impl_BanOk: function 117 -/
def impl_BanOk.j0 : Nat → Int → Bool → Int → ByteArray → ByteArray → Int → Option (Bool)
  | 0, _, _, _, _, _, _ => none
  | k + 1, x8, x9, x976000, x976001, x976002, x976003 => if x9 = true then ((impl_pathOk.f k x976001).bind fun t977 => (if t977 = true then (some (x976002.toList == ([] : List UInt8))) else (some false))) else (if x8 = 3 then ((impl_TokenOk.f k x976001).bind fun t978 => (if t978 = true then ((impl_ValueOk.f k x976002).bind fun t979 => (some t979)) else (some false))) else (some false))
def impl_BanOk.f (k : Nat) (a0_0 : Int) (a0_1 : ByteArray) (a0_2 : ByteArray) (a0_3 : Int) : Option (Bool) := (impl_isTime.f a0_3).bind fun t976 => (if t976 = true then (if a0_0 = 1 then (impl_BanOk.j0 k a0_0 (a0_0 == 1) a0_0 a0_1 a0_2 a0_3) else (impl_BanOk.j0 k a0_0 (a0_0 == 2) a0_0 a0_1 a0_2 a0_3)) else (some false))
theorem impl_BanOk.mono_l : ∀ k, (∀ y0 y1 y2 y3 y4 y5, LeO (impl_BanOk.j0 k y0 y1 y2 y3 y4 y5) (impl_BanOk.j0 (k + 1) y0 y1 y2 y3 y4 y5))
  | 0 => fun _ _ _ _ _ _ r h => by simp [impl_BanOk.j0] at h
  | k + 1 => by
    have ih0 := impl_BanOk.mono_l k
    · intro y0 y1 y2 y3 y4 y5
      unfold impl_BanOk.j0
      repeat' first
      | (with_reducible exact ih0 _ _ _ _ _ _)
      | (with_reducible exact impl_TokenOk.mono _ _)
      | (with_reducible exact impl_ValueOk.mono _ _)
      | (with_reducible exact impl_pathOk.mono _ _)
      | (with_reducible exact LeO.refl _)
      | (with_reducible exact LeO.none _)
      | (with_reducible refine LeO.ite ?_ ?_)
      | (with_reducible refine LeO.bind ?_ (fun _ => ?_))
      | exact ih0 _ _ _ _ _ _
      | exact impl_TokenOk.mono _ _
      | exact impl_ValueOk.mono _ _
      | exact impl_pathOk.mono _ _
      | exact LeO.none _
      | refine LeO.ite ?_ ?_
      | refine LeO.bind ?_ (fun _ => ?_)
theorem impl_BanOk.mono : ∀ a0 a1 a2 a3 k, LeO (impl_BanOk.f k a0 a1 a2 a3) (impl_BanOk.f (k + 1) a0 a1 a2 a3) := by
  intro a0 a1 a2 a3 k
  have ih0 := impl_BanOk.mono_l k
  unfold impl_BanOk.f
  repeat' first
      | (with_reducible exact ih0 _ _ _ _ _ _)
      | (with_reducible exact impl_TokenOk.mono _ _)
      | (with_reducible exact impl_ValueOk.mono _ _)
      | (with_reducible exact impl_pathOk.mono _ _)
      | (with_reducible exact LeO.refl _)
      | (with_reducible exact LeO.none _)
      | (with_reducible refine LeO.ite ?_ ?_)
      | (with_reducible refine LeO.bind ?_ (fun _ => ?_))
      | exact ih0 _ _ _ _ _ _
      | exact impl_TokenOk.mono _ _
      | exact impl_ValueOk.mono _ _
      | exact impl_pathOk.mono _ _
      | exact LeO.none _
      | refine LeO.ite ?_ ?_
      | refine LeO.bind ?_ (fun _ => ?_)
set_option maxHeartbeats 8000000 in
set_option maxRecDepth 100000 in
theorem impl_BanOk.calls (k : Nat) (a0_0 : Int) (a0_1 : ByteArray) (a0_2 : ByteArray) (a0_3 : Int) (r : Bool) (w : World) (h : impl_BanOk.f k a0_0 a0_1 a0_2 a0_3 = some r) :
    Calls Tryd.prog 117 #[.agg #[.int .i64 a0_0, .string a0_1, .string a0_2, .int .i64 a0_3]] w fun e w' => e = .returned (.bool r) ∧ Below w.heap.size w w' := by
  have hu91 := Tryd.underlying91
  have HB := Aside0.mk (Below.refl w.heap.size w)
  have H : ((impl_isTime.f a0_3).bind fun t976 => (if t976 = true then (if a0_0 = 1 then (impl_BanOk.j0 k a0_0 (a0_0 == 1) a0_0 a0_1 a0_2 a0_3) else (impl_BanOk.j0 k a0_0 (a0_0 == 2) a0_0 a0_1 a0_2 a0_3)) else (some false))) = some r := h
  clear h
  replace H := Option.bind_eq_some_iff.mp H
  obtain ⟨t976, A20, H⟩ := H
  replace H : (if t976 = true then (if a0_0 = 1 then (impl_BanOk.j0 k a0_0 (a0_0 == 1) a0_0 a0_1 a0_2 a0_3) else (impl_BanOk.j0 k a0_0 (a0_0 == 2) a0_0 a0_1 a0_2 a0_3)) else (some false)) = some r := H
  have A2 := Aside0.mk A20
  clear A20
  by_cases c3 : t976 = true
  · subst c3
    have H1 : (if a0_0 = 1 then (impl_BanOk.j0 k a0_0 (a0_0 == 1) a0_0 a0_1 a0_2 a0_3) else (impl_BanOk.j0 k a0_0 (a0_0 == 2) a0_0 a0_1 a0_2 a0_3)) = some r := by rw [if_pos rfl] at H; exact H
    clear H
    have H := H1
    clear H1
    have HC4 := Aside0.mk H
    clear H
    go_enter Tryd.func117, Tryd.ntmps117
    go_upto_if 9 with (first | ((with_reducible refine gate_dst (N := 1) rfl ?_); refine box_event ?hg (N := 1) ?hd (cs := #[.int .i64 a0_0, .string a0_1, .string a0_2, .int .i64 a0_3]) (t := 91) ?hr ?_; (case hd => rfl); (case hg => rfl); (case hr => first | (go_simp; done) | (go_simp; rfl)); intro gb975 hg w5 hbox hb; have n0_ := Aside0.mk (below_step bl hb); have n1_ := Aside0.mk (hbox); have n2_ := Aside0.mk ((by rw [hg]; exact (below_size bl) : w.heap.size ≤ gb975)); have n3_ := Aside0.mk ((by rw [hg]; exact (below_size bl) : w.heap.size ≤ gb975)); clear HB; have HB := n0_; have BK975 := n1_; have GW975 := n2_; have GE975 := n3_; clear n0_ n1_ n2_ n3_; clear hb hbox hg; have hcz6_0 : w5.cell? ⟨gb975, 0, none⟩ = some (.int .i64 a0_0) := (blk_cell BK975.out 0).trans rfl; have hcz6_1 : w5.cell? ⟨gb975, 1, none⟩ = some (.string a0_1) := (blk_cell BK975.out 1).trans rfl; have hcz6_2 : w5.cell? ⟨gb975, 2, none⟩ = some (.string a0_2) := (blk_cell BK975.out 2).trans rfl; have hcz6_3 : w5.cell? ⟨gb975, 3, none⟩ = some (.int .i64 a0_3) := (blk_cell BK975.out 3).trans rfl; have hfz6_0 := blk_frozen BK975.out 0; have hfz6_1 := blk_frozen BK975.out 1; have hfz6_2 := blk_frozen BK975.out 2; have hfz6_3 := blk_frozen BK975.out 3) | ((with_reducible refine gate_callee (f := 137) rfl ?_); refine goesL_ (some 5) rfl rfl Tryd.func137 (by kernel_rfl) rfl #[.int .i64 a0_3] rfl ma ?_; (with_reducible refine (impl_isTime.calls a0_3 true _ A2.out).mono ?_); rintro e w' ⟨rfl, ⟨nd, rfl⟩⟩; refine ⟨_, rfl, ?_⟩))
    (try simp only [Act.put, List.setIfInBounds_toArray, List.set_cons_zero, List.set_cons_succ])
    go_cut [9] (fun v9 wc => ∃ (kq : Nat) (x9_3 : Bool), v9 = .bool x9_3 ∧ Aside0 (impl_BanOk.j0 kq a0_0 x9_3 a0_0 a0_1 a0_2 a0_3 = some r) ∧ Aside0 (kq ≤ k) ∧ Aside0 (wc.heap[gb975]? = some (.cells #[.int .i64 a0_0, .string a0_1, .string a0_2, .int .i64 a0_3] 91 (0, 0))) ∧ Aside0 (Below w.heap.size w wc))
    case first =>
      have H := HC4.out
      clear HC4
      by_cases c7 : a0_0 = 1
      · rw [if_pos c7] at H
        have c7b0 : (a0_0 == 1) = true := beq_iff_eq.mpr c7
        have c7b1 : (a0_0 != 1) = false := bne_eq_false_iff_eq.mpr c7
        clear c7
        (first | rw [c7b0] | (simp only [i64_w, i32_w]; rw [c7b0]) | skip)
        have H' := Aside0.mk H
        clear H
        go_wp2
        go_meet
        case rel => exact ⟨_, ((a0_0 == 1)), (by first | rfl | (simp; done) | (simp [*]; done)), H', ⟨by first | omega | exact Nat.le_refl _⟩, ⟨by (with_reducible repeat (first | refine blk_drewN ?_ _ | refine blk_drew ?_ | refine blk_alloc ?_ _)); exact BK975.out⟩, ⟨by repeat (first | (with_reducible first | exact HB.out | apply below_alloc | apply pw_below_drewN | apply below_drew1 | refine below_set ?_ GE975.out) | exact HB.out)⟩⟩
      · rw [if_neg c7] at H
        have c7b0 : (a0_0 == 1) = false := beq_eq_false_iff_ne.mpr c7
        have c7b1 : (a0_0 != 1) = true := bne_iff_ne.mpr c7
        (first | rw [c7b0] | (simp only [i64_w, i32_w]; rw [c7b0]) | skip)
        have H' := Aside0.mk H
        clear H
        go_wp2
        go_meet
        case rel => exact ⟨_, ((a0_0 == 2)), (by first | rfl | (simp; done) | (simp [*]; done)), H', ⟨by first | omega | exact Nat.le_refl _⟩, ⟨by (with_reducible repeat (first | refine blk_drewN ?_ _ | refine blk_drew ?_ | refine blk_alloc ?_ _)); exact BK975.out⟩, ⟨by repeat (first | (with_reducible first | exact HB.out | apply below_alloc | apply pw_below_drewN | apply below_drew1 | refine below_set ?_ GE975.out) | exact HB.out)⟩⟩
    case rest =>
      clear HC4
      try clear c1
      try clear p2
      try clear c3
      try clear c7
      try clear c7b0
      try clear c7b1
      try clear hcz6_0
      try clear hcz6_1
      try clear hcz6_2
      try clear hcz6_3
      try clear hfz6_0
      try clear hfz6_1
      try clear hfz6_2
      try clear hfz6_3
      obtain ⟨kq, x9_3, rfl, HA, HJ3, BK975, HB⟩ := hcut
      cases kq with
      | zero => exact absurd HA.out (by simp [impl_BanOk.j0])
      | succ kj3 =>
        have H := HA.out
        clear HA
        simp only [impl_BanOk.j0] at H
        by_cases c8 : x9_3 = true
        · subst c8
          have H1 : ((impl_pathOk.f kj3 a0_1).bind fun t977 => (if t977 = true then (some (a0_2.toList == ([] : List UInt8))) else (some false))) = some r := by rw [if_pos rfl] at H; exact H
          clear H
          have H := H1
          clear H1
          replace H := Option.bind_eq_some_iff.mp H
          obtain ⟨t977, A90, H⟩ := H
          replace H : (if t977 = true then (some (a0_2.toList == ([] : List UInt8))) else (some false)) = some r := H
          have A9 := Aside0.mk A90
          clear A90
          by_cases c10 : t977 = true
          · subst c10
            have H1 : (some (a0_2.toList == ([] : List UInt8))) = some r := by rw [if_pos rfl] at H; exact H
            clear H
            have H := H1
            clear H1
            obtain rfl := Option.some.inj H
            have hcz11_0 : wc.cell? ⟨gb975, 0, none⟩ = some (.int .i64 a0_0) := (blk_cell BK975.out 0).trans rfl
            have hcz11_1 : wc.cell? ⟨gb975, 1, none⟩ = some (.string a0_1) := (blk_cell BK975.out 1).trans rfl
            have hcz11_2 : wc.cell? ⟨gb975, 2, none⟩ = some (.string a0_2) := (blk_cell BK975.out 2).trans rfl
            have hcz11_3 : wc.cell? ⟨gb975, 3, none⟩ = some (.int .i64 a0_3) := (blk_cell BK975.out 3).trans rfl
            have hfz11_0 := blk_frozen BK975.out 0
            have hfz11_1 := blk_frozen BK975.out 1
            have hfz11_2 := blk_frozen BK975.out 2
            have hfz11_3 := blk_frozen BK975.out 3
            go_wp2_with (first | ((with_reducible refine gate_callee (f := 105) rfl ?_); refine goesL_ (some 14) rfl rfl Tryd.func105 (by kernel_rfl) rfl #[.string a0_1] rfl ma ?_; (with_reducible refine (impl_pathOk.calls kj3 a0_1 true _ A9.out).mono ?_); rintro e w' ⟨rfl, ⟨nd, rfl⟩⟩; refine ⟨_, rfl, ?_⟩))
            go_ret
            exact ⟨rf, bl⟩
          · replace c10 := Bool.eq_false_iff.mpr c10
            subst c10
            have H1 : (some false) = some r := by rw [if_neg (show ¬ (false = true) by decide)] at H; exact H
            clear H
            have H := H1
            clear H1
            obtain rfl := Option.some.inj H
            have hcz12_0 : wc.cell? ⟨gb975, 0, none⟩ = some (.int .i64 a0_0) := (blk_cell BK975.out 0).trans rfl
            have hcz12_1 : wc.cell? ⟨gb975, 1, none⟩ = some (.string a0_1) := (blk_cell BK975.out 1).trans rfl
            have hcz12_2 : wc.cell? ⟨gb975, 2, none⟩ = some (.string a0_2) := (blk_cell BK975.out 2).trans rfl
            have hcz12_3 : wc.cell? ⟨gb975, 3, none⟩ = some (.int .i64 a0_3) := (blk_cell BK975.out 3).trans rfl
            have hfz12_0 := blk_frozen BK975.out 0
            have hfz12_1 := blk_frozen BK975.out 1
            have hfz12_2 := blk_frozen BK975.out 2
            have hfz12_3 := blk_frozen BK975.out 3
            go_wp2_with (first | ((with_reducible refine gate_callee (f := 105) rfl ?_); refine goesL_ (some 14) rfl rfl Tryd.func105 (by kernel_rfl) rfl #[.string a0_1] rfl ma ?_; (with_reducible refine (impl_pathOk.calls kj3 a0_1 false _ A9.out).mono ?_); rintro e w' ⟨rfl, ⟨nd, rfl⟩⟩; refine ⟨_, rfl, ?_⟩))
            go_ret
            exact ⟨rf, bl⟩
        · replace c8 := Bool.eq_false_iff.mpr c8
          subst c8
          have H1 : (if a0_0 = 3 then ((impl_TokenOk.f kj3 a0_1).bind fun t978 => (if t978 = true then ((impl_ValueOk.f kj3 a0_2).bind fun t979 => (some t979)) else (some false))) else (some false)) = some r := by rw [if_neg (show ¬ (false = true) by decide)] at H; exact H
          clear H
          have H := H1
          clear H1
          by_cases c13 : a0_0 = 3
          · rw [if_pos c13] at H
            have c13b0 : (a0_0 == 3) = true := beq_iff_eq.mpr c13
            have c13b1 : (a0_0 != 3) = false := bne_eq_false_iff_eq.mpr c13
            clear c13
            replace H := Option.bind_eq_some_iff.mp H
            obtain ⟨t978, A140, H⟩ := H
            replace H : (if t978 = true then ((impl_ValueOk.f kj3 a0_2).bind fun t979 => (some t979)) else (some false)) = some r := H
            have A14 := Aside0.mk A140
            clear A140
            by_cases c15 : t978 = true
            · subst c15
              have H1 : ((impl_ValueOk.f kj3 a0_2).bind fun t979 => (some t979)) = some r := by rw [if_pos rfl] at H; exact H
              clear H
              have H := H1
              clear H1
              replace H := Option.bind_eq_some_iff.mp H
              obtain ⟨t979, A160, H⟩ := H
              replace H : (some t979) = some r := H
              have A16 := Aside0.mk A160
              clear A160
              obtain rfl := Option.some.inj H
              have hcz17_0 : wc.cell? ⟨gb975, 0, none⟩ = some (.int .i64 a0_0) := (blk_cell BK975.out 0).trans rfl
              have hcz17_1 : wc.cell? ⟨gb975, 1, none⟩ = some (.string a0_1) := (blk_cell BK975.out 1).trans rfl
              have hcz17_2 : wc.cell? ⟨gb975, 2, none⟩ = some (.string a0_2) := (blk_cell BK975.out 2).trans rfl
              have hcz17_3 : wc.cell? ⟨gb975, 3, none⟩ = some (.int .i64 a0_3) := (blk_cell BK975.out 3).trans rfl
              have hfz17_0 := blk_frozen BK975.out 0
              have hfz17_1 := blk_frozen BK975.out 1
              have hfz17_2 := blk_frozen BK975.out 2
              have hfz17_3 := blk_frozen BK975.out 3
              go_wp2_with (first | ((with_reducible refine gate_callee (f := 30) rfl ?_); refine goesL_ (some 24) rfl rfl Tryd.func30 (by kernel_rfl) rfl #[.string a0_1] rfl ma ?_; (with_reducible refine (impl_TokenOk.calls kj3 a0_1 true _ A14.out).mono ?_); rintro e w' ⟨rfl, ⟨nd, rfl⟩⟩; refine ⟨_, rfl, ?_⟩) | (go_at_call 32; (with_reducible refine (impl_ValueOk.calls kj3 a0_2 t979 _ A16.out).mono ?_); rintro e w18 ⟨rfl, hb⟩; replace BK975 := kb BK975 hb; replace HB := Aside0.mk (below_step bl hb); (try clear hb); (try clear hb2); (try clear hk); (try clear hi)))
              go_ret
              exact ⟨rf, bl⟩
            · replace c15 := Bool.eq_false_iff.mpr c15
              subst c15
              have H1 : (some false) = some r := by rw [if_neg (show ¬ (false = true) by decide)] at H; exact H
              clear H
              have H := H1
              clear H1
              obtain rfl := Option.some.inj H
              have hcz19_0 : wc.cell? ⟨gb975, 0, none⟩ = some (.int .i64 a0_0) := (blk_cell BK975.out 0).trans rfl
              have hcz19_1 : wc.cell? ⟨gb975, 1, none⟩ = some (.string a0_1) := (blk_cell BK975.out 1).trans rfl
              have hcz19_2 : wc.cell? ⟨gb975, 2, none⟩ = some (.string a0_2) := (blk_cell BK975.out 2).trans rfl
              have hcz19_3 : wc.cell? ⟨gb975, 3, none⟩ = some (.int .i64 a0_3) := (blk_cell BK975.out 3).trans rfl
              have hfz19_0 := blk_frozen BK975.out 0
              have hfz19_1 := blk_frozen BK975.out 1
              have hfz19_2 := blk_frozen BK975.out 2
              have hfz19_3 := blk_frozen BK975.out 3
              go_wp2_with (first | ((with_reducible refine gate_callee (f := 30) rfl ?_); refine goesL_ (some 24) rfl rfl Tryd.func30 (by kernel_rfl) rfl #[.string a0_1] rfl ma ?_; (with_reducible refine (impl_TokenOk.calls kj3 a0_1 false _ A14.out).mono ?_); rintro e w' ⟨rfl, ⟨nd, rfl⟩⟩; refine ⟨_, rfl, ?_⟩))
              go_ret
              exact ⟨rf, bl⟩
          · rw [if_neg c13] at H
            have c13b0 : (a0_0 == 3) = false := beq_eq_false_iff_ne.mpr c13
            have c13b1 : (a0_0 != 3) = true := bne_iff_ne.mpr c13
            obtain rfl := Option.some.inj H
            go_wp2
            go_ret
            exact ⟨rf, bl⟩
  · replace c3 := Bool.eq_false_iff.mpr c3
    subst c3
    have H1 : (some false) = some r := by rw [if_neg (show ¬ (false = true) by decide)] at H; exact H
    clear H
    have H := H1
    clear H1
    obtain rfl := Option.some.inj H
    go_enter Tryd.func117, Tryd.ntmps117
    go_wp2_with (first | ((with_reducible refine gate_dst (N := 1) rfl ?_); refine box_event ?hg (N := 1) ?hd (cs := #[.int .i64 a0_0, .string a0_1, .string a0_2, .int .i64 a0_3]) (t := 91) ?hr ?_; (case hd => rfl); (case hg => rfl); (case hr => first | (go_simp; done) | (go_simp; rfl)); intro gb975 hg w20 hbox hb; have n0_ := Aside0.mk (below_step bl hb); have n1_ := Aside0.mk (hbox); have n2_ := Aside0.mk ((by rw [hg]; exact (below_size bl) : w.heap.size ≤ gb975)); have n3_ := Aside0.mk ((by rw [hg]; exact (below_size bl) : w.heap.size ≤ gb975)); clear HB; have HB := n0_; have BK975 := n1_; have GW975 := n2_; have GE975 := n3_; clear n0_ n1_ n2_ n3_; clear hb hbox hg; have hcz21_0 : w20.cell? ⟨gb975, 0, none⟩ = some (.int .i64 a0_0) := (blk_cell BK975.out 0).trans rfl; have hcz21_1 : w20.cell? ⟨gb975, 1, none⟩ = some (.string a0_1) := (blk_cell BK975.out 1).trans rfl; have hcz21_2 : w20.cell? ⟨gb975, 2, none⟩ = some (.string a0_2) := (blk_cell BK975.out 2).trans rfl; have hcz21_3 : w20.cell? ⟨gb975, 3, none⟩ = some (.int .i64 a0_3) := (blk_cell BK975.out 3).trans rfl; have hfz21_0 := blk_frozen BK975.out 0; have hfz21_1 := blk_frozen BK975.out 1; have hfz21_2 := blk_frozen BK975.out 2; have hfz21_3 := blk_frozen BK975.out 3) | ((with_reducible refine gate_callee (f := 137) rfl ?_); refine goesL_ (some 5) rfl rfl Tryd.func137 (by kernel_rfl) rfl #[.int .i64 a0_3] rfl ma ?_; (with_reducible refine (impl_isTime.calls a0_3 false _ A2.out).mono ?_); rintro e w' ⟨rfl, ⟨nd, rfl⟩⟩; refine ⟨_, rfl, ?_⟩))
    go_ret
    exact ⟨rf, bl⟩

/-! ### a word out of an array -/
def impl_banWord.f (a0 : Int) : Option ByteArray := if a0 = 1 then some ⟨#[112, 97, 116, 104]⟩ else if a0 = 2 then some ⟨#[98, 101, 108, 111, 119]⟩ else if a0 = 3 then some ⟨#[102, 105, 101, 108, 100]⟩ else none
set_option maxHeartbeats 2000000 in
set_option maxRecDepth 100000 in
theorem impl_banWord.calls (a0 : Int) (r : ByteArray) (w : World) (h : impl_banWord.f a0 = some r) :
    Calls Tryd.prog 118 #[.int .i64 a0] w fun e w' => e = .returned (.string r) ∧ Below w.heap.size w w' := by
  unfold impl_banWord.f at h
  have HB := Aside0.mk (Below.refl w.heap.size w)
  obtain ⟨inf, hinf, _⟩ := Option.map_eq_some_iff.1 (show (Tryd.prog.info? 9).map (fun i => i.size) = some 1 by kernel_rfl)
  split at h
  · rename_i e; obtain rfl := Option.some.inj h; subst e; clear h
    go_enter Tryd.func118, Tryd.ntmps118
    go_wp2
    rw [run_index_plain w Tryd.underlying145 (by kernel_rfl) hinf (by kernel_rfl) (by decide) rfl]
    simp only [Result.andThen]
    rw [Oper.upon_value]
    go_wp2
    go_ret
    exact ⟨rfl, bl⟩
  split at h
  · rename_i e; obtain rfl := Option.some.inj h; subst e; clear h
    go_enter Tryd.func118, Tryd.ntmps118
    go_wp2
    rw [run_index_plain w Tryd.underlying145 (by kernel_rfl) hinf (by kernel_rfl) (by decide) rfl]
    simp only [Result.andThen]
    rw [Oper.upon_value]
    go_wp2
    go_ret
    exact ⟨rfl, bl⟩
  split at h
  · rename_i e; obtain rfl := Option.some.inj h; subst e; clear h
    go_enter Tryd.func118, Tryd.ntmps118
    go_wp2
    rw [run_index_plain w Tryd.underlying145 (by kernel_rfl) hinf (by kernel_rfl) (by decide) rfl]
    simp only [Result.andThen]
    rw [Oper.upon_value]
    go_wp2
    go_ret
    exact ⟨rfl, bl⟩
  · cases h

/-! ### impl_BanText: function 78 -/
def impl_BanText.f (k : Nat) (a0_0 : Int) (a0_1 : ByteArray) (a0_2 : ByteArray) (a0_3 : Int) : Option (ByteArray) := (impl_BanOk.f k a0_0 a0_1 a0_2 a0_3).bind fun t981 => (if t981 = true then ((impl_banWord.f a0_0).bind fun t982 => (if 4 + t982.size ≤ 9223372036854775807 then (if ((⟨#[98, 97, 110, 32]⟩ : ByteArray) ++ t982).size + 1 ≤ 9223372036854775807 then ((impl_NumText.f a0_3).bind fun t983 => (if (((⟨#[98, 97, 110, 32]⟩ : ByteArray) ++ t982) ++ (⟨#[32]⟩ : ByteArray)).size + t983.size ≤ 9223372036854775807 then (if ((((⟨#[98, 97, 110, 32]⟩ : ByteArray) ++ t982) ++ (⟨#[32]⟩ : ByteArray)) ++ t983).size + 1 ≤ 9223372036854775807 then (if (((((⟨#[98, 97, 110, 32]⟩ : ByteArray) ++ t982) ++ (⟨#[32]⟩ : ByteArray)) ++ t983) ++ (⟨#[32]⟩ : ByteArray)).size + a0_1.size ≤ 9223372036854775807 then (if a0_0 = 3 then (if 1 + a0_2.size ≤ 9223372036854775807 then (if ((((((⟨#[98, 97, 110, 32]⟩ : ByteArray) ++ t982) ++ (⟨#[32]⟩ : ByteArray)) ++ t983) ++ (⟨#[32]⟩ : ByteArray)) ++ a0_1).size + ((⟨#[10]⟩ : ByteArray) ++ a0_2).size ≤ 9223372036854775807 then (some (((((((⟨#[98, 97, 110, 32]⟩ : ByteArray) ++ t982) ++ (⟨#[32]⟩ : ByteArray)) ++ t983) ++ (⟨#[32]⟩ : ByteArray)) ++ a0_1) ++ ((⟨#[10]⟩ : ByteArray) ++ a0_2))) else (none)) else (none)) else (some ((((((⟨#[98, 97, 110, 32]⟩ : ByteArray) ++ t982) ++ (⟨#[32]⟩ : ByteArray)) ++ t983) ++ (⟨#[32]⟩ : ByteArray)) ++ a0_1))) else (none)) else (none)) else (none))) else (none)) else (none))) else (some (⟨#[]⟩ : ByteArray)))
theorem impl_BanText.mono : ∀ a0 a1 a2 a3 k, LeO (impl_BanText.f k a0 a1 a2 a3) (impl_BanText.f (k + 1) a0 a1 a2 a3) := by
  intro a0 a1 a2 a3 k
  unfold impl_BanText.f
  repeat' first
      | (with_reducible exact impl_BanOk.mono _ _ _ _ _)
      | (with_reducible exact LeO.refl _)
      | (with_reducible exact LeO.none _)
      | (with_reducible refine LeO.ite ?_ ?_)
      | (with_reducible refine LeO.bind ?_ (fun _ => ?_))
      | exact impl_BanOk.mono _ _ _ _ _
      | exact LeO.none _
      | refine LeO.ite ?_ ?_
      | refine LeO.bind ?_ (fun _ => ?_)
def impl_BanText.T3 : Bool × List (List Nat × List Nat) := (true, [([], []), ([0], [0]), ([1], [1]), ([2], [2]), ([3], [3]), ([], []), ([5], [5]), ([6, 2], [6]), ([4, 7], [4, 7]), ([8], [8]), ([], []), ([10], [10]), ([9, 11], [9, 11]), ([12, 7, 0, 1, 2, 3, 4, 5, 6, 7, 8, 9, 10, 11, 12], [12])])
def impl_BanText.B3 : List Nat := [0, 1, 3, 7, 15, 0, 32, 103, 255, 511, 0, 1024, 4095, 8191]
theorem impl_BanText.tab3 : rtab .any (opsOf Tryd.f78 3) = impl_BanText.T3 := by kernel_rfl
theorem impl_BanText.bits3 : waitsOk impl_BanText.T3.2 impl_BanText.B3 = true := by kernel_rfl
set_option maxHeartbeats 8000000 in
set_option maxRecDepth 100000 in
theorem impl_BanText.calls (k : Nat) (a0_0 : Int) (a0_1 : ByteArray) (a0_2 : ByteArray) (a0_3 : Int) (r : ByteArray) (w : World) (hGT : GLOBT w) (h : impl_BanText.f k a0_0 a0_1 a0_2 a0_3 = some r) :
    Calls Tryd.prog 78 #[.agg #[.int .i64 a0_0, .string a0_1, .string a0_2, .int .i64 a0_3]] w fun e w' => e = .returned (.string r) ∧ Below w.heap.size w w' := by
  have hu91 := Tryd.underlying91
  have HGT := Aside0.mk hGT
  clear hGT
  have HB := Aside0.mk (Below.refl w.heap.size w)
  have H : ((impl_BanOk.f k a0_0 a0_1 a0_2 a0_3).bind fun t981 => (if t981 = true then ((impl_banWord.f a0_0).bind fun t982 => (if 4 + t982.size ≤ 9223372036854775807 then (if ((⟨#[98, 97, 110, 32]⟩ : ByteArray) ++ t982).size + 1 ≤ 9223372036854775807 then ((impl_NumText.f a0_3).bind fun t983 => (if (((⟨#[98, 97, 110, 32]⟩ : ByteArray) ++ t982) ++ (⟨#[32]⟩ : ByteArray)).size + t983.size ≤ 9223372036854775807 then (if ((((⟨#[98, 97, 110, 32]⟩ : ByteArray) ++ t982) ++ (⟨#[32]⟩ : ByteArray)) ++ t983).size + 1 ≤ 9223372036854775807 then (if (((((⟨#[98, 97, 110, 32]⟩ : ByteArray) ++ t982) ++ (⟨#[32]⟩ : ByteArray)) ++ t983) ++ (⟨#[32]⟩ : ByteArray)).size + a0_1.size ≤ 9223372036854775807 then (if a0_0 = 3 then (if 1 + a0_2.size ≤ 9223372036854775807 then (if ((((((⟨#[98, 97, 110, 32]⟩ : ByteArray) ++ t982) ++ (⟨#[32]⟩ : ByteArray)) ++ t983) ++ (⟨#[32]⟩ : ByteArray)) ++ a0_1).size + ((⟨#[10]⟩ : ByteArray) ++ a0_2).size ≤ 9223372036854775807 then (some (((((((⟨#[98, 97, 110, 32]⟩ : ByteArray) ++ t982) ++ (⟨#[32]⟩ : ByteArray)) ++ t983) ++ (⟨#[32]⟩ : ByteArray)) ++ a0_1) ++ ((⟨#[10]⟩ : ByteArray) ++ a0_2))) else (none)) else (none)) else (some ((((((⟨#[98, 97, 110, 32]⟩ : ByteArray) ++ t982) ++ (⟨#[32]⟩ : ByteArray)) ++ t983) ++ (⟨#[32]⟩ : ByteArray)) ++ a0_1))) else (none)) else (none)) else (none))) else (none)) else (none))) else (some (⟨#[]⟩ : ByteArray)))) = some r := h
  clear h
  replace H := Option.bind_eq_some_iff.mp H
  obtain ⟨t981, A20, H⟩ := H
  replace H : (if t981 = true then ((impl_banWord.f a0_0).bind fun t982 => (if 4 + t982.size ≤ 9223372036854775807 then (if ((⟨#[98, 97, 110, 32]⟩ : ByteArray) ++ t982).size + 1 ≤ 9223372036854775807 then ((impl_NumText.f a0_3).bind fun t983 => (if (((⟨#[98, 97, 110, 32]⟩ : ByteArray) ++ t982) ++ (⟨#[32]⟩ : ByteArray)).size + t983.size ≤ 9223372036854775807 then (if ((((⟨#[98, 97, 110, 32]⟩ : ByteArray) ++ t982) ++ (⟨#[32]⟩ : ByteArray)) ++ t983).size + 1 ≤ 9223372036854775807 then (if (((((⟨#[98, 97, 110, 32]⟩ : ByteArray) ++ t982) ++ (⟨#[32]⟩ : ByteArray)) ++ t983) ++ (⟨#[32]⟩ : ByteArray)).size + a0_1.size ≤ 9223372036854775807 then (if a0_0 = 3 then (if 1 + a0_2.size ≤ 9223372036854775807 then (if ((((((⟨#[98, 97, 110, 32]⟩ : ByteArray) ++ t982) ++ (⟨#[32]⟩ : ByteArray)) ++ t983) ++ (⟨#[32]⟩ : ByteArray)) ++ a0_1).size + ((⟨#[10]⟩ : ByteArray) ++ a0_2).size ≤ 9223372036854775807 then (some (((((((⟨#[98, 97, 110, 32]⟩ : ByteArray) ++ t982) ++ (⟨#[32]⟩ : ByteArray)) ++ t983) ++ (⟨#[32]⟩ : ByteArray)) ++ a0_1) ++ ((⟨#[10]⟩ : ByteArray) ++ a0_2))) else (none)) else (none)) else (some ((((((⟨#[98, 97, 110, 32]⟩ : ByteArray) ++ t982) ++ (⟨#[32]⟩ : ByteArray)) ++ t983) ++ (⟨#[32]⟩ : ByteArray)) ++ a0_1))) else (none)) else (none)) else (none))) else (none)) else (none))) else (some (⟨#[]⟩ : ByteArray))) = some r := H
  have A2 := Aside0.mk A20
  clear A20
  by_cases c3 : t981 = true
  · subst c3
    have H1 : ((impl_banWord.f a0_0).bind fun t982 => (if 4 + t982.size ≤ 9223372036854775807 then (if ((⟨#[98, 97, 110, 32]⟩ : ByteArray) ++ t982).size + 1 ≤ 9223372036854775807 then ((impl_NumText.f a0_3).bind fun t983 => (if (((⟨#[98, 97, 110, 32]⟩ : ByteArray) ++ t982) ++ (⟨#[32]⟩ : ByteArray)).size + t983.size ≤ 9223372036854775807 then (if ((((⟨#[98, 97, 110, 32]⟩ : ByteArray) ++ t982) ++ (⟨#[32]⟩ : ByteArray)) ++ t983).size + 1 ≤ 9223372036854775807 then (if (((((⟨#[98, 97, 110, 32]⟩ : ByteArray) ++ t982) ++ (⟨#[32]⟩ : ByteArray)) ++ t983) ++ (⟨#[32]⟩ : ByteArray)).size + a0_1.size ≤ 9223372036854775807 then (if a0_0 = 3 then (if 1 + a0_2.size ≤ 9223372036854775807 then (if ((((((⟨#[98, 97, 110, 32]⟩ : ByteArray) ++ t982) ++ (⟨#[32]⟩ : ByteArray)) ++ t983) ++ (⟨#[32]⟩ : ByteArray)) ++ a0_1).size + ((⟨#[10]⟩ : ByteArray) ++ a0_2).size ≤ 9223372036854775807 then (some (((((((⟨#[98, 97, 110, 32]⟩ : ByteArray) ++ t982) ++ (⟨#[32]⟩ : ByteArray)) ++ t983) ++ (⟨#[32]⟩ : ByteArray)) ++ a0_1) ++ ((⟨#[10]⟩ : ByteArray) ++ a0_2))) else (none)) else (none)) else (some ((((((⟨#[98, 97, 110, 32]⟩ : ByteArray) ++ t982) ++ (⟨#[32]⟩ : ByteArray)) ++ t983) ++ (⟨#[32]⟩ : ByteArray)) ++ a0_1))) else (none)) else (none)) else (none))) else (none)) else (none))) = some r := by rw [if_pos rfl] at H; exact H
    clear H
    have H := H1
    clear H1
    replace H := Option.bind_eq_some_iff.mp H
    obtain ⟨t982, A40, H⟩ := H
    replace H : (if 4 + t982.size ≤ 9223372036854775807 then (if ((⟨#[98, 97, 110, 32]⟩ : ByteArray) ++ t982).size + 1 ≤ 9223372036854775807 then ((impl_NumText.f a0_3).bind fun t983 => (if (((⟨#[98, 97, 110, 32]⟩ : ByteArray) ++ t982) ++ (⟨#[32]⟩ : ByteArray)).size + t983.size ≤ 9223372036854775807 then (if ((((⟨#[98, 97, 110, 32]⟩ : ByteArray) ++ t982) ++ (⟨#[32]⟩ : ByteArray)) ++ t983).size + 1 ≤ 9223372036854775807 then (if (((((⟨#[98, 97, 110, 32]⟩ : ByteArray) ++ t982) ++ (⟨#[32]⟩ : ByteArray)) ++ t983) ++ (⟨#[32]⟩ : ByteArray)).size + a0_1.size ≤ 9223372036854775807 then (if a0_0 = 3 then (if 1 + a0_2.size ≤ 9223372036854775807 then (if ((((((⟨#[98, 97, 110, 32]⟩ : ByteArray) ++ t982) ++ (⟨#[32]⟩ : ByteArray)) ++ t983) ++ (⟨#[32]⟩ : ByteArray)) ++ a0_1).size + ((⟨#[10]⟩ : ByteArray) ++ a0_2).size ≤ 9223372036854775807 then (some (((((((⟨#[98, 97, 110, 32]⟩ : ByteArray) ++ t982) ++ (⟨#[32]⟩ : ByteArray)) ++ t983) ++ (⟨#[32]⟩ : ByteArray)) ++ a0_1) ++ ((⟨#[10]⟩ : ByteArray) ++ a0_2))) else (none)) else (none)) else (some ((((((⟨#[98, 97, 110, 32]⟩ : ByteArray) ++ t982) ++ (⟨#[32]⟩ : ByteArray)) ++ t983) ++ (⟨#[32]⟩ : ByteArray)) ++ a0_1))) else (none)) else (none)) else (none))) else (none)) else (none)) = some r := H
    have A4 := Aside0.mk A40
    clear A40
    by_cases c5 : 4 + t982.size ≤ 9223372036854775807
    · rw [if_pos c5] at H
      have c5b0 := eq_true c5
      have c5b1 : decide (4 + t982.size ≤ 9223372036854775807) = true := decide_eq_true c5
      try have c5b2 : (9223372036854775807 < 4 + t982.size) = False := eq_false (Nat.not_lt.2 c5)
      by_cases c6 : ((⟨#[98, 97, 110, 32]⟩ : ByteArray) ++ t982).size + 1 ≤ 9223372036854775807
      · rw [if_pos c6] at H
        have c6b0 := eq_true c6
        have c6b1 : decide (((⟨#[98, 97, 110, 32]⟩ : ByteArray) ++ t982).size + 1 ≤ 9223372036854775807) = true := decide_eq_true c6
        try have c6b2 : (9223372036854775807 < ((⟨#[98, 97, 110, 32]⟩ : ByteArray) ++ t982).size + 1) = False := eq_false (Nat.not_lt.2 c6)
        have c6b3 : (9223372036854775807 < 4 + (t982).size + 1) = False := eq_false (Nat.not_lt.2 (by have h_ := c6; simp only [ByteArray.size_append] at h_; first | exact h_ | (simp only [ByteArray.size_extract] at h_; rw [Nat.min_eq_left (by omega)] at h_; exact h_)))
        replace H := Option.bind_eq_some_iff.mp H
        obtain ⟨t983, A70, H⟩ := H
        replace H : (if (((⟨#[98, 97, 110, 32]⟩ : ByteArray) ++ t982) ++ (⟨#[32]⟩ : ByteArray)).size + t983.size ≤ 9223372036854775807 then (if ((((⟨#[98, 97, 110, 32]⟩ : ByteArray) ++ t982) ++ (⟨#[32]⟩ : ByteArray)) ++ t983).size + 1 ≤ 9223372036854775807 then (if (((((⟨#[98, 97, 110, 32]⟩ : ByteArray) ++ t982) ++ (⟨#[32]⟩ : ByteArray)) ++ t983) ++ (⟨#[32]⟩ : ByteArray)).size + a0_1.size ≤ 9223372036854775807 then (if a0_0 = 3 then (if 1 + a0_2.size ≤ 9223372036854775807 then (if ((((((⟨#[98, 97, 110, 32]⟩ : ByteArray) ++ t982) ++ (⟨#[32]⟩ : ByteArray)) ++ t983) ++ (⟨#[32]⟩ : ByteArray)) ++ a0_1).size + ((⟨#[10]⟩ : ByteArray) ++ a0_2).size ≤ 9223372036854775807 then (some (((((((⟨#[98, 97, 110, 32]⟩ : ByteArray) ++ t982) ++ (⟨#[32]⟩ : ByteArray)) ++ t983) ++ (⟨#[32]⟩ : ByteArray)) ++ a0_1) ++ ((⟨#[10]⟩ : ByteArray) ++ a0_2))) else (none)) else (none)) else (some ((((((⟨#[98, 97, 110, 32]⟩ : ByteArray) ++ t982) ++ (⟨#[32]⟩ : ByteArray)) ++ t983) ++ (⟨#[32]⟩ : ByteArray)) ++ a0_1))) else (none)) else (none)) else (none)) = some r := H
        have A7 := Aside0.mk A70
        clear A70
        by_cases c8 : (((⟨#[98, 97, 110, 32]⟩ : ByteArray) ++ t982) ++ (⟨#[32]⟩ : ByteArray)).size + t983.size ≤ 9223372036854775807
        · rw [if_pos c8] at H
          have c8b0 := eq_true c8
          have c8b1 : decide ((((⟨#[98, 97, 110, 32]⟩ : ByteArray) ++ t982) ++ (⟨#[32]⟩ : ByteArray)).size + t983.size ≤ 9223372036854775807) = true := decide_eq_true c8
          try have c8b2 : (9223372036854775807 < (((⟨#[98, 97, 110, 32]⟩ : ByteArray) ++ t982) ++ (⟨#[32]⟩ : ByteArray)).size + t983.size) = False := eq_false (Nat.not_lt.2 c8)
          have c8b3 : (9223372036854775807 < 4 + (t982).size + 1 + (t983).size) = False := eq_false (Nat.not_lt.2 (by have h_ := c8; simp only [ByteArray.size_append] at h_; first | exact h_ | (simp only [ByteArray.size_extract] at h_; rw [Nat.min_eq_left (by omega)] at h_; exact h_)))
          by_cases c9 : ((((⟨#[98, 97, 110, 32]⟩ : ByteArray) ++ t982) ++ (⟨#[32]⟩ : ByteArray)) ++ t983).size + 1 ≤ 9223372036854775807
          · rw [if_pos c9] at H
            have c9b0 := eq_true c9
            have c9b1 : decide (((((⟨#[98, 97, 110, 32]⟩ : ByteArray) ++ t982) ++ (⟨#[32]⟩ : ByteArray)) ++ t983).size + 1 ≤ 9223372036854775807) = true := decide_eq_true c9
            try have c9b2 : (9223372036854775807 < ((((⟨#[98, 97, 110, 32]⟩ : ByteArray) ++ t982) ++ (⟨#[32]⟩ : ByteArray)) ++ t983).size + 1) = False := eq_false (Nat.not_lt.2 c9)
            have c9b3 : (9223372036854775807 < 4 + (t982).size + 1 + (t983).size + 1) = False := eq_false (Nat.not_lt.2 (by have h_ := c9; simp only [ByteArray.size_append] at h_; first | exact h_ | (simp only [ByteArray.size_extract] at h_; rw [Nat.min_eq_left (by omega)] at h_; exact h_)))
            by_cases c10 : (((((⟨#[98, 97, 110, 32]⟩ : ByteArray) ++ t982) ++ (⟨#[32]⟩ : ByteArray)) ++ t983) ++ (⟨#[32]⟩ : ByteArray)).size + a0_1.size ≤ 9223372036854775807
            · rw [if_pos c10] at H
              have c10b0 := eq_true c10
              have c10b1 : decide ((((((⟨#[98, 97, 110, 32]⟩ : ByteArray) ++ t982) ++ (⟨#[32]⟩ : ByteArray)) ++ t983) ++ (⟨#[32]⟩ : ByteArray)).size + a0_1.size ≤ 9223372036854775807) = true := decide_eq_true c10
              try have c10b2 : (9223372036854775807 < (((((⟨#[98, 97, 110, 32]⟩ : ByteArray) ++ t982) ++ (⟨#[32]⟩ : ByteArray)) ++ t983) ++ (⟨#[32]⟩ : ByteArray)).size + a0_1.size) = False := eq_false (Nat.not_lt.2 c10)
              have c10b3 : (9223372036854775807 < 4 + (t982).size + 1 + (t983).size + 1 + (a0_1).size) = False := eq_false (Nat.not_lt.2 (by have h_ := c10; simp only [ByteArray.size_append] at h_; first | exact h_ | (simp only [ByteArray.size_extract] at h_; rw [Nat.min_eq_left (by omega)] at h_; exact h_)))
              by_cases c11 : a0_0 = 3
              · rw [if_pos c11] at H
                have c11b0 : (a0_0 == 3) = true := beq_iff_eq.mpr c11
                have c11b1 : (a0_0 != 3) = false := bne_eq_false_iff_eq.mpr c11
                clear c11
                by_cases c12 : 1 + a0_2.size ≤ 9223372036854775807
                · rw [if_pos c12] at H
                  have c12b0 := eq_true c12
                  have c12b1 : decide (1 + a0_2.size ≤ 9223372036854775807) = true := decide_eq_true c12
                  try have c12b2 : (9223372036854775807 < 1 + a0_2.size) = False := eq_false (Nat.not_lt.2 c12)
                  by_cases c13 : ((((((⟨#[98, 97, 110, 32]⟩ : ByteArray) ++ t982) ++ (⟨#[32]⟩ : ByteArray)) ++ t983) ++ (⟨#[32]⟩ : ByteArray)) ++ a0_1).size + ((⟨#[10]⟩ : ByteArray) ++ a0_2).size ≤ 9223372036854775807
                  · rw [if_pos c13] at H
                    have c13b0 := eq_true c13
                    have c13b1 : decide (((((((⟨#[98, 97, 110, 32]⟩ : ByteArray) ++ t982) ++ (⟨#[32]⟩ : ByteArray)) ++ t983) ++ (⟨#[32]⟩ : ByteArray)) ++ a0_1).size + ((⟨#[10]⟩ : ByteArray) ++ a0_2).size ≤ 9223372036854775807) = true := decide_eq_true c13
                    try have c13b2 : (9223372036854775807 < ((((((⟨#[98, 97, 110, 32]⟩ : ByteArray) ++ t982) ++ (⟨#[32]⟩ : ByteArray)) ++ t983) ++ (⟨#[32]⟩ : ByteArray)) ++ a0_1).size + ((⟨#[10]⟩ : ByteArray) ++ a0_2).size) = False := eq_false (Nat.not_lt.2 c13)
                    have c13b3 : (9223372036854775807 < 4 + (t982).size + 1 + (t983).size + 1 + (a0_1).size + (1 + (a0_2).size)) = False := eq_false (Nat.not_lt.2 (by have h_ := c13; simp only [ByteArray.size_append] at h_; first | exact h_ | (simp only [ByteArray.size_extract] at h_; rw [Nat.min_eq_left (by omega)] at h_; exact h_)))
                    obtain rfl := Option.some.inj H
                    go_enter Tryd.func78, Tryd.ntmps78
                    try go_wp2_with (first | ((with_reducible refine gate_dst (N := 1) rfl ?_); refine box_event ?hg (N := 1) ?hd (cs := #[.int .i64 a0_0, .string a0_1, .string a0_2, .int .i64 a0_3]) (t := 91) ?hr ?_; (case hd => rfl); (case hg => rfl); (case hr => first | (go_simp; done) | (go_simp; rfl)); intro gb980 hg w14 hbox hb; have n0_ := Aside0.mk (below_step bl hb); have n1_ := Aside0.mk (hbox); have n2_ := Aside0.mk ((by rw [hg]; exact (below_size bl) : w.heap.size ≤ gb980)); have n3_ := Aside0.mk ((by rw [hg]; exact (below_size bl) : w.heap.size ≤ gb980)); clear HB; have HB := n0_; have BK980 := n1_; have GW980 := n2_; have GE980 := n3_; clear n0_ n1_ n2_ n3_; clear hb hbox hg; have hcz15_0 : w14.cell? ⟨gb980, 0, none⟩ = some (.int .i64 a0_0) := (blk_cell BK980.out 0).trans rfl; have hcz15_1 : w14.cell? ⟨gb980, 1, none⟩ = some (.string a0_1) := (blk_cell BK980.out 1).trans rfl; have hcz15_2 : w14.cell? ⟨gb980, 2, none⟩ = some (.string a0_2) := (blk_cell BK980.out 2).trans rfl; have hcz15_3 : w14.cell? ⟨gb980, 3, none⟩ = some (.int .i64 a0_3) := (blk_cell BK980.out 3).trans rfl; have hfz15_0 := blk_frozen BK980.out 0; have hfz15_1 := blk_frozen BK980.out 1; have hfz15_2 := blk_frozen BK980.out 2; have hfz15_3 := blk_frozen BK980.out 3) | ((with_reducible refine gate_callee (f := 117) rfl ?_); refine goesL_ (some 5) rfl rfl Tryd.func117 (by kernel_rfl) rfl #[.agg #[.int .i64 a0_0, .string a0_1, .string a0_2, .int .i64 a0_3]] rfl ma ?_; (with_reducible refine (impl_BanOk.calls k a0_0 a0_1 a0_2 a0_3 true _ A2.out).mono ?_); rintro e w16 ⟨rfl, hb⟩; refine ⟨_, rfl, ?_⟩; replace BK980 := kb BK980 hb; replace HB := Aside0.mk (below_step bl hb); (try clear hb); (try clear hb2); (try clear hk); (try clear hi)))
                    replace BK980 := Aside0.mk (blk_drew BK980.out)
                    replace HB := Aside0.mk (below_drew1 HB.out)
                    refine start_ (n := 14) (S := fun w' => w'.cell? ⟨gb980, 0, none⟩ = some (.int .i64 a0_0) ∧ w'.cell? ⟨gb980, 1, none⟩ = some (.string a0_1) ∧ w'.cell? ⟨gb980, 2, none⟩ = some (.string a0_2) ∧ w'.cell? ⟨gb980, 3, none⟩ = some (.int .i64 a0_3)) (ds := []) #[false, false, false, false, false, false, false, false, false, false, false, false, false, false] (by kernel_rfl) rfl rfl ⟨(blk_cell BK980.out 0).trans rfl, (blk_cell BK980.out 1).trans rfl, (blk_cell BK980.out 2).trans rfl, (blk_cell BK980.out 3).trans rfl⟩ (fun hHeld => ?_); refine with_tabW impl_BanText.tab3 impl_BanText.bits3 (fun HT_ HW_ => ?_)
                    generalize w16.drew = w17 at BK980 HB hHeld ⊢
                    refine pure_ (i := 0) (N := some 7) (v := ?_) (a' := ?_) #[true, false, false, false, false, false, false, false, false, false, false, false, false, false] rfl rfl (any_of HT_.out (by kernel_rfl)) (fun _ _ _ h => h) (Or.inl ⟨by rfl, ?_⟩) ?_ ?_
                    rotate_left
                    · intro w'
                      go_simp
                      with_reducible rfl
                    rotate_left
                    · simp only [Act.put, List.setIfInBounds_toArray, List.set_cons_zero, List.set_cons_succ, i64_w, i32_w]
                      rfl
                    refine pure_ (i := 5) (N := some 12) (v := ?_) (a' := ?_) #[true, false, false, false, false, true, false, false, false, false, false, false, false, false] rfl rfl (any_of HT_.out (by kernel_rfl)) (fun _ _ _ h => h) (Or.inl ⟨by rfl, ?_⟩) ?_ ?_
                    rotate_left
                    · intro w'
                      go_simp
                      with_reducible rfl
                    rotate_left
                    · simp only [Act.put, List.setIfInBounds_toArray, List.set_cons_zero, List.set_cons_succ, i64_w, i32_w]
                      rfl
                    refine pure_ (i := 10) (N := some 17) (v := ?_) (a' := ?_) #[true, false, false, false, false, true, false, false, false, false, true, false, false, false] rfl rfl (any_of HT_.out (by kernel_rfl)) (fun _ _ _ h => h) (Or.inl ⟨by rfl, ?_⟩) ?_ ?_
                    rotate_left
                    · intro w'
                      go_simp
                      with_reducible rfl
                    rotate_left
                    · simp only [Act.put, List.setIfInBounds_toArray, List.set_cons_zero, List.set_cons_succ, i64_w, i32_w]
                      rfl
                    refine take_ (i := 1) (N := some 8) (v := ?_) (a' := ?_) #[true, true, false, false, false, true, false, false, false, false, true, false, false, false] rfl rfl (take_ofW HT_.out HW_.out (by kernel_rfl)) (fun _ _ _ h => h) (Or.inl ⟨by rfl, ?_⟩) hHeld ?_ ?_
                    rotate_left
                    · rintro w' ⟨s0, s1, s2, s3⟩
                      go_simp
                      with_reducible rfl
                    rotate_left
                    · simp only [Act.put, List.setIfInBounds_toArray, List.set_cons_zero, List.set_cons_succ, i64_w, i32_w]
                      rfl
                    refine take_ (i := 6) (N := some 13) (v := ?_) (a' := ?_) #[true, true, false, false, false, true, true, false, false, false, true, false, false, false] rfl rfl (take_ofW HT_.out HW_.out (by kernel_rfl)) (fun _ _ _ h => h) (Or.inl ⟨by rfl, ?_⟩) hHeld ?_ ?_
                    rotate_left
                    · rintro w' ⟨s0, s1, s2, s3⟩
                      go_simp
                      with_reducible rfl
                    rotate_left
                    · simp only [Act.put, List.setIfInBounds_toArray, List.set_cons_zero, List.set_cons_succ, i64_w, i32_w]
                      rfl
                    refine take_ (i := 11) (N := some 18) (v := ?_) (a' := ?_) #[true, true, false, false, false, true, true, false, false, false, true, true, false, false] rfl rfl (take_ofW HT_.out HW_.out (by kernel_rfl)) (fun _ _ _ h => h) (Or.inl ⟨by rfl, ?_⟩) hHeld ?_ ?_
                    rotate_left
                    · rintro w' ⟨s0, s1, s2, s3⟩
                      go_simp
                      with_reducible rfl
                    rotate_left
                    · simp only [Act.put, List.setIfInBounds_toArray, List.set_cons_zero, List.set_cons_succ, i64_w, i32_w]
                      rfl
                    refine one_ (i := 2) (N := some 9) #[true, true, true, false, false, true, true, false, false, false, true, true, false, false] rfl rfl (one_of HT_.out (by kernel_rfl)) (by decide) (fun K hK => ?_)
                    refine goes_ Tryd.func118 (by kernel_rfl) rfl #[.int .i64 a0_0] (by rfl) rfl rfl ma ?_
                    with_reducible refine (impl_banWord.calls a0_0 t982 _ A4.out).mono ?_
                    rintro e w18 ⟨rfl, hb⟩
                    refine ⟨_, rfl, ?_⟩
                    replace BK980 := kb BK980 hb
                    replace HB := Aside0.mk (below_step bl hb)
                    (try clear hb)
                    (try clear hb2)
                    (try clear hk)
                    (try clear hi)
                    refine hK.out _ _ ⟨(blk_cell BK980.out 0).trans rfl, (blk_cell BK980.out 1).trans rfl, (blk_cell BK980.out 2).trans rfl, (blk_cell BK980.out 3).trans rfl⟩ (fun hHeld => ?_)
                    clear hK K
                    refine norm_ (a' := ?_) ?_ ?_
                    rotate_left
                    · show Act.put _ (some 9) _ = _
                      simp only [Act.put, List.setIfInBounds_toArray, List.set_cons_zero, List.set_cons_succ, i64_w, i32_w]
                      rfl
                    refine pure_ (i := 3) (N := some 10) (v := ?_) (a' := ?_) #[true, true, true, true, false, true, true, false, false, false, true, true, false, false] rfl rfl (any_of HT_.out (by kernel_rfl)) (fun _ _ _ h => h) (Or.inl ⟨by rfl, ?_⟩) ?_ ?_
                    rotate_left
                    · intro w'
                      go_simp
                      with_reducible rfl
                    rotate_left
                    · simp only [Act.put, List.setIfInBounds_toArray, List.set_cons_zero, List.set_cons_succ, i64_w, i32_w]
                      rfl
                    refine pure_ (i := 4) (N := some 11) (v := ?_) (a' := ?_) #[true, true, true, true, true, true, true, false, false, false, true, true, false, false] rfl rfl (any_of HT_.out (by kernel_rfl)) (fun _ _ _ h => h) (Or.inl ⟨by rfl, ?_⟩) ?_ ?_
                    rotate_left
                    · intro w'
                      go_simp
                      with_reducible rfl
                    rotate_left
                    · simp only [Act.put, List.setIfInBounds_toArray, List.set_cons_zero, List.set_cons_succ, i64_w, i32_w]
                      rfl
                    refine one_ (i := 7) (N := some 14) #[true, true, true, true, true, true, true, true, false, false, true, true, false, false] rfl rfl (one_of HT_.out (by kernel_rfl)) (by decide) (fun K hK => ?_)
                    refine goes_ Tryd.func89 (by kernel_rfl) rfl #[.int .i64 a0_3] (by rfl) rfl rfl ma ?_
                    with_reducible refine (impl_NumText.calls a0_3 t983 _ ?side1 A7.out).mono ?_
                    (case side1 => exact GLOBT.below HGT.out bl)
                    rintro e w19 ⟨rfl, hb⟩
                    refine ⟨_, rfl, ?_⟩
                    replace BK980 := kb BK980 hb
                    replace HB := Aside0.mk (below_step bl hb)
                    (try clear hb)
                    (try clear hb2)
                    (try clear hk)
                    (try clear hi)
                    refine hK.out _ _ ⟨(blk_cell BK980.out 0).trans rfl, (blk_cell BK980.out 1).trans rfl, (blk_cell BK980.out 2).trans rfl, (blk_cell BK980.out 3).trans rfl⟩ (fun hHeld => ?_)
                    clear hK K
                    refine norm_ (a' := ?_) ?_ ?_
                    rotate_left
                    · show Act.put _ (some 14) _ = _
                      simp only [Act.put, List.setIfInBounds_toArray, List.set_cons_zero, List.set_cons_succ, i64_w, i32_w]
                      rfl
                    refine pure_ (i := 8) (N := some 15) (v := ?_) (a' := ?_) #[true, true, true, true, true, true, true, true, true, false, true, true, false, false] rfl rfl (any_of HT_.out (by kernel_rfl)) (fun _ _ _ h => h) (Or.inl ⟨by rfl, ?_⟩) ?_ ?_
                    rotate_left
                    · intro w'
                      go_simp
                      with_reducible rfl
                    rotate_left
                    · simp only [Act.put, List.setIfInBounds_toArray, List.set_cons_zero, List.set_cons_succ, i64_w, i32_w]
                      rfl
                    refine pure_ (i := 9) (N := some 16) (v := ?_) (a' := ?_) #[true, true, true, true, true, true, true, true, true, true, true, true, false, false] rfl rfl (any_of HT_.out (by kernel_rfl)) (fun _ _ _ h => h) (Or.inl ⟨by rfl, ?_⟩) ?_ ?_
                    rotate_left
                    · intro w'
                      go_simp
                      with_reducible rfl
                    rotate_left
                    · simp only [Act.put, List.setIfInBounds_toArray, List.set_cons_zero, List.set_cons_succ, i64_w, i32_w]
                      rfl
                    refine pure_ (i := 12) (N := some 19) (v := ?_) (a' := ?_) #[true, true, true, true, true, true, true, true, true, true, true, true, true, false] rfl rfl (any_of HT_.out (by kernel_rfl)) (fun _ _ _ h => h) (Or.inl ⟨by rfl, ?_⟩) ?_ ?_
                    rotate_left
                    · intro w'
                      go_simp
                      with_reducible rfl
                    rotate_left
                    · simp only [Act.put, List.setIfInBounds_toArray, List.set_cons_zero, List.set_cons_succ, i64_w, i32_w]
                      rfl
                    refine pure_ (i := 13) (N := some 3) (v := ?_) (a' := ?_) #[true, true, true, true, true, true, true, true, true, true, true, true, true, true] rfl rfl (any_of HT_.out (by kernel_rfl)) (fun _ _ _ h => h) (Or.inl ⟨by rfl, ?_⟩) ?_ ?_
                    rotate_left
                    · intro w'
                      go_simp
                      with_reducible rfl
                    rotate_left
                    · simp only [Act.put, List.setIfInBounds_toArray, List.set_cons_zero, List.set_cons_succ, i64_w, i32_w]
                      rfl
                    refine done_ (done_of HT_.out (by kernel_rfl)) ?_
                    have hcz20_0 : w19.cell? ⟨gb980, 0, none⟩ = some (.int .i64 a0_0) := (blk_cell BK980.out 0).trans rfl
                    have hcz20_1 : w19.cell? ⟨gb980, 1, none⟩ = some (.string a0_1) := (blk_cell BK980.out 1).trans rfl
                    have hcz20_2 : w19.cell? ⟨gb980, 2, none⟩ = some (.string a0_2) := (blk_cell BK980.out 2).trans rfl
                    have hcz20_3 : w19.cell? ⟨gb980, 3, none⟩ = some (.int .i64 a0_3) := (blk_cell BK980.out 3).trans rfl
                    have hfz20_0 := blk_frozen BK980.out 0
                    have hfz20_1 := blk_frozen BK980.out 1
                    have hfz20_2 := blk_frozen BK980.out 2
                    have hfz20_3 := blk_frozen BK980.out 3
                    try go_wp2
                    go_ret
                    exact ⟨rf, bl⟩
                  · rw [if_neg c13] at H
                    exact absurd H (by simp)
                · rw [if_neg c12] at H
                  exact absurd H (by simp)
              · rw [if_neg c11] at H
                have c11b0 : (a0_0 == 3) = false := beq_eq_false_iff_ne.mpr c11
                have c11b1 : (a0_0 != 3) = true := bne_iff_ne.mpr c11
                obtain rfl := Option.some.inj H
                go_enter Tryd.func78, Tryd.ntmps78
                try go_wp2_with (first | ((with_reducible refine gate_dst (N := 1) rfl ?_); refine box_event ?hg (N := 1) ?hd (cs := #[.int .i64 a0_0, .string a0_1, .string a0_2, .int .i64 a0_3]) (t := 91) ?hr ?_; (case hd => rfl); (case hg => rfl); (case hr => first | (go_simp; done) | (go_simp; rfl)); intro gb980 hg w21 hbox hb; have n0_ := Aside0.mk (below_step bl hb); have n1_ := Aside0.mk (hbox); have n2_ := Aside0.mk ((by rw [hg]; exact (below_size bl) : w.heap.size ≤ gb980)); have n3_ := Aside0.mk ((by rw [hg]; exact (below_size bl) : w.heap.size ≤ gb980)); clear HB; have HB := n0_; have BK980 := n1_; have GW980 := n2_; have GE980 := n3_; clear n0_ n1_ n2_ n3_; clear hb hbox hg; have hcz22_0 : w21.cell? ⟨gb980, 0, none⟩ = some (.int .i64 a0_0) := (blk_cell BK980.out 0).trans rfl; have hcz22_1 : w21.cell? ⟨gb980, 1, none⟩ = some (.string a0_1) := (blk_cell BK980.out 1).trans rfl; have hcz22_2 : w21.cell? ⟨gb980, 2, none⟩ = some (.string a0_2) := (blk_cell BK980.out 2).trans rfl; have hcz22_3 : w21.cell? ⟨gb980, 3, none⟩ = some (.int .i64 a0_3) := (blk_cell BK980.out 3).trans rfl; have hfz22_0 := blk_frozen BK980.out 0; have hfz22_1 := blk_frozen BK980.out 1; have hfz22_2 := blk_frozen BK980.out 2; have hfz22_3 := blk_frozen BK980.out 3) | ((with_reducible refine gate_callee (f := 117) rfl ?_); refine goesL_ (some 5) rfl rfl Tryd.func117 (by kernel_rfl) rfl #[.agg #[.int .i64 a0_0, .string a0_1, .string a0_2, .int .i64 a0_3]] rfl ma ?_; (with_reducible refine (impl_BanOk.calls k a0_0 a0_1 a0_2 a0_3 true _ A2.out).mono ?_); rintro e w23 ⟨rfl, hb⟩; refine ⟨_, rfl, ?_⟩; replace BK980 := kb BK980 hb; replace HB := Aside0.mk (below_step bl hb); (try clear hb); (try clear hb2); (try clear hk); (try clear hi)))
                replace BK980 := Aside0.mk (blk_drew BK980.out)
                replace HB := Aside0.mk (below_drew1 HB.out)
                refine start_ (n := 14) (S := fun w' => w'.cell? ⟨gb980, 0, none⟩ = some (.int .i64 a0_0) ∧ w'.cell? ⟨gb980, 1, none⟩ = some (.string a0_1) ∧ w'.cell? ⟨gb980, 2, none⟩ = some (.string a0_2) ∧ w'.cell? ⟨gb980, 3, none⟩ = some (.int .i64 a0_3)) (ds := []) #[false, false, false, false, false, false, false, false, false, false, false, false, false, false] (by kernel_rfl) rfl rfl ⟨(blk_cell BK980.out 0).trans rfl, (blk_cell BK980.out 1).trans rfl, (blk_cell BK980.out 2).trans rfl, (blk_cell BK980.out 3).trans rfl⟩ (fun hHeld => ?_); refine with_tabW impl_BanText.tab3 impl_BanText.bits3 (fun HT_ HW_ => ?_)
                generalize w23.drew = w24 at BK980 HB hHeld ⊢
                refine pure_ (i := 0) (N := some 7) (v := ?_) (a' := ?_) #[true, false, false, false, false, false, false, false, false, false, false, false, false, false] rfl rfl (any_of HT_.out (by kernel_rfl)) (fun _ _ _ h => h) (Or.inl ⟨by rfl, ?_⟩) ?_ ?_
                rotate_left
                · intro w'
                  go_simp
                  with_reducible rfl
                rotate_left
                · simp only [Act.put, List.setIfInBounds_toArray, List.set_cons_zero, List.set_cons_succ, i64_w, i32_w]
                  rfl
                refine pure_ (i := 5) (N := some 12) (v := ?_) (a' := ?_) #[true, false, false, false, false, true, false, false, false, false, false, false, false, false] rfl rfl (any_of HT_.out (by kernel_rfl)) (fun _ _ _ h => h) (Or.inl ⟨by rfl, ?_⟩) ?_ ?_
                rotate_left
                · intro w'
                  go_simp
                  with_reducible rfl
                rotate_left
                · simp only [Act.put, List.setIfInBounds_toArray, List.set_cons_zero, List.set_cons_succ, i64_w, i32_w]
                  rfl
                refine pure_ (i := 10) (N := some 17) (v := ?_) (a' := ?_) #[true, false, false, false, false, true, false, false, false, false, true, false, false, false] rfl rfl (any_of HT_.out (by kernel_rfl)) (fun _ _ _ h => h) (Or.inl ⟨by rfl, ?_⟩) ?_ ?_
                rotate_left
                · intro w'
                  go_simp
                  with_reducible rfl
                rotate_left
                · simp only [Act.put, List.setIfInBounds_toArray, List.set_cons_zero, List.set_cons_succ, i64_w, i32_w]
                  rfl
                refine take_ (i := 1) (N := some 8) (v := ?_) (a' := ?_) #[true, true, false, false, false, true, false, false, false, false, true, false, false, false] rfl rfl (take_ofW HT_.out HW_.out (by kernel_rfl)) (fun _ _ _ h => h) (Or.inl ⟨by rfl, ?_⟩) hHeld ?_ ?_
                rotate_left
                · rintro w' ⟨s0, s1, s2, s3⟩
                  go_simp
                  with_reducible rfl
                rotate_left
                · simp only [Act.put, List.setIfInBounds_toArray, List.set_cons_zero, List.set_cons_succ, i64_w, i32_w]
                  rfl
                refine take_ (i := 6) (N := some 13) (v := ?_) (a' := ?_) #[true, true, false, false, false, true, true, false, false, false, true, false, false, false] rfl rfl (take_ofW HT_.out HW_.out (by kernel_rfl)) (fun _ _ _ h => h) (Or.inl ⟨by rfl, ?_⟩) hHeld ?_ ?_
                rotate_left
                · rintro w' ⟨s0, s1, s2, s3⟩
                  go_simp
                  with_reducible rfl
                rotate_left
                · simp only [Act.put, List.setIfInBounds_toArray, List.set_cons_zero, List.set_cons_succ, i64_w, i32_w]
                  rfl
                refine take_ (i := 11) (N := some 18) (v := ?_) (a' := ?_) #[true, true, false, false, false, true, true, false, false, false, true, true, false, false] rfl rfl (take_ofW HT_.out HW_.out (by kernel_rfl)) (fun _ _ _ h => h) (Or.inl ⟨by rfl, ?_⟩) hHeld ?_ ?_
                rotate_left
                · rintro w' ⟨s0, s1, s2, s3⟩
                  go_simp
                  with_reducible rfl
                rotate_left
                · simp only [Act.put, List.setIfInBounds_toArray, List.set_cons_zero, List.set_cons_succ, i64_w, i32_w]
                  rfl
                refine one_ (i := 2) (N := some 9) #[true, true, true, false, false, true, true, false, false, false, true, true, false, false] rfl rfl (one_of HT_.out (by kernel_rfl)) (by decide) (fun K hK => ?_)
                refine goes_ Tryd.func118 (by kernel_rfl) rfl #[.int .i64 a0_0] (by rfl) rfl rfl ma ?_
                with_reducible refine (impl_banWord.calls a0_0 t982 _ A4.out).mono ?_
                rintro e w25 ⟨rfl, hb⟩
                refine ⟨_, rfl, ?_⟩
                replace BK980 := kb BK980 hb
                replace HB := Aside0.mk (below_step bl hb)
                (try clear hb)
                (try clear hb2)
                (try clear hk)
                (try clear hi)
                refine hK.out _ _ ⟨(blk_cell BK980.out 0).trans rfl, (blk_cell BK980.out 1).trans rfl, (blk_cell BK980.out 2).trans rfl, (blk_cell BK980.out 3).trans rfl⟩ (fun hHeld => ?_)
                clear hK K
                refine norm_ (a' := ?_) ?_ ?_
                rotate_left
                · show Act.put _ (some 9) _ = _
                  simp only [Act.put, List.setIfInBounds_toArray, List.set_cons_zero, List.set_cons_succ, i64_w, i32_w]
                  rfl
                refine pure_ (i := 3) (N := some 10) (v := ?_) (a' := ?_) #[true, true, true, true, false, true, true, false, false, false, true, true, false, false] rfl rfl (any_of HT_.out (by kernel_rfl)) (fun _ _ _ h => h) (Or.inl ⟨by rfl, ?_⟩) ?_ ?_
                rotate_left
                · intro w'
                  go_simp
                  with_reducible rfl
                rotate_left
                · simp only [Act.put, List.setIfInBounds_toArray, List.set_cons_zero, List.set_cons_succ, i64_w, i32_w]
                  rfl
                refine pure_ (i := 4) (N := some 11) (v := ?_) (a' := ?_) #[true, true, true, true, true, true, true, false, false, false, true, true, false, false] rfl rfl (any_of HT_.out (by kernel_rfl)) (fun _ _ _ h => h) (Or.inl ⟨by rfl, ?_⟩) ?_ ?_
                rotate_left
                · intro w'
                  go_simp
                  with_reducible rfl
                rotate_left
                · simp only [Act.put, List.setIfInBounds_toArray, List.set_cons_zero, List.set_cons_succ, i64_w, i32_w]
                  rfl
                refine one_ (i := 7) (N := some 14) #[true, true, true, true, true, true, true, true, false, false, true, true, false, false] rfl rfl (one_of HT_.out (by kernel_rfl)) (by decide) (fun K hK => ?_)
                refine goes_ Tryd.func89 (by kernel_rfl) rfl #[.int .i64 a0_3] (by rfl) rfl rfl ma ?_
                with_reducible refine (impl_NumText.calls a0_3 t983 _ ?side1 A7.out).mono ?_
                (case side1 => exact GLOBT.below HGT.out bl)
                rintro e w26 ⟨rfl, hb⟩
                refine ⟨_, rfl, ?_⟩
                replace BK980 := kb BK980 hb
                replace HB := Aside0.mk (below_step bl hb)
                (try clear hb)
                (try clear hb2)
                (try clear hk)
                (try clear hi)
                refine hK.out _ _ ⟨(blk_cell BK980.out 0).trans rfl, (blk_cell BK980.out 1).trans rfl, (blk_cell BK980.out 2).trans rfl, (blk_cell BK980.out 3).trans rfl⟩ (fun hHeld => ?_)
                clear hK K
                refine norm_ (a' := ?_) ?_ ?_
                rotate_left
                · show Act.put _ (some 14) _ = _
                  simp only [Act.put, List.setIfInBounds_toArray, List.set_cons_zero, List.set_cons_succ, i64_w, i32_w]
                  rfl
                refine pure_ (i := 8) (N := some 15) (v := ?_) (a' := ?_) #[true, true, true, true, true, true, true, true, true, false, true, true, false, false] rfl rfl (any_of HT_.out (by kernel_rfl)) (fun _ _ _ h => h) (Or.inl ⟨by rfl, ?_⟩) ?_ ?_
                rotate_left
                · intro w'
                  go_simp
                  with_reducible rfl
                rotate_left
                · simp only [Act.put, List.setIfInBounds_toArray, List.set_cons_zero, List.set_cons_succ, i64_w, i32_w]
                  rfl
                refine pure_ (i := 9) (N := some 16) (v := ?_) (a' := ?_) #[true, true, true, true, true, true, true, true, true, true, true, true, false, false] rfl rfl (any_of HT_.out (by kernel_rfl)) (fun _ _ _ h => h) (Or.inl ⟨by rfl, ?_⟩) ?_ ?_
                rotate_left
                · intro w'
                  go_simp
                  with_reducible rfl
                rotate_left
                · simp only [Act.put, List.setIfInBounds_toArray, List.set_cons_zero, List.set_cons_succ, i64_w, i32_w]
                  rfl
                refine pure_ (i := 12) (N := some 19) (v := ?_) (a' := ?_) #[true, true, true, true, true, true, true, true, true, true, true, true, true, false] rfl rfl (any_of HT_.out (by kernel_rfl)) (fun _ _ _ h => h) (Or.inl ⟨by rfl, ?_⟩) ?_ ?_
                rotate_left
                · intro w'
                  go_simp
                  with_reducible rfl
                rotate_left
                · simp only [Act.put, List.setIfInBounds_toArray, List.set_cons_zero, List.set_cons_succ, i64_w, i32_w]
                  rfl
                refine pure_ (i := 13) (N := some 3) (v := ?_) (a' := ?_) #[true, true, true, true, true, true, true, true, true, true, true, true, true, true] rfl rfl (any_of HT_.out (by kernel_rfl)) (fun _ _ _ h => h) (Or.inl ⟨by rfl, ?_⟩) ?_ ?_
                rotate_left
                · intro w'
                  go_simp
                  with_reducible rfl
                rotate_left
                · simp only [Act.put, List.setIfInBounds_toArray, List.set_cons_zero, List.set_cons_succ, i64_w, i32_w]
                  rfl
                refine done_ (done_of HT_.out (by kernel_rfl)) ?_
                have hcz27_0 : w26.cell? ⟨gb980, 0, none⟩ = some (.int .i64 a0_0) := (blk_cell BK980.out 0).trans rfl
                have hcz27_1 : w26.cell? ⟨gb980, 1, none⟩ = some (.string a0_1) := (blk_cell BK980.out 1).trans rfl
                have hcz27_2 : w26.cell? ⟨gb980, 2, none⟩ = some (.string a0_2) := (blk_cell BK980.out 2).trans rfl
                have hcz27_3 : w26.cell? ⟨gb980, 3, none⟩ = some (.int .i64 a0_3) := (blk_cell BK980.out 3).trans rfl
                have hfz27_0 := blk_frozen BK980.out 0
                have hfz27_1 := blk_frozen BK980.out 1
                have hfz27_2 := blk_frozen BK980.out 2
                have hfz27_3 := blk_frozen BK980.out 3
                try go_wp2
                go_ret
                exact ⟨rf, bl⟩
            · rw [if_neg c10] at H
              exact absurd H (by simp)
          · rw [if_neg c9] at H
            exact absurd H (by simp)
        · rw [if_neg c8] at H
          exact absurd H (by simp)
      · rw [if_neg c6] at H
        exact absurd H (by simp)
    · rw [if_neg c5] at H
      exact absurd H (by simp)
  · replace c3 := Bool.eq_false_iff.mpr c3
    subst c3
    have H1 : (some (⟨#[]⟩ : ByteArray)) = some r := by rw [if_neg (show ¬ (false = true) by decide)] at H; exact H
    clear H
    have H := H1
    clear H1
    obtain rfl := Option.some.inj H
    go_enter Tryd.func78, Tryd.ntmps78
    go_wp2_with (first | ((with_reducible refine gate_dst (N := 1) rfl ?_); refine box_event ?hg (N := 1) ?hd (cs := #[.int .i64 a0_0, .string a0_1, .string a0_2, .int .i64 a0_3]) (t := 91) ?hr ?_; (case hd => rfl); (case hg => rfl); (case hr => first | (go_simp; done) | (go_simp; rfl)); intro gb980 hg w28 hbox hb; have n0_ := Aside0.mk (below_step bl hb); have n1_ := Aside0.mk (hbox); have n2_ := Aside0.mk ((by rw [hg]; exact (below_size bl) : w.heap.size ≤ gb980)); have n3_ := Aside0.mk ((by rw [hg]; exact (below_size bl) : w.heap.size ≤ gb980)); clear HB; have HB := n0_; have BK980 := n1_; have GW980 := n2_; have GE980 := n3_; clear n0_ n1_ n2_ n3_; clear hb hbox hg; have hcz29_0 : w28.cell? ⟨gb980, 0, none⟩ = some (.int .i64 a0_0) := (blk_cell BK980.out 0).trans rfl; have hcz29_1 : w28.cell? ⟨gb980, 1, none⟩ = some (.string a0_1) := (blk_cell BK980.out 1).trans rfl; have hcz29_2 : w28.cell? ⟨gb980, 2, none⟩ = some (.string a0_2) := (blk_cell BK980.out 2).trans rfl; have hcz29_3 : w28.cell? ⟨gb980, 3, none⟩ = some (.int .i64 a0_3) := (blk_cell BK980.out 3).trans rfl; have hfz29_0 := blk_frozen BK980.out 0; have hfz29_1 := blk_frozen BK980.out 1; have hfz29_2 := blk_frozen BK980.out 2; have hfz29_3 := blk_frozen BK980.out 3) | ((with_reducible refine gate_callee (f := 117) rfl ?_); refine goesL_ (some 5) rfl rfl Tryd.func117 (by kernel_rfl) rfl #[.agg #[.int .i64 a0_0, .string a0_1, .string a0_2, .int .i64 a0_3]] rfl ma ?_; (with_reducible refine (impl_BanOk.calls k a0_0 a0_1 a0_2 a0_3 false _ A2.out).mono ?_); rintro e w30 ⟨rfl, hb⟩; refine ⟨_, rfl, ?_⟩; replace BK980 := kb BK980 hb; replace HB := Aside0.mk (below_step bl hb); (try clear hb); (try clear hb2); (try clear hk); (try clear hi)))
    go_ret
    exact ⟨rf, bl⟩

/-! ### laws_FnExactBanText: function 14 -/
def laws_FnExactBanText.f (k : Nat) (a0_0 : Int) (a0_1 : ByteArray) (a0_2 : ByteArray) (a0_3 : Int) : Option (Bool) := (laws_szBan.f a0_0 a0_1 a0_2 a0_3 1048576).bind fun t985 => (if t985 < 0 then (some true) else ((laws_toBan.f a0_0 a0_1 a0_2 a0_3).bind fun bt986 => ((spec_BanText.f k bt986.1 bt986.2.1 bt986.2.2.1 bt986.2.2.2).bind fun t990 => ((laws_toBan.f a0_0 a0_1 a0_2 a0_3).bind fun bt991 => ((impl_BanText.f k bt991.1 bt991.2.1 bt991.2.2.1 bt991.2.2.2).bind fun t995 => (if t995.toList = t990.toList then (some true) else (some false)))))))
theorem laws_FnExactBanText.mono : ∀ a0 a1 a2 a3 k, LeO (laws_FnExactBanText.f k a0 a1 a2 a3) (laws_FnExactBanText.f (k + 1) a0 a1 a2 a3) := by
  intro a0 a1 a2 a3 k
  unfold laws_FnExactBanText.f
  repeat' first
      | (with_reducible exact impl_BanText.mono _ _ _ _ _)
      | (with_reducible exact spec_BanText.mono _ _ _ _ _)
      | (with_reducible exact LeO.refl _)
      | (with_reducible exact LeO.none _)
      | (with_reducible refine LeO.ite ?_ ?_)
      | (with_reducible refine LeO.bind ?_ (fun _ => ?_))
      | exact impl_BanText.mono _ _ _ _ _
      | exact spec_BanText.mono _ _ _ _ _
      | exact LeO.none _
      | refine LeO.ite ?_ ?_
      | refine LeO.bind ?_ (fun _ => ?_)
set_option maxHeartbeats 8000000 in
set_option maxRecDepth 100000 in
theorem laws_FnExactBanText.calls (k : Nat) (a0_0 : Int) (a0_1 : ByteArray) (a0_2 : ByteArray) (a0_3 : Int) (r : Bool) (w : World) (hGT : GLOBT w) (ht_ : r = true) (h : laws_FnExactBanText.f k a0_0 a0_1 a0_2 a0_3 = some r) :
    Calls Tryd.prog 14 #[.agg #[.int .i64 a0_0, .string a0_1, .string a0_2, .int .i64 a0_3]] w fun e w' => e = .returned (.bool r) ∧ Below w.heap.size w w' := by
  have hu88 := Tryd.underlying88
  have HGT := Aside0.mk hGT
  clear hGT
  have HB := Aside0.mk (Below.refl w.heap.size w)
  have H : ((laws_szBan.f a0_0 a0_1 a0_2 a0_3 1048576).bind fun t985 => (if t985 < 0 then (some true) else ((laws_toBan.f a0_0 a0_1 a0_2 a0_3).bind fun bt986 => ((spec_BanText.f k bt986.1 bt986.2.1 bt986.2.2.1 bt986.2.2.2).bind fun t990 => ((laws_toBan.f a0_0 a0_1 a0_2 a0_3).bind fun bt991 => ((impl_BanText.f k bt991.1 bt991.2.1 bt991.2.2.1 bt991.2.2.2).bind fun t995 => (if t995.toList = t990.toList then (some true) else (some false)))))))) = some r := h
  clear h
  replace H := Option.bind_eq_some_iff.mp H
  obtain ⟨t985, A20, H⟩ := H
  replace H : (if t985 < 0 then (some true) else ((laws_toBan.f a0_0 a0_1 a0_2 a0_3).bind fun bt986 => ((spec_BanText.f k bt986.1 bt986.2.1 bt986.2.2.1 bt986.2.2.2).bind fun t990 => ((laws_toBan.f a0_0 a0_1 a0_2 a0_3).bind fun bt991 => ((impl_BanText.f k bt991.1 bt991.2.1 bt991.2.2.1 bt991.2.2.2).bind fun t995 => (if t995.toList = t990.toList then (some true) else (some false))))))) = some r := H
  have A2 := Aside0.mk A20
  clear A20
  by_cases c3 : t985 < 0
  · rw [if_pos c3] at H
    have c3b0 : decide (t985 < 0) = true := decide_eq_true c3
    clear c3
    obtain rfl := Option.some.inj H
    go_enter Tryd.func14, Tryd.ntmps14
    go_wp2_with (first | ((with_reducible refine gate_dst (N := 1) rfl ?_); refine box_event ?hg (N := 1) ?hd (cs := #[.int .i64 a0_0, .string a0_1, .string a0_2, .int .i64 a0_3]) (t := 88) ?hr ?_; (case hd => rfl); (case hg => rfl); (case hr => first | (go_simp; done) | (go_simp; rfl)); intro gb984 hg w4 hbox hb; have n0_ := Aside0.mk (below_step bl hb); have n1_ := Aside0.mk (hbox); have n2_ := Aside0.mk ((by rw [hg]; exact (below_size bl) : w.heap.size ≤ gb984)); have n3_ := Aside0.mk ((by rw [hg]; exact (below_size bl) : w.heap.size ≤ gb984)); clear HB; have HB := n0_; have BK984 := n1_; have GW984 := n2_; have GE984 := n3_; clear n0_ n1_ n2_ n3_; clear hb hbox hg; have hcz5_0 : w4.cell? ⟨gb984, 0, none⟩ = some (.int .i64 a0_0) := (blk_cell BK984.out 0).trans rfl; have hcz5_1 : w4.cell? ⟨gb984, 1, none⟩ = some (.string a0_1) := (blk_cell BK984.out 1).trans rfl; have hcz5_2 : w4.cell? ⟨gb984, 2, none⟩ = some (.string a0_2) := (blk_cell BK984.out 2).trans rfl; have hcz5_3 : w4.cell? ⟨gb984, 3, none⟩ = some (.int .i64 a0_3) := (blk_cell BK984.out 3).trans rfl; have hfz5_0 := blk_frozen BK984.out 0; have hfz5_1 := blk_frozen BK984.out 1; have hfz5_2 := blk_frozen BK984.out 2; have hfz5_3 := blk_frozen BK984.out 3) | ((with_reducible refine gate_callee (f := 75) rfl ?_); refine goesL_ (some 8) rfl rfl Tryd.func75 (by kernel_rfl) rfl #[.agg #[.int .i64 a0_0, .string a0_1, .string a0_2, .int .i64 a0_3], .int .i64 1048576] rfl ma ?_; (with_reducible refine (laws_szBan.calls a0_0 a0_1 a0_2 a0_3 1048576 t985 _ A2.out).mono ?_); rintro e w6 ⟨rfl, hb⟩; refine ⟨_, rfl, ?_⟩; replace BK984 := kb BK984 hb; replace HB := Aside0.mk (below_step bl hb); (try clear hb); (try clear hb2); (try clear hk); (try clear hi)))
    go_ret
    exact ⟨rf, bl⟩
  · rw [if_neg c3] at H
    have c3b0 : decide (t985 < 0) = false := decide_eq_false c3
    clear c3
    replace H := Option.bind_eq_some_iff.mp H
    obtain ⟨⟨t986, t987, t988, t989⟩, A70, H⟩ := H
    replace H : ((spec_BanText.f k t986 t987 t988 t989).bind fun t990 => ((laws_toBan.f a0_0 a0_1 a0_2 a0_3).bind fun bt991 => ((impl_BanText.f k bt991.1 bt991.2.1 bt991.2.2.1 bt991.2.2.2).bind fun t995 => (if t995.toList = t990.toList then (some true) else (some false))))) = some r := H
    have A7 := Aside0.mk A70
    clear A70
    replace H := Option.bind_eq_some_iff.mp H
    obtain ⟨t990, A80, H⟩ := H
    replace H : ((laws_toBan.f a0_0 a0_1 a0_2 a0_3).bind fun bt991 => ((impl_BanText.f k bt991.1 bt991.2.1 bt991.2.2.1 bt991.2.2.2).bind fun t995 => (if t995.toList = t990.toList then (some true) else (some false)))) = some r := H
    have A8 := Aside0.mk A80
    clear A80
    replace H := Option.bind_eq_some_iff.mp H
    obtain ⟨⟨t991, t992, t993, t994⟩, A90, H⟩ := H
    replace H : ((impl_BanText.f k t991 t992 t993 t994).bind fun t995 => (if t995.toList = t990.toList then (some true) else (some false))) = some r := H
    have A9 := Aside0.mk A90
    clear A90
    replace H := Option.bind_eq_some_iff.mp H
    obtain ⟨t995, A100, H⟩ := H
    replace H : (if t995.toList = t990.toList then (some true) else (some false)) = some r := H
    have A10 := Aside0.mk A100
    clear A100
    by_cases c11 : t995.toList = t990.toList
    · rw [if_pos c11] at H
      have c11b0 : (t995.toList == t990.toList) = true := beq_iff_eq.mpr c11
      have c11b1 : (t995.toList != t990.toList) = false := bne_eq_false_iff_eq.mpr c11
      clear c11
      obtain rfl := Option.some.inj H
      go_enter Tryd.func14, Tryd.ntmps14
      go_wp2_with (first | ((with_reducible refine gate_dst (N := 1) rfl ?_); refine box_event ?hg (N := 1) ?hd (cs := #[.int .i64 a0_0, .string a0_1, .string a0_2, .int .i64 a0_3]) (t := 88) ?hr ?_; (case hd => rfl); (case hg => rfl); (case hr => first | (go_simp; done) | (go_simp; rfl)); intro gb984 hg w12 hbox hb; have n0_ := Aside0.mk (below_step bl hb); have n1_ := Aside0.mk (hbox); have n2_ := Aside0.mk ((by rw [hg]; exact (below_size bl) : w.heap.size ≤ gb984)); have n3_ := Aside0.mk ((by rw [hg]; exact (below_size bl) : w.heap.size ≤ gb984)); clear HB; have HB := n0_; have BK984 := n1_; have GW984 := n2_; have GE984 := n3_; clear n0_ n1_ n2_ n3_; clear hb hbox hg; have hcz13_0 : w12.cell? ⟨gb984, 0, none⟩ = some (.int .i64 a0_0) := (blk_cell BK984.out 0).trans rfl; have hcz13_1 : w12.cell? ⟨gb984, 1, none⟩ = some (.string a0_1) := (blk_cell BK984.out 1).trans rfl; have hcz13_2 : w12.cell? ⟨gb984, 2, none⟩ = some (.string a0_2) := (blk_cell BK984.out 2).trans rfl; have hcz13_3 : w12.cell? ⟨gb984, 3, none⟩ = some (.int .i64 a0_3) := (blk_cell BK984.out 3).trans rfl; have hfz13_0 := blk_frozen BK984.out 0; have hfz13_1 := blk_frozen BK984.out 1; have hfz13_2 := blk_frozen BK984.out 2; have hfz13_3 := blk_frozen BK984.out 3) | ((with_reducible refine gate_callee (f := 75) rfl ?_); refine goesL_ (some 8) rfl rfl Tryd.func75 (by kernel_rfl) rfl #[.agg #[.int .i64 a0_0, .string a0_1, .string a0_2, .int .i64 a0_3], .int .i64 1048576] rfl ma ?_; (with_reducible refine (laws_szBan.calls a0_0 a0_1 a0_2 a0_3 1048576 t985 _ A2.out).mono ?_); rintro e w14 ⟨rfl, hb⟩; refine ⟨_, rfl, ?_⟩; replace BK984 := kb BK984 hb; replace HB := Aside0.mk (below_step bl hb); (try clear hb); (try clear hb2); (try clear hk); (try clear hi); have hcz15_0 : w14.cell? ⟨gb984, 0, none⟩ = some (.int .i64 a0_0) := (blk_cell BK984.out 0).trans rfl; have hcz15_1 : w14.cell? ⟨gb984, 1, none⟩ = some (.string a0_1) := (blk_cell BK984.out 1).trans rfl; have hcz15_2 : w14.cell? ⟨gb984, 2, none⟩ = some (.string a0_2) := (blk_cell BK984.out 2).trans rfl; have hcz15_3 : w14.cell? ⟨gb984, 3, none⟩ = some (.int .i64 a0_3) := (blk_cell BK984.out 3).trans rfl; have hfz15_0 := blk_frozen BK984.out 0; have hfz15_1 := blk_frozen BK984.out 1; have hfz15_2 := blk_frozen BK984.out 2; have hfz15_3 := blk_frozen BK984.out 3) | ((with_reducible refine gate_callee (f := 77) rfl ?_); refine goesL_ (some 12) rfl rfl Tryd.func77 (by kernel_rfl) rfl #[.agg #[.int .i64 a0_0, .string a0_1, .string a0_2, .int .i64 a0_3]] rfl ma ?_; (with_reducible refine (laws_toBan.calls a0_0 a0_1 a0_2 a0_3 t986 t987 t988 t989 _ A7.out).mono ?_); rintro e w16 ⟨rfl, hb⟩; refine ⟨_, rfl, ?_⟩; replace BK984 := kb BK984 hb; replace HB := Aside0.mk (below_step bl hb); (try clear hb); (try clear hb2); (try clear hk); (try clear hi)) | ((with_reducible refine gate_callee (f := 76) rfl ?_); refine goesL_ (some 13) rfl rfl Tryd.func76 (by kernel_rfl) rfl #[.agg #[.int .i64 t986, .string t987, .string t988, .int .i64 t989]] rfl ma ?_; (with_reducible refine (spec_BanText.calls k t986 t987 t988 t989 t990 _ A8.out).mono ?_); rintro e w17 ⟨rfl, hb⟩; refine ⟨_, rfl, ?_⟩; replace BK984 := kb BK984 hb; replace HB := Aside0.mk (below_step bl hb); (try clear hb); (try clear hb2); (try clear hk); (try clear hi); have hcz18_0 : w17.cell? ⟨gb984, 0, none⟩ = some (.int .i64 a0_0) := (blk_cell BK984.out 0).trans rfl; have hcz18_1 : w17.cell? ⟨gb984, 1, none⟩ = some (.string a0_1) := (blk_cell BK984.out 1).trans rfl; have hcz18_2 : w17.cell? ⟨gb984, 2, none⟩ = some (.string a0_2) := (blk_cell BK984.out 2).trans rfl; have hcz18_3 : w17.cell? ⟨gb984, 3, none⟩ = some (.int .i64 a0_3) := (blk_cell BK984.out 3).trans rfl; have hfz18_0 := blk_frozen BK984.out 0; have hfz18_1 := blk_frozen BK984.out 1; have hfz18_2 := blk_frozen BK984.out 2; have hfz18_3 := blk_frozen BK984.out 3) | ((with_reducible refine gate_callee (f := 77) rfl ?_); refine goesL_ (some 15) rfl rfl Tryd.func77 (by kernel_rfl) rfl #[.agg #[.int .i64 a0_0, .string a0_1, .string a0_2, .int .i64 a0_3]] rfl ma ?_; (with_reducible refine (laws_toBan.calls a0_0 a0_1 a0_2 a0_3 t991 t992 t993 t994 _ A9.out).mono ?_); rintro e w19 ⟨rfl, hb⟩; refine ⟨_, rfl, ?_⟩; replace BK984 := kb BK984 hb; replace HB := Aside0.mk (below_step bl hb); (try clear hb); (try clear hb2); (try clear hk); (try clear hi)) | ((with_reducible refine gate_callee (f := 78) rfl ?_); refine goesL_ (some 16) rfl rfl Tryd.func78 (by kernel_rfl) rfl #[.agg #[.int .i64 t991, .string t992, .string t993, .int .i64 t994]] rfl ma ?_; (with_reducible refine (impl_BanText.calls k t991 t992 t993 t994 t995 _ ?side1 A10.out).mono ?_); (case side1 => exact GLOBT.below HGT.out bl); rintro e w20 ⟨rfl, hb⟩; refine ⟨_, rfl, ?_⟩; replace BK984 := kb BK984 hb; replace HB := Aside0.mk (below_step bl hb); (try clear hb); (try clear hb2); (try clear hk); (try clear hi)))
      go_ret
      exact ⟨rf, bl⟩
    · rw [if_neg c11] at H
      have c11b0 : (t995.toList == t990.toList) = false := beq_eq_false_iff_ne.mpr c11
      have c11b1 : (t995.toList != t990.toList) = true := bne_iff_ne.mpr c11
      exact absurd (Option.some.inj H) (by rw [ht_]; decide)

end Go.Proofs.YtogdmlgbdbgpkaaDoor.All
