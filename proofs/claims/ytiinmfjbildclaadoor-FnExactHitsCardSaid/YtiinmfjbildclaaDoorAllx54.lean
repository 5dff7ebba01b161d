-- Written by a program of this session (wip/tools/hprint.py) out of the translation. Lean checks it.
import Derived.Test.YtiinmfjbildclaaDoorAllx0
import Derived.Test.YtiinmfjbildclaaDoorAllx5
import Derived.Test.YtiinmfjbildclaaDoorAllx21
import Derived.Test.YtiinmfjbildclaaDoorAllx22
import Derived.Test.YtiinmfjbildclaaDoorAllx49
import Derived.Test.YtiinmfjbildclaaDoorAllx52
namespace Go.Proofs.YtiinmfjbildclaaDoor.All
open Go.RowKit Go.Proofs.YtiinmfjbildclaaDoorW.PrintWords Go.Proofs.YtiinmfjbildclaaDoorW.PrintLast Go.Proofs.YtiinmfjbildclaaDoorW.PrintMore
attribute [local go_sem] max2_int min2_int max_two min_two max_three min_three max_four min_four   -- for this text's walks alone
set_option linter.unusedVariables false
set_option linter.unusedSimpArgs false

/-! ### impl_BanOk: function 146 -/
def impl_BanOk.j0 : Nat → Int → Bool → Int → ByteArray → ByteArray → Int → Option (Bool)
 | 0, _, _, _, _, _, _ => none
 | k + 1, x8, x9, x1238000, x1238001, x1238002, x1238003 => if x9 = true then ((impl_pathOk.f k x1238001).bind fun t1239 => (if t1239 = true then (some (x1238002.toList == ([] : List UInt8))) else (some false))) else (if x8 = 3 then ((impl_TokenOk.f k x1238001).bind fun t1240 => (if t1240 = true then ((impl_ValueOk.f k x1238002).bind fun t1241 => (some t1241)) else (some false))) else (some false))
def impl_BanOk.f (k : Nat) (a0_0 : Int) (a0_1 : ByteArray) (a0_2 : ByteArray) (a0_3 : Int) : Option (Bool) := (impl_isTime.f a0_3).bind fun t1238 => (if t1238 = true then (if a0_0 = 1 then (impl_BanOk.j0 k a0_0 (a0_0 == 1) a0_0 a0_1 a0_2 a0_3) else (impl_BanOk.j0 k a0_0 (a0_0 == 2) a0_0 a0_1 a0_2 a0_3)) else (some false))
theorem impl_BanOk.mono_l : ∀ k, (∀ y0 y1 y2 y3 y4 y5, LeO (impl_BanOk.j0 k y0 y1 y2 y3 y4 y5) (impl_BanOk.j0 (k + 1) y0 y1 y2 y3 y4 y5))
 | 0 => fun _ _ _ _ _ _ r h => by simp [impl_BanOk.j0] at h
 | k + 1 => by
  have ih0 := impl_BanOk.mono_l k
  ·intro y0 y1 y2 y3 y4 y5
   unfold impl_BanOk.j0
   repeat' first
   | (with_reducible exact ih0 _ _ _ _ _ _)
   | (with_reducible exact impl_TokenOk.mono _ _)
   | (with_reducible exact impl_ValueOk.mono _ _)
   | (with_reducible exact impl_pathOk.mono _ _)
   | (with_reducible exact LeO.refl _)
   | (with_reducible exact LeO.none _)
   | (with_reducible refine LeO.ite ?_ ?_)
   | (with_reducible refine LeO.bind ?_ (fun _ => ?_))
   | exact ih0 _ _ _ _ _ _
   | exact impl_TokenOk.mono _ _
   | exact impl_ValueOk.mono _ _
   | exact impl_pathOk.mono _ _
   | exact LeO.none _
   | refine LeO.ite ?_ ?_
   | refine LeO.bind ?_ (fun _ => ?_)
theorem impl_BanOk.mono : ∀ a0 a1 a2 a3 k, LeO (impl_BanOk.f k a0 a1 a2 a3) (impl_BanOk.f (k + 1) a0 a1 a2 a3) := by
 intro a0 a1 a2 a3 k
 have ih0 := impl_BanOk.mono_l k
 unfold impl_BanOk.f
 repeat' first
   | (with_reducible exact ih0 _ _ _ _ _ _)
   | (with_reducible exact impl_TokenOk.mono _ _)
   | (with_reducible exact impl_ValueOk.mono _ _)
   | (with_reducible exact impl_pathOk.mono _ _)
   | (with_reducible exact LeO.refl _)
   | (with_reducible exact LeO.none _)
   | (with_reducible refine LeO.ite ?_ ?_)
   | (with_reducible refine LeO.bind ?_ (fun _ => ?_))
   | exact ih0 _ _ _ _ _ _
   | exact impl_TokenOk.mono _ _
   | exact impl_ValueOk.mono _ _
   | exact impl_pathOk.mono _ _
   | exact LeO.none _
   | refine LeO.ite ?_ ?_
   | refine LeO.bind ?_ (fun _ => ?_)
set_option maxHeartbeats 8000000 in
set_option maxRecDepth 100000 in
theorem impl_BanOk.calls (k : Nat) (a0_0 : Int) (a0_1 : ByteArray) (a0_2 : ByteArray) (a0_3 : Int) (r : Bool) (w : World) (h : impl_BanOk.f k a0_0 a0_1 a0_2 a0_3 = some r) :
  Calls Tryd.prog 146 #[.agg #[.int .i64 a0_0, .string a0_1, .string a0_2, .int .i64 a0_3]] w fun e w' => e = .returned (.bool r) ∧ Below w.heap.size w w' := by
 have hu84 := Tryd.underlying84
 have HB := am (Below.refl w.heap.size w)
 have H : ((impl_isTime.f a0_3).bind fun t1238 => (if t1238 = true then (if a0_0 = 1 then (impl_BanOk.j0 k a0_0 (a0_0 == 1) a0_0 a0_1 a0_2 a0_3) else (impl_BanOk.j0 k a0_0 (a0_0 == 2) a0_0 a0_1 a0_2 a0_3)) else (some false))) = some r := h
 clear h
 replace H := ob H
 obtain ⟨t1238, A20, H⟩ := H
 replace H : (if t1238 = true then (if a0_0 = 1 then (impl_BanOk.j0 k a0_0 (a0_0 == 1) a0_0 a0_1 a0_2 a0_3) else (impl_BanOk.j0 k a0_0 (a0_0 == 2) a0_0 a0_1 a0_2 a0_3)) else (some false)) = some r := H
 have A2 := am A20
 clear A20
 by_cases c3 : t1238 = true
 ·subst c3
  have H1 : (if a0_0 = 1 then (impl_BanOk.j0 k a0_0 (a0_0 == 1) a0_0 a0_1 a0_2 a0_3) else (impl_BanOk.j0 k a0_0 (a0_0 == 2) a0_0 a0_1 a0_2 a0_3)) = some r := by rw [if_pos rfl] at H; exact H
  clear H
  have H := H1
  clear H1
  have HC4 := am H
  clear H
  go_enter Tryd.func146, Tryd.ntmps146
  go_upto_if 9 with (first | ((with_reducible refine gate_dst (N := 1) rfl ?_); refine box_event ?hg (N := 1) ?hd (cs := #[.int .i64 a0_0, .string a0_1, .string a0_2, .int .i64 a0_3]) (t := 84) ?hr ?_; (case hd => rfl); (case hg => rfl); (case hr => first | (go_simp; done) | (go_simp; rfl)); intro gb1237 hg w5 hbox hb; have n0_ := am (below_step bl hb); have n1_ := am (hbox); have n2_ := am (sz hg : w.heap.size ≤ gb1237); have n3_ := am (sz hg : w.heap.size ≤ gb1237); clear HB; have HB := n0_; have BK1237 := n1_; have GW1237 := n2_; have GE1237 := n3_; clear n0_ n1_ n2_ n3_; clear hb hbox hg; have hcz6_0 : w5.cell? ⟨gb1237, 0, none⟩ = some (.int .i64 a0_0) := bc BK1237; have hcz6_1 : w5.cell? ⟨gb1237, 1, none⟩ = some (.string a0_1) := bc BK1237; have hcz6_2 : w5.cell? ⟨gb1237, 2, none⟩ = some (.string a0_2) := bc BK1237; have hcz6_3 : w5.cell? ⟨gb1237, 3, none⟩ = some (.int .i64 a0_3) := bc BK1237; have hfz6_0 := blk_frozen BK1237.out 0; have hfz6_1 := blk_frozen BK1237.out 1; have hfz6_2 := blk_frozen BK1237.out 2; have hfz6_3 := blk_frozen BK1237.out 3) | ((with_reducible refine gate_callee (f := 143) rfl ?_); refine goesL_ (some 5) rfl rfl Tryd.func143 (by kernel_rfl) rfl #[.int .i64 a0_3] rfl ma ?_; (with_reducible refine (impl_isTime.calls a0_3 true _ A2.out).mono ?_); rintro e w' ⟨rfl, ⟨nd, rfl⟩⟩; refine ⟨_, rfl, ?_⟩))
  (try simp only [Act.put, List.setIfInBounds_toArray, List.set_cons_zero, List.set_cons_succ])
  go_cut [9] (fun v9 wc => ∃ (kq : Nat) (x9_3 : Bool), v9 = .bool x9_3 ∧ Aside0 (impl_BanOk.j0 kq a0_0 x9_3 a0_0 a0_1 a0_2 a0_3 = some r) ∧ Aside0 (kq ≤ k) ∧ Aside0 (wc.heap[gb1237]? = some (.cells #[.int .i64 a0_0, .string a0_1, .string a0_2, .int .i64 a0_3] 84 (0, 0))) ∧ Aside0 (Below w.heap.size w wc))
  case first =>
   have H := HC4.out
   clear HC4
   by_cases c7 : a0_0 = 1
   ·rw [if_pos c7] at H
    have c7b0 : (a0_0 == 1) = true := beq_iff_eq.mpr c7
    have c7b1 : (a0_0 != 1) = false := bne_eq_false_iff_eq.mpr c7
    clear c7
    (first | rw [c7b0] | (simp only [i64_w, i32_w]; rw [c7b0]) | skip)
    have H' := am H
    clear H
    go_wp2
    go_meet
    case rel => exact ⟨_, ((a0_0 == 1)), rs, H', ⟨by first | omega | exact Nat.le_refl _⟩, ⟨by (with_reducible repeat (first | refine blk_drewN ?_ _ | refine blk_drew ?_ | refine blk_alloc ?_ _)); exact BK1237.out⟩, ⟨by repeat (first | (with_reducible first | exact HB.out | apply below_alloc | apply pw_below_drewN | apply below_drew1 | refine below_set ?_ GE1237.out) | exact HB.out)⟩⟩
   ·rw [if_neg c7] at H
    have c7b0 : (a0_0 == 1) = false := beq_eq_false_iff_ne.mpr c7
    have c7b1 : (a0_0 != 1) = true := bne_iff_ne.mpr c7
    (first | rw [c7b0] | (simp only [i64_w, i32_w]; rw [c7b0]) | skip)
    have H' := am H
    clear H
    go_wp2
    go_meet
    case rel => exact ⟨_, ((a0_0 == 2)), rs, H', ⟨by first | omega | exact Nat.le_refl _⟩, ⟨by (with_reducible repeat (first | refine blk_drewN ?_ _ | refine blk_drew ?_ | refine blk_alloc ?_ _)); exact BK1237.out⟩, ⟨by repeat (first | (with_reducible first | exact HB.out | apply below_alloc | apply pw_below_drewN | apply below_drew1 | refine below_set ?_ GE1237.out) | exact HB.out)⟩⟩
  case rest =>
   clear HC4
   try clear c1
   try clear p2
   try clear c3
   try clear c7
   try clear c7b0
   try clear c7b1
   try clear hcz6_0
   try clear hcz6_1
   try clear hcz6_2
   try clear hcz6_3
   try clear hfz6_0
   try clear hfz6_1
   try clear hfz6_2
   try clear hfz6_3
   obtain ⟨kq, x9_3, rfl, HA, HJ3, BK1237, HB⟩ := hcut
   cases kq with
   | zero => exact absurd HA.out (by simp [impl_BanOk.j0])
   | succ kj3 =>
    have H := HA.out
    clear HA
    simp only [impl_BanOk.j0] at H
    by_cases c8 : x9_3 = true
    ·subst c8
     have H1 : ((impl_pathOk.f kj3 a0_1).bind fun t1239 => (if t1239 = true then (some (a0_2.toList == ([] : List UInt8))) else (some false))) = some r := by rw [if_pos rfl] at H; exact H
     clear H
     have H := H1
     clear H1
     replace H := ob H
     obtain ⟨t1239, A90, H⟩ := H
     replace H : (if t1239 = true then (some (a0_2.toList == ([] : List UInt8))) else (some false)) = some r := H
     have A9 := am A90
     clear A90
     by_cases c10 : t1239 = true
     ·subst c10
      have H1 : (some (a0_2.toList == ([] : List UInt8))) = some r := by rw [if_pos rfl] at H; exact H
      clear H
      have H := H1
      clear H1
      obtain rfl := Option.some.inj H
      have hcz11_0 : wc.cell? ⟨gb1237, 0, none⟩ = some (.int .i64 a0_0) := bc BK1237
      have hcz11_1 : wc.cell? ⟨gb1237, 1, none⟩ = some (.string a0_1) := bc BK1237
      have hcz11_2 : wc.cell? ⟨gb1237, 2, none⟩ = some (.string a0_2) := bc BK1237
      have hcz11_3 : wc.cell? ⟨gb1237, 3, none⟩ = some (.int .i64 a0_3) := bc BK1237
      have hfz11_0 := blk_frozen BK1237.out 0
      have hfz11_1 := blk_frozen BK1237.out 1
      have hfz11_2 := blk_frozen BK1237.out 2
      have hfz11_3 := blk_frozen BK1237.out 3
      go_wp2_with (first | ((with_reducible refine gate_callee (f := 119) rfl ?_); refine goesL_ (some 14) rfl rfl Tryd.func119 (by kernel_rfl) rfl #[.string a0_1] rfl ma ?_; (with_reducible refine (impl_pathOk.calls kj3 a0_1 true _ A9.out).mono ?_); rintro e w' ⟨rfl, ⟨nd, rfl⟩⟩; refine ⟨_, rfl, ?_⟩))
      go_ret
      exact ⟨rf, bl⟩
     ·replace c10 := Bool.eq_false_iff.mpr c10
      subst c10
      have H1 : (some false) = some r := by rw [if_neg (show ¬ (false = true) by decide)] at H; exact H
      clear H
      have H := H1
      clear H1
      obtain rfl := Option.some.inj H
      have hcz12_0 : wc.cell? ⟨gb1237, 0, none⟩ = some (.int .i64 a0_0) := bc BK1237
      have hcz12_1 : wc.cell? ⟨gb1237, 1, none⟩ = some (.string a0_1) := bc BK1237
      have hcz12_2 : wc.cell? ⟨gb1237, 2, none⟩ = some (.string a0_2) := bc BK1237
      have hcz12_3 : wc.cell? ⟨gb1237, 3, none⟩ = some (.int .i64 a0_3) := bc BK1237
      have hfz12_0 := blk_frozen BK1237.out 0
      have hfz12_1 := blk_frozen BK1237.out 1
      have hfz12_2 := blk_frozen BK1237.out 2
      have hfz12_3 := blk_frozen BK1237.out 3
      go_wp2_with (first | ((with_reducible refine gate_callee (f := 119) rfl ?_); refine goesL_ (some 14) rfl rfl Tryd.func119 (by kernel_rfl) rfl #[.string a0_1] rfl ma ?_; (with_reducible refine (impl_pathOk.calls kj3 a0_1 false _ A9.out).mono ?_); rintro e w' ⟨rfl, ⟨nd, rfl⟩⟩; refine ⟨_, rfl, ?_⟩))
      go_ret
      exact ⟨rf, bl⟩
    ·replace c8 := Bool.eq_false_iff.mpr c8
     subst c8
     have H1 : (if a0_0 = 3 then ((impl_TokenOk.f kj3 a0_1).bind fun t1240 => (if t1240 = true then ((impl_ValueOk.f kj3 a0_2).bind fun t1241 => (some t1241)) else (some false))) else (some false)) = some r := by rw [if_neg (show ¬ (false = true) by decide)] at H; exact H
     clear H
     have H := H1
     clear H1
     by_cases c13 : a0_0 = 3
     ·rw [if_pos c13] at H
      have c13b0 : (a0_0 == 3) = true := beq_iff_eq.mpr c13
      have c13b1 : (a0_0 != 3) = false := bne_eq_false_iff_eq.mpr c13
      clear c13
      replace H := ob H
      obtain ⟨t1240, A140, H⟩ := H
      replace H : (if t1240 = true then ((impl_ValueOk.f kj3 a0_2).bind fun t1241 => (some t1241)) else (some false)) = some r := H
      have A14 := am A140
      clear A140
      by_cases c15 : t1240 = true
      ·subst c15
       have H1 : ((impl_ValueOk.f kj3 a0_2).bind fun t1241 => (some t1241)) = some r := by rw [if_pos rfl] at H; exact H
       clear H
       have H := H1
       clear H1
       replace H := ob H
       obtain ⟨t1241, A160, H⟩ := H
       replace H : (some t1241) = some r := H
       have A16 := am A160
       clear A160
       obtain rfl := Option.some.inj H
       have hcz17_0 : wc.cell? ⟨gb1237, 0, none⟩ = some (.int .i64 a0_0) := bc BK1237
       have hcz17_1 : wc.cell? ⟨gb1237, 1, none⟩ = some (.string a0_1) := bc BK1237
       have hcz17_2 : wc.cell? ⟨gb1237, 2, none⟩ = some (.string a0_2) := bc BK1237
       have hcz17_3 : wc.cell? ⟨gb1237, 3, none⟩ = some (.int .i64 a0_3) := bc BK1237
       have hfz17_0 := blk_frozen BK1237.out 0
       have hfz17_1 := blk_frozen BK1237.out 1
       have hfz17_2 := blk_frozen BK1237.out 2
       have hfz17_3 := blk_frozen BK1237.out 3
       go_wp2_with (first | ((with_reducible refine gate_callee (f := 174) rfl ?_); refine goesL_ (some 24) rfl rfl Tryd.func174 (by kernel_rfl) rfl #[.string a0_1] rfl ma ?_; (with_reducible refine (impl_TokenOk.calls kj3 a0_1 true _ A14.out).mono ?_); rintro e w' ⟨rfl, ⟨nd, rfl⟩⟩; refine ⟨_, rfl, ?_⟩) | (go_at_call 142; (with_reducible refine (impl_ValueOk.calls kj3 a0_2 t1241 _ A16.out).mono ?_); rintro e w18 ⟨rfl, hb⟩; replace BK1237 := kb BK1237 hb; replace HB := am (below_step bl hb); (try clear hb); (try clear hb2); (try clear hk); (try clear hi)))
       go_ret
       exact ⟨rf, bl⟩
      ·replace c15 := Bool.eq_false_iff.mpr c15
       subst c15
       have H1 : (some false) = some r := by rw [if_neg (show ¬ (false = true) by decide)] at H; exact H
       clear H
       have H := H1
       clear H1
       obtain rfl := Option.some.inj H
       have hcz19_0 : wc.cell? ⟨gb1237, 0, none⟩ = some (.int .i64 a0_0) := bc BK1237
       have hcz19_1 : wc.cell? ⟨gb1237, 1, none⟩ = some (.string a0_1) := bc BK1237
       have hcz19_2 : wc.cell? ⟨gb1237, 2, none⟩ = some (.string a0_2) := bc BK1237
       have hcz19_3 : wc.cell? ⟨gb1237, 3, none⟩ = some (.int .i64 a0_3) := bc BK1237
       have hfz19_0 := blk_frozen BK1237.out 0
       have hfz19_1 := blk_frozen BK1237.out 1
       have hfz19_2 := blk_frozen BK1237.out 2
       have hfz19_3 := blk_frozen BK1237.out 3
       go_wp2_with (first | ((with_reducible refine gate_callee (f := 174) rfl ?_); refine goesL_ (some 24) rfl rfl Tryd.func174 (by kernel_rfl) rfl #[.string a0_1] rfl ma ?_; (with_reducible refine (impl_TokenOk.calls kj3 a0_1 false _ A14.out).mono ?_); rintro e w' ⟨rfl, ⟨nd, rfl⟩⟩; refine ⟨_, rfl, ?_⟩))
       go_ret
       exact ⟨rf, bl⟩
     ·rw [if_neg c13] at H
      have c13b0 : (a0_0 == 3) = false := beq_eq_false_iff_ne.mpr c13
      have c13b1 : (a0_0 != 3) = true := bne_iff_ne.mpr c13
      obtain rfl := Option.some.inj H
      go_wp2
      go_ret
      exact ⟨rf, bl⟩
 ·replace c3 := Bool.eq_false_iff.mpr c3
  subst c3
  have H1 : (some false) = some r := by rw [if_neg (show ¬ (false = true) by decide)] at H; exact H
  clear H
  have H := H1
  clear H1
  obtain rfl := Option.some.inj H
  go_enter Tryd.func146, Tryd.ntmps146
  go_wp2_with (first | ((with_reducible refine gate_dst (N := 1) rfl ?_); refine box_event ?hg (N := 1) ?hd (cs := #[.int .i64 a0_0, .string a0_1, .string a0_2, .int .i64 a0_3]) (t := 84) ?hr ?_; (case hd => rfl); (case hg => rfl); (case hr => first | (go_simp; done) | (go_simp; rfl)); intro gb1237 hg w20 hbox hb; have n0_ := am (below_step bl hb); have n1_ := am (hbox); have n2_ := am (sz hg : w.heap.size ≤ gb1237); have n3_ := am (sz hg : w.heap.size ≤ gb1237); clear HB; have HB := n0_; have BK1237 := n1_; have GW1237 := n2_; have GE1237 := n3_; clear n0_ n1_ n2_ n3_; clear hb hbox hg; have hcz21_0 : w20.cell? ⟨gb1237, 0, none⟩ = some (.int .i64 a0_0) := bc BK1237; have hcz21_1 : w20.cell? ⟨gb1237, 1, none⟩ = some (.string a0_1) := bc BK1237; have hcz21_2 : w20.cell? ⟨gb1237, 2, none⟩ = some (.string a0_2) := bc BK1237; have hcz21_3 : w20.cell? ⟨gb1237, 3, none⟩ = some (.int .i64 a0_3) := bc BK1237; have hfz21_0 := blk_frozen BK1237.out 0; have hfz21_1 := blk_frozen BK1237.out 1; have hfz21_2 := blk_frozen BK1237.out 2; have hfz21_3 := blk_frozen BK1237.out 3) | ((with_reducible refine gate_callee (f := 143) rfl ?_); refine goesL_ (some 5) rfl rfl Tryd.func143 (by kernel_rfl) rfl #[.int .i64 a0_3] rfl ma ?_; (with_reducible refine (impl_isTime.calls a0_3 false _ A2.out).mono ?_); rintro e w' ⟨rfl, ⟨nd, rfl⟩⟩; refine ⟨_, rfl, ?_⟩))
  go_ret
  exact ⟨rf, bl⟩

/-! ### strings_HasPrefix: function 147 -/
def strings_HasPrefix.f (a0 : ByteArray) (a1 : ByteArray) : Option (Bool) := (stringslite_HasPrefix.f a0 a1).bind fun t1242 => (some t1242)
set_option maxHeartbeats 8000000 in
set_option maxRecDepth 100000 in
theorem strings_HasPrefix.calls (a0 : ByteArray) (a1 : ByteArray) (r : Bool) (w : World) (h : strings_HasPrefix.f a0 a1 = some r) :
  Calls Tryd.prog 147 #[.string a0, .string a1] w fun e w' => e = .returned (.bool r) ∧ Drawn0 w w' := by
 have H : ((stringslite_HasPrefix.f a0 a1).bind fun t1242 => (some t1242)) = some r := h
 clear h
 replace H := ob H
 obtain ⟨t1242, A30, H⟩ := H
 replace H : (some t1242) = some r := H
 have A3 := am A30
 clear A30
 obtain rfl := Option.some.inj H
 go_enter Tryd.func147, Tryd.ntmps147
 go_wp2_with (first | ((with_reducible refine gate_callee (f := 182) rfl ?_); refine goesL_ (some 7) rfl rfl Tryd.func182 (by kernel_rfl) rfl #[.string a0, .string a1] rfl ma ?_; (with_reducible refine (stringslite_HasPrefix.calls a0 a1 t1242 _ A3.out).mono ?_); rintro e w' ⟨rfl, ⟨nd, rfl⟩⟩; refine ⟨_, rfl, ?_⟩))
 go_ret
 exact ⟨rs, dr⟩

/-! ### impl_Hits: function 67 -/
def impl_Hits.j0 : Nat → Bool → Int → ByteArray → ByteArray → Int → ByteArray → List ByteArray → List ByteArray → Int → List (S114) → ByteArray → Int → Option (Bool)
 | 0, _, _, _, _, _, _, _, _, _, _, _, _ => none
 | k + 1, x21, x1244000, x1244001, x1244002, x1244003, x1245000, x1245001, x1245002, x1245003, x1245004, x1245005, x1245006 => if x21 = true then (some false) else (if x1244000 = 1 then (some (x1245000.toList == x1244001.toList)) else (if x1244000 = 2 then ((strings_HasPrefix.f x1245000 x1244001).bind fun t1247 => (some t1247)) else ((impl_Get.f x1245004 x1244001).bind fun bt1248 => (if bt1248.2 = true then (some (bt1248.1.toList == x1244002.toList)) else (some false)))))
def impl_Hits.f (k : Nat) (a0_0 : Int) (a0_1 : ByteArray) (a0_2 : ByteArray) (a0_3 : Int) (a1_0 : ByteArray) (l1_1 : List ByteArray) (l1_2 : List ByteArray) (a1_3 : Int) (l1_4 : List (S114)) (a1_5 : ByteArray) (a1_6 : Int) : Option (Bool) := if a1_6 > a0_3 then (impl_Hits.j0 k true a0_0 a0_1 a0_2 a0_3 a1_0 l1_1 l1_2 a1_3 l1_4 a1_5 a1_6) else ((impl_BanOk.f k a0_0 a0_1 a0_2 a0_3).bind fun t1245 => (if t1245 = true then ((impl_ObjOk.f k a1_0 l1_1 l1_2 a1_3 l1_4 a1_5 a1_6).bind fun t1246 => (impl_Hits.j0 k (!t1246) a0_0 a0_1 a0_2 a0_3 a1_0 l1_1 l1_2 a1_3 l1_4 a1_5 a1_6)) else (impl_Hits.j0 k true a0_0 a0_1 a0_2 a0_3 a1_0 l1_1 l1_2 a1_3 l1_4 a1_5 a1_6)))
theorem impl_Hits.mono_l : ∀ k, (∀ y0 y1 y2 y3 y4 y5 y6 y7 y8 y9 y10 y11, LeO (impl_Hits.j0 k y0 y1 y2 y3 y4 y5 y6 y7 y8 y9 y10 y11) (impl_Hits.j0 (k + 1) y0 y1 y2 y3 y4 y5 y6 y7 y8 y9 y10 y11))
 | 0 => fun _ _ _ _ _ _ _ _ _ _ _ _ r h => by simp [impl_Hits.j0] at h
 | k + 1 => by
  have ih0 := impl_Hits.mono_l k
  ·intro y0 y1 y2 y3 y4 y5 y6 y7 y8 y9 y10 y11
   unfold impl_Hits.j0
   repeat' first
   | (with_reducible exact ih0 _ _ _ _ _ _ _ _ _ _ _ _)
   | (with_reducible exact impl_BanOk.mono _ _ _ _ _)
   | (with_reducible exact impl_ObjOk.mono _ _ _ _ _ _ _ _)
   | (with_reducible exact LeO.refl _)
   | (with_reducible exact LeO.none _)
   | (with_reducible refine LeO.ite ?_ ?_)
   | (with_reducible refine LeO.bind ?_ (fun _ => ?_))
   | exact ih0 _ _ _ _ _ _ _ _ _ _ _ _
   | exact impl_BanOk.mono _ _ _ _ _
   | exact impl_ObjOk.mono _ _ _ _ _ _ _ _
   | exact LeO.none _
   | refine LeO.ite ?_ ?_
   | refine LeO.bind ?_ (fun _ => ?_)
theorem impl_Hits.mono : ∀ a0 a1 a2 a3 a4 a5 a6 a7 a8 a9 a10 k, LeO (impl_Hits.f k a0 a1 a2 a3 a4 a5 a6 a7 a8 a9 a10) (impl_Hits.f (k + 1) a0 a1 a2 a3 a4 a5 a6 a7 a8 a9 a10) := by
 intro a0 a1 a2 a3 a4 a5 a6 a7 a8 a9 a10 k
 have ih0 := impl_Hits.mono_l k
 unfold impl_Hits.f
 repeat' first
   | (with_reducible exact ih0 _ _ _ _ _ _ _ _ _ _ _ _)
   | (with_reducible exact impl_BanOk.mono _ _ _ _ _)
   | (with_reducible exact impl_ObjOk.mono _ _ _ _ _ _ _ _)
   | (with_reducible exact LeO.refl _)
   | (with_reducible exact LeO.none _)
   | (with_reducible refine LeO.ite ?_ ?_)
   | (with_reducible refine LeO.bind ?_ (fun _ => ?_))
   | exact ih0 _ _ _ _ _ _ _ _ _ _ _ _
   | exact impl_BanOk.mono _ _ _ _ _
   | exact impl_ObjOk.mono _ _ _ _ _ _ _ _
   | exact LeO.none _
   | refine LeO.ite ?_ ?_
   | refine LeO.bind ?_ (fun _ => ?_)
set_option maxHeartbeats 8000000 in
set_option maxRecDepth 100000 in
theorem impl_Hits.calls (k : Nat) (a0_0 : Int) (a0_1 : ByteArray) (a0_2 : ByteArray) (a0_3 : Int) (a1_0 : ByteArray) (A1_1 : Option Addr) (c1_1 : Nat) (l1_1 : List ByteArray) (A1_2 : Option Addr) (c1_2 : Nat) (l1_2 : List ByteArray) (a1_3 : Int) (A1_4 : Option Addr) (c1_4 : Nat) (l1_4 : List (S114)) (a1_5 : ByteArray) (a1_6 : Int) (r : Bool) (w : World) (hGM : GLOBM w) (hr1_1 : Kd.C Kd.string w A1_1 l1_1.length l1_1) (hc1_1 : l1_1.length ≤ c1_1) (hr1_2 : Kd.C Kd.string w A1_2 l1_2.length l1_2) (hc1_2 : l1_2.length ≤ c1_2) (hr1_4 : Kd.C k114 w A1_4 l1_4.length l1_4) (hc1_4 : l1_4.length ≤ c1_4) (h : impl_Hits.f k a0_0 a0_1 a0_2 a0_3 a1_0 l1_1 l1_2 a1_3 l1_4 a1_5 a1_6 = some r) :
  Calls Tryd.prog 67 #[.agg #[.int .i64 a0_0, .string a0_1, .string a0_2, .int .i64 a0_3], .agg #[.string a1_0, .slice A1_1 l1_1.length c1_1, .slice A1_2 l1_2.length c1_2, .int .i64 a1_3, .slice A1_4 l1_4.length c1_4, .string a1_5, .int .i64 a1_6]] w fun e w' => e = .returned (.bool r) ∧ Below w.heap.size w w' := by
 have hu84 := Tryd.underlying84
 have hu76 := Tryd.underlying76
 have HR1_1 := am hr1_1
 have HC1_1 := am hc1_1
 clear hr1_1 hc1_1
 have HR1_2 := am hr1_2
 have HC1_2 := am hc1_2
 clear hr1_2 hc1_2
 have HR1_4 := am hr1_4
 have HC1_4 := am hc1_4
 clear hr1_4 hc1_4
 have HGM := am hGM
 clear hGM
 have HB := am (Below.refl w.heap.size w)
 have H : (if a1_6 > a0_3 then (impl_Hits.j0 k true a0_0 a0_1 a0_2 a0_3 a1_0 l1_1 l1_2 a1_3 l1_4 a1_5 a1_6) else ((impl_BanOk.f k a0_0 a0_1 a0_2 a0_3).bind fun t1245 => (if t1245 = true then ((impl_ObjOk.f k a1_0 l1_1 l1_2 a1_3 l1_4 a1_5 a1_6).bind fun t1246 => (impl_Hits.j0 k (!t1246) a0_0 a0_1 a0_2 a0_3 a1_0 l1_1 l1_2 a1_3 l1_4 a1_5 a1_6)) else (impl_Hits.j0 k true a0_0 a0_1 a0_2 a0_3 a1_0 l1_1 l1_2 a1_3 l1_4 a1_5 a1_6)))) = some r := h
 clear h
 have HC3 := am H
 clear H
 go_enter Tryd.func67, Tryd.ntmps67
 go_upto_region 1 with (first | ((with_reducible refine gate_dst (N := 2) rfl ?_); refine box_event ?hg (N := 2) ?hd (cs := #[.int .i64 a0_0, .string a0_1, .string a0_2, .int .i64 a0_3]) (t := 84) ?hr ?_; (case hd => rfl); (case hg => rfl); (case hr => first | (go_simp; done) | (go_simp; rfl)); intro gb1243 hg w4 hbox hb; have n0_ := am (below_step bl hb); have n1_ := am (hbox); have n2_ := am (sz hg : w.heap.size ≤ gb1243); have n3_ := am (sz hg : w.heap.size ≤ gb1243); clear HB; have HB := n0_; have BK1243 := n1_; have GW1243 := n2_; have GE1243 := n3_; clear n0_ n1_ n2_ n3_; clear hb hbox hg) | ((with_reducible refine gate_dst (N := 3) rfl ?_); refine box_event ?hg (N := 3) ?hd (cs := #[.string a1_0, .slice A1_1 l1_1.length c1_1, .slice A1_2 l1_2.length c1_2, .int .i64 a1_3, .slice A1_4 l1_4.length c1_4, .string a1_5, .int .i64 a1_6]) (t := 76) ?hr ?_; (case hd => rfl); (case hg => rfl); (case hr => first | (go_simp; done) | (go_simp; rfl)); intro gb1244 hg w5 hbox hb; have n0_ := kb BK1243 hb; have n1_ := am (below_step bl hb); have n2_ := am (hbox); have n3_ := am (sz hg : w.heap.size ≤ gb1244); have n4_ := am (sz hg : w.heap.size ≤ gb1244); have n5_ := am (nl hg BK1243 : gb1243 ≠ gb1244); have n6_ := am (ng hg BK1243 : gb1244 ≠ gb1243); clear BK1243; clear HB; have BK1243 := n0_; have HB := n1_; have BK1244 := n2_; have GW1244 := n3_; have GE1244 := n4_; have NB1243_1244 := n5_; have NB1244_1243 := n6_; clear n0_ n1_ n2_ n3_ n4_ n5_ n6_; clear hb hbox hg))
 (try simp only [Act.put, List.setIfInBounds_toArray, List.set_cons_zero, List.set_cons_succ])
 go_cut [21] (fun v21 wc => ∃ (kq : Nat) (x21_2 : Bool), v21 = .bool x21_2 ∧ Aside0 (impl_Hits.j0 kq x21_2 a0_0 a0_1 a0_2 a0_3 a1_0 l1_1 l1_2 a1_3 l1_4 a1_5 a1_6 = some r) ∧ Aside0 (kq ≤ k) ∧ Aside0 (wc.heap[gb1243]? = some (.cells #[.int .i64 a0_0, .string a0_1, .string a0_2, .int .i64 a0_3] 84 (0, 0))) ∧ Aside0 (wc.heap[gb1244]? = some (.cells #[.string a1_0, (.slice A1_1 l1_1.length c1_1), (.slice A1_2 l1_2.length c1_2), .int .i64 a1_3, (.slice A1_4 l1_4.length c1_4), .string a1_5, .int .i64 a1_6] 76 (0, 0))) ∧ Aside0 (Below w.heap.size w wc))
 case first =>
  have H := HC3.out
  clear HC3
  by_cases c6 : a1_6 > a0_3
  ·rw [if_pos c6] at H
   have c6b0 : decide (a0_3 < a1_6) = true := decide_eq_true c6
   clear c6
   (first | rw [c6b0] | (simp only [i64_w, i32_w]; rw [c6b0]) | skip)
   have H' := am H
   clear H
   have hnb7 := NB1244_1243.out
   have hnc7 := NB1243_1244.out
   have hcz8_0 : w5.cell? ⟨gb1244, 0, none⟩ = some (.string a1_0) := bc BK1244
   have hcz8_1 : w5.cell? ⟨gb1244, 1, none⟩ = some (.slice A1_1 l1_1.length c1_1) := bc BK1244
   have hcz8_2 : w5.cell? ⟨gb1244, 2, none⟩ = some (.slice A1_2 l1_2.length c1_2) := bc BK1244
   have hcz8_3 : w5.cell? ⟨gb1244, 3, none⟩ = some (.int .i64 a1_3) := bc BK1244
   have hcz8_4 : w5.cell? ⟨gb1244, 4, none⟩ = some (.slice A1_4 l1_4.length c1_4) := bc BK1244
   have hcz8_5 : w5.cell? ⟨gb1244, 5, none⟩ = some (.string a1_5) := bc BK1244
   have hcz8_6 : w5.cell? ⟨gb1244, 6, none⟩ = some (.int .i64 a1_6) := bc BK1244
   have hfz8_0 := blk_frozen BK1244.out 0
   have hfz8_1 := blk_frozen BK1244.out 1
   have hfz8_2 := blk_frozen BK1244.out 2
   have hfz8_3 := blk_frozen BK1244.out 3
   have hfz8_4 := blk_frozen BK1244.out 4
   have hfz8_5 := blk_frozen BK1244.out 5
   have hfz8_6 := blk_frozen BK1244.out 6
   have hcz9_0 : w5.cell? ⟨gb1243, 0, none⟩ = some (.int .i64 a0_0) := bc BK1243
   have hcz9_1 : w5.cell? ⟨gb1243, 1, none⟩ = some (.string a0_1) := bc BK1243
   have hcz9_2 : w5.cell? ⟨gb1243, 2, none⟩ = some (.string a0_2) := bc BK1243
   have hcz9_3 : w5.cell? ⟨gb1243, 3, none⟩ = some (.int .i64 a0_3) := bc BK1243
   have hfz9_0 := blk_frozen BK1243.out 0
   have hfz9_1 := blk_frozen BK1243.out 1
   have hfz9_2 := blk_frozen BK1243.out 2
   have hfz9_3 := blk_frozen BK1243.out 3
   go_wp2
   go_meet
   case rel => exact ⟨_, (true), rs, H', ⟨by first | omega | exact Nat.le_refl _⟩, ⟨by (with_reducible repeat (first | refine blk_drewN ?_ _ | refine blk_drew ?_ | refine blk_alloc ?_ _)); exact BK1243.out⟩, ⟨by (with_reducible repeat (first | refine blk_drewN ?_ _ | refine blk_drew ?_ | refine blk_alloc ?_ _)); exact BK1244.out⟩, ⟨by repeat (first | (with_reducible first | exact HB.out | apply below_alloc | apply pw_below_drewN | apply below_drew1 | refine below_set ?_ GE1243.out | refine below_set ?_ GE1244.out) | exact HB.out)⟩⟩
  ·rw [if_neg c6] at H
   have c6b0 : decide (a0_3 < a1_6) = false := decide_eq_false c6
   clear c6
   (first | rw [c6b0] | (simp only [i64_w, i32_w]; rw [c6b0]) | skip)
   replace H := ob H
   obtain ⟨t1245, A100, H⟩ := H
   replace H : (if t1245 = true then ((impl_ObjOk.f k a1_0 l1_1 l1_2 a1_3 l1_4 a1_5 a1_6).bind fun t1246 => (impl_Hits.j0 k (!t1246) a0_0 a0_1 a0_2 a0_3 a1_0 l1_1 l1_2 a1_3 l1_4 a1_5 a1_6)) else (impl_Hits.j0 k true a0_0 a0_1 a0_2 a0_3 a1_0 l1_1 l1_2 a1_3 l1_4 a1_5 a1_6)) = some r := H
   have A10 := am A100
   clear A100
   by_cases c11 : t1245 = true
   ·subst c11
    have H1 : ((impl_ObjOk.f k a1_0 l1_1 l1_2 a1_3 l1_4 a1_5 a1_6).bind fun t1246 => (impl_Hits.j0 k (!t1246) a0_0 a0_1 a0_2 a0_3 a1_0 l1_1 l1_2 a1_3 l1_4 a1_5 a1_6)) = some r := by rw [if_pos rfl] at H; exact H
    clear H
    have H := H1
    clear H1
    replace H := ob H
    obtain ⟨t1246, A120, H⟩ := H
    replace H : (impl_Hits.j0 k (!t1246) a0_0 a0_1 a0_2 a0_3 a1_0 l1_1 l1_2 a1_3 l1_4 a1_5 a1_6) = some r := H
    have A12 := am A120
    clear A120
    have H' := am H
    clear H
    have hnb13 := NB1244_1243.out
    have hnc13 := NB1243_1244.out
    have hcz14_0 : w5.cell? ⟨gb1244, 0, none⟩ = some (.string a1_0) := bc BK1244
    have hcz14_1 : w5.cell? ⟨gb1244, 1, none⟩ = some (.slice A1_1 l1_1.length c1_1) := bc BK1244
    have hcz14_2 : w5.cell? ⟨gb1244, 2, none⟩ = some (.slice A1_2 l1_2.length c1_2) := bc BK1244
    have hcz14_3 : w5.cell? ⟨gb1244, 3, none⟩ = some (.int .i64 a1_3) := bc BK1244
    have hcz14_4 : w5.cell? ⟨gb1244, 4, none⟩ = some (.slice A1_4 l1_4.length c1_4) := bc BK1244
    have hcz14_5 : w5.cell? ⟨gb1244, 5, none⟩ = some (.string a1_5) := bc BK1244
    have hcz14_6 : w5.cell? ⟨gb1244, 6, none⟩ = some (.int .i64 a1_6) := bc BK1244
    have hfz14_0 := blk_frozen BK1244.out 0
    have hfz14_1 := blk_frozen BK1244.out 1
    have hfz14_2 := blk_frozen BK1244.out 2
    have hfz14_3 := blk_frozen BK1244.out 3
    have hfz14_4 := blk_frozen BK1244.out 4
    have hfz14_5 := blk_frozen BK1244.out 5
    have hfz14_6 := blk_frozen BK1244.out 6
    have hcz15_0 : w5.cell? ⟨gb1243, 0, none⟩ = some (.int .i64 a0_0) := bc BK1243
    have hcz15_1 : w5.cell? ⟨gb1243, 1, none⟩ = some (.string a0_1) := bc BK1243
    have hcz15_2 : w5.cell? ⟨gb1243, 2, none⟩ = some (.string a0_2) := bc BK1243
    have hcz15_3 : w5.cell? ⟨gb1243, 3, none⟩ = some (.int .i64 a0_3) := bc BK1243
    have hfz15_0 := blk_frozen BK1243.out 0
    have hfz15_1 := blk_frozen BK1243.out 1
    have hfz15_2 := blk_frozen BK1243.out 2
    have hfz15_3 := blk_frozen BK1243.out 3
    go_wp2_with (first | (go_at_call 146; (with_reducible refine (impl_BanOk.calls k a0_0 a0_1 a0_2 a0_3 true _ A10.out).mono ?_); rintro e w16 ⟨rfl, hb⟩; replace BK1243 := kb BK1243 hb; replace BK1244 := kb BK1244 hb; replace HB := am (below_step bl hb); (try clear hb); (try clear hb2); (try clear hk); (try clear hi); have hcz17_0 : w16.cell? ⟨gb1244, 0, none⟩ = some (.string a1_0) := bc BK1244; have hcz17_1 : w16.cell? ⟨gb1244, 1, none⟩ = some (.slice A1_1 l1_1.length c1_1) := bc BK1244; have hcz17_2 : w16.cell? ⟨gb1244, 2, none⟩ = some (.slice A1_2 l1_2.length c1_2) := bc BK1244; have hcz17_3 : w16.cell? ⟨gb1244, 3, none⟩ = some (.int .i64 a1_3) := bc BK1244; have hcz17_4 : w16.cell? ⟨gb1244, 4, none⟩ = some (.slice A1_4 l1_4.length c1_4) := bc BK1244; have hcz17_5 : w16.cell? ⟨gb1244, 5, none⟩ = some (.string a1_5) := bc BK1244; have hcz17_6 : w16.cell? ⟨gb1244, 6, none⟩ = some (.int .i64 a1_6) := bc BK1244; have hfz17_0 := blk_frozen BK1244.out 0; have hfz17_1 := blk_frozen BK1244.out 1; have hfz17_2 := blk_frozen BK1244.out 2; have hfz17_3 := blk_frozen BK1244.out 3; have hfz17_4 := blk_frozen BK1244.out 4; have hfz17_5 := blk_frozen BK1244.out 5; have hfz17_6 := blk_frozen BK1244.out 6) | (go_at_call 62; (with_reducible refine (impl_ObjOk.calls k a1_0 _ _ l1_1 _ _ l1_2 a1_3 _ _ l1_4 a1_5 a1_6 t1246 _ ?side1 ?side2 ?side3 ?side4 ?side5 ?side6 ?side7 A12.out).mono ?_); (case side1 => exact GLOBM.below HGM.out bl); (case side2 => exact cb HR1_1); (case side3 => exact HC1_1.out); (case side4 => exact cb HR1_2); (case side5 => exact HC1_2.out); (case side6 => exact cb HR1_4); (case side7 => exact HC1_4.out); rintro e w18 ⟨rfl, hb⟩; replace BK1243 := kb BK1243 hb; replace BK1244 := kb BK1244 hb; replace HB := am (below_step bl hb); (try clear hb); (try clear hb2); (try clear hk); (try clear hi)))
    go_meet
    case rel => exact ⟨_, (!t1246), rs, H', ⟨by first | omega | exact Nat.le_refl _⟩, ⟨by (with_reducible repeat (first | refine blk_drewN ?_ _ | refine blk_drew ?_ | refine blk_alloc ?_ _)); exact BK1243.out⟩, ⟨by (with_reducible repeat (first | refine blk_drewN ?_ _ | refine blk_drew ?_ | refine blk_alloc ?_ _)); exact BK1244.out⟩, ⟨by repeat (first | (with_reducible first | exact HB.out | apply below_alloc | apply pw_below_drewN | apply below_drew1 | refine below_set ?_ GE1243.out | refine below_set ?_ GE1244.out) | exact HB.out)⟩⟩
   ·replace c11 := Bool.eq_false_iff.mpr c11
    subst c11
    have H1 : (impl_Hits.j0 k true a0_0 a0_1 a0_2 a0_3 a1_0 l1_1 l1_2 a1_3 l1_4 a1_5 a1_6) = some r := by rw [if_neg (show ¬ (false = true) by decide)] at H; exact H
    clear H
    have H := H1
    clear H1
    have H' := am H
    clear H
    have hnb19 := NB1244_1243.out
    have hnc19 := NB1243_1244.out
    have hcz20_0 : w5.cell? ⟨gb1244, 0, none⟩ = some (.string a1_0) := bc BK1244
    have hcz20_1 : w5.cell? ⟨gb1244, 1, none⟩ = some (.slice A1_1 l1_1.length c1_1) := bc BK1244
    have hcz20_2 : w5.cell? ⟨gb1244, 2, none⟩ = some (.slice A1_2 l1_2.length c1_2) := bc BK1244
    have hcz20_3 : w5.cell? ⟨gb1244, 3, none⟩ = some (.int .i64 a1_3) := bc BK1244
    have hcz20_4 : w5.cell? ⟨gb1244, 4, none⟩ = some (.slice A1_4 l1_4.length c1_4) := bc BK1244
    have hcz20_5 : w5.cell? ⟨gb1244, 5, none⟩ = some (.string a1_5) := bc BK1244
    have hcz20_6 : w5.cell? ⟨gb1244, 6, none⟩ = some (.int .i64 a1_6) := bc BK1244
    have hfz20_0 := blk_frozen BK1244.out 0
    have hfz20_1 := blk_frozen BK1244.out 1
    have hfz20_2 := blk_frozen BK1244.out 2
    have hfz20_3 := blk_frozen BK1244.out 3
    have hfz20_4 := blk_frozen BK1244.out 4
    have hfz20_5 := blk_frozen BK1244.out 5
    have hfz20_6 := blk_frozen BK1244.out 6
    have hcz21_0 : w5.cell? ⟨gb1243, 0, none⟩ = some (.int .i64 a0_0) := bc BK1243
    have hcz21_1 : w5.cell? ⟨gb1243, 1, none⟩ = some (.string a0_1) := bc BK1243
    have hcz21_2 : w5.cell? ⟨gb1243, 2, none⟩ = some (.string a0_2) := bc BK1243
    have hcz21_3 : w5.cell? ⟨gb1243, 3, none⟩ = some (.int .i64 a0_3) := bc BK1243
    have hfz21_0 := blk_frozen BK1243.out 0
    have hfz21_1 := blk_frozen BK1243.out 1
    have hfz21_2 := blk_frozen BK1243.out 2
    have hfz21_3 := blk_frozen BK1243.out 3
    go_wp2_with (first | (go_at_call 146; (with_reducible refine (impl_BanOk.calls k a0_0 a0_1 a0_2 a0_3 false _ A10.out).mono ?_); rintro e w22 ⟨rfl, hb⟩; replace BK1243 := kb BK1243 hb; replace BK1244 := kb BK1244 hb; replace HB := am (below_step bl hb); (try clear hb); (try clear hb2); (try clear hk); (try clear hi)))
    go_meet
    case rel => exact ⟨_, (true), rs, H', ⟨by first | omega | exact Nat.le_refl _⟩, ⟨by (with_reducible repeat (first | refine blk_drewN ?_ _ | refine blk_drew ?_ | refine blk_alloc ?_ _)); exact BK1243.out⟩, ⟨by (with_reducible repeat (first | refine blk_drewN ?_ _ | refine blk_drew ?_ | refine blk_alloc ?_ _)); exact BK1244.out⟩, ⟨by repeat (first | (with_reducible first | exact HB.out | apply below_alloc | apply pw_below_drewN | apply below_drew1 | refine below_set ?_ GE1243.out | refine below_set ?_ GE1244.out) | exact HB.out)⟩⟩
 case rest =>
  clear HC3
  try clear c1
  try clear p2
  try clear c6
  try clear c6b0
  try clear c7
  try clear c11
  try clear c13
  try clear c19
  try clear hcz14_0
  try clear hcz14_1
  try clear hcz14_2
  try clear hcz14_3
  try clear hcz14_4
  try clear hcz14_5
  try clear hcz14_6
  try clear hcz15_0
  try clear hcz15_1
  try clear hcz15_2
  try clear hcz15_3
  try clear hcz17_0
  try clear hcz17_1
  try clear hcz17_2
  try clear hcz17_3
  try clear hcz17_4
  try clear hcz17_5
  try clear hcz17_6
  try clear hcz20_0
  try clear hcz20_1
  try clear hcz20_2
  try clear hcz20_3
  try clear hcz20_4
  try clear hcz20_5
  try clear hcz20_6
  try clear hcz21_0
  try clear hcz21_1
  try clear hcz21_2
  try clear hcz21_3
  try clear hcz8_0
  try clear hcz8_1
  try clear hcz8_2
  try clear hcz8_3
  try clear hcz8_4
  try clear hcz8_5
  try clear hcz8_6
  try clear hcz9_0
  try clear hcz9_1
  try clear hcz9_2
  try clear hcz9_3
  try clear hfz14_0
  try clear hfz14_1
  try clear hfz14_2
  try clear hfz14_3
  try clear hfz14_4
  try clear hfz14_5
  try clear hfz14_6
  try clear hfz15_0
  try clear hfz15_1
  try clear hfz15_2
  try clear hfz15_3
  try clear hfz17_0
  try clear hfz17_1
  try clear hfz17_2
  try clear hfz17_3
  try clear hfz17_4
  try clear hfz17_5
  try clear hfz17_6
  try clear hfz20_0
  try clear hfz20_1
  try clear hfz20_2
  try clear hfz20_3
  try clear hfz20_4
  try clear hfz20_5
  try clear hfz20_6
  try clear hfz21_0
  try clear hfz21_1
  try clear hfz21_2
  try clear hfz21_3
  try clear hfz8_0
  try clear hfz8_1
  try clear hfz8_2
  try clear hfz8_3
  try clear hfz8_4
  try clear hfz8_5
  try clear hfz8_6
  try clear hfz9_0
  try clear hfz9_1
  try clear hfz9_2
  try clear hfz9_3
  obtain ⟨kq, x21_2, rfl, HA, HJ2, BK1243, BK1244, HB⟩ := hcut
  cases kq with
  | zero => exact absurd HA.out (by simp [impl_Hits.j0])
  | succ kj2 =>
   have H := HA.out
   clear HA
   simp only [impl_Hits.j0] at H
   by_cases c23 : x21_2 = true
   ·subst c23
    have H1 : (some false) = some r := by rw [if_pos rfl] at H; exact H
    clear H
    have H := H1
    clear H1
    obtain rfl := Option.some.inj H
    go_wp2
    go_ret
    exact ⟨rf, bl⟩
   ·replace c23 := Bool.eq_false_iff.mpr c23
    subst c23
    have H1 : (if a0_0 = 1 then (some (a1_0.toList == a0_1.toList)) else (if a0_0 = 2 then ((strings_HasPrefix.f a1_0 a0_1).bind fun t1247 => (some t1247)) else ((impl_Get.f l1_4 a0_1).bind fun bt1248 => (if bt1248.2 = true then (some (bt1248.1.toList == a0_2.toList)) else (some false))))) = some r := by rw [if_neg (show ¬ (false = true) by decide)] at H; exact H
    clear H
    have H := H1
    clear H1
    by_cases c24 : a0_0 = 1
    ·rw [if_pos c24] at H
     have c24b0 : (a0_0 == 1) = true := beq_iff_eq.mpr c24
     have c24b1 : (a0_0 != 1) = false := bne_eq_false_iff_eq.mpr c24
     clear c24
     obtain rfl := Option.some.inj H
     have hnb25 := NB1243_1244.out
     have hnc25 := NB1244_1243.out
     have hcz26_0 : wc.cell? ⟨gb1243, 0, none⟩ = some (.int .i64 a0_0) := bc BK1243
     have hcz26_1 : wc.cell? ⟨gb1243, 1, none⟩ = some (.string a0_1) := bc BK1243
     have hcz26_2 : wc.cell? ⟨gb1243, 2, none⟩ = some (.string a0_2) := bc BK1243
     have hcz26_3 : wc.cell? ⟨gb1243, 3, none⟩ = some (.int .i64 a0_3) := bc BK1243
     have hfz26_0 := blk_frozen BK1243.out 0
     have hfz26_1 := blk_frozen BK1243.out 1
     have hfz26_2 := blk_frozen BK1243.out 2
     have hfz26_3 := blk_frozen BK1243.out 3
     have hcz27_0 : wc.cell? ⟨gb1244, 0, none⟩ = some (.string a1_0) := bc BK1244
     have hcz27_1 : wc.cell? ⟨gb1244, 1, none⟩ = some (.slice A1_1 l1_1.length c1_1) := bc BK1244
     have hcz27_2 : wc.cell? ⟨gb1244, 2, none⟩ = some (.slice A1_2 l1_2.length c1_2) := bc BK1244
     have hcz27_3 : wc.cell? ⟨gb1244, 3, none⟩ = some (.int .i64 a1_3) := bc BK1244
     have hcz27_4 : wc.cell? ⟨gb1244, 4, none⟩ = some (.slice A1_4 l1_4.length c1_4) := bc BK1244
     have hcz27_5 : wc.cell? ⟨gb1244, 5, none⟩ = some (.string a1_5) := bc BK1244
     have hcz27_6 : wc.cell? ⟨gb1244, 6, none⟩ = some (.int .i64 a1_6) := bc BK1244
     have hfz27_0 := blk_frozen BK1244.out 0
     have hfz27_1 := blk_frozen BK1244.out 1
     have hfz27_2 := blk_frozen BK1244.out 2
     have hfz27_3 := blk_frozen BK1244.out 3
     have hfz27_4 := blk_frozen BK1244.out 4
     have hfz27_5 := blk_frozen BK1244.out 5
     have hfz27_6 := blk_frozen BK1244.out 6
     go_wp2
     go_ret
     exact ⟨rf, bl⟩
    ·rw [if_neg c24] at H
     have c24b0 : (a0_0 == 1) = false := beq_eq_false_iff_ne.mpr c24
     have c24b1 : (a0_0 != 1) = true := bne_iff_ne.mpr c24
     by_cases c28 : a0_0 = 2
     ·rw [if_pos c28] at H
      have c28b0 : (a0_0 == 2) = true := beq_iff_eq.mpr c28
      have c28b1 : (a0_0 != 2) = false := bne_eq_false_iff_eq.mpr c28
      clear c28
      replace H := ob H
      obtain ⟨t1247, A290, H⟩ := H
      replace H : (some t1247) = some r := H
      have A29 := am A290
      clear A290
      obtain rfl := Option.some.inj H
      have hnb30 := NB1243_1244.out
      have hnc30 := NB1244_1243.out
      have hcz31_0 : wc.cell? ⟨gb1243, 0, none⟩ = some (.int .i64 a0_0) := bc BK1243
      have hcz31_1 : wc.cell? ⟨gb1243, 1, none⟩ = some (.string a0_1) := bc BK1243
      have hcz31_2 : wc.cell? ⟨gb1243, 2, none⟩ = some (.string a0_2) := bc BK1243
      have hcz31_3 : wc.cell? ⟨gb1243, 3, none⟩ = some (.int .i64 a0_3) := bc BK1243
      have hfz31_0 := blk_frozen BK1243.out 0
      have hfz31_1 := blk_frozen BK1243.out 1
      have hfz31_2 := blk_frozen BK1243.out 2
      have hfz31_3 := blk_frozen BK1243.out 3
      have hcz32_0 : wc.cell? ⟨gb1244, 0, none⟩ = some (.string a1_0) := bc BK1244
      have hcz32_1 : wc.cell? ⟨gb1244, 1, none⟩ = some (.slice A1_1 l1_1.length c1_1) := bc BK1244
      have hcz32_2 : wc.cell? ⟨gb1244, 2, none⟩ = some (.slice A1_2 l1_2.length c1_2) := bc BK1244
      have hcz32_3 : wc.cell? ⟨gb1244, 3, none⟩ = some (.int .i64 a1_3) := bc BK1244
      have hcz32_4 : wc.cell? ⟨gb1244, 4, none⟩ = some (.slice A1_4 l1_4.length c1_4) := bc BK1244
      have hcz32_5 : wc.cell? ⟨gb1244, 5, none⟩ = some (.string a1_5) := bc BK1244
      have hcz32_6 : wc.cell? ⟨gb1244, 6, none⟩ = some (.int .i64 a1_6) := bc BK1244
      have hfz32_0 := blk_frozen BK1244.out 0
      have hfz32_1 := blk_frozen BK1244.out 1
      have hfz32_2 := blk_frozen BK1244.out 2
      have hfz32_3 := blk_frozen BK1244.out 3
      have hfz32_4 := blk_frozen BK1244.out 4
      have hfz32_5 := blk_frozen BK1244.out 5
      have hfz32_6 := blk_frozen BK1244.out 6
      go_wp2_with (first | ((with_reducible refine gate_callee (f := 147) rfl ?_); refine goesL_ (some 37) rfl rfl Tryd.func147 (by kernel_rfl) rfl #[.string a1_0, .string a0_1] rfl ma ?_; (with_reducible refine (strings_HasPrefix.calls a1_0 a0_1 t1247 _ A29.out).mono ?_); rintro e w' ⟨rfl, ⟨nd, rfl⟩⟩; refine ⟨_, rfl, ?_⟩))
      go_ret
      exact ⟨rf, bl⟩
     ·rw [if_neg c28] at H
      have c28b0 : (a0_0 == 2) = false := beq_eq_false_iff_ne.mpr c28
      have c28b1 : (a0_0 != 2) = true := bne_iff_ne.mpr c28
      replace H := ob H
      obtain ⟨⟨t1248, t1249⟩, A330, H⟩ := H
      replace H : (if t1249 = true then (some (t1248.toList == a0_2.toList)) else (some false)) = some r := H
      have A33 := am A330
      clear A330
      by_cases c34 : t1249 = true
      ·subst c34
       have H1 : (some (t1248.toList == a0_2.toList)) = some r := by rw [if_pos rfl] at H; exact H
       clear H
       have H := H1
       clear H1
       obtain rfl := Option.some.inj H
       have hnb35 := NB1243_1244.out
       have hnc35 := NB1244_1243.out
       have hcz36_0 : wc.cell? ⟨gb1243, 0, none⟩ = some (.int .i64 a0_0) := bc BK1243
       have hcz36_1 : wc.cell? ⟨gb1243, 1, none⟩ = some (.string a0_1) := bc BK1243
       have hcz36_2 : wc.cell? ⟨gb1243, 2, none⟩ = some (.string a0_2) := bc BK1243
       have hcz36_3 : wc.cell? ⟨gb1243, 3, none⟩ = some (.int .i64 a0_3) := bc BK1243
       have hfz36_0 := blk_frozen BK1243.out 0
       have hfz36_1 := blk_frozen BK1243.out 1
       have hfz36_2 := blk_frozen BK1243.out 2
       have hfz36_3 := blk_frozen BK1243.out 3
       have hcz37_0 : wc.cell? ⟨gb1244, 0, none⟩ = some (.string a1_0) := bc BK1244
       have hcz37_1 : wc.cell? ⟨gb1244, 1, none⟩ = some (.slice A1_1 l1_1.length c1_1) := bc BK1244
       have hcz37_2 : wc.cell? ⟨gb1244, 2, none⟩ = some (.slice A1_2 l1_2.length c1_2) := bc BK1244
       have hcz37_3 : wc.cell? ⟨gb1244, 3, none⟩ = some (.int .i64 a1_3) := bc BK1244
       have hcz37_4 : wc.cell? ⟨gb1244, 4, none⟩ = some (.slice A1_4 l1_4.length c1_4) := bc BK1244
       have hcz37_5 : wc.cell? ⟨gb1244, 5, none⟩ = some (.string a1_5) := bc BK1244
       have hcz37_6 : wc.cell? ⟨gb1244, 6, none⟩ = some (.int .i64 a1_6) := bc BK1244
       have hfz37_0 := blk_frozen BK1244.out 0
       have hfz37_1 := blk_frozen BK1244.out 1
       have hfz37_2 := blk_frozen BK1244.out 2
       have hfz37_3 := blk_frozen BK1244.out 3
       have hfz37_4 := blk_frozen BK1244.out 4
       have hfz37_5 := blk_frozen BK1244.out 5
       have hfz37_6 := blk_frozen BK1244.out 6
       go_wp2_with (first | ((with_reducible refine gate_callee (f := 39) rfl ?_); refine goesL_ (some 44) rfl rfl Tryd.func39 (by kernel_rfl) rfl #[.slice A1_4 l1_4.length c1_4, .string a0_1] rfl ma ?_; (with_reducible refine (impl_Get.calls _ _ l1_4 a0_1 t1248 true _ ?side1 ?side2 A33.out).mono ?_); (case side1 => exact cb HR1_4); (case side2 => exact HC1_4.out); rintro e w38 ⟨rfl, hb⟩; refine ⟨_, rfl, ?_⟩; replace BK1243 := kb BK1243 hb; replace BK1244 := kb BK1244 hb; replace HB := am (below_step bl hb); (try clear hb); (try clear hb2); (try clear hk); (try clear hi); have hcz39_0 : w38.cell? ⟨gb1243, 0, none⟩ = some (.int .i64 a0_0) := bc BK1243; have hcz39_1 : w38.cell? ⟨gb1243, 1, none⟩ = some (.string a0_1) := bc BK1243; have hcz39_2 : w38.cell? ⟨gb1243, 2, none⟩ = some (.string a0_2) := bc BK1243; have hcz39_3 : w38.cell? ⟨gb1243, 3, none⟩ = some (.int .i64 a0_3) := bc BK1243; have hfz39_0 := blk_frozen BK1243.out 0; have hfz39_1 := blk_frozen BK1243.out 1; have hfz39_2 := blk_frozen BK1243.out 2; have hfz39_3 := blk_frozen BK1243.out 3))
       go_ret
       exact ⟨rf, bl⟩
      ·replace c34 := Bool.eq_false_iff.mpr c34
       subst c34
       have H1 : (some false) = some r := by rw [if_neg (show ¬ (false = true) by decide)] at H; exact H
       clear H
       have H := H1
       clear H1
       obtain rfl := Option.some.inj H
       have hnb40 := NB1243_1244.out
       have hnc40 := NB1244_1243.out
       have hcz41_0 : wc.cell? ⟨gb1243, 0, none⟩ = some (.int .i64 a0_0) := bc BK1243
       have hcz41_1 : wc.cell? ⟨gb1243, 1, none⟩ = some (.string a0_1) := bc BK1243
       have hcz41_2 : wc.cell? ⟨gb1243, 2, none⟩ = some (.string a0_2) := bc BK1243
       have hcz41_3 : wc.cell? ⟨gb1243, 3, none⟩ = some (.int .i64 a0_3) := bc BK1243
       have hfz41_0 := blk_frozen BK1243.out 0
       have hfz41_1 := blk_frozen BK1243.out 1
       have hfz41_2 := blk_frozen BK1243.out 2
       have hfz41_3 := blk_frozen BK1243.out 3
       have hcz42_0 : wc.cell? ⟨gb1244, 0, none⟩ = some (.string a1_0) := bc BK1244
       have hcz42_1 : wc.cell? ⟨gb1244, 1, none⟩ = some (.slice A1_1 l1_1.length c1_1) := bc BK1244
       have hcz42_2 : wc.cell? ⟨gb1244, 2, none⟩ = some (.slice A1_2 l1_2.length c1_2) := bc BK1244
       have hcz42_3 : wc.cell? ⟨gb1244, 3, none⟩ = some (.int .i64 a1_3) := bc BK1244
       have hcz42_4 : wc.cell? ⟨gb1244, 4, none⟩ = some (.slice A1_4 l1_4.length c1_4) := bc BK1244
       have hcz42_5 : wc.cell? ⟨gb1244, 5, none⟩ = some (.string a1_5) := bc BK1244
       have hcz42_6 : wc.cell? ⟨gb1244, 6, none⟩ = some (.int .i64 a1_6) := bc BK1244
       have hfz42_0 := blk_frozen BK1244.out 0
       have hfz42_1 := blk_frozen BK1244.out 1
       have hfz42_2 := blk_frozen BK1244.out 2
       have hfz42_3 := blk_frozen BK1244.out 3
       have hfz42_4 := blk_frozen BK1244.out 4
       have hfz42_5 := blk_frozen BK1244.out 5
       have hfz42_6 := blk_frozen BK1244.out 6
       go_wp2_with (first | ((with_reducible refine gate_callee (f := 39) rfl ?_); refine goesL_ (some 44) rfl rfl Tryd.func39 (by kernel_rfl) rfl #[.slice A1_4 l1_4.length c1_4, .string a0_1] rfl ma ?_; (with_reducible refine (impl_Get.calls _ _ l1_4 a0_1 t1248 false _ ?side1 ?side2 A33.out).mono ?_); (case side1 => exact cb HR1_4); (case side2 => exact HC1_4.out); rintro e w43 ⟨rfl, hb⟩; refine ⟨_, rfl, ?_⟩; replace BK1243 := kb BK1243 hb; replace BK1244 := kb BK1244 hb; replace HB := am (below_step bl hb); (try clear hb); (try clear hb2); (try clear hk); (try clear hi)))
       go_ret
       exact ⟨rf, bl⟩

end Go.Proofs.YtiinmfjbildclaaDoor.All
