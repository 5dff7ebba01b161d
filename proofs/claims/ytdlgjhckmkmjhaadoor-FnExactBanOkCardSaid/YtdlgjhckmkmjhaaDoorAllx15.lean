-- Written by a program of this session (wip/tools/hprint.py) out of the translation. Lean checks it.
import Derived.Test.YtdlgjhckmkmjhaaDoorAllx0
import Derived.Test.YtdlgjhckmkmjhaaDoorAllx7
import Derived.Test.YtdlgjhckmkmjhaaDoorAllx9
import Derived.Test.YtdlgjhckmkmjhaaDoorAllx12
import Derived.Test.YtdlgjhckmkmjhaaDoorAllx13
namespace Go.Proofs.YtdlgjhckmkmjhaaDoor.All
open Go.RowKit Go.Proofs.YtdlgjhckmkmjhaaDoorW.PrintWords Go.Proofs.YtdlgjhckmkmjhaaDoorW.PrintLast Go.Proofs.YtdlgjhckmkmjhaaDoorW.PrintMore
attribute [local go_sem] max2_int min2_int max_two min_two max_three min_three max_four min_four   -- for this text's walks alone
set_option linter.unusedVariables false
set_option linter.unusedSimpArgs false

/-! ### spec_Get: function 80 -/
def spec_Get.f (k : Nat) (l0 : List (S87)) (a1 : ByteArray) : Option (ByteArray × Bool) := (spec_l2At.f k l0 a1).bind fun t554 => (if t554 < 0 then (some ((⟨#[]⟩ : ByteArray), false)) else (if 0 ≤ t554 then (if t554 < (l0.length : Int) then (some ((rd_T87 l0 t554).f1, true)) else (none)) else (none)))
theorem spec_Get.mono : ∀ a0 a1 k, LeO (spec_Get.f k a0 a1) (spec_Get.f (k + 1) a0 a1) := by
  intro a0 a1 k
  unfold spec_Get.f
  repeat' first
      | (with_reducible exact spec_l2At.mono _ _ _)
      | (with_reducible exact LeO.refl _)
      | (with_reducible exact LeO.none _)
      | (with_reducible refine LeO.ite ?_ ?_)
      | (with_reducible refine LeO.bind ?_ (fun _ => ?_))
      | exact spec_l2At.mono _ _ _
      | exact LeO.none _
      | refine LeO.ite ?_ ?_
      | refine LeO.bind ?_ (fun _ => ?_)
set_option maxHeartbeats 8000000 in
set_option maxRecDepth 100000 in
theorem spec_Get.calls (k : Nat) (A0 : Option Addr) (c0 : Nat) (l0 : List (S87)) (a1 : ByteArray) (r1 : ByteArray) (r2 : Bool) (w : World) (hr0 : Kd.C k87 w A0 l0.length l0) (hc0 : l0.length ≤ c0) (h : spec_Get.f k l0 a1 = some (r1, r2)) :
    Calls Tryd.prog 80 #[.slice A0 l0.length c0, .string a1] w fun e w' => e = .returned (.tuple #[.string r1, .bool r2]) ∧ Drawn0 w w' := by
  have HR0 := Aside0.mk hr0
  have HC0 := Aside0.mk hc0
  clear hr0 hc0
  have H : ((spec_l2At.f k l0 a1).bind fun t554 => (if t554 < 0 then (some ((⟨#[]⟩ : ByteArray), false)) else (if 0 ≤ t554 then (if t554 < (l0.length : Int) then (some ((rd_T87 l0 t554).f1, true)) else (none)) else (none)))) = some (r1, r2) := h
  clear h
  replace H := Option.bind_eq_some_iff.mp H
  obtain ⟨t554, A30, H⟩ := H
  replace H : (if t554 < 0 then (some ((⟨#[]⟩ : ByteArray), false)) else (if 0 ≤ t554 then (if t554 < (l0.length : Int) then (some ((rd_T87 l0 t554).f1, true)) else (none)) else (none))) = some (r1, r2) := H
  have A3 := Aside0.mk A30
  clear A30
  by_cases c4 : t554 < 0
  · rw [if_pos c4] at H
    have c4b0 : decide (t554 < 0) = true := decide_eq_true c4
    clear c4
    simp only [Option.some.injEq, Prod.mk.injEq] at H
    obtain ⟨rfl, rfl⟩ := H
    go_enter Tryd.func80, Tryd.ntmps80
    go_wp2_with (first | ((with_reducible refine gate_callee (f := 113) rfl ?_); refine goesL_ (some 9) rfl rfl Tryd.func113 (by kernel_rfl) rfl #[.slice A0 l0.length c0, .string a1] rfl ma ?_; (with_reducible refine (spec_l2At.calls k _ _ l0 a1 t554 _ ?side1 ?side2 A3.out).mono ?_); (case side1 => repeat (first | exact HR0.out | (with_reducible refine Kd.C_alloc ?_ _) | (with_reducible refine Kd.C_drewN ?_ _) | (with_reducible refine Kd.C_drew ?_))); (case side2 => exact HC0.out); rintro e w' ⟨rfl, ⟨nd, rfl⟩⟩; refine ⟨_, rfl, ?_⟩))
    go_ret2
    exact ⟨by first | rfl | (simp; done) | (simp [*]; done), by repeat (first | exact Drawn0.refl _ | apply Drawn0.step)⟩
  · rw [if_neg c4] at H
    have c4b0 : decide (t554 < 0) = false := decide_eq_false c4
    clear c4
    by_cases c5 : 0 ≤ t554
    · rw [if_pos c5] at H
      have c5b0 : decide (0 ≤ t554) = true := decide_eq_true c5
      clear c5
      by_cases c6 : t554 < (l0.length : Int)
      · rw [if_pos c6] at H
        have c6b0 : decide (t554 < (l0.length : Int)) = true := decide_eq_true c6
        clear c6
        simp only [Option.some.injEq, Prod.mk.injEq] at H
        obtain ⟨rfl, rfl⟩ := H
        go_enter Tryd.func80, Tryd.ntmps80
        go_wp2_with (first | ((with_reducible refine gate_callee (f := 113) rfl ?_); refine goesL_ (some 9) rfl rfl Tryd.func113 (by kernel_rfl) rfl #[.slice A0 l0.length c0, .string a1] rfl ma ?_; (with_reducible refine (spec_l2At.calls k _ _ l0 a1 t554 _ ?side1 ?side2 A3.out).mono ?_); (case side1 => repeat (first | exact HR0.out | (with_reducible refine Kd.C_alloc ?_ _) | (with_reducible refine Kd.C_drewN ?_ _) | (with_reducible refine Kd.C_drew ?_))); (case side2 => exact HC0.out); rintro e w' ⟨rfl, ⟨nd, rfl⟩⟩; refine ⟨_, rfl, ?_⟩; have p555 : 0 ≤ (t554 : Int) := of_decide_eq_true (by first | (with_reducible assumption) | assumption); have q555 : t554 < (l0.length : Int) := of_decide_eq_true (by first | (with_reducible assumption) | assumption); obtain ⟨ad555, e555, hx555_0, hx555_1⟩ := at_T87 HR0.out t554 p555 q555; cases e555; replace p555 := eq_true p555; replace q555 := eq_true q555))
        go_ret2
        exact ⟨by first | rfl | (simp; done) | (simp [*]; done), by repeat (first | exact Drawn0.refl _ | apply Drawn0.step)⟩
      · rw [if_neg c6] at H
        exact absurd H (by simp)
    · rw [if_neg c5] at H
      exact absurd H (by simp)

/-! ### spec_Drop: function 81 -/
def spec_Drop.l0 : Nat → List (S87) → Int → List (S87) → Int → Option ((List (S87)))
  | 0, _, _, _, _ => none
  | k + 1, x0, x5, x6, x7 => if x7 < (x0.length : Int) then (if x7 = x5 then (spec_Drop.l0 k x0 x5 x6 (wrap64 (x7 + 1))) else (if 0 ≤ x7 then (if x6.length < 4398046511104 then (spec_Drop.l0 k x0 x5 (x6 ++ [(⟨(rd_T87 x0 x7).f0, (rd_T87 x0 x7).f1⟩ : S87)]) (wrap64 (x7 + 1))) else (none)) else (none))) else (some x6)
def spec_Drop.f (k : Nat) (l0 : List (S87)) (a1 : ByteArray) : Option ((List (S87))) := (spec_l2At.f k l0 a1).bind fun t556 => (spec_Drop.l0 k l0 t556 (([] : List (S87))) 0)
theorem spec_Drop.mono_l : ∀ k, (∀ y0 y1 y2 y3, LeO (spec_Drop.l0 k y0 y1 y2 y3) (spec_Drop.l0 (k + 1) y0 y1 y2 y3))
  | 0 => fun _ _ _ _ r h => by simp [spec_Drop.l0] at h
  | k + 1 => by
    have ih0 := spec_Drop.mono_l k
    · intro y0 y1 y2 y3
      unfold spec_Drop.l0
      repeat' first
      | (with_reducible exact ih0 _ _ _ _)
      | (with_reducible exact spec_l2At.mono _ _ _)
      | (with_reducible exact LeO.refl _)
      | (with_reducible exact LeO.none _)
      | (with_reducible refine LeO.ite ?_ ?_)
      | (with_reducible refine LeO.bind ?_ (fun _ => ?_))
      | exact ih0 _ _ _ _
      | exact spec_l2At.mono _ _ _
      | exact LeO.none _
      | refine LeO.ite ?_ ?_
      | refine LeO.bind ?_ (fun _ => ?_)
theorem spec_Drop.mono : ∀ a0 a1 k, LeO (spec_Drop.f k a0 a1) (spec_Drop.f (k + 1) a0 a1) := by
  intro a0 a1 k
  have ih0 := spec_Drop.mono_l k
  unfold spec_Drop.f
  repeat' first
      | (with_reducible exact ih0 _ _ _ _)
      | (with_reducible exact spec_l2At.mono _ _ _)
      | (with_reducible exact LeO.refl _)
      | (with_reducible exact LeO.none _)
      | (with_reducible refine LeO.ite ?_ ?_)
      | (with_reducible refine LeO.bind ?_ (fun _ => ?_))
      | exact ih0 _ _ _ _
      | exact spec_l2At.mono _ _ _
      | exact LeO.none _
      | refine LeO.ite ?_ ?_
      | refine LeO.bind ?_ (fun _ => ?_)
set_option maxHeartbeats 8000000 in
set_option maxRecDepth 100000 in
theorem spec_Drop.calls (k : Nat) (A0 : Option Addr) (c0 : Nat) (l0 : List (S87)) (a1 : ByteArray) (r : List (S87)) (w : World) (hr0 : Kd.C k87 w A0 l0.length l0) (hc0 : l0.length ≤ c0) (h : spec_Drop.f k l0 a1 = some r) :
    Calls Tryd.prog 81 #[.slice A0 l0.length c0, .string a1] w fun e w' => ∃ v0_ : Value, e = .returned (v0_) ∧ Kd.R k87 87 w' w.heap.size (fun _ => True) v0_ r ∧ Below w.heap.size w w' := by
  have hu87 := Tryd.underlying87
  have HR0 := Aside0.mk hr0
  have HC0 := Aside0.mk hc0
  clear hr0 hc0
  have HB := Aside0.mk (Below.refl w.heap.size w)
  have H : ((spec_l2At.f k l0 a1).bind fun t556 => (spec_Drop.l0 k l0 t556 (([] : List (S87))) 0)) = some r := h
  clear h
  replace H := Option.bind_eq_some_iff.mp H
  obtain ⟨t556, A30, H⟩ := H
  replace H : (spec_Drop.l0 k l0 t556 (([] : List (S87))) 0) = some r := H
  have A3 := Aside0.mk A30
  clear A30
  obtain ⟨y557, hy557⟩ : ∃ y_ : List (S87), y_ = (([] : List (S87))) := ⟨_, rfl⟩
  replace H : (spec_Drop.l0 k l0 t556 y557 0) = some r := by first | (rw [hy557]; with_reducible exact H) | (have H2_ := (Option.bind_some _ _).symm.trans H; rw [hy557]; with_reducible exact H2_) | (have H2_ := (Option.bind_some _ _).symm.trans H; with_reducible exact H2_) | with_reducible exact H | (rw [hy557]; exact H) | exact H
  have Ny557 := Aside0.mk hy557
  clear hy557
  have H' := Aside0.mk H
  clear H
  go_enter Tryd.func81, Tryd.ntmps81
  go_wp2_with (first | ((with_reducible refine gate_callee (f := 113) rfl ?_); refine goesL_ (some 10) rfl rfl Tryd.func113 (by kernel_rfl) rfl #[.slice A0 l0.length c0, .string a1] rfl ma ?_; (with_reducible refine (spec_l2At.calls k _ _ l0 a1 t556 _ ?side1 ?side2 A3.out).mono ?_); (case side1 => repeat (first | exact HR0.out | (with_reducible refine Kd.C_alloc ?_ _) | (with_reducible refine Kd.C_drewN ?_ _) | (with_reducible refine Kd.C_drew ?_))); (case side2 => exact HC0.out); rintro e w' ⟨rfl, ⟨nd, rfl⟩⟩; refine ⟨_, rfl, ?_⟩) | ((with_reducible refine gate_dst (N := 11) rfl ?_); refine Kd.R_lit k87 _ 87 ?hg (N := 11) ?hd (xs := ([] : List (S87))) (inner := []) (ok := fun _ => True) (okp := fun _ => True) ?hr ?hp (fun _ hk => hk) trivial (Below.refl _ _) (Nat.le_refl _) (by simp) ?_; (case hd => rfl); (case hg => rfl); (case hr => first | (go_simp; done) | (go_simp; rfl)); (case hp => exact (Reps.none _ _)); intro v558 w4 ho5 hb hg_ hnew_; clear hg_ hnew_; (first | rw [← Ny557.out] at ho5 | (simp only [Int.reduceToNat] at ho5; rw [← Ny557.out] at ho5)); have HO559 := Aside0.mk (Kd.R_lower ho5 (below_size bl)); replace HB := Aside0.mk (below_step bl hb); clear hb ho5))
  go_loopg [6, 7] k (fun kq v6 v7 w' => ∃ (x6_1 : List (S87)) (x7_1 : Int), v7 = .int .i64 x7_1 ∧ Aside0 (spec_Drop.l0 kq l0 t556 x6_1 x7_1 = some r) ∧ Aside0 (kq ≤ k) ∧ Aside0 (Kd.R k87 87 w' w.heap.size (fun _ => True) v6 x6_1) ∧ Aside0 (Below w.heap.size w w'))
  case atStart => exact ⟨(y557), (0), (by first | rfl | (simp; done) | (simp [*]; done)), H', ⟨Nat.le_refl _⟩, ⟨by (with_reducible repeat (first | apply Kd.R_alloc | apply Kd.R_drewN | apply Kd.R_drew)); exact HO559.out⟩, ⟨by repeat (first | (with_reducible first | exact HB.out | apply below_alloc | apply pw_below_drewN | apply below_drew1) | exact HB.out)⟩⟩
  case round =>
    clear H'
    try clear c1
    try clear p2
    obtain ⟨x6_1, x7_1, rfl, HA, HK1, HO_6, HB⟩ := hrel
    cases gk with
    | zero => exact absurd HA.out (by simp [spec_Drop.l0])
    | succ k1 =>
      have H := HA.out
      clear HA
      simp only [spec_Drop.l0] at H
      by_cases c6 : x7_1 < (l0.length : Int)
      · rw [if_pos c6] at H
        have c6b0 : decide (x7_1 < (l0.length : Int)) = true := decide_eq_true c6
        clear c6
        by_cases c7 : x7_1 = t556
        · rw [if_pos c7] at H
          have c7b0 : (x7_1 == t556) = true := beq_iff_eq.mpr c7
          have c7b1 : (x7_1 != t556) = false := bne_eq_false_iff_eq.mpr c7
          clear c7
          have H' := Aside0.mk H
          clear H
          go_wp2
          go_roundg k1
          case measure => have := HK1.out; omega
          case rel => exact ⟨(x6_1), (wrap64 (x7_1 + 1)), (by first | rfl | (simp; done) | (simp [*]; done)), H', ⟨by have := HK1.out; omega⟩, ⟨by (with_reducible repeat (first | apply Kd.R_alloc | apply Kd.R_drewN | apply Kd.R_drew)); exact HO_6.out⟩, ⟨by repeat (first | (with_reducible first | exact HB.out | apply below_alloc | apply pw_below_drewN | apply below_drew1) | exact HB.out)⟩⟩
        · rw [if_neg c7] at H
          have c7b0 : (x7_1 == t556) = false := beq_eq_false_iff_ne.mpr c7
          have c7b1 : (x7_1 != t556) = true := bne_iff_ne.mpr c7
          by_cases c8 : 0 ≤ x7_1
          · rw [if_pos c8] at H
            have c8b0 : decide (0 ≤ x7_1) = true := decide_eq_true c8
            clear c8
            by_cases c9 : x6_1.length < 4398046511104
            · rw [if_pos c9] at H
              have LMc9 := Aside0.mk c9
              clear c9
              obtain ⟨y561, hy561⟩ : ∃ y_ : List (S87), y_ = (x6_1 ++ [(⟨(rd_T87 l0 x7_1).f0, (rd_T87 l0 x7_1).f1⟩ : S87)]) := ⟨_, rfl⟩
              replace H : (spec_Drop.l0 k1 l0 t556 y561 (wrap64 (x7_1 + 1))) = some r := by first | (rw [hy561]; with_reducible exact H) | (have H2_ := (Option.bind_some _ _).symm.trans H; rw [hy561]; with_reducible exact H2_) | (have H2_ := (Option.bind_some _ _).symm.trans H; with_reducible exact H2_) | with_reducible exact H | (rw [hy561]; exact H) | exact H
              have Ny561 := Aside0.mk hy561
              clear hy561
              have H' := Aside0.mk H
              clear H
              have p560 : 0 ≤ (x7_1 : Int) := of_decide_eq_true (by first | (with_reducible assumption) | assumption)
              have q560 : x7_1 < (l0.length : Int) := of_decide_eq_true (by first | (with_reducible assumption) | assumption)
              obtain ⟨ad560, e560, hx560_0, hx560_1⟩ := at_T87 HR0.out x7_1 p560 q560
              cases e560
              replace hx560_0 := (HB.out.cell (World.block_lt_of_cell? w _ hx560_0)).trans hx560_0
              replace hx560_1 := (HB.out.cell (World.block_lt_of_cell? w _ hx560_1)).trans hx560_1
              replace p560 := eq_true p560
              replace q560 := eq_true q560
              go_wp2_with (first | ((with_reducible refine gate_builtin (b := .append) (xs := #[.tmp 21, .tmp 26]) rfl ?_); at_builtin; refine Kd.R_append k87 (w0 := w) w.heap.size rfl (.tmp 21) (.tmp 26) 50 87 (.agg #[(.string ⟨#[]⟩), (.string ⟨#[]⟩)]) 32 rfl Tryd.underlying50 info87 rfl (by decide) (by omega) u6 x6_1 (⟨(rd_T87 l0 x7_1).f0, (rd_T87 l0 x7_1).f1⟩ : S87) [.string ((rd_T87 l0 x7_1).f0), .string ((rd_T87 l0 x7_1).f1)] (fun _ => True) (fun _ => False) rfl rfl ?aP (fun _ hk => hk.elim) ?aF ?aO ?aB ?aS ?aL ?_; (case aP => exact k87_mkM _ _ _ (⟨(rd_T87 l0 x7_1).f0, (rd_T87 l0 x7_1).f1⟩ : S87)); (case aB => exact bl); (case aF => exact (fun _ _ => trivial)); (case aO => exact (ro HO_6)); (case aS => exact (below_size bl)); (case aL => have := LMc9.out; omega); intro v562 w10 ho hb hg hat; rw [← Ny561.out] at ho; have n0_ := Aside0.mk (hb); have n1_ := Aside0.mk (ho); clear HB; clear HO_6; have HB := n0_; have HO563 := n1_; clear n0_ n1_; clear ho hb hg hat))
              go_roundg k1
              case measure => have := HK1.out; omega
              case rel => exact ⟨(y561), (wrap64 (x7_1 + 1)), (by first | rfl | (simp; done) | (simp [*]; done)), H', ⟨by have := HK1.out; omega⟩, ⟨by (with_reducible repeat (first | apply Kd.R_alloc | apply Kd.R_drewN | apply Kd.R_drew)); exact HO563.out⟩, ⟨by repeat (first | (with_reducible first | exact HB.out | apply below_alloc | apply pw_below_drewN | apply below_drew1) | exact HB.out)⟩⟩
            · rw [if_neg c9] at H
              exact absurd H (by simp)
          · rw [if_neg c8] at H
            exact absurd H (by simp)
      · rw [if_neg c6] at H
        have c6b0 : decide (x7_1 < (l0.length : Int)) = false := decide_eq_false c6
        clear c6
        obtain rfl := Option.some.inj H
        go_wp2
        go_ret
        exact ⟨_, rf, by (with_reducible repeat (first | apply Kd.R_alloc | apply Kd.R_drewN | apply Kd.R_drew)); exact HO_6.out, bl⟩

-- NOT PRINTED: function 84 (spec_Ask)

/-! ### impl_Get: function 77 -/
def impl_Get.f (l0 : List (S87)) (a1 : ByteArray) : Option (ByteArray × Bool) := (impl_fieldAt.f l0 a1).bind fun t572 => (if t572 < 0 then (some ((⟨#[]⟩ : ByteArray), false)) else (if 0 ≤ t572 then (if t572 < (l0.length : Int) then (some ((rd_T87 l0 t572).f1, true)) else (none)) else (none)))
set_option maxHeartbeats 8000000 in
set_option maxRecDepth 100000 in
theorem impl_Get.calls (A0 : Option Addr) (c0 : Nat) (l0 : List (S87)) (a1 : ByteArray) (r1 : ByteArray) (r2 : Bool) (w : World) (hr0 : Kd.C k87 w A0 l0.length l0) (hc0 : l0.length ≤ c0) (h : impl_Get.f l0 a1 = some (r1, r2)) :
    Calls Tryd.prog 77 #[.slice A0 l0.length c0, .string a1] w fun e w' => e = .returned (.tuple #[.string r1, .bool r2]) ∧ Below w.heap.size w w' := by
  have HR0 := Aside0.mk hr0
  have HC0 := Aside0.mk hc0
  clear hr0 hc0
  have HB := Aside0.mk (Below.refl w.heap.size w)
  have H : ((impl_fieldAt.f l0 a1).bind fun t572 => (if t572 < 0 then (some ((⟨#[]⟩ : ByteArray), false)) else (if 0 ≤ t572 then (if t572 < (l0.length : Int) then (some ((rd_T87 l0 t572).f1, true)) else (none)) else (none)))) = some (r1, r2) := h
  clear h
  replace H := Option.bind_eq_some_iff.mp H
  obtain ⟨t572, A30, H⟩ := H
  replace H : (if t572 < 0 then (some ((⟨#[]⟩ : ByteArray), false)) else (if 0 ≤ t572 then (if t572 < (l0.length : Int) then (some ((rd_T87 l0 t572).f1, true)) else (none)) else (none))) = some (r1, r2) := H
  have A3 := Aside0.mk A30
  clear A30
  by_cases c4 : t572 < 0
  · rw [if_pos c4] at H
    have c4b0 : decide (t572 < 0) = true := decide_eq_true c4
    clear c4
    simp only [Option.some.injEq, Prod.mk.injEq] at H
    obtain ⟨rfl, rfl⟩ := H
    go_enter Tryd.func77, Tryd.ntmps77
    go_wp2_with (first | ((with_reducible refine gate_callee (f := 115) rfl ?_); refine goesL_ (some 9) rfl rfl Tryd.func115 (by kernel_rfl) rfl #[.slice A0 l0.length c0, .string a1] rfl ma ?_; (with_reducible refine (impl_fieldAt.calls _ _ l0 a1 t572 _ ?side1 ?side2 A3.out).mono ?_); (case side1 => repeat (first | exact HR0.out | (with_reducible refine Kd.C_alloc ?_ _) | (with_reducible refine Kd.C_drewN ?_ _) | (with_reducible refine Kd.C_drew ?_))); (case side2 => exact HC0.out); rintro e w5 ⟨rfl, hb⟩; refine ⟨_, rfl, ?_⟩; replace HB := Aside0.mk (below_step bl hb); (try clear hb); (try clear hb2); (try clear hk); (try clear hi)))
    go_ret2
    exact ⟨rf, bl⟩
  · rw [if_neg c4] at H
    have c4b0 : decide (t572 < 0) = false := decide_eq_false c4
    clear c4
    by_cases c6 : 0 ≤ t572
    · rw [if_pos c6] at H
      have c6b0 : decide (0 ≤ t572) = true := decide_eq_true c6
      clear c6
      by_cases c7 : t572 < (l0.length : Int)
      · rw [if_pos c7] at H
        have c7b0 : decide (t572 < (l0.length : Int)) = true := decide_eq_true c7
        clear c7
        simp only [Option.some.injEq, Prod.mk.injEq] at H
        obtain ⟨rfl, rfl⟩ := H
        go_enter Tryd.func77, Tryd.ntmps77
        go_wp2_with (first | ((with_reducible refine gate_callee (f := 115) rfl ?_); refine goesL_ (some 9) rfl rfl Tryd.func115 (by kernel_rfl) rfl #[.slice A0 l0.length c0, .string a1] rfl ma ?_; (with_reducible refine (impl_fieldAt.calls _ _ l0 a1 t572 _ ?side1 ?side2 A3.out).mono ?_); (case side1 => repeat (first | exact HR0.out | (with_reducible refine Kd.C_alloc ?_ _) | (with_reducible refine Kd.C_drewN ?_ _) | (with_reducible refine Kd.C_drew ?_))); (case side2 => exact HC0.out); rintro e w8 ⟨rfl, hb⟩; refine ⟨_, rfl, ?_⟩; replace HB := Aside0.mk (below_step bl hb); (try clear hb); (try clear hb2); (try clear hk); (try clear hi); have p573 : 0 ≤ (t572 : Int) := of_decide_eq_true (by first | (with_reducible assumption) | assumption); have q573 : t572 < (l0.length : Int) := of_decide_eq_true (by first | (with_reducible assumption) | assumption); obtain ⟨ad573, e573, hx573_0, hx573_1⟩ := at_T87 HR0.out t572 p573 q573; cases e573; replace hx573_0 := (HB.out.cell (World.block_lt_of_cell? w _ hx573_0)).trans hx573_0; replace hx573_1 := (HB.out.cell (World.block_lt_of_cell? w _ hx573_1)).trans hx573_1; replace p573 := eq_true p573; replace q573 := eq_true q573))
        go_ret2
        exact ⟨rf, bl⟩
      · rw [if_neg c7] at H
        exact absurd H (by simp)
    · rw [if_neg c6] at H
      exact absurd H (by simp)

/-! ### slices.Delete of one field of a row of the call's own, in place -/
/-- a store behind a row's last element (its capacity reaches further) turns nothing of it -/
theorem R_beyond {α : Type} {d : Kd α} {e base g m c j : Nat} {ok : Nat → Prop} {W : World} {xs : List α} (h : Kd.R d e W base ok (.slice (some ⟨g, 0, none⟩) m c) xs) (hj : m * d.sz ≤ j) (u : Value) : Kd.R d e (W.setCell ⟨g, j, none⟩ u) base ok (.slice (some ⟨g, 0, none⟩) m c) xs := by
  obtain ⟨hm, _, _⟩ := Kd.R_reads' h
  obtain ⟨hok, inner, ⟨hl, hown⟩, hr⟩ := h
  refine ⟨hok, inner, ⟨hl, ?_⟩, hr.imp_ (fun _ _ hp => Kd.M_far (p := ⟨g, j, none⟩) hp (fun k hk e => hk.2 (by rw [e]; rfl)) u)⟩
  rcases hown with ⟨hv, _⟩ | ⟨g', cap, cur, hv, hb, hh, h1, h2, h3, h4⟩
  · cases hv
  injection hv with ha _ hc
  injection ha with ha
  injection ha with hg
  subst hg; subst hc
  refine .inr ⟨g, c, cur.setIfInBounds j u, by rw [← hm], hb, blk_set hh j u, h1, h2, by simpa using h3, ?_⟩
  rw [← h4, Array.toList_setIfInBounds, List.take_set_of_le (by rw [← hm]; omega)]
theorem R_cells {α : Type} {d : Kd α} {e base g m c : Nat} {ok : Nat → Prop} {W : World} {xs : List α} (h : Kd.R d e W base ok (.slice (some ⟨g, 0, none⟩) m c) xs) (j : Nat) (hj : j < c * d.sz) : (W.cell? ⟨g, j, none⟩).isSome = true ∧ W.frozen? ⟨g, j, none⟩ = false ∧ base ≤ g := by
  obtain ⟨_, inner, ⟨hl, hown⟩, hr⟩ := h
  rcases hown with ⟨hv, _⟩ | ⟨g', cap, cur, hv, hb, hh, h1, h2, h3, h4⟩
  · cases hv
  injection hv with ha _ hc
  injection ha with ha
  injection ha with hg
  subst hg; subst hc
  refine ⟨?_, blk_frozen hh j, hb⟩
  rw [blk_cell hh, Array.getElem?_eq_getElem (by omega)]; rfl
theorem clear_one (g n c' : Nat) (hn : 0 < n) (w : World) (h1 : (w.cell? ⟨g, (n - 1) * 2, none⟩).isSome = true ∧ w.frozen? ⟨g, (n - 1) * 2, none⟩ = false) (h2 : (w.cell? ⟨g, (n - 1) * 2 + 1, none⟩).isSome = true ∧ w.frozen? ⟨g, (n - 1) * 2 + 1, none⟩ = false) (ty : TypeId) :
    (Builtin.clear_ #[50] ty #[.slice (some ⟨g, (n - 1) * 2, none⟩) (n - (n - 1)) c']).run Tryd.prog w = .ok (.tuple #[]) ((w.setCell ⟨g, (n - 1) * 2, none⟩ (.string ⟨#[]⟩)).setCell ⟨g, (n - 1) * 2 + 1, none⟩ (.string ⟨#[]⟩)) := by
  have hst := run_storeCells_cells (P := Tryd.prog) g ((n - 1) * 2) [.string ⟨#[]⟩, .string ⟨#[]⟩] 0 w (by intro j hj; have hj' : j < 2 := hj; rcases j with _ | _ | j; exact h1.1; exact h2.1; omega) (by intro j hj; have hj' : j < 2 := hj; rcases j with _ | _ | j; exact h1.2; exact h2.2; omega) (by simp [Value.oneCell'])
  have hz : (zeroValue 87).run Tryd.prog w = .ok (.agg #[.string ⟨#[]⟩, .string ⟨#[]⟩]) w := by kernel_rfl
  have hone : n - (n - 1) = 1 := by omega
  rw [hone]
  have hzc : (Builtin.zeroCells #[Value.string ⟨#[]⟩, Value.string ⟨#[]⟩] 1).toList = [Value.string ⟨#[]⟩, Value.string ⟨#[]⟩] := by kernel_rfl
  simp only [Builtin.clear_]
  simp [run_underlying Tryd.underlying50, hz, Value.cells, hzc, hst]
  rfl
set_option maxHeartbeats 8000000 in
set_option maxRecDepth 100000 in
theorem deleteF (w0 : World) (base g c i : Nat) (xs : List S87) (W : World) (HO : Kd.R k87 87 W base (fun _ => True) (.slice (some ⟨g, 0, none⟩) xs.length c) xs) (hi : i < xs.length) (hn : xs.length < 4398046511104) (HB : Below base w0 W) (hbase : base ≤ W.heap.size) :
    Calls Tryd.prog 126 #[.slice (some ⟨g, 0, none⟩) xs.length c, .int .i64 i, .int .i64 ((i : Int) + 1)] W fun e w' => ∃ v0_ : Value, e = .returned v0_ ∧ Kd.R k87 87 w' base (fun _ => True) v0_ (xs.eraseIdx i) ∧ Below base w0 w' := by
  obtain ⟨_, hc, _⟩ := Kd.R_reads' HO
  have HOA := Aside0.mk HO
  have HBA := Aside0.mk HB
  clear HO HB
  have h0 : (0 : Int) ≤ (i : Int) := by omega
  have h1 : (i : Int) ≤ (i : Int) + 1 := by omega
  have h2 : (i : Int) + 1 ≤ (xs.length : Int) := by omega
  have h3 : (xs.length : Int) ≤ (c : Int) := by omega
  have hne : ((i : Int) == (i : Int) + 1) = false := by simp; omega
  go_enter Tryd.func126, Tryd.ntmps126
  go_wp2
  have h4 : (0 : Int) ≤ (i : Int) + 1 := by omega
  have HNE := Aside0.mk hn
  clear hn
  by_cases hci : c = i + 1
  · subst hci
    go_region_law ((refine Kd.R_delete_step k87 (w0 := w0) base ?hw (.tmp 22) (.tmp 25) 50 87 rfl Tryd.underlying50 (by kernel_rfl) (g := g) (n := xs.length) (c := i + 1) (k := i) rfl rfl ?hA ?hm (Kd.R_drew HOA.out) hi (below_drew HBA.out) hbase ?_); (case hw => rfl); (case hA => simp); (case hm => omega); intro w1 ho hb hg; have HO1 := Aside0.mk ho; have HB1 := Aside0.mk hb; have HG1 := Aside0.mk hg; clear ho hb hg)
    have q1 := R_cells HO1.out ((xs.length - 1) * 2) (by show _ < (i + 1) * 2; omega)
    have q2 := R_cells HO1.out ((xs.length - 1) * 2 + 1) (by show _ < (i + 1) * 2; omega)
    have kcl := clear_one g xs.length ((i + 1) - (xs.length - 1)) (by omega) w1 ⟨q1.1, q1.2.1⟩ ⟨q2.1, q2.2.1⟩
    have HQ := Aside0.mk q1.2.2
    clear q1 q2
    have k1 : (0 : Int) ≤ ((xs.length - 1 : Nat) : Int) := by omega
    have k2 : ((xs.length - 1 : Nat) : Int) ≤ (xs.length : Int) := by omega
    go_wp2
    go_ret
    exact ⟨_, rfl, R_beyond (R_beyond HO1.out (by show (xs.length - 1) * 2 ≤ _; omega) _) (by show (xs.length - 1) * 2 ≤ _; omega) _, (HB1.out.setCell (p := ⟨g, (xs.length - 1) * 2, none⟩) HQ.out _).setCell (p := ⟨g, (xs.length - 1) * 2 + 1, none⟩) HQ.out _⟩
  · have hcf : (c == i + 1) = false := by simpa using hci
    have HC := Aside0.mk hci
    have hic : i ≤ c := by omega
    go_region_law ((refine Kd.R_delete_step k87 (w0 := w0) base ?hw (.tmp 22) (.tmp 25) 50 87 rfl Tryd.underlying50 (by kernel_rfl) (g := g) (n := xs.length) (c := c) (k := i) rfl rfl ?hA ?hm (Kd.R_drew HOA.out) hi (below_drew HBA.out) hbase ?_); (case hw => rfl); (case hA => rw [if_neg HC.out, Option.map_some, add_plain]; rfl); (case hm => first | rfl | omega); intro w1 ho hb hg; have HO1 := Aside0.mk ho; have HB1 := Aside0.mk hb; have HG1 := Aside0.mk hg; clear ho hb hg)
    have q1 := R_cells HO1.out ((xs.length - 1) * 2) (by show _ < c * 2; omega)
    have q2 := R_cells HO1.out ((xs.length - 1) * 2 + 1) (by show _ < c * 2; omega)
    have kcl := clear_one g xs.length (c - (xs.length - 1)) (by omega) w1 ⟨q1.1, q1.2.1⟩ ⟨q2.1, q2.2.1⟩
    have HQ := Aside0.mk q1.2.2
    clear q1 q2
    have k1 : (0 : Int) ≤ ((xs.length - 1 : Nat) : Int) := by omega
    have k2 : ((xs.length - 1 : Nat) : Int) ≤ (xs.length : Int) := by omega
    go_wp2
    go_ret
    exact ⟨_, rfl, R_beyond (R_beyond HO1.out (by show (xs.length - 1) * 2 ≤ _; omega) _) (by show (xs.length - 1) * 2 ≤ _; omega) _, (HB1.out.setCell (p := ⟨g, (xs.length - 1) * 2, none⟩) HQ.out _).setCell (p := ⟨g, (xs.length - 1) * 2 + 1, none⟩) HQ.out _⟩

/-! ### impl.Drop -/
def impl_Drop.f (l0 : List S87) (a1 : ByteArray) : Option (List S87) := if l0.length < 4398046511104 then some (if at_ a1 l0 0 < 0 then l0 else l0.eraseIdx (at_ a1 l0 0).toNat) else none
theorem at_bounds (n : ByteArray) : ∀ (l : List S87) (i : Nat), at_ n l i = -1 ∨ ((i : Int) ≤ at_ n l i ∧ at_ n l i < (i : Int) + l.length)
  | [], i => .inl rfl
  | x :: r, i => by
    simp only [at_]
    split
    · exact .inr ⟨Int.le_refl _, by simp; omega⟩
    · rcases at_bounds n r (i + 1) with h | h
      · exact .inl h
      · exact .inr ⟨by omega, by simp; omega⟩
set_option maxHeartbeats 8000000 in
set_option maxRecDepth 100000 in
theorem impl_Drop.calls (A0 : Option Addr) (c0 : Nat) (l0 : List (S87)) (a1 : ByteArray) (r : List S87) (w : World) (hr0 : Kd.C k87 w A0 l0.length l0) (hc0 : l0.length ≤ c0) (h : impl_Drop.f l0 a1 = some r) :
    Calls Tryd.prog 78 #[.slice A0 l0.length c0, .string a1] w fun e w' => ∃ v0_ : Value, e = .returned v0_ ∧ Kd.R k87 87 w' w.heap.size (fun _ => True) v0_ r ∧ Below w.heap.size w w' := by
  unfold impl_Drop.f at h
  split at h
  case isFalse => cases h
  rename_i hl
  have HRR := Aside0.mk (Option.some.inj h).symm
  have HN := Aside0.mk hl
  have HR := Aside0.mk hr0
  have HC0 := Aside0.mk hc0
  have hcl : slices_Clone_Field.f l0 = some l0 := by unfold slices_Clone_Field.f; rw [if_pos hl]
  have hat : impl_fieldAt.f l0 a1 = some (at_ a1 l0 0) := by unfold impl_fieldAt.f; rw [if_pos hl]
  have HCL := Aside0.mk hcl
  have HAT := Aside0.mk hat
  have hb := at_bounds a1 l0 0
  clear h hl hr0 hc0 hcl hat
  obtain ⟨j, hj⟩ : ∃ j, j = at_ a1 l0 0 := ⟨_, rfl⟩
  rw [← hj] at hb
  have HJ := Aside0.mk hj
  rw [HJ.out.symm] at HAT
  clear hj
  by_cases hneg : j < 0
  · have hd : decide (0 ≤ j) = false := by simpa using hneg
    have HNEG := Aside0.mk hneg
    clear hneg hb
    go_enter Tryd.func78, Tryd.ntmps78
    go_wp2_with (first | (go_at_call 125; refine (slices_Clone_Field.calls _ _ l0 l0 _ HR.out HC0.out HCL.out).mono ?_; rintro e w1 ⟨v1, rfl, ho, hb⟩; have HO1 := Aside0.mk ho; have HB1 := Aside0.mk hb; clear ho hb) | (go_at_call 115; refine (impl_fieldAt.calls _ _ l0 a1 _ _ (Kd.C_below HR.out HB1.out) HC0.out HAT.out).mono ?_; rintro e w2 ⟨rfl, hb⟩; have HB2 := Aside0.mk hb; clear hb))
    go_ret
    exact ⟨_, rfl, by rw [HRR.out, if_pos (by rw [← HJ.out]; exact HNEG.out)]; exact Kd.R_below HO1.out HB2.out, below_then HB1.out HB1.out.size HB2.out⟩
  · obtain ⟨i, rfl⟩ : ∃ i : Nat, j = (i : Int) := ⟨j.toNat, by omega⟩
    have hi : i < l0.length := by omega
    have hd : decide ((0 : Int) ≤ (i : Int)) = true := by simp
    have hbi : (i : Int) ≤ 4398046511104 := by have := HN.out; omega
    have HI := Aside0.mk hi
    clear hneg hb hi
    go_enter Tryd.func78, Tryd.ntmps78
    go_wp2_with (first | (go_at_call 125; refine (slices_Clone_Field.calls _ _ l0 l0 _ HR.out HC0.out HCL.out).mono ?_; rintro e w1 ⟨v1, rfl, ho, hb⟩; obtain ⟨g1, cap1, rfl, hg1, _⟩ := Kd.R_form ho (Nat.lt_of_le_of_lt (Nat.zero_le _) HI.out); have HO1 := Aside0.mk ho; have HB1 := Aside0.mk hb; clear ho hb hg1) | (go_at_call 115; refine (impl_fieldAt.calls _ _ l0 a1 _ _ (Kd.C_below HR.out HB1.out) HC0.out HAT.out).mono ?_; rintro e w2 ⟨rfl, hb⟩; have HB2 := Aside0.mk hb; clear hb) | (go_at_call 126; refine (deleteF w w.heap.size g1 cap1 i l0 _ (Kd.R_below HO1.out HB2.out) HI.out HN.out (below_then HB1.out HB1.out.size HB2.out) (below_size (below_then HB1.out HB1.out.size HB2.out))).mono ?_; rintro e w3 ⟨v3, rfl, ho, hb⟩; have HO3 := Aside0.mk ho; have HB3 := Aside0.mk hb; clear ho hb))
    go_ret
    exact ⟨_, rfl, by rw [HRR.out, if_neg (by rw [← HJ.out]; omega), ← HJ.out, Int.toNat_natCast]; exact HO3.out, HB3.out⟩

/-! ### impl_copyReq: function 127 -/
def impl_copyReq.f (a0_0 : Int) (a0_1 : ByteArray) (l0_2 : List (S87)) (a0_3 : ByteArray) : Option (Int × ByteArray × (List (S87)) × ByteArray) := (slices_Clone_Field.f l0_2).bind fun t576 => (some (a0_0, a0_1, t576, a0_3))
set_option maxHeartbeats 8000000 in
set_option maxRecDepth 100000 in
theorem impl_copyReq.calls (a0_0 : Int) (a0_1 : ByteArray) (A0_2 : Option Addr) (c0_2 : Nat) (l0_2 : List (S87)) (a0_3 : ByteArray) (r1 : Int) (r2 : ByteArray) (r3 : List (S87)) (r4 : ByteArray) (w : World) (hr0_2 : Kd.C k87 w A0_2 l0_2.length l0_2) (hc0_2 : l0_2.length ≤ c0_2) (h : impl_copyReq.f a0_0 a0_1 l0_2 a0_3 = some (r1, r2, r3, r4)) :
    Calls Tryd.prog 127 #[.agg #[.int .i64 a0_0, .string a0_1, .slice A0_2 l0_2.length c0_2, .string a0_3]] w fun e w' => ∃ v2_ : Value, e = .returned (.agg #[.int .i64 r1, .string r2, v2_, .string r4]) ∧ Kd.R k87 87 w' w.heap.size (fun _ => True) v2_ r3 ∧ Below w.heap.size w w' := by
  have hu68 := Tryd.underlying68
  have HR0_2 := Aside0.mk hr0_2
  have HC0_2 := Aside0.mk hc0_2
  clear hr0_2 hc0_2
  have HB := Aside0.mk (Below.refl w.heap.size w)
  have H : ((slices_Clone_Field.f l0_2).bind fun t576 => (some (a0_0, a0_1, t576, a0_3))) = some (r1, r2, r3, r4) := h
  clear h
  replace H := Option.bind_eq_some_iff.mp H
  obtain ⟨t576, A20, H⟩ := H
  replace H : (some (a0_0, a0_1, t576, a0_3)) = some (r1, r2, r3, r4) := H
  have A2 := Aside0.mk A20
  clear A20
  simp only [Option.some.injEq, Prod.mk.injEq] at H
  obtain ⟨rfl, rfl, rfl, rfl⟩ := H
  go_enter Tryd.func127, Tryd.ntmps127
  go_wp2_with (first | ((with_reducible refine gate_dst (N := 1) rfl ?_); refine box_event ?hg (N := 1) ?hd (cs := #[.int .i64 a0_0, .string a0_1, .slice A0_2 l0_2.length c0_2, .string a0_3]) (t := 68) ?hr ?_; (case hd => rfl); (case hg => rfl); (case hr => first | (go_simp; done) | (go_simp; rfl)); intro gb574 hg w3 hbox hb; have n0_ := Aside0.mk (below_step bl hb); have n1_ := Aside0.mk (hbox); have n2_ := Aside0.mk ((by rw [hg]; exact (below_size bl) : w.heap.size ≤ gb574)); have n3_ := Aside0.mk ((by rw [hg]; exact (below_size bl) : w.heap.size ≤ gb574)); clear HB; have HB := n0_; have BK574 := n1_; have GW574 := n2_; have GE574 := n3_; clear n0_ n1_ n2_ n3_; clear hb hbox hg) | ((with_reducible refine gate_dst (N := 2) rfl ?_); refine box_event ?hg (N := 2) ?hd (cs := #[.int .i64 0, .string (⟨#[]⟩ : ByteArray), .slice none 0 0, .string (⟨#[]⟩ : ByteArray)]) (t := 68) ?hr ?_; (case hd => rfl); (case hg => rfl); (case hr => first | (go_simp; done) | (go_simp; rfl)); intro gb575 hg w4 hbox hb; have n0_ := Aside0.mk (blk_below (g := gb574) (o := .cells #[.int .i64 a0_0, .string a0_1, .slice A0_2 l0_2.length c0_2, .string a0_3] 68 (0, 0)) (bk BK574) hb); have n1_ := Aside0.mk (below_step bl hb); have n2_ := Aside0.mk (hbox); have n3_ := Aside0.mk ((by rw [hg]; exact (below_size bl) : w.heap.size ≤ gb575)); have n4_ := Aside0.mk ((by rw [hg]; exact (below_size bl) : w.heap.size ≤ gb575)); have n5_ := Aside0.mk ((by rw [hg]; exact Nat.ne_of_lt (blk_lt (g := gb574) (o := .cells #[.int .i64 a0_0, .string a0_1, .slice A0_2 l0_2.length c0_2, .string a0_3] 68 (0, 0)) (bk BK574)) : gb574 ≠ gb575)); have n6_ := Aside0.mk ((by rw [hg]; exact Nat.ne_of_gt (blk_lt (g := gb574) (o := .cells #[.int .i64 a0_0, .string a0_1, .slice A0_2 l0_2.length c0_2, .string a0_3] 68 (0, 0)) (bk BK574)) : gb575 ≠ gb574)); clear BK574; clear HB; have BK574 := n0_; have HB := n1_; have BK575 := n2_; have GW575 := n3_; have GE575 := n4_; have NB574_575 := n5_; have NB575_574 := n6_; clear n0_ n1_ n2_ n3_ n4_ n5_ n6_; clear hb hbox hg; have hnb5 := NB574_575.out; have hnc5 := NB575_574.out; have hcz6_0 : w4.cell? ⟨gb574, 0, none⟩ = some (.int .i64 a0_0) := (blk_cell BK574.out 0).trans rfl; have hcz6_1 : w4.cell? ⟨gb574, 1, none⟩ = some (.string a0_1) := (blk_cell BK574.out 1).trans rfl; have hcz6_2 : w4.cell? ⟨gb574, 2, none⟩ = some (.slice A0_2 l0_2.length c0_2) := (blk_cell BK574.out 2).trans rfl; have hcz6_3 : w4.cell? ⟨gb574, 3, none⟩ = some (.string a0_3) := (blk_cell BK574.out 3).trans rfl; have hfz6_0 := blk_frozen BK574.out 0; have hfz6_1 := blk_frozen BK574.out 1; have hfz6_2 := blk_frozen BK574.out 2; have hfz6_3 := blk_frozen BK574.out 3) | ((with_reducible refine gate_callee (f := 125) rfl ?_); refine goesL_ (some 5) rfl rfl Tryd.func125 (by kernel_rfl) rfl #[.slice A0_2 l0_2.length c0_2] rfl ma ?_; (with_reducible refine (slices_Clone_Field.calls _ _ l0_2 t576 _ ?side1 ?side2 A2.out).mono ?_); (case side1 => repeat (first | exact (Kd.C_below HR0_2.out HB.out) | (with_reducible refine Kd.C_alloc ?_ _) | (with_reducible refine Kd.C_drewN ?_ _) | (with_reducible refine Kd.C_drew ?_))); (case side2 => exact HC0_2.out); rintro e w7 ⟨v577, rfl, ho0, hb⟩; refine ⟨_, rfl, ?_⟩; have HO578 := Aside0.mk (Kd.R_lower ho0 (below_size bl)); replace BK574 := kb BK574 hb; replace BK575 := kb BK575 hb; replace HB := Aside0.mk (below_step bl hb); (try clear hb); (try clear hb2); (try clear hk); (try clear hi); (try clear ho0); obtain ⟨Ao8, co8, eo8⟩ := Kd.R_slice HO578.out; subst eo8; have hcz9_0 : w7.cell? ⟨gb574, 0, none⟩ = some (.int .i64 a0_0) := (blk_cell BK574.out 0).trans rfl; have hcz9_1 : w7.cell? ⟨gb574, 1, none⟩ = some (.string a0_1) := (blk_cell BK574.out 1).trans rfl; have hcz9_2 : w7.cell? ⟨gb574, 2, none⟩ = some (.slice A0_2 l0_2.length c0_2) := (blk_cell BK574.out 2).trans rfl; have hcz9_3 : w7.cell? ⟨gb574, 3, none⟩ = some (.string a0_3) := (blk_cell BK574.out 3).trans rfl; have hfz9_0 := blk_frozen BK574.out 0; have hfz9_1 := blk_frozen BK574.out 1; have hfz9_2 := blk_frozen BK574.out 2; have hfz9_3 := blk_frozen BK574.out 3; have hcz10_0 : w7.cell? ⟨gb575, 0, none⟩ = some (.int .i64 0) := (blk_cell BK575.out 0).trans rfl; have hcz10_1 : w7.cell? ⟨gb575, 1, none⟩ = some (.string (⟨#[]⟩ : ByteArray)) := (blk_cell BK575.out 1).trans rfl; have hcz10_2 : w7.cell? ⟨gb575, 2, none⟩ = some (.slice none 0 0) := (blk_cell BK575.out 2).trans rfl; have hcz10_3 : w7.cell? ⟨gb575, 3, none⟩ = some (.string (⟨#[]⟩ : ByteArray)) := (blk_cell BK575.out 3).trans rfl; have hfz10_0 := blk_frozen BK575.out 0; have hfz10_1 := blk_frozen BK575.out 1; have hfz10_2 := blk_frozen BK575.out 2; have hfz10_3 := blk_frozen BK575.out 3))
  refine bodyPost_ret (results_cell_row rfl _ _ gb575 68 #[.int .i64 a0_0, .string a0_1, .slice Ao8 t576.length co8, .string a0_3] (0, 0) _ rfl (by (with_reducible repeat (first | refine blk_drewN ?_ _ | refine blk_drew ?_ | refine blk_alloc ?_ _)); refine blk_put (cs := #[.int .i64 a0_0, .string a0_1, .slice Ao8 t576.length co8, .string (⟨#[]⟩ : ByteArray)]) ?_ 3 _ rfl; (with_reducible repeat (first | refine blk_drewN ?_ _ | refine blk_drew ?_ | refine blk_alloc ?_ _)); refine blk_put (cs := #[.int .i64 a0_0, .string a0_1, .slice none 0 0, .string (⟨#[]⟩ : ByteArray)]) ?_ 2 _ rfl; (with_reducible repeat (first | refine blk_drewN ?_ _ | refine blk_drew ?_ | refine blk_alloc ?_ _)); refine blk_put (cs := #[.int .i64 a0_0, .string (⟨#[]⟩ : ByteArray), .slice none 0 0, .string (⟨#[]⟩ : ByteArray)]) ?_ 1 _ rfl; (with_reducible repeat (first | refine blk_drewN ?_ _ | refine blk_drew ?_ | refine blk_alloc ?_ _)); refine blk_put (cs := #[.int .i64 0, .string (⟨#[]⟩ : ByteArray), .slice none 0 0, .string (⟨#[]⟩ : ByteArray)]) ?_ 0 _ rfl; (with_reducible repeat (first | refine blk_drewN ?_ _ | refine blk_drew ?_ | refine blk_alloc ?_ _)); refine blk_far ?_ NB575_574.out _; (with_reducible repeat (first | refine blk_drewN ?_ _ | refine blk_drew ?_ | refine blk_alloc ?_ _)); exact BK575.out) Tryd.underlying68 rfl (by kernel_rfl)) rfl ?_
  exact ⟨_, rf, by (with_reducible repeat (first | apply Kd.R_alloc | apply Kd.R_drewN | apply Kd.R_drew)); exact Kd.R_mono (Kd.R_far (p := ⟨gb575, 3, none⟩) (Kd.R_far (p := ⟨gb575, 2, none⟩) (Kd.R_far (p := ⟨gb575, 1, none⟩) (Kd.R_far (p := ⟨gb575, 0, none⟩) (Kd.R_far (p := ⟨gb574, 2, none⟩) (Kd.R_types (Kd.R_types HO578.out BK574.out (by decide)) BK575.out (by decide)) (fun _ hk => hk.1.2) (.slice Ao8 t576.length co8)) (fun _ hk => hk.2) (.int .i64 a0_0)) (fun _ hk => hk.2) (.string a0_1)) (fun _ hk => hk.2) (.slice Ao8 t576.length co8)) (fun _ hk => hk.2) (.string a0_3)) (fun _ hk => trivial), bl⟩

/-! ### impl_Ask: function 85 -/
def impl_Ask.f (k : Nat) (a0_0 : Int) (a0_1 : ByteArray) (l0_2 : List (S87)) (a0_3 : ByteArray) (l1 : List (S87)) : Option (Int × ByteArray × (List (S87)) × ByteArray) := (impl_Get.f l1 (⟨#[101, 116, 97, 103]⟩ : ByteArray)).bind fun bt581 => ((impl_copyReq.f a0_0 a0_1 l0_2 a0_3).bind fun bt583 => ((impl_Put.f l0_2 (⟨#[105, 102, 45, 110, 111, 110, 101, 45, 109, 97, 116, 99, 104]⟩ : ByteArray) bt581.1).bind fun t590 => (if bt581.2 = true then ((impl_ReqOk.f k bt583.1 bt583.2.1 t590 bt583.2.2.2).bind fun t593 => (if t593 = true then (some (bt583.1, bt583.2.1, t590, bt583.2.2.2)) else ((impl_Drop.f l0_2 (⟨#[105, 102, 45, 110, 111, 110, 101, 45, 109, 97, 116, 99, 104]⟩ : ByteArray)).bind fun t594 => (some (bt583.1, bt583.2.1, t594, bt583.2.2.2))))) else ((impl_Drop.f l0_2 (⟨#[105, 102, 45, 110, 111, 110, 101, 45, 109, 97, 116, 99, 104]⟩ : ByteArray)).bind fun t597 => (some (bt583.1, bt583.2.1, t597, bt583.2.2.2))))))
theorem impl_Ask.mono : ∀ a0 a1 a2 a3 a4 k, LeO (impl_Ask.f k a0 a1 a2 a3 a4) (impl_Ask.f (k + 1) a0 a1 a2 a3 a4) := by
  intro a0 a1 a2 a3 a4 k
  unfold impl_Ask.f
  repeat' first
      | (with_reducible exact impl_ReqOk.mono _ _ _ _ _)
      | (with_reducible exact LeO.refl _)
      | (with_reducible exact LeO.none _)
      | (with_reducible refine LeO.ite ?_ ?_)
      | (with_reducible refine LeO.bind ?_ (fun _ => ?_))
      | exact impl_ReqOk.mono _ _ _ _ _
      | exact LeO.none _
      | refine LeO.ite ?_ ?_
      | refine LeO.bind ?_ (fun _ => ?_)
set_option maxHeartbeats 8000000 in
set_option maxRecDepth 100000 in
theorem impl_Ask.calls (k : Nat) (a0_0 : Int) (a0_1 : ByteArray) (A0_2 : Option Addr) (c0_2 : Nat) (l0_2 : List (S87)) (a0_3 : ByteArray) (A1 : Option Addr) (c1 : Nat) (l1 : List (S87)) (r1 : Int) (r2 : ByteArray) (r3 : List (S87)) (r4 : ByteArray) (w : World) (hr0_2 : Kd.C k87 w A0_2 l0_2.length l0_2) (hc0_2 : l0_2.length ≤ c0_2) (hr1 : Kd.C k87 w A1 l1.length l1) (hc1 : l1.length ≤ c1) (h : impl_Ask.f k a0_0 a0_1 l0_2 a0_3 l1 = some (r1, r2, r3, r4)) :
    Calls Tryd.prog 85 #[.agg #[.int .i64 a0_0, .string a0_1, .slice A0_2 l0_2.length c0_2, .string a0_3], .slice A1 l1.length c1] w fun e w' => ∃ v2_ : Value, e = .returned (.agg #[.int .i64 r1, .string r2, v2_, .string r4]) ∧ Kd.R k87 87 w' w.heap.size (fun _ => True) v2_ r3 ∧ Below w.heap.size w w' := by
  have hu68 := Tryd.underlying68
  have HR0_2 := Aside0.mk hr0_2
  have HC0_2 := Aside0.mk hc0_2
  clear hr0_2 hc0_2
  have HR1 := Aside0.mk hr1
  have HC1 := Aside0.mk hc1
  clear hr1 hc1
  have HB := Aside0.mk (Below.refl w.heap.size w)
  have H : ((impl_Get.f l1 (⟨#[101, 116, 97, 103]⟩ : ByteArray)).bind fun bt581 => ((impl_copyReq.f a0_0 a0_1 l0_2 a0_3).bind fun bt583 => ((impl_Put.f l0_2 (⟨#[105, 102, 45, 110, 111, 110, 101, 45, 109, 97, 116, 99, 104]⟩ : ByteArray) bt581.1).bind fun t590 => (if bt581.2 = true then ((impl_ReqOk.f k bt583.1 bt583.2.1 t590 bt583.2.2.2).bind fun t593 => (if t593 = true then (some (bt583.1, bt583.2.1, t590, bt583.2.2.2)) else ((impl_Drop.f l0_2 (⟨#[105, 102, 45, 110, 111, 110, 101, 45, 109, 97, 116, 99, 104]⟩ : ByteArray)).bind fun t594 => (some (bt583.1, bt583.2.1, t594, bt583.2.2.2))))) else ((impl_Drop.f l0_2 (⟨#[105, 102, 45, 110, 111, 110, 101, 45, 109, 97, 116, 99, 104]⟩ : ByteArray)).bind fun t597 => (some (bt583.1, bt583.2.1, t597, bt583.2.2.2))))))) = some (r1, r2, r3, r4) := h
  clear h
  replace H := Option.bind_eq_some_iff.mp H
  obtain ⟨⟨t581, t582⟩, A30, H⟩ := H
  replace H : ((impl_copyReq.f a0_0 a0_1 l0_2 a0_3).bind fun bt583 => ((impl_Put.f l0_2 (⟨#[105, 102, 45, 110, 111, 110, 101, 45, 109, 97, 116, 99, 104]⟩ : ByteArray) t581).bind fun t590 => (if t582 = true then ((impl_ReqOk.f k bt583.1 bt583.2.1 t590 bt583.2.2.2).bind fun t593 => (if t593 = true then (some (bt583.1, bt583.2.1, t590, bt583.2.2.2)) else ((impl_Drop.f l0_2 (⟨#[105, 102, 45, 110, 111, 110, 101, 45, 109, 97, 116, 99, 104]⟩ : ByteArray)).bind fun t594 => (some (bt583.1, bt583.2.1, t594, bt583.2.2.2))))) else ((impl_Drop.f l0_2 (⟨#[105, 102, 45, 110, 111, 110, 101, 45, 109, 97, 116, 99, 104]⟩ : ByteArray)).bind fun t597 => (some (bt583.1, bt583.2.1, t597, bt583.2.2.2)))))) = some (r1, r2, r3, r4) := H
  have A3 := Aside0.mk A30
  clear A30
  replace H := Option.bind_eq_some_iff.mp H
  obtain ⟨⟨t583, t584, t585, t588⟩, A40, H⟩ := H
  replace H : ((impl_Put.f l0_2 (⟨#[105, 102, 45, 110, 111, 110, 101, 45, 109, 97, 116, 99, 104]⟩ : ByteArray) t581).bind fun t590 => (if t582 = true then ((impl_ReqOk.f k t583 t584 t590 t588).bind fun t593 => (if t593 = true then (some (t583, t584, t590, t588)) else ((impl_Drop.f l0_2 (⟨#[105, 102, 45, 110, 111, 110, 101, 45, 109, 97, 116, 99, 104]⟩ : ByteArray)).bind fun t594 => (some (t583, t584, t594, t588))))) else ((impl_Drop.f l0_2 (⟨#[105, 102, 45, 110, 111, 110, 101, 45, 109, 97, 116, 99, 104]⟩ : ByteArray)).bind fun t597 => (some (t583, t584, t597, t588))))) = some (r1, r2, r3, r4) := H
  have A4 := Aside0.mk A40
  clear A40
  replace H := Option.bind_eq_some_iff.mp H
  obtain ⟨t590, A50, H⟩ := H
  replace H : (if t582 = true then ((impl_ReqOk.f k t583 t584 t590 t588).bind fun t593 => (if t593 = true then (some (t583, t584, t590, t588)) else ((impl_Drop.f l0_2 (⟨#[105, 102, 45, 110, 111, 110, 101, 45, 109, 97, 116, 99, 104]⟩ : ByteArray)).bind fun t594 => (some (t583, t584, t594, t588))))) else ((impl_Drop.f l0_2 (⟨#[105, 102, 45, 110, 111, 110, 101, 45, 109, 97, 116, 99, 104]⟩ : ByteArray)).bind fun t597 => (some (t583, t584, t597, t588)))) = some (r1, r2, r3, r4) := H
  have A5 := Aside0.mk A50
  clear A50
  by_cases c6 : t582 = true
  · subst c6
    have H1 : ((impl_ReqOk.f k t583 t584 t590 t588).bind fun t593 => (if t593 = true then (some (t583, t584, t590, t588)) else ((impl_Drop.f l0_2 (⟨#[105, 102, 45, 110, 111, 110, 101, 45, 109, 97, 116, 99, 104]⟩ : ByteArray)).bind fun t594 => (some (t583, t584, t594, t588))))) = some (r1, r2, r3, r4) := by rw [if_pos rfl] at H; exact H
    clear H
    have H := H1
    clear H1
    replace H := Option.bind_eq_some_iff.mp H
    obtain ⟨t593, A70, H⟩ := H
    replace H : (if t593 = true then (some (t583, t584, t590, t588)) else ((impl_Drop.f l0_2 (⟨#[105, 102, 45, 110, 111, 110, 101, 45, 109, 97, 116, 99, 104]⟩ : ByteArray)).bind fun t594 => (some (t583, t584, t594, t588)))) = some (r1, r2, r3, r4) := H
    have A7 := Aside0.mk A70
    clear A70
    by_cases c8 : t593 = true
    · subst c8
      have H1 : (some (t583, t584, t590, t588)) = some (r1, r2, r3, r4) := by rw [if_pos rfl] at H; exact H
      clear H
      have H := H1
      clear H1
      simp only [Option.some.injEq, Prod.mk.injEq] at H
      obtain ⟨rfl, rfl, rfl, rfl⟩ := H
      go_enter Tryd.func85, Tryd.ntmps85
      go_wp2_with (first | ((with_reducible refine gate_dst (N := 2) rfl ?_); refine box_event ?hg (N := 2) ?hd (cs := #[.int .i64 a0_0, .string a0_1, .slice A0_2 l0_2.length c0_2, .string a0_3]) (t := 68) ?hr ?_; (case hd => rfl); (case hg => rfl); (case hr => first | (go_simp; done) | (go_simp; rfl)); intro gb579 hg w9 hbox hb; have n0_ := Aside0.mk (below_step bl hb); have n1_ := Aside0.mk (hbox); have n2_ := Aside0.mk ((by rw [hg]; exact (below_size bl) : w.heap.size ≤ gb579)); have n3_ := Aside0.mk ((by rw [hg]; exact (below_size bl) : w.heap.size ≤ gb579)); clear HB; have HB := n0_; have BK579 := n1_; have GW579 := n2_; have GE579 := n3_; clear n0_ n1_ n2_ n3_; clear hb hbox hg) | ((with_reducible refine gate_dst (N := 4) rfl ?_); refine box_event ?hg (N := 4) ?hd (cs := #[.int .i64 0, .string (⟨#[]⟩ : ByteArray), .slice none 0 0, .string (⟨#[]⟩ : ByteArray)]) (t := 68) ?hr ?_; (case hd => rfl); (case hg => rfl); (case hr => first | (go_simp; done) | (go_simp; rfl)); intro gb580 hg w10 hbox hb; have n0_ := Aside0.mk (blk_below (g := gb579) (o := .cells #[.int .i64 a0_0, .string a0_1, .slice A0_2 l0_2.length c0_2, .string a0_3] 68 (0, 0)) (bk BK579) hb); have n1_ := Aside0.mk (below_step bl hb); have n2_ := Aside0.mk (hbox); have n3_ := Aside0.mk ((by rw [hg]; exact (below_size bl) : w.heap.size ≤ gb580)); have n4_ := Aside0.mk ((by rw [hg]; exact (below_size bl) : w.heap.size ≤ gb580)); have n5_ := Aside0.mk ((by rw [hg]; exact Nat.ne_of_lt (blk_lt (g := gb579) (o := .cells #[.int .i64 a0_0, .string a0_1, .slice A0_2 l0_2.length c0_2, .string a0_3] 68 (0, 0)) (bk BK579)) : gb579 ≠ gb580)); have n6_ := Aside0.mk ((by rw [hg]; exact Nat.ne_of_gt (blk_lt (g := gb579) (o := .cells #[.int .i64 a0_0, .string a0_1, .slice A0_2 l0_2.length c0_2, .string a0_3] 68 (0, 0)) (bk BK579)) : gb580 ≠ gb579)); clear BK579; clear HB; have BK579 := n0_; have HB := n1_; have BK580 := n2_; have GW580 := n3_; have GE580 := n4_; have NB579_580 := n5_; have NB580_579 := n6_; clear n0_ n1_ n2_ n3_ n4_ n5_ n6_; clear hb hbox hg) | ((with_reducible refine gate_callee (f := 77) rfl ?_); refine goesL_ (some 10) rfl rfl Tryd.func77 (by kernel_rfl) rfl #[.slice A1 l1.length c1, .string (⟨#[101, 116, 97, 103]⟩ : ByteArray)] rfl ma ?_; (with_reducible refine (impl_Get.calls _ _ l1 (⟨#[101, 116, 97, 103]⟩ : ByteArray) t581 true _ ?side1 ?side2 A3.out).mono ?_); (case side1 => repeat (first | exact (Kd.C_below HR1.out HB.out) | (with_reducible refine Kd.C_alloc ?_ _) | (with_reducible refine Kd.C_drewN ?_ _) | (with_reducible refine Kd.C_drew ?_))); (case side2 => exact HC1.out); rintro e w11 ⟨rfl, hb⟩; refine ⟨_, rfl, ?_⟩; replace BK579 := kb BK579 hb; replace BK580 := kb BK580 hb; replace HB := Aside0.mk (below_step bl hb); (try clear hb); (try clear hb2); (try clear hk); (try clear hi); have hnb12 := NB579_580.out; have hnc12 := NB580_579.out; have hcz13_0 : w11.cell? ⟨gb579, 0, none⟩ = some (.int .i64 a0_0) := (blk_cell BK579.out 0).trans rfl; have hcz13_1 : w11.cell? ⟨gb579, 1, none⟩ = some (.string a0_1) := (blk_cell BK579.out 1).trans rfl; have hcz13_2 : w11.cell? ⟨gb579, 2, none⟩ = some (.slice A0_2 l0_2.length c0_2) := (blk_cell BK579.out 2).trans rfl; have hcz13_3 : w11.cell? ⟨gb579, 3, none⟩ = some (.string a0_3) := (blk_cell BK579.out 3).trans rfl; have hfz13_0 := blk_frozen BK579.out 0; have hfz13_1 := blk_frozen BK579.out 1; have hfz13_2 := blk_frozen BK579.out 2; have hfz13_3 := blk_frozen BK579.out 3) | ((with_reducible refine gate_callee (f := 127) rfl ?_); refine goesL_ (some 14) rfl rfl Tryd.func127 (by kernel_rfl) rfl #[.agg #[.int .i64 a0_0, .string a0_1, .slice A0_2 l0_2.length c0_2, .string a0_3]] rfl ma ?_; (with_reducible refine (impl_copyReq.calls a0_0 a0_1 _ _ l0_2 a0_3 t583 t584 t585 t588 _ ?side1 ?side2 A4.out).mono ?_); (case side1 => repeat (first | exact (Kd.C_below HR0_2.out HB.out) | (with_reducible refine Kd.C_alloc ?_ _) | (with_reducible refine Kd.C_drewN ?_ _) | (with_reducible refine Kd.C_drew ?_))); (case side2 => exact HC0_2.out); rintro e w14 ⟨v586, rfl, ho0, hb⟩; refine ⟨_, rfl, ?_⟩; have HO587 := Aside0.mk (Kd.R_lower ho0 (below_size bl)); replace BK579 := kb BK579 hb; replace BK580 := kb BK580 hb; replace HB := Aside0.mk (below_step bl hb); (try clear hb); (try clear hb2); (try clear hk); (try clear hi); (try clear ho0)) | ((with_reducible refine gate_dst (N := 7) rfl ?_); refine box_event ?hg (N := 7) ?hd (cs := #[.int .i64 0, .string (⟨#[]⟩ : ByteArray), .slice none 0 0, .string (⟨#[]⟩ : ByteArray)]) (t := 68) ?hr ?_; (case hd => rfl); (case hg => rfl); (case hr => first | (go_simp; done) | (go_simp; rfl)); intro gb589 hg w15 hbox hb; have n0_ := Aside0.mk (Kd.R_below (ro HO587) hb); have n1_ := Aside0.mk (blk_below (g := gb579) (o := .cells #[.int .i64 a0_0, .string a0_1, .slice A0_2 l0_2.length c0_2, .string a0_3] 68 (0, 0)) (bk BK579) hb); have n2_ := Aside0.mk (blk_below (g := gb580) (o := .cells #[.int .i64 0, .string (⟨#[]⟩ : ByteArray), .slice none 0 0, .string (⟨#[]⟩ : ByteArray)] 68 (0, 0)) (bk BK580) hb); have n3_ := Aside0.mk (below_step bl hb); have n4_ := Aside0.mk (hbox); have n5_ := Aside0.mk ((by rw [hg]; exact (below_size bl) : w.heap.size ≤ gb589)); have n6_ := Aside0.mk ((by rw [hg]; exact (below_size bl) : w.heap.size ≤ gb589)); have n7_ := Aside0.mk ((by rw [hg]; exact Nat.ne_of_lt (blk_lt (g := gb579) (o := .cells #[.int .i64 a0_0, .string a0_1, .slice A0_2 l0_2.length c0_2, .string a0_3] 68 (0, 0)) (bk BK579)) : gb579 ≠ gb589)); have n8_ := Aside0.mk ((by rw [hg]; exact Nat.ne_of_gt (blk_lt (g := gb579) (o := .cells #[.int .i64 a0_0, .string a0_1, .slice A0_2 l0_2.length c0_2, .string a0_3] 68 (0, 0)) (bk BK579)) : gb589 ≠ gb579)); have n9_ := Aside0.mk ((by rw [hg]; exact Nat.ne_of_lt (blk_lt (g := gb580) (o := .cells #[.int .i64 0, .string (⟨#[]⟩ : ByteArray), .slice none 0 0, .string (⟨#[]⟩ : ByteArray)] 68 (0, 0)) (bk BK580)) : gb580 ≠ gb589)); have n10_ := Aside0.mk ((by rw [hg]; exact Nat.ne_of_gt (blk_lt (g := gb580) (o := .cells #[.int .i64 0, .string (⟨#[]⟩ : ByteArray), .slice none 0 0, .string (⟨#[]⟩ : ByteArray)] 68 (0, 0)) (bk BK580)) : gb589 ≠ gb580)); clear HO587; clear BK579; clear BK580; clear HB; have HO587 := n0_; have BK579 := n1_; have BK580 := n2_; have HB := n3_; have BK589 := n4_; have GW589 := n5_; have GE589 := n6_; have NB579_589 := n7_; have NB589_579 := n8_; have NB580_589 := n9_; have NB589_580 := n10_; clear n0_ n1_ n2_ n3_ n4_ n5_ n6_ n7_ n8_ n9_ n10_; clear hb hbox hg; have hnb16 := NB589_579.out; have hnc16 := NB579_589.out; have hnb17 := NB589_580.out; have hnc17 := NB580_589.out; have hcz18_0 : w15.cell? ⟨gb589, 0, none⟩ = some (.int .i64 0) := (blk_cell BK589.out 0).trans rfl; have hcz18_1 : w15.cell? ⟨gb589, 1, none⟩ = some (.string (⟨#[]⟩ : ByteArray)) := (blk_cell BK589.out 1).trans rfl; have hcz18_2 : w15.cell? ⟨gb589, 2, none⟩ = some (.slice none 0 0) := (blk_cell BK589.out 2).trans rfl; have hcz18_3 : w15.cell? ⟨gb589, 3, none⟩ = some (.string (⟨#[]⟩ : ByteArray)) := (blk_cell BK589.out 3).trans rfl; have hfz18_0 := blk_frozen BK589.out 0; have hfz18_1 := blk_frozen BK589.out 1; have hfz18_2 := blk_frozen BK589.out 2; have hfz18_3 := blk_frozen BK589.out 3; obtain ⟨Ao19, co19, eo19⟩ := Kd.R_slice HO587.out; subst eo19; have hcz20_0 : w15.cell? ⟨gb579, 0, none⟩ = some (.int .i64 a0_0) := (blk_cell BK579.out 0).trans rfl; have hcz20_1 : w15.cell? ⟨gb579, 1, none⟩ = some (.string a0_1) := (blk_cell BK579.out 1).trans rfl; have hcz20_2 : w15.cell? ⟨gb579, 2, none⟩ = some (.slice A0_2 l0_2.length c0_2) := (blk_cell BK579.out 2).trans rfl; have hcz20_3 : w15.cell? ⟨gb579, 3, none⟩ = some (.string a0_3) := (blk_cell BK579.out 3).trans rfl; have hfz20_0 := blk_frozen BK579.out 0; have hfz20_1 := blk_frozen BK579.out 1; have hfz20_2 := blk_frozen BK579.out 2; have hfz20_3 := blk_frozen BK579.out 3) | ((with_reducible refine gate_callee (f := 74) rfl ?_); refine goesL_ (some 18) rfl rfl Tryd.func74 (by kernel_rfl) rfl #[.slice A0_2 l0_2.length c0_2, .string (⟨#[105, 102, 45, 110, 111, 110, 101, 45, 109, 97, 116, 99, 104]⟩ : ByteArray), .string t581] rfl ma ?_; (with_reducible refine (impl_Put.calls _ _ l0_2 (⟨#[105, 102, 45, 110, 111, 110, 101, 45, 109, 97, 116, 99, 104]⟩ : ByteArray) t581 t590 _ ?side1 ?side2 A5.out).mono ?_); (case side1 => exact Kd.C_below HR0_2.out bl); (case side2 => exact HC0_2.out); rintro e w21 ⟨v591, rfl, ho0, hb⟩; refine ⟨_, rfl, ?_⟩; have n0_ := Aside0.mk (Kd.R_elder' (by (with_reducible repeat (first | apply Kd.R_alloc | apply Kd.R_drewN | apply Kd.R_drew)); exact (Kd.R_mono (Kd.R_far (p := ⟨gb589, 3, none⟩) (Kd.R_far (p := ⟨gb589, 2, none⟩) (Kd.R_far (p := ⟨gb589, 1, none⟩) (Kd.R_far (p := ⟨gb589, 0, none⟩) (Kd.R_types HO587.out BK589.out (by decide)) (fun _ hk => hk.2) (.int .i64 t583)) (fun _ hk => hk.2) (.string t584)) (fun _ hk => hk.2) (.slice Ao19 t585.length co19)) (fun _ hk => hk.2) (.string t588)) (fun _ h_ => h_.1))) (Kd.R_base ho0) hb); have n1_ := Aside0.mk (Kd.R_lower (Kd.R_new' ho0 (Kd.R_lt (by (with_reducible repeat (first | apply Kd.R_alloc | apply Kd.R_drewN | apply Kd.R_drew)); exact (Kd.R_mono (Kd.R_far (p := ⟨gb589, 3, none⟩) (Kd.R_far (p := ⟨gb589, 2, none⟩) (Kd.R_far (p := ⟨gb589, 1, none⟩) (Kd.R_far (p := ⟨gb589, 0, none⟩) (Kd.R_types HO587.out BK589.out (by decide)) (fun _ hk => hk.2) (.int .i64 t583)) (fun _ hk => hk.2) (.string t584)) (fun _ hk => hk.2) (.slice Ao19 t585.length co19)) (fun _ hk => hk.2) (.string t588)) (fun _ h_ => h_.1))))) (below_size bl)); have n2_ := Aside0.mk (blk_below (g := gb579) (o := .cells #[.int .i64 a0_0, .string a0_1, .slice A0_2 l0_2.length c0_2, .string a0_3] 68 (0, 0)) (bf BK579) hb); have n3_ := Aside0.mk (blk_below (g := gb580) (o := .cells #[.int .i64 0, .string (⟨#[]⟩ : ByteArray), .slice none 0 0, .string (⟨#[]⟩ : ByteArray)] 68 (0, 0)) (bf BK580) hb); have n4_ := Aside0.mk (blk_below (g := gb589) (o := .cells #[.int .i64 t583, .string t584, .slice Ao19 t585.length co19, .string t588] 68 (0, 0)) (by (with_reducible repeat (first | refine blk_drewN ?_ _ | refine blk_drew ?_ | refine blk_alloc ?_ _)); refine blk_put (cs := #[.int .i64 t583, .string t584, .slice Ao19 t585.length co19, .string (⟨#[]⟩ : ByteArray)]) ?_ 3 _ rfl; (with_reducible repeat (first | refine blk_drewN ?_ _ | refine blk_drew ?_ | refine blk_alloc ?_ _)); refine blk_put (cs := #[.int .i64 t583, .string t584, .slice none 0 0, .string (⟨#[]⟩ : ByteArray)]) ?_ 2 _ rfl; (with_reducible repeat (first | refine blk_drewN ?_ _ | refine blk_drew ?_ | refine blk_alloc ?_ _)); refine blk_put (cs := #[.int .i64 t583, .string (⟨#[]⟩ : ByteArray), .slice none 0 0, .string (⟨#[]⟩ : ByteArray)]) ?_ 1 _ rfl; (with_reducible repeat (first | refine blk_drewN ?_ _ | refine blk_drew ?_ | refine blk_alloc ?_ _)); refine blk_put (cs := #[.int .i64 0, .string (⟨#[]⟩ : ByteArray), .slice none 0 0, .string (⟨#[]⟩ : ByteArray)]) ?_ 0 _ rfl; (with_reducible repeat (first | refine blk_drewN ?_ _ | refine blk_drew ?_ | refine blk_alloc ?_ _)); exact BK589.out) hb); have n5_ := Aside0.mk (below_step bl hb); clear HO587; clear BK579; clear BK580; clear BK589; clear HB; have HO587 := n0_; have HO592 := n1_; have BK579 := n2_; have BK580 := n3_; have BK589 := n4_; have HB := n5_; clear n0_ n1_ n2_ n3_ n4_ n5_; (try clear hb); (try clear hb2); (try clear hk); (try clear hi); (try clear ho0); obtain ⟨Ao22, co22, eo22⟩ := Kd.R_slice HO592.out; subst eo22; have hcz23_0 : w21.cell? ⟨gb589, 0, none⟩ = some (.int .i64 t583) := (blk_cell BK589.out 0).trans rfl; have hcz23_1 : w21.cell? ⟨gb589, 1, none⟩ = some (.string t584) := (blk_cell BK589.out 1).trans rfl; have hcz23_2 : w21.cell? ⟨gb589, 2, none⟩ = some (.slice Ao19 t585.length co19) := (blk_cell BK589.out 2).trans rfl; have hcz23_3 : w21.cell? ⟨gb589, 3, none⟩ = some (.string t588) := (blk_cell BK589.out 3).trans rfl; have hfz23_0 := blk_frozen BK589.out 0; have hfz23_1 := blk_frozen BK589.out 1; have hfz23_2 := blk_frozen BK589.out 2; have hfz23_3 := blk_frozen BK589.out 3) | (go_at_call 60; (with_reducible refine (impl_ReqOk.calls k t583 t584 _ _ t590 t588 true _ ?side1 ?side2 A7.out).mono ?_); (case side1 => refine (Kd.R_reads' (e := 87) (base := w.heap.size) (ok := fun k_ => (True ∧ some k_ ≠ (.slice Ao19 t585.length co19 : Value).ownBlock)) (n := t590.length) (c := co22) ?_).2.2; exact (by (with_reducible repeat (first | apply Kd.R_alloc | apply Kd.R_drewN | apply Kd.R_drew)); exact (Kd.R_mono (Kd.R_far (p := ⟨gb589, 2, none⟩) (Kd.R_types HO592.out BK589.out (by decide)) (fun _ hk => hk.2) (.slice Ao22 t590.length co22)) (fun _ h_ => h_.1)))); (case side2 => exact (Kd.R_reads' HO592.out).2.1); rintro e w24 ⟨rfl, hb⟩; have n0_ := Aside0.mk (Kd.R_below (by (with_reducible repeat (first | apply Kd.R_alloc | apply Kd.R_drewN | apply Kd.R_drew)); exact (Kd.R_mono (Kd.R_far (p := ⟨gb589, 2, none⟩) (Kd.R_types HO587.out BK589.out (by decide)) (fun _ hk => hk.2) (.slice Ao22 t590.length co22)) (fun _ h_ => h_.1))) hb); have n1_ := Aside0.mk (Kd.R_below (by (with_reducible repeat (first | apply Kd.R_alloc | apply Kd.R_drewN | apply Kd.R_drew)); exact (Kd.R_mono (Kd.R_far (p := ⟨gb589, 2, none⟩) (Kd.R_types HO592.out BK589.out (by decide)) (fun _ hk => hk.2) (.slice Ao22 t590.length co22)) (fun _ h_ => h_.1))) hb); have n2_ := Aside0.mk (blk_below (g := gb579) (o := .cells #[.int .i64 a0_0, .string a0_1, .slice A0_2 l0_2.length c0_2, .string a0_3] 68 (0, 0)) (bf BK579) hb); have n3_ := Aside0.mk (blk_below (g := gb580) (o := .cells #[.int .i64 0, .string (⟨#[]⟩ : ByteArray), .slice none 0 0, .string (⟨#[]⟩ : ByteArray)] 68 (0, 0)) (bf BK580) hb); have n4_ := Aside0.mk (blk_below (g := gb589) (o := .cells #[.int .i64 t583, .string t584, .slice Ao22 t590.length co22, .string t588] 68 (0, 0)) (by (with_reducible repeat (first | refine blk_drewN ?_ _ | refine blk_drew ?_ | refine blk_alloc ?_ _)); refine blk_put (cs := #[.int .i64 t583, .string t584, .slice Ao19 t585.length co19, .string t588]) ?_ 2 _ rfl; (with_reducible repeat (first | refine blk_drewN ?_ _ | refine blk_drew ?_ | refine blk_alloc ?_ _)); exact BK589.out) hb); have n5_ := Aside0.mk (below_step bl hb); clear HO587; clear HO592; clear BK579; clear BK580; clear BK589; clear HB; have HO587 := n0_; have HO592 := n1_; have BK579 := n2_; have BK580 := n3_; have BK589 := n4_; have HB := n5_; clear n0_ n1_ n2_ n3_ n4_ n5_; (try clear hb); (try clear hb2); (try clear hk); (try clear hi); have hcz25_0 : w24.cell? ⟨gb589, 0, none⟩ = some (.int .i64 t583) := (blk_cell BK589.out 0).trans rfl; have hcz25_1 : w24.cell? ⟨gb589, 1, none⟩ = some (.string t584) := (blk_cell BK589.out 1).trans rfl; have hcz25_2 : w24.cell? ⟨gb589, 2, none⟩ = some (.slice Ao22 t590.length co22) := (blk_cell BK589.out 2).trans rfl; have hcz25_3 : w24.cell? ⟨gb589, 3, none⟩ = some (.string t588) := (blk_cell BK589.out 3).trans rfl; have hfz25_0 := blk_frozen BK589.out 0; have hfz25_1 := blk_frozen BK589.out 1; have hfz25_2 := blk_frozen BK589.out 2; have hfz25_3 := blk_frozen BK589.out 3; have hcz26_0 : w24.cell? ⟨gb580, 0, none⟩ = some (.int .i64 0) := (blk_cell BK580.out 0).trans rfl; have hcz26_1 : w24.cell? ⟨gb580, 1, none⟩ = some (.string (⟨#[]⟩ : ByteArray)) := (blk_cell BK580.out 1).trans rfl; have hcz26_2 : w24.cell? ⟨gb580, 2, none⟩ = some (.slice none 0 0) := (blk_cell BK580.out 2).trans rfl; have hcz26_3 : w24.cell? ⟨gb580, 3, none⟩ = some (.string (⟨#[]⟩ : ByteArray)) := (blk_cell BK580.out 3).trans rfl; have hfz26_0 := blk_frozen BK580.out 0; have hfz26_1 := blk_frozen BK580.out 1; have hfz26_2 := blk_frozen BK580.out 2; have hfz26_3 := blk_frozen BK580.out 3))
      refine bodyPost_ret (results_cell_row rfl _ _ gb580 68 #[.int .i64 t583, .string t584, .slice Ao22 t590.length co22, .string t588] (0, 0) _ rfl (by (with_reducible repeat (first | refine blk_drewN ?_ _ | refine blk_drew ?_ | refine blk_alloc ?_ _)); refine blk_put (cs := #[.int .i64 t583, .string t584, .slice Ao22 t590.length co22, .string (⟨#[]⟩ : ByteArray)]) ?_ 3 _ rfl; (with_reducible repeat (first | refine blk_drewN ?_ _ | refine blk_drew ?_ | refine blk_alloc ?_ _)); refine blk_put (cs := #[.int .i64 t583, .string t584, .slice none 0 0, .string (⟨#[]⟩ : ByteArray)]) ?_ 2 _ rfl; (with_reducible repeat (first | refine blk_drewN ?_ _ | refine blk_drew ?_ | refine blk_alloc ?_ _)); refine blk_put (cs := #[.int .i64 t583, .string (⟨#[]⟩ : ByteArray), .slice none 0 0, .string (⟨#[]⟩ : ByteArray)]) ?_ 1 _ rfl; (with_reducible repeat (first | refine blk_drewN ?_ _ | refine blk_drew ?_ | refine blk_alloc ?_ _)); refine blk_put (cs := #[.int .i64 0, .string (⟨#[]⟩ : ByteArray), .slice none 0 0, .string (⟨#[]⟩ : ByteArray)]) ?_ 0 _ rfl; (with_reducible repeat (first | refine blk_drewN ?_ _ | refine blk_drew ?_ | refine blk_alloc ?_ _)); exact BK580.out) Tryd.underlying68 rfl (by kernel_rfl)) rfl ?_
      exact ⟨_, rf, by (with_reducible repeat (first | apply Kd.R_alloc | apply Kd.R_drewN | apply Kd.R_drew)); exact Kd.R_mono (Kd.R_far (p := ⟨gb580, 3, none⟩) (Kd.R_far (p := ⟨gb580, 2, none⟩) (Kd.R_far (p := ⟨gb580, 1, none⟩) (Kd.R_far (p := ⟨gb580, 0, none⟩) (Kd.R_types HO592.out BK580.out (by decide)) (fun _ hk => hk.2) (.int .i64 t583)) (fun _ hk => hk.2) (.string t584)) (fun _ hk => hk.2) (.slice Ao22 t590.length co22)) (fun _ hk => hk.2) (.string t588)) (fun _ hk => trivial), bl⟩
    · replace c8 := Bool.eq_false_iff.mpr c8
      subst c8
      have H1 : ((impl_Drop.f l0_2 (⟨#[105, 102, 45, 110, 111, 110, 101, 45, 109, 97, 116, 99, 104]⟩ : ByteArray)).bind fun t594 => (some (t583, t584, t594, t588))) = some (r1, r2, r3, r4) := by rw [if_neg (show ¬ (false = true) by decide)] at H; exact H
      clear H
      have H := H1
      clear H1
      replace H := Option.bind_eq_some_iff.mp H
      obtain ⟨t594, A270, H⟩ := H
      replace H : (some (t583, t584, t594, t588)) = some (r1, r2, r3, r4) := H
      have A27 := Aside0.mk A270
      clear A270
      simp only [Option.some.injEq, Prod.mk.injEq] at H
      obtain ⟨rfl, rfl, rfl, rfl⟩ := H
      go_enter Tryd.func85, Tryd.ntmps85
      go_wp2_with (first | ((with_reducible refine gate_dst (N := 2) rfl ?_); refine box_event ?hg (N := 2) ?hd (cs := #[.int .i64 a0_0, .string a0_1, .slice A0_2 l0_2.length c0_2, .string a0_3]) (t := 68) ?hr ?_; (case hd => rfl); (case hg => rfl); (case hr => first | (go_simp; done) | (go_simp; rfl)); intro gb579 hg w28 hbox hb; have n0_ := Aside0.mk (below_step bl hb); have n1_ := Aside0.mk (hbox); have n2_ := Aside0.mk ((by rw [hg]; exact (below_size bl) : w.heap.size ≤ gb579)); have n3_ := Aside0.mk ((by rw [hg]; exact (below_size bl) : w.heap.size ≤ gb579)); clear HB; have HB := n0_; have BK579 := n1_; have GW579 := n2_; have GE579 := n3_; clear n0_ n1_ n2_ n3_; clear hb hbox hg) | ((with_reducible refine gate_dst (N := 4) rfl ?_); refine box_event ?hg (N := 4) ?hd (cs := #[.int .i64 0, .string (⟨#[]⟩ : ByteArray), .slice none 0 0, .string (⟨#[]⟩ : ByteArray)]) (t := 68) ?hr ?_; (case hd => rfl); (case hg => rfl); (case hr => first | (go_simp; done) | (go_simp; rfl)); intro gb580 hg w29 hbox hb; have n0_ := Aside0.mk (blk_below (g := gb579) (o := .cells #[.int .i64 a0_0, .string a0_1, .slice A0_2 l0_2.length c0_2, .string a0_3] 68 (0, 0)) (bk BK579) hb); have n1_ := Aside0.mk (below_step bl hb); have n2_ := Aside0.mk (hbox); have n3_ := Aside0.mk ((by rw [hg]; exact (below_size bl) : w.heap.size ≤ gb580)); have n4_ := Aside0.mk ((by rw [hg]; exact (below_size bl) : w.heap.size ≤ gb580)); have n5_ := Aside0.mk ((by rw [hg]; exact Nat.ne_of_lt (blk_lt (g := gb579) (o := .cells #[.int .i64 a0_0, .string a0_1, .slice A0_2 l0_2.length c0_2, .string a0_3] 68 (0, 0)) (bk BK579)) : gb579 ≠ gb580)); have n6_ := Aside0.mk ((by rw [hg]; exact Nat.ne_of_gt (blk_lt (g := gb579) (o := .cells #[.int .i64 a0_0, .string a0_1, .slice A0_2 l0_2.length c0_2, .string a0_3] 68 (0, 0)) (bk BK579)) : gb580 ≠ gb579)); clear BK579; clear HB; have BK579 := n0_; have HB := n1_; have BK580 := n2_; have GW580 := n3_; have GE580 := n4_; have NB579_580 := n5_; have NB580_579 := n6_; clear n0_ n1_ n2_ n3_ n4_ n5_ n6_; clear hb hbox hg) | ((with_reducible refine gate_callee (f := 77) rfl ?_); refine goesL_ (some 10) rfl rfl Tryd.func77 (by kernel_rfl) rfl #[.slice A1 l1.length c1, .string (⟨#[101, 116, 97, 103]⟩ : ByteArray)] rfl ma ?_; (with_reducible refine (impl_Get.calls _ _ l1 (⟨#[101, 116, 97, 103]⟩ : ByteArray) t581 true _ ?side1 ?side2 A3.out).mono ?_); (case side1 => repeat (first | exact (Kd.C_below HR1.out HB.out) | (with_reducible refine Kd.C_alloc ?_ _) | (with_reducible refine Kd.C_drewN ?_ _) | (with_reducible refine Kd.C_drew ?_))); (case side2 => exact HC1.out); rintro e w30 ⟨rfl, hb⟩; refine ⟨_, rfl, ?_⟩; replace BK579 := kb BK579 hb; replace BK580 := kb BK580 hb; replace HB := Aside0.mk (below_step bl hb); (try clear hb); (try clear hb2); (try clear hk); (try clear hi); have hnb31 := NB579_580.out; have hnc31 := NB580_579.out; have hcz32_0 : w30.cell? ⟨gb579, 0, none⟩ = some (.int .i64 a0_0) := (blk_cell BK579.out 0).trans rfl; have hcz32_1 : w30.cell? ⟨gb579, 1, none⟩ = some (.string a0_1) := (blk_cell BK579.out 1).trans rfl; have hcz32_2 : w30.cell? ⟨gb579, 2, none⟩ = some (.slice A0_2 l0_2.length c0_2) := (blk_cell BK579.out 2).trans rfl; have hcz32_3 : w30.cell? ⟨gb579, 3, none⟩ = some (.string a0_3) := (blk_cell BK579.out 3).trans rfl; have hfz32_0 := blk_frozen BK579.out 0; have hfz32_1 := blk_frozen BK579.out 1; have hfz32_2 := blk_frozen BK579.out 2; have hfz32_3 := blk_frozen BK579.out 3) | ((with_reducible refine gate_callee (f := 127) rfl ?_); refine goesL_ (some 14) rfl rfl Tryd.func127 (by kernel_rfl) rfl #[.agg #[.int .i64 a0_0, .string a0_1, .slice A0_2 l0_2.length c0_2, .string a0_3]] rfl ma ?_; (with_reducible refine (impl_copyReq.calls a0_0 a0_1 _ _ l0_2 a0_3 t583 t584 t585 t588 _ ?side1 ?side2 A4.out).mono ?_); (case side1 => repeat (first | exact (Kd.C_below HR0_2.out HB.out) | (with_reducible refine Kd.C_alloc ?_ _) | (with_reducible refine Kd.C_drewN ?_ _) | (with_reducible refine Kd.C_drew ?_))); (case side2 => exact HC0_2.out); rintro e w33 ⟨v586, rfl, ho0, hb⟩; refine ⟨_, rfl, ?_⟩; have HO587 := Aside0.mk (Kd.R_lower ho0 (below_size bl)); replace BK579 := kb BK579 hb; replace BK580 := kb BK580 hb; replace HB := Aside0.mk (below_step bl hb); (try clear hb); (try clear hb2); (try clear hk); (try clear hi); (try clear ho0)) | ((with_reducible refine gate_dst (N := 7) rfl ?_); refine box_event ?hg (N := 7) ?hd (cs := #[.int .i64 0, .string (⟨#[]⟩ : ByteArray), .slice none 0 0, .string (⟨#[]⟩ : ByteArray)]) (t := 68) ?hr ?_; (case hd => rfl); (case hg => rfl); (case hr => first | (go_simp; done) | (go_simp; rfl)); intro gb589 hg w34 hbox hb; have n0_ := Aside0.mk (Kd.R_below (ro HO587) hb); have n1_ := Aside0.mk (blk_below (g := gb579) (o := .cells #[.int .i64 a0_0, .string a0_1, .slice A0_2 l0_2.length c0_2, .string a0_3] 68 (0, 0)) (bk BK579) hb); have n2_ := Aside0.mk (blk_below (g := gb580) (o := .cells #[.int .i64 0, .string (⟨#[]⟩ : ByteArray), .slice none 0 0, .string (⟨#[]⟩ : ByteArray)] 68 (0, 0)) (bk BK580) hb); have n3_ := Aside0.mk (below_step bl hb); have n4_ := Aside0.mk (hbox); have n5_ := Aside0.mk ((by rw [hg]; exact (below_size bl) : w.heap.size ≤ gb589)); have n6_ := Aside0.mk ((by rw [hg]; exact (below_size bl) : w.heap.size ≤ gb589)); have n7_ := Aside0.mk ((by rw [hg]; exact Nat.ne_of_lt (blk_lt (g := gb579) (o := .cells #[.int .i64 a0_0, .string a0_1, .slice A0_2 l0_2.length c0_2, .string a0_3] 68 (0, 0)) (bk BK579)) : gb579 ≠ gb589)); have n8_ := Aside0.mk ((by rw [hg]; exact Nat.ne_of_gt (blk_lt (g := gb579) (o := .cells #[.int .i64 a0_0, .string a0_1, .slice A0_2 l0_2.length c0_2, .string a0_3] 68 (0, 0)) (bk BK579)) : gb589 ≠ gb579)); have n9_ := Aside0.mk ((by rw [hg]; exact Nat.ne_of_lt (blk_lt (g := gb580) (o := .cells #[.int .i64 0, .string (⟨#[]⟩ : ByteArray), .slice none 0 0, .string (⟨#[]⟩ : ByteArray)] 68 (0, 0)) (bk BK580)) : gb580 ≠ gb589)); have n10_ := Aside0.mk ((by rw [hg]; exact Nat.ne_of_gt (blk_lt (g := gb580) (o := .cells #[.int .i64 0, .string (⟨#[]⟩ : ByteArray), .slice none 0 0, .string (⟨#[]⟩ : ByteArray)] 68 (0, 0)) (bk BK580)) : gb589 ≠ gb580)); clear HO587; clear BK579; clear BK580; clear HB; have HO587 := n0_; have BK579 := n1_; have BK580 := n2_; have HB := n3_; have BK589 := n4_; have GW589 := n5_; have GE589 := n6_; have NB579_589 := n7_; have NB589_579 := n8_; have NB580_589 := n9_; have NB589_580 := n10_; clear n0_ n1_ n2_ n3_ n4_ n5_ n6_ n7_ n8_ n9_ n10_; clear hb hbox hg; have hnb35 := NB589_579.out; have hnc35 := NB579_589.out; have hnb36 := NB589_580.out; have hnc36 := NB580_589.out; have hcz37_0 : w34.cell? ⟨gb589, 0, none⟩ = some (.int .i64 0) := (blk_cell BK589.out 0).trans rfl; have hcz37_1 : w34.cell? ⟨gb589, 1, none⟩ = some (.string (⟨#[]⟩ : ByteArray)) := (blk_cell BK589.out 1).trans rfl; have hcz37_2 : w34.cell? ⟨gb589, 2, none⟩ = some (.slice none 0 0) := (blk_cell BK589.out 2).trans rfl; have hcz37_3 : w34.cell? ⟨gb589, 3, none⟩ = some (.string (⟨#[]⟩ : ByteArray)) := (blk_cell BK589.out 3).trans rfl; have hfz37_0 := blk_frozen BK589.out 0; have hfz37_1 := blk_frozen BK589.out 1; have hfz37_2 := blk_frozen BK589.out 2; have hfz37_3 := blk_frozen BK589.out 3; obtain ⟨Ao38, co38, eo38⟩ := Kd.R_slice HO587.out; subst eo38; have hcz39_0 : w34.cell? ⟨gb579, 0, none⟩ = some (.int .i64 a0_0) := (blk_cell BK579.out 0).trans rfl; have hcz39_1 : w34.cell? ⟨gb579, 1, none⟩ = some (.string a0_1) := (blk_cell BK579.out 1).trans rfl; have hcz39_2 : w34.cell? ⟨gb579, 2, none⟩ = some (.slice A0_2 l0_2.length c0_2) := (blk_cell BK579.out 2).trans rfl; have hcz39_3 : w34.cell? ⟨gb579, 3, none⟩ = some (.string a0_3) := (blk_cell BK579.out 3).trans rfl; have hfz39_0 := blk_frozen BK579.out 0; have hfz39_1 := blk_frozen BK579.out 1; have hfz39_2 := blk_frozen BK579.out 2; have hfz39_3 := blk_frozen BK579.out 3) | ((with_reducible refine gate_callee (f := 74) rfl ?_); refine goesL_ (some 18) rfl rfl Tryd.func74 (by kernel_rfl) rfl #[.slice A0_2 l0_2.length c0_2, .string (⟨#[105, 102, 45, 110, 111, 110, 101, 45, 109, 97, 116, 99, 104]⟩ : ByteArray), .string t581] rfl ma ?_; (with_reducible refine (impl_Put.calls _ _ l0_2 (⟨#[105, 102, 45, 110, 111, 110, 101, 45, 109, 97, 116, 99, 104]⟩ : ByteArray) t581 t590 _ ?side1 ?side2 A5.out).mono ?_); (case side1 => exact Kd.C_below HR0_2.out bl); (case side2 => exact HC0_2.out); rintro e w40 ⟨v591, rfl, ho0, hb⟩; refine ⟨_, rfl, ?_⟩; have n0_ := Aside0.mk (Kd.R_elder' (by (with_reducible repeat (first | apply Kd.R_alloc | apply Kd.R_drewN | apply Kd.R_drew)); exact (Kd.R_mono (Kd.R_far (p := ⟨gb589, 3, none⟩) (Kd.R_far (p := ⟨gb589, 2, none⟩) (Kd.R_far (p := ⟨gb589, 1, none⟩) (Kd.R_far (p := ⟨gb589, 0, none⟩) (Kd.R_types HO587.out BK589.out (by decide)) (fun _ hk => hk.2) (.int .i64 t583)) (fun _ hk => hk.2) (.string t584)) (fun _ hk => hk.2) (.slice Ao38 t585.length co38)) (fun _ hk => hk.2) (.string t588)) (fun _ h_ => h_.1))) (Kd.R_base ho0) hb); have n1_ := Aside0.mk (Kd.R_lower (Kd.R_new' ho0 (Kd.R_lt (by (with_reducible repeat (first | apply Kd.R_alloc | apply Kd.R_drewN | apply Kd.R_drew)); exact (Kd.R_mono (Kd.R_far (p := ⟨gb589, 3, none⟩) (Kd.R_far (p := ⟨gb589, 2, none⟩) (Kd.R_far (p := ⟨gb589, 1, none⟩) (Kd.R_far (p := ⟨gb589, 0, none⟩) (Kd.R_types HO587.out BK589.out (by decide)) (fun _ hk => hk.2) (.int .i64 t583)) (fun _ hk => hk.2) (.string t584)) (fun _ hk => hk.2) (.slice Ao38 t585.length co38)) (fun _ hk => hk.2) (.string t588)) (fun _ h_ => h_.1))))) (below_size bl)); have n2_ := Aside0.mk (blk_below (g := gb579) (o := .cells #[.int .i64 a0_0, .string a0_1, .slice A0_2 l0_2.length c0_2, .string a0_3] 68 (0, 0)) (bf BK579) hb); have n3_ := Aside0.mk (blk_below (g := gb580) (o := .cells #[.int .i64 0, .string (⟨#[]⟩ : ByteArray), .slice none 0 0, .string (⟨#[]⟩ : ByteArray)] 68 (0, 0)) (bf BK580) hb); have n4_ := Aside0.mk (blk_below (g := gb589) (o := .cells #[.int .i64 t583, .string t584, .slice Ao38 t585.length co38, .string t588] 68 (0, 0)) (by (with_reducible repeat (first | refine blk_drewN ?_ _ | refine blk_drew ?_ | refine blk_alloc ?_ _)); refine blk_put (cs := #[.int .i64 t583, .string t584, .slice Ao38 t585.length co38, .string (⟨#[]⟩ : ByteArray)]) ?_ 3 _ rfl; (with_reducible repeat (first | refine blk_drewN ?_ _ | refine blk_drew ?_ | refine blk_alloc ?_ _)); refine blk_put (cs := #[.int .i64 t583, .string t584, .slice none 0 0, .string (⟨#[]⟩ : ByteArray)]) ?_ 2 _ rfl; (with_reducible repeat (first | refine blk_drewN ?_ _ | refine blk_drew ?_ | refine blk_alloc ?_ _)); refine blk_put (cs := #[.int .i64 t583, .string (⟨#[]⟩ : ByteArray), .slice none 0 0, .string (⟨#[]⟩ : ByteArray)]) ?_ 1 _ rfl; (with_reducible repeat (first | refine blk_drewN ?_ _ | refine blk_drew ?_ | refine blk_alloc ?_ _)); refine blk_put (cs := #[.int .i64 0, .string (⟨#[]⟩ : ByteArray), .slice none 0 0, .string (⟨#[]⟩ : ByteArray)]) ?_ 0 _ rfl; (with_reducible repeat (first | refine blk_drewN ?_ _ | refine blk_drew ?_ | refine blk_alloc ?_ _)); exact BK589.out) hb); have n5_ := Aside0.mk (below_step bl hb); clear HO587; clear BK579; clear BK580; clear BK589; clear HB; have HO587 := n0_; have HO592 := n1_; have BK579 := n2_; have BK580 := n3_; have BK589 := n4_; have HB := n5_; clear n0_ n1_ n2_ n3_ n4_ n5_; (try clear hb); (try clear hb2); (try clear hk); (try clear hi); (try clear ho0); obtain ⟨Ao41, co41, eo41⟩ := Kd.R_slice HO592.out; subst eo41; have hcz42_0 : w40.cell? ⟨gb589, 0, none⟩ = some (.int .i64 t583) := (blk_cell BK589.out 0).trans rfl; have hcz42_1 : w40.cell? ⟨gb589, 1, none⟩ = some (.string t584) := (blk_cell BK589.out 1).trans rfl; have hcz42_2 : w40.cell? ⟨gb589, 2, none⟩ = some (.slice Ao38 t585.length co38) := (blk_cell BK589.out 2).trans rfl; have hcz42_3 : w40.cell? ⟨gb589, 3, none⟩ = some (.string t588) := (blk_cell BK589.out 3).trans rfl; have hfz42_0 := blk_frozen BK589.out 0; have hfz42_1 := blk_frozen BK589.out 1; have hfz42_2 := blk_frozen BK589.out 2; have hfz42_3 := blk_frozen BK589.out 3) | (go_at_call 60; (with_reducible refine (impl_ReqOk.calls k t583 t584 _ _ t590 t588 false _ ?side1 ?side2 A7.out).mono ?_); (case side1 => refine (Kd.R_reads' (e := 87) (base := w.heap.size) (ok := fun k_ => (True ∧ some k_ ≠ (.slice Ao38 t585.length co38 : Value).ownBlock)) (n := t590.length) (c := co41) ?_).2.2; exact (by (with_reducible repeat (first | apply Kd.R_alloc | apply Kd.R_drewN | apply Kd.R_drew)); exact (Kd.R_mono (Kd.R_far (p := ⟨gb589, 2, none⟩) (Kd.R_types HO592.out BK589.out (by decide)) (fun _ hk => hk.2) (.slice Ao41 t590.length co41)) (fun _ h_ => h_.1)))); (case side2 => exact (Kd.R_reads' HO592.out).2.1); rintro e w43 ⟨rfl, hb⟩; have n0_ := Aside0.mk (Kd.R_below (by (with_reducible repeat (first | apply Kd.R_alloc | apply Kd.R_drewN | apply Kd.R_drew)); exact (Kd.R_mono (Kd.R_far (p := ⟨gb589, 2, none⟩) (Kd.R_types HO587.out BK589.out (by decide)) (fun _ hk => hk.2) (.slice Ao41 t590.length co41)) (fun _ h_ => h_.1))) hb); have n1_ := Aside0.mk (Kd.R_below (by (with_reducible repeat (first | apply Kd.R_alloc | apply Kd.R_drewN | apply Kd.R_drew)); exact (Kd.R_mono (Kd.R_far (p := ⟨gb589, 2, none⟩) (Kd.R_types HO592.out BK589.out (by decide)) (fun _ hk => hk.2) (.slice Ao41 t590.length co41)) (fun _ h_ => h_.1))) hb); have n2_ := Aside0.mk (blk_below (g := gb579) (o := .cells #[.int .i64 a0_0, .string a0_1, .slice A0_2 l0_2.length c0_2, .string a0_3] 68 (0, 0)) (bf BK579) hb); have n3_ := Aside0.mk (blk_below (g := gb580) (o := .cells #[.int .i64 0, .string (⟨#[]⟩ : ByteArray), .slice none 0 0, .string (⟨#[]⟩ : ByteArray)] 68 (0, 0)) (bf BK580) hb); have n4_ := Aside0.mk (blk_below (g := gb589) (o := .cells #[.int .i64 t583, .string t584, .slice Ao41 t590.length co41, .string t588] 68 (0, 0)) (by (with_reducible repeat (first | refine blk_drewN ?_ _ | refine blk_drew ?_ | refine blk_alloc ?_ _)); refine blk_put (cs := #[.int .i64 t583, .string t584, .slice Ao38 t585.length co38, .string t588]) ?_ 2 _ rfl; (with_reducible repeat (first | refine blk_drewN ?_ _ | refine blk_drew ?_ | refine blk_alloc ?_ _)); exact BK589.out) hb); have n5_ := Aside0.mk (below_step bl hb); clear HO587; clear HO592; clear BK579; clear BK580; clear BK589; clear HB; have HO587 := n0_; have HO592 := n1_; have BK579 := n2_; have BK580 := n3_; have BK589 := n4_; have HB := n5_; clear n0_ n1_ n2_ n3_ n4_ n5_; (try clear hb); (try clear hb2); (try clear hk); (try clear hi); have hcz44_0 : w43.cell? ⟨gb579, 0, none⟩ = some (.int .i64 a0_0) := (blk_cell BK579.out 0).trans rfl; have hcz44_1 : w43.cell? ⟨gb579, 1, none⟩ = some (.string a0_1) := (blk_cell BK579.out 1).trans rfl; have hcz44_2 : w43.cell? ⟨gb579, 2, none⟩ = some (.slice A0_2 l0_2.length c0_2) := (blk_cell BK579.out 2).trans rfl; have hcz44_3 : w43.cell? ⟨gb579, 3, none⟩ = some (.string a0_3) := (blk_cell BK579.out 3).trans rfl; have hfz44_0 := blk_frozen BK579.out 0; have hfz44_1 := blk_frozen BK579.out 1; have hfz44_2 := blk_frozen BK579.out 2; have hfz44_3 := blk_frozen BK579.out 3) | ((with_reducible refine gate_callee (f := 78) rfl ?_); refine goesL_ (some 29) rfl rfl Tryd.func78 (by kernel_rfl) rfl #[.slice A0_2 l0_2.length c0_2, .string (⟨#[105, 102, 45, 110, 111, 110, 101, 45, 109, 97, 116, 99, 104]⟩ : ByteArray)] rfl ma ?_; (with_reducible refine (impl_Drop.calls _ _ l0_2 (⟨#[105, 102, 45, 110, 111, 110, 101, 45, 109, 97, 116, 99, 104]⟩ : ByteArray) t594 _ ?side1 ?side2 A27.out).mono ?_); (case side1 => repeat (first | exact (Kd.C_below HR0_2.out HB.out) | (with_reducible refine Kd.C_alloc ?_ _) | (with_reducible refine Kd.C_drewN ?_ _) | (with_reducible refine Kd.C_drew ?_))); (case side2 => exact HC0_2.out); rintro e w45 ⟨v595, rfl, ho0, hb⟩; refine ⟨_, rfl, ?_⟩; have HO596 := Aside0.mk (Kd.R_lower (Kd.R_new' (Kd.R_new' ho0 (Kd.R_lt (ro HO587))) (Kd.R_lt (ro HO592))) (below_size bl)); replace HO587 := Aside0.mk (Kd.R_elder' (ro HO587) (Kd.R_base ho0) hb); replace HO592 := Aside0.mk (Kd.R_elder' (ro HO592) (Kd.R_base ho0) hb); replace BK579 := kb BK579 hb; replace BK580 := kb BK580 hb; replace BK589 := kb BK589 hb; replace HB := Aside0.mk (below_step bl hb); (try clear hb); (try clear hb2); (try clear hk); (try clear hi); (try clear ho0); obtain ⟨Ao46, co46, eo46⟩ := Kd.R_slice HO596.out; subst eo46; have hcz47_0 : w45.cell? ⟨gb589, 0, none⟩ = some (.int .i64 t583) := (blk_cell BK589.out 0).trans rfl; have hcz47_1 : w45.cell? ⟨gb589, 1, none⟩ = some (.string t584) := (blk_cell BK589.out 1).trans rfl; have hcz47_2 : w45.cell? ⟨gb589, 2, none⟩ = some (.slice Ao41 t590.length co41) := (blk_cell BK589.out 2).trans rfl; have hcz47_3 : w45.cell? ⟨gb589, 3, none⟩ = some (.string t588) := (blk_cell BK589.out 3).trans rfl; have hfz47_0 := blk_frozen BK589.out 0; have hfz47_1 := blk_frozen BK589.out 1; have hfz47_2 := blk_frozen BK589.out 2; have hfz47_3 := blk_frozen BK589.out 3; have hcz48_0 : w45.cell? ⟨gb580, 0, none⟩ = some (.int .i64 0) := (blk_cell BK580.out 0).trans rfl; have hcz48_1 : w45.cell? ⟨gb580, 1, none⟩ = some (.string (⟨#[]⟩ : ByteArray)) := (blk_cell BK580.out 1).trans rfl; have hcz48_2 : w45.cell? ⟨gb580, 2, none⟩ = some (.slice none 0 0) := (blk_cell BK580.out 2).trans rfl; have hcz48_3 : w45.cell? ⟨gb580, 3, none⟩ = some (.string (⟨#[]⟩ : ByteArray)) := (blk_cell BK580.out 3).trans rfl; have hfz48_0 := blk_frozen BK580.out 0; have hfz48_1 := blk_frozen BK580.out 1; have hfz48_2 := blk_frozen BK580.out 2; have hfz48_3 := blk_frozen BK580.out 3))
      refine bodyPost_ret (results_cell_row rfl _ _ gb580 68 #[.int .i64 t583, .string t584, .slice Ao46 t594.length co46, .string t588] (0, 0) _ rfl (by (with_reducible repeat (first | refine blk_drewN ?_ _ | refine blk_drew ?_ | refine blk_alloc ?_ _)); refine blk_put (cs := #[.int .i64 t583, .string t584, .slice Ao46 t594.length co46, .string (⟨#[]⟩ : ByteArray)]) ?_ 3 _ rfl; (with_reducible repeat (first | refine blk_drewN ?_ _ | refine blk_drew ?_ | refine blk_alloc ?_ _)); refine blk_put (cs := #[.int .i64 t583, .string t584, .slice none 0 0, .string (⟨#[]⟩ : ByteArray)]) ?_ 2 _ rfl; (with_reducible repeat (first | refine blk_drewN ?_ _ | refine blk_drew ?_ | refine blk_alloc ?_ _)); refine blk_put (cs := #[.int .i64 t583, .string (⟨#[]⟩ : ByteArray), .slice none 0 0, .string (⟨#[]⟩ : ByteArray)]) ?_ 1 _ rfl; (with_reducible repeat (first | refine blk_drewN ?_ _ | refine blk_drew ?_ | refine blk_alloc ?_ _)); refine blk_put (cs := #[.int .i64 0, .string (⟨#[]⟩ : ByteArray), .slice none 0 0, .string (⟨#[]⟩ : ByteArray)]) ?_ 0 _ rfl; (with_reducible repeat (first | refine blk_drewN ?_ _ | refine blk_drew ?_ | refine blk_alloc ?_ _)); refine blk_far ?_ NB580_589.out _; (with_reducible repeat (first | refine blk_drewN ?_ _ | refine blk_drew ?_ | refine blk_alloc ?_ _)); exact BK580.out) Tryd.underlying68 rfl (by kernel_rfl)) rfl ?_
      exact ⟨_, rf, by (with_reducible repeat (first | apply Kd.R_alloc | apply Kd.R_drewN | apply Kd.R_drew)); exact Kd.R_mono (Kd.R_far (p := ⟨gb580, 3, none⟩) (Kd.R_far (p := ⟨gb580, 2, none⟩) (Kd.R_far (p := ⟨gb580, 1, none⟩) (Kd.R_far (p := ⟨gb580, 0, none⟩) (Kd.R_far (p := ⟨gb589, 2, none⟩) (Kd.R_types (Kd.R_types HO596.out BK589.out (by decide)) BK580.out (by decide)) (fun _ hk => hk.1.2) (.slice Ao46 t594.length co46)) (fun _ hk => hk.2) (.int .i64 t583)) (fun _ hk => hk.2) (.string t584)) (fun _ hk => hk.2) (.slice Ao46 t594.length co46)) (fun _ hk => hk.2) (.string t588)) (fun _ hk => trivial), bl⟩
  · replace c6 := Bool.eq_false_iff.mpr c6
    subst c6
    have H1 : ((impl_Drop.f l0_2 (⟨#[105, 102, 45, 110, 111, 110, 101, 45, 109, 97, 116, 99, 104]⟩ : ByteArray)).bind fun t597 => (some (t583, t584, t597, t588))) = some (r1, r2, r3, r4) := by rw [if_neg (show ¬ (false = true) by decide)] at H; exact H
    clear H
    have H := H1
    clear H1
    replace H := Option.bind_eq_some_iff.mp H
    obtain ⟨t597, A490, H⟩ := H
    replace H : (some (t583, t584, t597, t588)) = some (r1, r2, r3, r4) := H
    have A49 := Aside0.mk A490
    clear A490
    simp only [Option.some.injEq, Prod.mk.injEq] at H
    obtain ⟨rfl, rfl, rfl, rfl⟩ := H
    go_enter Tryd.func85, Tryd.ntmps85
    go_wp2_with (first | ((with_reducible refine gate_dst (N := 2) rfl ?_); refine box_event ?hg (N := 2) ?hd (cs := #[.int .i64 a0_0, .string a0_1, .slice A0_2 l0_2.length c0_2, .string a0_3]) (t := 68) ?hr ?_; (case hd => rfl); (case hg => rfl); (case hr => first | (go_simp; done) | (go_simp; rfl)); intro gb579 hg w50 hbox hb; have n0_ := Aside0.mk (below_step bl hb); have n1_ := Aside0.mk (hbox); have n2_ := Aside0.mk ((by rw [hg]; exact (below_size bl) : w.heap.size ≤ gb579)); have n3_ := Aside0.mk ((by rw [hg]; exact (below_size bl) : w.heap.size ≤ gb579)); clear HB; have HB := n0_; have BK579 := n1_; have GW579 := n2_; have GE579 := n3_; clear n0_ n1_ n2_ n3_; clear hb hbox hg) | ((with_reducible refine gate_dst (N := 4) rfl ?_); refine box_event ?hg (N := 4) ?hd (cs := #[.int .i64 0, .string (⟨#[]⟩ : ByteArray), .slice none 0 0, .string (⟨#[]⟩ : ByteArray)]) (t := 68) ?hr ?_; (case hd => rfl); (case hg => rfl); (case hr => first | (go_simp; done) | (go_simp; rfl)); intro gb580 hg w51 hbox hb; have n0_ := Aside0.mk (blk_below (g := gb579) (o := .cells #[.int .i64 a0_0, .string a0_1, .slice A0_2 l0_2.length c0_2, .string a0_3] 68 (0, 0)) (bk BK579) hb); have n1_ := Aside0.mk (below_step bl hb); have n2_ := Aside0.mk (hbox); have n3_ := Aside0.mk ((by rw [hg]; exact (below_size bl) : w.heap.size ≤ gb580)); have n4_ := Aside0.mk ((by rw [hg]; exact (below_size bl) : w.heap.size ≤ gb580)); have n5_ := Aside0.mk ((by rw [hg]; exact Nat.ne_of_lt (blk_lt (g := gb579) (o := .cells #[.int .i64 a0_0, .string a0_1, .slice A0_2 l0_2.length c0_2, .string a0_3] 68 (0, 0)) (bk BK579)) : gb579 ≠ gb580)); have n6_ := Aside0.mk ((by rw [hg]; exact Nat.ne_of_gt (blk_lt (g := gb579) (o := .cells #[.int .i64 a0_0, .string a0_1, .slice A0_2 l0_2.length c0_2, .string a0_3] 68 (0, 0)) (bk BK579)) : gb580 ≠ gb579)); clear BK579; clear HB; have BK579 := n0_; have HB := n1_; have BK580 := n2_; have GW580 := n3_; have GE580 := n4_; have NB579_580 := n5_; have NB580_579 := n6_; clear n0_ n1_ n2_ n3_ n4_ n5_ n6_; clear hb hbox hg) | ((with_reducible refine gate_callee (f := 77) rfl ?_); refine goesL_ (some 10) rfl rfl Tryd.func77 (by kernel_rfl) rfl #[.slice A1 l1.length c1, .string (⟨#[101, 116, 97, 103]⟩ : ByteArray)] rfl ma ?_; (with_reducible refine (impl_Get.calls _ _ l1 (⟨#[101, 116, 97, 103]⟩ : ByteArray) t581 false _ ?side1 ?side2 A3.out).mono ?_); (case side1 => repeat (first | exact (Kd.C_below HR1.out HB.out) | (with_reducible refine Kd.C_alloc ?_ _) | (with_reducible refine Kd.C_drewN ?_ _) | (with_reducible refine Kd.C_drew ?_))); (case side2 => exact HC1.out); rintro e w52 ⟨rfl, hb⟩; refine ⟨_, rfl, ?_⟩; replace BK579 := kb BK579 hb; replace BK580 := kb BK580 hb; replace HB := Aside0.mk (below_step bl hb); (try clear hb); (try clear hb2); (try clear hk); (try clear hi); have hnb53 := NB579_580.out; have hnc53 := NB580_579.out; have hcz54_0 : w52.cell? ⟨gb579, 0, none⟩ = some (.int .i64 a0_0) := (blk_cell BK579.out 0).trans rfl; have hcz54_1 : w52.cell? ⟨gb579, 1, none⟩ = some (.string a0_1) := (blk_cell BK579.out 1).trans rfl; have hcz54_2 : w52.cell? ⟨gb579, 2, none⟩ = some (.slice A0_2 l0_2.length c0_2) := (blk_cell BK579.out 2).trans rfl; have hcz54_3 : w52.cell? ⟨gb579, 3, none⟩ = some (.string a0_3) := (blk_cell BK579.out 3).trans rfl; have hfz54_0 := blk_frozen BK579.out 0; have hfz54_1 := blk_frozen BK579.out 1; have hfz54_2 := blk_frozen BK579.out 2; have hfz54_3 := blk_frozen BK579.out 3) | ((with_reducible refine gate_callee (f := 127) rfl ?_); refine goesL_ (some 14) rfl rfl Tryd.func127 (by kernel_rfl) rfl #[.agg #[.int .i64 a0_0, .string a0_1, .slice A0_2 l0_2.length c0_2, .string a0_3]] rfl ma ?_; (with_reducible refine (impl_copyReq.calls a0_0 a0_1 _ _ l0_2 a0_3 t583 t584 t585 t588 _ ?side1 ?side2 A4.out).mono ?_); (case side1 => repeat (first | exact (Kd.C_below HR0_2.out HB.out) | (with_reducible refine Kd.C_alloc ?_ _) | (with_reducible refine Kd.C_drewN ?_ _) | (with_reducible refine Kd.C_drew ?_))); (case side2 => exact HC0_2.out); rintro e w55 ⟨v586, rfl, ho0, hb⟩; refine ⟨_, rfl, ?_⟩; have HO587 := Aside0.mk (Kd.R_lower ho0 (below_size bl)); replace BK579 := kb BK579 hb; replace BK580 := kb BK580 hb; replace HB := Aside0.mk (below_step bl hb); (try clear hb); (try clear hb2); (try clear hk); (try clear hi); (try clear ho0)) | ((with_reducible refine gate_dst (N := 7) rfl ?_); refine box_event ?hg (N := 7) ?hd (cs := #[.int .i64 0, .string (⟨#[]⟩ : ByteArray), .slice none 0 0, .string (⟨#[]⟩ : ByteArray)]) (t := 68) ?hr ?_; (case hd => rfl); (case hg => rfl); (case hr => first | (go_simp; done) | (go_simp; rfl)); intro gb589 hg w56 hbox hb; have n0_ := Aside0.mk (Kd.R_below (ro HO587) hb); have n1_ := Aside0.mk (blk_below (g := gb579) (o := .cells #[.int .i64 a0_0, .string a0_1, .slice A0_2 l0_2.length c0_2, .string a0_3] 68 (0, 0)) (bk BK579) hb); have n2_ := Aside0.mk (blk_below (g := gb580) (o := .cells #[.int .i64 0, .string (⟨#[]⟩ : ByteArray), .slice none 0 0, .string (⟨#[]⟩ : ByteArray)] 68 (0, 0)) (bk BK580) hb); have n3_ := Aside0.mk (below_step bl hb); have n4_ := Aside0.mk (hbox); have n5_ := Aside0.mk ((by rw [hg]; exact (below_size bl) : w.heap.size ≤ gb589)); have n6_ := Aside0.mk ((by rw [hg]; exact (below_size bl) : w.heap.size ≤ gb589)); have n7_ := Aside0.mk ((by rw [hg]; exact Nat.ne_of_lt (blk_lt (g := gb579) (o := .cells #[.int .i64 a0_0, .string a0_1, .slice A0_2 l0_2.length c0_2, .string a0_3] 68 (0, 0)) (bk BK579)) : gb579 ≠ gb589)); have n8_ := Aside0.mk ((by rw [hg]; exact Nat.ne_of_gt (blk_lt (g := gb579) (o := .cells #[.int .i64 a0_0, .string a0_1, .slice A0_2 l0_2.length c0_2, .string a0_3] 68 (0, 0)) (bk BK579)) : gb589 ≠ gb579)); have n9_ := Aside0.mk ((by rw [hg]; exact Nat.ne_of_lt (blk_lt (g := gb580) (o := .cells #[.int .i64 0, .string (⟨#[]⟩ : ByteArray), .slice none 0 0, .string (⟨#[]⟩ : ByteArray)] 68 (0, 0)) (bk BK580)) : gb580 ≠ gb589)); have n10_ := Aside0.mk ((by rw [hg]; exact Nat.ne_of_gt (blk_lt (g := gb580) (o := .cells #[.int .i64 0, .string (⟨#[]⟩ : ByteArray), .slice none 0 0, .string (⟨#[]⟩ : ByteArray)] 68 (0, 0)) (bk BK580)) : gb589 ≠ gb580)); clear HO587; clear BK579; clear BK580; clear HB; have HO587 := n0_; have BK579 := n1_; have BK580 := n2_; have HB := n3_; have BK589 := n4_; have GW589 := n5_; have GE589 := n6_; have NB579_589 := n7_; have NB589_579 := n8_; have NB580_589 := n9_; have NB589_580 := n10_; clear n0_ n1_ n2_ n3_ n4_ n5_ n6_ n7_ n8_ n9_ n10_; clear hb hbox hg; have hnb57 := NB589_579.out; have hnc57 := NB579_589.out; have hnb58 := NB589_580.out; have hnc58 := NB580_589.out; have hcz59_0 : w56.cell? ⟨gb589, 0, none⟩ = some (.int .i64 0) := (blk_cell BK589.out 0).trans rfl; have hcz59_1 : w56.cell? ⟨gb589, 1, none⟩ = some (.string (⟨#[]⟩ : ByteArray)) := (blk_cell BK589.out 1).trans rfl; have hcz59_2 : w56.cell? ⟨gb589, 2, none⟩ = some (.slice none 0 0) := (blk_cell BK589.out 2).trans rfl; have hcz59_3 : w56.cell? ⟨gb589, 3, none⟩ = some (.string (⟨#[]⟩ : ByteArray)) := (blk_cell BK589.out 3).trans rfl; have hfz59_0 := blk_frozen BK589.out 0; have hfz59_1 := blk_frozen BK589.out 1; have hfz59_2 := blk_frozen BK589.out 2; have hfz59_3 := blk_frozen BK589.out 3; obtain ⟨Ao60, co60, eo60⟩ := Kd.R_slice HO587.out; subst eo60; have hcz61_0 : w56.cell? ⟨gb579, 0, none⟩ = some (.int .i64 a0_0) := (blk_cell BK579.out 0).trans rfl; have hcz61_1 : w56.cell? ⟨gb579, 1, none⟩ = some (.string a0_1) := (blk_cell BK579.out 1).trans rfl; have hcz61_2 : w56.cell? ⟨gb579, 2, none⟩ = some (.slice A0_2 l0_2.length c0_2) := (blk_cell BK579.out 2).trans rfl; have hcz61_3 : w56.cell? ⟨gb579, 3, none⟩ = some (.string a0_3) := (blk_cell BK579.out 3).trans rfl; have hfz61_0 := blk_frozen BK579.out 0; have hfz61_1 := blk_frozen BK579.out 1; have hfz61_2 := blk_frozen BK579.out 2; have hfz61_3 := blk_frozen BK579.out 3) | ((with_reducible refine gate_callee (f := 74) rfl ?_); refine goesL_ (some 18) rfl rfl Tryd.func74 (by kernel_rfl) rfl #[.slice A0_2 l0_2.length c0_2, .string (⟨#[105, 102, 45, 110, 111, 110, 101, 45, 109, 97, 116, 99, 104]⟩ : ByteArray), .string t581] rfl ma ?_; (with_reducible refine (impl_Put.calls _ _ l0_2 (⟨#[105, 102, 45, 110, 111, 110, 101, 45, 109, 97, 116, 99, 104]⟩ : ByteArray) t581 t590 _ ?side1 ?side2 A5.out).mono ?_); (case side1 => exact Kd.C_below HR0_2.out bl); (case side2 => exact HC0_2.out); rintro e w62 ⟨v591, rfl, ho0, hb⟩; refine ⟨_, rfl, ?_⟩; have n0_ := Aside0.mk (Kd.R_elder' (by (with_reducible repeat (first | apply Kd.R_alloc | apply Kd.R_drewN | apply Kd.R_drew)); exact (Kd.R_mono (Kd.R_far (p := ⟨gb589, 3, none⟩) (Kd.R_far (p := ⟨gb589, 2, none⟩) (Kd.R_far (p := ⟨gb589, 1, none⟩) (Kd.R_far (p := ⟨gb589, 0, none⟩) (Kd.R_types HO587.out BK589.out (by decide)) (fun _ hk => hk.2) (.int .i64 t583)) (fun _ hk => hk.2) (.string t584)) (fun _ hk => hk.2) (.slice Ao60 t585.length co60)) (fun _ hk => hk.2) (.string t588)) (fun _ h_ => h_.1))) (Kd.R_base ho0) hb); have n1_ := Aside0.mk (Kd.R_lower (Kd.R_new' ho0 (Kd.R_lt (by (with_reducible repeat (first | apply Kd.R_alloc | apply Kd.R_drewN | apply Kd.R_drew)); exact (Kd.R_mono (Kd.R_far (p := ⟨gb589, 3, none⟩) (Kd.R_far (p := ⟨gb589, 2, none⟩) (Kd.R_far (p := ⟨gb589, 1, none⟩) (Kd.R_far (p := ⟨gb589, 0, none⟩) (Kd.R_types HO587.out BK589.out (by decide)) (fun _ hk => hk.2) (.int .i64 t583)) (fun _ hk => hk.2) (.string t584)) (fun _ hk => hk.2) (.slice Ao60 t585.length co60)) (fun _ hk => hk.2) (.string t588)) (fun _ h_ => h_.1))))) (below_size bl)); have n2_ := Aside0.mk (blk_below (g := gb579) (o := .cells #[.int .i64 a0_0, .string a0_1, .slice A0_2 l0_2.length c0_2, .string a0_3] 68 (0, 0)) (bf BK579) hb); have n3_ := Aside0.mk (blk_below (g := gb580) (o := .cells #[.int .i64 0, .string (⟨#[]⟩ : ByteArray), .slice none 0 0, .string (⟨#[]⟩ : ByteArray)] 68 (0, 0)) (bf BK580) hb); have n4_ := Aside0.mk (blk_below (g := gb589) (o := .cells #[.int .i64 t583, .string t584, .slice Ao60 t585.length co60, .string t588] 68 (0, 0)) (by (with_reducible repeat (first | refine blk_drewN ?_ _ | refine blk_drew ?_ | refine blk_alloc ?_ _)); refine blk_put (cs := #[.int .i64 t583, .string t584, .slice Ao60 t585.length co60, .string (⟨#[]⟩ : ByteArray)]) ?_ 3 _ rfl; (with_reducible repeat (first | refine blk_drewN ?_ _ | refine blk_drew ?_ | refine blk_alloc ?_ _)); refine blk_put (cs := #[.int .i64 t583, .string t584, .slice none 0 0, .string (⟨#[]⟩ : ByteArray)]) ?_ 2 _ rfl; (with_reducible repeat (first | refine blk_drewN ?_ _ | refine blk_drew ?_ | refine blk_alloc ?_ _)); refine blk_put (cs := #[.int .i64 t583, .string (⟨#[]⟩ : ByteArray), .slice none 0 0, .string (⟨#[]⟩ : ByteArray)]) ?_ 1 _ rfl; (with_reducible repeat (first | refine blk_drewN ?_ _ | refine blk_drew ?_ | refine blk_alloc ?_ _)); refine blk_put (cs := #[.int .i64 0, .string (⟨#[]⟩ : ByteArray), .slice none 0 0, .string (⟨#[]⟩ : ByteArray)]) ?_ 0 _ rfl; (with_reducible repeat (first | refine blk_drewN ?_ _ | refine blk_drew ?_ | refine blk_alloc ?_ _)); exact BK589.out) hb); have n5_ := Aside0.mk (below_step bl hb); clear HO587; clear BK579; clear BK580; clear BK589; clear HB; have HO587 := n0_; have HO592 := n1_; have BK579 := n2_; have BK580 := n3_; have BK589 := n4_; have HB := n5_; clear n0_ n1_ n2_ n3_ n4_ n5_; (try clear hb); (try clear hb2); (try clear hk); (try clear hi); (try clear ho0); obtain ⟨Ao63, co63, eo63⟩ := Kd.R_slice HO592.out; subst eo63; have hcz64_0 : w62.cell? ⟨gb589, 0, none⟩ = some (.int .i64 t583) := (blk_cell BK589.out 0).trans rfl; have hcz64_1 : w62.cell? ⟨gb589, 1, none⟩ = some (.string t584) := (blk_cell BK589.out 1).trans rfl; have hcz64_2 : w62.cell? ⟨gb589, 2, none⟩ = some (.slice Ao60 t585.length co60) := (blk_cell BK589.out 2).trans rfl; have hcz64_3 : w62.cell? ⟨gb589, 3, none⟩ = some (.string t588) := (blk_cell BK589.out 3).trans rfl; have hfz64_0 := blk_frozen BK589.out 0; have hfz64_1 := blk_frozen BK589.out 1; have hfz64_2 := blk_frozen BK589.out 2; have hfz64_3 := blk_frozen BK589.out 3; have hcz65_0 : w62.cell? ⟨gb579, 0, none⟩ = some (.int .i64 a0_0) := (blk_cell BK579.out 0).trans rfl; have hcz65_1 : w62.cell? ⟨gb579, 1, none⟩ = some (.string a0_1) := (blk_cell BK579.out 1).trans rfl; have hcz65_2 : w62.cell? ⟨gb579, 2, none⟩ = some (.slice A0_2 l0_2.length c0_2) := (blk_cell BK579.out 2).trans rfl; have hcz65_3 : w62.cell? ⟨gb579, 3, none⟩ = some (.string a0_3) := (blk_cell BK579.out 3).trans rfl; have hfz65_0 := blk_frozen BK579.out 0; have hfz65_1 := blk_frozen BK579.out 1; have hfz65_2 := blk_frozen BK579.out 2; have hfz65_3 := blk_frozen BK579.out 3) | ((with_reducible refine gate_callee (f := 78) rfl ?_); refine goesL_ (some 29) rfl rfl Tryd.func78 (by kernel_rfl) rfl #[.slice A0_2 l0_2.length c0_2, .string (⟨#[105, 102, 45, 110, 111, 110, 101, 45, 109, 97, 116, 99, 104]⟩ : ByteArray)] rfl ma ?_; (with_reducible refine (impl_Drop.calls _ _ l0_2 (⟨#[105, 102, 45, 110, 111, 110, 101, 45, 109, 97, 116, 99, 104]⟩ : ByteArray) t597 _ ?side1 ?side2 A49.out).mono ?_); (case side1 => exact Kd.C_below HR0_2.out bl); (case side2 => exact HC0_2.out); rintro e w66 ⟨v598, rfl, ho0, hb⟩; refine ⟨_, rfl, ?_⟩; have n0_ := Aside0.mk (Kd.R_elder' (by (with_reducible repeat (first | apply Kd.R_alloc | apply Kd.R_drewN | apply Kd.R_drew)); exact (Kd.R_mono (Kd.R_far (p := ⟨gb589, 2, none⟩) (Kd.R_types HO587.out BK589.out (by decide)) (fun _ hk => hk.2) (.slice Ao63 t590.length co63)) (fun _ h_ => h_.1))) (Kd.R_base ho0) hb); have n1_ := Aside0.mk (Kd.R_elder' (by (with_reducible repeat (first | apply Kd.R_alloc | apply Kd.R_drewN | apply Kd.R_drew)); exact (Kd.R_mono (Kd.R_far (p := ⟨gb589, 2, none⟩) (Kd.R_types HO592.out BK589.out (by decide)) (fun _ hk => hk.2) (.slice Ao63 t590.length co63)) (fun _ h_ => h_.1))) (Kd.R_base ho0) hb); have n2_ := Aside0.mk (Kd.R_lower (Kd.R_new' (Kd.R_new' ho0 (Kd.R_lt (by (with_reducible repeat (first | apply Kd.R_alloc | apply Kd.R_drewN | apply Kd.R_drew)); exact (Kd.R_mono (Kd.R_far (p := ⟨gb589, 2, none⟩) (Kd.R_types HO587.out BK589.out (by decide)) (fun _ hk => hk.2) (.slice Ao63 t590.length co63)) (fun _ h_ => h_.1))))) (Kd.R_lt (by (with_reducible repeat (first | apply Kd.R_alloc | apply Kd.R_drewN | apply Kd.R_drew)); exact (Kd.R_mono (Kd.R_far (p := ⟨gb589, 2, none⟩) (Kd.R_types HO592.out BK589.out (by decide)) (fun _ hk => hk.2) (.slice Ao63 t590.length co63)) (fun _ h_ => h_.1))))) (below_size bl)); have n3_ := Aside0.mk (blk_below (g := gb579) (o := .cells #[.int .i64 a0_0, .string a0_1, .slice A0_2 l0_2.length c0_2, .string a0_3] 68 (0, 0)) (bf BK579) hb); have n4_ := Aside0.mk (blk_below (g := gb580) (o := .cells #[.int .i64 0, .string (⟨#[]⟩ : ByteArray), .slice none 0 0, .string (⟨#[]⟩ : ByteArray)] 68 (0, 0)) (bf BK580) hb); have n5_ := Aside0.mk (blk_below (g := gb589) (o := .cells #[.int .i64 t583, .string t584, .slice Ao63 t590.length co63, .string t588] 68 (0, 0)) (by (with_reducible repeat (first | refine blk_drewN ?_ _ | refine blk_drew ?_ | refine blk_alloc ?_ _)); refine blk_put (cs := #[.int .i64 t583, .string t584, .slice Ao60 t585.length co60, .string t588]) ?_ 2 _ rfl; (with_reducible repeat (first | refine blk_drewN ?_ _ | refine blk_drew ?_ | refine blk_alloc ?_ _)); exact BK589.out) hb); have n6_ := Aside0.mk (below_step bl hb); clear HO587; clear HO592; clear BK579; clear BK580; clear BK589; clear HB; have HO587 := n0_; have HO592 := n1_; have HO599 := n2_; have BK579 := n3_; have BK580 := n4_; have BK589 := n5_; have HB := n6_; clear n0_ n1_ n2_ n3_ n4_ n5_ n6_; (try clear hb); (try clear hb2); (try clear hk); (try clear hi); (try clear ho0); obtain ⟨Ao67, co67, eo67⟩ := Kd.R_slice HO599.out; subst eo67; have hcz68_0 : w66.cell? ⟨gb589, 0, none⟩ = some (.int .i64 t583) := (blk_cell BK589.out 0).trans rfl; have hcz68_1 : w66.cell? ⟨gb589, 1, none⟩ = some (.string t584) := (blk_cell BK589.out 1).trans rfl; have hcz68_2 : w66.cell? ⟨gb589, 2, none⟩ = some (.slice Ao63 t590.length co63) := (blk_cell BK589.out 2).trans rfl; have hcz68_3 : w66.cell? ⟨gb589, 3, none⟩ = some (.string t588) := (blk_cell BK589.out 3).trans rfl; have hfz68_0 := blk_frozen BK589.out 0; have hfz68_1 := blk_frozen BK589.out 1; have hfz68_2 := blk_frozen BK589.out 2; have hfz68_3 := blk_frozen BK589.out 3; have hcz69_0 : w66.cell? ⟨gb580, 0, none⟩ = some (.int .i64 0) := (blk_cell BK580.out 0).trans rfl; have hcz69_1 : w66.cell? ⟨gb580, 1, none⟩ = some (.string (⟨#[]⟩ : ByteArray)) := (blk_cell BK580.out 1).trans rfl; have hcz69_2 : w66.cell? ⟨gb580, 2, none⟩ = some (.slice none 0 0) := (blk_cell BK580.out 2).trans rfl; have hcz69_3 : w66.cell? ⟨gb580, 3, none⟩ = some (.string (⟨#[]⟩ : ByteArray)) := (blk_cell BK580.out 3).trans rfl; have hfz69_0 := blk_frozen BK580.out 0; have hfz69_1 := blk_frozen BK580.out 1; have hfz69_2 := blk_frozen BK580.out 2; have hfz69_3 := blk_frozen BK580.out 3))
    refine bodyPost_ret (results_cell_row rfl _ _ gb580 68 #[.int .i64 t583, .string t584, .slice Ao67 t597.length co67, .string t588] (0, 0) _ rfl (by (with_reducible repeat (first | refine blk_drewN ?_ _ | refine blk_drew ?_ | refine blk_alloc ?_ _)); refine blk_put (cs := #[.int .i64 t583, .string t584, .slice Ao67 t597.length co67, .string (⟨#[]⟩ : ByteArray)]) ?_ 3 _ rfl; (with_reducible repeat (first | refine blk_drewN ?_ _ | refine blk_drew ?_ | refine blk_alloc ?_ _)); refine blk_put (cs := #[.int .i64 t583, .string t584, .slice none 0 0, .string (⟨#[]⟩ : ByteArray)]) ?_ 2 _ rfl; (with_reducible repeat (first | refine blk_drewN ?_ _ | refine blk_drew ?_ | refine blk_alloc ?_ _)); refine blk_put (cs := #[.int .i64 t583, .string (⟨#[]⟩ : ByteArray), .slice none 0 0, .string (⟨#[]⟩ : ByteArray)]) ?_ 1 _ rfl; (with_reducible repeat (first | refine blk_drewN ?_ _ | refine blk_drew ?_ | refine blk_alloc ?_ _)); refine blk_put (cs := #[.int .i64 0, .string (⟨#[]⟩ : ByteArray), .slice none 0 0, .string (⟨#[]⟩ : ByteArray)]) ?_ 0 _ rfl; (with_reducible repeat (first | refine blk_drewN ?_ _ | refine blk_drew ?_ | refine blk_alloc ?_ _)); refine blk_far ?_ NB580_589.out _; (with_reducible repeat (first | refine blk_drewN ?_ _ | refine blk_drew ?_ | refine blk_alloc ?_ _)); exact BK580.out) Tryd.underlying68 rfl (by kernel_rfl)) rfl ?_
    exact ⟨_, rf, by (with_reducible repeat (first | apply Kd.R_alloc | apply Kd.R_drewN | apply Kd.R_drew)); exact Kd.R_mono (Kd.R_far (p := ⟨gb580, 3, none⟩) (Kd.R_far (p := ⟨gb580, 2, none⟩) (Kd.R_far (p := ⟨gb580, 1, none⟩) (Kd.R_far (p := ⟨gb580, 0, none⟩) (Kd.R_far (p := ⟨gb589, 2, none⟩) (Kd.R_types (Kd.R_types HO599.out BK589.out (by decide)) BK580.out (by decide)) (fun _ hk => hk.1.2) (.slice Ao67 t597.length co67)) (fun _ hk => hk.2) (.int .i64 t583)) (fun _ hk => hk.2) (.string t584)) (fun _ hk => hk.2) (.slice Ao67 t597.length co67)) (fun _ hk => hk.2) (.string t588)) (fun _ hk => trivial), bl⟩

/-! ### laws_markReq: function 86 -/
def laws_markReq.f (k : Nat) (a0_0 : Int) (a0_1 : ByteArray) (l0_2 : List (S87)) (a0_3 : ByteArray) (a1 : Int) : Option (Int × (List (S87))) := (laws_markFieldS.f k l0_2 a1).bind fun bt601 => (some (bt601.1, bt601.2))
theorem laws_markReq.mono : ∀ a0 a1 a2 a3 a4 k, LeO (laws_markReq.f k a0 a1 a2 a3 a4) (laws_markReq.f (k + 1) a0 a1 a2 a3 a4) := by
  intro a0 a1 a2 a3 a4 k
  unfold laws_markReq.f
  repeat' first
      | (with_reducible exact laws_markFieldS.mono _ _ _)
      | (with_reducible exact LeO.refl _)
      | (with_reducible exact LeO.none _)
      | (with_reducible refine LeO.ite ?_ ?_)
      | (with_reducible refine LeO.bind ?_ (fun _ => ?_))
      | exact laws_markFieldS.mono _ _ _
      | exact LeO.none _
      | refine LeO.ite ?_ ?_
      | refine LeO.bind ?_ (fun _ => ?_)
set_option maxHeartbeats 8000000 in
set_option maxRecDepth 100000 in
theorem laws_markReq.calls (k : Nat) (a0_0 : Int) (a0_1 : ByteArray) (P0_2_ : Nat → Prop) (u9000_ : Value) (l0_2 : List (S87)) (a0_3 : ByteArray) (a1 : Int) (r1 : Int) (r2 : List (S87)) (w0 w : World) (hB : Below w0.heap.size w0 w) (ho0_2 : Kd.R k87 87 w w0.heap.size P0_2_ u9000_ l0_2) (h : laws_markReq.f k a0_0 a0_1 l0_2 a0_3 a1 = some (r1, r2)) :
    Calls Tryd.prog 86 #[.agg #[.int .i64 a0_0, .string a0_1, u9000_, .string a0_3], .int .i64 a1] w fun e w' => e = .returned (.int .i64 r1) ∧ Kd.R k87 87 w' w0.heap.size (fun k_ => (P0_2_ k_ ∨ w.heap.size ≤ k_)) u9000_ r2 ∧ Below w0.heap.size w0 w' ∧ Kept w w' (fun k_ => P0_2_ k_) := by
  have hu68 := Tryd.underlying68
  have HO0_2 := Aside0.mk (show Kd.R k87 87 w w0.heap.size (fun k_ => (P0_2_ k_ ∨ w.heap.size ≤ k_)) u9000_ l0_2 from Kd.R_mono ho0_2 (fun k_ hk => (.inl hk)))
  have HK := Aside0.mk (Kept.refl w (fun k_ => P0_2_ k_))
  have HW0 := Aside0.mk hB.size
  have HB := Aside0.mk hB
  clear hB
  have H : ((laws_markFieldS.f k l0_2 a1).bind fun bt601 => (some (bt601.1, bt601.2))) = some (r1, r2) := h
  clear h
  replace H := Option.bind_eq_some_iff.mp H
  obtain ⟨⟨t601, t602⟩, A30, H⟩ := H
  replace H : (some (t601, t602)) = some (r1, r2) := H
  have A3 := Aside0.mk A30
  clear A30
  simp only [Option.some.injEq, Prod.mk.injEq] at H
  obtain ⟨rfl, rfl⟩ := H
  obtain ⟨Ao4, co4, eo4⟩ := Kd.R_slice HO0_2.out
  subst eo4
  go_enter Tryd.func86, Tryd.ntmps86
  go_wp2_with (first | ((with_reducible refine gate_dst (N := 2) rfl ?_); refine box_event ?hg (N := 2) ?hd (cs := #[.int .i64 a0_0, .string a0_1, .slice Ao4 l0_2.length co4, .string a0_3]) (t := 68) ?hr ?_; (case hd => rfl); (case hg => rfl); (case hr => first | (go_simp; done) | (go_simp; rfl)); intro gb600 hg w5 hbox hb; have n0_ := Aside0.mk (Kd.R_below (ro HO0_2) hb); have n1_ := Aside0.mk (Kept.below (S := (fun k_ => P0_2_ k_)) (by repeat (first | (with_reducible first | exact HK.out | apply Kept.alloc | apply Kept.drewN | apply Kept.drew) | exact HK.out)) hb); have n2_ := Aside0.mk (below_step bl hb); have n3_ := Aside0.mk (hbox); have n4_ := Aside0.mk ((by rw [hg]; exact (by first | exact HK.out.1 | exact (show Kept w _ (fun k_ => P0_2_ k_) from by repeat (first | (with_reducible first | exact HK.out | apply Kept.alloc | apply Kept.drewN | apply Kept.drew) | exact HK.out)).1) : w.heap.size ≤ gb600)); have n5_ := Aside0.mk ((by rw [hg]; exact (below_size bl) : w0.heap.size ≤ gb600)); clear HO0_2; clear HK; clear HB; have HO0_2 := n0_; have HK := n1_; have HB := n2_; have BK600 := n3_; have GW600 := n4_; have GE600 := n5_; clear n0_ n1_ n2_ n3_ n4_ n5_; clear hb hbox hg; have hcz6_0 : w5.cell? ⟨gb600, 0, none⟩ = some (.int .i64 a0_0) := (blk_cell BK600.out 0).trans rfl; have hcz6_1 : w5.cell? ⟨gb600, 1, none⟩ = some (.string a0_1) := (blk_cell BK600.out 1).trans rfl; have hcz6_2 : w5.cell? ⟨gb600, 2, none⟩ = some (.slice Ao4 l0_2.length co4) := (blk_cell BK600.out 2).trans rfl; have hcz6_3 : w5.cell? ⟨gb600, 3, none⟩ = some (.string a0_3) := (blk_cell BK600.out 3).trans rfl; have hfz6_0 := blk_frozen BK600.out 0; have hfz6_1 := blk_frozen BK600.out 1; have hfz6_2 := blk_frozen BK600.out 2; have hfz6_3 := blk_frozen BK600.out 3) | ((with_reducible refine gate_callee (f := 87) rfl ?_); refine goesL_ (some 8) rfl rfl Tryd.func87 (by kernel_rfl) rfl #[.slice Ao4 l0_2.length co4, .int .i64 a1] rfl ma ?_; (with_reducible refine (laws_markFieldS.calls k (fun k_ => some k_ = (.slice Ao4 l0_2.length co4 : Value).ownBlock) (.slice Ao4 l0_2.length co4) l0_2 a1 t601 t602 w0 _ ?side1 ?side2 A3.out).mono ?_); (case side1 => repeat (first | (with_reducible first | exact HB.out | apply below_alloc | apply pw_below_drewN | apply below_drew1 | refine below_set ?_ GE600.out) | exact HB.out)); (case side2 => exact Kd.R_tight rfl HO0_2.out); rintro e w7 ⟨rfl, hy0, hb, hkp⟩; refine ⟨_, rfl, ?_⟩; replace BK600 := Aside0.mk (blk_kept (bk BK600) hkp (fun hs_ => (fun e_ => (Kd.R_ne HO0_2.out BK600.out (by decide)) e_) hs_)); replace HK := Aside0.mk (Kept.then_ (S := (fun k_ => P0_2_ k_)) (by repeat (first | (with_reducible first | exact HK.out | apply Kept.alloc | apply Kept.drewN | apply Kept.drew | refine Kept.setCell ?_ (.inr GW600.out) _) | exact HK.out)) hkp (fun k_ hs_ => (fun e_ => (HO0_2.out.1 k_ e_.symm)) hs_)); replace HO0_2 := Aside0.mk (Kd.R_reok rfl hy0 (fun k_ e_ => HO0_2.out.1 k_ e_)); replace HB := Aside0.mk (hb); (try clear hb); (try clear hkp); (try clear hy0)))
  go_ret
  exact ⟨rf, by (with_reducible repeat (first | apply Kd.R_alloc | apply Kd.R_drewN | apply Kd.R_drew)); exact HO0_2.out, by repeat (first | (with_reducible first | exact HB.out | apply below_alloc | apply pw_below_drewN | apply below_drew1 | refine below_set ?_ GE600.out) | exact HB.out), by repeat (first | (with_reducible first | exact HK.out | apply Kept.alloc | apply Kept.drewN | apply Kept.drew | refine Kept.setCell ?_ (.inr GW600.out) _) | exact HK.out)⟩

/-! ### laws_heldReq: function 88 -/
def laws_heldReq.f (k : Nat) (a0_0 : Int) (a0_1 : ByteArray) (l0_2 : List (S87)) (a0_3 : ByteArray) (a1 : Int) : Option (Int) := (laws_heldFieldS.f k l0_2 a1).bind fun t604 => (if t604 < 0 then (some (-1)) else (some t604))
theorem laws_heldReq.mono : ∀ a0 a1 a2 a3 a4 k, LeO (laws_heldReq.f k a0 a1 a2 a3 a4) (laws_heldReq.f (k + 1) a0 a1 a2 a3 a4) := by
  intro a0 a1 a2 a3 a4 k
  unfold laws_heldReq.f
  repeat' first
      | (with_reducible exact laws_heldFieldS.mono _ _ _)
      | (with_reducible exact LeO.refl _)
      | (with_reducible exact LeO.none _)
      | (with_reducible refine LeO.ite ?_ ?_)
      | (with_reducible refine LeO.bind ?_ (fun _ => ?_))
      | exact laws_heldFieldS.mono _ _ _
      | exact LeO.none _
      | refine LeO.ite ?_ ?_
      | refine LeO.bind ?_ (fun _ => ?_)
set_option maxHeartbeats 8000000 in
set_option maxRecDepth 100000 in
theorem laws_heldReq.calls (k : Nat) (a0_0 : Int) (a0_1 : ByteArray) (A0_2 : Option Addr) (c0_2 : Nat) (l0_2 : List (S87)) (a0_3 : ByteArray) (a1 : Int) (r : Int) (w : World) (hr0_2 : Kd.C k87 w A0_2 l0_2.length l0_2) (hc0_2 : l0_2.length ≤ c0_2) (h : laws_heldReq.f k a0_0 a0_1 l0_2 a0_3 a1 = some r) :
    Calls Tryd.prog 88 #[.agg #[.int .i64 a0_0, .string a0_1, .slice A0_2 l0_2.length c0_2, .string a0_3], .int .i64 a1] w fun e w' => e = .returned (.int .i64 r) ∧ Below w.heap.size w w' := by
  have hu68 := Tryd.underlying68
  have HR0_2 := Aside0.mk hr0_2
  have HC0_2 := Aside0.mk hc0_2
  clear hr0_2 hc0_2
  have HB := Aside0.mk (Below.refl w.heap.size w)
  have H : ((laws_heldFieldS.f k l0_2 a1).bind fun t604 => (if t604 < 0 then (some (-1)) else (some t604))) = some r := h
  clear h
  replace H := Option.bind_eq_some_iff.mp H
  obtain ⟨t604, A30, H⟩ := H
  replace H : (if t604 < 0 then (some (-1)) else (some t604)) = some r := H
  have A3 := Aside0.mk A30
  clear A30
  by_cases c4 : t604 < 0
  · rw [if_pos c4] at H
    have c4b0 : decide (t604 < 0) = true := decide_eq_true c4
    clear c4
    obtain rfl := Option.some.inj H
    go_enter Tryd.func88, Tryd.ntmps88
    go_wp2_with (first | ((with_reducible refine gate_dst (N := 2) rfl ?_); refine box_event ?hg (N := 2) ?hd (cs := #[.int .i64 a0_0, .string a0_1, .slice A0_2 l0_2.length c0_2, .string a0_3]) (t := 68) ?hr ?_; (case hd => rfl); (case hg => rfl); (case hr => first | (go_simp; done) | (go_simp; rfl)); intro gb603 hg w5 hbox hb; have n0_ := Aside0.mk (below_step bl hb); have n1_ := Aside0.mk (hbox); have n2_ := Aside0.mk ((by rw [hg]; exact (below_size bl) : w.heap.size ≤ gb603)); have n3_ := Aside0.mk ((by rw [hg]; exact (below_size bl) : w.heap.size ≤ gb603)); clear HB; have HB := n0_; have BK603 := n1_; have GW603 := n2_; have GE603 := n3_; clear n0_ n1_ n2_ n3_; clear hb hbox hg; have hcz6_0 : w5.cell? ⟨gb603, 0, none⟩ = some (.int .i64 a0_0) := (blk_cell BK603.out 0).trans rfl; have hcz6_1 : w5.cell? ⟨gb603, 1, none⟩ = some (.string a0_1) := (blk_cell BK603.out 1).trans rfl; have hcz6_2 : w5.cell? ⟨gb603, 2, none⟩ = some (.slice A0_2 l0_2.length c0_2) := (blk_cell BK603.out 2).trans rfl; have hcz6_3 : w5.cell? ⟨gb603, 3, none⟩ = some (.string a0_3) := (blk_cell BK603.out 3).trans rfl; have hfz6_0 := blk_frozen BK603.out 0; have hfz6_1 := blk_frozen BK603.out 1; have hfz6_2 := blk_frozen BK603.out 2; have hfz6_3 := blk_frozen BK603.out 3) | ((with_reducible refine gate_callee (f := 122) rfl ?_); refine goesL_ (some 8) rfl rfl Tryd.func122 (by kernel_rfl) rfl #[.slice A0_2 l0_2.length c0_2, .int .i64 a1] rfl ma ?_; (with_reducible refine (laws_heldFieldS.calls k _ _ l0_2 a1 t604 _ ?side1 ?side2 A3.out).mono ?_); (case side1 => repeat (first | exact (Kd.C_below HR0_2.out HB.out) | (with_reducible refine Kd.C_alloc ?_ _) | (with_reducible refine Kd.C_drewN ?_ _) | (with_reducible refine Kd.C_drew ?_))); (case side2 => exact HC0_2.out); rintro e w7 ⟨rfl, hb⟩; refine ⟨_, rfl, ?_⟩; replace BK603 := kb BK603 hb; replace HB := Aside0.mk (below_step bl hb); (try clear hb); (try clear hb2); (try clear hk); (try clear hi)))
    go_ret
    exact ⟨rf, bl⟩
  · rw [if_neg c4] at H
    have c4b0 : decide (t604 < 0) = false := decide_eq_false c4
    clear c4
    obtain rfl := Option.some.inj H
    go_enter Tryd.func88, Tryd.ntmps88
    go_wp2_with (first | ((with_reducible refine gate_dst (N := 2) rfl ?_); refine box_event ?hg (N := 2) ?hd (cs := #[.int .i64 a0_0, .string a0_1, .slice A0_2 l0_2.length c0_2, .string a0_3]) (t := 68) ?hr ?_; (case hd => rfl); (case hg => rfl); (case hr => first | (go_simp; done) | (go_simp; rfl)); intro gb603 hg w8 hbox hb; have n0_ := Aside0.mk (below_step bl hb); have n1_ := Aside0.mk (hbox); have n2_ := Aside0.mk ((by rw [hg]; exact (below_size bl) : w.heap.size ≤ gb603)); have n3_ := Aside0.mk ((by rw [hg]; exact (below_size bl) : w.heap.size ≤ gb603)); clear HB; have HB := n0_; have BK603 := n1_; have GW603 := n2_; have GE603 := n3_; clear n0_ n1_ n2_ n3_; clear hb hbox hg; have hcz9_0 : w8.cell? ⟨gb603, 0, none⟩ = some (.int .i64 a0_0) := (blk_cell BK603.out 0).trans rfl; have hcz9_1 : w8.cell? ⟨gb603, 1, none⟩ = some (.string a0_1) := (blk_cell BK603.out 1).trans rfl; have hcz9_2 : w8.cell? ⟨gb603, 2, none⟩ = some (.slice A0_2 l0_2.length c0_2) := (blk_cell BK603.out 2).trans rfl; have hcz9_3 : w8.cell? ⟨gb603, 3, none⟩ = some (.string a0_3) := (blk_cell BK603.out 3).trans rfl; have hfz9_0 := blk_frozen BK603.out 0; have hfz9_1 := blk_frozen BK603.out 1; have hfz9_2 := blk_frozen BK603.out 2; have hfz9_3 := blk_frozen BK603.out 3) | ((with_reducible refine gate_callee (f := 122) rfl ?_); refine goesL_ (some 8) rfl rfl Tryd.func122 (by kernel_rfl) rfl #[.slice A0_2 l0_2.length c0_2, .int .i64 a1] rfl ma ?_; (with_reducible refine (laws_heldFieldS.calls k _ _ l0_2 a1 t604 _ ?side1 ?side2 A3.out).mono ?_); (case side1 => repeat (first | exact (Kd.C_below HR0_2.out HB.out) | (with_reducible refine Kd.C_alloc ?_ _) | (with_reducible refine Kd.C_drewN ?_ _) | (with_reducible refine Kd.C_drew ?_))); (case side2 => exact HC0_2.out); rintro e w10 ⟨rfl, hb⟩; refine ⟨_, rfl, ?_⟩; replace BK603 := kb BK603 hb; replace HB := Aside0.mk (below_step bl hb); (try clear hb); (try clear hb2); (try clear hk); (try clear hi)))
    go_ret
    exact ⟨rf, bl⟩

-- NOT PRINTED: function 18 (laws_FnExactAsk)

end Go.Proofs.YtdlgjhckmkmjhaaDoor.All
