-- Written by a program of this session (wip/tools/hprint.py) out of the translation. Lean checks it.
import Derived.Test.YtogdmlgbdbgpkaaDoorAllx0
import Derived.Test.YtogdmlgbdbgpkaaDoorAllx14
namespace Go.Proofs.YtogdmlgbdbgpkaaDoor.All
open Go.RowKit Go.Proofs.YtogdmlgbdbgpkaaDoorW.PrintWords Go.Proofs.YtogdmlgbdbgpkaaDoorW.PrintLast Go.Proofs.YtogdmlgbdbgpkaaDoorW.PrintMore
attribute [local go_sem] max2_int min2_int max_two min_two max_three min_three max_four min_four   -- for this text's walks alone
set_option linter.unusedVariables false
set_option linter.unusedSimpArgs false

/-! ### spec_Put: function 62 -/
def spec_Put.f (k : Nat) (l0 : List (S78)) (a1 : ByteArray) (a2 : ByteArray) : Option ((List (S78))) := (some (([] : List (S78)) : List (S78))).bind fun y461 => (if y461.length + l0.length < 4398046511104 then ((some (y461 ++ l0 : List (S78))).bind fun y464 => ((spec_l2At.f k l0 a1).bind fun t467 => (if t467 < 0 then (if y464.length < 4398046511104 then (some (y464 ++ [(⟨a1, a2⟩ : S78)])) else (none)) else (if 0 ≤ t467 then (if t467 < (y464.length : Int) then (some (y464.set (t467 : Int).toNat (⟨(rd_T78 y464 t467).f0, a2⟩ : S78))) else (none)) else (none))))) else (none))
theorem spec_Put.mono : ∀ a0 a1 a2 k, LeO (spec_Put.f k a0 a1 a2) (spec_Put.f (k + 1) a0 a1 a2) := by
  intro a0 a1 a2 k
  unfold spec_Put.f
  repeat' first
      | (with_reducible exact spec_l2At.mono _ _ _)
      | (with_reducible exact LeO.refl _)
      | (with_reducible exact LeO.none _)
      | (with_reducible refine LeO.ite ?_ ?_)
      | (with_reducible refine LeO.bind ?_ (fun _ => ?_))
      | exact spec_l2At.mono _ _ _
      | exact LeO.none _
      | refine LeO.ite ?_ ?_
      | refine LeO.bind ?_ (fun _ => ?_)
set_option maxHeartbeats 8000000 in
set_option maxRecDepth 100000 in
theorem spec_Put.calls (k : Nat) (A0 : Option Addr) (c0 : Nat) (l0 : List (S78)) (a1 : ByteArray) (a2 : ByteArray) (r : List (S78)) (w : World) (hr0 : Kd.C k78 w A0 l0.length l0) (hc0 : l0.length ≤ c0) (h : spec_Put.f k l0 a1 a2 = some r) :
    Calls Tryd.prog 62 #[.slice A0 l0.length c0, .string a1, .string a2] w fun e w' => ∃ v0_ : Value, e = .returned (v0_) ∧ Kd.R k78 78 w' w.heap.size (fun _ => True) v0_ r ∧ Below w.heap.size w w' := by
  have hu78 := Tryd.underlying78
  have HR0 := Aside0.mk hr0
  have HC0 := Aside0.mk hc0
  clear hr0 hc0
  have HB := Aside0.mk (Below.refl w.heap.size w)
  have H : ((some (([] : List (S78)) : List (S78))).bind fun y461 => (if y461.length + l0.length < 4398046511104 then ((some (y461 ++ l0 : List (S78))).bind fun y464 => ((spec_l2At.f k l0 a1).bind fun t467 => (if t467 < 0 then (if y464.length < 4398046511104 then (some (y464 ++ [(⟨a1, a2⟩ : S78)])) else (none)) else (if 0 ≤ t467 then (if t467 < (y464.length : Int) then (some (y464.set (t467 : Int).toNat (⟨(rd_T78 y464 t467).f0, a2⟩ : S78))) else (none)) else (none))))) else (none))) = some r := h
  clear h
  obtain ⟨y461, hy461⟩ : ∃ y_ : List (S78), y_ = (([] : List (S78))) := ⟨_, rfl⟩
  replace H : (if y461.length + l0.length < 4398046511104 then ((some (y461 ++ l0 : List (S78))).bind fun y464 => ((spec_l2At.f k l0 a1).bind fun t467 => (if t467 < 0 then (if y464.length < 4398046511104 then (some (y464 ++ [(⟨a1, a2⟩ : S78)])) else (none)) else (if 0 ≤ t467 then (if t467 < (y464.length : Int) then (some (y464.set (t467 : Int).toNat (⟨(rd_T78 y464 t467).f0, a2⟩ : S78))) else (none)) else (none))))) else (none)) = some r := by first | (rw [hy461]; with_reducible exact H) | (have H2_ := (Option.bind_some _ _).symm.trans H; rw [hy461]; with_reducible exact H2_) | (have H2_ := (Option.bind_some _ _).symm.trans H; with_reducible exact H2_) | with_reducible exact H | (rw [hy461]; exact H) | exact H
  have Ny461 := Aside0.mk hy461
  clear hy461
  by_cases c4 : y461.length + l0.length < 4398046511104
  · rw [if_pos c4] at H
    have LMc4 := Aside0.mk c4
    clear c4
    obtain ⟨y464, hy464⟩ : ∃ y_ : List (S78), y_ = (y461 ++ l0) := ⟨_, rfl⟩
    replace H : ((spec_l2At.f k l0 a1).bind fun t467 => (if t467 < 0 then (if y464.length < 4398046511104 then (some (y464 ++ [(⟨a1, a2⟩ : S78)])) else (none)) else (if 0 ≤ t467 then (if t467 < (y464.length : Int) then (some (y464.set (t467 : Int).toNat (⟨(rd_T78 y464 t467).f0, a2⟩ : S78))) else (none)) else (none)))) = some r := by first | (rw [hy464]; with_reducible exact H) | (have H2_ := (Option.bind_some _ _).symm.trans H; rw [hy464]; with_reducible exact H2_) | (have H2_ := (Option.bind_some _ _).symm.trans H; with_reducible exact H2_) | with_reducible exact H | (rw [hy464]; exact H) | exact H
    have Ny464 := Aside0.mk hy464
    clear hy464
    replace H := Option.bind_eq_some_iff.mp H
    obtain ⟨t467, A50, H⟩ := H
    replace H : (if t467 < 0 then (if y464.length < 4398046511104 then (some (y464 ++ [(⟨a1, a2⟩ : S78)])) else (none)) else (if 0 ≤ t467 then (if t467 < (y464.length : Int) then (some (y464.set (t467 : Int).toNat (⟨(rd_T78 y464 t467).f0, a2⟩ : S78))) else (none)) else (none))) = some r := H
    have A5 := Aside0.mk A50
    clear A50
    by_cases c6 : t467 < 0
    · rw [if_pos c6] at H
      have c6b0 : decide (t467 < 0) = true := decide_eq_true c6
      clear c6
      by_cases c7 : y464.length < 4398046511104
      · rw [if_pos c7] at H
        have LMc7 := Aside0.mk c7
        clear c7
        obtain ⟨y468, hy468⟩ : ∃ y_ : List (S78), y_ = (y464 ++ [(⟨a1, a2⟩ : S78)]) := ⟨_, rfl⟩
        replace H : (some y468) = some r := by first | (rw [hy468]; with_reducible exact H) | (have H2_ := (Option.bind_some _ _).symm.trans H; rw [hy468]; with_reducible exact H2_) | (have H2_ := (Option.bind_some _ _).symm.trans H; with_reducible exact H2_) | with_reducible exact H | (rw [hy468]; exact H) | exact H
        have Ny468 := Aside0.mk hy468
        clear hy468
        obtain rfl := Option.some.inj H
        go_enter Tryd.func62, Tryd.ntmps62
        go_wp2_with (first | ((with_reducible refine gate_dst (N := 9) rfl ?_); refine Kd.R_lit k78 _ 78 ?hg (N := 9) ?hd (xs := ([] : List (S78))) (inner := []) (ok := fun _ => True) (okp := fun _ => True) ?hr ?hp (fun _ hk => hk) trivial (Below.refl _ _) (Nat.le_refl _) (by simp) ?_; (case hd => rfl); (case hg => rfl); (case hr => first | (go_simp; done) | (go_simp; rfl)); (case hp => exact (Reps.none _ _)); intro v462 w8 ho9 hb hg_ hnew_; clear hg_ hnew_; (first | rw [← Ny461.out] at ho9 | (simp only [Int.reduceToNat] at ho9; rw [← Ny461.out] at ho9)); have HO463 := Aside0.mk (Kd.R_lower ho9 (below_size bl)); replace HB := Aside0.mk (below_step bl hb); clear hb ho9) | ((with_reducible refine gate_builtin (b := .append) (xs := #[.tmp 9, .tmp 10]) rfl ?_); at_builtin; refine Kd.R_append_rows k78 (w0 := w) w.heap.size rfl (.tmp 9) (.tmp 10) 43 78 (.agg #[(.string ⟨#[]⟩), (.string ⟨#[]⟩)]) 32 rfl Tryd.underlying43 info78 rfl (by decide) (by omega) v462 y461 l0 _ _ _ (fun _ => True) (fun _ => False) rfl rfl ?aO ?aR (fun _ _ h => h) (fun _ h => h.elim) ?aF ?aB ?aS ?aL ?_; (case aR => repeat (first | exact (Kd.C_below HR0.out HB.out) | (with_reducible refine Kd.C_alloc ?_ _) | (with_reducible refine Kd.C_drewN ?_ _) | (with_reducible refine Kd.C_drew ?_))); (case aB => exact bl); (case aF => exact (fun _ _ => trivial)); (case aO => exact (ro HO463)); (case aS => exact (below_size bl)); (case aL => have := LMc4.out; omega); intro v465 w10 ho hb hg hat; rw [← Ny464.out] at ho; have n0_ := Aside0.mk (hb); have n1_ := Aside0.mk (ho); clear HB; clear HO463; have HB := n0_; have HO466 := n1_; clear n0_ n1_; clear ho hb hg hat) | ((with_reducible refine gate_callee (f := 100) rfl ?_); refine goesL_ (some 14) rfl rfl Tryd.func100 (by kernel_rfl) rfl #[.slice A0 l0.length c0, .string a1] rfl ma ?_; (with_reducible refine (spec_l2At.calls k _ _ l0 a1 t467 _ ?side1 ?side2 A5.out).mono ?_); (case side1 => repeat (first | exact (Kd.C_below HR0.out HB.out) | (with_reducible refine Kd.C_alloc ?_ _) | (with_reducible refine Kd.C_drewN ?_ _) | (with_reducible refine Kd.C_drew ?_))); (case side2 => exact HC0.out); rintro e w' ⟨rfl, ⟨nd, rfl⟩⟩; refine ⟨_, rfl, ?_⟩) | ((with_reducible refine gate_builtin (b := .append) (xs := #[.tmp 17, .tmp 21]) rfl ?_); at_builtin; refine Kd.R_append k78 (w0 := w) w.heap.size rfl (.tmp 17) (.tmp 21) 43 78 (.agg #[(.string ⟨#[]⟩), (.string ⟨#[]⟩)]) 32 rfl Tryd.underlying43 info78 rfl (by decide) (by omega) v465 y464 (⟨a1, a2⟩ : S78) [.string a1, .string a2] (fun _ => True) (fun _ => False) rfl rfl ?aP (fun _ hk => hk.elim) ?aF ?aO ?aB ?aS ?aL ?_; (case aP => exact k78_mkM _ _ _ (⟨a1, a2⟩ : S78)); (case aB => exact bl); (case aF => exact (fun _ _ => trivial)); (case aO => exact (ro HO466)); (case aS => exact (below_size bl)); (case aL => have := LMc7.out; omega); intro v469 w11 ho hb hg hat; rw [← Ny468.out] at ho; have n0_ := Aside0.mk (hb); have n1_ := Aside0.mk (ho); clear HB; clear HO466; have HB := n0_; have HO470 := n1_; clear n0_ n1_; clear ho hb hg hat))
        go_ret
        exact ⟨_, rf, by (with_reducible repeat (first | apply Kd.R_alloc | apply Kd.R_drewN | apply Kd.R_drew)); exact HO470.out, bl⟩
      · rw [if_neg c7] at H
        exact absurd H (by simp)
    · rw [if_neg c6] at H
      have c6b0 : decide (t467 < 0) = false := decide_eq_false c6
      clear c6
      by_cases c12 : 0 ≤ t467
      · rw [if_pos c12] at H
        have c12b0 : decide (0 ≤ t467) = true := decide_eq_true c12
        clear c12
        by_cases c13 : t467 < (y464.length : Int)
        · rw [if_pos c13] at H
          have c13b0 : decide (t467 < (y464.length : Int)) = true := decide_eq_true c13
          clear c13
          obtain ⟨y471, hy471⟩ : ∃ y_ : List (S78), y_ = (y464.set (t467 : Int).toNat (⟨(rd_T78 y464 t467).f0, a2⟩ : S78)) := ⟨_, rfl⟩
          replace H : (some y471) = some r := by first | (rw [hy471]; with_reducible exact H) | (have H2_ := (Option.bind_some _ _).symm.trans H; rw [hy471]; with_reducible exact H2_) | (have H2_ := (Option.bind_some _ _).symm.trans H; with_reducible exact H2_) | with_reducible exact H | (rw [hy471]; exact H) | exact H
          have Ny471 := Aside0.mk hy471
          clear hy471
          obtain rfl := Option.some.inj H
          go_enter Tryd.func62, Tryd.ntmps62
          go_wp2_with (first | ((with_reducible refine gate_dst (N := 9) rfl ?_); refine Kd.R_lit k78 _ 78 ?hg (N := 9) ?hd (xs := ([] : List (S78))) (inner := []) (ok := fun _ => True) (okp := fun _ => True) ?hr ?hp (fun _ hk => hk) trivial (Below.refl _ _) (Nat.le_refl _) (by simp) ?_; (case hd => rfl); (case hg => rfl); (case hr => first | (go_simp; done) | (go_simp; rfl)); (case hp => exact (Reps.none _ _)); intro v462 w15 ho16 hb hg_ hnew_; clear hg_ hnew_; (first | rw [← Ny461.out] at ho16 | (simp only [Int.reduceToNat] at ho16; rw [← Ny461.out] at ho16)); have HO463 := Aside0.mk (Kd.R_lower ho16 (below_size bl)); replace HB := Aside0.mk (below_step bl hb); clear hb ho16) | ((with_reducible refine gate_builtin (b := .append) (xs := #[.tmp 9, .tmp 10]) rfl ?_); at_builtin; refine Kd.R_append_rows k78 (w0 := w) w.heap.size rfl (.tmp 9) (.tmp 10) 43 78 (.agg #[(.string ⟨#[]⟩), (.string ⟨#[]⟩)]) 32 rfl Tryd.underlying43 info78 rfl (by decide) (by omega) v462 y461 l0 _ _ _ (fun _ => True) (fun _ => False) rfl rfl ?aO ?aR (fun _ _ h => h) (fun _ h => h.elim) ?aF ?aB ?aS ?aL ?_; (case aR => repeat (first | exact (Kd.C_below HR0.out HB.out) | (with_reducible refine Kd.C_alloc ?_ _) | (with_reducible refine Kd.C_drewN ?_ _) | (with_reducible refine Kd.C_drew ?_))); (case aB => exact bl); (case aF => exact (fun _ _ => trivial)); (case aO => exact (ro HO463)); (case aS => exact (below_size bl)); (case aL => have := LMc4.out; omega); intro v465 w17 ho hb hg hat; rw [← Ny464.out] at ho; have n0_ := Aside0.mk (hb); have n1_ := Aside0.mk (ho); clear HB; clear HO463; have HB := n0_; have HO466 := n1_; clear n0_ n1_; clear ho hb hg hat) | ((with_reducible refine gate_callee (f := 100) rfl ?_); refine goesL_ (some 14) rfl rfl Tryd.func100 (by kernel_rfl) rfl #[.slice A0 l0.length c0, .string a1] rfl ma ?_; (with_reducible refine (spec_l2At.calls k _ _ l0 a1 t467 _ ?side1 ?side2 A5.out).mono ?_); (case side1 => repeat (first | exact (Kd.C_below HR0.out HB.out) | (with_reducible refine Kd.C_alloc ?_ _) | (with_reducible refine Kd.C_drewN ?_ _) | (with_reducible refine Kd.C_drew ?_))); (case side2 => exact HC0.out); rintro e w' ⟨rfl, ⟨nd, rfl⟩⟩; refine ⟨_, rfl, ?_⟩; (try (rw [drewN_self w17]; generalize hq_ : World.drewN w17 _ = w17; have n0_ : Aside0 (Kd.R k78 78 w17 w.heap.size (fun _ => True) v465 y464) := ⟨by rw [← hq_]; exact (ro HO466)⟩; have n1_ : Aside0 (Below w.heap.size w w17) := ⟨by rw [← hq_]; exact bl⟩; clear HO466 HB hq_; have HO466 := n0_; have HB := n1_; clear n0_ n1_)); have p14 : 0 ≤ (t467 : Int) := of_decide_eq_true (by first | (with_reducible assumption) | assumption); have q14 : (t467 : Int) < ((y464.length : Int) : Int) := of_decide_eq_true (by first | (with_reducible assumption) | assumption); obtain ⟨go14, co14, eo14, gb14, gl14, cl14, HG14⟩ := Kd.R_form HO466.out (by omega); (first | cases eo14 | (injection eo14 with ea_ en_ ec_; (first | subst ea_ | (injection ea_ with ea_; subst ea_)); subst ec_; clear en_)); have GB14 := Aside0.mk gb14; have GG14 := Aside0.mk HG14; clear gb14 gl14 HG14; obtain ⟨ce14, hcl14, hM14, hcc14, hfr14⟩ := Kd.R_elem HO466.out z78 (t467 : Int) p14 q14; obtain rfl := k78_openM hM14; have hx14_0 : w17.cell? ⟨go14, (t467 : Int).toNat * 2, none⟩ = some (.string ((rd_T78 y464 t467).f0)) := hcc14 0 _ rfl; have hx14_1 : w17.cell? ⟨go14, (t467 : Int).toNat * 2 + 1, none⟩ = some (.string ((rd_T78 y464 t467).f1)) := hcc14 1 _ rfl; have hf14_0 : w17.frozen? ⟨go14, (t467 : Int).toNat * 2, none⟩ = false := hfr14 0; have hf14_1 : w17.frozen? ⟨go14, (t467 : Int).toNat * 2 + 1, none⟩ = false := hfr14 1; clear hcl14 hcc14 hfr14 hM14; replace p14 := eq_true p14; replace q14 := eq_true q14; have HX18 := Aside0.mk (show Kd.R k78 78 w17 w.heap.size (fun _ => True) (.slice (some ⟨go14, 0, none⟩) y464.length co14) y464 from (ro HO466)); obtain ⟨ce18, hcl18, hM18, hcc18, hfr18⟩ := Kd.R_elem HX18.out z78 (t467 : Int) (of_decide_eq_true (by first | (with_reducible assumption) | assumption)) (by have h_ : (t467 : Int) < ((y464.length : Int) : Int) := of_decide_eq_true (by first | (with_reducible assumption) | assumption); first | exact h_ | (have e_ := (Kd.R_reads' HO466.out).1; omega) | simpa using h_); obtain rfl := k78_openM hM18; have HP18 := Kd.R_seg HX18.out (t467 : Int) (of_decide_eq_true (by first | (with_reducible assumption) | assumption)) (by have h_ : (t467 : Int) < ((y464.length : Int) : Int) := of_decide_eq_true (by first | (with_reducible assumption) | assumption); first | exact h_ | (have e_ := (Kd.R_reads' HO466.out).1; omega) | simpa using h_) (seg := [.string a2]) (j := 1) hcl18 hcc18 (show 2 ≤ 2 from by decide) (x' := (⟨(rd_T78 y464 t467).f0, a2⟩ : S78)) (k78_mkM _ _ _ (⟨(rd_T78 y464 t467).f0, a2⟩ : S78) ) (fun _ hk => hk); have hx18_1 := hcc18 1 _ rfl; (try simp only [show (k78).sz = 2 from rfl, Nat.mul_one, Nat.add_zero] at hx18_1); have hf18_1 := hfr18 1; (try simp only [show (k78).sz = 2 from rfl, Nat.mul_one, Nat.add_zero] at hf18_1); clear hcl18 hcc18 hfr18 hM18) | ((with_reducible refine gate_store (t := 9) (p := 27) rfl ?_); refine store_event (t := 9) (p := 27) (v := ?vo_w19) (w1 := (w17.setCell ⟨go14, (t467 : Int).toNat * 2 + 1, none⟩ (.string a2))) ?hg ?ho ?hn ?hr ?_; (case ho => rfl); (case hg => rfl); (case hn => rfl); (case hr => first | (go_simp; done) | (go_simp; rfl)); intro w19 hw; have hg : w17.grownBy w19 (some go14) := (by rw [hw]; exact HP18.2); have hp_ : Kd.R k78 78 w19 w.heap.size (fun _ => True) (.slice (some ⟨go14, 0, none⟩) y464.length co14) y471 := (by rw [hw, Ny471.out]; exact HP18.1); clear HP18; have n0_ := Aside0.mk (hp_); have n1_ := Aside0.mk ((by rw [hw]; exact below_set (HB.out) GB14.out : Below w.heap.size w w19)); clear HO466; clear HB; have HO466 := n0_; have HB := n1_; clear n0_ n1_; clear hg hw hp_))
          go_ret
          exact ⟨_, rf, by (with_reducible repeat (first | apply Kd.R_alloc | apply Kd.R_drewN | apply Kd.R_drew)); exact HO466.out, bl⟩
        · rw [if_neg c13] at H
          exact absurd H (by simp)
      · rw [if_neg c12] at H
        exact absurd H (by simp)
  · rw [if_neg c4] at H
    exact absurd H (by simp)

/-! ### slices.Clone of fields -/
def slices_Clone_Field.f (l0 : List S78) : Option (List S78) := if l0.length < 4398046511104 then some l0 else none
set_option maxHeartbeats 4000000 in
theorem slices_Clone_Field.calls (A0 : Option Addr) (c0 : Nat) (l0 : List (S78)) (r : List S78) (w : World) (hr0 : Kd.C k78 w A0 l0.length l0) (hc0 : l0.length ≤ c0) (h : slices_Clone_Field.f l0 = some r) :
    Calls Tryd.prog 113 #[.slice A0 l0.length c0] w fun e w' => ∃ v0_ : Value, e = .returned v0_ ∧ Kd.R k78 78 w' w.heap.size (fun _ => True) v0_ r ∧ Below w.heap.size w w' := by
  unfold slices_Clone_Field.f at h
  split at h
  case isFalse => cases h
  rename_i hl
  obtain rfl := Option.some.inj h
  have HN := Aside0.mk hl
  have HB := Aside0.mk (Below.refl w.heap.size w)
  have hk := Lib.run_eql_slice_nil (P := Tryd.prog) w 43 78 A0 l0.length c0 0 0 Tryd.underlying43
  clear h hl hc0
  cases A0 with
  | none =>
    have HE := Aside0.mk (C_none_nil hr0 rfl)
    clear hr0
    go_enter Tryd.func113, Tryd.ntmps113
    go_wp2
    go_ret
    exact ⟨_, rfl, by rw [HE.out]; exact Kd.R_nil _ _ _ _ _, HB.out⟩
  | some ad =>
    have HR := Aside0.mk hr0
    clear hr0
    go_enter Tryd.func113, Tryd.ntmps113
    go_wp2_with (first | ((with_reducible refine gate_dst (N := 5) rfl ?_); refine Kd.R_lit k78 _ 78 ?hg (N := 5) ?hd (xs := ([] : List (S78))) (inner := []) (ok := fun _ => True) (okp := fun _ => True) ?hr ?hp (fun _ hk => hk) trivial (Below.refl _ _) (Nat.le_refl _) (by simp) ?_; (case hd => rfl); (case hg => rfl); (case hr => first | (go_simp; done) | (go_simp; rfl)); (case hp => exact (Reps.none _ _)); intro v1 w1 ho hb hg_ hnew_; clear hg_ hnew_; have H1 := Aside0.mk ho; have HB1 := Aside0.mk hb; clear ho hb HB) | ((with_reducible refine gate_builtin (b := .append) (xs := #[.tmp 5, .tmp 6]) rfl ?_); at_builtin; refine Kd.R_append_rows k78 (w0 := w) w.heap.size rfl (.tmp 5) (.tmp 6) 43 78 (.agg #[(.string ⟨#[]⟩), (.string ⟨#[]⟩)]) 32 rfl Tryd.underlying43 info78 rfl (by decide) (by omega) v1 [] l0 _ _ _ (fun _ => True) (fun _ => False) rfl rfl H1.out (Kd.C_below HR.out HB1.out) (fun _ _ h => h) (fun _ h => h.elim) (fun _ _ => trivial) HB1.out HB1.out.size (by have := HN.out; simp; omega) ?_; intro v2 w2 ho hb hg hat; clear hg hat; have H2 := Aside0.mk ho; have HB2 := Aside0.mk hb; clear ho hb H1 HB1))
    go_ret
    exact ⟨_, rfl, H2.out, HB2.out⟩

/-! ### impl_Put: function 60 -/
def impl_Put.f (l0 : List (S78)) (a1 : ByteArray) (a2 : ByteArray) : Option ((List (S78))) := (slices_Clone_Field.f l0).bind fun t503 => ((impl_fieldAt.f l0 a1).bind fun t506 => (if t506 ≥ 0 then (if 0 ≤ t506 then (if t506 < (t503.length : Int) then (some (t503.set (t506 : Int).toNat (⟨(rd_T78 t503 t506).f0, a2⟩ : S78))) else (none)) else (none)) else (if t503.length < 4398046511104 then (some (t503 ++ [(⟨a1, a2⟩ : S78)])) else (none))))
set_option maxHeartbeats 8000000 in
set_option maxRecDepth 100000 in
theorem impl_Put.calls (A0 : Option Addr) (c0 : Nat) (l0 : List (S78)) (a1 : ByteArray) (a2 : ByteArray) (r : List (S78)) (w : World) (hr0 : Kd.C k78 w A0 l0.length l0) (hc0 : l0.length ≤ c0) (h : impl_Put.f l0 a1 a2 = some r) :
    Calls Tryd.prog 60 #[.slice A0 l0.length c0, .string a1, .string a2] w fun e w' => ∃ v0_ : Value, e = .returned (v0_) ∧ Kd.R k78 78 w' w.heap.size (fun _ => True) v0_ r ∧ Below w.heap.size w w' := by
  have hu78 := Tryd.underlying78
  have HR0 := Aside0.mk hr0
  have HC0 := Aside0.mk hc0
  clear hr0 hc0
  have HB := Aside0.mk (Below.refl w.heap.size w)
  have H : ((slices_Clone_Field.f l0).bind fun t503 => ((impl_fieldAt.f l0 a1).bind fun t506 => (if t506 ≥ 0 then (if 0 ≤ t506 then (if t506 < (t503.length : Int) then (some (t503.set (t506 : Int).toNat (⟨(rd_T78 t503 t506).f0, a2⟩ : S78))) else (none)) else (none)) else (if t503.length < 4398046511104 then (some (t503 ++ [(⟨a1, a2⟩ : S78)])) else (none))))) = some r := h
  clear h
  replace H := Option.bind_eq_some_iff.mp H
  obtain ⟨t503, A40, H⟩ := H
  replace H : ((impl_fieldAt.f l0 a1).bind fun t506 => (if t506 ≥ 0 then (if 0 ≤ t506 then (if t506 < (t503.length : Int) then (some (t503.set (t506 : Int).toNat (⟨(rd_T78 t503 t506).f0, a2⟩ : S78))) else (none)) else (none)) else (if t503.length < 4398046511104 then (some (t503 ++ [(⟨a1, a2⟩ : S78)])) else (none)))) = some r := H
  have A4 := Aside0.mk A40
  clear A40
  replace H := Option.bind_eq_some_iff.mp H
  obtain ⟨t506, A50, H⟩ := H
  replace H : (if t506 ≥ 0 then (if 0 ≤ t506 then (if t506 < (t503.length : Int) then (some (t503.set (t506 : Int).toNat (⟨(rd_T78 t503 t506).f0, a2⟩ : S78))) else (none)) else (none)) else (if t503.length < 4398046511104 then (some (t503 ++ [(⟨a1, a2⟩ : S78)])) else (none))) = some r := H
  have A5 := Aside0.mk A50
  clear A50
  by_cases c6 : t506 ≥ 0
  · rw [if_pos c6] at H
    have c6b0 : decide (0 ≤ t506) = true := decide_eq_true c6
    clear c6
    by_cases c7 : 0 ≤ t506
    · rw [if_pos c7] at H
      have c7b0 : decide (0 ≤ t506) = true := decide_eq_true c7
      clear c7
      by_cases c8 : t506 < (t503.length : Int)
      · rw [if_pos c8] at H
        have c8b0 : decide (t506 < (t503.length : Int)) = true := decide_eq_true c8
        clear c8
        obtain ⟨y507, hy507⟩ : ∃ y_ : List (S78), y_ = (t503.set (t506 : Int).toNat (⟨(rd_T78 t503 t506).f0, a2⟩ : S78)) := ⟨_, rfl⟩
        replace H : (some y507) = some r := by first | (rw [hy507]; with_reducible exact H) | (have H2_ := (Option.bind_some _ _).symm.trans H; rw [hy507]; with_reducible exact H2_) | (have H2_ := (Option.bind_some _ _).symm.trans H; with_reducible exact H2_) | with_reducible exact H | (rw [hy507]; exact H) | exact H
        have Ny507 := Aside0.mk hy507
        clear hy507
        obtain rfl := Option.some.inj H
        go_enter Tryd.func60, Tryd.ntmps60
        go_wp2_with (first | ((with_reducible refine gate_callee (f := 113) rfl ?_); refine goesL_ (some 10) rfl rfl Tryd.func113 (by kernel_rfl) rfl #[.slice A0 l0.length c0] rfl ma ?_; (with_reducible refine (slices_Clone_Field.calls _ _ l0 t503 _ ?side1 ?side2 A4.out).mono ?_); (case side1 => repeat (first | exact HR0.out | (with_reducible refine Kd.C_alloc ?_ _) | (with_reducible refine Kd.C_drewN ?_ _) | (with_reducible refine Kd.C_drew ?_))); (case side2 => exact HC0.out); rintro e w10 ⟨v504, rfl, ho0, hb⟩; refine ⟨_, rfl, ?_⟩; have HO505 := Aside0.mk (Kd.R_lower ho0 (below_size bl)); replace HB := Aside0.mk (below_step bl hb); (try clear hb); (try clear hb2); (try clear hk); (try clear hi); (try clear ho0)) | ((with_reducible refine gate_callee (f := 102) rfl ?_); refine goesL_ (some 13) rfl rfl Tryd.func102 (by kernel_rfl) rfl #[.slice A0 l0.length c0, .string a1] rfl ma ?_; (with_reducible refine (impl_fieldAt.calls _ _ l0 a1 t506 _ ?side1 ?side2 A5.out).mono ?_); (case side1 => repeat (first | exact (Kd.C_below HR0.out HB.out) | (with_reducible refine Kd.C_alloc ?_ _) | (with_reducible refine Kd.C_drewN ?_ _) | (with_reducible refine Kd.C_drew ?_))); (case side2 => exact HC0.out); rintro e w11 ⟨rfl, hb⟩; refine ⟨_, rfl, ?_⟩; replace HO505 := kr HO505 hb; replace HB := Aside0.mk (below_step bl hb); (try clear hb); (try clear hb2); (try clear hk); (try clear hi); have p9 : 0 ≤ (t506 : Int) := of_decide_eq_true (by first | (with_reducible assumption) | assumption); have q9 : (t506 : Int) < ((t503.length : Int) : Int) := of_decide_eq_true (by first | (with_reducible assumption) | assumption); obtain ⟨go9, co9, eo9, gb9, gl9, cl9, HG9⟩ := Kd.R_form HO505.out (by omega); (first | cases eo9 | (injection eo9 with ea_ en_ ec_; (first | subst ea_ | (injection ea_ with ea_; subst ea_)); subst ec_; clear en_)); have GB9 := Aside0.mk gb9; have GG9 := Aside0.mk HG9; clear gb9 gl9 HG9; obtain ⟨ce9, hcl9, hM9, hcc9, hfr9⟩ := Kd.R_elem HO505.out z78 (t506 : Int) p9 q9; obtain rfl := k78_openM hM9; have hx9_0 : w11.cell? ⟨go9, (t506 : Int).toNat * 2, none⟩ = some (.string ((rd_T78 t503 t506).f0)) := hcc9 0 _ rfl; have hx9_1 : w11.cell? ⟨go9, (t506 : Int).toNat * 2 + 1, none⟩ = some (.string ((rd_T78 t503 t506).f1)) := hcc9 1 _ rfl; have hf9_0 : w11.frozen? ⟨go9, (t506 : Int).toNat * 2, none⟩ = false := hfr9 0; have hf9_1 : w11.frozen? ⟨go9, (t506 : Int).toNat * 2 + 1, none⟩ = false := hfr9 1; clear hcl9 hcc9 hfr9 hM9; replace p9 := eq_true p9; replace q9 := eq_true q9; have HX12 := Aside0.mk (show Kd.R k78 78 w11 w.heap.size (fun _ => True) (.slice (some ⟨go9, 0, none⟩) t503.length co9) t503 from (ro HO505)); obtain ⟨ce12, hcl12, hM12, hcc12, hfr12⟩ := Kd.R_elem HX12.out z78 (t506 : Int) (of_decide_eq_true (by first | (with_reducible assumption) | assumption)) (by have h_ : (t506 : Int) < ((t503.length : Int) : Int) := of_decide_eq_true (by first | (with_reducible assumption) | assumption); first | exact h_ | (have e_ := (Kd.R_reads' HO505.out).1; omega) | simpa using h_); obtain rfl := k78_openM hM12; have HP12 := Kd.R_seg HX12.out (t506 : Int) (of_decide_eq_true (by first | (with_reducible assumption) | assumption)) (by have h_ : (t506 : Int) < ((t503.length : Int) : Int) := of_decide_eq_true (by first | (with_reducible assumption) | assumption); first | exact h_ | (have e_ := (Kd.R_reads' HO505.out).1; omega) | simpa using h_) (seg := [.string a2]) (j := 1) hcl12 hcc12 (show 2 ≤ 2 from by decide) (x' := (⟨(rd_T78 t503 t506).f0, a2⟩ : S78)) (k78_mkM _ _ _ (⟨(rd_T78 t503 t506).f0, a2⟩ : S78) ) (fun _ hk => hk); have hx12_1 := hcc12 1 _ rfl; (try simp only [show (k78).sz = 2 from rfl, Nat.mul_one, Nat.add_zero] at hx12_1); have hf12_1 := hfr12 1; (try simp only [show (k78).sz = 2 from rfl, Nat.mul_one, Nat.add_zero] at hf12_1); clear hcl12 hcc12 hfr12 hM12) | ((with_reducible refine gate_store (t := 9) (p := 20) rfl ?_); refine store_event (t := 9) (p := 20) (v := ?vo_w13) (w1 := (w11.setCell ⟨go9, (t506 : Int).toNat * 2 + 1, none⟩ (.string a2))) ?hg ?ho ?hn ?hr ?_; (case ho => rfl); (case hg => rfl); (case hn => rfl); (case hr => first | (go_simp; done) | (go_simp; rfl)); intro w13 hw; have hg : w11.grownBy w13 (some go9) := (by rw [hw]; exact HP12.2); have hp_ : Kd.R k78 78 w13 w.heap.size (fun _ => True) (.slice (some ⟨go9, 0, none⟩) t503.length co9) y507 := (by rw [hw, Ny507.out]; exact HP12.1); clear HP12; have n0_ := Aside0.mk (hp_); have n1_ := Aside0.mk ((by rw [hw]; exact below_set (HB.out) GB9.out : Below w.heap.size w w13)); clear HO505; clear HB; have HO505 := n0_; have HB := n1_; clear n0_ n1_; clear hg hw hp_))
        go_ret
        exact ⟨_, rf, by (with_reducible repeat (first | apply Kd.R_alloc | apply Kd.R_drewN | apply Kd.R_drew)); exact HO505.out, bl⟩
      · rw [if_neg c8] at H
        exact absurd H (by simp)
    · rw [if_neg c7] at H
      exact absurd H (by simp)
  · rw [if_neg c6] at H
    have c6b0 : decide (0 ≤ t506) = false := decide_eq_false c6
    clear c6
    by_cases c14 : t503.length < 4398046511104
    · rw [if_pos c14] at H
      have LMc14 := Aside0.mk c14
      clear c14
      obtain ⟨y508, hy508⟩ : ∃ y_ : List (S78), y_ = (t503 ++ [(⟨a1, a2⟩ : S78)]) := ⟨_, rfl⟩
      replace H : (some y508) = some r := by first | (rw [hy508]; with_reducible exact H) | (have H2_ := (Option.bind_some _ _).symm.trans H; rw [hy508]; with_reducible exact H2_) | (have H2_ := (Option.bind_some _ _).symm.trans H; with_reducible exact H2_) | with_reducible exact H | (rw [hy508]; exact H) | exact H
      have Ny508 := Aside0.mk hy508
      clear hy508
      obtain rfl := Option.some.inj H
      go_enter Tryd.func60, Tryd.ntmps60
      go_wp2_with (first | ((with_reducible refine gate_callee (f := 113) rfl ?_); refine goesL_ (some 10) rfl rfl Tryd.func113 (by kernel_rfl) rfl #[.slice A0 l0.length c0] rfl ma ?_; (with_reducible refine (slices_Clone_Field.calls _ _ l0 t503 _ ?side1 ?side2 A4.out).mono ?_); (case side1 => repeat (first | exact HR0.out | (with_reducible refine Kd.C_alloc ?_ _) | (with_reducible refine Kd.C_drewN ?_ _) | (with_reducible refine Kd.C_drew ?_))); (case side2 => exact HC0.out); rintro e w15 ⟨v504, rfl, ho0, hb⟩; refine ⟨_, rfl, ?_⟩; have HO505 := Aside0.mk (Kd.R_lower ho0 (below_size bl)); replace HB := Aside0.mk (below_step bl hb); (try clear hb); (try clear hb2); (try clear hk); (try clear hi); (try clear ho0)) | ((with_reducible refine gate_callee (f := 102) rfl ?_); refine goesL_ (some 13) rfl rfl Tryd.func102 (by kernel_rfl) rfl #[.slice A0 l0.length c0, .string a1] rfl ma ?_; (with_reducible refine (impl_fieldAt.calls _ _ l0 a1 t506 _ ?side1 ?side2 A5.out).mono ?_); (case side1 => repeat (first | exact (Kd.C_below HR0.out HB.out) | (with_reducible refine Kd.C_alloc ?_ _) | (with_reducible refine Kd.C_drewN ?_ _) | (with_reducible refine Kd.C_drew ?_))); (case side2 => exact HC0.out); rintro e w16 ⟨rfl, hb⟩; refine ⟨_, rfl, ?_⟩; replace HO505 := kr HO505 hb; replace HB := Aside0.mk (below_step bl hb); (try clear hb); (try clear hb2); (try clear hk); (try clear hi)) | ((with_reducible refine gate_builtin (b := .append) (xs := #[.tmp 22, .tmp 26]) rfl ?_); at_builtin; refine Kd.R_append k78 (w0 := w) w.heap.size rfl (.tmp 22) (.tmp 26) 43 78 (.agg #[(.string ⟨#[]⟩), (.string ⟨#[]⟩)]) 32 rfl Tryd.underlying43 info78 rfl (by decide) (by omega) v504 t503 (⟨a1, a2⟩ : S78) [.string a1, .string a2] (fun _ => True) (fun _ => False) rfl rfl ?aP (fun _ hk => hk.elim) ?aF ?aO ?aB ?aS ?aL ?_; (case aP => exact k78_mkM _ _ _ (⟨a1, a2⟩ : S78)); (case aB => exact bl); (case aF => exact (fun _ _ => trivial)); (case aO => exact (ro HO505)); (case aS => exact (below_size bl)); (case aL => have := LMc14.out; omega); intro v509 w17 ho hb hg hat; rw [← Ny508.out] at ho; have n0_ := Aside0.mk (hb); have n1_ := Aside0.mk (ho); clear HB; clear HO505; have HB := n0_; have HO510 := n1_; clear n0_ n1_; clear ho hb hg hat))
      go_ret
      exact ⟨_, rf, by (with_reducible repeat (first | apply Kd.R_alloc | apply Kd.R_drewN | apply Kd.R_drew)); exact HO510.out, bl⟩
    · rw [if_neg c14] at H
      exact absurd H (by simp)

end Go.Proofs.YtogdmlgbdbgpkaaDoor.All
