-- Written by a program of this session (wip/tools/hprint.py) out of the translation. Lean checks it.
import Derived.Test.YtogdmlgbdbgpkaaDoorAllx0
import Derived.Test.YtogdmlgbdbgpkaaDoorAllx14
import Derived.Test.YtogdmlgbdbgpkaaDoorAllx23
namespace Go.Proofs.YtogdmlgbdbgpkaaDoor.All
open Go.RowKit Go.Proofs.YtogdmlgbdbgpkaaDoorW.PrintWords Go.Proofs.YtogdmlgbdbgpkaaDoorW.PrintLast Go.Proofs.YtogdmlgbdbgpkaaDoorW.PrintMore
attribute [local go_sem] max2_int min2_int max_two min_two max_three min_three max_four min_four   -- for this text's walks alone
set_option linter.unusedVariables false
set_option linter.unusedSimpArgs false

/-! ### impl_Get: function 63 -/
def impl_Get.f (l0 : List (S78)) (a1 : ByteArray) : Option (ByteArray × Bool) := (impl_fieldAt.f l0 a1).bind fun t766 => (if t766 < 0 then (some ((⟨#[]⟩ : ByteArray), false)) else (if 0 ≤ t766 then (if t766 < (l0.length : Int) then (some ((rd_T78 l0 t766).f1, true)) else (none)) else (none)))
set_option maxHeartbeats 8000000 in
set_option maxRecDepth 100000 in
theorem impl_Get.calls (A0 : Option Addr) (c0 : Nat) (l0 : List (S78)) (a1 : ByteArray) (r1 : ByteArray) (r2 : Bool) (w : World) (hr0 : Kd.C k78 w A0 l0.length l0) (hc0 : l0.length ≤ c0) (h : impl_Get.f l0 a1 = some (r1, r2)) :
    Calls Tryd.prog 63 #[.slice A0 l0.length c0, .string a1] w fun e w' => e = .returned (.tuple #[.string r1, .bool r2]) ∧ Below w.heap.size w w' := by
  have HR0 := Aside0.mk hr0
  have HC0 := Aside0.mk hc0
  clear hr0 hc0
  have HB := Aside0.mk (Below.refl w.heap.size w)
  have H : ((impl_fieldAt.f l0 a1).bind fun t766 => (if t766 < 0 then (some ((⟨#[]⟩ : ByteArray), false)) else (if 0 ≤ t766 then (if t766 < (l0.length : Int) then (some ((rd_T78 l0 t766).f1, true)) else (none)) else (none)))) = some (r1, r2) := h
  clear h
  replace H := Option.bind_eq_some_iff.mp H
  obtain ⟨t766, A30, H⟩ := H
  replace H : (if t766 < 0 then (some ((⟨#[]⟩ : ByteArray), false)) else (if 0 ≤ t766 then (if t766 < (l0.length : Int) then (some ((rd_T78 l0 t766).f1, true)) else (none)) else (none))) = some (r1, r2) := H
  have A3 := Aside0.mk A30
  clear A30
  by_cases c4 : t766 < 0
  · rw [if_pos c4] at H
    have c4b0 : decide (t766 < 0) = true := decide_eq_true c4
    clear c4
    simp only [Option.some.injEq, Prod.mk.injEq] at H
    obtain ⟨rfl, rfl⟩ := H
    go_enter Tryd.func63, Tryd.ntmps63
    go_wp2_with (first | ((with_reducible refine gate_callee (f := 102) rfl ?_); refine goesL_ (some 9) rfl rfl Tryd.func102 (by kernel_rfl) rfl #[.slice A0 l0.length c0, .string a1] rfl ma ?_; (with_reducible refine (impl_fieldAt.calls _ _ l0 a1 t766 _ ?side1 ?side2 A3.out).mono ?_); (case side1 => repeat (first | exact HR0.out | (with_reducible refine Kd.C_alloc ?_ _) | (with_reducible refine Kd.C_drewN ?_ _) | (with_reducible refine Kd.C_drew ?_))); (case side2 => exact HC0.out); rintro e w5 ⟨rfl, hb⟩; refine ⟨_, rfl, ?_⟩; replace HB := Aside0.mk (below_step bl hb); (try clear hb); (try clear hb2); (try clear hk); (try clear hi)))
    go_ret2
    exact ⟨rf, bl⟩
  · rw [if_neg c4] at H
    have c4b0 : decide (t766 < 0) = false := decide_eq_false c4
    clear c4
    by_cases c6 : 0 ≤ t766
    · rw [if_pos c6] at H
      have c6b0 : decide (0 ≤ t766) = true := decide_eq_true c6
      clear c6
      by_cases c7 : t766 < (l0.length : Int)
      · rw [if_pos c7] at H
        have c7b0 : decide (t766 < (l0.length : Int)) = true := decide_eq_true c7
        clear c7
        simp only [Option.some.injEq, Prod.mk.injEq] at H
        obtain ⟨rfl, rfl⟩ := H
        go_enter Tryd.func63, Tryd.ntmps63
        go_wp2_with (first | ((with_reducible refine gate_callee (f := 102) rfl ?_); refine goesL_ (some 9) rfl rfl Tryd.func102 (by kernel_rfl) rfl #[.slice A0 l0.length c0, .string a1] rfl ma ?_; (with_reducible refine (impl_fieldAt.calls _ _ l0 a1 t766 _ ?side1 ?side2 A3.out).mono ?_); (case side1 => repeat (first | exact HR0.out | (with_reducible refine Kd.C_alloc ?_ _) | (with_reducible refine Kd.C_drewN ?_ _) | (with_reducible refine Kd.C_drew ?_))); (case side2 => exact HC0.out); rintro e w8 ⟨rfl, hb⟩; refine ⟨_, rfl, ?_⟩; replace HB := Aside0.mk (below_step bl hb); (try clear hb); (try clear hb2); (try clear hk); (try clear hi); have p767 : 0 ≤ (t766 : Int) := of_decide_eq_true (by first | (with_reducible assumption) | assumption); have q767 : t766 < (l0.length : Int) := of_decide_eq_true (by first | (with_reducible assumption) | assumption); obtain ⟨ad767, e767, hx767_0, hx767_1⟩ := at_T78 HR0.out t766 p767 q767; cases e767; replace hx767_0 := (HB.out.cell (World.block_lt_of_cell? w _ hx767_0)).trans hx767_0; replace hx767_1 := (HB.out.cell (World.block_lt_of_cell? w _ hx767_1)).trans hx767_1; replace p767 := eq_true p767; replace q767 := eq_true q767))
        go_ret2
        exact ⟨rf, bl⟩
      · rw [if_neg c7] at H
        exact absurd H (by simp)
    · rw [if_neg c6] at H
      exact absurd H (by simp)

/-! ### slices.Delete of one field of a row of the call's own, in place -/
/-- a store behind a row's last element (its capacity reaches further) turns nothing of it -/
theorem R_beyond {α : Type} {d : Kd α} {e base g m c j : Nat} {ok : Nat → Prop} {W : World} {xs : List α} (h : Kd.R d e W base ok (.slice (some ⟨g, 0, none⟩) m c) xs) (hj : m * d.sz ≤ j) (u : Value) : Kd.R d e (W.setCell ⟨g, j, none⟩ u) base ok (.slice (some ⟨g, 0, none⟩) m c) xs := by
  obtain ⟨hm, _, _⟩ := Kd.R_reads' h
  obtain ⟨hok, inner, ⟨hl, hown⟩, hr⟩ := h
  refine ⟨hok, inner, ⟨hl, ?_⟩, hr.imp_ (fun _ _ hp => Kd.M_far (p := ⟨g, j, none⟩) hp (fun k hk e => hk.2 (by rw [e]; rfl)) u)⟩
  rcases hown with ⟨hv, _⟩ | ⟨g', cap, cur, hv, hb, hh, h1, h2, h3, h4⟩
  · cases hv
  injection hv with ha _ hc
  injection ha with ha
  injection ha with hg
  subst hg; subst hc
  refine .inr ⟨g, c, cur.setIfInBounds j u, by rw [← hm], hb, blk_set hh j u, h1, h2, by simpa using h3, ?_⟩
  rw [← h4, Array.toList_setIfInBounds, List.take_set_of_le (by rw [← hm]; omega)]
theorem R_cells {α : Type} {d : Kd α} {e base g m c : Nat} {ok : Nat → Prop} {W : World} {xs : List α} (h : Kd.R d e W base ok (.slice (some ⟨g, 0, none⟩) m c) xs) (j : Nat) (hj : j < c * d.sz) : (W.cell? ⟨g, j, none⟩).isSome = true ∧ W.frozen? ⟨g, j, none⟩ = false ∧ base ≤ g := by
  obtain ⟨_, inner, ⟨hl, hown⟩, hr⟩ := h
  rcases hown with ⟨hv, _⟩ | ⟨g', cap, cur, hv, hb, hh, h1, h2, h3, h4⟩
  · cases hv
  injection hv with ha _ hc
  injection ha with ha
  injection ha with hg
  subst hg; subst hc
  refine ⟨?_, blk_frozen hh j, hb⟩
  rw [blk_cell hh, Array.getElem?_eq_getElem (by omega)]; rfl
theorem clear_one (g n c' : Nat) (hn : 0 < n) (w : World) (h1 : (w.cell? ⟨g, (n - 1) * 2, none⟩).isSome = true ∧ w.frozen? ⟨g, (n - 1) * 2, none⟩ = false) (h2 : (w.cell? ⟨g, (n - 1) * 2 + 1, none⟩).isSome = true ∧ w.frozen? ⟨g, (n - 1) * 2 + 1, none⟩ = false) (ty : TypeId) :
    (Builtin.clear_ #[43] ty #[.slice (some ⟨g, (n - 1) * 2, none⟩) (n - (n - 1)) c']).run Tryd.prog w = .ok (.tuple #[]) ((w.setCell ⟨g, (n - 1) * 2, none⟩ (.string ⟨#[]⟩)).setCell ⟨g, (n - 1) * 2 + 1, none⟩ (.string ⟨#[]⟩)) := by
  have hst := run_storeCells_cells (P := Tryd.prog) g ((n - 1) * 2) [.string ⟨#[]⟩, .string ⟨#[]⟩] 0 w (by intro j hj; have hj' : j < 2 := hj; rcases j with _ | _ | j; exact h1.1; exact h2.1; omega) (by intro j hj; have hj' : j < 2 := hj; rcases j with _ | _ | j; exact h1.2; exact h2.2; omega) (by simp [Value.oneCell'])
  have hz : (zeroValue 78).run Tryd.prog w = .ok (.agg #[.string ⟨#[]⟩, .string ⟨#[]⟩]) w := by kernel_rfl
  have hone : n - (n - 1) = 1 := by omega
  rw [hone]
  have hzc : (Builtin.zeroCells #[Value.string ⟨#[]⟩, Value.string ⟨#[]⟩] 1).toList = [Value.string ⟨#[]⟩, Value.string ⟨#[]⟩] := by kernel_rfl
  simp only [Builtin.clear_]
  simp [run_underlying Tryd.underlying43, hz, Value.cells, hzc, hst]
  rfl
set_option maxHeartbeats 8000000 in
set_option maxRecDepth 100000 in
theorem deleteF (w0 : World) (base g c i : Nat) (xs : List S78) (W : World) (HO : Kd.R k78 78 W base (fun _ => True) (.slice (some ⟨g, 0, none⟩) xs.length c) xs) (hi : i < xs.length) (hn : xs.length < 4398046511104) (HB : Below base w0 W) (hbase : base ≤ W.heap.size) :
    Calls Tryd.prog 114 #[.slice (some ⟨g, 0, none⟩) xs.length c, .int .i64 i, .int .i64 ((i : Int) + 1)] W fun e w' => ∃ v0_ : Value, e = .returned v0_ ∧ Kd.R k78 78 w' base (fun _ => True) v0_ (xs.eraseIdx i) ∧ Below base w0 w' := by
  obtain ⟨_, hc, _⟩ := Kd.R_reads' HO
  have HOA := Aside0.mk HO
  have HBA := Aside0.mk HB
  clear HO HB
  have h0 : (0 : Int) ≤ (i : Int) := by omega
  have h1 : (i : Int) ≤ (i : Int) + 1 := by omega
  have h2 : (i : Int) + 1 ≤ (xs.length : Int) := by omega
  have h3 : (xs.length : Int) ≤ (c : Int) := by omega
  have hne : ((i : Int) == (i : Int) + 1) = false := by simp; omega
  go_enter Tryd.func114, Tryd.ntmps114
  go_wp2
  have h4 : (0 : Int) ≤ (i : Int) + 1 := by omega
  have HNE := Aside0.mk hn
  clear hn
  by_cases hci : c = i + 1
  · subst hci
    go_region_law ((refine Kd.R_delete_step k78 (w0 := w0) base ?hw (.tmp 22) (.tmp 25) 43 78 rfl Tryd.underlying43 (by kernel_rfl) (g := g) (n := xs.length) (c := i + 1) (k := i) rfl rfl ?hA ?hm (Kd.R_drew HOA.out) hi (below_drew HBA.out) hbase ?_); (case hw => rfl); (case hA => simp); (case hm => omega); intro w1 ho hb hg; have HO1 := Aside0.mk ho; have HB1 := Aside0.mk hb; have HG1 := Aside0.mk hg; clear ho hb hg)
    have q1 := R_cells HO1.out ((xs.length - 1) * 2) (by show _ < (i + 1) * 2; omega)
    have q2 := R_cells HO1.out ((xs.length - 1) * 2 + 1) (by show _ < (i + 1) * 2; omega)
    have kcl := clear_one g xs.length ((i + 1) - (xs.length - 1)) (by omega) w1 ⟨q1.1, q1.2.1⟩ ⟨q2.1, q2.2.1⟩
    have HQ := Aside0.mk q1.2.2
    clear q1 q2
    have k1 : (0 : Int) ≤ ((xs.length - 1 : Nat) : Int) := by omega
    have k2 : ((xs.length - 1 : Nat) : Int) ≤ (xs.length : Int) := by omega
    go_wp2
    go_ret
    exact ⟨_, rfl, R_beyond (R_beyond HO1.out (by show (xs.length - 1) * 2 ≤ _; omega) _) (by show (xs.length - 1) * 2 ≤ _; omega) _, (HB1.out.setCell (p := ⟨g, (xs.length - 1) * 2, none⟩) HQ.out _).setCell (p := ⟨g, (xs.length - 1) * 2 + 1, none⟩) HQ.out _⟩
  · have hcf : (c == i + 1) = false := by simpa using hci
    have HC := Aside0.mk hci
    have hic : i ≤ c := by omega
    go_region_law ((refine Kd.R_delete_step k78 (w0 := w0) base ?hw (.tmp 22) (.tmp 25) 43 78 rfl Tryd.underlying43 (by kernel_rfl) (g := g) (n := xs.length) (c := c) (k := i) rfl rfl ?hA ?hm (Kd.R_drew HOA.out) hi (below_drew HBA.out) hbase ?_); (case hw => rfl); (case hA => rw [if_neg HC.out, Option.map_some, add_plain]; rfl); (case hm => first | rfl | omega); intro w1 ho hb hg; have HO1 := Aside0.mk ho; have HB1 := Aside0.mk hb; have HG1 := Aside0.mk hg; clear ho hb hg)
    have q1 := R_cells HO1.out ((xs.length - 1) * 2) (by show _ < c * 2; omega)
    have q2 := R_cells HO1.out ((xs.length - 1) * 2 + 1) (by show _ < c * 2; omega)
    have kcl := clear_one g xs.length (c - (xs.length - 1)) (by omega) w1 ⟨q1.1, q1.2.1⟩ ⟨q2.1, q2.2.1⟩
    have HQ := Aside0.mk q1.2.2
    clear q1 q2
    have k1 : (0 : Int) ≤ ((xs.length - 1 : Nat) : Int) := by omega
    have k2 : ((xs.length - 1 : Nat) : Int) ≤ (xs.length : Int) := by omega
    go_wp2
    go_ret
    exact ⟨_, rfl, R_beyond (R_beyond HO1.out (by show (xs.length - 1) * 2 ≤ _; omega) _) (by show (xs.length - 1) * 2 ≤ _; omega) _, (HB1.out.setCell (p := ⟨g, (xs.length - 1) * 2, none⟩) HQ.out _).setCell (p := ⟨g, (xs.length - 1) * 2 + 1, none⟩) HQ.out _⟩

/-! ### impl.Drop -/
def impl_Drop.f (l0 : List S78) (a1 : ByteArray) : Option (List S78) := if l0.length < 4398046511104 then some (if at_ a1 l0 0 < 0 then l0 else l0.eraseIdx (at_ a1 l0 0).toNat) else none
theorem at_bounds (n : ByteArray) : ∀ (l : List S78) (i : Nat), at_ n l i = -1 ∨ ((i : Int) ≤ at_ n l i ∧ at_ n l i < (i : Int) + l.length)
  | [], i => .inl rfl
  | x :: r, i => by
    simp only [at_]
    split
    · exact .inr ⟨Int.le_refl _, by simp; omega⟩
    · rcases at_bounds n r (i + 1) with h | h
      · exact .inl h
      · exact .inr ⟨by omega, by simp; omega⟩
set_option maxHeartbeats 8000000 in
set_option maxRecDepth 100000 in
theorem impl_Drop.calls (A0 : Option Addr) (c0 : Nat) (l0 : List (S78)) (a1 : ByteArray) (r : List S78) (w : World) (hr0 : Kd.C k78 w A0 l0.length l0) (hc0 : l0.length ≤ c0) (h : impl_Drop.f l0 a1 = some r) :
    Calls Tryd.prog 64 #[.slice A0 l0.length c0, .string a1] w fun e w' => ∃ v0_ : Value, e = .returned v0_ ∧ Kd.R k78 78 w' w.heap.size (fun _ => True) v0_ r ∧ Below w.heap.size w w' := by
  unfold impl_Drop.f at h
  split at h
  case isFalse => cases h
  rename_i hl
  have HRR := Aside0.mk (Option.some.inj h).symm
  have HN := Aside0.mk hl
  have HR := Aside0.mk hr0
  have HC0 := Aside0.mk hc0
  have hcl : slices_Clone_Field.f l0 = some l0 := by unfold slices_Clone_Field.f; rw [if_pos hl]
  have hat : impl_fieldAt.f l0 a1 = some (at_ a1 l0 0) := by unfold impl_fieldAt.f; rw [if_pos hl]
  have HCL := Aside0.mk hcl
  have HAT := Aside0.mk hat
  have hb := at_bounds a1 l0 0
  clear h hl hr0 hc0 hcl hat
  obtain ⟨j, hj⟩ : ∃ j, j = at_ a1 l0 0 := ⟨_, rfl⟩
  rw [← hj] at hb
  have HJ := Aside0.mk hj
  rw [HJ.out.symm] at HAT
  clear hj
  by_cases hneg : j < 0
  · have hd : decide (0 ≤ j) = false := by simpa using hneg
    have HNEG := Aside0.mk hneg
    clear hneg hb
    go_enter Tryd.func64, Tryd.ntmps64
    go_wp2_with (first | (go_at_call 113; refine (slices_Clone_Field.calls _ _ l0 l0 _ HR.out HC0.out HCL.out).mono ?_; rintro e w1 ⟨v1, rfl, ho, hb⟩; have HO1 := Aside0.mk ho; have HB1 := Aside0.mk hb; clear ho hb) | (go_at_call 102; refine (impl_fieldAt.calls _ _ l0 a1 _ _ (Kd.C_below HR.out HB1.out) HC0.out HAT.out).mono ?_; rintro e w2 ⟨rfl, hb⟩; have HB2 := Aside0.mk hb; clear hb))
    go_ret
    exact ⟨_, rfl, by rw [HRR.out, if_pos (by rw [← HJ.out]; exact HNEG.out)]; exact Kd.R_below HO1.out HB2.out, below_then HB1.out HB1.out.size HB2.out⟩
  · obtain ⟨i, rfl⟩ : ∃ i : Nat, j = (i : Int) := ⟨j.toNat, by omega⟩
    have hi : i < l0.length := by omega
    have hd : decide ((0 : Int) ≤ (i : Int)) = true := by simp
    have hbi : (i : Int) ≤ 4398046511104 := by have := HN.out; omega
    have HI := Aside0.mk hi
    clear hneg hb hi
    go_enter Tryd.func64, Tryd.ntmps64
    go_wp2_with (first | (go_at_call 113; refine (slices_Clone_Field.calls _ _ l0 l0 _ HR.out HC0.out HCL.out).mono ?_; rintro e w1 ⟨v1, rfl, ho, hb⟩; obtain ⟨g1, cap1, rfl, hg1, _⟩ := Kd.R_form ho (Nat.lt_of_le_of_lt (Nat.zero_le _) HI.out); have HO1 := Aside0.mk ho; have HB1 := Aside0.mk hb; clear ho hb hg1) | (go_at_call 102; refine (impl_fieldAt.calls _ _ l0 a1 _ _ (Kd.C_below HR.out HB1.out) HC0.out HAT.out).mono ?_; rintro e w2 ⟨rfl, hb⟩; have HB2 := Aside0.mk hb; clear hb) | (go_at_call 114; refine (deleteF w w.heap.size g1 cap1 i l0 _ (Kd.R_below HO1.out HB2.out) HI.out HN.out (below_then HB1.out HB1.out.size HB2.out) (below_size (below_then HB1.out HB1.out.size HB2.out))).mono ?_; rintro e w3 ⟨v3, rfl, ho, hb⟩; have HO3 := Aside0.mk ho; have HB3 := Aside0.mk hb; clear ho hb))
    go_ret
    exact ⟨_, rfl, by rw [HRR.out, if_neg (by rw [← HJ.out]; omega), ← HJ.out, Int.toNat_natCast]; exact HO3.out, HB3.out⟩

/-! ### spec_Get: function 66 -/
def spec_Get.f (k : Nat) (l0 : List (S78)) (a1 : ByteArray) : Option (ByteArray × Bool) := (spec_l2At.f k l0 a1).bind fun t780 => (if t780 < 0 then (some ((⟨#[]⟩ : ByteArray), false)) else (if 0 ≤ t780 then (if t780 < (l0.length : Int) then (some ((rd_T78 l0 t780).f1, true)) else (none)) else (none)))
theorem spec_Get.mono : ∀ a0 a1 k, LeO (spec_Get.f k a0 a1) (spec_Get.f (k + 1) a0 a1) := by
  intro a0 a1 k
  unfold spec_Get.f
  repeat' first
      | (with_reducible exact spec_l2At.mono _ _ _)
      | (with_reducible exact LeO.refl _)
      | (with_reducible exact LeO.none _)
      | (with_reducible refine LeO.ite ?_ ?_)
      | (with_reducible refine LeO.bind ?_ (fun _ => ?_))
      | exact spec_l2At.mono _ _ _
      | exact LeO.none _
      | refine LeO.ite ?_ ?_
      | refine LeO.bind ?_ (fun _ => ?_)
set_option maxHeartbeats 8000000 in
set_option maxRecDepth 100000 in
theorem spec_Get.calls (k : Nat) (A0 : Option Addr) (c0 : Nat) (l0 : List (S78)) (a1 : ByteArray) (r1 : ByteArray) (r2 : Bool) (w : World) (hr0 : Kd.C k78 w A0 l0.length l0) (hc0 : l0.length ≤ c0) (h : spec_Get.f k l0 a1 = some (r1, r2)) :
    Calls Tryd.prog 66 #[.slice A0 l0.length c0, .string a1] w fun e w' => e = .returned (.tuple #[.string r1, .bool r2]) ∧ Drawn0 w w' := by
  have HR0 := Aside0.mk hr0
  have HC0 := Aside0.mk hc0
  clear hr0 hc0
  have H : ((spec_l2At.f k l0 a1).bind fun t780 => (if t780 < 0 then (some ((⟨#[]⟩ : ByteArray), false)) else (if 0 ≤ t780 then (if t780 < (l0.length : Int) then (some ((rd_T78 l0 t780).f1, true)) else (none)) else (none)))) = some (r1, r2) := h
  clear h
  replace H := Option.bind_eq_some_iff.mp H
  obtain ⟨t780, A30, H⟩ := H
  replace H : (if t780 < 0 then (some ((⟨#[]⟩ : ByteArray), false)) else (if 0 ≤ t780 then (if t780 < (l0.length : Int) then (some ((rd_T78 l0 t780).f1, true)) else (none)) else (none))) = some (r1, r2) := H
  have A3 := Aside0.mk A30
  clear A30
  by_cases c4 : t780 < 0
  · rw [if_pos c4] at H
    have c4b0 : decide (t780 < 0) = true := decide_eq_true c4
    clear c4
    simp only [Option.some.injEq, Prod.mk.injEq] at H
    obtain ⟨rfl, rfl⟩ := H
    go_enter Tryd.func66, Tryd.ntmps66
    go_wp2_with (first | ((with_reducible refine gate_callee (f := 100) rfl ?_); refine goesL_ (some 9) rfl rfl Tryd.func100 (by kernel_rfl) rfl #[.slice A0 l0.length c0, .string a1] rfl ma ?_; (with_reducible refine (spec_l2At.calls k _ _ l0 a1 t780 _ ?side1 ?side2 A3.out).mono ?_); (case side1 => repeat (first | exact HR0.out | (with_reducible refine Kd.C_alloc ?_ _) | (with_reducible refine Kd.C_drewN ?_ _) | (with_reducible refine Kd.C_drew ?_))); (case side2 => exact HC0.out); rintro e w' ⟨rfl, ⟨nd, rfl⟩⟩; refine ⟨_, rfl, ?_⟩))
    go_ret2
    exact ⟨by first | rfl | (simp; done) | (simp [*]; done), by repeat (first | exact Drawn0.refl _ | apply Drawn0.step)⟩
  · rw [if_neg c4] at H
    have c4b0 : decide (t780 < 0) = false := decide_eq_false c4
    clear c4
    by_cases c5 : 0 ≤ t780
    · rw [if_pos c5] at H
      have c5b0 : decide (0 ≤ t780) = true := decide_eq_true c5
      clear c5
      by_cases c6 : t780 < (l0.length : Int)
      · rw [if_pos c6] at H
        have c6b0 : decide (t780 < (l0.length : Int)) = true := decide_eq_true c6
        clear c6
        simp only [Option.some.injEq, Prod.mk.injEq] at H
        obtain ⟨rfl, rfl⟩ := H
        go_enter Tryd.func66, Tryd.ntmps66
        go_wp2_with (first | ((with_reducible refine gate_callee (f := 100) rfl ?_); refine goesL_ (some 9) rfl rfl Tryd.func100 (by kernel_rfl) rfl #[.slice A0 l0.length c0, .string a1] rfl ma ?_; (with_reducible refine (spec_l2At.calls k _ _ l0 a1 t780 _ ?side1 ?side2 A3.out).mono ?_); (case side1 => repeat (first | exact HR0.out | (with_reducible refine Kd.C_alloc ?_ _) | (with_reducible refine Kd.C_drewN ?_ _) | (with_reducible refine Kd.C_drew ?_))); (case side2 => exact HC0.out); rintro e w' ⟨rfl, ⟨nd, rfl⟩⟩; refine ⟨_, rfl, ?_⟩; have p781 : 0 ≤ (t780 : Int) := of_decide_eq_true (by first | (with_reducible assumption) | assumption); have q781 : t780 < (l0.length : Int) := of_decide_eq_true (by first | (with_reducible assumption) | assumption); obtain ⟨ad781, e781, hx781_0, hx781_1⟩ := at_T78 HR0.out t780 p781 q781; cases e781; replace p781 := eq_true p781; replace q781 := eq_true q781))
        go_ret2
        exact ⟨by first | rfl | (simp; done) | (simp [*]; done), by repeat (first | exact Drawn0.refl _ | apply Drawn0.step)⟩
      · rw [if_neg c6] at H
        exact absurd H (by simp)
    · rw [if_neg c5] at H
      exact absurd H (by simp)

/-! ### spec_Drop: function 67 -/
def spec_Drop.l0 : Nat → List (S78) → Int → List (S78) → Int → Option ((List (S78)))
  | 0, _, _, _, _ => none
  | k + 1, x0, x5, x6, x7 => if x7 < (x0.length : Int) then (if x7 = x5 then (spec_Drop.l0 k x0 x5 x6 (wrap64 (x7 + 1))) else (if 0 ≤ x7 then (if x6.length < 4398046511104 then (spec_Drop.l0 k x0 x5 (x6 ++ [(⟨(rd_T78 x0 x7).f0, (rd_T78 x0 x7).f1⟩ : S78)]) (wrap64 (x7 + 1))) else (none)) else (none))) else (some x6)
def spec_Drop.f (k : Nat) (l0 : List (S78)) (a1 : ByteArray) : Option ((List (S78))) := (spec_l2At.f k l0 a1).bind fun t782 => (spec_Drop.l0 k l0 t782 (([] : List (S78))) 0)
theorem spec_Drop.mono_l : ∀ k, (∀ y0 y1 y2 y3, LeO (spec_Drop.l0 k y0 y1 y2 y3) (spec_Drop.l0 (k + 1) y0 y1 y2 y3))
  | 0 => fun _ _ _ _ r h => by simp [spec_Drop.l0] at h
  | k + 1 => by
    have ih0 := spec_Drop.mono_l k
    · intro y0 y1 y2 y3
      unfold spec_Drop.l0
      repeat' first
      | (with_reducible exact ih0 _ _ _ _)
      | (with_reducible exact spec_l2At.mono _ _ _)
      | (with_reducible exact LeO.refl _)
      | (with_reducible exact LeO.none _)
      | (with_reducible refine LeO.ite ?_ ?_)
      | (with_reducible refine LeO.bind ?_ (fun _ => ?_))
      | exact ih0 _ _ _ _
      | exact spec_l2At.mono _ _ _
      | exact LeO.none _
      | refine LeO.ite ?_ ?_
      | refine LeO.bind ?_ (fun _ => ?_)
theorem spec_Drop.mono : ∀ a0 a1 k, LeO (spec_Drop.f k a0 a1) (spec_Drop.f (k + 1) a0 a1) := by
  intro a0 a1 k
  have ih0 := spec_Drop.mono_l k
  unfold spec_Drop.f
  repeat' first
      | (with_reducible exact ih0 _ _ _ _)
      | (with_reducible exact spec_l2At.mono _ _ _)
      | (with_reducible exact LeO.refl _)
      | (with_reducible exact LeO.none _)
      | (with_reducible refine LeO.ite ?_ ?_)
      | (with_reducible refine LeO.bind ?_ (fun _ => ?_))
      | exact ih0 _ _ _ _
      | exact spec_l2At.mono _ _ _
      | exact LeO.none _
      | refine LeO.ite ?_ ?_
      | refine LeO.bind ?_ (fun _ => ?_)
set_option maxHeartbeats 8000000 in
set_option maxRecDepth 100000 in
theorem spec_Drop.calls (k : Nat) (A0 : Option Addr) (c0 : Nat) (l0 : List (S78)) (a1 : ByteArray) (r : List (S78)) (w : World) (hr0 : Kd.C k78 w A0 l0.length l0) (hc0 : l0.length ≤ c0) (h : spec_Drop.f k l0 a1 = some r) :
    Calls Tryd.prog 67 #[.slice A0 l0.length c0, .string a1] w fun e w' => ∃ v0_ : Value, e = .returned (v0_) ∧ Kd.R k78 78 w' w.heap.size (fun _ => True) v0_ r ∧ Below w.heap.size w w' := by
  have hu78 := Tryd.underlying78
  have HR0 := Aside0.mk hr0
  have HC0 := Aside0.mk hc0
  clear hr0 hc0
  have HB := Aside0.mk (Below.refl w.heap.size w)
  have H : ((spec_l2At.f k l0 a1).bind fun t782 => (spec_Drop.l0 k l0 t782 (([] : List (S78))) 0)) = some r := h
  clear h
  replace H := Option.bind_eq_some_iff.mp H
  obtain ⟨t782, A30, H⟩ := H
  replace H : (spec_Drop.l0 k l0 t782 (([] : List (S78))) 0) = some r := H
  have A3 := Aside0.mk A30
  clear A30
  obtain ⟨y783, hy783⟩ : ∃ y_ : List (S78), y_ = (([] : List (S78))) := ⟨_, rfl⟩
  replace H : (spec_Drop.l0 k l0 t782 y783 0) = some r := by first | (rw [hy783]; with_reducible exact H) | (have H2_ := (Option.bind_some _ _).symm.trans H; rw [hy783]; with_reducible exact H2_) | (have H2_ := (Option.bind_some _ _).symm.trans H; with_reducible exact H2_) | with_reducible exact H | (rw [hy783]; exact H) | exact H
  have Ny783 := Aside0.mk hy783
  clear hy783
  have H' := Aside0.mk H
  clear H
  go_enter Tryd.func67, Tryd.ntmps67
  go_wp2_with (first | ((with_reducible refine gate_callee (f := 100) rfl ?_); refine goesL_ (some 10) rfl rfl Tryd.func100 (by kernel_rfl) rfl #[.slice A0 l0.length c0, .string a1] rfl ma ?_; (with_reducible refine (spec_l2At.calls k _ _ l0 a1 t782 _ ?side1 ?side2 A3.out).mono ?_); (case side1 => repeat (first | exact HR0.out | (with_reducible refine Kd.C_alloc ?_ _) | (with_reducible refine Kd.C_drewN ?_ _) | (with_reducible refine Kd.C_drew ?_))); (case side2 => exact HC0.out); rintro e w' ⟨rfl, ⟨nd, rfl⟩⟩; refine ⟨_, rfl, ?_⟩) | ((with_reducible refine gate_dst (N := 11) rfl ?_); refine Kd.R_lit k78 _ 78 ?hg (N := 11) ?hd (xs := ([] : List (S78))) (inner := []) (ok := fun _ => True) (okp := fun _ => True) ?hr ?hp (fun _ hk => hk) trivial (Below.refl _ _) (Nat.le_refl _) (by simp) ?_; (case hd => rfl); (case hg => rfl); (case hr => first | (go_simp; done) | (go_simp; rfl)); (case hp => exact (Reps.none _ _)); intro v784 w4 ho5 hb hg_ hnew_; clear hg_ hnew_; (first | rw [← Ny783.out] at ho5 | (simp only [Int.reduceToNat] at ho5; rw [← Ny783.out] at ho5)); have HO785 := Aside0.mk (Kd.R_lower ho5 (below_size bl)); replace HB := Aside0.mk (below_step bl hb); clear hb ho5))
  (try simp only [Act.put, List.setIfInBounds_toArray, List.set_cons_zero, List.set_cons_succ])
  go_loopg [6, 7] k (fun kq v6 v7 w' => ∃ (x6_1 : List (S78)) (x7_1 : Int), v7 = .int .i64 x7_1 ∧ Aside0 (spec_Drop.l0 kq l0 t782 x6_1 x7_1 = some r) ∧ Aside0 (kq ≤ k) ∧ Aside0 (Kd.R k78 78 w' w.heap.size (fun _ => True) v6 x6_1) ∧ Aside0 (Below w.heap.size w w'))
  case atStart => exact ⟨(y783), (0), (by first | rfl | (simp; done) | (simp [*]; done)), H', ⟨Nat.le_refl _⟩, ⟨by (with_reducible repeat (first | apply Kd.R_alloc | apply Kd.R_drewN | apply Kd.R_drew)); exact HO785.out⟩, ⟨by repeat (first | (with_reducible first | exact HB.out | apply below_alloc | apply pw_below_drewN | apply below_drew1) | exact HB.out)⟩⟩
  case round =>
    clear H'
    try clear c1
    try clear p2
    obtain ⟨x6_1, x7_1, rfl, HA, HK1, HO_6, HB⟩ := hrel
    cases gk with
    | zero => exact absurd HA.out (by simp [spec_Drop.l0])
    | succ k1 =>
      have H := HA.out
      clear HA
      simp only [spec_Drop.l0] at H
      by_cases c6 : x7_1 < (l0.length : Int)
      · rw [if_pos c6] at H
        have c6b0 : decide (x7_1 < (l0.length : Int)) = true := decide_eq_true c6
        clear c6
        by_cases c7 : x7_1 = t782
        · rw [if_pos c7] at H
          have c7b0 : (x7_1 == t782) = true := beq_iff_eq.mpr c7
          have c7b1 : (x7_1 != t782) = false := bne_eq_false_iff_eq.mpr c7
          clear c7
          have H' := Aside0.mk H
          clear H
          go_wp2
          go_roundg k1
          case measure => have := HK1.out; omega
          case rel => exact ⟨(x6_1), (wrap64 (x7_1 + 1)), (by first | rfl | (simp; done) | (simp [*]; done)), H', ⟨by have := HK1.out; omega⟩, ⟨by (with_reducible repeat (first | apply Kd.R_alloc | apply Kd.R_drewN | apply Kd.R_drew)); exact HO_6.out⟩, ⟨by repeat (first | (with_reducible first | exact HB.out | apply below_alloc | apply pw_below_drewN | apply below_drew1) | exact HB.out)⟩⟩
        · rw [if_neg c7] at H
          have c7b0 : (x7_1 == t782) = false := beq_eq_false_iff_ne.mpr c7
          have c7b1 : (x7_1 != t782) = true := bne_iff_ne.mpr c7
          by_cases c8 : 0 ≤ x7_1
          · rw [if_pos c8] at H
            have c8b0 : decide (0 ≤ x7_1) = true := decide_eq_true c8
            clear c8
            by_cases c9 : x6_1.length < 4398046511104
            · rw [if_pos c9] at H
              have LMc9 := Aside0.mk c9
              clear c9
              obtain ⟨y787, hy787⟩ : ∃ y_ : List (S78), y_ = (x6_1 ++ [(⟨(rd_T78 l0 x7_1).f0, (rd_T78 l0 x7_1).f1⟩ : S78)]) := ⟨_, rfl⟩
              replace H : (spec_Drop.l0 k1 l0 t782 y787 (wrap64 (x7_1 + 1))) = some r := by first | (rw [hy787]; with_reducible exact H) | (have H2_ := (Option.bind_some _ _).symm.trans H; rw [hy787]; with_reducible exact H2_) | (have H2_ := (Option.bind_some _ _).symm.trans H; with_reducible exact H2_) | with_reducible exact H | (rw [hy787]; exact H) | exact H
              have Ny787 := Aside0.mk hy787
              clear hy787
              have H' := Aside0.mk H
              clear H
              have p786 : 0 ≤ (x7_1 : Int) := of_decide_eq_true (by first | (with_reducible assumption) | assumption)
              have q786 : x7_1 < (l0.length : Int) := of_decide_eq_true (by first | (with_reducible assumption) | assumption)
              obtain ⟨ad786, e786, hx786_0, hx786_1⟩ := at_T78 HR0.out x7_1 p786 q786
              cases e786
              replace hx786_0 := (HB.out.cell (World.block_lt_of_cell? w _ hx786_0)).trans hx786_0
              replace hx786_1 := (HB.out.cell (World.block_lt_of_cell? w _ hx786_1)).trans hx786_1
              replace p786 := eq_true p786
              replace q786 := eq_true q786
              go_wp2_with (first | ((with_reducible refine gate_builtin (b := .append) (xs := #[.tmp 21, .tmp 26]) rfl ?_); at_builtin; refine Kd.R_append k78 (w0 := w) w.heap.size rfl (.tmp 21) (.tmp 26) 43 78 (.agg #[(.string ⟨#[]⟩), (.string ⟨#[]⟩)]) 32 rfl Tryd.underlying43 info78 rfl (by decide) (by omega) u6 x6_1 (⟨(rd_T78 l0 x7_1).f0, (rd_T78 l0 x7_1).f1⟩ : S78) [.string ((rd_T78 l0 x7_1).f0), .string ((rd_T78 l0 x7_1).f1)] (fun _ => True) (fun _ => False) rfl rfl ?aP (fun _ hk => hk.elim) ?aF ?aO ?aB ?aS ?aL ?_; (case aP => exact k78_mkM _ _ _ (⟨(rd_T78 l0 x7_1).f0, (rd_T78 l0 x7_1).f1⟩ : S78)); (case aB => exact bl); (case aF => exact (fun _ _ => trivial)); (case aO => exact (ro HO_6)); (case aS => exact (below_size bl)); (case aL => have := LMc9.out; omega); intro v788 w10 ho hb hg hat; rw [← Ny787.out] at ho; have n0_ := Aside0.mk (hb); have n1_ := Aside0.mk (ho); clear HB; clear HO_6; have HB := n0_; have HO789 := n1_; clear n0_ n1_; clear ho hb hg hat))
              go_roundg k1
              case measure => have := HK1.out; omega
              case rel => exact ⟨(y787), (wrap64 (x7_1 + 1)), (by first | rfl | (simp; done) | (simp [*]; done)), H', ⟨by have := HK1.out; omega⟩, ⟨by (with_reducible repeat (first | apply Kd.R_alloc | apply Kd.R_drewN | apply Kd.R_drew)); exact HO789.out⟩, ⟨by repeat (first | (with_reducible first | exact HB.out | apply below_alloc | apply pw_below_drewN | apply below_drew1) | exact HB.out)⟩⟩
            · rw [if_neg c9] at H
              exact absurd H (by simp)
          · rw [if_neg c8] at H
            exact absurd H (by simp)
      · rw [if_neg c6] at H
        have c6b0 : decide (x7_1 < (l0.length : Int)) = false := decide_eq_false c6
        clear c6
        obtain rfl := Option.some.inj H
        go_wp2
        go_ret
        exact ⟨_, rf, by (with_reducible repeat (first | apply Kd.R_alloc | apply Kd.R_drewN | apply Kd.R_drew)); exact HO_6.out, bl⟩

end Go.Proofs.YtogdmlgbdbgpkaaDoor.All
