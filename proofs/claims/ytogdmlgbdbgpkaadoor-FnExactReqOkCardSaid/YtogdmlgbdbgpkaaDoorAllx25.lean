-- Written by a program of this session (wip/tools/hprint.py) out of the translation. Lean checks it.
import Derived.Test.YtogdmlgbdbgpkaaDoorAllx0
import Derived.Test.YtogdmlgbdbgpkaaDoorAllx8
import Derived.Test.YtogdmlgbdbgpkaaDoorAllx13
import Derived.Test.YtogdmlgbdbgpkaaDoorAllx20
import Derived.Test.YtogdmlgbdbgpkaaDoorAllx21
import Derived.Test.YtogdmlgbdbgpkaaDoorAllx24
namespace Go.Proofs.YtogdmlgbdbgpkaaDoor.All
open Go.RowKit Go.Proofs.YtogdmlgbdbgpkaaDoorW.PrintWords Go.Proofs.YtogdmlgbdbgpkaaDoorW.PrintLast Go.Proofs.YtogdmlgbdbgpkaaDoorW.PrintMore
attribute [local go_sem] max2_int min2_int max_two min_two max_three min_three max_four min_four   -- for this text's walks alone
set_option linter.unusedVariables false
set_option linter.unusedSimpArgs false

/-! ### slices.Delete of one field of a row of the call's own, in place -/
/-- a store behind a row's last element (its capacity reaches further) turns nothing of it -/
theorem R_beyond {α : Type} {d : Kd α} {e base g m c j : Nat} {ok : Nat → Prop} {W : World} {xs : List α} (h : Kd.R d e W base ok (.slice (some ⟨g, 0, none⟩) m c) xs) (hj : m * d.sz ≤ j) (u : Value) : Kd.R d e (W.setCell ⟨g, j, none⟩ u) base ok (.slice (some ⟨g, 0, none⟩) m c) xs := by
  obtain ⟨hm, _, _⟩ := Kd.R_reads' h
  obtain ⟨hok, inner, ⟨hl, hown⟩, hr⟩ := h
  refine ⟨hok, inner, ⟨hl, ?_⟩, hr.imp_ (fun _ _ hp => Kd.M_far (p := ⟨g, j, none⟩) hp (fun k hk e => hk.2 (by rw [e]; rfl)) u)⟩
  rcases hown with ⟨hv, _⟩ | ⟨g', cap, cur, hv, hb, hh, h1, h2, h3, h4⟩
  · cases hv
  injection hv with ha _ hc
  injection ha with ha
  injection ha with hg
  subst hg; subst hc
  refine .inr ⟨g, c, cur.setIfInBounds j u, by rw [← hm], hb, blk_set hh j u, h1, h2, by simpa using h3, ?_⟩
  rw [← h4, Array.toList_setIfInBounds, List.take_set_of_le (by rw [← hm]; omega)]
theorem R_cells {α : Type} {d : Kd α} {e base g m c : Nat} {ok : Nat → Prop} {W : World} {xs : List α} (h : Kd.R d e W base ok (.slice (some ⟨g, 0, none⟩) m c) xs) (j : Nat) (hj : j < c * d.sz) : (W.cell? ⟨g, j, none⟩).isSome = true ∧ W.frozen? ⟨g, j, none⟩ = false ∧ base ≤ g := by
  obtain ⟨_, inner, ⟨hl, hown⟩, hr⟩ := h
  rcases hown with ⟨hv, _⟩ | ⟨g', cap, cur, hv, hb, hh, h1, h2, h3, h4⟩
  · cases hv
  injection hv with ha _ hc
  injection ha with ha
  injection ha with hg
  subst hg; subst hc
  refine ⟨?_, blk_frozen hh j, hb⟩
  rw [blk_cell hh, Array.getElem?_eq_getElem (by omega)]; rfl
theorem clear_one (g n c' : Nat) (hn : 0 < n) (w : World) (h1 : (w.cell? ⟨g, (n - 1) * 2, none⟩).isSome = true ∧ w.frozen? ⟨g, (n - 1) * 2, none⟩ = false) (h2 : (w.cell? ⟨g, (n - 1) * 2 + 1, none⟩).isSome = true ∧ w.frozen? ⟨g, (n - 1) * 2 + 1, none⟩ = false) (ty : TypeId) :
    (Builtin.clear_ #[43] ty #[.slice (some ⟨g, (n - 1) * 2, none⟩) (n - (n - 1)) c']).run Tryd.prog w = .ok (.tuple #[]) ((w.setCell ⟨g, (n - 1) * 2, none⟩ (.string ⟨#[]⟩)).setCell ⟨g, (n - 1) * 2 + 1, none⟩ (.string ⟨#[]⟩)) := by
  have hst := run_storeCells_cells (P := Tryd.prog) g ((n - 1) * 2) [.string ⟨#[]⟩, .string ⟨#[]⟩] 0 w (by intro j hj; have hj' : j < 2 := hj; rcases j with _ | _ | j; exact h1.1; exact h2.1; omega) (by intro j hj; have hj' : j < 2 := hj; rcases j with _ | _ | j; exact h1.2; exact h2.2; omega) (by simp [Value.oneCell'])
  have hz : (zeroValue 78).run Tryd.prog w = .ok (.agg #[.string ⟨#[]⟩, .string ⟨#[]⟩]) w := by kernel_rfl
  have hone : n - (n - 1) = 1 := by omega
  rw [hone]
  have hzc : (Builtin.zeroCells #[Value.string ⟨#[]⟩, Value.string ⟨#[]⟩] 1).toList = [Value.string ⟨#[]⟩, Value.string ⟨#[]⟩] := by kernel_rfl
  simp only [Builtin.clear_]
  simp [run_underlying Tryd.underlying43, hz, Value.cells, hzc, hst]
  rfl
set_option maxHeartbeats 8000000 in
set_option maxRecDepth 100000 in
theorem deleteF (w0 : World) (base g c i : Nat) (xs : List S78) (W : World) (HO : Kd.R k78 78 W base (fun _ => True) (.slice (some ⟨g, 0, none⟩) xs.length c) xs) (hi : i < xs.length) (hn : xs.length < 4398046511104) (HB : Below base w0 W) (hbase : base ≤ W.heap.size) :
    Calls Tryd.prog 114 #[.slice (some ⟨g, 0, none⟩) xs.length c, .int .i64 i, .int .i64 ((i : Int) + 1)] W fun e w' => ∃ v0_ : Value, e = .returned v0_ ∧ Kd.R k78 78 w' base (fun _ => True) v0_ (xs.eraseIdx i) ∧ Below base w0 w' := by
  obtain ⟨_, hc, _⟩ := Kd.R_reads' HO
  have HOA := Aside0.mk HO
  have HBA := Aside0.mk HB
  clear HO HB
  have h0 : (0 : Int) ≤ (i : Int) := by omega
  have h1 : (i : Int) ≤ (i : Int) + 1 := by omega
  have h2 : (i : Int) + 1 ≤ (xs.length : Int) := by omega
  have h3 : (xs.length : Int) ≤ (c : Int) := by omega
  have hne : ((i : Int) == (i : Int) + 1) = false := by simp; omega
  go_enter Tryd.func114, Tryd.ntmps114
  go_wp2
  have h4 : (0 : Int) ≤ (i : Int) + 1 := by omega
  have HNE := Aside0.mk hn
  clear hn
  by_cases hci : c = i + 1
  · subst hci
    go_region_law ((refine Kd.R_delete_step k78 (w0 := w0) base ?hw (.tmp 22) (.tmp 25) 43 78 rfl Tryd.underlying43 (by kernel_rfl) (g := g) (n := xs.length) (c := i + 1) (k := i) rfl rfl ?hA ?hm (Kd.R_drew HOA.out) hi (below_drew HBA.out) hbase ?_); (case hw => rfl); (case hA => simp); (case hm => omega); intro w1 ho hb hg; have HO1 := Aside0.mk ho; have HB1 := Aside0.mk hb; have HG1 := Aside0.mk hg; clear ho hb hg)
    have q1 := R_cells HO1.out ((xs.length - 1) * 2) (by show _ < (i + 1) * 2; omega)
    have q2 := R_cells HO1.out ((xs.length - 1) * 2 + 1) (by show _ < (i + 1) * 2; omega)
    have kcl := clear_one g xs.length ((i + 1) - (xs.length - 1)) (by omega) w1 ⟨q1.1, q1.2.1⟩ ⟨q2.1, q2.2.1⟩
    have HQ := Aside0.mk q1.2.2
    clear q1 q2
    have k1 : (0 : Int) ≤ ((xs.length - 1 : Nat) : Int) := by omega
    have k2 : ((xs.length - 1 : Nat) : Int) ≤ (xs.length : Int) := by omega
    go_wp2
    go_ret
    exact ⟨_, rfl, R_beyond (R_beyond HO1.out (by show (xs.length - 1) * 2 ≤ _; omega) _) (by show (xs.length - 1) * 2 ≤ _; omega) _, (HB1.out.setCell (p := ⟨g, (xs.length - 1) * 2, none⟩) HQ.out _).setCell (p := ⟨g, (xs.length - 1) * 2 + 1, none⟩) HQ.out _⟩
  · have hcf : (c == i + 1) = false := by simpa using hci
    have HC := Aside0.mk hci
    have hic : i ≤ c := by omega
    go_region_law ((refine Kd.R_delete_step k78 (w0 := w0) base ?hw (.tmp 22) (.tmp 25) 43 78 rfl Tryd.underlying43 (by kernel_rfl) (g := g) (n := xs.length) (c := c) (k := i) rfl rfl ?hA ?hm (Kd.R_drew HOA.out) hi (below_drew HBA.out) hbase ?_); (case hw => rfl); (case hA => rw [if_neg HC.out, Option.map_some, add_plain]; rfl); (case hm => first | rfl | omega); intro w1 ho hb hg; have HO1 := Aside0.mk ho; have HB1 := Aside0.mk hb; have HG1 := Aside0.mk hg; clear ho hb hg)
    have q1 := R_cells HO1.out ((xs.length - 1) * 2) (by show _ < c * 2; omega)
    have q2 := R_cells HO1.out ((xs.length - 1) * 2 + 1) (by show _ < c * 2; omega)
    have kcl := clear_one g xs.length (c - (xs.length - 1)) (by omega) w1 ⟨q1.1, q1.2.1⟩ ⟨q2.1, q2.2.1⟩
    have HQ := Aside0.mk q1.2.2
    clear q1 q2
    have k1 : (0 : Int) ≤ ((xs.length - 1 : Nat) : Int) := by omega
    have k2 : ((xs.length - 1 : Nat) : Int) ≤ (xs.length : Int) := by omega
    go_wp2
    go_ret
    exact ⟨_, rfl, R_beyond (R_beyond HO1.out (by show (xs.length - 1) * 2 ≤ _; omega) _) (by show (xs.length - 1) * 2 ≤ _; omega) _, (HB1.out.setCell (p := ⟨g, (xs.length - 1) * 2, none⟩) HQ.out _).setCell (p := ⟨g, (xs.length - 1) * 2 + 1, none⟩) HQ.out _⟩

/-! ### impl.Drop -/
def impl_Drop.f (l0 : List S78) (a1 : ByteArray) : Option (List S78) := if l0.length < 4398046511104 then some (if at_ a1 l0 0 < 0 then l0 else l0.eraseIdx (at_ a1 l0 0).toNat) else none
theorem at_bounds (n : ByteArray) : ∀ (l : List S78) (i : Nat), at_ n l i = -1 ∨ ((i : Int) ≤ at_ n l i ∧ at_ n l i < (i : Int) + l.length)
  | [], i => .inl rfl
  | x :: r, i => by
    simp only [at_]
    split
    · exact .inr ⟨Int.le_refl _, by simp; omega⟩
    · rcases at_bounds n r (i + 1) with h | h
      · exact .inl h
      · exact .inr ⟨by omega, by simp; omega⟩
set_option maxHeartbeats 8000000 in
set_option maxRecDepth 100000 in
theorem impl_Drop.calls (A0 : Option Addr) (c0 : Nat) (l0 : List (S78)) (a1 : ByteArray) (r : List S78) (w : World) (hr0 : Kd.C k78 w A0 l0.length l0) (hc0 : l0.length ≤ c0) (h : impl_Drop.f l0 a1 = some r) :
    Calls Tryd.prog 64 #[.slice A0 l0.length c0, .string a1] w fun e w' => ∃ v0_ : Value, e = .returned v0_ ∧ Kd.R k78 78 w' w.heap.size (fun _ => True) v0_ r ∧ Below w.heap.size w w' := by
  unfold impl_Drop.f at h
  split at h
  case isFalse => cases h
  rename_i hl
  have HRR := Aside0.mk (Option.some.inj h).symm
  have HN := Aside0.mk hl
  have HR := Aside0.mk hr0
  have HC0 := Aside0.mk hc0
  have hcl : slices_Clone_Field.f l0 = some l0 := by unfold slices_Clone_Field.f; rw [if_pos hl]
  have hat : impl_fieldAt.f l0 a1 = some (at_ a1 l0 0) := by unfold impl_fieldAt.f; rw [if_pos hl]
  have HCL := Aside0.mk hcl
  have HAT := Aside0.mk hat
  have hb := at_bounds a1 l0 0
  clear h hl hr0 hc0 hcl hat
  obtain ⟨j, hj⟩ : ∃ j, j = at_ a1 l0 0 := ⟨_, rfl⟩
  rw [← hj] at hb
  have HJ := Aside0.mk hj
  rw [HJ.out.symm] at HAT
  clear hj
  by_cases hneg : j < 0
  · have hd : decide (0 ≤ j) = false := by simpa using hneg
    have HNEG := Aside0.mk hneg
    clear hneg hb
    go_enter Tryd.func64, Tryd.ntmps64
    go_wp2_with (first | (go_at_call 113; refine (slices_Clone_Field.calls _ _ l0 l0 _ HR.out HC0.out HCL.out).mono ?_; rintro e w1 ⟨v1, rfl, ho, hb⟩; have HO1 := Aside0.mk ho; have HB1 := Aside0.mk hb; clear ho hb) | (go_at_call 102; refine (impl_fieldAt.calls _ _ l0 a1 _ _ (Kd.C_below HR.out HB1.out) HC0.out HAT.out).mono ?_; rintro e w2 ⟨rfl, hb⟩; have HB2 := Aside0.mk hb; clear hb))
    go_ret
    exact ⟨_, rfl, by rw [HRR.out, if_pos (by rw [← HJ.out]; exact HNEG.out)]; exact Kd.R_below HO1.out HB2.out, below_then HB1.out HB1.out.size HB2.out⟩
  · obtain ⟨i, rfl⟩ : ∃ i : Nat, j = (i : Int) := ⟨j.toNat, by omega⟩
    have hi : i < l0.length := by omega
    have hd : decide ((0 : Int) ≤ (i : Int)) = true := by simp
    have hbi : (i : Int) ≤ 4398046511104 := by have := HN.out; omega
    have HI := Aside0.mk hi
    clear hneg hb hi
    go_enter Tryd.func64, Tryd.ntmps64
    go_wp2_with (first | (go_at_call 113; refine (slices_Clone_Field.calls _ _ l0 l0 _ HR.out HC0.out HCL.out).mono ?_; rintro e w1 ⟨v1, rfl, ho, hb⟩; obtain ⟨g1, cap1, rfl, hg1, _⟩ := Kd.R_form ho (Nat.lt_of_le_of_lt (Nat.zero_le _) HI.out); have HO1 := Aside0.mk ho; have HB1 := Aside0.mk hb; clear ho hb hg1) | (go_at_call 102; refine (impl_fieldAt.calls _ _ l0 a1 _ _ (Kd.C_below HR.out HB1.out) HC0.out HAT.out).mono ?_; rintro e w2 ⟨rfl, hb⟩; have HB2 := Aside0.mk hb; clear hb) | (go_at_call 114; refine (deleteF w w.heap.size g1 cap1 i l0 _ (Kd.R_below HO1.out HB2.out) HI.out HN.out (below_then HB1.out HB1.out.size HB2.out) (below_size (below_then HB1.out HB1.out.size HB2.out))).mono ?_; rintro e w3 ⟨v3, rfl, ho, hb⟩; have HO3 := Aside0.mk ho; have HB3 := Aside0.mk hb; clear ho hb))
    go_ret
    exact ⟨_, rfl, by rw [HRR.out, if_neg (by rw [← HJ.out]; omega), ← HJ.out, Int.toNat_natCast]; exact HO3.out, HB3.out⟩

/-! ### spec_DrawGet: function 65 -/
def spec_DrawGet.f (k : Nat) (l0 : List Int) : Option ((List (S78)) × ByteArray) := (spec_l1New.f k l0).bind fun bt768 => ((spec_l2Draw.f k bt768.1 bt768.2.1 bt768.2.2).bind fun bt772 => ((spec_l2DrawName.f bt768.1 bt772.2.1 bt772.2.2).bind fun bt777 => (some (bt772.1, bt777.1))))
theorem spec_DrawGet.mono : ∀ a0 k, LeO (spec_DrawGet.f k a0) (spec_DrawGet.f (k + 1) a0) := by
  intro a0 k
  unfold spec_DrawGet.f
  repeat' first
      | (with_reducible exact spec_l1New.mono _ _)
      | (with_reducible exact spec_l2Draw.mono _ _ _ _)
      | (with_reducible exact LeO.refl _)
      | (with_reducible exact LeO.none _)
      | (with_reducible refine LeO.ite ?_ ?_)
      | (with_reducible refine LeO.bind ?_ (fun _ => ?_))
      | exact spec_l1New.mono _ _
      | exact spec_l2Draw.mono _ _ _ _
      | exact LeO.none _
      | refine LeO.ite ?_ ?_
      | refine LeO.bind ?_ (fun _ => ?_)
set_option maxHeartbeats 8000000 in
set_option maxRecDepth 100000 in
theorem spec_DrawGet.calls (k : Nat) (A0 : Option Addr) (c0 : Nat) (l0 : List Int) (r1 : List (S78)) (r2 : ByteArray) (w : World) (hr0 : Kd.C (Kd.int .u8) w A0 l0.length l0) (hc0 : l0.length ≤ c0) (h : spec_DrawGet.f k l0 = some (r1, r2)) :
    Calls Tryd.prog 65 #[.slice A0 l0.length c0] w fun e w' => ∃ v0_ : Value, e = .returned (.tuple #[v0_, .string r2]) ∧ Kd.R k78 78 w' w.heap.size (fun _ => True) v0_ r1 ∧ Below w.heap.size w w' := by
  have HR0 := Aside0.mk hr0
  have HC0 := Aside0.mk hc0
  clear hr0 hc0
  have HB := Aside0.mk (Below.refl w.heap.size w)
  have H : ((spec_l1New.f k l0).bind fun bt768 => ((spec_l2Draw.f k bt768.1 bt768.2.1 bt768.2.2).bind fun bt772 => ((spec_l2DrawName.f bt768.1 bt772.2.1 bt772.2.2).bind fun bt777 => (some (bt772.1, bt777.1))))) = some (r1, r2) := h
  clear h
  replace H := Option.bind_eq_some_iff.mp H
  obtain ⟨⟨t768, t769, t770⟩, A20, H⟩ := H
  replace H : ((spec_l2Draw.f k t768 t769 t770).bind fun bt772 => ((spec_l2DrawName.f t768 bt772.2.1 bt772.2.2).bind fun bt777 => (some (bt772.1, bt777.1)))) = some (r1, r2) := H
  have A2 := Aside0.mk A20
  clear A20
  replace H := Option.bind_eq_some_iff.mp H
  obtain ⟨⟨t772, t775, t776⟩, A30, H⟩ := H
  replace H : ((spec_l2DrawName.f t768 t775 t776).bind fun bt777 => (some (t772, bt777.1))) = some (r1, r2) := H
  have A3 := Aside0.mk A30
  clear A30
  replace H := Option.bind_eq_some_iff.mp H
  obtain ⟨⟨t777, t778, t779⟩, A40, H⟩ := H
  replace H : (some (t772, t777)) = some (r1, r2) := H
  have A4 := Aside0.mk A40
  clear A40
  simp only [Option.some.injEq, Prod.mk.injEq] at H
  obtain ⟨rfl, rfl⟩ := H
  go_enter Tryd.func65, Tryd.ntmps65
  go_wp2_with (first | ((with_reducible refine gate_callee (f := 92) rfl ?_); refine goesL_ (some 7) rfl rfl Tryd.func92 (by kernel_rfl) rfl #[.slice A0 l0.length c0] rfl ma ?_; (with_reducible refine (spec_l1New.calls k _ _ l0 t768 t769 t770 w _ ?side1 ?side2 ?side3 A2.out).mono ?_); (case side1 => repeat (first | (with_reducible first | exact HB.out | apply below_alloc | apply pw_below_drewN | apply below_drew1) | exact HB.out)); (case side2 => exact HR0.out); (case side3 => exact HC0.out); rintro e w5 ⟨g771, rfl, hi, hb, hb2⟩; refine ⟨_, rfl, ?_⟩; replace HB := Aside0.mk (hb); have HI771 := Aside0.mk (hi); (try clear hb); (try clear hb2); (try clear hk); (try clear hi)) | ((with_reducible refine gate_callee (f := 111) rfl ?_); refine goesL_ (some 9) rfl rfl Tryd.func111 (by kernel_rfl) rfl #[.pointer (some ⟨g771, 0, none⟩)] rfl ma ?_; (with_reducible refine (spec_l2Draw.calls k g771 t768 t769 t770 t772 t775 t776 w _ ?side1 ?side2 A3.out).mono ?_); (case side1 => repeat (first | (with_reducible first | exact HI771.out | apply IsS132.alloc | apply IsS132.drewN | apply IsS132.drew | apply IsS132.set_1 | apply IsS132.set_2) | exact HI771.out)); (case side2 => repeat (first | (with_reducible first | exact HB.out | apply below_alloc | apply pw_below_drewN | apply below_drew1 | refine below_set ?_ (IsS132.ge HI771.out)) | exact HB.out)); rintro e w6 ⟨v773, rfl, ho0, hi, hb, hk⟩; refine ⟨_, rfl, ?_⟩; have HO774 := Aside0.mk (Kd.R_lower ho0 (below_size (by repeat (first | (with_reducible first | exact HB.out | apply below_alloc | apply pw_below_drewN | apply below_drew1 | refine below_set ?_ (IsS132.ge HI771.out)) | exact HB.out)))); replace HB := Aside0.mk (hb); replace HI771 := Aside0.mk (hi); (try clear hb); (try clear hb2); (try clear hk); (try clear hi); (try clear ho0)) | ((with_reducible refine gate_callee (f := 112) rfl ?_); refine goesL_ (some 12) rfl rfl Tryd.func112 (by kernel_rfl) rfl #[.pointer (some ⟨g771, 0, none⟩)] rfl ma ?_; (with_reducible refine (spec_l2DrawName.calls g771 t768 t775 t776 t777 t778 t779 w _ ?side1 ?side2 A4.out).mono ?_); (case side1 => repeat (first | (with_reducible first | exact HI771.out | apply IsS132.alloc | apply IsS132.drewN | apply IsS132.drew | apply IsS132.set_1 | apply IsS132.set_2) | exact HI771.out)); (case side2 => repeat (first | (with_reducible first | exact HB.out | apply below_alloc | apply pw_below_drewN | apply below_drew1 | refine below_set ?_ (IsS132.ge HI771.out)) | exact HB.out)); rintro e w7 ⟨rfl, hi, hb, hk⟩; refine ⟨_, rfl, ?_⟩; replace HO774 := Aside0.mk (Kd.R_mono (Kd.R_keep (IsS132.apart (show IsS132 w _ g771 t768 t775 t776 from by repeat (first | (with_reducible first | exact HI771.out | apply IsS132.alloc | apply IsS132.drewN | apply IsS132.drew | apply IsS132.set_1 | apply IsS132.set_2) | exact HI771.out)) (ro HO774) (by decide)) hk (fun _ h => h.2)) (fun _ h => h.1)); replace HB := Aside0.mk (hb); replace HI771 := Aside0.mk (hi); (try clear hb); (try clear hb2); (try clear hk); (try clear hi)))
  go_ret2
  exact ⟨_, rf, by (with_reducible repeat (first | apply Kd.R_alloc | apply Kd.R_drewN | apply Kd.R_drew)); exact HO774.out, by repeat (first | (with_reducible first | exact HB.out | apply below_alloc | apply pw_below_drewN | apply below_drew1 | refine below_set ?_ (IsS132.ge HI771.out)) | exact HB.out)⟩

/-! ### spec_Get: function 66 -/
def spec_Get.f (k : Nat) (l0 : List (S78)) (a1 : ByteArray) : Option (ByteArray × Bool) := (spec_l2At.f k l0 a1).bind fun t780 => (if t780 < 0 then (some ((⟨#[]⟩ : ByteArray), false)) else (if 0 ≤ t780 then (if t780 < (l0.length : Int) then (some ((rd_T78 l0 t780).f1, true)) else (none)) else (none)))
theorem spec_Get.mono : ∀ a0 a1 k, LeO (spec_Get.f k a0 a1) (spec_Get.f (k + 1) a0 a1) := by
  intro a0 a1 k
  unfold spec_Get.f
  repeat' first
      | (with_reducible exact spec_l2At.mono _ _ _)
      | (with_reducible exact LeO.refl _)
      | (with_reducible exact LeO.none _)
      | (with_reducible refine LeO.ite ?_ ?_)
      | (with_reducible refine LeO.bind ?_ (fun _ => ?_))
      | exact spec_l2At.mono _ _ _
      | exact LeO.none _
      | refine LeO.ite ?_ ?_
      | refine LeO.bind ?_ (fun _ => ?_)
set_option maxHeartbeats 8000000 in
set_option maxRecDepth 100000 in
theorem spec_Get.calls (k : Nat) (A0 : Option Addr) (c0 : Nat) (l0 : List (S78)) (a1 : ByteArray) (r1 : ByteArray) (r2 : Bool) (w : World) (hr0 : Kd.C k78 w A0 l0.length l0) (hc0 : l0.length ≤ c0) (h : spec_Get.f k l0 a1 = some (r1, r2)) :
    Calls Tryd.prog 66 #[.slice A0 l0.length c0, .string a1] w fun e w' => e = .returned (.tuple #[.string r1, .bool r2]) ∧ Drawn0 w w' := by
  have HR0 := Aside0.mk hr0
  have HC0 := Aside0.mk hc0
  clear hr0 hc0
  have H : ((spec_l2At.f k l0 a1).bind fun t780 => (if t780 < 0 then (some ((⟨#[]⟩ : ByteArray), false)) else (if 0 ≤ t780 then (if t780 < (l0.length : Int) then (some ((rd_T78 l0 t780).f1, true)) else (none)) else (none)))) = some (r1, r2) := h
  clear h
  replace H := Option.bind_eq_some_iff.mp H
  obtain ⟨t780, A30, H⟩ := H
  replace H : (if t780 < 0 then (some ((⟨#[]⟩ : ByteArray), false)) else (if 0 ≤ t780 then (if t780 < (l0.length : Int) then (some ((rd_T78 l0 t780).f1, true)) else (none)) else (none))) = some (r1, r2) := H
  have A3 := Aside0.mk A30
  clear A30
  by_cases c4 : t780 < 0
  · rw [if_pos c4] at H
    have c4b0 : decide (t780 < 0) = true := decide_eq_true c4
    clear c4
    simp only [Option.some.injEq, Prod.mk.injEq] at H
    obtain ⟨rfl, rfl⟩ := H
    go_enter Tryd.func66, Tryd.ntmps66
    go_wp2_with (first | ((with_reducible refine gate_callee (f := 100) rfl ?_); refine goesL_ (some 9) rfl rfl Tryd.func100 (by kernel_rfl) rfl #[.slice A0 l0.length c0, .string a1] rfl ma ?_; (with_reducible refine (spec_l2At.calls k _ _ l0 a1 t780 _ ?side1 ?side2 A3.out).mono ?_); (case side1 => repeat (first | exact HR0.out | (with_reducible refine Kd.C_alloc ?_ _) | (with_reducible refine Kd.C_drewN ?_ _) | (with_reducible refine Kd.C_drew ?_))); (case side2 => exact HC0.out); rintro e w' ⟨rfl, ⟨nd, rfl⟩⟩; refine ⟨_, rfl, ?_⟩))
    go_ret2
    exact ⟨by first | rfl | (simp; done) | (simp [*]; done), by repeat (first | exact Drawn0.refl _ | apply Drawn0.step)⟩
  · rw [if_neg c4] at H
    have c4b0 : decide (t780 < 0) = false := decide_eq_false c4
    clear c4
    by_cases c5 : 0 ≤ t780
    · rw [if_pos c5] at H
      have c5b0 : decide (0 ≤ t780) = true := decide_eq_true c5
      clear c5
      by_cases c6 : t780 < (l0.length : Int)
      · rw [if_pos c6] at H
        have c6b0 : decide (t780 < (l0.length : Int)) = true := decide_eq_true c6
        clear c6
        simp only [Option.some.injEq, Prod.mk.injEq] at H
        obtain ⟨rfl, rfl⟩ := H
        go_enter Tryd.func66, Tryd.ntmps66
        go_wp2_with (first | ((with_reducible refine gate_callee (f := 100) rfl ?_); refine goesL_ (some 9) rfl rfl Tryd.func100 (by kernel_rfl) rfl #[.slice A0 l0.length c0, .string a1] rfl ma ?_; (with_reducible refine (spec_l2At.calls k _ _ l0 a1 t780 _ ?side1 ?side2 A3.out).mono ?_); (case side1 => repeat (first | exact HR0.out | (with_reducible refine Kd.C_alloc ?_ _) | (with_reducible refine Kd.C_drewN ?_ _) | (with_reducible refine Kd.C_drew ?_))); (case side2 => exact HC0.out); rintro e w' ⟨rfl, ⟨nd, rfl⟩⟩; refine ⟨_, rfl, ?_⟩; have p781 : 0 ≤ (t780 : Int) := of_decide_eq_true (by first | (with_reducible assumption) | assumption); have q781 : t780 < (l0.length : Int) := of_decide_eq_true (by first | (with_reducible assumption) | assumption); obtain ⟨ad781, e781, hx781_0, hx781_1⟩ := at_T78 HR0.out t780 p781 q781; cases e781; replace p781 := eq_true p781; replace q781 := eq_true q781))
        go_ret2
        exact ⟨by first | rfl | (simp; done) | (simp [*]; done), by repeat (first | exact Drawn0.refl _ | apply Drawn0.step)⟩
      · rw [if_neg c6] at H
        exact absurd H (by simp)
    · rw [if_neg c5] at H
      exact absurd H (by simp)

/-! ### spec_Drop: function 67 -/
def spec_Drop.l0 : Nat → List (S78) → Int → List (S78) → Int → Option ((List (S78)))
  | 0, _, _, _, _ => none
  | k + 1, x0, x5, x6, x7 => if x7 < (x0.length : Int) then (if x7 = x5 then (spec_Drop.l0 k x0 x5 x6 (wrap64 (x7 + 1))) else (if 0 ≤ x7 then (if x6.length < 4398046511104 then (spec_Drop.l0 k x0 x5 (x6 ++ [(⟨(rd_T78 x0 x7).f0, (rd_T78 x0 x7).f1⟩ : S78)]) (wrap64 (x7 + 1))) else (none)) else (none))) else (some x6)
def spec_Drop.f (k : Nat) (l0 : List (S78)) (a1 : ByteArray) : Option ((List (S78))) := (spec_l2At.f k l0 a1).bind fun t782 => (spec_Drop.l0 k l0 t782 (([] : List (S78))) 0)
theorem spec_Drop.mono_l : ∀ k, (∀ y0 y1 y2 y3, LeO (spec_Drop.l0 k y0 y1 y2 y3) (spec_Drop.l0 (k + 1) y0 y1 y2 y3))
  | 0 => fun _ _ _ _ r h => by simp [spec_Drop.l0] at h
  | k + 1 => by
    have ih0 := spec_Drop.mono_l k
    · intro y0 y1 y2 y3
      unfold spec_Drop.l0
      repeat' first
      | (with_reducible exact ih0 _ _ _ _)
      | (with_reducible exact spec_l2At.mono _ _ _)
      | (with_reducible exact LeO.refl _)
      | (with_reducible exact LeO.none _)
      | (with_reducible refine LeO.ite ?_ ?_)
      | (with_reducible refine LeO.bind ?_ (fun _ => ?_))
      | exact ih0 _ _ _ _
      | exact spec_l2At.mono _ _ _
      | exact LeO.none _
      | refine LeO.ite ?_ ?_
      | refine LeO.bind ?_ (fun _ => ?_)
theorem spec_Drop.mono : ∀ a0 a1 k, LeO (spec_Drop.f k a0 a1) (spec_Drop.f (k + 1) a0 a1) := by
  intro a0 a1 k
  have ih0 := spec_Drop.mono_l k
  unfold spec_Drop.f
  repeat' first
      | (with_reducible exact ih0 _ _ _ _)
      | (with_reducible exact spec_l2At.mono _ _ _)
      | (with_reducible exact LeO.refl _)
      | (with_reducible exact LeO.none _)
      | (with_reducible refine LeO.ite ?_ ?_)
      | (with_reducible refine LeO.bind ?_ (fun _ => ?_))
      | exact ih0 _ _ _ _
      | exact spec_l2At.mono _ _ _
      | exact LeO.none _
      | refine LeO.ite ?_ ?_
      | refine LeO.bind ?_ (fun _ => ?_)
set_option maxHeartbeats 8000000 in
set_option maxRecDepth 100000 in
theorem spec_Drop.calls (k : Nat) (A0 : Option Addr) (c0 : Nat) (l0 : List (S78)) (a1 : ByteArray) (r : List (S78)) (w : World) (hr0 : Kd.C k78 w A0 l0.length l0) (hc0 : l0.length ≤ c0) (h : spec_Drop.f k l0 a1 = some r) :
    Calls Tryd.prog 67 #[.slice A0 l0.length c0, .string a1] w fun e w' => ∃ v0_ : Value, e = .returned (v0_) ∧ Kd.R k78 78 w' w.heap.size (fun _ => True) v0_ r ∧ Below w.heap.size w w' := by
  have hu78 := Tryd.underlying78
  have HR0 := Aside0.mk hr0
  have HC0 := Aside0.mk hc0
  clear hr0 hc0
  have HB := Aside0.mk (Below.refl w.heap.size w)
  have H : ((spec_l2At.f k l0 a1).bind fun t782 => (spec_Drop.l0 k l0 t782 (([] : List (S78))) 0)) = some r := h
  clear h
  replace H := Option.bind_eq_some_iff.mp H
  obtain ⟨t782, A30, H⟩ := H
  replace H : (spec_Drop.l0 k l0 t782 (([] : List (S78))) 0) = some r := H
  have A3 := Aside0.mk A30
  clear A30
  obtain ⟨y783, hy783⟩ : ∃ y_ : List (S78), y_ = (([] : List (S78))) := ⟨_, rfl⟩
  replace H : (spec_Drop.l0 k l0 t782 y783 0) = some r := by first | (rw [hy783]; with_reducible exact H) | (have H2_ := (Option.bind_some _ _).symm.trans H; rw [hy783]; with_reducible exact H2_) | (have H2_ := (Option.bind_some _ _).symm.trans H; with_reducible exact H2_) | with_reducible exact H | (rw [hy783]; exact H) | exact H
  have Ny783 := Aside0.mk hy783
  clear hy783
  have H' := Aside0.mk H
  clear H
  go_enter Tryd.func67, Tryd.ntmps67
  go_wp2_with (first | ((with_reducible refine gate_callee (f := 100) rfl ?_); refine goesL_ (some 10) rfl rfl Tryd.func100 (by kernel_rfl) rfl #[.slice A0 l0.length c0, .string a1] rfl ma ?_; (with_reducible refine (spec_l2At.calls k _ _ l0 a1 t782 _ ?side1 ?side2 A3.out).mono ?_); (case side1 => repeat (first | exact HR0.out | (with_reducible refine Kd.C_alloc ?_ _) | (with_reducible refine Kd.C_drewN ?_ _) | (with_reducible refine Kd.C_drew ?_))); (case side2 => exact HC0.out); rintro e w' ⟨rfl, ⟨nd, rfl⟩⟩; refine ⟨_, rfl, ?_⟩) | ((with_reducible refine gate_dst (N := 11) rfl ?_); refine Kd.R_lit k78 _ 78 ?hg (N := 11) ?hd (xs := ([] : List (S78))) (inner := []) (ok := fun _ => True) (okp := fun _ => True) ?hr ?hp (fun _ hk => hk) trivial (Below.refl _ _) (Nat.le_refl _) (by simp) ?_; (case hd => rfl); (case hg => rfl); (case hr => first | (go_simp; done) | (go_simp; rfl)); (case hp => exact (Reps.none _ _)); intro v784 w4 ho5 hb hg_ hnew_; clear hg_ hnew_; (first | rw [← Ny783.out] at ho5 | (simp only [Int.reduceToNat] at ho5; rw [← Ny783.out] at ho5)); have HO785 := Aside0.mk (Kd.R_lower ho5 (below_size bl)); replace HB := Aside0.mk (below_step bl hb); clear hb ho5))
  (try simp only [Act.put, List.setIfInBounds_toArray, List.set_cons_zero, List.set_cons_succ])
  go_loopg [6, 7] k (fun kq v6 v7 w' => ∃ (x6_1 : List (S78)) (x7_1 : Int), v7 = .int .i64 x7_1 ∧ Aside0 (spec_Drop.l0 kq l0 t782 x6_1 x7_1 = some r) ∧ Aside0 (kq ≤ k) ∧ Aside0 (Kd.R k78 78 w' w.heap.size (fun _ => True) v6 x6_1) ∧ Aside0 (Below w.heap.size w w'))
  case atStart => exact ⟨(y783), (0), (by first | rfl | (simp; done) | (simp [*]; done)), H', ⟨Nat.le_refl _⟩, ⟨by (with_reducible repeat (first | apply Kd.R_alloc | apply Kd.R_drewN | apply Kd.R_drew)); exact HO785.out⟩, ⟨by repeat (first | (with_reducible first | exact HB.out | apply below_alloc | apply pw_below_drewN | apply below_drew1) | exact HB.out)⟩⟩
  case round =>
    clear H'
    try clear c1
    try clear p2
    obtain ⟨x6_1, x7_1, rfl, HA, HK1, HO_6, HB⟩ := hrel
    cases gk with
    | zero => exact absurd HA.out (by simp [spec_Drop.l0])
    | succ k1 =>
      have H := HA.out
      clear HA
      simp only [spec_Drop.l0] at H
      by_cases c6 : x7_1 < (l0.length : Int)
      · rw [if_pos c6] at H
        have c6b0 : decide (x7_1 < (l0.length : Int)) = true := decide_eq_true c6
        clear c6
        by_cases c7 : x7_1 = t782
        · rw [if_pos c7] at H
          have c7b0 : (x7_1 == t782) = true := beq_iff_eq.mpr c7
          have c7b1 : (x7_1 != t782) = false := bne_eq_false_iff_eq.mpr c7
          clear c7
          have H' := Aside0.mk H
          clear H
          go_wp2
          go_roundg k1
          case measure => have := HK1.out; omega
          case rel => exact ⟨(x6_1), (wrap64 (x7_1 + 1)), (by first | rfl | (simp; done) | (simp [*]; done)), H', ⟨by have := HK1.out; omega⟩, ⟨by (with_reducible repeat (first | apply Kd.R_alloc | apply Kd.R_drewN | apply Kd.R_drew)); exact HO_6.out⟩, ⟨by repeat (first | (with_reducible first | exact HB.out | apply below_alloc | apply pw_below_drewN | apply below_drew1) | exact HB.out)⟩⟩
        · rw [if_neg c7] at H
          have c7b0 : (x7_1 == t782) = false := beq_eq_false_iff_ne.mpr c7
          have c7b1 : (x7_1 != t782) = true := bne_iff_ne.mpr c7
          by_cases c8 : 0 ≤ x7_1
          · rw [if_pos c8] at H
            have c8b0 : decide (0 ≤ x7_1) = true := decide_eq_true c8
            clear c8
            by_cases c9 : x6_1.length < 4398046511104
            · rw [if_pos c9] at H
              have LMc9 := Aside0.mk c9
              clear c9
              obtain ⟨y787, hy787⟩ : ∃ y_ : List (S78), y_ = (x6_1 ++ [(⟨(rd_T78 l0 x7_1).f0, (rd_T78 l0 x7_1).f1⟩ : S78)]) := ⟨_, rfl⟩
              replace H : (spec_Drop.l0 k1 l0 t782 y787 (wrap64 (x7_1 + 1))) = some r := by first | (rw [hy787]; with_reducible exact H) | (have H2_ := (Option.bind_some _ _).symm.trans H; rw [hy787]; with_reducible exact H2_) | (have H2_ := (Option.bind_some _ _).symm.trans H; with_reducible exact H2_) | with_reducible exact H | (rw [hy787]; exact H) | exact H
              have Ny787 := Aside0.mk hy787
              clear hy787
              have H' := Aside0.mk H
              clear H
              have p786 : 0 ≤ (x7_1 : Int) := of_decide_eq_true (by first | (with_reducible assumption) | assumption)
              have q786 : x7_1 < (l0.length : Int) := of_decide_eq_true (by first | (with_reducible assumption) | assumption)
              obtain ⟨ad786, e786, hx786_0, hx786_1⟩ := at_T78 HR0.out x7_1 p786 q786
              cases e786
              replace hx786_0 := (HB.out.cell (World.block_lt_of_cell? w _ hx786_0)).trans hx786_0
              replace hx786_1 := (HB.out.cell (World.block_lt_of_cell? w _ hx786_1)).trans hx786_1
              replace p786 := eq_true p786
              replace q786 := eq_true q786
              go_wp2_with (first | ((with_reducible refine gate_builtin (b := .append) (xs := #[.tmp 21, .tmp 26]) rfl ?_); at_builtin; refine Kd.R_append k78 (w0 := w) w.heap.size rfl (.tmp 21) (.tmp 26) 43 78 (.agg #[(.string ⟨#[]⟩), (.string ⟨#[]⟩)]) 32 rfl Tryd.underlying43 info78 rfl (by decide) (by omega) u6 x6_1 (⟨(rd_T78 l0 x7_1).f0, (rd_T78 l0 x7_1).f1⟩ : S78) [.string ((rd_T78 l0 x7_1).f0), .string ((rd_T78 l0 x7_1).f1)] (fun _ => True) (fun _ => False) rfl rfl ?aP (fun _ hk => hk.elim) ?aF ?aO ?aB ?aS ?aL ?_; (case aP => exact k78_mkM _ _ _ (⟨(rd_T78 l0 x7_1).f0, (rd_T78 l0 x7_1).f1⟩ : S78)); (case aB => exact bl); (case aF => exact (fun _ _ => trivial)); (case aO => exact (ro HO_6)); (case aS => exact (below_size bl)); (case aL => have := LMc9.out; omega); intro v788 w10 ho hb hg hat; rw [← Ny787.out] at ho; have n0_ := Aside0.mk (hb); have n1_ := Aside0.mk (ho); clear HB; clear HO_6; have HB := n0_; have HO789 := n1_; clear n0_ n1_; clear ho hb hg hat))
              go_roundg k1
              case measure => have := HK1.out; omega
              case rel => exact ⟨(y787), (wrap64 (x7_1 + 1)), (by first | rfl | (simp; done) | (simp [*]; done)), H', ⟨by have := HK1.out; omega⟩, ⟨by (with_reducible repeat (first | apply Kd.R_alloc | apply Kd.R_drewN | apply Kd.R_drew)); exact HO789.out⟩, ⟨by repeat (first | (with_reducible first | exact HB.out | apply below_alloc | apply pw_below_drewN | apply below_drew1) | exact HB.out)⟩⟩
            · rw [if_neg c9] at H
              exact absurd H (by simp)
          · rw [if_neg c8] at H
            exact absurd H (by simp)
      · rw [if_neg c6] at H
        have c6b0 : decide (x7_1 < (l0.length : Int)) = false := decide_eq_false c6
        clear c6
        obtain rfl := Option.some.inj H
        go_wp2
        go_ret
        exact ⟨_, rf, by (with_reducible repeat (first | apply Kd.R_alloc | apply Kd.R_drewN | apply Kd.R_drew)); exact HO_6.out, bl⟩

/-! ### impl.FieldsText: through a strings.Builder -/
def fieldLine (x : S78) : List UInt8 := x.f0.data.toList ++ [58, 32] ++ x.f1.data.toList ++ [13, 10]
def fieldLines : List S78 → List UInt8
  | [] => []
  | x :: r => fieldLine x ++ fieldLines r
theorem fieldLines_append : ∀ a b, fieldLines (a ++ b) = fieldLines a ++ fieldLines b
  | [], b => rfl
  | x :: r, b => by simp [fieldLines, fieldLines_append r b]
theorem fieldLines_take {l : List S78} {k : Nat} (h : k < l.length) : fieldLines (l.take (k + 1)) = fieldLines (l.take k) ++ fieldLine l[k] := by
  rw [List.take_succ_eq_append_getElem h, fieldLines_append]; simp [fieldLines]
theorem fieldLines_le {l : List S78} {k : Nat} (h : k < l.length) : (fieldLines (l.take k)).length + (fieldLine l[k]).length ≤ (fieldLines l).length := by
  have h1 : fieldLines l = fieldLines (l.take (k + 1)) ++ fieldLines (l.drop (k + 1)) := by rw [← fieldLines_append, List.take_append_drop]
  rw [h1, fieldLines_take h, List.length_append, List.length_append]; omega
def impl_FieldsText.f (l0 : List S78) : Option ByteArray := if l0.length < 4398046511104 ∧ (fieldLines l0).length ≤ 1099511627776 then some ⟨(fieldLines l0).toArray⟩ else none
set_option maxHeartbeats 4000000 in
set_option maxRecDepth 100000 in
theorem impl_FieldsText.calls (A0 : Option Addr) (c0 : Nat) (l0 : List (S78)) (r : ByteArray) (w : World) (hr0 : Kd.C k78 w A0 l0.length l0) (hc0 : l0.length ≤ c0) (h : impl_FieldsText.f l0 = some r) :
    Calls Tryd.prog 68 #[.slice A0 l0.length c0] w fun e w' => e = .returned (.string r) ∧ Below w.heap.size w w' := by
  unfold impl_FieldsText.f at h
  split at h
  case isFalse => cases h
  rename_i hl
  obtain rfl := Option.some.inj h
  have HN := Aside0.mk hl
  have HR := Aside0.mk hr0
  clear h hl hr0 hc0
  have HF := Aside0.mk (Lib.fresh_isBuilder 100 5 w)
  go_enter Tryd.func68, Tryd.ntmps68
  go_wp2
  go_loopw [8] (fun i wr => ∃ k : Nat, k ≤ l0.length ∧ i = .int .i64 k ∧ Aside0 (Lib.IsBuilder 100 5 w.heap.size w.heap.size (Lib.byteCells (fieldLines (l0.take k))) wr) ∧ Below w.heap.size w wr) (fun i _ => l0.length - (intOf i).toNat)
  case atStart => exact ⟨0, Nat.zero_le _, rfl, HF, (Below.refl _ _).alloc (Nat.le_refl _) _⟩
  case round =>
    obtain ⟨k, hk, rfl, hr, hb⟩ := hrel
    have hk2 : ((k : Nat) : Int) ≤ 4611686018427387904 := by have := HN.out.1; omega
    by_cases hlt : k < l0.length
    · obtain ⟨ad, e1, hx0, hx1⟩ := at_T78 HR.out k (by omega) (by omega)
      have hx : rd_T78 l0 k = l0[k] := by simp [rd_T78, List.getD, hlt]
      rw [hx, Int.toNat_natCast] at hx0 hx1
      cases e1
      replace hx0 := pw_cell_below hb hx0
      replace hx1 := pw_cell_below hb hx1
      have hle := fieldLines_le hlt
      have hsz : (fieldLine l0[k]).length = l0[k].f0.size + 2 + l0[k].f1.size + 2 := by
        simp only [fieldLine, List.length_append, data_length]; rfl
      have ht := fieldLines_take hlt
      obtain ⟨f0, hf0⟩ : ∃ f, f = l0[k].f0 := ⟨_, rfl⟩
      obtain ⟨f1, hf1⟩ : ∃ f, f = l0[k].f1 := ⟨_, rfl⟩
      have hline : fieldLine l0[k] = (f0 ++ (⟨#[58, 32]⟩ : ByteArray) ++ f1 ++ (⟨#[13, 10]⟩ : ByteArray)).data.toList := by
        rw [hf0, hf1]; simp [fieldLine, ByteArray.data_append]
      rw [← hf0] at hx0
      rw [← hf1] at hx1
      rw [hline] at ht
      rw [hsz, ← hf0, ← hf1] at hle
      have HT := Aside0.mk ht
      have s1 : f0.size + 2 ≤ 9223372036854775807 := by have := HN.out.2; omega
      have s2 : f0.size + 2 + f1.size ≤ 9223372036854775807 := by have := HN.out.2; omega
      have s3 : f0.size + 2 + f1.size + 2 ≤ 9223372036854775807 := by have := HN.out.2; omega
      have HLE := Aside0.mk hle
      clear hx hle hsz ht hline hf0 hf1
      have HS : ((f0 ++ (⟨#[58, 32]⟩ : ByteArray) ++ f1 ++ (⟨#[13, 10]⟩ : ByteArray)).size) = f0.size + 2 + f1.size + 2 := by
        rw [ByteArray.size_append, ByteArray.size_append, ByteArray.size_append]; rfl
      have HS := Aside0.mk HS
      go_wp2_with (first | (go_at_call 85; refine (bldWrite w.heap.size w.heap.size _ _ _ (bld_below hr.out ((Below.refl _ _).alloc (Nat.le_refl _) _)) (by rw [HS.out, Lib.byteCells_length]; have := HLE.out; have := HN.out.2; omega) (by have := hb.size; simp; omega)).mono ?_; rintro e w2 ⟨rfl, h2, hb2⟩; rw [Lib.strCells_eq, ← Lib.byteCells_append, ← HT.out] at h2; have H2 := Aside0.mk h2; have HB2 := Aside0.mk hb2; clear h2 hb2))
      go_roundw
      case rel => exact ⟨k + 1, by omega, by go_num, ⟨.inr H2.out⟩, (hb.alloc hb.size _).trans HB2.out⟩
      case measure => simp [intOf]; omega
    · have hkk : k = l0.length := by omega
      have HK := Aside0.mk hkk
      clear hkk
      go_wp2_with (first | (go_at_call 87; refine (Tryd.Builder_String_any w.heap.size w.heap.size _ _ hr.out hb.size).mono ?_; rintro e w2 ⟨rfl, hb2⟩; have HB2 := Aside0.mk hb2; clear hb2))
      go_ret
      exact ⟨by rw [HK.out, List.take_length]; rfl, hb.trans HB2.out⟩

/-! ### spec_FieldsText: function 69 -/
def spec_FieldsText.l0 : Nat → List (S78) → ByteArray → Int → Option (ByteArray)
  | 0, _, _, _ => none
  | k + 1, x0, x3, x4 => if x4 < (x0.length : Int) then (if 0 ≤ x4 then (if x3.size + ((rd_T78 x0 x4).f0).size ≤ 9223372036854775807 then (if (x3 ++ ((rd_T78 x0 x4).f0)).size + 2 ≤ 9223372036854775807 then (if ((x3 ++ ((rd_T78 x0 x4).f0)) ++ (⟨#[58, 32]⟩ : ByteArray)).size + ((rd_T78 x0 x4).f1).size ≤ 9223372036854775807 then (if (((x3 ++ ((rd_T78 x0 x4).f0)) ++ (⟨#[58, 32]⟩ : ByteArray)) ++ ((rd_T78 x0 x4).f1)).size + 2 ≤ 9223372036854775807 then (spec_FieldsText.l0 k x0 ((((x3 ++ ((rd_T78 x0 x4).f0)) ++ (⟨#[58, 32]⟩ : ByteArray)) ++ ((rd_T78 x0 x4).f1)) ++ (⟨#[13, 10]⟩ : ByteArray)) (wrap64 (x4 + 1))) else (none)) else (none)) else (none)) else (none)) else (none)) else (some x3)
def spec_FieldsText.f (k : Nat) (l0 : List (S78)) : Option (ByteArray) := spec_FieldsText.l0 k l0 (⟨#[]⟩ : ByteArray) 0
theorem spec_FieldsText.mono_l : ∀ k, (∀ y0 y1 y2, LeO (spec_FieldsText.l0 k y0 y1 y2) (spec_FieldsText.l0 (k + 1) y0 y1 y2))
  | 0 => fun _ _ _ r h => by simp [spec_FieldsText.l0] at h
  | k + 1 => by
    have ih0 := spec_FieldsText.mono_l k
    · intro y0 y1 y2
      unfold spec_FieldsText.l0
      repeat' first
      | (with_reducible exact ih0 _ _ _)
      | (with_reducible exact LeO.refl _)
      | (with_reducible exact LeO.none _)
      | (with_reducible refine LeO.ite ?_ ?_)
      | (with_reducible refine LeO.bind ?_ (fun _ => ?_))
      | exact ih0 _ _ _
      | exact LeO.none _
      | refine LeO.ite ?_ ?_
      | refine LeO.bind ?_ (fun _ => ?_)
theorem spec_FieldsText.mono : ∀ a0 k, LeO (spec_FieldsText.f k a0) (spec_FieldsText.f (k + 1) a0) := by
  intro a0 k
  have ih0 := spec_FieldsText.mono_l k
  unfold spec_FieldsText.f
  repeat' first
      | (with_reducible exact ih0 _ _ _)
      | (with_reducible exact LeO.refl _)
      | (with_reducible exact LeO.none _)
      | (with_reducible refine LeO.ite ?_ ?_)
      | (with_reducible refine LeO.bind ?_ (fun _ => ?_))
      | exact ih0 _ _ _
      | exact LeO.none _
      | refine LeO.ite ?_ ?_
      | refine LeO.bind ?_ (fun _ => ?_)
set_option maxHeartbeats 8000000 in
set_option maxRecDepth 100000 in
theorem spec_FieldsText.calls (k : Nat) (A0 : Option Addr) (c0 : Nat) (l0 : List (S78)) (r : ByteArray) (w : World) (hr0 : Kd.C k78 w A0 l0.length l0) (hc0 : l0.length ≤ c0) (h : spec_FieldsText.f k l0 = some r) :
    Calls Tryd.prog 69 #[.slice A0 l0.length c0] w fun e w' => e = .returned (.string r) ∧ Drawn0 w w' := by
  have HR0 := Aside0.mk hr0
  have HC0 := Aside0.mk hc0
  clear hr0 hc0
  have H : (spec_FieldsText.l0 k l0 (⟨#[]⟩ : ByteArray) 0) = some r := h
  clear h
  have H' := Aside0.mk H
  clear H
  go_enter Tryd.func69, Tryd.ntmps69
  go_wp2
  repeat (go_quiet (fail); try go_wp2)
  (try simp only [Act.put, List.setIfInBounds_toArray, List.set_cons_zero, List.set_cons_succ])
  go_loopg [3, 4] k (fun kq v3 v4 w' => ∃ (x3_1 : ByteArray) (x4_1 : Int), v3 = .string x3_1 ∧ v4 = .int .i64 x4_1 ∧ Aside0 (spec_FieldsText.l0 kq l0 x3_1 x4_1 = some r) ∧ Aside0 (kq ≤ k) ∧ Drawn0 w w')
  case atStart => exact ⟨((⟨#[]⟩ : ByteArray)), (0), (by first | rfl | (simp; done) | (simp [*]; done)), (by first | rfl | (simp; done) | (simp [*]; done)), H', ⟨Nat.le_refl _⟩, by repeat (first | exact Drawn0.refl _ | apply Drawn0.step)⟩
  case round =>
    clear H'
    obtain ⟨x3_1, x4_1, rfl, rfl, HA, HK1, ⟨m1, rfl⟩⟩ := hrel
    cases gk with
    | zero => exact absurd HA.out (by simp [spec_FieldsText.l0])
    | succ k1 =>
      have H := HA.out
      clear HA
      simp only [spec_FieldsText.l0] at H
      by_cases c2 : x4_1 < (l0.length : Int)
      · rw [if_pos c2] at H
        have c2b0 : decide (x4_1 < (l0.length : Int)) = true := decide_eq_true c2
        clear c2
        by_cases c3 : 0 ≤ x4_1
        · rw [if_pos c3] at H
          have c3b0 : decide (0 ≤ x4_1) = true := decide_eq_true c3
          clear c3
          by_cases c4 : x3_1.size + ((rd_T78 l0 x4_1).f0).size ≤ 9223372036854775807
          · rw [if_pos c4] at H
            have c4b0 := eq_true c4
            have c4b1 : decide (x3_1.size + ((rd_T78 l0 x4_1).f0).size ≤ 9223372036854775807) = true := decide_eq_true c4
            try have c4b2 : (9223372036854775807 < x3_1.size + ((rd_T78 l0 x4_1).f0).size) = False := eq_false (Nat.not_lt.2 c4)
            by_cases c5 : (x3_1 ++ ((rd_T78 l0 x4_1).f0)).size + 2 ≤ 9223372036854775807
            · rw [if_pos c5] at H
              have c5b0 := eq_true c5
              have c5b1 : decide ((x3_1 ++ ((rd_T78 l0 x4_1).f0)).size + 2 ≤ 9223372036854775807) = true := decide_eq_true c5
              try have c5b2 : (9223372036854775807 < (x3_1 ++ ((rd_T78 l0 x4_1).f0)).size + 2) = False := eq_false (Nat.not_lt.2 c5)
              have c5b3 : (9223372036854775807 < (x3_1).size + ((rd_T78 l0 x4_1).f0).size + 2) = False := eq_false (Nat.not_lt.2 (by have h_ := c5; simp only [ByteArray.size_append] at h_; first | exact h_ | (simp only [ByteArray.size_extract] at h_; rw [Nat.min_eq_left (by omega)] at h_; exact h_)))
              by_cases c6 : ((x3_1 ++ ((rd_T78 l0 x4_1).f0)) ++ (⟨#[58, 32]⟩ : ByteArray)).size + ((rd_T78 l0 x4_1).f1).size ≤ 9223372036854775807
              · rw [if_pos c6] at H
                have c6b0 := eq_true c6
                have c6b1 : decide (((x3_1 ++ ((rd_T78 l0 x4_1).f0)) ++ (⟨#[58, 32]⟩ : ByteArray)).size + ((rd_T78 l0 x4_1).f1).size ≤ 9223372036854775807) = true := decide_eq_true c6
                try have c6b2 : (9223372036854775807 < ((x3_1 ++ ((rd_T78 l0 x4_1).f0)) ++ (⟨#[58, 32]⟩ : ByteArray)).size + ((rd_T78 l0 x4_1).f1).size) = False := eq_false (Nat.not_lt.2 c6)
                have c6b3 : (9223372036854775807 < (x3_1).size + ((rd_T78 l0 x4_1).f0).size + 2 + ((rd_T78 l0 x4_1).f1).size) = False := eq_false (Nat.not_lt.2 (by have h_ := c6; simp only [ByteArray.size_append] at h_; first | exact h_ | (simp only [ByteArray.size_extract] at h_; rw [Nat.min_eq_left (by omega)] at h_; exact h_)))
                by_cases c7 : (((x3_1 ++ ((rd_T78 l0 x4_1).f0)) ++ (⟨#[58, 32]⟩ : ByteArray)) ++ ((rd_T78 l0 x4_1).f1)).size + 2 ≤ 9223372036854775807
                · rw [if_pos c7] at H
                  have c7b0 := eq_true c7
                  have c7b1 : decide ((((x3_1 ++ ((rd_T78 l0 x4_1).f0)) ++ (⟨#[58, 32]⟩ : ByteArray)) ++ ((rd_T78 l0 x4_1).f1)).size + 2 ≤ 9223372036854775807) = true := decide_eq_true c7
                  try have c7b2 : (9223372036854775807 < (((x3_1 ++ ((rd_T78 l0 x4_1).f0)) ++ (⟨#[58, 32]⟩ : ByteArray)) ++ ((rd_T78 l0 x4_1).f1)).size + 2) = False := eq_false (Nat.not_lt.2 c7)
                  have c7b3 : (9223372036854775807 < (x3_1).size + ((rd_T78 l0 x4_1).f0).size + 2 + ((rd_T78 l0 x4_1).f1).size + 2) = False := eq_false (Nat.not_lt.2 (by have h_ := c7; simp only [ByteArray.size_append] at h_; first | exact h_ | (simp only [ByteArray.size_extract] at h_; rw [Nat.min_eq_left (by omega)] at h_; exact h_)))
                  have H' := Aside0.mk H
                  clear H
                  have p790 : 0 ≤ (x4_1 : Int) := of_decide_eq_true (by first | (with_reducible assumption) | assumption)
                  have q790 : x4_1 < (l0.length : Int) := of_decide_eq_true (by first | (with_reducible assumption) | assumption)
                  obtain ⟨ad790, e790, hx790_0, hx790_1⟩ := at_T78 HR0.out x4_1 p790 q790
                  cases e790
                  replace p790 := eq_true p790
                  replace q790 := eq_true q790
                  have p791 : 0 ≤ (x4_1 : Int) := of_decide_eq_true (by first | (with_reducible assumption) | assumption)
                  have q791 : x4_1 < (l0.length : Int) := of_decide_eq_true (by first | (with_reducible assumption) | assumption)
                  obtain ⟨ad791, e791, hx791_0, hx791_1⟩ := at_T78 HR0.out x4_1 p791 q791
                  obtain rfl : ad790 = ad791 := (by injection e791)
                  replace p791 := eq_true p791
                  replace q791 := eq_true q791
                  go_wp2
                  repeat (go_quiet (fail); try go_wp2)
                  go_roundg k1
                  case measure => have := HK1.out; omega
                  case rel => exact ⟨((((x3_1 ++ ((rd_T78 l0 x4_1).f0)) ++ (⟨#[58, 32]⟩ : ByteArray)) ++ ((rd_T78 l0 x4_1).f1)) ++ (⟨#[13, 10]⟩ : ByteArray)), (wrap64 (x4_1 + 1)), (by first | rfl | (simp; done) | (simp [*]; done)), (by first | rfl | (simp; done) | (simp [*]; done)), H', ⟨by have := HK1.out; omega⟩, by repeat (first | exact Drawn0.refl _ | apply Drawn0.step)⟩
                · rw [if_neg c7] at H
                  exact absurd H (by simp)
              · rw [if_neg c6] at H
                exact absurd H (by simp)
            · rw [if_neg c5] at H
              exact absurd H (by simp)
          · rw [if_neg c4] at H
            exact absurd H (by simp)
        · rw [if_neg c3] at H
          exact absurd H (by simp)
      · rw [if_neg c2] at H
        have c2b0 : decide (x4_1 < (l0.length : Int)) = false := decide_eq_false c2
        clear c2
        obtain rfl := Option.some.inj H
        go_wp2
        repeat (go_quiet (fail); try go_wp2)
        go_ret
        exact ⟨by first | rfl | (simp; done) | (simp [*]; done), by repeat (first | exact Drawn0.refl _ | apply Drawn0.step)⟩

end Go.Proofs.YtogdmlgbdbgpkaaDoor.All
