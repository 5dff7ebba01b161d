-- Written by a program of this session (wip/tools/hprint.py) out of the translation. Lean checks it.
import Derived.Test.YtnmanegjgidgcaaGreatDoorAllx0
import Derived.Test.YtnmanegjgidgcaaGreatDoorAllx2
namespace Go.Proofs.YtnmanegjgidgcaaGreatDoor.All
open Go.RowKit Go.Proofs.YtnmanegjgidgcaaGreatDoorW.PrintWords Go.Proofs.YtnmanegjgidgcaaGreatDoorW.PrintLast Go.Proofs.YtnmanegjgidgcaaGreatDoorW.PrintMore
attribute [local go_sem] max2_int min2_int max_two min_two max_three min_three max_four min_four   -- for this text's walks alone
set_option linter.unusedVariables false
set_option linter.unusedSimpArgs false

/-! ### impl_FieldsOk: function 82 -/
theorem u82HB {p : Prop} (h : p := by repeat (first | (with_reducible first | exact HB.out | apply below_alloc | apply pw_below_drewN | apply below_drew1 | refine below_set ?_ GE287.out) | exact HB.out)) : p := h
def impl_FieldsOk.l0 : Nat → List (S100) → List (S100) → Int → Int → Option (Bool)
 | 0, _, _, _, _ => none
 | k + 1, x0, x5, x6, x7 => if x7 < x6 then (if 0 ≤ x7 then (if x7 < (x5.length : Int) then ((impl_TokenOk.f k ((rd_T100 x5 x7).f0)).bind fun t288 => (if t288 = true then ((impl_ValueOk.f k ((rd_T100 x5 x7).f1)).bind fun t289 => (if t289 = true then (if ((rd_T100 x5 x7).f0).toList = ([99, 111, 110, 116, 101, 110, 116, 45, 108, 101, 110, 103, 116, 104] : List UInt8) then (some false) else ((impl_fieldAt.f x0 ((rd_T100 x5 x7).f0)).bind fun t290 => (if t290 = x7 then (impl_FieldsOk.l0 k x0 x5 x6 (wrap64 (x7 + 1))) else (some false)))) else (some false))) else (some false))) else (none)) else (none)) else (some (decide ((x0.length : Int) ≤ 8)))
def impl_FieldsOk.f (k : Nat) (l0 : List (S100)) : Option (Bool) := impl_FieldsOk.l0 k l0 l0 (l0.length : Int) 0
theorem impl_FieldsOk.mono_l : ∀ k, (∀ y0 y1 y2 y3, LeO (impl_FieldsOk.l0 k y0 y1 y2 y3) (impl_FieldsOk.l0 (k + 1) y0 y1 y2 y3))
 | 0 => fun _ _ _ _ r h => by simp [impl_FieldsOk.l0] at h
 | k + 1 => by
  have ih0 := impl_FieldsOk.mono_l k
  ·intro y0 y1 y2 y3
   unfold impl_FieldsOk.l0
   have m0 := @impl_TokenOk.mono
   have m1 := @impl_ValueOk.mono
   exact mo
theorem impl_FieldsOk.mono : ∀ a0 k, LeO (impl_FieldsOk.f k a0) (impl_FieldsOk.f (k + 1) a0) := by
 intro a0 k
 have ih0 := impl_FieldsOk.mono_l k
 unfold impl_FieldsOk.f
 have m0 := @impl_TokenOk.mono
 have m1 := @impl_ValueOk.mono
 exact mo
set_option maxHeartbeats 8000000 in
set_option maxRecDepth 100000 in
theorem impl_FieldsOk.calls (k : Nat) (A0 : Option Addr) (c0 : Nat) (l0 : List (S100)) (r : Bool) (w : World) (hr0 : Kd.C k100 w A0 l0.length l0) (hc0 : l0.length ≤ c0) (h : impl_FieldsOk.f k l0 = some r) :
  Calls Tryz.prog 82 #[.slice A0 l0.length c0] w fun e w' => e = .returned (.bool r) ∧ Below w.heap.size w w' := by
 have hu100 := Tryz.underlying100
 have HR0 := am hr0
 have HC0 := am hc0
 clear hr0 hc0
 have HB := am (Below.refl w.heap.size w)
 unfold impl_FieldsOk.f at h
 have H := h
 clear h
 have H' := am H
 clear H
 go_enter Tryz.func82, Tryz.ntmps82
 go_wp2
 (try simp only [Act.put, List.setIfInBounds_toArray, List.set_cons_zero, List.set_cons_succ])
 go_loopg [7] k (fun kq v7 w' => ∃ (x7_1 : Int), v7 = .int .i64 x7_1 ∧ Aside0 (impl_FieldsOk.l0 kq l0 l0 (l0.length : Int) x7_1 = some r) ∧ Aside0 (kq ≤ k) ∧ Aside0 (Below w.heap.size w w'))
 case atStart => exact ⟨(0), rs, H', ⟨Nat.le_refl _⟩, ⟨u82HB⟩⟩
 case round =>
  clear H'
  obtain ⟨x7_1, rfl, HA, HK1, HB⟩ := hrel
  cases gk with
  | zero => exact absurd HA.out (by simp [impl_FieldsOk.l0])
  | succ k1 =>
   have H := HA.out
   clear HA
   simp only [impl_FieldsOk.l0] at H
   by_cases c2 : x7_1 < (l0.length : Int)
   rotate_left
   ·rw [if_neg c2] at H
    have c2b0 := decide_eq_false c2
    clear c2
    obtain rfl := Option.some.inj H
    go_wp2
    go_ret
    exact ⟨rf, bl⟩
   rw [if_pos c2] at H
   have c2b0 := decide_eq_true c2
   clear c2
   revert H
   refine ifn fun c3 H => ?_
   have c3b0 := decide_eq_true c3
   clear c3
   revert H
   refine ifn fun c4 H => ?_
   have c4b0 := decide_eq_true c4
   clear c4
   revert H
   refine ok1 fun t288 A5 H => ?_
   by_cases c6 : t288 = true
   rotate_left
   ·replace c6 := Bool.eq_false_iff.mpr c6
    subst c6
    rw [if_neg (show ¬ (false = true) by decide)] at H
    obtain rfl := Option.some.inj H
    have p286 : 0 ≤ (x7_1 : Int) := od
    have q286 : x7_1 < (l0.length : Int) := od
    obtain ⟨ad286, e286, hx286_0, hx286_1⟩ := at_T100 HR0.out x7_1 p286 q286
    cases e286
    replace hx286_0 := hcw hx286_0
    replace hx286_1 := hcw hx286_1
    replace p286 := eq_true p286
    replace q286 := eq_true q286
    go_wp2_with (first | (refine bx 4 #[.string (⟨#[]⟩ : ByteArray), .string (⟨#[]⟩ : ByteArray)] 100 ?_; intro gb287 hg w29 hbox hb; have BK287 := am (hbox); have GW287 := am (sz hg : w.heap.size ≤ gb287); have GE287 := am (sz hg : w.heap.size ≤ gb287); replace HB := am (below_step bl hb); clear hb hbox hg; obtain ⟨z30_0, y30_0, z30_1, y30_1⟩ := cl2 BK287) | (refine gl 14 Tryz.func129 #[.string ((rd_T100 l0 x7_1).f0)] ?_; (with_reducible refine (impl_TokenOk.calls k1 ((rd_T100 l0 x7_1).f0) false _ A5.out).mono ?_); rintro e w' ⟨rfl, ⟨nd, rfl⟩⟩; refine ⟨_, rfl, ?_⟩))
    go_ret
    exact ⟨rf, bl⟩
   subst c6
   rw [if_pos rfl] at H
   revert H
   refine ok1 fun t289 A7 H => ?_
   by_cases c8 : t289 = true
   rotate_left
   ·replace c8 := Bool.eq_false_iff.mpr c8
    subst c8
    rw [if_neg (show ¬ (false = true) by decide)] at H
    obtain rfl := Option.some.inj H
    have p286 : 0 ≤ (x7_1 : Int) := od
    have q286 : x7_1 < (l0.length : Int) := od
    obtain ⟨ad286, e286, hx286_0, hx286_1⟩ := at_T100 HR0.out x7_1 p286 q286
    cases e286
    replace hx286_0 := hcw hx286_0
    replace hx286_1 := hcw hx286_1
    replace p286 := eq_true p286
    replace q286 := eq_true q286
    go_wp2_with (first | (refine bx 4 #[.string (⟨#[]⟩ : ByteArray), .string (⟨#[]⟩ : ByteArray)] 100 ?_; intro gb287 hg w26 hbox hb; have BK287 := am (hbox); have GW287 := am (sz hg : w.heap.size ≤ gb287); have GE287 := am (sz hg : w.heap.size ≤ gb287); replace HB := am (below_step bl hb); clear hb hbox hg; obtain ⟨z27_0, y27_0, z27_1, y27_1⟩ := cl2 BK287) | (refine gl 14 Tryz.func129 #[.string ((rd_T100 l0 x7_1).f0)] ?_; (with_reducible refine (impl_TokenOk.calls k1 ((rd_T100 l0 x7_1).f0) true _ A5.out).mono ?_); rintro e w' ⟨rfl, ⟨nd, rfl⟩⟩; refine ⟨_, rfl, ?_⟩) | (go_at_call 110; (with_reducible refine (impl_ValueOk.calls k1 ((rd_T100 l0 x7_1).f1) false _ A7.out).mono ?_); rintro e w28 ⟨rfl, hb⟩; replace BK287 := am (blk_below (g := gb287) (o := .cells #[.string ((rd_T100 l0 x7_1).f0), .string ((rd_T100 l0 x7_1).f1)] 100 (0, 0)) (pt0 BK287) hb); replace HB := am (below_step bl hb); clear hb))
    go_ret
    exact ⟨rf, bl⟩
   subst c8
   rw [if_pos rfl] at H
   by_cases c9 : ((rd_T100 l0 x7_1).f0).toList = ([99, 111, 110, 116, 101, 110, 116, 45, 108, 101, 110, 103, 116, 104] : List UInt8)
   ·rw [if_pos c9] at H
    have c9b0 : (((rd_T100 l0 x7_1).f0).toList == ([99, 111, 110, 116, 101, 110, 116, 45, 108, 101, 110, 103, 116, 104] : List UInt8)) = true := beq_iff_eq.mpr c9
    have c9b1 : (((rd_T100 l0 x7_1).f0).toList != ([99, 111, 110, 116, 101, 110, 116, 45, 108, 101, 110, 103, 116, 104] : List UInt8)) = false := bne_eq_false_iff_eq.mpr c9
    clear c9
    obtain rfl := Option.some.inj H
    have p286 : 0 ≤ (x7_1 : Int) := od
    have q286 : x7_1 < (l0.length : Int) := od
    obtain ⟨ad286, e286, hx286_0, hx286_1⟩ := at_T100 HR0.out x7_1 p286 q286
    cases e286
    replace hx286_0 := hcw hx286_0
    replace hx286_1 := hcw hx286_1
    replace p286 := eq_true p286
    replace q286 := eq_true q286
    go_wp2_with (first | (refine bx 4 #[.string (⟨#[]⟩ : ByteArray), .string (⟨#[]⟩ : ByteArray)] 100 ?_; intro gb287 hg w10 hbox hb; have BK287 := am (hbox); have GW287 := am (sz hg : w.heap.size ≤ gb287); have GE287 := am (sz hg : w.heap.size ≤ gb287); replace HB := am (below_step bl hb); clear hb hbox hg; obtain ⟨z11_0, y11_0, z11_1, y11_1⟩ := cl2 BK287) | (refine gl 14 Tryz.func129 #[.string ((rd_T100 l0 x7_1).f0)] ?_; (with_reducible refine (impl_TokenOk.calls k1 ((rd_T100 l0 x7_1).f0) true _ A5.out).mono ?_); rintro e w' ⟨rfl, ⟨nd, rfl⟩⟩; refine ⟨_, rfl, ?_⟩) | (go_at_call 110; (with_reducible refine (impl_ValueOk.calls k1 ((rd_T100 l0 x7_1).f1) true _ A7.out).mono ?_); rintro e w12 ⟨rfl, hb⟩; replace BK287 := am (blk_below (g := gb287) (o := .cells #[.string ((rd_T100 l0 x7_1).f0), .string ((rd_T100 l0 x7_1).f1)] 100 (0, 0)) (pt0 BK287) hb); replace HB := am (below_step bl hb); clear hb; obtain ⟨z13_0, y13_0, z13_1, y13_1⟩ := cl2 BK287))
    go_ret
    exact ⟨rf, bl⟩
   rw [if_neg c9] at H
   have c9b0 : (((rd_T100 l0 x7_1).f0).toList == ([99, 111, 110, 116, 101, 110, 116, 45, 108, 101, 110, 103, 116, 104] : List UInt8)) = false := beq_eq_false_iff_ne.mpr c9
   have c9b1 : (((rd_T100 l0 x7_1).f0).toList != ([99, 111, 110, 116, 101, 110, 116, 45, 108, 101, 110, 103, 116, 104] : List UInt8)) = true := bne_iff_ne.mpr c9
   revert H
   refine ok1 fun t290 A14 H => ?_
   by_cases c15 : t290 = x7_1
   rotate_left
   ·rw [if_neg c15] at H
    have c15b0 : (t290 == x7_1) = false := beq_eq_false_iff_ne.mpr c15
    have c15b1 : (t290 != x7_1) = true := bne_iff_ne.mpr c15
    obtain rfl := Option.some.inj H
    have p286 : 0 ≤ (x7_1 : Int) := od
    have q286 : x7_1 < (l0.length : Int) := od
    obtain ⟨ad286, e286, hx286_0, hx286_1⟩ := at_T100 HR0.out x7_1 p286 q286
    cases e286
    replace hx286_0 := hcw hx286_0
    replace hx286_1 := hcw hx286_1
    replace p286 := eq_true p286
    replace q286 := eq_true q286
    go_wp2_with (first | (refine bx 4 #[.string (⟨#[]⟩ : ByteArray), .string (⟨#[]⟩ : ByteArray)] 100 ?_; intro gb287 hg w21 hbox hb; have BK287 := am (hbox); have GW287 := am (sz hg : w.heap.size ≤ gb287); have GE287 := am (sz hg : w.heap.size ≤ gb287); replace HB := am (below_step bl hb); clear hb hbox hg; obtain ⟨z22_0, y22_0, z22_1, y22_1⟩ := cl2 BK287) | (refine gl 14 Tryz.func129 #[.string ((rd_T100 l0 x7_1).f0)] ?_; (with_reducible refine (impl_TokenOk.calls k1 ((rd_T100 l0 x7_1).f0) true _ A5.out).mono ?_); rintro e w' ⟨rfl, ⟨nd, rfl⟩⟩; refine ⟨_, rfl, ?_⟩) | (go_at_call 110; (with_reducible refine (impl_ValueOk.calls k1 ((rd_T100 l0 x7_1).f1) true _ A7.out).mono ?_); rintro e w23 ⟨rfl, hb⟩; replace BK287 := am (blk_below (g := gb287) (o := .cells #[.string ((rd_T100 l0 x7_1).f0), .string ((rd_T100 l0 x7_1).f1)] 100 (0, 0)) (pt0 BK287) hb); replace HB := am (below_step bl hb); clear hb; obtain ⟨z24_0, y24_0, z24_1, y24_1⟩ := cl2 BK287) | (go_at_call 130; (with_reducible refine (impl_fieldAt.calls _ _ l0 ((rd_T100 l0 x7_1).f0) t290 _ ?side1 ?side2 A14.out).mono ?_); (case side1 => exact cb HR0); (case side2 => exact HC0.out); rintro e w25 ⟨rfl, hb⟩; replace BK287 := kb BK287 hb; replace HB := am (below_step bl hb); clear hb))
    go_ret
    exact ⟨rf, bl⟩
   rw [if_pos c15] at H
   have c15b0 : (t290 == x7_1) = true := beq_iff_eq.mpr c15
   have c15b1 : (t290 != x7_1) = false := bne_eq_false_iff_eq.mpr c15
   clear c15
   have H' := am H
   clear H
   have p286 : 0 ≤ (x7_1 : Int) := od
   have q286 : x7_1 < (l0.length : Int) := od
   obtain ⟨ad286, e286, hx286_0, hx286_1⟩ := at_T100 HR0.out x7_1 p286 q286
   cases e286
   replace hx286_0 := hcw hx286_0
   replace hx286_1 := hcw hx286_1
   replace p286 := eq_true p286
   replace q286 := eq_true q286
   go_wp2_with (first | (refine bx 4 #[.string (⟨#[]⟩ : ByteArray), .string (⟨#[]⟩ : ByteArray)] 100 ?_; intro gb287 hg w16 hbox hb; have BK287 := am (hbox); have GW287 := am (sz hg : w.heap.size ≤ gb287); have GE287 := am (sz hg : w.heap.size ≤ gb287); replace HB := am (below_step bl hb); clear hb hbox hg; obtain ⟨z17_0, y17_0, z17_1, y17_1⟩ := cl2 BK287) | (refine gl 14 Tryz.func129 #[.string ((rd_T100 l0 x7_1).f0)] ?_; (with_reducible refine (impl_TokenOk.calls k1 ((rd_T100 l0 x7_1).f0) true _ A5.out).mono ?_); rintro e w' ⟨rfl, ⟨nd, rfl⟩⟩; refine ⟨_, rfl, ?_⟩) | (go_at_call 110; (with_reducible refine (impl_ValueOk.calls k1 ((rd_T100 l0 x7_1).f1) true _ A7.out).mono ?_); rintro e w18 ⟨rfl, hb⟩; replace BK287 := am (blk_below (g := gb287) (o := .cells #[.string ((rd_T100 l0 x7_1).f0), .string ((rd_T100 l0 x7_1).f1)] 100 (0, 0)) (pt0 BK287) hb); replace HB := am (below_step bl hb); clear hb; obtain ⟨z19_0, y19_0, z19_1, y19_1⟩ := cl2 BK287) | (go_at_call 130; (with_reducible refine (impl_fieldAt.calls _ _ l0 ((rd_T100 l0 x7_1).f0) t290 _ ?side1 ?side2 A14.out).mono ?_); (case side1 => exact cb HR0); (case side2 => exact HC0.out); rintro e w20 ⟨rfl, hb⟩; replace BK287 := kb BK287 hb; replace HB := am (below_step bl hb); clear hb))
   go_roundg k1
   case measure => have := HK1.out; omega
   case rel => exact ⟨(wrap64 (x7_1 + 1)), rs, H', ⟨by have := HK1.out; omega⟩, ⟨u82HB⟩⟩

/-! ### strings.Builder, written and read: a builder that the call has made -/
set_option maxHeartbeats 1000000 in
set_option maxRecDepth 100000 in
theorem bldCheck_used (b : Nat) (w : World) (h0 : w.cell? ⟨b, 0, none⟩ = some (.pointer (some ⟨b, 0, none⟩))) :
  Calls Tryz.prog 153 #[.pointer (some ⟨b, 0, none⟩)] w fun e w' => e = .returned (.tuple #[]) ∧ w' = w := by
 obtain ⟨j, hj, _⟩ := Option.map_eq_some_iff.1 (show (Tryz.prog.info? 133).map (fun i => i.size) = some 2 by kernel_rfl)
 go_enter Tryz.func153, Tryz.ntmps153
 go_wp2
 rw [Lib.run_neq_ptr_same w _ Tryz.underlying131 hj]
 go_wp2
 go_end0
 exact ⟨rfl, rfl⟩
set_option maxHeartbeats 1000000 in
set_option maxRecDepth 100000 in
theorem bldCheck_fresh (b : Nat) (w : World) (h0 : w.cell? ⟨b, 0, none⟩ = some (.pointer none)) (hsh : w.shape? b = some (133, 2)) (hfz : w.frozen? ⟨b, 0, none⟩ = false) :
  Calls Tryz.prog 153 #[.pointer (some ⟨b, 0, none⟩)] w fun e w' => e = .returned (.tuple #[]) ∧ w' = w.setCell ⟨b, 0, none⟩ (.pointer (some ⟨b, 0, none⟩)) := by
 obtain ⟨j, hj, hjs⟩ := Option.map_eq_some_iff.1 (show (Tryz.prog.info? 133).map (fun i => i.size) = some 2 by kernel_rfl)
 go_enter Tryz.func153, Tryz.ntmps153
 go_wp2
 rw [Lib.run_to_unsafe w ⟨b, 0, none⟩ Tryz.underlying131 Tryz.underlying163 hj (by rw [hjs]; decide) hsh (Nat.zero_lt_succ 1)]
 simp only [Result.andThen]
 rw [Oper.upon_value]
 go_wp2
 rw [run_callFunc_extern Tryz.func173 (by kernel_rfl) (by kernel_rfl) (by kernel_rfl) (e := Extern.AbiNoEscape.same) (by kernel_rfl)]
 rw [Lib.run_noEscape]
 simp only [Result.andThen]
 rw [Oper.upon_value]
 go_wp2
 rw [Lib.run_from_unsafe w ⟨b, 0, none⟩ Tryz.underlying163 Tryz.underlying131 hj hsh (by kernel_rfl)]
 simp only [Result.andThen]
 rw [Oper.upon_value]
 go_wp2
 go_end0
 exact ⟨rfl, rfl⟩
theorem bldCheck (B b : Nat) (bs : List Value) (w : World) (h : Lib.IsBuilder 133 5 B b bs w) :
  Calls Tryz.prog 153 #[.pointer (some ⟨b, 0, none⟩)] w fun e w' => e = .returned (.tuple #[]) ∧ (Lib.BuilderAt 133 5 B b (.pointer (some ⟨b, 0, none⟩)) bs w' ∧ Below B w w') := by
 rcases h with h | h
 ·refine (bldCheck_fresh b w h.cell0 h.shape h.frozen0).mono ?_
  rintro e w' ⟨rfl, rfl⟩
  exact ⟨rfl, h.used _, (Below.refl B w).setCell (p := ⟨b, 0, none⟩) h.1 _⟩
 ·refine (bldCheck_used b w h.cell0).mono ?_
  rintro e w' ⟨rfl, rfl⟩
  exact ⟨rfl, h, Below.refl B _⟩
set_option maxHeartbeats 2000000 in
set_option maxRecDepth 100000 in
theorem bldWrite (B b : Nat) (bs : List Value) (s : ByteArray) (w : World) (h : Lib.IsBuilder 133 5 B b bs w) (hlen : bs.length + s.size ≤ 140737488355328) (hBw : B ≤ w.heap.size) :
  Calls Tryz.prog 122 #[.pointer (some ⟨b, 0, none⟩), .string s] w fun e w' => e = .returned (.tuple #[.int .i64 s.size, .nilIface]) ∧ (Lib.BuilderAt 133 5 B b (.pointer (some ⟨b, 0, none⟩)) (bs ++ Lib.strCells s) w' ∧ Below B w w') := by
 obtain ⟨i0, hi, hz0, hz1, hz2⟩ := info_parts (show (Tryz.prog.info? 5).map (fun i => (i.zero, i.size, i.bytes)) = some (some (.int .u8 0), 1, 1) by kernel_rfl)
 go_enter Tryz.func122, Tryz.ntmps122
 go_wp2_with (go_at_call 153; refine (bldCheck B b bs _ h).mono ?_)
 rintro e w1 ⟨rfl, h1, hb1⟩
 obtain ⟨hB, v, hbk, hown, hne⟩ := h1
 have c0 : w1.cell? ⟨b, 0, none⟩ = some (.pointer (some ⟨b, 0, none⟩)) := by rw [Lib.cell_of_heap hbk]; rfl
 have c1 : w1.cell? ⟨b, 1, none⟩ = some v := by rw [Lib.cell_of_heap hbk]; rfl
 go_wp2_with (at_builtin; refine Lib.wpList_append_own_string _ rfl _ _ 22 9 rfl B 5 i0 Tryz.underlying22 Tryz.underlying9 hi hz0 hz1 hz2 _ _ _ rfl hown s rfl ?c3 ?c4 ?c5 ?_)
 case c3 => unfold maxLen; omega
 case c4 => omega
 case c5 => have := hb1.size; omega
 intro v' w2 hown' hgrow _
 have hlt : b < w1.heap.size := by
  rcases Nat.lt_or_ge b w1.heap.size with h' | h'
  ·exact h'
  ·simp [Array.getElem?_eq_none h'] at hbk
 have hb2 : w2.heap[b]? = some (.cells #[.pointer (some ⟨b, 0, none⟩), v] 133 (0, 0)) := by
  rw [hgrow.block b hlt (fun e => hne e.symm)]
  exact hbk
 have d0 : w2.cell? ⟨b, 0, none⟩ = some (.pointer (some ⟨b, 0, none⟩)) := by rw [Lib.cell_of_heap hb2]; rfl
 have d1 : w2.cell? ⟨b, 1, none⟩ = some v := by rw [Lib.cell_of_heap hb2]; rfl
 have f1 : w2.frozen? ⟨b, 1, none⟩ = false := Lib.frozen_of_heap hb2 1
 obtain ⟨ao, n', cap, rfl⟩ : ∃ ao n' cap, v' = .slice ao n' cap := by
  rcases hown'.2 with ⟨hv, _⟩ | ⟨g, cap, cur, hv, _⟩
  ·exact ⟨_, _, _, hv⟩
  ·exact ⟨_, _, _, hv⟩
 go_wp2
 go_ret2
 refine ⟨rfl, ?_, ?_⟩
 ·exact Lib.BuilderAt.put (T := 133) (e := 5) hB hb2 (bs' := bs ++ Lib.strCells s) (by simpa [Lib.strCells_length] using hown') (by decide)
 ·exact (hb1.grown hgrow (by have := hb1.size; omega) (fun k hk => (hown.lt k hk).1)).setCell (p := ⟨b, 1, none⟩) hB _
theorem bldAt_below {T e : TypeId} {B b : Nat} {p : Value} {bs : List Value} {w w1 : World} (h : Lib.BuilderAt T e B b p bs w) (hb : Below w.heap.size w w1) : Lib.BuilderAt T e B b p bs w1 := by
 obtain ⟨h1, v, h2, h3, h4⟩ := h
 exact ⟨h1, v, blk_below h2 hb, pw_own_below h3 hb, h4⟩
theorem bld_below {T e : TypeId} {B b : Nat} {bs : List Value} {w w1 : World} (h : Lib.IsBuilder T e B b bs w) (hb : Below w.heap.size w w1) : Lib.IsBuilder T e B b bs w1 := by
 rcases h with h | h
 ·exact .inl (bldAt_below h hb)
 ·exact .inr (bldAt_below h hb)

/-! ### impl.FieldsText: through a strings.Builder -/
def fieldLine (x : S100) : List UInt8 := x.f0.data.toList ++ [58, 32] ++ x.f1.data.toList ++ [13, 10]
def fieldLines : List S100 → List UInt8
 | [] => []
 | x :: r => fieldLine x ++ fieldLines r
theorem fieldLines_append : ∀ a b, fieldLines (a ++ b) = fieldLines a ++ fieldLines b
 | [], b => rfl
 | x :: r, b => by simp [fieldLines, fieldLines_append r b]
theorem fieldLines_take {l : List S100} {k : Nat} (h : k < l.length) : fieldLines (l.take (k + 1)) = fieldLines (l.take k) ++ fieldLine l[k] := by
 rw [List.take_succ_eq_append_getElem h, fieldLines_append]; simp [fieldLines]
theorem fieldLines_le {l : List S100} {k : Nat} (h : k < l.length) : (fieldLines (l.take k)).length + (fieldLine l[k]).length ≤ (fieldLines l).length := by
 have h1 : fieldLines l = fieldLines (l.take (k + 1)) ++ fieldLines (l.drop (k + 1)) := by rw [← fieldLines_append, List.take_append_drop]
 rw [h1, fieldLines_take h, List.length_append, List.length_append]; omega
def impl_FieldsText.f (l0 : List S100) : Option ByteArray := if l0.length < 4398046511104 ∧ (fieldLines l0).length ≤ 1099511627776 then some ⟨(fieldLines l0).toArray⟩ else none
set_option maxHeartbeats 4000000 in
set_option maxRecDepth 100000 in
theorem impl_FieldsText.calls (A0 : Option Addr) (c0 : Nat) (l0 : List (S100)) (r : ByteArray) (w : World) (hr0 : Kd.C k100 w A0 l0.length l0) (hc0 : l0.length ≤ c0) (h : impl_FieldsText.f l0 = some r) :
  Calls Tryz.prog 73 #[.slice A0 l0.length c0] w fun e w' => e = .returned (.string r) ∧ Below w.heap.size w w' := by
 unfold impl_FieldsText.f at h
 split at h
 case isFalse => cases h
 rename_i hl
 obtain rfl := Option.some.inj h
 have HN := am hl
 have HR := am hr0
 clear h hl hr0 hc0
 have HF := am (Lib.fresh_isBuilder 133 5 w)
 go_enter Tryz.func73, Tryz.ntmps73
 go_wp2
 go_loopw [8] (fun i wr => ∃ k : Nat, k ≤ l0.length ∧ i = .int .i64 k ∧ Aside0 (Lib.IsBuilder 133 5 w.heap.size w.heap.size (Lib.byteCells (fieldLines (l0.take k))) wr) ∧ Below w.heap.size w wr) (fun i _ => l0.length - (intOf i).toNat)
 case atStart => exact ⟨0, Nat.zero_le _, rfl, HF, (Below.refl _ _).alloc (Nat.le_refl _) _⟩
 case round =>
  obtain ⟨k, hk, rfl, hr, hb⟩ := hrel
  have hk2 : ((k : Nat) : Int) ≤ 4611686018427387904 := by have := HN.out.1; omega
  by_cases hlt : k < l0.length
  ·obtain ⟨ad, e1, hx0, hx1⟩ := at_T100 HR.out k (by omega) (by omega)
   have hx : rd_T100 l0 k = l0[k] := by simp [rd_T100, List.getD, hlt]
   rw [hx, Int.toNat_natCast] at hx0 hx1
   cases e1
   replace hx0 := pw_cell_below hb hx0
   replace hx1 := pw_cell_below hb hx1
   have hle := fieldLines_le hlt
   have hsz : (fieldLine l0[k]).length = l0[k].f0.size + 2 + l0[k].f1.size + 2 := by
    simp only [fieldLine, List.length_append, data_length]; rfl
   have ht := fieldLines_take hlt
   obtain ⟨f0, hf0⟩ : ∃ f, f = l0[k].f0 := ⟨_, rfl⟩
   obtain ⟨f1, hf1⟩ : ∃ f, f = l0[k].f1 := ⟨_, rfl⟩
   have hline : fieldLine l0[k] = (f0 ++ (⟨#[58, 32]⟩ : ByteArray) ++ f1 ++ (⟨#[13, 10]⟩ : ByteArray)).data.toList := by
    rw [hf0, hf1]; simp [fieldLine, ByteArray.data_append]
   rw [← hf0] at hx0
   rw [← hf1] at hx1
   rw [hline] at ht
   rw [hsz, ← hf0, ← hf1] at hle
   have HT := am ht
   have s1 : f0.size + 2 ≤ 9223372036854775807 := by have := HN.out.2; omega
   have s2 : f0.size + 2 + f1.size ≤ 9223372036854775807 := by have := HN.out.2; omega
   have s3 : f0.size + 2 + f1.size + 2 ≤ 9223372036854775807 := by have := HN.out.2; omega
   have HLE := am hle
   clear hx hle hsz ht hline hf0 hf1
   have HS : ((f0 ++ (⟨#[58, 32]⟩ : ByteArray) ++ f1 ++ (⟨#[13, 10]⟩ : ByteArray)).size) = f0.size + 2 + f1.size + 2 := by
    rw [ByteArray.size_append, ByteArray.size_append, ByteArray.size_append]; rfl
   have HS := am HS
   go_wp2_with (first | (go_at_call 122; refine (bldWrite w.heap.size w.heap.size _ _ _ (bld_below hr.out ((Below.refl _ _).alloc (Nat.le_refl _) _)) (by rw [HS.out, Lib.byteCells_length]; have := HLE.out; have := HN.out.2; omega) (by have := hb.size; simp; omega)).mono ?_; rintro e w2 ⟨rfl, h2, hb2⟩; rw [Lib.strCells_eq, ← Lib.byteCells_append, ← HT.out] at h2; have H2 := am h2; have HB2 := am hb2; clear h2 hb2))
   go_roundw
   case rel => exact ⟨k + 1, by omega, by go_num, ⟨.inr H2.out⟩, (hb.alloc hb.size _).trans HB2.out⟩
   case measure => simp [intOf]; omega
  ·have hkk : k = l0.length := by omega
   have HK := am hkk
   clear hkk
   go_wp2_with (first | (go_at_call 123; refine (Tryz.Builder_String_any w.heap.size w.heap.size _ _ hr.out hb.size).mono ?_; rintro e w2 ⟨rfl, hb2⟩; have HB2 := am hb2; clear hb2))
   go_ret
   exact ⟨by rw [HK.out, List.take_length]; rfl, hb.trans HB2.out⟩

/-! ### strconv.Itoa -/
def strconv_Itoa.f (a0 : Int) : Option ByteArray := if -9223372036854775808 ≤ a0 ∧ a0 ≤ 9223372036854775807 then some ⟨(Lib.itoa a0).toArray⟩ else none
theorem strconv_Itoa.calls (a0 : Int) (r : ByteArray) (w : World) (hGT : GLOBT w) (h : strconv_Itoa.f a0 = some r) :
  Calls Tryz.prog 95 #[.int .i64 a0] w fun e w' => e = .returned (.string r) ∧ Below w.heap.size w w' := by
 unfold strconv_Itoa.f at h
 split at h
 case isFalse => cases h
 rename_i hl
 obtain rfl := Option.some.inj h
 refine (Tryz.strconv_Itoa a0 hl.1 hl.2 w hGT).mono ?_
 rintro e w' ⟨rfl, k, os, rfl⟩
 exact ⟨rfl, Go.Lib.below_grow _ _ (Nat.le_refl _) k os⟩

/-! ### impl_lengthLine: function 74 -/
def impl_lengthLine.f (a0 : ByteArray) : Option (ByteArray) := (strconv_Itoa.f (a0.size : Int)).bind fun t295 => (if 16 + t295.size ≤ 9223372036854775807 then (if ((⟨#[99, 111, 110, 116, 101, 110, 116, 45, 108, 101, 110, 103, 116, 104, 58, 32]⟩ : ByteArray) ++ t295).size + 2 ≤ 9223372036854775807 then (some (((⟨#[99, 111, 110, 116, 101, 110, 116, 45, 108, 101, 110, 103, 116, 104, 58, 32]⟩ : ByteArray) ++ t295) ++ (⟨#[13, 10]⟩ : ByteArray))) else (none)) else (none))
set_option maxHeartbeats 8000000 in
set_option maxRecDepth 100000 in
theorem impl_lengthLine.calls (a0 : ByteArray) (r : ByteArray) (w : World) (hGT : GLOBT w) (h : impl_lengthLine.f a0 = some r) :
  Calls Tryz.prog 74 #[.string a0] w fun e w' => e = .returned (.string r) ∧ Below w.heap.size w w' := by
 have HGT := am hGT
 clear hGT
 have HB := am (Below.refl w.heap.size w)
 unfold impl_lengthLine.f at h
 have H := h
 clear h
 revert H
 refine ok1 fun t295 A2 H => ?_
 revert H
 refine ifn fun c3 H => ?_
 have c3b0 := eq_true c3
 have c3b1 := decide_eq_true c3
 try have c3b2 := eq_false (Nat.not_lt.2 c3)
 revert H
 refine ifn fun c4 H => ?_
 have c4b0 := eq_true c4
 have c4b1 := decide_eq_true c4
 try have c4b2 := eq_false (Nat.not_lt.2 c4)
 have c4b3 : (9223372036854775807 < 16 + (t295).size + 2) = False := b3 c4
 obtain rfl := Option.some.inj H
 go_enter Tryz.func74, Tryz.ntmps74
 go_wp2_with (first | (refine gl 5 Tryz.func95 #[.int .i64 (a0.size : Int)] ?_; (with_reducible refine (strconv_Itoa.calls (a0.size : Int) t295 _ ?side1 A2.out).mono ?_); (case side1 => exact GLOBT.below HGT.out bl); rintro e w5 ⟨rfl, hb⟩; refine ⟨_, rfl, ?_⟩; replace HB := am (below_step bl hb); clear hb))
 go_ret
 exact ⟨rf, bl⟩

/-! ### strings.Split -/
def splitBs (a0 a1 : ByteArray) : List ByteArray := Lib.splitB a1 0 (Lib.countB a0 a1) a0
def strings_Split.f (a0 a1 : ByteArray) : Option (List ByteArray) := if a0.size < 4294967281 ∧ 1 ≤ a1.size then some (splitBs a0 a1) else none
theorem strings_Split.calls (a0 a1 : ByteArray) (r : List ByteArray) (w : World) (hGM : GLOBM w) (h : strings_Split.f a0 a1 = some r) :
  Calls Tryz.prog 84 #[.string a0, .string a1] w fun e w' => ∃ v0_ : Value, e = .returned v0_ ∧ Kd.R Kd.string 9 w' w.heap.size (fun _ => True) v0_ r ∧ Below w.heap.size w w' := by
 unfold strings_Split.f at h
 split at h
 case isFalse => cases h
 rename_i hl
 obtain rfl := Option.some.inj h
 obtain ⟨m, hm⟩ := hGM
 refine (Tryz.strings_Split a0 a1 m w hl.1 hm hl.2).mono ?_
 rintro e w' ⟨rfl, rfl⟩
 have hlen : (splitBs a0 a1).length = Lib.countB a0 a1 + 1 := Lib.splitB_all a1 hl.2 0 _ a0 rfl
 have hcnt : Lib.countB a0 a1 ≤ a0.size := Lib.countB_le a1 hl.2 _ a0 (Nat.le_refl _)
 refine ⟨_, rfl, ?_, below_alloc (Below.refl _ _) _⟩
 refine Kd.R_of_own (enc := Value.string) (h1 := fun _ => rfl) ⟨by simp [encs], .inr ⟨w.heap.size, Lib.countB a0 a1 + 1, ((splitBs a0 a1).map Value.string).toArray, by rw [hlen], Nat.le_refl _, ?_, by omega, by unfold maxLen; omega, ?_, ?_⟩⟩ (fun _ _ => trivial)
 ·exact Array.getElem?_push_size ..
 ·simp [← hlen, splitBs]
 ·rw [Nat.mul_one]; unfold encs; exact List.take_of_length_le (by simp)

/-! ### strings.Cut -/
def strings_Cut.f (a0 a1 : ByteArray) : Option (ByteArray × ByteArray × Bool) := if a0.size < 4294967281 then some (⟨(Lib.cut a0.data.toList a1.data.toList).1.toArray⟩, ⟨(Lib.cut a0.data.toList a1.data.toList).2.1.toArray⟩, (Lib.cut a0.data.toList a1.data.toList).2.2) else none
theorem strings_Cut.calls (a0 a1 : ByteArray) (r1 r2 : ByteArray) (r3 : Bool) (w : World) (hGM : GLOBM w) (h : strings_Cut.f a0 a1 = some (r1, r2, r3)) :
  Calls Tryz.prog 104 #[.string a0, .string a1] w fun e w' => e = .returned (.tuple #[.string r1, .string r2, .bool r3]) ∧ Below w.heap.size w w' := by
 unfold strings_Cut.f at h
 split at h
 case isFalse => cases h
 rename_i hl
 simp only [Option.some.injEq, Prod.mk.injEq] at h
 obtain ⟨rfl, rfl, rfl⟩ := h
 obtain ⟨m, hm⟩ := hGM
 refine (Tryz.strings_Cut a0 a1 m w hl hm).mono ?_
 rintro e w' ⟨rfl, n, rfl⟩
 exact ⟨rfl, pw_below_drewN (Below.refl _ _) n⟩

/-! ### impl_parts: function 83 -/
theorem u83HB {p : Prop} (h : p := by repeat (first | (with_reducible first | exact HB.out | apply below_alloc | apply pw_below_drewN | apply below_drew1) | exact HB.out)) : p := h
mutual
def impl_parts.j0 : Nat → ByteArray → List ByteArray → Bool → Option (ByteArray × (List (S100)) × ByteArray × Bool)
 | 0, _, _, _ => none
 | k + 1, x7, x9, x30 => if x30 = true then (some ((⟨#[]⟩ : ByteArray), ([] : List (S100)), (⟨#[]⟩ : ByteArray), false)) else (if 1 ≤ (x9.length : Int) then ((some (x9.drop 1 : List ByteArray)).bind fun y307 => (impl_parts.l0 k x7 x9 ([] : List (S100)) y307 (y307.length : Int) 0)) else (none))
def impl_parts.l0 : Nat → ByteArray → List ByteArray → List (S100) → List ByteArray → Int → Int → Option (ByteArray × (List (S100)) × ByteArray × Bool)
 | 0, _, _, _, _, _, _ => none
 | k + 1, x7, x9, x10, x32, x33, x34 => if x34 < x33 then (if 0 ≤ x34 then (if x34 < (x32.length : Int) then ((strings_Cut.f (rdOf ByteArray.empty x32 x34) (⟨#[58, 32]⟩ : ByteArray)).bind fun bt313 => (if bt313.2.2 = true then (if x34 = (wrap64 ((x9.length : Int) - 2)) then (if bt313.1.toList = ([99, 111, 110, 116, 101, 110, 116, 45, 108, 101, 110, 103, 116, 104] : List UInt8) then (if 0 < (x9.length : Int) then (some (rdOf ByteArray.empty x9 0, x10, x7, true)) else (none)) else (if x10.length < 4398046511104 then (impl_parts.l0 k x7 x9 (x10 ++ [(⟨bt313.1, bt313.2.1⟩ : S100)]) x32 x33 (wrap64 (x34 + 1))) else (none))) else (if x10.length < 4398046511104 then (impl_parts.l0 k x7 x9 (x10 ++ [(⟨bt313.1, bt313.2.1⟩ : S100)]) x32 x33 (wrap64 (x34 + 1))) else (none))) else (some ((⟨#[]⟩ : ByteArray), ([] : List (S100)), (⟨#[]⟩ : ByteArray), false)))) else (none)) else (none)) else (if 0 < (x9.length : Int) then (some (rdOf ByteArray.empty x9 0, x10, x7, true)) else (none))
end
def impl_parts.f (k : Nat) (a0 : ByteArray) : Option (ByteArray × (List (S100)) × ByteArray × Bool) := (strings_Cut.f a0 (⟨#[13, 10, 13, 10]⟩ : ByteArray)).bind fun bt301 => ((strings_Split.f bt301.1 (⟨#[13, 10]⟩ : ByteArray)).bind fun t304 => (if bt301.2.2 = true then (impl_parts.j0 k bt301.2.1 t304 (decide ((t304.length : Int) > 10))) else (impl_parts.j0 k bt301.2.1 t304 true)))
theorem impl_parts.mono_l : ∀ k, (∀ y0 y1 y2, LeO (impl_parts.j0 k y0 y1 y2) (impl_parts.j0 (k + 1) y0 y1 y2)) ∧ (∀ y0 y1 y2 y3 y4 y5, LeO (impl_parts.l0 k y0 y1 y2 y3 y4 y5) (impl_parts.l0 (k + 1) y0 y1 y2 y3 y4 y5))
 | 0 => ⟨fun _ _ _ r h => by simp [impl_parts.j0] at h, fun _ _ _ _ _ _ r h => by simp [impl_parts.l0] at h⟩
 | k + 1 => by
  obtain ⟨ih0, ih1⟩ := impl_parts.mono_l k
  refine ⟨?_, ?_⟩
  ·intro y0 y1 y2
   unfold impl_parts.j0
   exact mo
  ·intro y0 y1 y2 y3 y4 y5
   unfold impl_parts.l0
   exact mo
theorem impl_parts.mono : ∀ a0 k, LeO (impl_parts.f k a0) (impl_parts.f (k + 1) a0) := by
 intro a0 k
 obtain ⟨ih0, ih1⟩ := impl_parts.mono_l k
 unfold impl_parts.f
 exact mo
set_option maxHeartbeats 8000000 in
set_option maxRecDepth 100000 in
theorem impl_parts.calls (k : Nat) (a0 : ByteArray) (r1 : ByteArray) (r2 : List (S100)) (r3 : ByteArray) (r4 : Bool) (w : World) (hGM : GLOBM w) (h : impl_parts.f k a0 = some (r1, r2, r3, r4)) :
  Calls Tryz.prog 83 #[.string a0] w fun e w' => ∃ v1_ : Value, e = .returned (.tuple #[.string r1, v1_, .string r3, .bool r4]) ∧ Kd.R k100 100 w' w.heap.size (fun _ => True) v1_ r2 ∧ Below w.heap.size w w' := by
 have hu100 := Tryz.underlying100
 have HGM := am hGM
 clear hGM
 have HB := am (Below.refl w.heap.size w)
 unfold impl_parts.f at h
 have H := h
 clear h
 revert H
 refine ok3 fun t301 t302 t303 A2 H => ?_
 (try dsimp only at H)
 revert H
 refine ok1 fun t304 A3 H => ?_
 have HC4 := am H
 clear H
 go_enter Tryz.func83, Tryz.ntmps83
 go_upto_region 3 with (first | (refine gl 18 Tryz.func104 #[.string a0, .string (⟨#[13, 10, 13, 10]⟩ : ByteArray)] ?_; (with_reducible refine (strings_Cut.calls a0 (⟨#[13, 10, 13, 10]⟩ : ByteArray) t301 t302 t303 _ ?side1 A2.out).mono ?_); (case side1 => exact GLOBM.below HGM.out bl); rintro e w5 ⟨rfl, hb⟩; refine ⟨_, rfl, ?_⟩; replace HB := am (below_step bl hb); clear hb) | (refine gl 23 Tryz.func84 #[.string t301, .string (⟨#[13, 10]⟩ : ByteArray)] ?_; (with_reducible refine (strings_Split.calls t301 (⟨#[13, 10]⟩ : ByteArray) t304 _ ?side1 A3.out).mono ?_); (case side1 => exact GLOBM.below HGM.out bl); rintro e w6 ⟨v305, rfl, ho0, hb⟩; refine ⟨_, rfl, ?_⟩; have HO306 := am (Kd.R_lower ho0 (below_size bl)); replace HB := am (below_step bl hb); clear hb ho0))
 (try simp only [Act.put, List.setIfInBounds_toArray, List.set_cons_zero, List.set_cons_succ])
 go_cut [30] (fun v30 wc => ∃ (kq : Nat) (x30_3 : Bool), v30 = .bool x30_3 ∧ Aside0 (impl_parts.j0 kq t302 t304 x30_3 = some (r1, r2, r3, r4)) ∧ Aside0 (kq ≤ k) ∧ Aside0 (Kd.R Kd.string 9 wc w.heap.size (fun _ => True) v305 t304) ∧ Aside0 (Below w.heap.size w wc))
 case first =>
  have H := HC4.out
  clear HC4
  by_cases c7 : t303 = true
  rotate_left
  ·replace c7 := Bool.eq_false_iff.mpr c7
   subst c7
   rw [if_neg (show ¬ (false = true) by decide)] at H
   have H' := am H
   clear H
   go_wp2
   go_meet
   case rel => exact ⟨_, (true), rs, H', ⟨by first | omega | exact Nat.le_refl _⟩, ⟨by (with_reducible repeat (first | apply Kd.R_alloc | apply Kd.R_drewN | apply Kd.R_drew)); exact HO306.out⟩, ⟨u83HB⟩⟩
  subst c7
  rw [if_pos rfl] at H
  have H' := am H
  clear H
  obtain ⟨Ao8, co8, eo8⟩ := Kd.R_slice HO306.out
  subst eo8
  go_wp2
  go_meet
  case rel => exact ⟨_, (decide ((t304.length : Int) > 10)), rs, H', ⟨by first | omega | exact Nat.le_refl _⟩, ⟨by (with_reducible repeat (first | apply Kd.R_alloc | apply Kd.R_drewN | apply Kd.R_drew)); exact HO306.out⟩, ⟨u83HB⟩⟩
 case rest =>
  clear HC4
  try clear c1
  try clear p2
  try clear c7
  try clear c8
  obtain ⟨kq, x30_3, rfl, HA, HJ3, HO_9, HB⟩ := hcut
  cases kq with
  | zero => exact absurd HA.out (by simp [impl_parts.j0])
  | succ kj3 =>
   have H := HA.out
   clear HA
   simp only [impl_parts.j0] at H
   by_cases c9 : x30_3 = true
   ·subst c9
    rw [if_pos rfl] at H
    simp only [Option.some.injEq, Prod.mk.injEq] at H
    obtain ⟨rfl, rfl, rfl, rfl⟩ := H
    go_wp2
    refine bodyPost_ret (results_list (rs := [.tmp 2, .tmp 3, .tmp 4, .tmp 5]) rfl (by simp) (.tmp (.tmp (.tmp (.tmp .nil))))) rfl ?_
    exact ⟨_, rf, by first | exact Kd.R_nil _ _ _ _ _ | exact Kd.N_nil _ _ _ _ _ | exact Kd.V_nil _ _ _ _ _ | exact Kd.Q_nil _ _ _ _ _ | exact Kd.S_nil _ _ _ _ _, bl⟩
   replace c9 := Bool.eq_false_iff.mpr c9
   subst c9
   rw [if_neg (show ¬ (false = true) by decide)] at H
   revert H
   refine ifn fun c10 H => ?_
   have c10b0 := eq_true c10
   have c10b1 := decide_eq_true c10
   clear c10
   obtain ⟨y307, hy307⟩ : ∃ y_ : List ByteArray, y_ = (t304.drop 1) := ⟨_, rfl⟩
   replace H : (impl_parts.l0 kj3 t302 t304 ([] : List (S100)) y307 (y307.length : Int) 0) = some (r1, r2, r3, r4) := by first | (rw [hy307]; with_reducible exact H) | (have H2_ := (Option.bind_some _ _).symm.trans H; rw [hy307]; with_reducible exact H2_) | (have H2_ := (Option.bind_some _ _).symm.trans H; with_reducible exact H2_) | with_reducible exact H | (rw [hy307]; exact H) | exact H
   have Ny307 := am hy307
   clear hy307
   have H' := am H
   clear H
   obtain ⟨Ao12, co12, eo12⟩ := Kd.R_slice HO_9.out
   subst eo12
   have q11 : (1 : Int) ≤ ((t304.length : Int) : Int) := od
   obtain ⟨i011, hi011, _, hsz11, _⟩ := info_parts info9
   have hroom11 : t304.length ≤ co12 := (Kd.R_reads' HO_9.out).2.1
   have hC11 : Kd.C Kd.string _ Ao12 t304.length t304 := (Kd.R_reads' HO_9.out).2.2
   have hcut11 := cut_from (P := Tryz.prog) 35 9 .i64 Tryz.underlying35 hi011 1 hsz11 Ao12 t304.length co12 1 (by omega) q11
   have hr11 := Kd.C_drop (m := (1 : Int).toNat) (c := co12) hC11 (by omega) hroom11
   obtain ⟨A11, hA11⟩ : ∃ A1, A1 = (if co12 = (1 : Int).toNat then Ao12 else (Ao12 : Option Addr).map (·.add ((1 : Int).toNat * 1))) := ⟨_, rfl⟩
   obtain ⟨c11, hc11⟩ : ∃ c1, c1 = co12 - (1 : Int).toNat := ⟨_, rfl⟩
   have hy11 : y307.length = t304.length - (1 : Int).toNat := (by rw [Ny307.out, List.length_drop] <;> omega)
   rw [show (t304).drop (1 : Int).toNat = y307 from Ny307.out.symm] at hr11
   replace hr11 : Kd.C Kd.string _ A11 y307.length y307 := (by rw [hA11]; exact hr11)
   rw [← hy11, ← hA11, ← hc11] at hcut11
   have HR310 := am hr11
   have HC310 := am (show y307.length ≤ c11 from by rw [hy11, hc11]; exact Nat.sub_le_sub_right hroom11 _)
   clear hr11 hC11 hroom11 hi011 hsz11 hc11
   have KY11 := am hy11
   have KA11 := am hA11
   clear hy11 hA11
   have KL11 := am (show 1 ≤ t304.length from by omega)
   replace q11 := eq_true q11
   go_wp2
   (try simp only [Act.put, List.setIfInBounds_toArray, List.set_cons_zero, List.set_cons_succ])
   go_loopg [10, 34] kj3 (fun kq v10 v34 w' => ∃ (x10_2 : List (S100)) (x34_2 : Int), v34 = .int .i64 x34_2 ∧ Aside0 (impl_parts.l0 kq t302 t304 x10_2 y307 (y307.length : Int) x34_2 = some (r1, r2, r3, r4)) ∧ Aside0 (kq ≤ kj3) ∧ Aside0 (Kd.R Kd.string 9 w' w.heap.size (fun _ => True) (.slice Ao12 t304.length co12) t304) ∧ Aside0 (Kd.R k100 100 w' w.heap.size (fun _ => True) v10 x10_2) ∧ Aside0 (Kd.C Kd.string w' A11 y307.length y307) ∧ Aside0 (Below w.heap.size w w'))
   case atStart => exact ⟨(([] : List (S100))), (0), rs, H', ⟨Nat.le_refl _⟩, ⟨by (with_reducible repeat (first | apply Kd.R_alloc | apply Kd.R_drewN | apply Kd.R_drew)); exact HO_9.out⟩, ⟨by first | exact Kd.R_nil _ _ _ _ _ | exact Kd.N_nil _ _ _ _ _ | exact Kd.V_nil _ _ _ _ _ | exact Kd.Q_nil _ _ _ _ _ | exact Kd.S_nil _ _ _ _ _⟩, ⟨by repeat (first | (with_reducible exact HR310.out) | (with_reducible refine Kd.C_alloc ?_ _) | (with_reducible refine Kd.C_drewN ?_ _) | (with_reducible refine Kd.C_drew ?_) | exact HR310.out)⟩, ⟨u83HB⟩⟩
   case round =>
    clear H'
    try clear c1
    try clear q1
    try clear p2
    try clear c7
    try clear c8
    try clear c9
    try clear c10
    try clear c10b0
    try clear c10b1
    try clear c11
    try clear q11
    try clear p2
    try clear q11
    obtain ⟨x10_2, x34_2, rfl, HA, HK2, HO_9, HO_10, HR310, HB⟩ := hrel
    cases gk with
    | zero => exact absurd HA.out (by simp [impl_parts.l0])
    | succ k2 =>
     have H := HA.out
     clear HA
     simp only [impl_parts.l0] at H
     by_cases c13 : x34_2 < (y307.length : Int)
     rotate_left
     ·rw [if_neg c13] at H
      have c13b0 := decide_eq_false c13
      clear c13
      revert H
      refine ifn fun c29 H => ?_
      have c29b0 := decide_eq_true c29
      have c29b1 : decide (0 < t304.length) = true := decide_eq_true (by omega)
      clear c29
      simp only [Option.some.injEq, Prod.mk.injEq] at H
      obtain ⟨rfl, rfl, rfl, rfl⟩ := H
      have p311 : 0 ≤ (0 : Int) := (by omega)
      have q311 : 0 < (t304.length : Int) := od
      obtain ⟨ad311, e311, hx311_0⟩ := Kd.at_string (Kd.R_reads' HO_9.out).2.2 0 p311 q311
      cases e311
      have qi311 : (0 < t304.length) = True := eq_true (by omega)
      (try rw [show ((0 : Int)).toNat = 0 from rfl] at hx311_0)
      (try rw [Addr.add_zero'] at hx311_0)
      replace p311 := eq_true p311
      replace q311 := eq_true q311
      go_wp2
      refine bodyPost_ret (results_list (rs := [.tmp 2, .tmp 3, .tmp 4, .tmp 5]) rfl (by simp) (.tmp (.tmp (.tmp (.tmp .nil))))) rfl ?_
      exact ⟨_, rf, by (with_reducible repeat (first | apply Kd.R_alloc | apply Kd.R_drewN | apply Kd.R_drew)); exact HO_10.out, bl⟩
     rw [if_pos c13] at H
     have c13b0 := decide_eq_true c13
     clear c13
     revert H
     refine ifn fun c14 H => ?_
     have c14b0 := decide_eq_true c14
     clear c14
     revert H
     refine ifn fun c15 H => ?_
     have c15b0 := decide_eq_true c15
     clear c15
     revert H
     refine ok3 fun t313 t314 t315 A16 H => ?_
     (try dsimp only at H)
     by_cases c17 : t315 = true
     rotate_left
     ·replace c17 := Bool.eq_false_iff.mpr c17
      subst c17
      rw [if_neg (show ¬ (false = true) by decide)] at H
      simp only [Option.some.injEq, Prod.mk.injEq] at H
      obtain ⟨rfl, rfl, rfl, rfl⟩ := H
      have p312 : 0 ≤ (x34_2 : Int) := od
      have q312 : x34_2 < (y307.length : Int) := od
      obtain ⟨ad312, e312, hx312_0⟩ := Kd.at_string HR310.out x34_2 p312 q312
      cases e312
      replace p312 := eq_true p312
      replace q312 := eq_true q312
      go_wp2_with (first | (refine gl 41 Tryz.func104 #[.string (rdOf ByteArray.empty y307 x34_2), .string (⟨#[58, 32]⟩ : ByteArray)] ?_; (with_reducible refine (strings_Cut.calls (rdOf ByteArray.empty y307 x34_2) (⟨#[58, 32]⟩ : ByteArray) t313 t314 false _ ?side1 A16.out).mono ?_); (case side1 => exact GLOBM.below HGM.out bl); rintro e w28 ⟨rfl, hb⟩; refine ⟨_, rfl, ?_⟩; replace HO_9 := kr HO_9 hb; replace HO_10 := kr HO_10 hb; replace HR310 := am (Kd.C_below (by repeat (first | (with_reducible exact HR310.out) | (with_reducible refine Kd.C_alloc ?_ _) | (with_reducible refine Kd.C_drewN ?_ _) | (with_reducible refine Kd.C_drew ?_) | exact HR310.out)) hb); replace HB := am (below_step bl hb); clear hb))
      refine bodyPost_ret (results_list (rs := [.tmp 2, .tmp 3, .tmp 4, .tmp 5]) rfl (by simp) (.tmp (.tmp (.tmp (.tmp .nil))))) rfl ?_
      exact ⟨_, rf, by first | exact Kd.R_nil _ _ _ _ _ | exact Kd.N_nil _ _ _ _ _ | exact Kd.V_nil _ _ _ _ _ | exact Kd.Q_nil _ _ _ _ _ | exact Kd.S_nil _ _ _ _ _, bl⟩
     subst c17
     rw [if_pos rfl] at H
     by_cases c18 : x34_2 = (wrap64 ((t304.length : Int) - 2))
     rotate_left
     ·rw [if_neg c18] at H
      have c18b0 : (x34_2 == (wrap64 ((t304.length : Int) - 2))) = false := beq_eq_false_iff_ne.mpr c18
      have c18b1 : (x34_2 != (wrap64 ((t304.length : Int) - 2))) = true := bne_iff_ne.mpr c18
      revert H
      refine ifn fun c25 H => ?_
      have LMc25 := am c25
      clear c25
      obtain ⟨y320, hy320⟩ : ∃ y_ : List (S100), y_ = (x10_2 ++ [(⟨t313, t314⟩ : S100)]) := ⟨_, rfl⟩
      replace H : (impl_parts.l0 k2 t302 t304 y320 y307 (y307.length : Int) (wrap64 (x34_2 + 1))) = some (r1, r2, r3, r4) := by first | (rw [hy320]; with_reducible exact H) | (have H2_ := (Option.bind_some _ _).symm.trans H; rw [hy320]; with_reducible exact H2_) | (have H2_ := (Option.bind_some _ _).symm.trans H; with_reducible exact H2_) | with_reducible exact H | (rw [hy320]; exact H) | exact H
      have Ny320 := am hy320
      clear hy320
      have H' := am H
      clear H
      have p312 : 0 ≤ (x34_2 : Int) := od
      have q312 : x34_2 < (y307.length : Int) := od
      obtain ⟨ad312, e312, hx312_0⟩ := Kd.at_string HR310.out x34_2 p312 q312
      cases e312
      replace p312 := eq_true p312
      replace q312 := eq_true q312
      go_wp2_with (first | (refine gl 41 Tryz.func104 #[.string (rdOf ByteArray.empty y307 x34_2), .string (⟨#[58, 32]⟩ : ByteArray)] ?_; (with_reducible refine (strings_Cut.calls (rdOf ByteArray.empty y307 x34_2) (⟨#[58, 32]⟩ : ByteArray) t313 t314 true _ ?side1 A16.out).mono ?_); (case side1 => exact GLOBM.below HGM.out bl); rintro e w26 ⟨rfl, hb⟩; refine ⟨_, rfl, ?_⟩; replace HO_9 := kr HO_9 hb; replace HO_10 := kr HO_10 hb; replace HR310 := am (Kd.C_below (by repeat (first | (with_reducible exact HR310.out) | (with_reducible refine Kd.C_alloc ?_ _) | (with_reducible refine Kd.C_drewN ?_ _) | (with_reducible refine Kd.C_drew ?_) | exact HR310.out)) hb); replace HB := am (below_step bl hb); clear hb) | ((with_reducible refine gate_builtin (b := .append) (xs := #[.tmp 56, .tmp 60]) rfl ?_); (try (refine gate_guard (by rfl) ?_; dsimp only)); at_builtin; refine Kd.R_append k100 (w0 := w) w.heap.size rfl (.tmp 56) (.tmp 60) 38 100 (.agg #[(.string ⟨#[]⟩), (.string ⟨#[]⟩)]) 32 rfl Tryz.underlying38 info100 rfl (by decide) (by omega) u10 x10_2 (⟨t313, t314⟩ : S100) [.string t313, .string t314] (fun _ => True) (fun _ => False) rfl rfl ?aP (fun _ hk => hk.elim) ?aF ?aO ?aB ?aS ?aL ?_; (case aP => exact k100_mkM _ _ _ (⟨t313, t314⟩ : S100)); (case aB => exact bl); (case aF => exact (fun _ _ => trivial)); (case aO => exact (ro HO_10)); (case aS => exact (below_size bl)); (case aL => have := LMc25.out; omega); intro v321 w27 ho hb hg hat; rw [← Ny320.out] at ho; have n0_ := am (Kd.R_over' (ro HO_9) (Kd.R_typed (ro HO_10)) (by decide) hg); have n1_ := am (hb); have n2_ := am ((show Kd.C Kd.string w27 (some ad312) y307.length y307 from by rw [Ny307.out, KA11.out]; exact Kd.C_drop (m := 1) (c := co12) ((Kd.R_reads' (Kd.R_over' (ro HO_9) (Kd.R_typed (ro HO_10)) (by decide) hg)).2.2) KL11.out ((Kd.R_reads' (Kd.R_over' (ro HO_9) (Kd.R_typed (ro HO_10)) (by decide) hg)).2.1))); have n3_ := am (ho); clear HO_9; clear HB; clear HR310; clear HO_10; have HO_9 := n0_; have HB := n1_; have HR310 := n2_; have HO322 := n3_; clear n0_ n1_ n2_ n3_; clear ho hb hg hat))
      go_roundg k2
      case measure => have := HJ3.out; have := HK2.out; omega
      case rel => exact ⟨(y320), (wrap64 (x34_2 + 1)), rs, H', ⟨by have := HJ3.out; have := HK2.out; omega⟩, ⟨by (with_reducible repeat (first | apply Kd.R_alloc | apply Kd.R_drewN | apply Kd.R_drew)); exact HO_9.out⟩, ⟨by (with_reducible repeat (first | apply Kd.R_alloc | apply Kd.R_drewN | apply Kd.R_drew)); exact HO322.out⟩, ⟨by repeat (first | (with_reducible exact HR310.out) | (with_reducible refine Kd.C_alloc ?_ _) | (with_reducible refine Kd.C_drewN ?_ _) | (with_reducible refine Kd.C_drew ?_) | exact HR310.out)⟩, ⟨u83HB⟩⟩
     rw [if_pos c18] at H
     have c18b0 : (x34_2 == (wrap64 ((t304.length : Int) - 2))) = true := beq_iff_eq.mpr c18
     have c18b1 : (x34_2 != (wrap64 ((t304.length : Int) - 2))) = false := bne_eq_false_iff_eq.mpr c18
     clear c18
     by_cases c19 : t313.toList = ([99, 111, 110, 116, 101, 110, 116, 45, 108, 101, 110, 103, 116, 104] : List UInt8)
     ·rw [if_pos c19] at H
      have c19b0 : (t313.toList == ([99, 111, 110, 116, 101, 110, 116, 45, 108, 101, 110, 103, 116, 104] : List UInt8)) = true := beq_iff_eq.mpr c19
      have c19b1 : (t313.toList != ([99, 111, 110, 116, 101, 110, 116, 45, 108, 101, 110, 103, 116, 104] : List UInt8)) = false := bne_eq_false_iff_eq.mpr c19
      clear c19
      revert H
      refine ifn fun c20 H => ?_
      have c20b0 := decide_eq_true c20
      have c20b1 : decide (0 < t304.length) = true := decide_eq_true (by omega)
      clear c20
      simp only [Option.some.injEq, Prod.mk.injEq] at H
      obtain ⟨rfl, rfl, rfl, rfl⟩ := H
      have p312 : 0 ≤ (x34_2 : Int) := od
      have q312 : x34_2 < (y307.length : Int) := od
      obtain ⟨ad312, e312, hx312_0⟩ := Kd.at_string HR310.out x34_2 p312 q312
      cases e312
      replace p312 := eq_true p312
      replace q312 := eq_true q312
      go_wp2_with (first | (refine gl 41 Tryz.func104 #[.string (rdOf ByteArray.empty y307 x34_2), .string (⟨#[58, 32]⟩ : ByteArray)] ?_; (with_reducible refine (strings_Cut.calls (rdOf ByteArray.empty y307 x34_2) (⟨#[58, 32]⟩ : ByteArray) t313 t314 true _ ?side1 A16.out).mono ?_); (case side1 => exact GLOBM.below HGM.out bl); rintro e w21 ⟨rfl, hb⟩; refine ⟨_, rfl, ?_⟩; replace HO_9 := kr HO_9 hb; replace HO_10 := kr HO_10 hb; replace HR310 := am (Kd.C_below (by repeat (first | (with_reducible exact HR310.out) | (with_reducible refine Kd.C_alloc ?_ _) | (with_reducible refine Kd.C_drewN ?_ _) | (with_reducible refine Kd.C_drew ?_) | exact HR310.out)) hb); replace HB := am (below_step bl hb); clear hb; have p316 : 0 ≤ (0 : Int) := (by omega); have q316 : 0 < (t304.length : Int) := od; obtain ⟨ad316, e316, hx316_0⟩ := Kd.at_string (Kd.R_reads' HO_9.out).2.2 0 p316 q316; cases e316; have qi316 : (0 < t304.length) = True := eq_true (by omega); (try rw [show ((0 : Int)).toNat = 0 from rfl] at hx316_0); (try rw [Addr.add_zero'] at hx316_0); replace p316 := eq_true p316; replace q316 := eq_true q316))
      refine bodyPost_ret (results_list (rs := [.tmp 2, .tmp 3, .tmp 4, .tmp 5]) rfl (by simp) (.tmp (.tmp (.tmp (.tmp .nil))))) rfl ?_
      exact ⟨_, rf, by (with_reducible repeat (first | apply Kd.R_alloc | apply Kd.R_drewN | apply Kd.R_drew)); exact HO_10.out, bl⟩
     rw [if_neg c19] at H
     have c19b0 : (t313.toList == ([99, 111, 110, 116, 101, 110, 116, 45, 108, 101, 110, 103, 116, 104] : List UInt8)) = false := beq_eq_false_iff_ne.mpr c19
     have c19b1 : (t313.toList != ([99, 111, 110, 116, 101, 110, 116, 45, 108, 101, 110, 103, 116, 104] : List UInt8)) = true := bne_iff_ne.mpr c19
     revert H
     refine ifn fun c22 H => ?_
     have LMc22 := am c22
     clear c22
     obtain ⟨y317, hy317⟩ : ∃ y_ : List (S100), y_ = (x10_2 ++ [(⟨t313, t314⟩ : S100)]) := ⟨_, rfl⟩
     replace H : (impl_parts.l0 k2 t302 t304 y317 y307 (y307.length : Int) (wrap64 (x34_2 + 1))) = some (r1, r2, r3, r4) := by first | (rw [hy317]; with_reducible exact H) | (have H2_ := (Option.bind_some _ _).symm.trans H; rw [hy317]; with_reducible exact H2_) | (have H2_ := (Option.bind_some _ _).symm.trans H; with_reducible exact H2_) | with_reducible exact H | (rw [hy317]; exact H) | exact H
     have Ny317 := am hy317
     clear hy317
     have H' := am H
     clear H
     have p312 : 0 ≤ (x34_2 : Int) := od
     have q312 : x34_2 < (y307.length : Int) := od
     obtain ⟨ad312, e312, hx312_0⟩ := Kd.at_string HR310.out x34_2 p312 q312
     cases e312
     replace p312 := eq_true p312
     replace q312 := eq_true q312
     go_wp2_with (first | (refine gl 41 Tryz.func104 #[.string (rdOf ByteArray.empty y307 x34_2), .string (⟨#[58, 32]⟩ : ByteArray)] ?_; (with_reducible refine (strings_Cut.calls (rdOf ByteArray.empty y307 x34_2) (⟨#[58, 32]⟩ : ByteArray) t313 t314 true _ ?side1 A16.out).mono ?_); (case side1 => exact GLOBM.below HGM.out bl); rintro e w23 ⟨rfl, hb⟩; refine ⟨_, rfl, ?_⟩; replace HO_9 := kr HO_9 hb; replace HO_10 := kr HO_10 hb; replace HR310 := am (Kd.C_below (by repeat (first | (with_reducible exact HR310.out) | (with_reducible refine Kd.C_alloc ?_ _) | (with_reducible refine Kd.C_drewN ?_ _) | (with_reducible refine Kd.C_drew ?_) | exact HR310.out)) hb); replace HB := am (below_step bl hb); clear hb) | ((with_reducible refine gate_builtin (b := .append) (xs := #[.tmp 56, .tmp 60]) rfl ?_); (try (refine gate_guard (by rfl) ?_; dsimp only)); at_builtin; refine Kd.R_append k100 (w0 := w) w.heap.size rfl (.tmp 56) (.tmp 60) 38 100 (.agg #[(.string ⟨#[]⟩), (.string ⟨#[]⟩)]) 32 rfl Tryz.underlying38 info100 rfl (by decide) (by omega) u10 x10_2 (⟨t313, t314⟩ : S100) [.string t313, .string t314] (fun _ => True) (fun _ => False) rfl rfl ?aP (fun _ hk => hk.elim) ?aF ?aO ?aB ?aS ?aL ?_; (case aP => exact k100_mkM _ _ _ (⟨t313, t314⟩ : S100)); (case aB => exact bl); (case aF => exact (fun _ _ => trivial)); (case aO => exact (ro HO_10)); (case aS => exact (below_size bl)); (case aL => have := LMc22.out; omega); intro v318 w24 ho hb hg hat; rw [← Ny317.out] at ho; have n0_ := am (Kd.R_over' (ro HO_9) (Kd.R_typed (ro HO_10)) (by decide) hg); have n1_ := am (hb); have n2_ := am ((show Kd.C Kd.string w24 (some ad312) y307.length y307 from by rw [Ny307.out, KA11.out]; exact Kd.C_drop (m := 1) (c := co12) ((Kd.R_reads' (Kd.R_over' (ro HO_9) (Kd.R_typed (ro HO_10)) (by decide) hg)).2.2) KL11.out ((Kd.R_reads' (Kd.R_over' (ro HO_9) (Kd.R_typed (ro HO_10)) (by decide) hg)).2.1))); have n3_ := am (ho); clear HO_9; clear HB; clear HR310; clear HO_10; have HO_9 := n0_; have HB := n1_; have HR310 := n2_; have HO319 := n3_; clear n0_ n1_ n2_ n3_; clear ho hb hg hat))
     go_roundg k2
     case measure => have := HJ3.out; have := HK2.out; omega
     case rel => exact ⟨(y317), (wrap64 (x34_2 + 1)), rs, H', ⟨by have := HJ3.out; have := HK2.out; omega⟩, ⟨by (with_reducible repeat (first | apply Kd.R_alloc | apply Kd.R_drewN | apply Kd.R_drew)); exact HO_9.out⟩, ⟨by (with_reducible repeat (first | apply Kd.R_alloc | apply Kd.R_drewN | apply Kd.R_drew)); exact HO319.out⟩, ⟨by repeat (first | (with_reducible exact HR310.out) | (with_reducible refine Kd.C_alloc ?_ _) | (with_reducible refine Kd.C_drewN ?_ _) | (with_reducible refine Kd.C_drew ?_) | exact HR310.out)⟩, ⟨u83HB⟩⟩

/-! ### spec_l3Head: function 86 -/
theorem u86HB {p : Prop} (h : p := by repeat (first | (with_reducible first | exact HB.out | apply below_alloc | apply pw_below_drewN | apply below_drew1) | exact HB.out)) : p := h
mutual
def spec_l3Head.l0 : Nat → ByteArray → List ByteArray → Int → Int → Option (List ByteArray × Int)
 | 0, _, _, _, _ => none
 | k + 1, x0, x4, x5, x6 => if x6 < (x0.size : Int) then (if 0 ≤ x6 then (if (bt x0 x6) = 10 then (if 0 ≤ (wrap64 (x6 - 1)) then (if (wrap64 (x6 - 1)) < (x0.size : Int) then (if (bt x0 (wrap64 (x6 - 1))) = 13 then (spec_l3Head.j1 k x0 x4 x5 x6 (decide ((wrap64 (x6 - 1)) < x5))) else (spec_l3Head.j1 k x0 x4 x5 x6 true)) else (none)) else (none)) else (spec_l3Head.j1 k x0 x4 x5 x6 true)) else (none)) else (some (x4, (-1)))
def spec_l3Head.j1 : Nat → ByteArray → List ByteArray → Int → Int → Bool → Option (List ByteArray × Int)
 | 0, _, _, _, _, _ => none
 | k + 1, x0, x4, x5, x6, x31 => if x31 = true then (spec_l3Head.l0 k x0 x4 x5 (wrap64 (x6 + 1))) else (if 0 ≤ x5 then (if x5 ≤ (wrap64 (x6 - 1)) then (if (wrap64 (x6 - 1)) ≤ (x0.size : Int) then (if (x0.extract (x5 : Int).toNat ((wrap64 (x6 - 1)) : Int).toNat).toList = ([] : List UInt8) then (some (x4, wrap64 (x6 + 1))) else (if x4.length < 8796093022208 then (spec_l3Head.l0 k x0 (x4 ++ [x0.extract (x5 : Int).toNat ((wrap64 (x6 - 1)) : Int).toNat]) (wrap64 (x6 + 1)) (wrap64 (x6 + 1))) else (none))) else (none)) else (none)) else (none))
end
def spec_l3Head.f (k : Nat) (a0 : ByteArray) : Option (List ByteArray × Int) := spec_l3Head.l0 k a0 (([] : List ByteArray)) 0 1
theorem spec_l3Head.mono_l : ∀ k, (∀ y0 y1 y2 y3, LeO (spec_l3Head.l0 k y0 y1 y2 y3) (spec_l3Head.l0 (k + 1) y0 y1 y2 y3)) ∧ (∀ y0 y1 y2 y3 y4, LeO (spec_l3Head.j1 k y0 y1 y2 y3 y4) (spec_l3Head.j1 (k + 1) y0 y1 y2 y3 y4))
 | 0 => ⟨fun _ _ _ _ r h => by simp [spec_l3Head.l0] at h, fun _ _ _ _ _ r h => by simp [spec_l3Head.j1] at h⟩
 | k + 1 => by
  obtain ⟨ih0, ih1⟩ := spec_l3Head.mono_l k
  refine ⟨?_, ?_⟩
  ·intro y0 y1 y2 y3
   unfold spec_l3Head.l0
   exact mo
  ·intro y0 y1 y2 y3 y4
   unfold spec_l3Head.j1
   exact mo
theorem spec_l3Head.mono : ∀ a0 k, LeO (spec_l3Head.f k a0) (spec_l3Head.f (k + 1) a0) := by
 intro a0 k
 obtain ⟨ih0, ih1⟩ := spec_l3Head.mono_l k
 unfold spec_l3Head.f
 exact mo
set_option maxHeartbeats 8000000 in
set_option maxRecDepth 100000 in
theorem spec_l3Head.calls (k : Nat) (a0 : ByteArray) (r1 : List ByteArray) (r2 : Int) (w : World) (h : spec_l3Head.f k a0 = some (r1, r2)) :
  Calls Tryz.prog 86 #[.string a0] w fun e w' => ∃ v0_ : Value, e = .returned (.tuple #[v0_, .int .i64 r2]) ∧ Kd.R Kd.string 9 w' w.heap.size (fun _ => True) v0_ r1 ∧ Below w.heap.size w w' := by
 have HB := am (Below.refl w.heap.size w)
 unfold spec_l3Head.f at h
 have H := h
 clear h
 obtain ⟨y356, hy356⟩ : ∃ y_ : List ByteArray, y_ = (([] : List ByteArray)) := ⟨_, rfl⟩
 replace H : (spec_l3Head.l0 k a0 y356 0 1) = some (r1, r2) := by first | (rw [hy356]; with_reducible exact H) | (have H2_ := (Option.bind_some _ _).symm.trans H; rw [hy356]; with_reducible exact H2_) | (have H2_ := (Option.bind_some _ _).symm.trans H; with_reducible exact H2_) | with_reducible exact H | (rw [hy356]; exact H) | exact H
 have Ny356 := am hy356
 clear hy356
 have H' := am H
 clear H
 go_enter Tryz.func86, Tryz.ntmps86
 go_wp2_with (first | ((with_reducible refine gate_dst (N := 8) rfl ?_); refine Kd.R_lit Kd.string _ 9 ?hg (N := 8) ?hd (xs := ([] : List ByteArray)) (inner := []) (ok := fun _ => True) (okp := fun _ => True) ?hr ?hp (fun _ hk => hk) trivial (Below.refl _ _) (Nat.le_refl _) (by simp) ?_; (case hd => rfl); (case hg => rfl); (case hr => first | (go_simp; done) | (go_simp; rfl)); (case hp => exact (Reps.none _ _)); intro v357 w2 ho3 hb hg_ hnew_; clear hg_ hnew_; (first | rw [← Ny356.out] at ho3 | (simp only [Int.reduceToNat] at ho3; rw [← Ny356.out] at ho3)); have HO358 := am (Kd.R_lower ho3 (below_size bl)); replace HB := am (below_step bl hb); clear hb ho3))
 (try simp only [Act.put, List.setIfInBounds_toArray, List.set_cons_zero, List.set_cons_succ])
 go_loopg [4, 5, 6] k (fun kq v4 v5 v6 w' => ∃ (x4_1 : List ByteArray) (x5_1 : Int) (x6_1 : Int), v5 = .int .i64 x5_1 ∧ v6 = .int .i64 x6_1 ∧ Aside0 (spec_l3Head.l0 kq a0 x4_1 x5_1 x6_1 = some (r1, r2)) ∧ Aside0 (kq ≤ k) ∧ Aside0 (Kd.R Kd.string 9 w' w.heap.size (fun _ => True) v4 x4_1) ∧ Aside0 (Below w.heap.size w w'))
 case atStart => exact ⟨(y356), (0), (1), rs, rs, H', ⟨Nat.le_refl _⟩, ⟨by (with_reducible repeat (first | apply Kd.R_alloc | apply Kd.R_drewN | apply Kd.R_drew)); exact HO358.out⟩, ⟨u86HB⟩⟩
 case round =>
  clear H'
  try clear p2
  obtain ⟨x4_1, x5_1, x6_1, rfl, rfl, HA, HK1, HO_4, HB⟩ := hrel
  cases gk with
  | zero => exact absurd HA.out (by simp [spec_l3Head.l0])
  | succ k1 =>
   have H := HA.out
   clear HA
   simp only [spec_l3Head.l0] at H
   by_cases c4 : x6_1 < (a0.size : Int)
   rotate_left
   ·rw [if_neg c4] at H
    have c4b0 := decide_eq_false c4
    clear c4
    simp only [Option.some.injEq, Prod.mk.injEq] at H
    obtain ⟨rfl, rfl⟩ := H
    go_wp2
    go_ret2
    exact ⟨_, rf, by (with_reducible repeat (first | apply Kd.R_alloc | apply Kd.R_drewN | apply Kd.R_drew)); exact HO_4.out, bl⟩
   rw [if_pos c4] at H
   have c4b0 := decide_eq_true c4
   clear c4
   have HC5 := am H
   clear H
   go_upto_region 6 with (fail)
   go_cut [31] (fun v31 wc => ∃ (kq : Nat) (x31_4 : Bool), v31 = .bool x31_4 ∧ Aside0 (spec_l3Head.j1 kq a0 x4_1 x5_1 x6_1 x31_4 = some (r1, r2)) ∧ Aside0 (kq ≤ k1) ∧ Aside0 (Kd.R Kd.string 9 wc w.heap.size (fun _ => True) u4 x4_1) ∧ Aside0 (Below w.heap.size w wc))
   case first =>
    have H := HC5.out
    clear HC5
    revert H
    refine ifn fun c6 H => ?_
    have c6b0 := decide_eq_true c6
    clear c6
    (first | rw [c6b0] | (simp only [i64_w, i32_w]; rw [c6b0]) | skip)
    by_cases c8 : (bt a0 x6_1) = 10
    rotate_left
    ·rw [if_neg c8] at H
     have c8b0 : ((bt a0 x6_1) == 10) = false := beq_eq_false_iff_ne.mpr c8
     have c8b1 : ((bt a0 x6_1) != 10) = true := bne_iff_ne.mpr c8
     have H' := am H
     clear H
     have p7 : 0 ≤ (x6_1 : Int) := od
     have q7 : x6_1 < (a0.size : Int) := od
     have hx7 := bt_at a0 x6_1
     replace p7 := eq_true p7
     replace q7 := eq_true q7
     go_wp2
     go_meet
     case rel => exact ⟨_, (true), rs, H', ⟨by have := HK1.out; first | omega | exact Nat.le_refl _⟩, ⟨by (with_reducible repeat (first | apply Kd.R_alloc | apply Kd.R_drewN | apply Kd.R_drew)); exact HO_4.out⟩, ⟨u86HB⟩⟩
    rw [if_pos c8] at H
    have c8b0 : ((bt a0 x6_1) == 10) = true := beq_iff_eq.mpr c8
    have c8b1 : ((bt a0 x6_1) != 10) = false := bne_eq_false_iff_eq.mpr c8
    clear c8
    obtain ⟨ji9, hji9⟩ : ∃ j_ : Int, (wrap64 (x6_1 - 1)) = j_ := ⟨_, rfl⟩
    replace H : (if 0 ≤ (ji9) then (if (ji9) < (a0.size : Int) then (if (bt a0 (ji9)) = 13 then (spec_l3Head.j1 k1 a0 x4_1 x5_1 x6_1 (decide ((ji9) < x5_1))) else (spec_l3Head.j1 k1 a0 x4_1 x5_1 x6_1 true)) else (none)) else (none)) = some (r1, r2) := by first | (rw [hji9] at H; exact H) | (simp only [hji9] at H ⊢; exact H)
    have hji9w : (IntKind.i64.wrap (x6_1 - 1)) = ji9 := (i64_w _).trans hji9
    revert H
    refine ifn fun c10 H => ?_
    have c10b0 := decide_eq_true c10
    clear c10
    revert H
    refine ifn fun c11 H => ?_
    have c11b0 := decide_eq_true c11
    clear c11
    by_cases c13 : (bt a0 (ji9)) = 13
    rotate_left
    ·rw [if_neg c13] at H
     have c13b0 : ((bt a0 (ji9)) == 13) = false := beq_eq_false_iff_ne.mpr c13
     have c13b1 : ((bt a0 (ji9)) != 13) = true := bne_iff_ne.mpr c13
     have H' := am H
     clear H
     have p7 : 0 ≤ (x6_1 : Int) := od
     have q7 : x6_1 < (a0.size : Int) := od
     have hx7 := bt_at a0 x6_1
     replace p7 := eq_true p7
     replace q7 := eq_true q7
     have p12 : 0 ≤ ((ji9) : Int) := od
     have q12 : (ji9) < (a0.size : Int) := od
     have hx12 := bt_at a0 (ji9)
     replace p12 := eq_true p12
     replace q12 := eq_true q12
     go_wp2
     go_meet
     case rel => exact ⟨_, (true), rs, H', ⟨by have := HK1.out; first | omega | exact Nat.le_refl _⟩, ⟨by (with_reducible repeat (first | apply Kd.R_alloc | apply Kd.R_drewN | apply Kd.R_drew)); exact HO_4.out⟩, ⟨u86HB⟩⟩
    rw [if_pos c13] at H
    have c13b0 : ((bt a0 (ji9)) == 13) = true := beq_iff_eq.mpr c13
    have c13b1 : ((bt a0 (ji9)) != 13) = false := bne_eq_false_iff_eq.mpr c13
    clear c13
    have H' := am H
    clear H
    have p7 : 0 ≤ (x6_1 : Int) := od
    have q7 : x6_1 < (a0.size : Int) := od
    have hx7 := bt_at a0 x6_1
    replace p7 := eq_true p7
    replace q7 := eq_true q7
    have p12 : 0 ≤ ((ji9) : Int) := od
    have q12 : (ji9) < (a0.size : Int) := od
    have hx12 := bt_at a0 (ji9)
    replace p12 := eq_true p12
    replace q12 := eq_true q12
    go_wp2
    go_meet
    case rel => exact ⟨_, (decide ((ji9) < x5_1)), (by first | rfl | (simp; done) | (simp only [← hji9] <;> (first | rfl | simp)) | (simp [*]; done)), H', ⟨by have := HK1.out; first | omega | exact Nat.le_refl _⟩, ⟨by (with_reducible repeat (first | apply Kd.R_alloc | apply Kd.R_drewN | apply Kd.R_drew)); exact HO_4.out⟩, ⟨u86HB⟩⟩
   case rest =>
    clear HC5
    try clear c1
    try clear p1
    try clear q1
    try clear hx1
    try clear p2
    try clear c4
    try clear c4b0
    try clear c6
    try clear c6b0
    try clear p6
    try clear p7
    try clear q7
    try clear hx7
    try clear c8
    try clear c8b0
    try clear c8b1
    try clear c10
    try clear c10b0
    try clear c11
    try clear c11b0
    try clear p12
    try clear q12
    try clear hx12
    try clear c13
    try clear c13b0
    try clear c13b1
    try clear p12
    try clear p2
    try clear p7
    try clear q12
    try clear q7
    obtain ⟨kq, x31_4, rfl, HA, HJ4, HO_4, HB⟩ := hcut
    cases kq with
    | zero => exact absurd HA.out (by simp [spec_l3Head.j1])
    | succ kj4 =>
     have H := HA.out
     clear HA
     simp only [spec_l3Head.j1] at H
     by_cases c14 : x31_4 = true
     ·subst c14
      rw [if_pos rfl] at H
      have H' := am H
      clear H
      go_wp2
      go_roundg kj4
      case measure => have := HK1.out; have := HJ4.out; omega
      case rel => exact ⟨(x4_1), (x5_1), (wrap64 (x6_1 + 1)), rs, rs, H', ⟨by have := HK1.out; have := HJ4.out; omega⟩, ⟨by (with_reducible repeat (first | apply Kd.R_alloc | apply Kd.R_drewN | apply Kd.R_drew)); exact HO_4.out⟩, ⟨u86HB⟩⟩
     replace c14 := Bool.eq_false_iff.mpr c14
     subst c14
     rw [if_neg (show ¬ (false = true) by decide)] at H
     revert H
     refine ifn fun c15 H => ?_
     have c15b0 := eq_true c15
     have c15b1 := decide_eq_true c15
     clear c15
     revert H
     refine ifn fun c16 H => ?_
     have c16b0 := eq_true c16
     have c16b1 := decide_eq_true c16
     clear c16
     revert H
     refine ifn fun c17 H => ?_
     have c17b0 := eq_true c17
     have c17b1 := decide_eq_true c17
     clear c17
     by_cases c18 : (a0.extract (x5_1 : Int).toNat ((wrap64 (x6_1 - 1)) : Int).toNat).toList = ([] : List UInt8)
     ·rw [if_pos c18] at H
      have c18b0 : ((a0.extract (x5_1 : Int).toNat ((wrap64 (x6_1 - 1)) : Int).toNat).toList == ([] : List UInt8)) = true := beq_iff_eq.mpr c18
      have c18b1 : ((a0.extract (x5_1 : Int).toNat ((wrap64 (x6_1 - 1)) : Int).toNat).toList != ([] : List UInt8)) = false := bne_eq_false_iff_eq.mpr c18
      clear c18
      simp only [Option.some.injEq, Prod.mk.injEq] at H
      obtain ⟨rfl, rfl⟩ := H
      go_wp2
      go_ret2
      exact ⟨_, rf, by (with_reducible repeat (first | apply Kd.R_alloc | apply Kd.R_drewN | apply Kd.R_drew)); exact HO_4.out, bl⟩
     rw [if_neg c18] at H
     have c18b0 : ((a0.extract (x5_1 : Int).toNat ((wrap64 (x6_1 - 1)) : Int).toNat).toList == ([] : List UInt8)) = false := beq_eq_false_iff_ne.mpr c18
     have c18b1 : ((a0.extract (x5_1 : Int).toNat ((wrap64 (x6_1 - 1)) : Int).toNat).toList != ([] : List UInt8)) = true := bne_iff_ne.mpr c18
     revert H
     refine ifn fun c19 H => ?_
     have LMc19 := am c19
     clear c19
     obtain ⟨y359, hy359⟩ : ∃ y_ : List ByteArray, y_ = (x4_1 ++ [a0.extract (x5_1 : Int).toNat ((wrap64 (x6_1 - 1)) : Int).toNat]) := ⟨_, rfl⟩
     replace H : (spec_l3Head.l0 kj4 a0 y359 (wrap64 (x6_1 + 1)) (wrap64 (x6_1 + 1))) = some (r1, r2) := by first | (rw [hy359]; with_reducible exact H) | (have H2_ := (Option.bind_some _ _).symm.trans H; rw [hy359]; with_reducible exact H2_) | (have H2_ := (Option.bind_some _ _).symm.trans H; with_reducible exact H2_) | with_reducible exact H | (rw [hy359]; exact H) | exact H
     have Ny359 := am hy359
     clear hy359
     have H' := am H
     clear H
     go_wp2_with (first | ((with_reducible refine gate_builtin (b := .append) (xs := #[.tmp 43, .tmp 45]) rfl ?_); at_builtin; refine Kd.R_append Kd.string (w0 := w) w.heap.size rfl (.tmp 43) (.tmp 45) 35 9 (.string ⟨#[]⟩) 16 rfl Tryz.underlying35 info9 rfl (by decide) (by omega) u4 x4_1 (a0.extract (x5_1 : Int).toNat ((wrap64 (x6_1 - 1)) : Int).toNat) [.string (a0.extract (x5_1 : Int).toNat ((wrap64 (x6_1 - 1)) : Int).toNat)] (fun _ => True) (fun _ => False) rfl rfl ?aP (fun _ hk => hk.elim) ?aF ?aO ?aB ?aS ?aL ?_; (case aP => exact rfl); (case aB => exact bl); (case aF => exact (fun _ _ => trivial)); (case aO => exact (ro HO_4)); (case aS => exact (below_size bl)); (case aL => have := LMc19.out; omega); intro v360 w20 ho hb hg hat; rw [← Ny359.out] at ho; have n0_ := am (hb); have n1_ := am (ho); clear HB; clear HO_4; have HB := n0_; have HO361 := n1_; clear n0_ n1_; clear ho hb hg hat))
     go_roundg kj4
     case measure => have := HK1.out; have := HJ4.out; omega
     case rel => exact ⟨(y359), (wrap64 (x6_1 + 1)), (wrap64 (x6_1 + 1)), rs, rs, H', ⟨by have := HK1.out; have := HJ4.out; omega⟩, ⟨by (with_reducible repeat (first | apply Kd.R_alloc | apply Kd.R_drewN | apply Kd.R_drew)); exact HO361.out⟩, ⟨u86HB⟩⟩

/-! ### spec_l3Words: function 87 -/
theorem u87HB {p : Prop} (h : p := by repeat (first | (with_reducible first | exact HB.out | apply below_alloc | apply pw_below_drewN | apply below_drew1) | exact HB.out)) : p := h
def spec_l3Words.l0 : Nat → ByteArray → List ByteArray → Int → Int → Option (List ByteArray)
 | 0, _, _, _, _ => none
 | k + 1, x0, x3, x4, x5 => if x5 ≤ (x0.size : Int) then (if x5 = (x0.size : Int) then (if 0 ≤ x4 then (if x4 ≤ x5 then (if x3.length < 8796093022208 then (spec_l3Words.l0 k x0 (x3 ++ [x0.extract (x4 : Int).toNat (x5 : Int).toNat]) (wrap64 (x5 + 1)) (wrap64 (x5 + 1))) else (none)) else (none)) else (none)) else (if 0 ≤ x5 then (if x5 < (x0.size : Int) then (if (bt x0 x5) = 32 then (if 0 ≤ x4 then (if x4 ≤ x5 then (if x3.length < 8796093022208 then (spec_l3Words.l0 k x0 (x3 ++ [x0.extract (x4 : Int).toNat (x5 : Int).toNat]) (wrap64 (x5 + 1)) (wrap64 (x5 + 1))) else (none)) else (none)) else (none)) else (spec_l3Words.l0 k x0 x3 x4 (wrap64 (x5 + 1)))) else (none)) else (none))) else (some x3)
def spec_l3Words.f (k : Nat) (a0 : ByteArray) : Option (List ByteArray) := spec_l3Words.l0 k a0 (([] : List ByteArray)) 0 0
theorem spec_l3Words.mono_l : ∀ k, (∀ y0 y1 y2 y3, LeO (spec_l3Words.l0 k y0 y1 y2 y3) (spec_l3Words.l0 (k + 1) y0 y1 y2 y3))
 | 0 => fun _ _ _ _ r h => by simp [spec_l3Words.l0] at h
 | k + 1 => by
  have ih0 := spec_l3Words.mono_l k
  ·intro y0 y1 y2 y3
   unfold spec_l3Words.l0
   exact mo
theorem spec_l3Words.mono : ∀ a0 k, LeO (spec_l3Words.f k a0) (spec_l3Words.f (k + 1) a0) := by
 intro a0 k
 have ih0 := spec_l3Words.mono_l k
 unfold spec_l3Words.f
 exact mo
set_option maxHeartbeats 8000000 in
set_option maxRecDepth 100000 in
theorem spec_l3Words.calls (k : Nat) (a0 : ByteArray) (r : List ByteArray) (w : World) (h : spec_l3Words.f k a0 = some r) :
  Calls Tryz.prog 87 #[.string a0] w fun e w' => ∃ v0_ : Value, e = .returned (v0_) ∧ Kd.R Kd.string 9 w' w.heap.size (fun _ => True) v0_ r ∧ Below w.heap.size w w' := by
 have HB := am (Below.refl w.heap.size w)
 unfold spec_l3Words.f at h
 have H := h
 clear h
 obtain ⟨y362, hy362⟩ : ∃ y_ : List ByteArray, y_ = (([] : List ByteArray)) := ⟨_, rfl⟩
 replace H : (spec_l3Words.l0 k a0 y362 0 0) = some r := by first | (rw [hy362]; with_reducible exact H) | (have H2_ := (Option.bind_some _ _).symm.trans H; rw [hy362]; with_reducible exact H2_) | (have H2_ := (Option.bind_some _ _).symm.trans H; with_reducible exact H2_) | with_reducible exact H | (rw [hy362]; exact H) | exact H
 have Ny362 := am hy362
 clear hy362
 have H' := am H
 clear H
 go_enter Tryz.func87, Tryz.ntmps87
 go_wp2_with (first | ((with_reducible refine gate_dst (N := 6) rfl ?_); refine Kd.R_lit Kd.string _ 9 ?hg (N := 6) ?hd (xs := ([] : List ByteArray)) (inner := []) (ok := fun _ => True) (okp := fun _ => True) ?hr ?hp (fun _ hk => hk) trivial (Below.refl _ _) (Nat.le_refl _) (by simp) ?_; (case hd => rfl); (case hg => rfl); (case hr => first | (go_simp; done) | (go_simp; rfl)); (case hp => exact (Reps.none _ _)); intro v363 w2 ho3 hb hg_ hnew_; clear hg_ hnew_; (first | rw [← Ny362.out] at ho3 | (simp only [Int.reduceToNat] at ho3; rw [← Ny362.out] at ho3)); have HO364 := am (Kd.R_lower ho3 (below_size bl)); replace HB := am (below_step bl hb); clear hb ho3))
 (try simp only [Act.put, List.setIfInBounds_toArray, List.set_cons_zero, List.set_cons_succ])
 go_loopg [3, 4, 5] k (fun kq v3 v4 v5 w' => ∃ (x3_1 : List ByteArray) (x4_1 : Int) (x5_1 : Int), v4 = .int .i64 x4_1 ∧ v5 = .int .i64 x5_1 ∧ Aside0 (spec_l3Words.l0 kq a0 x3_1 x4_1 x5_1 = some r) ∧ Aside0 (kq ≤ k) ∧ Aside0 (Kd.R Kd.string 9 w' w.heap.size (fun _ => True) v3 x3_1) ∧ Aside0 (Below w.heap.size w w'))
 case atStart => exact ⟨(y362), (0), (0), rs, rs, H', ⟨Nat.le_refl _⟩, ⟨by (with_reducible repeat (first | apply Kd.R_alloc | apply Kd.R_drewN | apply Kd.R_drew)); exact HO364.out⟩, ⟨u87HB⟩⟩
 case round =>
  clear H'
  try clear p2
  obtain ⟨x3_1, x4_1, x5_1, rfl, rfl, HA, HK1, HO_3, HB⟩ := hrel
  cases gk with
  | zero => exact absurd HA.out (by simp [spec_l3Words.l0])
  | succ k1 =>
   have H := HA.out
   clear HA
   simp only [spec_l3Words.l0] at H
   by_cases c4 : x5_1 ≤ (a0.size : Int)
   rotate_left
   ·rw [if_neg c4] at H
    have c4b0 := decide_eq_false c4
    clear c4
    obtain rfl := Option.some.inj H
    go_wp2
    go_ret
    exact ⟨_, rf, by (with_reducible repeat (first | apply Kd.R_alloc | apply Kd.R_drewN | apply Kd.R_drew)); exact HO_3.out, bl⟩
   rw [if_pos c4] at H
   have c4b0 := decide_eq_true c4
   clear c4
   by_cases c5 : x5_1 = (a0.size : Int)
   ·rw [if_pos c5] at H
    have c5b0 : (x5_1 == (a0.size : Int)) = true := beq_iff_eq.mpr c5
    have c5b1 : (x5_1 != (a0.size : Int)) = false := bne_eq_false_iff_eq.mpr c5
    clear c5
    revert H
    refine ifn fun c6 H => ?_
    have c6b0 := eq_true c6
    have c6b1 := decide_eq_true c6
    clear c6
    revert H
    refine ifn fun c7 H => ?_
    have c7b0 := eq_true c7
    have c7b1 := decide_eq_true c7
    clear c7
    have c8b0 := eq_true (od : x5_1 ≤ (a0.size : Int))
    revert H
    refine ifn fun c9 H => ?_
    have LMc9 := am c9
    clear c9
    obtain ⟨y365, hy365⟩ : ∃ y_ : List ByteArray, y_ = (x3_1 ++ [a0.extract (x4_1 : Int).toNat (x5_1 : Int).toNat]) := ⟨_, rfl⟩
    replace H : (spec_l3Words.l0 k1 a0 y365 (wrap64 (x5_1 + 1)) (wrap64 (x5_1 + 1))) = some r := by first | (rw [hy365]; with_reducible exact H) | (have H2_ := (Option.bind_some _ _).symm.trans H; rw [hy365]; with_reducible exact H2_) | (have H2_ := (Option.bind_some _ _).symm.trans H; with_reducible exact H2_) | with_reducible exact H | (rw [hy365]; exact H) | exact H
    have Ny365 := am hy365
    clear hy365
    have H' := am H
    clear H
    go_wp2_with (first | ((with_reducible refine gate_builtin (b := .append) (xs := #[.tmp 23, .tmp 28]) rfl ?_); at_builtin; refine Kd.R_append Kd.string (w0 := w) w.heap.size rfl (.tmp 23) (.tmp 28) 35 9 (.string ⟨#[]⟩) 16 rfl Tryz.underlying35 info9 rfl (by decide) (by omega) u3 x3_1 (a0.extract (x4_1 : Int).toNat (x5_1 : Int).toNat) [.string (a0.extract (x4_1 : Int).toNat (x5_1 : Int).toNat)] (fun _ => True) (fun _ => False) rfl rfl ?aP (fun _ hk => hk.elim) ?aF ?aO ?aB ?aS ?aL ?_; (case aP => exact rfl); (case aB => exact bl); (case aF => exact (fun _ _ => trivial)); (case aO => exact (ro HO_3)); (case aS => exact (below_size bl)); (case aL => have := LMc9.out; omega); intro v366 w10 ho hb hg hat; rw [← Ny365.out] at ho; have n0_ := am (hb); have n1_ := am (ho); clear HB; clear HO_3; have HB := n0_; have HO367 := n1_; clear n0_ n1_; clear ho hb hg hat))
    go_roundg k1
    case measure => have := HK1.out; omega
    case rel => exact ⟨(y365), (wrap64 (x5_1 + 1)), (wrap64 (x5_1 + 1)), rs, rs, H', ⟨by have := HK1.out; omega⟩, ⟨by (with_reducible repeat (first | apply Kd.R_alloc | apply Kd.R_drewN | apply Kd.R_drew)); exact HO367.out⟩, ⟨u87HB⟩⟩
   rw [if_neg c5] at H
   have c5b0 : (x5_1 == (a0.size : Int)) = false := beq_eq_false_iff_ne.mpr c5
   have c5b1 : (x5_1 != (a0.size : Int)) = true := bne_iff_ne.mpr c5
   revert H
   refine ifn fun c11 H => ?_
   have c11b0 := decide_eq_true c11
   clear c11
   revert H
   refine ifn fun c12 H => ?_
   have c12b0 := decide_eq_true c12
   clear c12
   by_cases c14 : (bt a0 x5_1) = 32
   rotate_left
   ·rw [if_neg c14] at H
    have c14b0 : ((bt a0 x5_1) == 32) = false := beq_eq_false_iff_ne.mpr c14
    have c14b1 : ((bt a0 x5_1) != 32) = true := bne_iff_ne.mpr c14
    have H' := am H
    clear H
    have p13 : 0 ≤ (x5_1 : Int) := od
    have q13 : x5_1 < (a0.size : Int) := od
    have hx13 := bt_at a0 x5_1
    replace p13 := eq_true p13
    replace q13 := eq_true q13
    go_wp2
    go_roundg k1
    case measure => have := HK1.out; omega
    case rel => exact ⟨(x3_1), (x4_1), (wrap64 (x5_1 + 1)), rs, rs, H', ⟨by have := HK1.out; omega⟩, ⟨by (with_reducible repeat (first | apply Kd.R_alloc | apply Kd.R_drewN | apply Kd.R_drew)); exact HO_3.out⟩, ⟨u87HB⟩⟩
   rw [if_pos c14] at H
   have c14b0 : ((bt a0 x5_1) == 32) = true := beq_iff_eq.mpr c14
   have c14b1 : ((bt a0 x5_1) != 32) = false := bne_eq_false_iff_eq.mpr c14
   clear c14
   revert H
   refine ifn fun c15 H => ?_
   have c15b0 := eq_true c15
   have c15b1 := decide_eq_true c15
   clear c15
   revert H
   refine ifn fun c16 H => ?_
   have c16b0 := eq_true c16
   have c16b1 := decide_eq_true c16
   clear c16
   have c17b0 := eq_true (od : x5_1 ≤ (a0.size : Int))
   revert H
   refine ifn fun c18 H => ?_
   have LMc18 := am c18
   clear c18
   obtain ⟨y368, hy368⟩ : ∃ y_ : List ByteArray, y_ = (x3_1 ++ [a0.extract (x4_1 : Int).toNat (x5_1 : Int).toNat]) := ⟨_, rfl⟩
   replace H : (spec_l3Words.l0 k1 a0 y368 (wrap64 (x5_1 + 1)) (wrap64 (x5_1 + 1))) = some r := by first | (rw [hy368]; with_reducible exact H) | (have H2_ := (Option.bind_some _ _).symm.trans H; rw [hy368]; with_reducible exact H2_) | (have H2_ := (Option.bind_some _ _).symm.trans H; with_reducible exact H2_) | with_reducible exact H | (rw [hy368]; exact H) | exact H
   have Ny368 := am hy368
   clear hy368
   have H' := am H
   clear H
   have p13 : 0 ≤ (x5_1 : Int) := od
   have q13 : x5_1 < (a0.size : Int) := od
   have hx13 := bt_at a0 x5_1
   replace p13 := eq_true p13
   replace q13 := eq_true q13
   go_wp2_with (first | ((with_reducible refine gate_builtin (b := .append) (xs := #[.tmp 23, .tmp 28]) rfl ?_); at_builtin; refine Kd.R_append Kd.string (w0 := w) w.heap.size rfl (.tmp 23) (.tmp 28) 35 9 (.string ⟨#[]⟩) 16 rfl Tryz.underlying35 info9 rfl (by decide) (by omega) u3 x3_1 (a0.extract (x4_1 : Int).toNat (x5_1 : Int).toNat) [.string (a0.extract (x4_1 : Int).toNat (x5_1 : Int).toNat)] (fun _ => True) (fun _ => False) rfl rfl ?aP (fun _ hk => hk.elim) ?aF ?aO ?aB ?aS ?aL ?_; (case aP => exact rfl); (case aB => exact bl); (case aF => exact (fun _ _ => trivial)); (case aO => exact (ro HO_3)); (case aS => exact (below_size bl)); (case aL => have := LMc18.out; omega); intro v369 w19 ho hb hg hat; rw [← Ny368.out] at ho; have n0_ := am (hb); have n1_ := am (ho); clear HB; clear HO_3; have HB := n0_; have HO370 := n1_; clear n0_ n1_; clear ho hb hg hat))
   go_roundg k1
   case measure => have := HK1.out; omega
   case rel => exact ⟨(y368), (wrap64 (x5_1 + 1)), (wrap64 (x5_1 + 1)), rs, rs, H', ⟨by have := HK1.out; omega⟩, ⟨by (with_reducible repeat (first | apply Kd.R_alloc | apply Kd.R_drewN | apply Kd.R_drew)); exact HO370.out⟩, ⟨u87HB⟩⟩

end Go.Proofs.YtnmanegjgidgcaaGreatDoor.All
