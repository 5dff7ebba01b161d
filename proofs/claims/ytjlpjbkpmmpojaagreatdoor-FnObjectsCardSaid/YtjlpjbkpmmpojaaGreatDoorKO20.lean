import Derived.Test.YtjlpjbkpmmpojaaGreatDoorKO18
namespace Go.Proofs.YtjlpjbkpmmpojaaGreatDoor.All
open Go.RowKit Go.Proofs.YtjlpjbkpmmpojaaGreatDoorW.PrintWords Go.Proofs.YtjlpjbkpmmpojaaGreatDoorW.PrintLast Go.Proofs.YtjlpjbkpmmpojaaGreatDoorW.PrintMore
set_option maxHeartbeats 8000000
set_option maxRecDepth 100000
attribute [local go_sem] min2_int min_two
set_option linter.unusedVariables false
set_option linter.unusedSimpArgs false
theorem u125HI0 {p : Prop} (h : p := by repeat (first | (with_reducible first | exact HI0.out | apply IsS139.alloc | apply IsS139.drewN | apply IsS139.drew | apply IsS139.set_1 | apply IsS139.set_2) | exact HI0.out)) : p := h
theorem u125HB {p : Prop} (h : p := by repeat (first | (with_reducible first | exact HB.out | apply below_alloc | apply pw_below_drewN | apply below_drew1 | refine below_set ?_ (IsS139.ge HI0.out)) | exact HB.out)) : p := h
theorem u125HK {p : Prop} (h : p := by repeat (first | (with_reducible first | exact HK.out | apply KeepBut.set_ | apply keep_drewN | apply keep_drew | apply keep_alloc) | exact HK.out)) : p := h
def spec_l7DrawTime.f (s0_0 : List Int) (s0_1 : Int) (s0_2 : Int) : Option (Int × Int × Int) := (spec_l1Once.f s0_0 s0_1 s0_2 15).bind fun bt14 => (if bt14.1 = true then ((spec_l1PickInt.f s0_0 bt14.2.1 bt14.2.2 (([(-1), 1000000, 1000001, 9223372036854775807, (-9223372036854775808)] : List Int))).bind fun bt16 => (some (bt16.1, bt16.2.1, bt16.2.2))) else ((spec_l1Below.f s0_0 bt14.2.1 bt14.2.2 40).bind fun bt17 => (some (bt17.1, bt17.2.1, bt17.2.2))))
theorem spec_l7DrawTime.calls (g : Nat) (s0_0 : List Int) (s0_1 : Int) (s0_2 : Int) (r1 : Int) (r2 : Int) (r3 : Int) (w0 w : World) (hI : IsS139 w0 w g s0_0 s0_1 s0_2) (hB : Below w0.heap.size w0 w) (h : spec_l7DrawTime.f s0_0 s0_1 s0_2 = some (r1, r2, r3)) :
  Calls Tryz.prog 125 #[.pointer (some ⟨g, 0, none⟩)] w fun e w' => e = .returned (.int .i64 r1) ∧ IsS139 w0 w' g s0_0 r2 r3 ∧ Below w0.heap.size w0 w' ∧ KeepBut w w' g none := by
 have HI0 := am hI
 have HK := am (KeepBut.refl w g none)
 have HL := am hB.size
 clear hI
 have HW0 := am hB.size
 have HB := am hB
 clear hB
 unfold spec_l7DrawTime.f at h
 have H := h
 clear h
 revert H
 refine ok3 fun t14 t18 t19 A2 H => ?_
 (try dsimp only at H)
 by_cases c3 : t14 = true
 rotate_left
 ·replace c3 := nb_ c3
  subst c3
  rw [if_neg ff_] at H
  revert H
  refine ok3 fun t17 t20 t21 A10 H => ?_
  (try dsimp only at H)
  simp only [Option.some.injEq, Prod.mk.injEq] at H
  obtain ⟨rfl, rfl, rfl⟩ := H
  go_enter Tryz.func125, Tryz.ntmps125
  go_wp2_with ((with_reducible refine gw ?_); first | (refine gl 4 Tryz.func165 #[.pointer (some ⟨g, 0, none⟩), .int .i64 15] ?_; refine (spec_l1Once.calls g s0_0 s0_1 s0_2 15 false t18 t19 w0 _ u125HI0 u125HB A2.out).mono ?_; rintro e w11 ⟨rfl, hi, hb, hk⟩; refine ⟨_, rfl, ?_⟩; replace HK := am (KeepBut.trans u125HK hk (.inl rfl)); replace HB := am (hb); replace HI0 := am (hi); clear hb hk hi) | (refine gl 9 Tryz.func74 #[.pointer (some ⟨g, 0, none⟩), .int .i64 40] ?_; refine (spec_l1Below.calls g s0_0 t18 t19 40 t17 t20 t21 w0 _ u125HI0 u125HB A10.out).mono ?_; rintro e w12 ⟨rfl, hi, hb, hk⟩; refine ⟨_, rfl, ?_⟩; replace HK := am (KeepBut.trans u125HK hk (.inl rfl)); replace HB := am (hb); replace HI0 := am (hi); clear hb hk hi))
  go_ret
  exact ⟨rf, u125HI0, u125HB, u125HK⟩
 subst c3
 rw [if_pos rfl] at H
 obtain ⟨y13, hy13⟩ : ∃ y_, y_ = (([(-1), 1000000, 1000001, 9223372036854775807, (-9223372036854775808)] : List Int)) := ⟨_, rfl⟩
 (try with_reducible replace H := bs_ H)
 rw [← hy13] at H
 have Ny13 := am hy13
 clear hy13
 revert H
 refine ok3 fun t16 t22 t23 A4 H => ?_
 (try dsimp only at H)
 simp only [Option.some.injEq, Prod.mk.injEq] at H
 obtain ⟨rfl, rfl, rfl⟩ := H
 go_enter Tryz.func125, Tryz.ntmps125
 go_wp2_with (first | ((with_reducible refine gw ?_); refine gl 4 Tryz.func165 #[.pointer (some ⟨g, 0, none⟩), .int .i64 15] ?_; refine (spec_l1Once.calls g s0_0 s0_1 s0_2 15 true t18 t19 w0 _ u125HI0 u125HB A2.out).mono ?_; rintro e w5 ⟨rfl, hi, hb, hk⟩; refine ⟨_, rfl, ?_⟩; replace HK := am (KeepBut.trans u125HK hk (.inl rfl)); replace HB := am (hb); replace HI0 := am (hi); clear hb hk hi) | ((with_reducible refine gate_dst (N := 6) rfl ?_); refine rl (Kd.int .i64) 3 6 ([(-1), 1000000, 1000001, 9223372036854775807, (-9223372036854775808)] : List Int) [.int .i64 (-1), .int .i64 1000000, .int .i64 1000001, .int .i64 9223372036854775807, .int .i64 (-9223372036854775808)] ?_; intro v24 w6 ho7 hb; (first | rw [← Ny13.out] at ho7 | (simp only [Int.reduceToNat] at ho7; rw [← Ny13.out] at ho7)); have HO15 := am (Kd.R_lower ho7 (keep_size (w := w) (g := g) (row := none) u125HK)); replace HK := am (KeepBut.trans u125HK (KeepBut.of_below hb g none) (.inl rfl)); replace HB := am (below_step u125HB hb); replace HI0 := am (IsS139.below u125HI0 hb); clear hb ho7; obtain ⟨Ao8, co8, eo8⟩ := Kd.R_slice HO15.out; subst eo8) | ((with_reducible refine gw ?_); refine gl 7 Tryz.func75 #[.pointer (some ⟨g, 0, none⟩), .slice Ao8 y13.length co8] ?_; refine (spec_l1PickInt.calls g s0_0 t18 t19 _ _ y13 t16 t22 t23 w0 _ u125HI0 u125HB (rc HO15) ((Kd.R_reads' HO15.out).2.1) (far_slice (IsS139.own_ne HI0.out HO15.out (by decide))) A4.out).mono ?_; rintro e w9 ⟨rfl, hi, hb, hk⟩; refine ⟨_, rfl, ?_⟩; replace HO15 := am (Kd.R_mono (Kd.R_keep (IsS139.apart (show IsS139 w0 _ g s0_0 t18 t19 from u125HI0) (ro HO15) (by decide)) hk (fun _ h => h.2)) (fun _ h => h.1)); replace HK := am (KeepBut.trans u125HK hk (.inl rfl)); replace HB := am (hb); replace HI0 := am (hi); clear hb hk hi))
 go_ret
 exact ⟨rf, u125HI0, u125HB, u125HK⟩
theorem u123HB {p : Prop} (h : p := by repeat (first | (with_reducible first | exact HB.out | apply below_alloc | apply pw_below_drewN | apply below_drew1) | exact HB.out)) : p := h
def spec_Drop.l0 : Nat → List (S116) → Int → List (S116) → Int → Option ((List (S116)))
 | 0, _, _, _, _ => none
 | k + 1, x0, x5, x6, x7 => if x7 < (x0.length : Int) then (if x7 = x5 then (spec_Drop.l0 k x0 x5 x6 (wrap64 (x7 + 1))) else (if 0 ≤ x7 then (if x6.length < 4398046511104 then (spec_Drop.l0 k x0 x5 (x6 ++ [(⟨(rd_T116 x0 x7).f0, (rd_T116 x0 x7).f1⟩ : S116)]) (wrap64 (x7 + 1))) else (none)) else (none))) else (some x6)
def spec_Drop.f (k : Nat) (l0 : List (S116)) (a1 : ByteArray) : Option ((List (S116))) := (spec_l2At.f k l0 a1).bind fun t14 => (spec_Drop.l0 k l0 t14 (([] : List (S116))) 0)
theorem spec_Drop.calls (k : Nat) (A0 : Option Addr) (c0 : Nat) (l0 : List (S116)) (a1 : ByteArray) (r : List (S116)) (w : World) (hr0 : Kd.C k116 w A0 l0.length l0) (hc0 : l0.length ≤ c0) (h : spec_Drop.f k l0 a1 = some r) :
  Calls Tryz.prog 123 #[.slice A0 l0.length c0, .string a1] w fun e w' => ∃ v0_ : Value, e = .returned (v0_) ∧ Kd.R k116 116 w' w.heap.size (fun _ => True) v0_ r ∧ Below w.heap.size w w' := by
 have hu116 := Tryz.underlying116
 have HR0 := am hr0
 have HC0 := am hc0
 clear hr0 hc0
 have HB := am (Below.refl w.heap.size w)
 unfold spec_Drop.f at h
 have H := h
 clear h
 revert H
 refine ok1 fun t14 A3 H => ?_
 obtain ⟨y13, hy13⟩ : ∃ y_, y_ = (([] : List (S116))) := ⟨_, rfl⟩
 (try with_reducible replace H := bs_ H)
 rw [← hy13] at H
 have Ny13 := am hy13
 clear hy13
 have H' := am H
 clear H
 go_enter Tryz.func123, Tryz.ntmps123
 go_wp2_with (first | ((with_reducible refine gw ?_); first | (refine gl 10 Tryz.func137 #[.slice A0 l0.length c0, .string a1] ?_; refine (spec_l2At.calls k _ _ l0 a1 t14 _ (cc HR0) HC0.out A3.out).mono ?_; rintro e w' ⟨rfl, ⟨nd, rfl⟩⟩; refine ⟨_, rfl, ?_⟩)) | ((with_reducible refine gate_dst (N := 11) rfl ?_); refine Kd.R_lit k116 _ 116 ?hg (N := 11) ?hd (xs := ([] : List (S116))) (inner := []) (ok := fun _ => True) (okp := fun _ => True) ?hr ?hp (fun _ hk => hk) trivial (Below.refl _ _) (Nat.le_refl _) (by simp) ?_; (case hd => rfl); (case hg => rfl); (case hr => first | (go_simp; done) | (go_simp; rfl)); (case hp => exact (Reps.none _ _)); intro v17 w4 ho5 hb hg_ hnew_; clear hg_ hnew_; (first | rw [← Ny13.out] at ho5 | (simp only [Int.reduceToNat] at ho5; rw [← Ny13.out] at ho5)); have HO15 := am (Kd.R_lower ho5 (below_size bl)); replace HB := am (below_step bl hb); clear hb ho5))
 (try simp only [Act.put, List.setIfInBounds_toArray, List.set_cons_zero, List.set_cons_succ])
 go_loopg [6, 7] k (fun kq v6 v7 w' => ∃ (x6_1 : List (S116)) (x7_1 : Int), v7 = .int .i64 x7_1 ∧ Aside0 (spec_Drop.l0 kq l0 t14 x6_1 x7_1 = some r) ∧ Aside0 (kq ≤ k) ∧ Aside0 (Kd.R k116 116 w' w.heap.size (fun _ => True) v6 x6_1) ∧ Aside0 (Below w.heap.size w w'))
 case atStart => exact ⟨(y13), (0), rs, H', ⟨Nat.le_refl _⟩, ⟨ro HO15⟩, ⟨u123HB⟩⟩
 case round =>
  clear H'
  obtain ⟨x6_1, x7_1, rfl, HA, HK1, HO_6, HB⟩ := hrel
  cases gk with
  | zero => exact absurd HA.out (by simp [spec_Drop.l0])
  | succ k1 =>
   have H := HA.out
   clear HA
   simp only [spec_Drop.l0] at H
   by_cases c6 : x7_1 < (l0.length : Int)
   rotate_left
   ·rw [if_neg c6] at H
    have c6b0 := decide_eq_false c6
    clear c6
    obtain rfl := si_ H
    go_wp2
    go_ret
    exact ⟨_, rf, by (with_reducible repeat (first | apply Kd.R_alloc | apply Kd.R_drewN | apply Kd.R_drew)); exact HO_6.out, bl⟩
   rw [if_pos c6] at H
   have c6b0 := decide_eq_true c6
   clear c6
   by_cases c7 : x7_1 = t14
   ·rw [if_pos c7] at H
    have c7b0 := eqt c7
    have c7b1 := nef c7
    clear c7
    have H' := am H
    clear H
    go_wp2
    go_roundg k1
    case measure => have := HK1.out; omega
    case rel => exact ⟨(x6_1), (wrap64 (x7_1 + 1)), rs, H', ⟨by have := HK1.out; omega⟩, ⟨ro HO_6⟩, ⟨u123HB⟩⟩
   rw [if_neg c7] at H
   have c7b0 := eqf c7
   have c7b1 := net c7
   revert H
   refine ifn fun c8 H => ?_
   have c8b0 := decide_eq_true c8
   clear c8
   revert H
   refine ifn fun c9 H => ?_
   have LMc9 := am c9
   clear c9
   obtain ⟨y12, hy12⟩ : ∃ y_ : List (S116), y_ = (x6_1 ++ [(⟨(rd_T116 l0 x7_1).f0, (rd_T116 l0 x7_1).f1⟩ : S116)]) := ⟨_, rfl⟩
   replace H : (spec_Drop.l0 k1 l0 t14 y12 (wrap64 (x7_1 + 1))) = some r := by first | (rw [hy12]; with_reducible exact H) | (have H2_ := (Option.bind_some _ _).symm.trans H; rw [hy12]; with_reducible exact H2_) | (have H2_ := (Option.bind_some _ _).symm.trans H; with_reducible exact H2_) | with_reducible exact H | (rw [hy12]; exact H) | exact H
   have Ny12 := am hy12
   clear hy12
   have H' := am H
   clear H
   have p11 : 0 ≤ (x7_1 : Int) := od
   have q11 : x7_1 < (l0.length : Int) := od
   obtain ⟨ad11, e11, hx11_0, hx11_1⟩ := at_T116 HR0.out x7_1 p11 q11
   cases e11
   replace hx11_0 := hcw hx11_0
   replace hx11_1 := hcw hx11_1
   replace p11 := eq_true p11
   replace q11 := eq_true q11
   go_wp2_with (first | ((with_reducible refine gate_builtin (b := .append) (xs := #[.tmp 21, .tmp 26]) rfl ?_); at_builtin; refine Kd.R_append k116 (w0 := w) w.heap.size rfl (.tmp 21) (.tmp 26) 27 116 (.agg #[(.string ⟨#[]⟩), (.string ⟨#[]⟩)]) 32 rfl Tryz.underlying27 info116 rfl (by decide) (by omega) u6 x6_1 (⟨(rd_T116 l0 x7_1).f0, (rd_T116 l0 x7_1).f1⟩ : S116) [.string ((rd_T116 l0 x7_1).f0), .string ((rd_T116 l0 x7_1).f1)] (fun _ => True) (fun _ => False) rfl rfl ?aP (fun _ hk => hk.elim) ?aF ?aO ?aB ?aS ?aL ?_; (case aP => exact k116_mkM _ _ _ (⟨(rd_T116 l0 x7_1).f0, (rd_T116 l0 x7_1).f1⟩ : S116)); (case aB => exact bl); (case aF => exact (fun _ _ => trivial)); (case aO => exact (ro HO_6)); (case aS => exact (below_size bl)); (case aL => have := LMc9.out; omega); intro v18 w10 ho hb hg hat; rw [← Ny12.out] at ho; have n0_ := am (hb); have n1_ := am (ho); clear HB; clear HO_6; have HB := n0_; have HO16 := n1_; clear n0_ n1_; clear ho hb hg hat))
   go_roundg k1
   case measure => have := HK1.out; omega
   case rel => exact ⟨(y12), (wrap64 (x7_1 + 1)), rs, H', ⟨by have := HK1.out; omega⟩, ⟨ro HO16⟩, ⟨u123HB⟩⟩
end Go.Proofs.YtjlpjbkpmmpojaaGreatDoor.All
