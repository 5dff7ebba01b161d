import Derived.Test.YtjlpjbkpmmpojaaGreatDoorKO16
import Derived.Test.YtjlpjbkpmmpojaaGreatDoorKO33
namespace Go.Proofs.YtjlpjbkpmmpojaaGreatDoor.All
open Go.RowKit Go.Proofs.YtjlpjbkpmmpojaaGreatDoorW.PrintWords Go.Proofs.YtjlpjbkpmmpojaaGreatDoorW.PrintLast Go.Proofs.YtjlpjbkpmmpojaaGreatDoorW.PrintMore
set_option maxHeartbeats 8000000
set_option maxRecDepth 100000
attribute [local go_sem] min2_int min_two
set_option linter.unusedVariables false
set_option linter.unusedSimpArgs false
theorem u119HB {p : Prop} (h : p := by repeat (first | (with_reducible first | exact HB.out | apply below_alloc | apply pw_below_drewN | apply below_drew1) | exact HB.out)) : p := h
def impl_ValuesOf.l0 : Nat → List (S116) → List ByteArray → List ByteArray → Int → Int → Option (List ByteArray)
 | 0, _, _, _, _, _ => none
 | k + 1, x1, x5, x10, x11, x12 => if x12 < x11 then (if 0 ≤ x12 then (if x12 < (x10.length : Int) then ((impl_Get.f x1 (rdOf ByteArray.empty x10 x12)).bind fun bt17 => (if bt17.2 = true then (if x5.length < 8796093022208 then (impl_ValuesOf.l0 k x1 (x5 ++ [bt17.1]) x10 x11 (wrap64 (x12 + 1))) else (none)) else (if x5.length < 8796093022208 then (impl_ValuesOf.l0 k x1 (x5 ++ [(⟨#[45]⟩ : ByteArray)]) x10 x11 (wrap64 (x12 + 1))) else (none)))) else (none)) else (none)) else (some x5)
def impl_ValuesOf.f (k : Nat) (l0 : List ByteArray) (l1 : List (S116)) : Option (List ByteArray) := impl_ValuesOf.l0 k l1 ([] : List ByteArray) l0 (l0.length : Int) 0
theorem impl_ValuesOf.calls (k : Nat) (A0 : Option Addr) (c0 : Nat) (l0 : List ByteArray) (A1 : Option Addr) (c1 : Nat) (l1 : List (S116)) (r : List ByteArray) (w : World) (hr0 : Kd.C Kd.string w A0 l0.length l0) (hc0 : l0.length ≤ c0) (hr1 : Kd.C k116 w A1 l1.length l1) (hc1 : l1.length ≤ c1) (h : impl_ValuesOf.f k l0 l1 = some r) :
  Calls Tryz.prog 119 #[.slice A0 l0.length c0, .slice A1 l1.length c1] w fun e w' => ∃ v0_ : Value, e = .returned (v0_) ∧ Kd.R Kd.string 9 w' w.heap.size (fun _ => True) v0_ r ∧ Below w.heap.size w w' := by
 have HR0 := am hr0
 have HC0 := am hc0
 clear hr0 hc0
 have HR1 := am hr1
 have HC1 := am hc1
 clear hr1 hc1
 have HB := am (Below.refl w.heap.size w)
 unfold impl_ValuesOf.f at h
 have H := h
 clear h
 have H' := am H
 clear H
 go_enter Tryz.func119, Tryz.ntmps119
 go_wp2
 (try simp only [Act.put, List.setIfInBounds_toArray, List.set_cons_zero, List.set_cons_succ])
 go_loopg [5, 12] k (fun kq v5 v12 w' => ∃ (x5_1 : List ByteArray) (x12_1 : Int), v12 = .int .i64 x12_1 ∧ Aside0 (impl_ValuesOf.l0 kq l1 x5_1 l0 (l0.length : Int) x12_1 = some r) ∧ Aside0 (kq ≤ k) ∧ Aside0 (Kd.R Kd.string 9 w' w.heap.size (fun _ => True) v5 x5_1) ∧ Aside0 (Below w.heap.size w w'))
 case atStart => exact ⟨(([] : List ByteArray)), (0), rs, H', ⟨Nat.le_refl _⟩, ⟨by first | exact Kd.R_nil _ _ _ _ _ | exact Kd.N_nil _ _ _ _ _ | exact Kd.V_nil _ _ _ _ _ | exact Kd.Q_nil _ _ _ _ _ | exact Kd.S_nil _ _ _ _ _⟩, ⟨u119HB⟩⟩
 case round =>
  clear H'
  obtain ⟨x5_1, x12_1, rfl, HA, HK1, HO_5, HB⟩ := hrel
  cases gk with
  | zero => exact absurd HA.out (by simp [impl_ValuesOf.l0])
  | succ k1 =>
   have H := HA.out
   clear HA
   simp only [impl_ValuesOf.l0] at H
   by_cases c3 : x12_1 < (l0.length : Int)
   rotate_left
   ·rw [if_neg c3] at H
    have c3b0 := decide_eq_false c3
    clear c3
    obtain rfl := si_ H
    go_wp2
    go_ret
    exact ⟨_, rf, by (with_reducible repeat (first | apply Kd.R_alloc | apply Kd.R_drewN | apply Kd.R_drew)); exact HO_5.out, bl⟩
   rw [if_pos c3] at H
   have c3b0 := decide_eq_true c3
   clear c3
   revert H
   refine ifn fun c4 H => ?_
   have c4b0 := decide_eq_true c4
   clear c4
   revert H
   refine ifn fun c5 H => ?_
   have c5b0 := decide_eq_true c5
   clear c5
   revert H
   refine ok2 fun t17 t18 A6 H => ?_
   (try dsimp only at H)
   by_cases c7 : t18 = true
   ·subst c7
    rw [if_pos rfl] at H
    revert H
    refine ifn fun c8 H => ?_
    have LMc8 := am c8
    clear c8
    obtain ⟨y15, hy15⟩ : ∃ y_ : List ByteArray, y_ = (x5_1 ++ [t17]) := ⟨_, rfl⟩
    replace H : (impl_ValuesOf.l0 k1 l1 y15 l0 (l0.length : Int) (wrap64 (x12_1 + 1))) = some r := by first | (rw [hy15]; with_reducible exact H) | (have H2_ := (Option.bind_some _ _).symm.trans H; rw [hy15]; with_reducible exact H2_) | (have H2_ := (Option.bind_some _ _).symm.trans H; with_reducible exact H2_) | with_reducible exact H | (rw [hy15]; exact H) | exact H
    have Ny15 := am hy15
    clear hy15
    have H' := am H
    clear H
    have p14 : 0 ≤ (x12_1 : Int) := od
    have q14 : x12_1 < (l0.length : Int) := od
    obtain ⟨ad14, e14, hx14_0⟩ := Kd.at_string HR0.out x12_1 p14 q14
    cases e14
    replace hx14_0 := hcw hx14_0
    replace p14 := eq_true p14
    replace q14 := eq_true q14
    go_wp2_with (first | ((with_reducible refine gw ?_); first | (refine gl 19 Tryz.func63 #[.slice A1 l1.length c1, .string (rdOf ByteArray.empty l0 x12_1)] ?_; refine (impl_Get.calls _ _ l1 (rdOf ByteArray.empty l0 x12_1) t17 true _ (cb HR1) HC1.out A6.out).mono ?_; rintro e w9 ⟨rfl, hb⟩; refine ⟨_, rfl, ?_⟩; replace HO_5 := kr HO_5 hb; replace HB := am (below_step bl hb); clear hb)) | ((with_reducible refine gate_builtin (b := .append) (xs := #[.tmp 24, .tmp 26]) rfl ?_); at_builtin; refine Kd.R_append Kd.string (w0 := w) w.heap.size rfl (.tmp 24) (.tmp 26) 26 9 (.string ⟨#[]⟩) 16 rfl Tryz.underlying26 info9 rfl (by decide) (by omega) u5 x5_1 t17 [.string t17] (fun _ => True) (fun _ => False) rfl rfl ?aP (fun _ hk => hk.elim) ?aF ?aO ?aB ?aS ?aL ?_; (case aP => exact rfl); (case aB => exact bl); (case aF => exact (fun _ _ => trivial)); (case aO => exact (ro HO_5)); (case aS => exact (below_size bl)); (case aL => have := LMc8.out; omega); intro v21 w10 ho hb hg hat; rw [← Ny15.out] at ho; have n0_ := am (hb); have n1_ := am (ho); clear HB; clear HO_5; have HB := n0_; have HO19 := n1_; clear n0_ n1_; clear ho hb hg hat))
    go_roundg k1
    case measure => have := HK1.out; omega
    case rel => exact ⟨(y15), (wrap64 (x12_1 + 1)), rs, H', ⟨by have := HK1.out; omega⟩, ⟨ro HO19⟩, ⟨u119HB⟩⟩
   replace c7 := nb_ c7
   subst c7
   rw [if_neg ff_] at H
   revert H
   refine ifn fun c11 H => ?_
   have LMc11 := am c11
   clear c11
   obtain ⟨y16, hy16⟩ : ∃ y_ : List ByteArray, y_ = (x5_1 ++ [(⟨#[45]⟩ : ByteArray)]) := ⟨_, rfl⟩
   replace H : (impl_ValuesOf.l0 k1 l1 y16 l0 (l0.length : Int) (wrap64 (x12_1 + 1))) = some r := by first | (rw [hy16]; with_reducible exact H) | (have H2_ := (Option.bind_some _ _).symm.trans H; rw [hy16]; with_reducible exact H2_) | (have H2_ := (Option.bind_some _ _).symm.trans H; with_reducible exact H2_) | with_reducible exact H | (rw [hy16]; exact H) | exact H
   have Ny16 := am hy16
   clear hy16
   have H' := am H
   clear H
   have p14 : 0 ≤ (x12_1 : Int) := od
   have q14 : x12_1 < (l0.length : Int) := od
   obtain ⟨ad14, e14, hx14_0⟩ := Kd.at_string HR0.out x12_1 p14 q14
   cases e14
   replace hx14_0 := hcw hx14_0
   replace p14 := eq_true p14
   replace q14 := eq_true q14
   go_wp2_with (first | ((with_reducible refine gw ?_); first | (refine gl 19 Tryz.func63 #[.slice A1 l1.length c1, .string (rdOf ByteArray.empty l0 x12_1)] ?_; refine (impl_Get.calls _ _ l1 (rdOf ByteArray.empty l0 x12_1) t17 false _ (cb HR1) HC1.out A6.out).mono ?_; rintro e w12 ⟨rfl, hb⟩; refine ⟨_, rfl, ?_⟩; replace HO_5 := kr HO_5 hb; replace HB := am (below_step bl hb); clear hb)) | ((with_reducible refine gate_builtin (b := .append) (xs := #[.tmp 24, .tmp 26]) rfl ?_); at_builtin; refine Kd.R_append Kd.string (w0 := w) w.heap.size rfl (.tmp 24) (.tmp 26) 26 9 (.string ⟨#[]⟩) 16 rfl Tryz.underlying26 info9 rfl (by decide) (by omega) u5 x5_1 (⟨#[45]⟩ : ByteArray) [.string (⟨#[45]⟩ : ByteArray)] (fun _ => True) (fun _ => False) rfl rfl ?aP (fun _ hk => hk.elim) ?aF ?aO ?aB ?aS ?aL ?_; (case aP => exact rfl); (case aB => exact bl); (case aF => exact (fun _ _ => trivial)); (case aO => exact (ro HO_5)); (case aS => exact (below_size bl)); (case aL => have := LMc11.out; omega); intro v22 w13 ho hb hg hat; rw [← Ny16.out] at ho; have n0_ := am (hb); have n1_ := am (ho); clear HB; clear HO_5; have HB := n0_; have HO20 := n1_; clear n0_ n1_; clear ho hb hg hat))
   go_roundg k1
   case measure => have := HK1.out; omega
   case rel => exact ⟨(y16), (wrap64 (x12_1 + 1)), rs, H', ⟨by have := HK1.out; omega⟩, ⟨ro HO20⟩, ⟨u119HB⟩⟩
end Go.Proofs.YtjlpjbkpmmpojaaGreatDoor.All
