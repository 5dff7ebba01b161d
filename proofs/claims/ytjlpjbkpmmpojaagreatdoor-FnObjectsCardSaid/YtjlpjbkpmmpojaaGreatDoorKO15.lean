import Derived.Test.YtjlpjbkpmmpojaaGreatDoorKO12
namespace Go.Proofs.YtjlpjbkpmmpojaaGreatDoor.All
open Go.RowKit Go.Proofs.YtjlpjbkpmmpojaaGreatDoorW.PrintWords Go.Proofs.YtjlpjbkpmmpojaaGreatDoorW.PrintLast Go.Proofs.YtjlpjbkpmmpojaaGreatDoorW.PrintMore
set_option maxHeartbeats 8000000
set_option maxRecDepth 100000
attribute [local go_sem] min2_int min_two
set_option linter.unusedVariables false
set_option linter.unusedSimpArgs false
theorem u73HB {p : Prop} (h : p := by repeat (first | (with_reducible first | exact HB.out | apply below_alloc | apply pw_below_drewN | apply below_drew1) | exact HB.out)) : p := h
def impl_VaryOf.l0 : Nat → List ByteArray → List ByteArray → Int → Int → Option (List ByteArray)
 | 0, _, _, _, _ => none
 | k + 1, x5, x14, x15, x16 => if x16 < x15 then (if 0 ≤ x16 then (if x16 < (x14.length : Int) then ((impl_Lower.f (rdOf ByteArray.empty x14 x16)).bind fun t20 => (if x5.length < 8796093022208 then (impl_VaryOf.l0 k (x5 ++ [t20]) x14 x15 (wrap64 (x16 + 1))) else (none))) else (none)) else (none)) else (some x5)
def impl_VaryOf.f (k : Nat) (l0 : List (S116)) : Option (List ByteArray) := (impl_Get.f l0 (⟨#[118, 97, 114, 121]⟩ : ByteArray)).bind fun bt21 => ((impl_Split.f k bt21.1).bind fun t17 => (impl_VaryOf.l0 k ([] : List ByteArray) t17 (t17.length : Int) 0))
theorem impl_VaryOf.calls (k : Nat) (A0 : Option Addr) (c0 : Nat) (l0 : List (S116)) (r : List ByteArray) (w : World) (hGM : GLOBM w) (hr0 : Kd.C k116 w A0 l0.length l0) (hc0 : l0.length ≤ c0) (h : impl_VaryOf.f k l0 = some r) :
  Calls Tryz.prog 73 #[.slice A0 l0.length c0] w fun e w' => ∃ v0_ : Value, e = .returned (v0_) ∧ Kd.R Kd.string 9 w' w.heap.size (fun _ => True) v0_ r ∧ Below w.heap.size w w' := by
 have HR0 := am hr0
 have HC0 := am hc0
 clear hr0 hc0
 have HGM := am hGM
 clear hGM
 have HB := am (Below.refl w.heap.size w)
 unfold impl_VaryOf.f at h
 have H := h
 clear h
 revert H
 refine ok2 fun t21 t23 A2 H => ?_
 (try dsimp only at H)
 revert H
 refine ok1 fun t17 A3 H => ?_
 have H' := am H
 clear H
 go_enter Tryz.func73, Tryz.ntmps73
 go_wp2_with ((with_reducible refine gw ?_); first | (refine gl 10 Tryz.func63 #[.slice A0 l0.length c0, .string (⟨#[118, 97, 114, 121]⟩ : ByteArray)] ?_; refine (impl_Get.calls _ _ l0 (⟨#[118, 97, 114, 121]⟩ : ByteArray) t21 t23 _ (cc HR0) HC0.out A2.out).mono ?_; rintro e w4 ⟨rfl, hb⟩; refine ⟨_, rfl, ?_⟩; replace HB := am (below_step bl hb); clear hb) | (refine gl 14 Tryz.func81 #[.string t21] ?_; refine (impl_Split.calls k t21 t17 _ (GLOBM.below HGM.out bl) A3.out).mono ?_; rintro e w5 ⟨v25, rfl, ho0, hb⟩; refine ⟨_, rfl, ?_⟩; have HO22 := am (Kd.R_lower ho0 (below_size bl)); replace HB := am (below_step bl hb); clear hb ho0; obtain ⟨Ao6, co6, eo6⟩ := Kd.R_slice HO22.out; subst eo6))
 (try simp only [Act.put, List.setIfInBounds_toArray, List.set_cons_zero, List.set_cons_succ])
 go_loopg [5, 16] k (fun kq v5 v16 w' => ∃ (x5_1 : List ByteArray) (x16_1 : Int), v16 = .int .i64 x16_1 ∧ Aside0 (impl_VaryOf.l0 kq x5_1 t17 (t17.length : Int) x16_1 = some r) ∧ Aside0 (kq ≤ k) ∧ Aside0 (Kd.R Kd.string 9 w' w.heap.size (fun k_ => some k_ ≠ ((.slice Ao6 t17.length co6) : Value).ownBlock) v5 x5_1) ∧ Aside0 (Kd.R Kd.string 9 w' w.heap.size (fun k_ => some k_ ≠ (v5 : Value).ownBlock) (.slice Ao6 t17.length co6) t17) ∧ Aside0 (Below w.heap.size w w'))
 case atStart => exact ⟨(([] : List ByteArray)), (0), rs, H', ⟨Nat.le_refl _⟩, ⟨by first | exact Kd.R_nil _ _ _ _ _ | exact Kd.N_nil _ _ _ _ _ | exact Kd.V_nil _ _ _ _ _ | exact Kd.Q_nil _ _ _ _ _ | exact Kd.S_nil _ _ _ _ _⟩, ⟨by (with_reducible repeat (first | apply Kd.R_alloc | apply Kd.R_drewN | apply Kd.R_drew)); exact Kd.R_mono HO22.out (fun _ hk => (by simp [Value.ownBlock]))⟩, ⟨u73HB⟩⟩
 case round =>
  clear H'
  obtain ⟨x5_1, x16_1, rfl, HA, HK1, HO_5, HO_14, HB⟩ := hrel
  cases gk with
  | zero => exact absurd HA.out (by simp [impl_VaryOf.l0])
  | succ k1 =>
   have H := HA.out
   clear HA
   simp only [impl_VaryOf.l0] at H
   by_cases c7 : x16_1 < (t17.length : Int)
   rotate_left
   ·rw [if_neg c7] at H
    have c7b0 := decide_eq_false c7
    clear c7
    obtain rfl := si_ H
    go_wp2
    go_ret
    exact ⟨_, rf, by (with_reducible repeat (first | apply Kd.R_alloc | apply Kd.R_drewN | apply Kd.R_drew)); exact Kd.R_mono HO_5.out (fun _ hk => trivial), bl⟩
   rw [if_pos c7] at H
   have c7b0 := decide_eq_true c7
   clear c7
   revert H
   refine ifn fun c8 H => ?_
   have c8b0 := decide_eq_true c8
   clear c8
   revert H
   refine ifn fun c9 H => ?_
   have c9b0 := decide_eq_true c9
   clear c9
   revert H
   refine ok1 fun t20 A10 H => ?_
   revert H
   refine ifn fun c11 H => ?_
   have LMc11 := am c11
   clear c11
   obtain ⟨y19, hy19⟩ : ∃ y_ : List ByteArray, y_ = (x5_1 ++ [t20]) := ⟨_, rfl⟩
   replace H : (impl_VaryOf.l0 k1 y19 t17 (t17.length : Int) (wrap64 (x16_1 + 1))) = some r := by first | (rw [hy19]; with_reducible exact H) | (have H2_ := (Option.bind_some _ _).symm.trans H; rw [hy19]; with_reducible exact H2_) | (have H2_ := (Option.bind_some _ _).symm.trans H; with_reducible exact H2_) | with_reducible exact H | (rw [hy19]; exact H) | exact H
   have Ny19 := am hy19
   clear hy19
   have H' := am H
   clear H
   have p18 : 0 ≤ (x16_1 : Int) := od
   have q18 : x16_1 < (t17.length : Int) := od
   obtain ⟨ad18, e18, hx18_0⟩ := Kd.at_string (Kd.R_reads' HO_14.out).2.2 x16_1 p18 q18
   cases e18
   replace p18 := eq_true p18
   replace q18 := eq_true q18
   go_wp2_with (first | ((with_reducible refine gw ?_); first | (refine gl 22 Tryz.func83 #[.string (rdOf ByteArray.empty t17 x16_1)] ?_; (with_reducible refine (impl_Lower.calls (rdOf ByteArray.empty t17 x16_1) t20 _ A10.out).mono ?_); rintro e w12 ⟨rfl, hb⟩; refine ⟨_, rfl, ?_⟩; replace HO_5 := kr HO_5 hb; replace HO_14 := kr HO_14 hb; replace HB := am (below_step bl hb); clear hb)) | ((with_reducible refine gate_builtin (b := .append) (xs := #[.tmp 20, .tmp 23]) rfl ?_); at_builtin; refine Kd.R_append Kd.string (w0 := w) w.heap.size rfl (.tmp 20) (.tmp 23) 26 9 (.string ⟨#[]⟩) 16 rfl Tryz.underlying26 info9 rfl (by decide) (by omega) u5 x5_1 t20 [.string t20] (fun k_ => some k_ ≠ (.slice (some ad18) t17.length co6 : Value).ownBlock) (fun _ => False) rfl rfl ?aP (fun _ hk => hk.elim) ?aF ?aO ?aB ?aS ?aL ?_; (case aP => exact rfl); (case aB => exact bl); (case aF => exact (fun k_ hk => Kd.fresh' (Kd.R_lt (ro HO_14)) k_ hk)); (case aO => exact (ro HO_5)); (case aS => exact (below_size bl)); (case aL => have := LMc11.out; omega); intro v27 w13 ho hb hg hat; rw [← Ny19.out] at ho; have n0_ := am (Kd.R_after (ok := (fun _ => True)) (rm HO_14 (fun _ hk => ⟨trivial, hk⟩)) hg hat); have n1_ := am (hb); have n2_ := am (ho); clear HO_14; clear HB; clear HO_5; have HO_14 := n0_; have HB := n1_; have HO24 := n2_; clear n0_ n1_ n2_; clear ho hb hg hat))
   go_roundg k1
   case measure => have := HK1.out; omega
   case rel => exact ⟨(y19), (wrap64 (x16_1 + 1)), rs, H', ⟨by have := HK1.out; omega⟩, ⟨ro HO24⟩, ⟨rm HO_14 (fun _ hk => hk.2)⟩, ⟨u73HB⟩⟩
end Go.Proofs.YtjlpjbkpmmpojaaGreatDoor.All
