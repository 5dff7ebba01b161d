-- Written by a program of this session (wip/tools/hprint.py) out of the translation. Lean checks it.
import Derived.Test.YtjlpjbkpmmpojaaGreatDoorKHitsAllx0
import Derived.Test.YtjlpjbkpmmpojaaGreatDoorKHitsAllx1
import Derived.Test.YtjlpjbkpmmpojaaGreatDoorKHitsAllx8
namespace Go.Proofs.YtjlpjbkpmmpojaaGreatDoor.All
open Go.RowKit Go.Proofs.YtjlpjbkpmmpojaaGreatDoorW.PrintWords Go.Proofs.YtjlpjbkpmmpojaaGreatDoorW.PrintLast Go.Proofs.YtjlpjbkpmmpojaaGreatDoorW.PrintMore
attribute [local go_sem] max2_int min2_int max_two min_two max_three min_three max_four min_four  -- for this text's walks alone
set_option linter.unusedVariables false
set_option linter.unusedSimpArgs false

/-! ### impl_namesOk: function 71 -/
def impl_namesOk.l0 : Nat → List ByteArray → List ByteArray → Int → Int → Option (Bool)
 | 0, _, _, _, _ => none
 | k + 1, x0, x5, x6, x7 => if x7 < x6 then (if 0 ≤ x7 then (if x7 < (x5.length : Int) then ((impl_TokenOk.f k (rdOf ByteArray.empty x5 x7)).bind fun t777 => (if t777 = true then (impl_namesOk.l0 k x0 x5 x6 (wrap64 (x7 + 1))) else (some false))) else (none)) else (none)) else (some (decide ((x0.length : Int) ≤ 4)))
def impl_namesOk.f (k : Nat) (l0 : List ByteArray) : Option (Bool) := impl_namesOk.l0 k l0 l0 (l0.length : Int) 0
set_option maxHeartbeats 8000000 in
set_option maxRecDepth 100000 in
theorem impl_namesOk.calls (k : Nat) (A0 : Option Addr) (c0 : Nat) (l0 : List ByteArray) (r : Bool) (w : World) (hr0 : Kd.C Kd.string w A0 l0.length l0) (hc0 : l0.length ≤ c0) (h : impl_namesOk.f k l0 = some r) :
  Calls Tryz.prog 71 #[.slice A0 l0.length c0] w fun e w' => e = .returned (.bool r) ∧ Drawn0 w w' := by
 have HR0 := am hr0
 have HC0 := am hc0
 clear hr0 hc0
 unfold impl_namesOk.f at h
 have H := h
 clear h
 have H' := am H
 clear H
 go_enter Tryz.func71, Tryz.ntmps71
 go_wp2
 (try simp only [Act.put, List.setIfInBounds_toArray, List.set_cons_zero, List.set_cons_succ])
 go_loopg [7] k (fun kq v7 w' => ∃ (x7_1 : Int), v7 = .int .i64 x7_1 ∧ Aside0 (impl_namesOk.l0 kq l0 l0 (l0.length : Int) x7_1 = some r) ∧ Aside0 (kq ≤ k) ∧ Drawn0 w w')
 case atStart => exact ⟨(0), rs, H', ⟨Nat.le_refl _⟩, dr⟩
 case round =>
  clear H'
  obtain ⟨x7_1, rfl, HA, HK1, ⟨m1, rfl⟩⟩ := hrel
  cases gk with
  | zero => exact absurd HA.out (by simp [impl_namesOk.l0])
  | succ k1 =>
   have H := HA.out
   clear HA
   simp only [impl_namesOk.l0] at H
   by_cases c2 : x7_1 < (l0.length : Int)
   rotate_left
   ·rw [if_neg c2] at H
    have c2b0 := decide_eq_false c2
    clear c2
    obtain rfl := Option.some.inj H
    go_wp2
    go_ret
    exact ⟨rs, dr⟩
   rw [if_pos c2] at H
   have c2b0 := decide_eq_true c2
   clear c2
   revert H
   refine ifn fun c3 H => ?_
   have c3b0 := decide_eq_true c3
   clear c3
   revert H
   refine ifn fun c4 H => ?_
   have c4b0 := decide_eq_true c4
   clear c4
   revert H
   refine ok1 fun t777 A5 H => ?_
   by_cases c6 : t777 = true
   rotate_left
   ·replace c6 := Bool.eq_false_iff.mpr c6
    subst c6
    rw [if_neg (show ¬ (false = true) by decide)] at H
    obtain rfl := Option.some.inj H
    have p776 : 0 ≤ (x7_1 : Int) := od
    have q776 : x7_1 < (l0.length : Int) := od
    obtain ⟨ad776, e776, hx776_0⟩ := Kd.at_string HR0.out x7_1 p776 q776
    cases e776
    replace p776 := eq_true p776
    replace q776 := eq_true q776
    go_wp2_with ((with_reducible refine gw ?_); first | (refine gl 12 Tryz.func69 #[.string (rdOf ByteArray.empty l0 x7_1)] ?_; (with_reducible refine (impl_TokenOk.calls k1 (rdOf ByteArray.empty l0 x7_1) false _ A5.out).mono ?_); rintro e w' ⟨rfl, ⟨nd, rfl⟩⟩; refine ⟨_, rfl, ?_⟩))
    go_ret
    exact ⟨rs, dr⟩
   subst c6
   rw [if_pos rfl] at H
   have H' := am H
   clear H
   have p776 : 0 ≤ (x7_1 : Int) := od
   have q776 : x7_1 < (l0.length : Int) := od
   obtain ⟨ad776, e776, hx776_0⟩ := Kd.at_string HR0.out x7_1 p776 q776
   cases e776
   replace p776 := eq_true p776
   replace q776 := eq_true q776
   go_wp2_with ((with_reducible refine gw ?_); first | (refine gl 12 Tryz.func69 #[.string (rdOf ByteArray.empty l0 x7_1)] ?_; (with_reducible refine (impl_TokenOk.calls k1 (rdOf ByteArray.empty l0 x7_1) true _ A5.out).mono ?_); rintro e w' ⟨rfl, ⟨nd, rfl⟩⟩; refine ⟨_, rfl, ?_⟩))
   go_roundg k1
   case measure => have := HK1.out; omega
   case rel => exact ⟨(wrap64 (x7_1 + 1)), rs, H', ⟨by have := HK1.out; omega⟩, dr⟩

/-! ### impl_VaryOf: function 73 -/
theorem u73HB {p : Prop} (h : p := by repeat (first | (with_reducible first | exact HB.out | apply below_alloc | apply pw_below_drewN | apply below_drew1) | exact HB.out)) : p := h
def impl_VaryOf.l0 : Nat → List ByteArray → List ByteArray → Int → Int → Option (List ByteArray)
 | 0, _, _, _, _ => none
 | k + 1, x5, x14, x15, x16 => if x16 < x15 then (if 0 ≤ x16 then (if x16 < (x14.length : Int) then ((impl_Lower.f (rdOf ByteArray.empty x14 x16)).bind fun t796 => (if x5.length < 8796093022208 then (impl_VaryOf.l0 k (x5 ++ [t796]) x14 x15 (wrap64 (x16 + 1))) else (none))) else (none)) else (none)) else (some x5)
def impl_VaryOf.f (k : Nat) (l0 : List (S116)) : Option (List ByteArray) := (impl_Get.f l0 (⟨#[118, 97, 114, 121]⟩ : ByteArray)).bind fun bt790 => ((impl_Split.f k bt790.1).bind fun t792 => (impl_VaryOf.l0 k ([] : List ByteArray) t792 (t792.length : Int) 0))
set_option maxHeartbeats 8000000 in
set_option maxRecDepth 100000 in
theorem impl_VaryOf.calls (k : Nat) (A0 : Option Addr) (c0 : Nat) (l0 : List (S116)) (r : List ByteArray) (w : World) (hGM : GLOBM w) (hr0 : Kd.C k116 w A0 l0.length l0) (hc0 : l0.length ≤ c0) (h : impl_VaryOf.f k l0 = some r) :
  Calls Tryz.prog 73 #[.slice A0 l0.length c0] w fun e w' => ∃ v0_ : Value, e = .returned (v0_) ∧ Kd.R Kd.string 9 w' w.heap.size (fun _ => True) v0_ r ∧ Below w.heap.size w w' := by
 have HR0 := am hr0
 have HC0 := am hc0
 clear hr0 hc0
 have HGM := am hGM
 clear hGM
 have HB := am (Below.refl w.heap.size w)
 unfold impl_VaryOf.f at h
 have H := h
 clear h
 revert H
 refine ok2 fun t790 t791 A2 H => ?_
 (try dsimp only at H)
 revert H
 refine ok1 fun t792 A3 H => ?_
 have H' := am H
 clear H
 go_enter Tryz.func73, Tryz.ntmps73
 go_wp2_with ((with_reducible refine gw ?_); first | (refine gl 10 Tryz.func63 #[.slice A0 l0.length c0, .string (⟨#[118, 97, 114, 121]⟩ : ByteArray)] ?_; (with_reducible refine (impl_Get.calls _ _ l0 (⟨#[118, 97, 114, 121]⟩ : ByteArray) t790 t791 _ ?side1 ?side2 A2.out).mono ?_); (case side1 => exact cc HR0); (case side2 => exact HC0.out); rintro e w4 ⟨rfl, hb⟩; refine ⟨_, rfl, ?_⟩; replace HB := am (below_step bl hb); clear hb) | (refine gl 14 Tryz.func81 #[.string t790] ?_; (with_reducible refine (impl_Split.calls k t790 t792 _ ?side1 A3.out).mono ?_); (case side1 => exact GLOBM.below HGM.out bl); rintro e w5 ⟨v793, rfl, ho0, hb⟩; refine ⟨_, rfl, ?_⟩; have HO794 := am (Kd.R_lower ho0 (below_size bl)); replace HB := am (below_step bl hb); clear hb ho0; obtain ⟨Ao6, co6, eo6⟩ := Kd.R_slice HO794.out; subst eo6))
 (try simp only [Act.put, List.setIfInBounds_toArray, List.set_cons_zero, List.set_cons_succ])
 go_loopg [5, 16] k (fun kq v5 v16 w' => ∃ (x5_1 : List ByteArray) (x16_1 : Int), v16 = .int .i64 x16_1 ∧ Aside0 (impl_VaryOf.l0 kq x5_1 t792 (t792.length : Int) x16_1 = some r) ∧ Aside0 (kq ≤ k) ∧ Aside0 (Kd.R Kd.string 9 w' w.heap.size (fun k_ => some k_ ≠ ((.slice Ao6 t792.length co6) : Value).ownBlock) v5 x5_1) ∧ Aside0 (Kd.R Kd.string 9 w' w.heap.size (fun k_ => some k_ ≠ (v5 : Value).ownBlock) (.slice Ao6 t792.length co6) t792) ∧ Aside0 (Below w.heap.size w w'))
 case atStart => exact ⟨(([] : List ByteArray)), (0), rs, H', ⟨Nat.le_refl _⟩, ⟨by first | exact Kd.R_nil _ _ _ _ _ | exact Kd.N_nil _ _ _ _ _ | exact Kd.V_nil _ _ _ _ _ | exact Kd.Q_nil _ _ _ _ _ | exact Kd.S_nil _ _ _ _ _⟩, ⟨by (with_reducible repeat (first | apply Kd.R_alloc | apply Kd.R_drewN | apply Kd.R_drew)); exact Kd.R_mono HO794.out (fun _ hk => (by simp [Value.ownBlock]))⟩, ⟨u73HB⟩⟩
 case round =>
  clear H'
  try clear p2
  try clear c6
  obtain ⟨x5_1, x16_1, rfl, HA, HK1, HO_5, HO_14, HB⟩ := hrel
  cases gk with
  | zero => exact absurd HA.out (by simp [impl_VaryOf.l0])
  | succ k1 =>
   have H := HA.out
   clear HA
   simp only [impl_VaryOf.l0] at H
   by_cases c7 : x16_1 < (t792.length : Int)
   rotate_left
   ·rw [if_neg c7] at H
    have c7b0 := decide_eq_false c7
    clear c7
    obtain rfl := Option.some.inj H
    go_wp2
    go_ret
    exact ⟨_, rf, by (with_reducible repeat (first | apply Kd.R_alloc | apply Kd.R_drewN | apply Kd.R_drew)); exact Kd.R_mono HO_5.out (fun _ hk => trivial), bl⟩
   rw [if_pos c7] at H
   have c7b0 := decide_eq_true c7
   clear c7
   revert H
   refine ifn fun c8 H => ?_
   have c8b0 := decide_eq_true c8
   clear c8
   revert H
   refine ifn fun c9 H => ?_
   have c9b0 := decide_eq_true c9
   clear c9
   revert H
   refine ok1 fun t796 A10 H => ?_
   revert H
   refine ifn fun c11 H => ?_
   have LMc11 := am c11
   clear c11
   obtain ⟨y797, hy797⟩ : ∃ y_ : List ByteArray, y_ = (x5_1 ++ [t796]) := ⟨_, rfl⟩
   replace H : (impl_VaryOf.l0 k1 y797 t792 (t792.length : Int) (wrap64 (x16_1 + 1))) = some r := by first | (rw [hy797]; with_reducible exact H) | (have H2_ := (Option.bind_some _ _).symm.trans H; rw [hy797]; with_reducible exact H2_) | (have H2_ := (Option.bind_some _ _).symm.trans H; with_reducible exact H2_) | with_reducible exact H | (rw [hy797]; exact H) | exact H
   have Ny797 := am hy797
   clear hy797
   have H' := am H
   clear H
   have p795 : 0 ≤ (x16_1 : Int) := od
   have q795 : x16_1 < (t792.length : Int) := od
   obtain ⟨ad795, e795, hx795_0⟩ := Kd.at_string (Kd.R_reads' HO_14.out).2.2 x16_1 p795 q795
   cases e795
   replace p795 := eq_true p795
   replace q795 := eq_true q795
   go_wp2_with (first | ((with_reducible refine gw ?_); first | (refine gl 22 Tryz.func83 #[.string (rdOf ByteArray.empty t792 x16_1)] ?_; (with_reducible refine (impl_Lower.calls (rdOf ByteArray.empty t792 x16_1) t796 _ A10.out).mono ?_); rintro e w12 ⟨rfl, hb⟩; refine ⟨_, rfl, ?_⟩; replace HO_5 := kr HO_5 hb; replace HO_14 := kr HO_14 hb; replace HB := am (below_step bl hb); clear hb)) | ((with_reducible refine gate_builtin (b := .append) (xs := #[.tmp 20, .tmp 23]) rfl ?_); at_builtin; refine Kd.R_append Kd.string (w0 := w) w.heap.size rfl (.tmp 20) (.tmp 23) 26 9 (.string ⟨#[]⟩) 16 rfl Tryz.underlying26 info9 rfl (by decide) (by omega) u5 x5_1 t796 [.string t796] (fun k_ => some k_ ≠ (.slice (some ad795) t792.length co6 : Value).ownBlock) (fun _ => False) rfl rfl ?aP (fun _ hk => hk.elim) ?aF ?aO ?aB ?aS ?aL ?_; (case aP => exact rfl); (case aB => exact bl); (case aF => exact (fun k_ hk => Kd.fresh' (Kd.R_lt (ro HO_14)) k_ hk)); (case aO => exact (ro HO_5)); (case aS => exact (below_size bl)); (case aL => have := LMc11.out; omega); intro v798 w13 ho hb hg hat; rw [← Ny797.out] at ho; have n0_ := am (Kd.R_after (ok := (fun _ => True)) (by (with_reducible repeat (first | apply Kd.R_alloc | apply Kd.R_drewN | apply Kd.R_drew)); exact Kd.R_mono HO_14.out (fun _ hk => ⟨trivial, hk⟩)) hg hat); have n1_ := am (hb); have n2_ := am (ho); clear HO_14; clear HB; clear HO_5; have HO_14 := n0_; have HB := n1_; have HO799 := n2_; clear n0_ n1_ n2_; clear ho hb hg hat))
   go_roundg k1
   case measure => have := HK1.out; omega
   case rel => exact ⟨(y797), (wrap64 (x16_1 + 1)), rs, H', ⟨by have := HK1.out; omega⟩, ⟨by (with_reducible repeat (first | apply Kd.R_alloc | apply Kd.R_drewN | apply Kd.R_drew)); exact HO799.out⟩, ⟨by (with_reducible repeat (first | apply Kd.R_alloc | apply Kd.R_drewN | apply Kd.R_drew)); exact Kd.R_mono HO_14.out (fun _ hk => hk.2)⟩, ⟨u73HB⟩⟩

end Go.Proofs.YtjlpjbkpmmpojaaGreatDoor.All
