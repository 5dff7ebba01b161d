-- Written by a program of this session (wip/tools/hprint.py) out of the translation. Lean checks it.
import Derived.Test.YtiinmfjbildclaaDoorAllx0
import Derived.Test.YtiinmfjbildclaaDoorAllx3
import Derived.Test.YtiinmfjbildclaaDoorAllx5
import Derived.Test.YtiinmfjbildclaaDoorAllx6
namespace Go.Proofs.YtiinmfjbildclaaDoor.All
open Go.RowKit Go.Proofs.YtiinmfjbildclaaDoorW.PrintWords Go.Proofs.YtiinmfjbildclaaDoorW.PrintLast Go.Proofs.YtiinmfjbildclaaDoorW.PrintMore
attribute [local go_sem] max2_int min2_int max_two min_two max_three min_three max_four min_four   -- for this text's walks alone
set_option linter.unusedVariables false
set_option linter.unusedSimpArgs false

/-! ### spec_VaryOf: function 18 -/
def spec_VaryOf.l0 : Nat → List ByteArray → Int → Option (List ByteArray)
 | 0, _, _ => none
 | k + 1, x5, x6 => if x6 < (x5.length : Int) then (if 0 ≤ x6 then ((spec_Lower.f k (rdOf ByteArray.empty x5 x6)).bind fun t132 => (spec_VaryOf.l0 k (x5.set (x6 : Int).toNat t132) (wrap64 (x6 + 1)))) else (none)) else (some x5)
def spec_VaryOf.f (k : Nat) (l0 : List (S114)) : Option (List ByteArray) := (spec_Get.f k l0 (⟨#[118, 97, 114, 121]⟩ : ByteArray)).bind fun bt126 => ((spec_Split.f k bt126.1).bind fun t128 => (spec_VaryOf.l0 k t128 0))
theorem spec_VaryOf.mono_l : ∀ k, (∀ y0 y1, LeO (spec_VaryOf.l0 k y0 y1) (spec_VaryOf.l0 (k + 1) y0 y1))
 | 0 => fun _ _ r h => by simp [spec_VaryOf.l0] at h
 | k + 1 => by
  have ih0 := spec_VaryOf.mono_l k
  ·intro y0 y1
   unfold spec_VaryOf.l0
   repeat' first
   | (with_reducible exact ih0 _ _)
   | (with_reducible exact spec_Get.mono _ _ _)
   | (with_reducible exact spec_Lower.mono _ _)
   | (with_reducible exact spec_Split.mono _ _)
   | (with_reducible exact LeO.refl _)
   | (with_reducible exact LeO.none _)
   | (with_reducible refine LeO.ite ?_ ?_)
   | (with_reducible refine LeO.bind ?_ (fun _ => ?_))
   | exact ih0 _ _
   | exact spec_Get.mono _ _ _
   | exact spec_Lower.mono _ _
   | exact spec_Split.mono _ _
   | exact LeO.none _
   | refine LeO.ite ?_ ?_
   | refine LeO.bind ?_ (fun _ => ?_)
theorem spec_VaryOf.mono : ∀ a0 k, LeO (spec_VaryOf.f k a0) (spec_VaryOf.f (k + 1) a0) := by
 intro a0 k
 have ih0 := spec_VaryOf.mono_l k
 unfold spec_VaryOf.f
 repeat' first
   | (with_reducible exact ih0 _ _)
   | (with_reducible exact spec_Get.mono _ _ _)
   | (with_reducible exact spec_Lower.mono _ _)
   | (with_reducible exact spec_Split.mono _ _)
   | (with_reducible exact LeO.refl _)
   | (with_reducible exact LeO.none _)
   | (with_reducible refine LeO.ite ?_ ?_)
   | (with_reducible refine LeO.bind ?_ (fun _ => ?_))
   | exact ih0 _ _
   | exact spec_Get.mono _ _ _
   | exact spec_Lower.mono _ _
   | exact spec_Split.mono _ _
   | exact LeO.none _
   | refine LeO.ite ?_ ?_
   | refine LeO.bind ?_ (fun _ => ?_)
set_option maxHeartbeats 8000000 in
set_option maxRecDepth 100000 in
theorem spec_VaryOf.calls (k : Nat) (A0 : Option Addr) (c0 : Nat) (l0 : List (S114)) (r : List ByteArray) (w : World) (hr0 : Kd.C k114 w A0 l0.length l0) (hc0 : l0.length ≤ c0) (h : spec_VaryOf.f k l0 = some r) :
  Calls Tryd.prog 18 #[.slice A0 l0.length c0] w fun e w' => ∃ v0_ : Value, e = .returned (v0_) ∧ Kd.R Kd.string 9 w' w.heap.size (fun _ => True) v0_ r ∧ Below w.heap.size w w' := by
 have HR0 := am hr0
 have HC0 := am hc0
 clear hr0 hc0
 have HB := am (Below.refl w.heap.size w)
 have H : ((spec_Get.f k l0 (⟨#[118, 97, 114, 121]⟩ : ByteArray)).bind fun bt126 => ((spec_Split.f k bt126.1).bind fun t128 => (spec_VaryOf.l0 k t128 0))) = some r := h
 clear h
 replace H := ob H
 obtain ⟨⟨t126, t127⟩, A20, H⟩ := H
 replace H : ((spec_Split.f k t126).bind fun t128 => (spec_VaryOf.l0 k t128 0)) = some r := H
 have A2 := am A20
 clear A20
 replace H := ob H
 obtain ⟨t128, A30, H⟩ := H
 replace H : (spec_VaryOf.l0 k t128 0) = some r := H
 have A3 := am A30
 clear A30
 have H' := am H
 clear H
 go_enter Tryd.func18, Tryd.ntmps18
 go_wp2_with (first | ((with_reducible refine gate_callee (f := 97) rfl ?_); refine goesL_ (some 9) rfl rfl Tryd.func97 (by kernel_rfl) rfl #[.slice A0 l0.length c0, .string (⟨#[118, 97, 114, 121]⟩ : ByteArray)] rfl ma ?_; (with_reducible refine (spec_Get.calls k _ _ l0 (⟨#[118, 97, 114, 121]⟩ : ByteArray) t126 t127 _ ?side1 ?side2 A2.out).mono ?_); (case side1 => exact cc HR0); (case side2 => exact HC0.out); rintro e w' ⟨rfl, ⟨nd, rfl⟩⟩; refine ⟨_, rfl, ?_⟩) | ((with_reducible refine gate_callee (f := 88) rfl ?_); refine goesL_ (some 13) rfl rfl Tryd.func88 (by kernel_rfl) rfl #[.string t126] rfl ma ?_; (with_reducible refine (spec_Split.calls k t126 t128 _ A3.out).mono ?_); rintro e w4 ⟨v129, rfl, ho0, hb⟩; refine ⟨_, rfl, ?_⟩; have HO130 := am (Kd.R_lower ho0 (below_size bl)); replace HB := am (below_step bl hb); (try clear hb); (try clear hb2); (try clear hk); (try clear hi); (try clear ho0)))
 (try simp only [Act.put, List.setIfInBounds_toArray, List.set_cons_zero, List.set_cons_succ])
 go_loopg [6] k (fun kq v6 w' => ∃ (x5_1 : List ByteArray) (x6_1 : Int), v6 = .int .i64 x6_1 ∧ Aside0 (spec_VaryOf.l0 kq x5_1 x6_1 = some r) ∧ Aside0 (kq ≤ k) ∧ Aside0 (Kd.R Kd.string 9 w' w.heap.size (fun _ => True) v129 x5_1) ∧ Aside0 (Below w.heap.size w w'))
 case atStart => exact ⟨(t128), (0), rs, H', ⟨Nat.le_refl _⟩, ⟨by (with_reducible repeat (first | apply Kd.R_alloc | apply Kd.R_drewN | apply Kd.R_drew)); exact HO130.out⟩, ⟨by repeat (first | (with_reducible first | exact HB.out | apply below_alloc | apply pw_below_drewN | apply below_drew1) | exact HB.out)⟩⟩
 case round =>
  clear H'
  try clear c1
  try clear p2
  obtain ⟨x5_1, x6_1, rfl, HA, HK1, HO_5, HB⟩ := hrel
  cases gk with
  | zero => exact absurd HA.out (by simp [spec_VaryOf.l0])
  | succ k1 =>
   have H := HA.out
   clear HA
   simp only [spec_VaryOf.l0] at H
   by_cases c5 : x6_1 < (x5_1.length : Int)
   ·rw [if_pos c5] at H
    have c5b0 : decide (x6_1 < (x5_1.length : Int)) = true := decide_eq_true c5
    clear c5
    by_cases c6 : 0 ≤ x6_1
    ·rw [if_pos c6] at H
     have c6b0 : decide (0 ≤ x6_1) = true := decide_eq_true c6
     clear c6
     replace H := ob H
     obtain ⟨t132, A70, H⟩ := H
     replace H : (spec_VaryOf.l0 k1 (x5_1.set (x6_1 : Int).toNat t132) (wrap64 (x6_1 + 1))) = some r := H
     have A7 := am A70
     clear A70
     obtain ⟨y133, hy133⟩ : ∃ y_ : List ByteArray, y_ = (x5_1.set (x6_1 : Int).toNat t132) := ⟨_, rfl⟩
     replace H : (spec_VaryOf.l0 k1 y133 (wrap64 (x6_1 + 1))) = some r := by first | (rw [hy133]; with_reducible exact H) | (have H2_ := (Option.bind_some _ _).symm.trans H; rw [hy133]; with_reducible exact H2_) | (have H2_ := (Option.bind_some _ _).symm.trans H; with_reducible exact H2_) | with_reducible exact H | (rw [hy133]; exact H) | exact H
     have Ny133 := am hy133
     clear hy133
     have H' := am H
     clear H
     obtain ⟨Ao9, co9, eo9⟩ := Kd.R_slice HO_5.out
     subst eo9
     have p131 : 0 ≤ (x6_1 : Int) := od
     have q131 : x6_1 < (x5_1.length : Int) := od
     obtain ⟨ad131, e131, hx131_0⟩ := Kd.at_string (Kd.R_reads' HO_5.out).2.2 x6_1 p131 q131
     cases e131
     replace p131 := eq_true p131
     replace q131 := eq_true q131
     go_wp2_with (first | ((with_reducible refine gate_callee (f := 98) rfl ?_); refine goesL_ (some 26) rfl rfl Tryd.func98 (by kernel_rfl) rfl #[.string (rdOf ByteArray.empty x5_1 x6_1)] rfl ma ?_; (with_reducible refine (spec_Lower.calls k1 (rdOf ByteArray.empty x5_1 x6_1) t132 _ A7.out).mono ?_); rintro e w10 ⟨rfl, hb⟩; refine ⟨_, rfl, ?_⟩; replace HO_5 := kr HO_5 hb; replace HB := am (below_step bl hb); (try clear hb); (try clear hb2); (try clear hk); (try clear hi); have p8 : 0 ≤ (x6_1 : Int) := od; have q8 : (x6_1 : Int) < ((x5_1.length : Int) : Int) := od; obtain ⟨go8, co8, eo8, gb8, gl8, cl8, HG8⟩ := Kd.R_form HO_5.out (by omega); (first | cases eo8 | (injection eo8 with ea_ en_ ec_; (first | subst ea_ | (injection ea_ with ea_; subst ea_)); subst ec_; clear en_)); have GB8 := am gb8; have GG8 := am HG8; clear gb8 gl8 HG8; (first | simp only [add_plain] at hx131_0 | skip); obtain ⟨hx8_0, hf8_0⟩ := Kd.R_celln (⟨#[]⟩ : ByteArray) HO_5.out (x6_1 : Int) p8 q8; replace p8 := eq_true p8; replace q8 := eq_true q8; obtain ⟨hy11_, hz11_⟩ := Kd.R_celln (⟨#[]⟩ : ByteArray) HO_5.out (x6_1 : Int) (od) (od); have HP11 := Kd.R_putg HO_5.out (x6_1 : Int) t132) | ((with_reducible refine gate_store (t := 9) (p := 27) rfl ?_); refine store_event (t := 9) (p := 27) (v := ?vo_w12) (w1 := (w10.setCell ⟨go8, (x6_1 : Int).toNat, none⟩ (.string t132))) ?hg ?ho ?hn ?hr ?_; (case ho => rfl); (case hg => rfl); (case hn => rfl); (case hr => first | (go_simp; done) | (go_simp; rfl)); intro w12 hw; have hg : w10.grownBy w12 (some go8) := (by rw [hw]; exact HP11.2); have hp_ : Kd.R Kd.string 9 w12 w.heap.size (fun _ => True) (.slice (some ⟨go8, 0, none⟩) x5_1.length co9) y133 := (by rw [hw, Ny133.out]; exact HP11.1); clear HP11; have n0_ := am (hp_); have n1_ := am ((by rw [hw]; exact below_set (HB.out) GB8.out : Below w.heap.size w w12)); clear HO_5; clear HB; have HO_5 := n0_; have HB := n1_; clear n0_ n1_; clear hg hw hp_))
     go_roundg k1
     case measure => have := HK1.out; omega
     case rel => exact ⟨(y133), (wrap64 (x6_1 + 1)), rs, H', ⟨by have := HK1.out; omega⟩, ⟨by (with_reducible repeat (first | apply Kd.R_alloc | apply Kd.R_drewN | apply Kd.R_drew)); exact HO_5.out⟩, ⟨by repeat (first | (with_reducible first | exact HB.out | apply below_alloc | apply pw_below_drewN | apply below_drew1) | exact HB.out)⟩⟩
    ·rw [if_neg c6] at H
     exact absurd H (by simp)
   ·rw [if_neg c5] at H
    have c5b0 : decide (x6_1 < (x5_1.length : Int)) = false := decide_eq_false c5
    clear c5
    obtain rfl := Option.some.inj H
    obtain ⟨Ao13, co13, eo13⟩ := Kd.R_slice HO_5.out
    subst eo13
    go_wp2
    go_ret
    exact ⟨_, rf, by (with_reducible repeat (first | apply Kd.R_alloc | apply Kd.R_drewN | apply Kd.R_drew)); exact HO_5.out, bl⟩

/-! ### impl_VaryOf: function 20 -/
def impl_VaryOf.l0 : Nat → List ByteArray → List ByteArray → Int → Int → Option (List ByteArray)
 | 0, _, _, _, _ => none
 | k + 1, x5, x14, x15, x16 => if x16 < x15 then (if 0 ≤ x16 then (if x16 < (x14.length : Int) then ((impl_Lower.f (rdOf ByteArray.empty x14 x16)).bind fun t161 => (if x5.length < 8796093022208 then (impl_VaryOf.l0 k (x5 ++ [t161]) x14 x15 (wrap64 (x16 + 1))) else (none))) else (none)) else (none)) else (some x5)
def impl_VaryOf.f (k : Nat) (l0 : List (S114)) : Option (List ByteArray) := (impl_Get.f l0 (⟨#[118, 97, 114, 121]⟩ : ByteArray)).bind fun bt155 => ((impl_Split.f k bt155.1).bind fun t157 => (impl_VaryOf.l0 k ([] : List ByteArray) t157 (t157.length : Int) 0))
theorem impl_VaryOf.mono_l : ∀ k, (∀ y0 y1 y2 y3, LeO (impl_VaryOf.l0 k y0 y1 y2 y3) (impl_VaryOf.l0 (k + 1) y0 y1 y2 y3))
 | 0 => fun _ _ _ _ r h => by simp [impl_VaryOf.l0] at h
 | k + 1 => by
  have ih0 := impl_VaryOf.mono_l k
  ·intro y0 y1 y2 y3
   unfold impl_VaryOf.l0
   repeat' first
   | (with_reducible exact ih0 _ _ _ _)
   | (with_reducible exact impl_Split.mono _ _)
   | (with_reducible exact LeO.refl _)
   | (with_reducible exact LeO.none _)
   | (with_reducible refine LeO.ite ?_ ?_)
   | (with_reducible refine LeO.bind ?_ (fun _ => ?_))
   | exact ih0 _ _ _ _
   | exact impl_Split.mono _ _
   | exact LeO.none _
   | refine LeO.ite ?_ ?_
   | refine LeO.bind ?_ (fun _ => ?_)
theorem impl_VaryOf.mono : ∀ a0 k, LeO (impl_VaryOf.f k a0) (impl_VaryOf.f (k + 1) a0) := by
 intro a0 k
 have ih0 := impl_VaryOf.mono_l k
 unfold impl_VaryOf.f
 repeat' first
   | (with_reducible exact ih0 _ _ _ _)
   | (with_reducible exact impl_Split.mono _ _)
   | (with_reducible exact LeO.refl _)
   | (with_reducible exact LeO.none _)
   | (with_reducible refine LeO.ite ?_ ?_)
   | (with_reducible refine LeO.bind ?_ (fun _ => ?_))
   | exact ih0 _ _ _ _
   | exact impl_Split.mono _ _
   | exact LeO.none _
   | refine LeO.ite ?_ ?_
   | refine LeO.bind ?_ (fun _ => ?_)
set_option maxHeartbeats 8000000 in
set_option maxRecDepth 100000 in
theorem impl_VaryOf.calls (k : Nat) (A0 : Option Addr) (c0 : Nat) (l0 : List (S114)) (r : List ByteArray) (w : World) (hGM : GLOBM w) (hr0 : Kd.C k114 w A0 l0.length l0) (hc0 : l0.length ≤ c0) (h : impl_VaryOf.f k l0 = some r) :
  Calls Tryd.prog 20 #[.slice A0 l0.length c0] w fun e w' => ∃ v0_ : Value, e = .returned (v0_) ∧ Kd.R Kd.string 9 w' w.heap.size (fun _ => True) v0_ r ∧ Below w.heap.size w w' := by
 have HR0 := am hr0
 have HC0 := am hc0
 clear hr0 hc0
 have HGM := am hGM
 clear hGM
 have HB := am (Below.refl w.heap.size w)
 have H : ((impl_Get.f l0 (⟨#[118, 97, 114, 121]⟩ : ByteArray)).bind fun bt155 => ((impl_Split.f k bt155.1).bind fun t157 => (impl_VaryOf.l0 k ([] : List ByteArray) t157 (t157.length : Int) 0))) = some r := h
 clear h
 replace H := ob H
 obtain ⟨⟨t155, t156⟩, A20, H⟩ := H
 replace H : ((impl_Split.f k t155).bind fun t157 => (impl_VaryOf.l0 k ([] : List ByteArray) t157 (t157.length : Int) 0)) = some r := H
 have A2 := am A20
 clear A20
 replace H := ob H
 obtain ⟨t157, A30, H⟩ := H
 replace H : (impl_VaryOf.l0 k ([] : List ByteArray) t157 (t157.length : Int) 0) = some r := H
 have A3 := am A30
 clear A30
 have H' := am H
 clear H
 go_enter Tryd.func20, Tryd.ntmps20
 go_wp2_with (first | ((with_reducible refine gate_callee (f := 39) rfl ?_); refine goesL_ (some 10) rfl rfl Tryd.func39 (by kernel_rfl) rfl #[.slice A0 l0.length c0, .string (⟨#[118, 97, 114, 121]⟩ : ByteArray)] rfl ma ?_; (with_reducible refine (impl_Get.calls _ _ l0 (⟨#[118, 97, 114, 121]⟩ : ByteArray) t155 t156 _ ?side1 ?side2 A2.out).mono ?_); (case side1 => exact cc HR0); (case side2 => exact HC0.out); rintro e w4 ⟨rfl, hb⟩; refine ⟨_, rfl, ?_⟩; replace HB := am (below_step bl hb); (try clear hb); (try clear hb2); (try clear hk); (try clear hi)) | ((with_reducible refine gate_callee (f := 87) rfl ?_); refine goesL_ (some 14) rfl rfl Tryd.func87 (by kernel_rfl) rfl #[.string t155] rfl ma ?_; (with_reducible refine (impl_Split.calls k t155 t157 _ ?side1 A3.out).mono ?_); (case side1 => exact GLOBM.below HGM.out bl); rintro e w5 ⟨v158, rfl, ho0, hb⟩; refine ⟨_, rfl, ?_⟩; have HO159 := am (Kd.R_lower ho0 (below_size bl)); replace HB := am (below_step bl hb); (try clear hb); (try clear hb2); (try clear hk); (try clear hi); (try clear ho0); obtain ⟨Ao6, co6, eo6⟩ := Kd.R_slice HO159.out; subst eo6))
 (try simp only [Act.put, List.setIfInBounds_toArray, List.set_cons_zero, List.set_cons_succ])
 go_loopg [5, 16] k (fun kq v5 v16 w' => ∃ (x5_1 : List ByteArray) (x16_1 : Int), v16 = .int .i64 x16_1 ∧ Aside0 (impl_VaryOf.l0 kq x5_1 t157 (t157.length : Int) x16_1 = some r) ∧ Aside0 (kq ≤ k) ∧ Aside0 (Kd.R Kd.string 9 w' w.heap.size (fun k_ => some k_ ≠ ((.slice Ao6 t157.length co6) : Value).ownBlock) v5 x5_1) ∧ Aside0 (Kd.R Kd.string 9 w' w.heap.size (fun k_ => some k_ ≠ (v5 : Value).ownBlock) (.slice Ao6 t157.length co6) t157) ∧ Aside0 (Below w.heap.size w w'))
 case atStart => exact ⟨(([] : List ByteArray)), (0), rs, H', ⟨Nat.le_refl _⟩, ⟨by first | exact Kd.R_nil _ _ _ _ _ | exact Kd.N_nil _ _ _ _ _ | exact Kd.V_nil _ _ _ _ _ | exact Kd.Q_nil _ _ _ _ _ | exact Kd.S_nil _ _ _ _ _⟩, ⟨by (with_reducible repeat (first | apply Kd.R_alloc | apply Kd.R_drewN | apply Kd.R_drew)); exact Kd.R_mono HO159.out (fun _ hk => (by simp [Value.ownBlock]))⟩, ⟨by repeat (first | (with_reducible first | exact HB.out | apply below_alloc | apply pw_below_drewN | apply below_drew1) | exact HB.out)⟩⟩
 case round =>
  clear H'
  try clear c2
  try clear p2
  try clear c3
  obtain ⟨x5_1, x16_1, rfl, HA, HK1, HO_5, HO_14, HB⟩ := hrel
  cases gk with
  | zero => exact absurd HA.out (by simp [impl_VaryOf.l0])
  | succ k1 =>
   have H := HA.out
   clear HA
   simp only [impl_VaryOf.l0] at H
   by_cases c7 : x16_1 < (t157.length : Int)
   ·rw [if_pos c7] at H
    have c7b0 : decide (x16_1 < (t157.length : Int)) = true := decide_eq_true c7
    clear c7
    by_cases c8 : 0 ≤ x16_1
    ·rw [if_pos c8] at H
     have c8b0 : decide (0 ≤ x16_1) = true := decide_eq_true c8
     clear c8
     by_cases c9 : x16_1 < (t157.length : Int)
     ·rw [if_pos c9] at H
      have c9b0 : decide (x16_1 < (t157.length : Int)) = true := decide_eq_true c9
      clear c9
      replace H := ob H
      obtain ⟨t161, A100, H⟩ := H
      replace H : (if x5_1.length < 8796093022208 then (impl_VaryOf.l0 k1 (x5_1 ++ [t161]) t157 (t157.length : Int) (wrap64 (x16_1 + 1))) else (none)) = some r := H
      have A10 := am A100
      clear A100
      by_cases c11 : x5_1.length < 8796093022208
      ·rw [if_pos c11] at H
       have LMc11 := am c11
       clear c11
       obtain ⟨y162, hy162⟩ : ∃ y_ : List ByteArray, y_ = (x5_1 ++ [t161]) := ⟨_, rfl⟩
       replace H : (impl_VaryOf.l0 k1 y162 t157 (t157.length : Int) (wrap64 (x16_1 + 1))) = some r := by first | (rw [hy162]; with_reducible exact H) | (have H2_ := (Option.bind_some _ _).symm.trans H; rw [hy162]; with_reducible exact H2_) | (have H2_ := (Option.bind_some _ _).symm.trans H; with_reducible exact H2_) | with_reducible exact H | (rw [hy162]; exact H) | exact H
       have Ny162 := am hy162
       clear hy162
       have H' := am H
       clear H
       have p160 : 0 ≤ (x16_1 : Int) := od
       have q160 : x16_1 < (t157.length : Int) := od
       obtain ⟨ad160, e160, hx160_0⟩ := Kd.at_string (Kd.R_reads' HO_14.out).2.2 x16_1 p160 q160
       cases e160
       replace p160 := eq_true p160
       replace q160 := eq_true q160
       go_wp2_with (first | ((with_reducible refine gate_callee (f := 100) rfl ?_); refine goesL_ (some 22) rfl rfl Tryd.func100 (by kernel_rfl) rfl #[.string (rdOf ByteArray.empty t157 x16_1)] rfl ma ?_; (with_reducible refine (impl_Lower.calls (rdOf ByteArray.empty t157 x16_1) t161 _ A10.out).mono ?_); rintro e w12 ⟨rfl, hb⟩; refine ⟨_, rfl, ?_⟩; replace HO_5 := kr HO_5 hb; replace HO_14 := kr HO_14 hb; replace HB := am (below_step bl hb); (try clear hb); (try clear hb2); (try clear hk); (try clear hi)) | ((with_reducible refine gate_builtin (b := .append) (xs := #[.tmp 20, .tmp 23]) rfl ?_); at_builtin; refine Kd.R_append Kd.string (w0 := w) w.heap.size rfl (.tmp 20) (.tmp 23) 24 9 (.string ⟨#[]⟩) 16 rfl Tryd.underlying24 info9 rfl (by decide) (by omega) u5 x5_1 t161 [.string t161] (fun k_ => some k_ ≠ (.slice (some ad160) t157.length co6 : Value).ownBlock) (fun _ => False) rfl rfl ?aP (fun _ hk => hk.elim) ?aF ?aO ?aB ?aS ?aL ?_; (case aP => exact rfl); (case aB => exact bl); (case aF => exact (fun k_ hk => Kd.fresh' (Kd.R_lt (ro HO_14)) k_ hk)); (case aO => exact (ro HO_5)); (case aS => exact (below_size bl)); (case aL => have := LMc11.out; omega); intro v163 w13 ho hb hg hat; rw [← Ny162.out] at ho; have n0_ := am (Kd.R_after (ok := (fun _ => True)) (by (with_reducible repeat (first | apply Kd.R_alloc | apply Kd.R_drewN | apply Kd.R_drew)); exact Kd.R_mono HO_14.out (fun _ hk => ⟨trivial, hk⟩)) hg hat); have n1_ := am (hb); have n2_ := am (ho); clear HO_14; clear HB; clear HO_5; have HO_14 := n0_; have HB := n1_; have HO164 := n2_; clear n0_ n1_ n2_; clear ho hb hg hat))
       go_roundg k1
       case measure => have := HK1.out; omega
       case rel => exact ⟨(y162), (wrap64 (x16_1 + 1)), rs, H', ⟨by have := HK1.out; omega⟩, ⟨by (with_reducible repeat (first | apply Kd.R_alloc | apply Kd.R_drewN | apply Kd.R_drew)); exact HO164.out⟩, ⟨by (with_reducible repeat (first | apply Kd.R_alloc | apply Kd.R_drewN | apply Kd.R_drew)); exact Kd.R_mono HO_14.out (fun _ hk => hk.2)⟩, ⟨by repeat (first | (with_reducible first | exact HB.out | apply below_alloc | apply pw_below_drewN | apply below_drew1) | exact HB.out)⟩⟩
      ·rw [if_neg c11] at H
       exact absurd H (by simp)
     ·rw [if_neg c9] at H
      exact absurd H (by simp)
    ·rw [if_neg c8] at H
     exact absurd H (by simp)
   ·rw [if_neg c7] at H
    have c7b0 : decide (x16_1 < (t157.length : Int)) = false := decide_eq_false c7
    clear c7
    obtain rfl := Option.some.inj H
    go_wp2
    go_ret
    exact ⟨_, rf, by (with_reducible repeat (first | apply Kd.R_alloc | apply Kd.R_drewN | apply Kd.R_drew)); exact Kd.R_mono HO_5.out (fun _ hk => trivial), bl⟩

end Go.Proofs.YtiinmfjbildclaaDoor.All
