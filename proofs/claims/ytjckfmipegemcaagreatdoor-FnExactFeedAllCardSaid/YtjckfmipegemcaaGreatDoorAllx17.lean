-- Written by a program of this session (wip/tools/hprint.py) out of the translation. Lean checks it.
import Derived.Test.YtjckfmipegemcaaGreatDoorAllx0
import Derived.Test.YtjckfmipegemcaaGreatDoorAllx10
import Derived.Test.YtjckfmipegemcaaGreatDoorAllx12
import Derived.Test.YtjckfmipegemcaaGreatDoorAllx13
import Derived.Test.YtjckfmipegemcaaGreatDoorAllx15
namespace Go.Proofs.YtjckfmipegemcaaGreatDoor.All
open Go.RowKit Go.Proofs.YtjckfmipegemcaaGreatDoorW.PrintWords Go.Proofs.YtjckfmipegemcaaGreatDoorW.PrintLast Go.Proofs.YtjckfmipegemcaaGreatDoorW.PrintMore
attribute [local go_sem] max2_int min2_int max_two min_two max_three min_three max_four min_four   -- for this text's walks alone
set_option linter.unusedVariables false
set_option linter.unusedSimpArgs false

/-! ### laws_szStringS: function 25 -/
def laws_szStringS.l0 : Nat → List ByteArray → Int → Int → Option (Int)
 | 0, _, _, _ => none
 | k + 1, x0, x1, x5 => if x5 < (x0.length : Int) then (if 0 ≤ x5 then (if (wrap64 (x1 - ((rdOf ByteArray.empty x0 x5).size : Int))) < 0 then (some (-1)) else (laws_szStringS.l0 k x0 (wrap64 (x1 - ((rdOf ByteArray.empty x0 x5).size : Int))) (wrap64 (x5 + 1)))) else (none)) else (some x1)
def laws_szStringS.f (k : Nat) (l0 : List ByteArray) (a1 : Int) : Option (Int) := if (wrap64 (a1 - (l0.length : Int))) < 0 then (some (-1)) else (laws_szStringS.l0 k l0 (wrap64 (a1 - (l0.length : Int))) 0)
theorem laws_szStringS.mono_l : ∀ k, (∀ y0 y1 y2, LeO (laws_szStringS.l0 k y0 y1 y2) (laws_szStringS.l0 (k + 1) y0 y1 y2))
 | 0 => fun _ _ _ r h => by simp [laws_szStringS.l0] at h
 | k + 1 => by
  have ih0 := laws_szStringS.mono_l k
  ·intro y0 y1 y2
   unfold laws_szStringS.l0
   exact mo
theorem laws_szStringS.mono : ∀ a0 a1 k, LeO (laws_szStringS.f k a0 a1) (laws_szStringS.f (k + 1) a0 a1) := by
 intro a0 a1 k
 have ih0 := laws_szStringS.mono_l k
 unfold laws_szStringS.f
 exact mo
set_option maxHeartbeats 8000000 in
set_option maxRecDepth 100000 in
theorem laws_szStringS.calls (k : Nat) (A0 : Option Addr) (c0 : Nat) (l0 : List ByteArray) (a1 : Int) (r : Int) (w : World) (hr0 : Kd.C Kd.string w A0 l0.length l0) (hc0 : l0.length ≤ c0) (h : laws_szStringS.f k l0 a1 = some r) :
  Calls Tryz.prog 25 #[.slice A0 l0.length c0, .int .i64 a1] w fun e w' => e = .returned (.int .i64 r) ∧ Drawn0 w w' := by
 have HR0 := am hr0
 have HC0 := am hc0
 clear hr0 hc0
 unfold laws_szStringS.f at h
 have H := h
 clear h
 by_cases c3 : (wrap64 (a1 - (l0.length : Int))) < 0
 ·rw [if_pos c3] at H
  have c3b0 := decide_eq_true c3
  clear c3
  obtain rfl := Option.some.inj H
  go_enter Tryz.func25, Tryz.ntmps25
  go_wp2
  go_ret
  exact ⟨rs, dr⟩
 rw [if_neg c3] at H
 have c3b0 := decide_eq_false c3
 clear c3
 have H' := am H
 clear H
 go_enter Tryz.func25, Tryz.ntmps25
 go_wp2
 (try simp only [Act.put, List.setIfInBounds_toArray, List.set_cons_zero, List.set_cons_succ])
 go_loopg [1, 5] k (fun kq v1 v5 w' => ∃ (x1_1 : Int) (x5_1 : Int), v1 = .int .i64 x1_1 ∧ v5 = .int .i64 x5_1 ∧ Aside0 (laws_szStringS.l0 kq l0 x1_1 x5_1 = some r) ∧ Aside0 (kq ≤ k) ∧ Drawn0 w w')
 case atStart => exact ⟨(wrap64 (a1 - (l0.length : Int))), (0), rs, rs, H', ⟨Nat.le_refl _⟩, dr⟩
 case round =>
  clear H'
  try clear c2
  try clear p2
  try clear c3
  try clear c3b0
  obtain ⟨x1_1, x5_1, rfl, rfl, HA, HK1, ⟨m1, rfl⟩⟩ := hrel
  cases gk with
  | zero => exact absurd HA.out (by simp [laws_szStringS.l0])
  | succ k1 =>
   have H := HA.out
   clear HA
   simp only [laws_szStringS.l0] at H
   by_cases c4 : x5_1 < (l0.length : Int)
   rotate_left
   ·rw [if_neg c4] at H
    have c4b0 := decide_eq_false c4
    clear c4
    obtain rfl := Option.some.inj H
    go_wp2
    go_ret
    exact ⟨rs, dr⟩
   rw [if_pos c4] at H
   have c4b0 := decide_eq_true c4
   clear c4
   revert H
   refine ifn fun c5 H => ?_
   have c5b0 := decide_eq_true c5
   clear c5
   by_cases c6 : (wrap64 (x1_1 - ((rdOf ByteArray.empty l0 x5_1).size : Int))) < 0
   ·rw [if_pos c6] at H
    have c6b0 := decide_eq_true c6
    clear c6
    obtain rfl := Option.some.inj H
    have p623 : 0 ≤ (x5_1 : Int) := od
    have q623 : x5_1 < (l0.length : Int) := od
    obtain ⟨ad623, e623, hx623_0⟩ := Kd.at_string HR0.out x5_1 p623 q623
    cases e623
    replace p623 := eq_true p623
    replace q623 := eq_true q623
    go_wp2
    go_ret
    exact ⟨rs, dr⟩
   rw [if_neg c6] at H
   have c6b0 := decide_eq_false c6
   clear c6
   have H' := am H
   clear H
   have p623 : 0 ≤ (x5_1 : Int) := od
   have q623 : x5_1 < (l0.length : Int) := od
   obtain ⟨ad623, e623, hx623_0⟩ := Kd.at_string HR0.out x5_1 p623 q623
   cases e623
   replace p623 := eq_true p623
   replace q623 := eq_true q623
   go_wp2
   go_roundg k1
   case measure => have := HK1.out; omega
   case rel => exact ⟨(wrap64 (x1_1 - ((rdOf ByteArray.empty l0 x5_1).size : Int))), (wrap64 (x5_1 + 1)), rs, rs, H', ⟨by have := HK1.out; omega⟩, dr⟩

/-! ### laws_toStringS: function 26 -/
theorem u26HB {p : Prop} (h : p := by repeat (first | (with_reducible first | exact HB.out | apply below_alloc | apply pw_below_drewN | apply below_drew1) | exact HB.out)) : p := h
def laws_toStringS.l0 : Nat → List ByteArray → List ByteArray → Int → Option (List ByteArray)
 | 0, _, _, _ => none
 | k + 1, x0, x3, x4 => if x4 < (x0.length : Int) then (if 0 ≤ x4 then (if x4 < (x3.length : Int) then (laws_toStringS.l0 k x0 (x3.set (x4 : Int).toNat (rdOf ByteArray.empty x0 x4)) (wrap64 (x4 + 1))) else (none)) else (none)) else (some x3)
def laws_toStringS.f (k : Nat) (l0 : List ByteArray) : Option (List ByteArray) := if 0 ≤ (l0.length : Int) then (if ((l0.length : Int) : Int).toNat ≤ 17592186044416 then (laws_toStringS.l0 k l0 (List.replicate ((l0.length : Int) : Int).toNat (⟨#[]⟩ : ByteArray)) 0) else (none)) else (none)
theorem laws_toStringS.mono_l : ∀ k, (∀ y0 y1 y2, LeO (laws_toStringS.l0 k y0 y1 y2) (laws_toStringS.l0 (k + 1) y0 y1 y2))
 | 0 => fun _ _ _ r h => by simp [laws_toStringS.l0] at h
 | k + 1 => by
  have ih0 := laws_toStringS.mono_l k
  ·intro y0 y1 y2
   unfold laws_toStringS.l0
   exact mo
theorem laws_toStringS.mono : ∀ a0 k, LeO (laws_toStringS.f k a0) (laws_toStringS.f (k + 1) a0) := by
 intro a0 k
 have ih0 := laws_toStringS.mono_l k
 unfold laws_toStringS.f
 exact mo
set_option maxHeartbeats 8000000 in
set_option maxRecDepth 100000 in
theorem laws_toStringS.calls (k : Nat) (A0 : Option Addr) (c0 : Nat) (l0 : List ByteArray) (r : List ByteArray) (w : World) (hr0 : Kd.C Kd.string w A0 l0.length l0) (hc0 : l0.length ≤ c0) (h : laws_toStringS.f k l0 = some r) :
  Calls Tryz.prog 26 #[.slice A0 l0.length c0] w fun e w' => ∃ v0_ : Value, e = .returned (v0_) ∧ Kd.R Kd.string 9 w' w.heap.size (fun _ => True) v0_ r ∧ Below w.heap.size w w' := by
 have HR0 := am hr0
 have HC0 := am hc0
 clear hr0 hc0
 have HB := am (Below.refl w.heap.size w)
 unfold laws_toStringS.f at h
 have H := h
 clear h
 revert H
 refine ifn fun c2 H => ?_
 have c2b0 := eq_true c2
 have c2b1 := decide_eq_true c2
 clear c2
 revert H
 refine ifn fun c3 H => ?_
 have c3b0 := eq_true c3
 have c3b1 := decide_eq_true c3
 clear c3
 obtain ⟨y624, hy624⟩ : ∃ y_ : List ByteArray, y_ = (List.replicate ((l0.length : Int) : Int).toNat (⟨#[]⟩ : ByteArray)) := ⟨_, rfl⟩
 replace H : (laws_toStringS.l0 k l0 y624 0) = some r := by first | (rw [hy624]; with_reducible exact H) | (have H2_ := (Option.bind_some _ _).symm.trans H; rw [hy624]; with_reducible exact H2_) | (have H2_ := (Option.bind_some _ _).symm.trans H; with_reducible exact H2_) | with_reducible exact H | (rw [hy624]; exact H) | exact H
 have Ny624 := am hy624
 clear hy624
 have H' := am H
 clear H
 go_enter Tryz.func26, Tryz.ntmps26
 go_wp2_with (first | ((with_reducible refine gate_dst (N := 7) rfl ?_); refine Kd.R_make Kd.string _ 9 rfl (N := 7) rfl 35 _ _ rfl (l0.length : Int) rfl rfl Tryz.underlying35 (.string ⟨#[]⟩) 16 info9 rfl (by decide) (by omega) (⟨#[]⟩ : ByteArray) (ok := fun _ => True) (okp := fun _ => True) rfl (fun _ hk => hk) trivial (od) (Nat.le_trans (Nat.mul_le_mul_right _ (od : (l0.length : Int).toNat ≤ 17592186044416)) (by omega)) (Below.refl _ _) (Nat.le_refl _) ?_; intro v625 w4 ho5 hb hg_ hnew_; clear hg_ hnew_; (first | rw [← Ny624.out] at ho5 | (simp only [Int.reduceToNat] at ho5; rw [← Ny624.out] at ho5)); have HO626 := am (Kd.R_lower ho5 (below_size bl)); replace HB := am (below_step bl hb); clear hb ho5))
 (try simp only [Act.put, List.setIfInBounds_toArray, List.set_cons_zero, List.set_cons_succ])
 go_loopg [4] k (fun kq v4 w' => ∃ (x3_1 : List ByteArray) (x4_1 : Int), v4 = .int .i64 x4_1 ∧ Aside0 (laws_toStringS.l0 kq l0 x3_1 x4_1 = some r) ∧ Aside0 (kq ≤ k) ∧ Aside0 (Kd.R Kd.string 9 w' w.heap.size (fun _ => True) v625 x3_1) ∧ Aside0 (Below w.heap.size w w'))
 case atStart => exact ⟨(y624), (0), rs, H', ⟨Nat.le_refl _⟩, ⟨by (with_reducible repeat (first | apply Kd.R_alloc | apply Kd.R_drewN | apply Kd.R_drew)); exact HO626.out⟩, ⟨u26HB⟩⟩
 case round =>
  clear H'
  try clear c2
  try clear c2b0
  try clear c2b1
  try clear p2
  try clear c3
  try clear c3b0
  try clear c3b1
  obtain ⟨x3_1, x4_1, rfl, HA, HK1, HO_3, HB⟩ := hrel
  cases gk with
  | zero => exact absurd HA.out (by simp [laws_toStringS.l0])
  | succ k1 =>
   have H := HA.out
   clear HA
   simp only [laws_toStringS.l0] at H
   by_cases c6 : x4_1 < (l0.length : Int)
   rotate_left
   ·rw [if_neg c6] at H
    have c6b0 := decide_eq_false c6
    clear c6
    obtain rfl := Option.some.inj H
    go_wp2
    go_ret
    exact ⟨_, rf, by (with_reducible repeat (first | apply Kd.R_alloc | apply Kd.R_drewN | apply Kd.R_drew)); exact HO_3.out, bl⟩
   rw [if_pos c6] at H
   have c6b0 := decide_eq_true c6
   clear c6
   revert H
   refine ifn fun c7 H => ?_
   have c7b0 := decide_eq_true c7
   clear c7
   revert H
   refine ifn fun c8 H => ?_
   have c8b0 := decide_eq_true c8
   clear c8
   obtain ⟨y628, hy628⟩ : ∃ y_ : List ByteArray, y_ = (x3_1.set (x4_1 : Int).toNat (rdOf ByteArray.empty l0 x4_1)) := ⟨_, rfl⟩
   replace H : (laws_toStringS.l0 k1 l0 y628 (wrap64 (x4_1 + 1))) = some r := by first | (rw [hy628]; with_reducible exact H) | (have H2_ := (Option.bind_some _ _).symm.trans H; rw [hy628]; with_reducible exact H2_) | (have H2_ := (Option.bind_some _ _).symm.trans H; with_reducible exact H2_) | with_reducible exact H | (rw [hy628]; exact H) | exact H
   have Ny628 := am hy628
   clear hy628
   have H' := am H
   clear H
   have p627 : 0 ≤ (x4_1 : Int) := od
   have q627 : x4_1 < (l0.length : Int) := od
   obtain ⟨ad627, e627, hx627_0⟩ := Kd.at_string HR0.out x4_1 p627 q627
   cases e627
   replace hx627_0 := hcw hx627_0
   replace p627 := eq_true p627
   replace q627 := eq_true q627
   have p9 : 0 ≤ (x4_1 : Int) := od
   have q9 : (x4_1 : Int) < ((x3_1.length : Int) : Int) := od
   obtain ⟨go9, co9, eo9, gb9, gl9, cl9, HG9⟩ := Kd.R_form HO_3.out (by omega)
   (first | cases eo9 | (injection eo9 with ea_ en_ ec_; (first | subst ea_ | (injection ea_ with ea_; subst ea_)); subst ec_; clear en_))
   have GB9 := am gb9
   have GG9 := am HG9
   clear gb9 gl9 HG9
   obtain ⟨hx9_0, hf9_0⟩ := Kd.R_celln (⟨#[]⟩ : ByteArray) HO_3.out (x4_1 : Int) p9 q9
   replace p9 := eq_true p9
   replace q9 := eq_true q9
   have HP10 := Kd.R_putg HO_3.out (x4_1 : Int) (rdOf ByteArray.empty l0 x4_1)
   go_wp2_with (first | ((with_reducible refine gate_store (t := 9) (p := 20) rfl ?_); refine store_event (t := 9) (p := 20) (v := ?vo_w11) (w1 := (wr.setCell ⟨go9, (x4_1 : Int).toNat, none⟩ (.string (rdOf ByteArray.empty l0 x4_1)))) ?hg ?ho ?hn ?hr ?_; (case ho => rfl); (case hg => rfl); (case hn => rfl); (case hr => first | (go_simp; done) | (go_simp; rfl)); intro w11 hw; have hg : wr.grownBy w11 (some go9) := (by rw [hw]; exact HP10.2); have hp_ : Kd.R Kd.string 9 w11 w.heap.size (fun _ => True) (.slice (some ⟨go9, 0, none⟩) x3_1.length co9) y628 := (by rw [hw, Ny628.out]; exact HP10.1); clear HP10; have n0_ := am (hp_); have n1_ := am ((by rw [hw]; exact below_set (HB.out) GB9.out : Below w.heap.size w w11)); clear HO_3; clear HB; have HO_3 := n0_; have HB := n1_; clear n0_ n1_; clear hg hw hp_))
   go_roundg k1
   case measure => have := HK1.out; omega
   case rel => exact ⟨(y628), (wrap64 (x4_1 + 1)), rs, H', ⟨by have := HK1.out; omega⟩, ⟨by (with_reducible repeat (first | apply Kd.R_alloc | apply Kd.R_drewN | apply Kd.R_drew)); exact HO_3.out⟩, ⟨u26HB⟩⟩

/-! ### laws_eqStringS: function 27 -/
def laws_eqStringS.l0 : Nat → List ByteArray → List ByteArray → Int → Option (Bool)
 | 0, _, _, _ => none
 | k + 1, x0, x1, x5 => if x5 < (x0.length : Int) then (if 0 ≤ x5 then (if x5 < (x1.length : Int) then (if (rdOf ByteArray.empty x0 x5).toList = (rdOf ByteArray.empty x1 x5).toList then (laws_eqStringS.l0 k x0 x1 (wrap64 (x5 + 1))) else (some false)) else (none)) else (none)) else (some true)
def laws_eqStringS.f (k : Nat) (l0 : List ByteArray) (l1 : List ByteArray) : Option (Bool) := if (l0.length : Int) = (l1.length : Int) then (laws_eqStringS.l0 k l0 l1 0) else (some false)
theorem laws_eqStringS.mono_l : ∀ k, (∀ y0 y1 y2, LeO (laws_eqStringS.l0 k y0 y1 y2) (laws_eqStringS.l0 (k + 1) y0 y1 y2))
 | 0 => fun _ _ _ r h => by simp [laws_eqStringS.l0] at h
 | k + 1 => by
  have ih0 := laws_eqStringS.mono_l k
  ·intro y0 y1 y2
   unfold laws_eqStringS.l0
   exact mo
theorem laws_eqStringS.mono : ∀ a0 a1 k, LeO (laws_eqStringS.f k a0 a1) (laws_eqStringS.f (k + 1) a0 a1) := by
 intro a0 a1 k
 have ih0 := laws_eqStringS.mono_l k
 unfold laws_eqStringS.f
 exact mo
set_option maxHeartbeats 8000000 in
set_option maxRecDepth 100000 in
theorem laws_eqStringS.calls (k : Nat) (A0 : Option Addr) (c0 : Nat) (l0 : List ByteArray) (A1 : Option Addr) (c1 : Nat) (l1 : List ByteArray) (r : Bool) (w : World) (hr0 : Kd.C Kd.string w A0 l0.length l0) (hc0 : l0.length ≤ c0) (hr1 : Kd.C Kd.string w A1 l1.length l1) (hc1 : l1.length ≤ c1) (h : laws_eqStringS.f k l0 l1 = some r) :
  Calls Tryz.prog 27 #[.slice A0 l0.length c0, .slice A1 l1.length c1] w fun e w' => e = .returned (.bool r) ∧ Drawn0 w w' := by
 have HR0 := am hr0
 have HC0 := am hc0
 clear hr0 hc0
 have HR1 := am hr1
 have HC1 := am hc1
 clear hr1 hc1
 unfold laws_eqStringS.f at h
 have H := h
 clear h
 by_cases c3 : (l0.length : Int) = (l1.length : Int)
 rotate_left
 ·rw [if_neg c3] at H
  have c3b0 : ((l0.length : Int) == (l1.length : Int)) = false := beq_eq_false_iff_ne.mpr c3
  have c3b1 : ((l0.length : Int) != (l1.length : Int)) = true := bne_iff_ne.mpr c3
  have c3b2 : (l0.length == l1.length) = false := by first | simpa using c3 | (simp at c3 ⊢; omega)
  obtain rfl := Option.some.inj H
  go_enter Tryz.func27, Tryz.ntmps27
  go_wp2
  repeat (go_quiet (fail); try go_wp2)
  go_ret
  exact ⟨rs, dr⟩
 rw [if_pos c3] at H
 have c3b0 : ((l0.length : Int) == (l1.length : Int)) = true := beq_iff_eq.mpr c3
 have c3b1 : ((l0.length : Int) != (l1.length : Int)) = false := bne_eq_false_iff_eq.mpr c3
 have c3b2 : (l0.length == l1.length) = true := by first | simpa using c3 | (simp at c3 ⊢; omega)
 clear c3
 have H' := am H
 clear H
 go_enter Tryz.func27, Tryz.ntmps27
 go_wp2
 repeat (go_quiet (fail); try go_wp2)
 (try simp only [Act.put, List.setIfInBounds_toArray, List.set_cons_zero, List.set_cons_succ])
 go_loopg [5] k (fun kq v5 w' => ∃ (x5_1 : Int), v5 = .int .i64 x5_1 ∧ Aside0 (laws_eqStringS.l0 kq l0 l1 x5_1 = some r) ∧ Aside0 (kq ≤ k) ∧ Drawn0 w w')
 case atStart => exact ⟨(0), rs, H', ⟨Nat.le_refl _⟩, dr⟩
 case round =>
  clear H'
  try clear c1
  try clear c2
  try clear p2
  try clear c3
  try clear c3b0
  try clear c3b1
  try clear c3b2
  obtain ⟨x5_1, rfl, HA, HK1, ⟨m1, rfl⟩⟩ := hrel
  cases gk with
  | zero => exact absurd HA.out (by simp [laws_eqStringS.l0])
  | succ k1 =>
   have H := HA.out
   clear HA
   simp only [laws_eqStringS.l0] at H
   by_cases c4 : x5_1 < (l0.length : Int)
   rotate_left
   ·rw [if_neg c4] at H
    have c4b0 := decide_eq_false c4
    clear c4
    obtain rfl := Option.some.inj H
    go_wp2
    repeat (go_quiet (fail); try go_wp2)
    go_ret
    exact ⟨rs, dr⟩
   rw [if_pos c4] at H
   have c4b0 := decide_eq_true c4
   clear c4
   revert H
   refine ifn fun c5 H => ?_
   have c5b0 := decide_eq_true c5
   clear c5
   revert H
   refine ifn fun c6 H => ?_
   have c6b0 := decide_eq_true c6
   clear c6
   by_cases c7 : (rdOf ByteArray.empty l0 x5_1).toList = (rdOf ByteArray.empty l1 x5_1).toList
   rotate_left
   ·rw [if_neg c7] at H
    have c7b0 : ((rdOf ByteArray.empty l0 x5_1).toList == (rdOf ByteArray.empty l1 x5_1).toList) = false := beq_eq_false_iff_ne.mpr c7
    have c7b1 : ((rdOf ByteArray.empty l0 x5_1).toList != (rdOf ByteArray.empty l1 x5_1).toList) = true := bne_iff_ne.mpr c7
    obtain rfl := Option.some.inj H
    have p629 : 0 ≤ (x5_1 : Int) := od
    have q629 : x5_1 < (l0.length : Int) := od
    obtain ⟨ad629, e629, hx629_0⟩ := Kd.at_string HR0.out x5_1 p629 q629
    cases e629
    replace p629 := eq_true p629
    replace q629 := eq_true q629
    have p630 : 0 ≤ (x5_1 : Int) := od
    have q630 : x5_1 < (l1.length : Int) := od
    obtain ⟨ad630, e630, hx630_0⟩ := Kd.at_string HR1.out x5_1 p630 q630
    cases e630
    replace p630 := eq_true p630
    replace q630 := eq_true q630
    go_wp2
    repeat (go_quiet (fail); try go_wp2)
    go_ret
    exact ⟨rs, dr⟩
   rw [if_pos c7] at H
   have c7b0 : ((rdOf ByteArray.empty l0 x5_1).toList == (rdOf ByteArray.empty l1 x5_1).toList) = true := beq_iff_eq.mpr c7
   have c7b1 : ((rdOf ByteArray.empty l0 x5_1).toList != (rdOf ByteArray.empty l1 x5_1).toList) = false := bne_eq_false_iff_eq.mpr c7
   clear c7
   have H' := am H
   clear H
   have p629 : 0 ≤ (x5_1 : Int) := od
   have q629 : x5_1 < (l0.length : Int) := od
   obtain ⟨ad629, e629, hx629_0⟩ := Kd.at_string HR0.out x5_1 p629 q629
   cases e629
   replace p629 := eq_true p629
   replace q629 := eq_true q629
   have p630 : 0 ≤ (x5_1 : Int) := od
   have q630 : x5_1 < (l1.length : Int) := od
   obtain ⟨ad630, e630, hx630_0⟩ := Kd.at_string HR1.out x5_1 p630 q630
   cases e630
   replace p630 := eq_true p630
   replace q630 := eq_true q630
   go_wp2
   repeat (go_quiet (fail); try go_wp2)
   go_roundg k1
   case measure => have := HK1.out; omega
   case rel => exact ⟨(wrap64 (x5_1 + 1)), rs, H', ⟨by have := HK1.out; omega⟩, dr⟩

/-! ### laws_markStringS: function 28 -/
theorem u28HK {p : Prop} (h : p := by repeat (first | (with_reducible first | exact HK.out | apply Kept.alloc | apply Kept.drewN | apply Kept.drew) | exact HK.out)) : p := h
theorem u28HB {p : Prop} (h : p := by repeat (first | (with_reducible first | exact HB.out | apply below_alloc | apply pw_below_drewN | apply below_drew1) | exact HB.out)) : p := h
def laws_markStringS.l0 : Nat → List ByteArray → Int → Int → Option (Int × List ByteArray)
 | 0, _, _, _ => none
 | k + 1, x0, x1, x5 => if x5 < (x0.length : Int) then ((laws_markText.f k x1).bind fun t631 => (if 0 ≤ x5 then (laws_markStringS.l0 k (x0.set (x5 : Int).toNat t631) (wrap64 (x1 + 1)) (wrap64 (x5 + 1))) else (none))) else (some (x1, x0))
def laws_markStringS.f (k : Nat) (l0 : List ByteArray) (a1 : Int) : Option (Int × List ByteArray) := laws_markStringS.l0 k l0 a1 0
theorem laws_markStringS.mono_l : ∀ k, (∀ y0 y1 y2, LeO (laws_markStringS.l0 k y0 y1 y2) (laws_markStringS.l0 (k + 1) y0 y1 y2))
 | 0 => fun _ _ _ r h => by simp [laws_markStringS.l0] at h
 | k + 1 => by
  have ih0 := laws_markStringS.mono_l k
  ·intro y0 y1 y2
   unfold laws_markStringS.l0
   have m0 := @laws_markText.mono
   exact mo
theorem laws_markStringS.mono : ∀ a0 a1 k, LeO (laws_markStringS.f k a0 a1) (laws_markStringS.f (k + 1) a0 a1) := by
 intro a0 a1 k
 have ih0 := laws_markStringS.mono_l k
 unfold laws_markStringS.f
 have m0 := @laws_markText.mono
 exact mo
set_option maxHeartbeats 8000000 in
set_option maxRecDepth 100000 in
theorem laws_markStringS.calls (k : Nat) (P0_ : Nat → Prop) (u9000_ : Value) (l0 : List ByteArray) (a1 : Int) (r1 : Int) (r2 : List ByteArray) (w0 w : World) (hB : Below w0.heap.size w0 w) (ho0 : Kd.R Kd.string 9 w w0.heap.size P0_ u9000_ l0) (h : laws_markStringS.f k l0 a1 = some (r1, r2)) :
  Calls Tryz.prog 28 #[u9000_, .int .i64 a1] w fun e w' => e = .returned (.int .i64 r1) ∧ Kd.R Kd.string 9 w' w0.heap.size (fun k_ => (P0_ k_ ∨ w.heap.size ≤ k_)) u9000_ r2 ∧ Below w0.heap.size w0 w' ∧ Kept w w' (fun k_ => P0_ k_) := by
 have HO0 := am (show Kd.R Kd.string 9 w w0.heap.size (fun k_ => (P0_ k_ ∨ w.heap.size ≤ k_)) u9000_ l0 from Kd.R_mono ho0 (fun k_ hk => (.inl hk)))
 have HK := am (Kept.refl w (fun k_ => P0_ k_))
 have HW0 := am hB.size
 have HB := am hB
 clear hB
 unfold laws_markStringS.f at h
 have H := h
 clear h
 have H' := am H
 clear H
 go_enter Tryz.func28, Tryz.ntmps28
 go_wp2
 (try simp only [Act.put, List.setIfInBounds_toArray, List.set_cons_zero, List.set_cons_succ])
 go_loopg [1, 5] k (fun kq v1 v5 w' => ∃ (x0_1 : List ByteArray) (x1_1 : Int) (x5_1 : Int), v1 = .int .i64 x1_1 ∧ v5 = .int .i64 x5_1 ∧ Aside0 (laws_markStringS.l0 kq x0_1 x1_1 x5_1 = some (r1, r2)) ∧ Aside0 (kq ≤ k) ∧ Aside0 (Kd.R Kd.string 9 w' w0.heap.size (fun k_ => (P0_ k_ ∨ w.heap.size ≤ k_)) u9000_ x0_1) ∧ Aside0 (Kept w w' (fun k_ => P0_ k_)) ∧ Aside0 (Below w0.heap.size w0 w'))
 case atStart => exact ⟨(l0), (a1), (0), rs, rs, H', ⟨Nat.le_refl _⟩, ⟨by (with_reducible repeat (first | apply Kd.R_alloc | apply Kd.R_drewN | apply Kd.R_drew)); exact HO0.out⟩, ⟨u28HK⟩, ⟨u28HB⟩⟩
 case round =>
  clear H'
  try clear c2
  try clear p2
  obtain ⟨x0_1, x1_1, x5_1, rfl, rfl, HA, HK1, HO_0, HK, HB⟩ := hrel
  cases gk with
  | zero => exact absurd HA.out (by simp [laws_markStringS.l0])
  | succ k1 =>
   have H := HA.out
   clear HA
   simp only [laws_markStringS.l0] at H
   by_cases c3 : x5_1 < (x0_1.length : Int)
   rotate_left
   ·rw [if_neg c3] at H
    have c3b0 := decide_eq_false c3
    clear c3
    simp only [Option.some.injEq, Prod.mk.injEq] at H
    obtain ⟨rfl, rfl⟩ := H
    obtain ⟨Ao11, co11, eo11⟩ := Kd.R_slice HO_0.out
    subst eo11
    go_wp2
    go_ret
    exact ⟨rf, by (with_reducible repeat (first | apply Kd.R_alloc | apply Kd.R_drewN | apply Kd.R_drew)); exact HO_0.out, u28HB, u28HK⟩
   rw [if_pos c3] at H
   have c3b0 := decide_eq_true c3
   clear c3
   revert H
   refine ok1 fun t631 A4 H => ?_
   revert H
   refine ifn fun c5 H => ?_
   have c5b0 := decide_eq_true c5
   clear c5
   obtain ⟨y632, hy632⟩ : ∃ y_ : List ByteArray, y_ = (x0_1.set (x5_1 : Int).toNat t631) := ⟨_, rfl⟩
   replace H : (laws_markStringS.l0 k1 y632 (wrap64 (x1_1 + 1)) (wrap64 (x5_1 + 1))) = some (r1, r2) := by first | (rw [hy632]; with_reducible exact H) | (have H2_ := (Option.bind_some _ _).symm.trans H; rw [hy632]; with_reducible exact H2_) | (have H2_ := (Option.bind_some _ _).symm.trans H; with_reducible exact H2_) | with_reducible exact H | (rw [hy632]; exact H) | exact H
   have Ny632 := am hy632
   clear hy632
   have H' := am H
   clear H
   obtain ⟨Ao7, co7, eo7⟩ := Kd.R_slice HO_0.out
   subst eo7
   go_wp2_with (first | ((with_reducible refine gw ?_); first | (refine gl 15 Tryz.func47 #[.int .i64 x1_1] ?_; (with_reducible refine (laws_markText.calls k1 x1_1 t631 _ A4.out).mono ?_); rintro e w8 ⟨rfl, hb⟩; refine ⟨_, rfl, ?_⟩; replace HO_0 := kr HO_0 hb; replace HK := am (Kept.below (S := (fun k_ => P0_ k_)) u28HK hb); replace HB := am (below_step bl hb); clear hb; have p6 : 0 ≤ (x5_1 : Int) := od; have q6 : (x5_1 : Int) < ((x0_1.length : Int) : Int) := od; obtain ⟨go6, co6, eo6, gb6, gl6, cl6, HG6⟩ := Kd.R_form HO_0.out (by omega); (first | cases eo6 | (injection eo6 with ea_ en_ ec_; (first | subst ea_ | (injection ea_ with ea_; subst ea_)); subst ec_; clear en_)); have GB6 := am gb6; have GG6 := am HG6; clear gb6 gl6 HG6; have HMgo6 := am (show (P0_ go6 ∨ w.heap.size ≤ go6) from (HO_0.out.1 _ rfl)); obtain ⟨hx6_0, hf6_0⟩ := Kd.R_celln (⟨#[]⟩ : ByteArray) HO_0.out (x5_1 : Int) p6 q6; replace p6 := eq_true p6; replace q6 := eq_true q6; obtain ⟨hy9_, hz9_⟩ := Kd.R_celln (⟨#[]⟩ : ByteArray) HO_0.out (x5_1 : Int) (od) (od); have HP9 := Kd.R_putg HO_0.out (x5_1 : Int) t631)) | ((with_reducible refine gate_store (t := 9) (p := 16) rfl ?_); refine store_event (t := 9) (p := 16) (v := ?vo_w10) (w1 := (w8.setCell ⟨go6, (x5_1 : Int).toNat, none⟩ (.string t631))) ?hg ?ho ?hn ?hr ?_; (case ho => rfl); (case hg => rfl); (case hn => rfl); (case hr => first | (go_simp; done) | (go_simp; rfl)); intro w10 hw; have hg : w8.grownBy w10 (some go6) := (by rw [hw]; exact HP9.2); have hp_ : Kd.R Kd.string 9 w10 w0.heap.size (fun k_ => (P0_ k_ ∨ w.heap.size ≤ k_)) (.slice (some ⟨go6, 0, none⟩) x0_1.length co7) y632 := (by rw [hw, Ny632.out]; exact HP9.1); clear HP9; have n0_ := am (hp_); have n1_ := am ((by rw [hw]; exact below_set (HB.out) GB6.out : Below w0.heap.size w0 w10)); have n2_ := am (Kept.of_grown (S := (fun k_ => P0_ k_)) hg u28HK (fun k_ e_ => (HO_0.out.1 k_ e_))); clear HO_0; clear HB; clear HK; have HO_0 := n0_; have HB := n1_; have HK := n2_; clear n0_ n1_ n2_; clear hg hw hp_))
   go_roundg k1
   case measure => have := HK1.out; omega
   case rel => exact ⟨(y632), (wrap64 (x1_1 + 1)), (wrap64 (x5_1 + 1)), rs, rs, H', ⟨by have := HK1.out; omega⟩, ⟨by (with_reducible repeat (first | apply Kd.R_alloc | apply Kd.R_drewN | apply Kd.R_drew)); exact HO_0.out⟩, ⟨u28HK⟩, ⟨u28HB⟩⟩

/-! #### words -/
theorem eq_RR {k : Nat} {A A' : Option Addr} {n c n' c' base base' : Nat} {ok ok' : Nat → Prop} {xs ys : List ByteArray} {r : Bool} {w : World} (hS : Kd.R Kd.string 9 w base ok (.slice A n c) xs) (hN : Kd.R Kd.string 9 w base' ok' (.slice A' n' c') ys) (h : laws_eqStringS.f k xs ys = some r) :
  Calls Tryz.prog 27 #[.slice A n c, .slice A' n' c'] w fun e w' => e = .returned (.bool r) ∧ Below w.heap.size w w' := by
 obtain ⟨e, h1, h2⟩ := Kd.R_reads' hS
 obtain ⟨e', h1', h2'⟩ := Kd.R_reads' hN
 subst e
 subst e'
 refine (laws_eqStringS.calls k A c xs A' c' ys r w h2 h1 h2' h1' h).mono ?_
 rintro e w' ⟨rfl, m, rfl⟩
 exact ⟨rfl, pw_below_drewN (Below.refl _ _) m⟩
theorem impl_FeedAll_R {k : Nat} {a0 : ByteArray} {a1 : Bool} {A : Option Addr} {n c base : Nat} {ok : Nat → Prop} {xs : List ByteArray} {r1 : ByteArray} {r2 : Bool} {r3 : List S40} {w : World} (hGE : GLOBE w) (hGM : GLOBM w) (hGT : GLOBT w) (hR : Kd.R Kd.string 9 w base ok (.slice A n c) xs) (h : impl_FeedAll.f k a0 a1 xs = some (r1, r2, r3)) :
  Calls Tryz.prog 12 #[.agg #[.string a0, .bool a1], .slice A n c] w fun e w' => ∃ v2_ : Value, e = .returned (.tuple #[.agg #[.string r1, .bool r2], v2_]) ∧ Kd.S k40 40 w' w.heap.size (fun _ => True) v2_ r3 ∧ Below w.heap.size w w' := by
 obtain ⟨e, h1, h2⟩ := Kd.R_reads' hR
 subst e
 exact impl_FeedAll.calls k a0 a1 A c xs r1 r2 r3 w hGE hGM hGT h2 h1 h
theorem spec_FeedAll_R {k : Nat} {a0 : ByteArray} {a1 : Bool} {A : Option Addr} {n c base : Nat} {ok : Nat → Prop} {xs : List ByteArray} {r1 : ByteArray} {r2 : Bool} {r3 : List S40} {w : World} (hR : Kd.R Kd.string 9 w base ok (.slice A n c) xs) (h : spec_FeedAll.f k a0 a1 xs = some (r1, r2, r3)) :
  Calls Tryz.prog 24 #[.agg #[.string a0, .bool a1], .slice A n c] w fun e w' => ∃ v2_ : Value, e = .returned (.tuple #[.agg #[.string r1, .bool r2], v2_]) ∧ Kd.N k40 40 w' w.heap.size (fun k_ => (w.heap.size ≤ k_)) v2_ r3 ∧ Below w.heap.size w w' := by
 obtain ⟨e, h1, h2⟩ := Kd.R_reads' hR
 subst e
 exact spec_FeedAll.calls k a0 a1 A c xs r1 r2 r3 w h2 h1 h
theorem szS_below {f : FuncId} {args : Array Value} {w : World} {v : Value} (h : Calls Tryz.prog f args w fun e w' => e = .returned v ∧ Drawn0 w w') : Calls Tryz.prog f args w fun e w' => e = .returned v ∧ Below w.heap.size w w' := by
 refine h.mono ?_
 rintro e w' ⟨rfl, m, rfl⟩
 exact ⟨rfl, pw_below_drewN (Below.refl _ _) m⟩

/-! ### laws.FnExactFeedAll: by hand, for the result true alone -/
def laws_FnExactFeedAll.f (k : Nat) (a0_0 : ByteArray) (a0_1 : Bool) (l1 : List ByteArray) : Option Bool := (laws_szStream.f a0_0 a0_1 1048576).bind fun t => if t < 0 then some true else (laws_szStringS.f k l1 t).bind fun t2 => if t2 < 0 then some true else (laws_toStream.f a0_0 a0_1).bind fun s => (laws_toStringS.f k l1).bind fun l => (spec_FeedAll.f k s.1 s.2 l).bind fun p => (impl_FeedAll.f k s.1 s.2 l).bind fun q => (laws_eqStream.f q.1 q.2.1 p.1 p.2.1).bind fun e1 => (laws_eqReqS.f k q.2.2 p.2.2).bind fun e2 => (laws_eqStringS.f k l l).bind fun e3 => (laws_markStringS.f k l 1).bind fun ms => (laws_markReqS.f k q.2.2 1).bind fun m => (laws_heldReqS.f k m.2 1).bind fun hh => if e1 = true ∧ e2 = true ∧ e3 = true ∧ 0 ≤ ms.1 ∧ 0 ≤ hh ∧ hh = m.1 then some true else none
set_option maxHeartbeats 40000000 in
set_option maxHeartbeats 40000000 in
set_option maxHeartbeats 40000000 in
set_option maxHeartbeats 40000000 in
set_option maxRecDepth 100000 in
theorem laws_FnExactFeedAll.calls (k : Nat) (a0_0 : ByteArray) (a0_1 : Bool) (A1 : Option Addr) (c1 : Nat) (l1 : List ByteArray) (r : Bool) (w : World) (hGE : GLOBE w) (hGM : GLOBM w) (hGT : GLOBT w) (hr1 : Kd.C Kd.string w A1 l1.length l1) (hc1 : l1.length ≤ c1) (ht_ : r = true) (h : laws_FnExactFeedAll.f k a0_0 a0_1 l1 = some r) :
  Calls Tryz.prog 6 #[.agg #[.string a0_0, .bool a0_1], .slice A1 l1.length c1] w fun e w' => e = .returned (.bool r) ∧ Below w.heap.size w w' := by
 have HGE := am hGE
 have HGM := am hGM
 have HGT := am hGT
 have HR1 := am hr1
 have HC1 := am hc1
 have HH0 := am h
 clear hGE hGM hGT h hr1 hc1
 have huS := Tryz.underlying25
 have huL := Tryz.underlying41
 have HB := am (Below.refl w.heap.size w)
 subst ht_
 have H := HH0.out
 clear HH0
 unfold laws_FnExactFeedAll.f at H
 obtain ⟨t, h1, H⟩ := ob H
 have AT := am h1
 clear h1
 by_cases c7 : t < 0
 ·have c7b0 : decide (t < 0) = true := decide_eq_true c7
  clear c7 H
  go_enter Tryz.func6, Tryz.ntmps6
  go_wp2_with ((with_reducible refine gw ?_); first | (refine bx 2 #[.string a0_0, .bool a0_1] 41 ?_; intro gP hg_ w1_ hbx_ hb; have EP : Aside0 (w.heap.size ≤ gP) := ⟨by rw [hg_]; exact HB.out.size⟩; have n0_ := am (below_step HB.out hb); have n1_ := am hbx_; clear HB hb hbx_ hg_; have HB := n0_; have BP := n1_; clear n0_ n1_; have hcP0 : w1_.cell? ⟨gP, 0, none⟩ = some (.string a0_0) := (blk_cell BP.out 0).trans rfl; have hfP0 := blk_frozen BP.out 0; have hcP1 : w1_.cell? ⟨gP, 1, none⟩ = some (.bool a0_1) := (blk_cell BP.out 1).trans rfl; have hfP1 := blk_frozen BP.out 1) | (refine gl 18 Tryz.func15 #[.agg #[.string a0_0, .bool a0_1], .int .i64 1048576] ?_; (with_reducible refine (laws_szStream.calls a0_0 a0_1 1048576 t _ AT.out).mono ?_); rintro e w2_ ⟨rfl, hb⟩; refine ⟨_, rfl, ?_⟩; have n0_ := kb BP hb; have n1_ := am (below_step HB.out hb); clear BP HB hcP0 hfP0 hcP1 hfP1 hb; have BP := n0_; have HB := n1_; clear n0_ n1_; have hcP0 : w2_.cell? ⟨gP, 0, none⟩ = some (.string a0_0) := (blk_cell BP.out 0).trans rfl; have hfP0 := blk_frozen BP.out 0; have hcP1 : w2_.cell? ⟨gP, 1, none⟩ = some (.bool a0_1) := (blk_cell BP.out 1).trans rfl; have hfP1 := blk_frozen BP.out 1))
  go_ret
  exact ⟨rfl, HB.out⟩
 rw [if_neg c7] at H
 have c7b0 := decide_eq_false c7
 clear c7
 obtain ⟨t2, h1, H⟩ := ob H
 have AS := am h1
 clear h1
 by_cases c8 : t2 < 0
 ·have c8b0 : decide (t2 < 0) = true := decide_eq_true c8
  clear c8 H
  go_enter Tryz.func6, Tryz.ntmps6
  go_wp2_with ((with_reducible refine gw ?_); first | (refine bx 2 #[.string a0_0, .bool a0_1] 41 ?_; intro gP hg_ w1_ hbx_ hb; have EP : Aside0 (w.heap.size ≤ gP) := ⟨by rw [hg_]; exact HB.out.size⟩; have n0_ := am (below_step HB.out hb); have n1_ := am hbx_; clear HB hb hbx_ hg_; have HB := n0_; have BP := n1_; clear n0_ n1_; have hcP0 : w1_.cell? ⟨gP, 0, none⟩ = some (.string a0_0) := (blk_cell BP.out 0).trans rfl; have hfP0 := blk_frozen BP.out 0; have hcP1 : w1_.cell? ⟨gP, 1, none⟩ = some (.bool a0_1) := (blk_cell BP.out 1).trans rfl; have hfP1 := blk_frozen BP.out 1) | (refine gl 18 Tryz.func15 #[.agg #[.string a0_0, .bool a0_1], .int .i64 1048576] ?_; (with_reducible refine (laws_szStream.calls a0_0 a0_1 1048576 t _ AT.out).mono ?_); rintro e w2_ ⟨rfl, hb⟩; refine ⟨_, rfl, ?_⟩; have n0_ := kb BP hb; have n1_ := am (below_step HB.out hb); clear BP HB hcP0 hfP0 hcP1 hfP1 hb; have BP := n0_; have HB := n1_; clear n0_ n1_; have hcP0 : w2_.cell? ⟨gP, 0, none⟩ = some (.string a0_0) := (blk_cell BP.out 0).trans rfl; have hfP0 := blk_frozen BP.out 0; have hcP1 : w2_.cell? ⟨gP, 1, none⟩ = some (.bool a0_1) := (blk_cell BP.out 1).trans rfl; have hfP1 := blk_frozen BP.out 1) | (refine gl 23 Tryz.func25 #[.slice A1 l1.length c1, .int .i64 t] ?_; (with_reducible refine (szS_below (laws_szStringS.calls k A1 c1 l1 t t2 _ (Kd.C_below HR1.out HB.out) HC1.out AS.out)).mono ?_); rintro e w3_ ⟨rfl, hb⟩; refine ⟨_, rfl, ?_⟩; have n0_ := kb BP hb; have n1_ := am (below_step HB.out hb); clear BP HB hcP0 hfP0 hcP1 hfP1 hb; have BP := n0_; have HB := n1_; clear n0_ n1_; have hcP0 : w3_.cell? ⟨gP, 0, none⟩ = some (.string a0_0) := (blk_cell BP.out 0).trans rfl; have hfP0 := blk_frozen BP.out 0; have hcP1 : w3_.cell? ⟨gP, 1, none⟩ = some (.bool a0_1) := (blk_cell BP.out 1).trans rfl; have hfP1 := blk_frozen BP.out 1))
  go_ret
  exact ⟨rfl, HB.out⟩
 rw [if_neg c8] at H
 have c8b0 := decide_eq_false c8
 clear c8
 obtain ⟨⟨s1, s2⟩, h1, H⟩ := ob H
 have A2 := am h1
 clear h1
 dsimp only at H
 obtain ⟨l, h1, H⟩ := ob H
 have AL := am h1
 clear h1
 obtain ⟨⟨p1, p2, p3⟩, h1, H⟩ := ob H
 have A3 := am h1
 clear h1
 obtain ⟨⟨q1, q2, q3⟩, h1, H⟩ := ob H
 have A4 := am h1
 clear h1
 dsimp only at H
 obtain ⟨e1, h5, H⟩ := ob H
 obtain ⟨e2, h6, H⟩ := ob H
 obtain ⟨e3, h9, H⟩ := ob H
 obtain ⟨⟨n1, n2⟩, h1, H⟩ := ob H
 have AM := am h1
 clear h1
 obtain ⟨⟨m1, m2⟩, h1, H⟩ := ob H
 have A7 := am h1
 clear h1
 obtain ⟨hh, h8, H⟩ := ob H
 dsimp only at H
 split at H
 case isFalse => cases H
 rename_i hc
 obtain ⟨rfl, rfl, rfl, hn0, h0, rfl⟩ := hc
 clear H
 have A5 := am h5
 have A6 := am h6
 have A8 := am h8
 have AE := am h9
 clear h5 h6 h8 h9
 have c9b0 : decide (hh < 0) = false := decide_eq_false (by omega)
 have c9b1 : (hh != hh) = false := by simp
 have c9b2 : (hh == hh) = true := by simp
 have c9b3 : decide (n1 < 0) = false := decide_eq_false (by omega)
 clear h0 hn0
 go_enter Tryz.func6, Tryz.ntmps6
 go_wp2_with (first | ((with_reducible refine gw ?_); refine bx 2 #[.string a0_0, .bool a0_1] 41 ?_; intro gP hg_ w1_ hbx_ hb; have EP : Aside0 (w.heap.size ≤ gP) := ⟨by rw [hg_]; exact HB.out.size⟩; have n0_ := am (below_step HB.out hb); have n1_ := am hbx_; clear HB hb hbx_ hg_; have HB := n0_; have BP := n1_; clear n0_ n1_; have hcP0 : w1_.cell? ⟨gP, 0, none⟩ = some (.string a0_0) := (blk_cell BP.out 0).trans rfl; have hfP0 := blk_frozen BP.out 0; have hcP1 : w1_.cell? ⟨gP, 1, none⟩ = some (.bool a0_1) := (blk_cell BP.out 1).trans rfl; have hfP1 := blk_frozen BP.out 1) | ((with_reducible refine gw ?_); refine gl 18 Tryz.func15 #[.agg #[.string a0_0, .bool a0_1], .int .i64 1048576] ?_; (with_reducible refine (laws_szStream.calls a0_0 a0_1 1048576 t _ AT.out).mono ?_); rintro e w2_ ⟨rfl, hb⟩; refine ⟨_, rfl, ?_⟩; have n0_ := kb BP hb; have n1_ := am (below_step HB.out hb); clear BP HB hcP0 hfP0 hcP1 hfP1 hb; have BP := n0_; have HB := n1_; clear n0_ n1_; have hcP0 : w2_.cell? ⟨gP, 0, none⟩ = some (.string a0_0) := (blk_cell BP.out 0).trans rfl; have hfP0 := blk_frozen BP.out 0; have hcP1 : w2_.cell? ⟨gP, 1, none⟩ = some (.bool a0_1) := (blk_cell BP.out 1).trans rfl; have hfP1 := blk_frozen BP.out 1) | ((with_reducible refine gw ?_); refine gl 23 Tryz.func25 #[.slice A1 l1.length c1, .int .i64 t] ?_; (with_reducible refine (szS_below (laws_szStringS.calls k A1 c1 l1 t t2 _ (Kd.C_below HR1.out HB.out) HC1.out AS.out)).mono ?_); rintro e w3_ ⟨rfl, hb⟩; refine ⟨_, rfl, ?_⟩; have n0_ := kb BP hb; have n1_ := am (below_step HB.out hb); clear BP HB hcP0 hfP0 hcP1 hfP1 hb; have BP := n0_; have HB := n1_; clear n0_ n1_; have hcP0 : w3_.cell? ⟨gP, 0, none⟩ = some (.string a0_0) := (blk_cell BP.out 0).trans rfl; have hfP0 := blk_frozen BP.out 0; have hcP1 : w3_.cell? ⟨gP, 1, none⟩ = some (.bool a0_1) := (blk_cell BP.out 1).trans rfl; have hfP1 := blk_frozen BP.out 1) | ((with_reducible refine gw ?_); refine gl 28 Tryz.func16 #[.agg #[.string a0_0, .bool a0_1]] ?_; (with_reducible refine (laws_toStream.calls a0_0 a0_1 s1 s2 _ A2.out).mono ?_); rintro e w4_ ⟨rfl, hb⟩; refine ⟨_, rfl, ?_⟩; have n0_ := kb BP hb; have n1_ := am (below_step HB.out hb); clear BP HB hcP0 hfP0 hcP1 hfP1 hb; have BP := n0_; have HB := n1_; clear n0_ n1_; have hcP0 : w4_.cell? ⟨gP, 0, none⟩ = some (.string a0_0) := (blk_cell BP.out 0).trans rfl; have hfP0 := blk_frozen BP.out 0; have hcP1 : w4_.cell? ⟨gP, 1, none⟩ = some (.bool a0_1) := (blk_cell BP.out 1).trans rfl; have hfP1 := blk_frozen BP.out 1) | ((with_reducible refine gw ?_); refine gl 30 Tryz.func26 #[.slice A1 l1.length c1] ?_; (with_reducible refine (laws_toStringS.calls k A1 c1 l1 l _ (Kd.C_below HR1.out HB.out) HC1.out AL.out).mono ?_); rintro e w5_ ⟨vY, rfl, ho, hb⟩; refine ⟨_, rfl, ?_⟩; have n0_ := kb BP hb; have n1_ := am (below_step HB.out hb); have n2_ := am (Kd.R_mono (ok' := fun _ => True) (Kd.R_lower ho HB.out.size) (fun _ _ => trivial)); clear BP HB hcP0 hfP0 hcP1 hfP1 hb ho; have BP := n0_; have HB := n1_; have HY := n2_; clear n0_ n1_ n2_; obtain ⟨AY, cY, eY⟩ := Kd.R_slice HY.out; subst eY; have hcP0 : w5_.cell? ⟨gP, 0, none⟩ = some (.string a0_0) := (blk_cell BP.out 0).trans rfl; have hfP0 := blk_frozen BP.out 0; have hcP1 : w5_.cell? ⟨gP, 1, none⟩ = some (.bool a0_1) := (blk_cell BP.out 1).trans rfl; have hfP1 := blk_frozen BP.out 1) | ((with_reducible refine gw ?_); refine gl 31 Tryz.func24 #[.agg #[.string s1, .bool s2], .slice AY l.length cY] ?_; (with_reducible refine (spec_FeedAll_R HY.out A3.out).mono ?_); rintro e w6_ ⟨vw, rfl, ho, hb⟩; refine ⟨_, rfl, ?_⟩; have n0_ := kb BP hb; have n1_ := am (below_step HB.out hb); have n2_ := am (Kd.N_mono (ok' := fun k_ => k_ < w6_.heap.size) (Kd.N_lower (Kd.N_bound ho) HB.out.size) (fun _ hk_ => hk_.2)); have n3_ := am (Nat.le_refl w6_.heap.size); clear BP HB hcP0 hfP0 hcP1 hfP1 hb ho; have BP := n0_; have HB := n1_; have HW := n2_; have Ma := n3_; clear n0_ n1_ n2_ n3_; clear HY; obtain ⟨Aw, cw, ew⟩ := Kd.N_slice HW.out; subst ew; have hcP0 : w6_.cell? ⟨gP, 0, none⟩ = some (.string a0_0) := (blk_cell BP.out 0).trans rfl; have hfP0 := blk_frozen BP.out 0; have hcP1 : w6_.cell? ⟨gP, 1, none⟩ = some (.bool a0_1) := (blk_cell BP.out 1).trans rfl; have hfP1 := blk_frozen BP.out 1) | ((with_reducible refine gw ?_); refine bx 6 #[.string (⟨#[]⟩ : ByteArray), .bool false] 25 ?_; intro gW hg_ w7_ hbx_ hb; have EW : Aside0 (w.heap.size ≤ gW) := ⟨by rw [hg_]; exact HB.out.size⟩; have NWP : Aside0 (gW ≠ gP) := ⟨by rw [hg_]; exact Nat.ne_of_gt (blk_lt BP.out)⟩; have XWP := NWP.out; have XPW := Ne.symm NWP.out; have LaW : Aside0 (w6_.heap.size ≤ gW) := ⟨by rw [hg_]; exact Ma.out⟩; have n0_ := kb BP hb; have n1_ := am (Kd.N_below HW.out hb); have n2_ := am (below_step HB.out hb); have n3_ := am (Nat.le_trans Ma.out hb.size); have n4_ := am hbx_; clear BP HW HB Ma hcP0 hfP0 hcP1 hfP1 hb hbx_ hg_; have BP := n0_; have HW := n1_; have HB := n2_; have Ma := n3_; have BW := n4_; clear n0_ n1_ n2_ n3_ n4_; have hcP0 : w7_.cell? ⟨gP, 0, none⟩ = some (.string a0_0) := (blk_cell BP.out 0).trans rfl; have hfP0 := blk_frozen BP.out 0; have hcP1 : w7_.cell? ⟨gP, 1, none⟩ = some (.bool a0_1) := (blk_cell BP.out 1).trans rfl; have hfP1 := blk_frozen BP.out 1; have hcW0 : w7_.cell? ⟨gW, 0, none⟩ = some (.string (⟨#[]⟩ : ByteArray)) := (blk_cell BW.out 0).trans rfl; have hfW0 := blk_frozen BW.out 0; have hcW1 : w7_.cell? ⟨gW, 1, none⟩ = some (.bool false) := (blk_cell BW.out 1).trans rfl; have hfW1 := blk_frozen BW.out 1) | ((with_reducible refine gate_store (t := 25) (p := 6) rfl ?_); refine store_event (t := 25) (p := 6) (v := ?vo_w8_) (w1 := ((w7_.setCell ⟨gW, 0, none⟩ (.string p1)).setCell ⟨gW, 1, none⟩ (.bool p2))) ?hg ?ho ?hn ?hr ?_; (case ho => rfl); (case hg => rfl); (case hn => rfl); (case hr => first | (go_simp; done) | (go_simp; rfl)); intro w8_ hw_; have n0_ := (⟨by rw [hw_]; exact blk_far (p := ⟨gW, 1, none⟩) (blk_far (p := ⟨gW, 0, none⟩) (BP.out) XPW _) XPW _⟩ : Aside0 (w8_.heap[gP]? = some (.cells #[.string a0_0, .bool a0_1] 41 (0, 0)))); have n1_ := (⟨by rw [hw_]; refine blk_put (cs := #[.string p1, .bool false]) ?_ 1 _ rfl; refine blk_put (cs := #[.string (⟨#[]⟩ : ByteArray), .bool false]) ?_ 0 _ rfl; exact BW.out⟩ : Aside0 (w8_.heap[gW]? = some (.cells #[.string p1, .bool p2] 25 (0, 0)))); have n2_ := (⟨by rw [hw_]; exact Kd.N_far (p := ⟨gW, 1, none⟩) (Kd.N_far (p := ⟨gW, 0, none⟩) (HW.out) (fun k_ hk_ e_ => by have h1_ := LaW.out; have h2_ := hk_; rw [e_] at h2_; (try dsimp only at h2_); omega) _) (fun k_ hk_ e_ => by have h1_ := LaW.out; have h2_ := hk_; rw [e_] at h2_; (try dsimp only at h2_); omega) _⟩ : Aside0 (Kd.N k40 40 w8_ w.heap.size (fun k_ => k_ < w6_.heap.size) (.slice Aw p3.length cw) p3)); have n3_ := (⟨by rw [hw_]; exact below_set (below_set (HB.out) EW.out) EW.out⟩ : Aside0 (Below w.heap.size w w8_)); have n4_ := (⟨by rw [hw_]; simp only [setCell_size_]; exact Ma.out⟩ : Aside0 (w6_.heap.size ≤ w8_.heap.size)); clear BP BW HW HB Ma hcP0 hfP0 hcP1 hfP1 hcW0 hfW0 hcW1 hfW1 hw_; have BP := n0_; have BW := n1_; have HW := n2_; have HB := n3_; have Ma := n4_; clear n0_ n1_ n2_ n3_ n4_; have hcP0 : w8_.cell? ⟨gP, 0, none⟩ = some (.string a0_0) := (blk_cell BP.out 0).trans rfl; have hfP0 := blk_frozen BP.out 0; have hcP1 : w8_.cell? ⟨gP, 1, none⟩ = some (.bool a0_1) := (blk_cell BP.out 1).trans rfl; have hfP1 := blk_frozen BP.out 1; have hcW0 : w8_.cell? ⟨gW, 0, none⟩ = some (.string p1) := (blk_cell BW.out 0).trans rfl; have hfW0 := blk_frozen BW.out 0; have hcW1 : w8_.cell? ⟨gW, 1, none⟩ = some (.bool p2) := (blk_cell BW.out 1).trans rfl; have hfW1 := blk_frozen BW.out 1) | ((with_reducible refine gw ?_); refine gl 35 Tryz.func26 #[.slice A1 l1.length c1] ?_; (with_reducible refine (laws_toStringS.calls k A1 c1 l1 l _ (Kd.C_below HR1.out HB.out) HC1.out AL.out).mono ?_); rintro e w9_ ⟨vX, rfl, ho, hb⟩; refine ⟨_, rfl, ?_⟩; have LPx := am (blk_lt BP.out); have LWx := am (blk_lt BW.out); have LAx := Ma; have n0_ := kb BP hb; have n1_ := kb BW hb; have n2_ := am (Kd.N_below HW.out hb); have n3_ := am (below_step HB.out hb); have n4_ := am (Nat.le_trans Ma.out hb.size); have n5_ := am (Kd.R_mono (ok' := fun k_ => w8_.heap.size ≤ k_ ∧ k_ < w9_.heap.size) (Kd.R_lower (Kd.R_bound ho) HB.out.size) (fun _ hk_ => ⟨hk_.2.1, hk_.2.2.1⟩)); have n6_ := am (Nat.le_refl w9_.heap.size); clear BP BW HW HB Ma hcP0 hfP0 hcP1 hfP1 hcW0 hfW0 hcW1 hfW1 hb ho; have BP := n0_; have BW := n1_; have HW := n2_; have HB := n3_; have Ma := n4_; have HX := n5_; have Mx := n6_; clear n0_ n1_ n2_ n3_ n4_ n5_ n6_; obtain ⟨AX, cX, eX⟩ := Kd.R_slice HX.out; subst eX; have hcP0 : w9_.cell? ⟨gP, 0, none⟩ = some (.string a0_0) := (blk_cell BP.out 0).trans rfl; have hfP0 := blk_frozen BP.out 0; have hcP1 : w9_.cell? ⟨gP, 1, none⟩ = some (.bool a0_1) := (blk_cell BP.out 1).trans rfl; have hfP1 := blk_frozen BP.out 1; have hcW0 : w9_.cell? ⟨gW, 0, none⟩ = some (.string p1) := (blk_cell BW.out 0).trans rfl; have hfW0 := blk_frozen BW.out 0; have hcW1 : w9_.cell? ⟨gW, 1, none⟩ = some (.bool p2) := (blk_cell BW.out 1).trans rfl; have hfW1 := blk_frozen BW.out 1) | ((with_reducible refine gw ?_); refine gl 38 Tryz.func16 #[.agg #[.string a0_0, .bool a0_1]] ?_; (with_reducible refine (laws_toStream.calls a0_0 a0_1 s1 s2 _ A2.out).mono ?_); rintro e w10_ ⟨rfl, hb⟩; refine ⟨_, rfl, ?_⟩; have n0_ := kb BP hb; have n1_ := kb BW hb; have n2_ := am (Kd.N_below HW.out hb); have n3_ := am (Kd.R_below HX.out hb); have n4_ := am (below_step HB.out hb); have n5_ := am (Nat.le_trans Ma.out hb.size); have n6_ := am (Nat.le_trans Mx.out hb.size); clear BP BW HW HX HB Ma Mx hcP0 hfP0 hcP1 hfP1 hcW0 hfW0 hcW1 hfW1 hb; have BP := n0_; have BW := n1_; have HW := n2_; have HX := n3_; have HB := n4_; have Ma := n5_; have Mx := n6_; clear n0_ n1_ n2_ n3_ n4_ n5_ n6_; have hcP0 : w10_.cell? ⟨gP, 0, none⟩ = some (.string a0_0) := (blk_cell BP.out 0).trans rfl; have hfP0 := blk_frozen BP.out 0; have hcP1 : w10_.cell? ⟨gP, 1, none⟩ = some (.bool a0_1) := (blk_cell BP.out 1).trans rfl; have hfP1 := blk_frozen BP.out 1; have hcW0 : w10_.cell? ⟨gW, 0, none⟩ = some (.string p1) := (blk_cell BW.out 0).trans rfl; have hfW0 := blk_frozen BW.out 0; have hcW1 : w10_.cell? ⟨gW, 1, none⟩ = some (.bool p2) := (blk_cell BW.out 1).trans rfl; have hfW1 := blk_frozen BW.out 1) | ((with_reducible refine gw ?_); refine gl 40 Tryz.func12 #[.agg #[.string s1, .bool s2], .slice AX l.length cX] ?_; (with_reducible refine (impl_FeedAll_R (GLOBE.below HGE.out HB.out) (GLOBM.below HGM.out HB.out) (GLOBT.below HGT.out HB.out) HX.out A4.out).mono ?_); rintro e w11_ ⟨vg, rfl, ho, hb⟩; refine ⟨_, rfl, ?_⟩; have LPlo := am (blk_lt BP.out); have LWlo := am (blk_lt BW.out); have LAlo := Ma; have LXlo := Mx; have n0_ := kb BP hb; have n1_ := kb BW hb; have n2_ := am (Kd.N_below HW.out hb); have n3_ := am (Kd.R_below HX.out hb); have n4_ := am (below_step HB.out hb); have n5_ := am (Nat.le_trans Ma.out hb.size); have n6_ := am (Nat.le_trans Mx.out hb.size); have n7_ := am (Kd.S_mono (ok' := fun k_ => w10_.heap.size ≤ k_ ∧ k_ < w11_.heap.size) (Kd.S_lower (Kd.S_bound ho) HB.out.size) (fun _ hk_ => ⟨hk_.2.1, hk_.2.2.1⟩)); have n8_ := am (Nat.le_refl w11_.heap.size); clear BP BW HW HX HB Ma Mx hcP0 hfP0 hcP1 hfP1 hcW0 hfW0 hcW1 hfW1 hb ho; have BP := n0_; have BW := n1_; have HW := n2_; have HX := n3_; have HB := n4_; have Ma := n5_; have Mx := n6_; have HG := n7_; have Mb := n8_; clear n0_ n1_ n2_ n3_ n4_ n5_ n6_ n7_ n8_; obtain ⟨Ag, cg, eg⟩ := Kd.S_slice HG.out; subst eg; have hcP0 : w11_.cell? ⟨gP, 0, none⟩ = some (.string a0_0) := (blk_cell BP.out 0).trans rfl; have hfP0 := blk_frozen BP.out 0; have hcP1 : w11_.cell? ⟨gP, 1, none⟩ = some (.bool a0_1) := (blk_cell BP.out 1).trans rfl; have hfP1 := blk_frozen BP.out 1; have hcW0 : w11_.cell? ⟨gW, 0, none⟩ = some (.string p1) := (blk_cell BW.out 0).trans rfl; have hfW0 := blk_frozen BW.out 0; have hcW1 : w11_.cell? ⟨gW, 1, none⟩ = some (.bool p2) := (blk_cell BW.out 1).trans rfl; have hfW1 := blk_frozen BW.out 1) | ((with_reducible refine gw ?_); refine bx 9 #[.string (⟨#[]⟩ : ByteArray), .bool false] 25 ?_; intro gG hg_ w12_ hbx_ hb; have EG : Aside0 (w.heap.size ≤ gG) := ⟨by rw [hg_]; exact HB.out.size⟩; have NGP : Aside0 (gG ≠ gP) := ⟨by rw [hg_]; exact Nat.ne_of_gt (blk_lt BP.out)⟩; have XGP := NGP.out; have XPG := Ne.symm NGP.out; have NGW : Aside0 (gG ≠ gW) := ⟨by rw [hg_]; exact Nat.ne_of_gt (blk_lt BW.out)⟩; have XGW := NGW.out; have XWG := Ne.symm NGW.out; have LaG : Aside0 (w6_.heap.size ≤ gG) := ⟨by rw [hg_]; exact Ma.out⟩; have LxG : Aside0 (w9_.heap.size ≤ gG) := ⟨by rw [hg_]; exact Mx.out⟩; have LbG : Aside0 (w11_.heap.size ≤ gG) := ⟨by rw [hg_]; exact Mb.out⟩; have n0_ := kb BP hb; have n1_ := kb BW hb; have n2_ := am (Kd.N_below HW.out hb); have n3_ := am (Kd.R_below HX.out hb); have n4_ := am (Kd.S_below HG.out hb); have n5_ := am (below_step HB.out hb); have n6_ := am (Nat.le_trans Ma.out hb.size); have n7_ := am (Nat.le_trans Mx.out hb.size); have n8_ := am (Nat.le_trans Mb.out hb.size); have n9_ := am hbx_; clear BP BW HW HX HG HB Ma Mx Mb hcP0 hfP0 hcP1 hfP1 hcW0 hfW0 hcW1 hfW1 hb hbx_ hg_; have BP := n0_; have BW := n1_; have HW := n2_; have HX := n3_; have HG := n4_; have HB := n5_; have Ma := n6_; have Mx := n7_; have Mb := n8_; have BG := n9_; clear n0_ n1_ n2_ n3_ n4_ n5_ n6_ n7_ n8_ n9_; have hcP0 : w12_.cell? ⟨gP, 0, none⟩ = some (.string a0_0) := (blk_cell BP.out 0).trans rfl; have hfP0 := blk_frozen BP.out 0; have hcP1 : w12_.cell? ⟨gP, 1, none⟩ = some (.bool a0_1) := (blk_cell BP.out 1).trans rfl; have hfP1 := blk_frozen BP.out 1; have hcW0 : w12_.cell? ⟨gW, 0, none⟩ = some (.string p1) := (blk_cell BW.out 0).trans rfl; have hfW0 := blk_frozen BW.out 0; have hcW1 : w12_.cell? ⟨gW, 1, none⟩ = some (.bool p2) := (blk_cell BW.out 1).trans rfl; have hfW1 := blk_frozen BW.out 1; have hcG0 : w12_.cell? ⟨gG, 0, none⟩ = some (.string (⟨#[]⟩ : ByteArray)) := (blk_cell BG.out 0).trans rfl; have hfG0 := blk_frozen BG.out 0; have hcG1 : w12_.cell? ⟨gG, 1, none⟩ = some (.bool false) := (blk_cell BG.out 1).trans rfl; have hfG1 := blk_frozen BG.out 1) | ((with_reducible refine gate_store (t := 25) (p := 9) rfl ?_); refine store_event (t := 25) (p := 9) (v := ?vo_w13_) (w1 := ((w12_.setCell ⟨gG, 0, none⟩ (.string q1)).setCell ⟨gG, 1, none⟩ (.bool q2))) ?hg ?ho ?hn ?hr ?_; (case ho => rfl); (case hg => rfl); (case hn => rfl); (case hr => first | (go_simp; done) | (go_simp; rfl)); intro w13_ hw_; have n0_ := (⟨by rw [hw_]; exact blk_far (p := ⟨gG, 1, none⟩) (blk_far (p := ⟨gG, 0, none⟩) (BP.out) XPG _) XPG _⟩ : Aside0 (w13_.heap[gP]? = some (.cells #[.string a0_0, .bool a0_1] 41 (0, 0)))); have n1_ := (⟨by rw [hw_]; exact blk_far (p := ⟨gG, 1, none⟩) (blk_far (p := ⟨gG, 0, none⟩) (BW.out) XWG _) XWG _⟩ : Aside0 (w13_.heap[gW]? = some (.cells #[.string p1, .bool p2] 25 (0, 0)))); have n2_ := (⟨by rw [hw_]; refine blk_put (cs := #[.string q1, .bool false]) ?_ 1 _ rfl; refine blk_put (cs := #[.string (⟨#[]⟩ : ByteArray), .bool false]) ?_ 0 _ rfl; exact BG.out⟩ : Aside0 (w13_.heap[gG]? = some (.cells #[.string q1, .bool q2] 25 (0, 0)))); have n3_ := (⟨by rw [hw_]; exact Kd.N_far (p := ⟨gG, 1, none⟩) (Kd.N_far (p := ⟨gG, 0, none⟩) (HW.out) (fun k_ hk_ e_ => by have h1_ := LaG.out; have h2_ := hk_; rw [e_] at h2_; (try dsimp only at h2_); omega) _) (fun k_ hk_ e_ => by have h1_ := LaG.out; have h2_ := hk_; rw [e_] at h2_; (try dsimp only at h2_); omega) _⟩ : Aside0 (Kd.N k40 40 w13_ w.heap.size (fun k_ => k_ < w6_.heap.size) (.slice Aw p3.length cw) p3)); have n4_ := (⟨by rw [hw_]; exact (rj (Kd.R_types HX.out BG.out (by decide)) (fun _ hk_ => hk_.1))⟩ : Aside0 (Kd.R Kd.string 9 w13_ w.heap.size (fun k_ => w8_.heap.size ≤ k_ ∧ k_ < w9_.heap.size) (.slice AX l.length cX) l)); have n5_ := (⟨by rw [hw_]; exact Kd.S_mono (Kd.S_far (p := ⟨gG, 1, none⟩) (Kd.S_far (p := ⟨gG, 0, none⟩) (Kd.S_types HG.out BG.out (by decide)) (fun _ hk_ => hk_.2) _) (fun _ hk_ => hk_.2) _) (fun _ hk_ => hk_.1)⟩ : Aside0 (Kd.S k40 40 w13_ w.heap.size (fun k_ => w10_.heap.size ≤ k_ ∧ k_ < w11_.heap.size) (.slice Ag q3.length cg) q3)); have n6_ := (⟨by rw [hw_]; exact below_set (below_set (HB.out) EG.out) EG.out⟩ : Aside0 (Below w.heap.size w w13_)); have n7_ := (⟨by rw [hw_]; simp only [setCell_size_]; exact Ma.out⟩ : Aside0 (w6_.heap.size ≤ w13_.heap.size)); have n8_ := (⟨by rw [hw_]; simp only [setCell_size_]; exact Mx.out⟩ : Aside0 (w9_.heap.size ≤ w13_.heap.size)); have n9_ := (⟨by rw [hw_]; simp only [setCell_size_]; exact Mb.out⟩ : Aside0 (w11_.heap.size ≤ w13_.heap.size)); clear BP BW BG HW HX HG HB Ma Mx Mb hcP0 hfP0 hcP1 hfP1 hcW0 hfW0 hcW1 hfW1 hcG0 hfG0 hcG1 hfG1 hw_; have BP := n0_; have BW := n1_; have BG := n2_; have HW := n3_; have HX := n4_; have HG := n5_; have HB := n6_; have Ma := n7_; have Mx := n8_; have Mb := n9_; clear n0_ n1_ n2_ n3_ n4_ n5_ n6_ n7_ n8_ n9_; have hcP0 : w13_.cell? ⟨gP, 0, none⟩ = some (.string a0_0) := (blk_cell BP.out 0).trans rfl; have hfP0 := blk_frozen BP.out 0; have hcP1 : w13_.cell? ⟨gP, 1, none⟩ = some (.bool a0_1) := (blk_cell BP.out 1).trans rfl; have hfP1 := blk_frozen BP.out 1; have hcW0 : w13_.cell? ⟨gW, 0, none⟩ = some (.string p1) := (blk_cell BW.out 0).trans rfl; have hfW0 := blk_frozen BW.out 0; have hcW1 : w13_.cell? ⟨gW, 1, none⟩ = some (.bool p2) := (blk_cell BW.out 1).trans rfl; have hfW1 := blk_frozen BW.out 1; have hcG0 : w13_.cell? ⟨gG, 0, none⟩ = some (.string q1) := (blk_cell BG.out 0).trans rfl; have hfG0 := blk_frozen BG.out 0; have hcG1 : w13_.cell? ⟨gG, 1, none⟩ = some (.bool q2) := (blk_cell BG.out 1).trans rfl; have hfG1 := blk_frozen BG.out 1) | ((with_reducible refine gw ?_); refine gl 45 Tryz.func17 #[.agg #[.string q1, .bool q2], .agg #[.string p1, .bool p2]] ?_; (with_reducible refine (laws_eqStream.calls q1 q2 p1 p2 true _ A5.out).mono ?_); rintro e w14_ ⟨rfl, hb⟩; refine ⟨_, rfl, ?_⟩; have n0_ := kb BP hb; have n1_ := kb BW hb; have n2_ := kb BG hb; have n3_ := am (Kd.N_below HW.out hb); have n4_ := am (Kd.R_below HX.out hb); have n5_ := am (Kd.S_below HG.out hb); have n6_ := am (below_step HB.out hb); have n7_ := am (Nat.le_trans Ma.out hb.size); have n8_ := am (Nat.le_trans Mx.out hb.size); have n9_ := am (Nat.le_trans Mb.out hb.size); clear BP BW BG HW HX HG HB Ma Mx Mb hcP0 hfP0 hcP1 hfP1 hcW0 hfW0 hcW1 hfW1 hcG0 hfG0 hcG1 hfG1 hb; have BP := n0_; have BW := n1_; have BG := n2_; have HW := n3_; have HX := n4_; have HG := n5_; have HB := n6_; have Ma := n7_; have Mx := n8_; have Mb := n9_; clear n0_ n1_ n2_ n3_ n4_ n5_ n6_ n7_ n8_ n9_; have hcP0 : w14_.cell? ⟨gP, 0, none⟩ = some (.string a0_0) := (blk_cell BP.out 0).trans rfl; have hfP0 := blk_frozen BP.out 0; have hcP1 : w14_.cell? ⟨gP, 1, none⟩ = some (.bool a0_1) := (blk_cell BP.out 1).trans rfl; have hfP1 := blk_frozen BP.out 1; have hcW0 : w14_.cell? ⟨gW, 0, none⟩ = some (.string p1) := (blk_cell BW.out 0).trans rfl; have hfW0 := blk_frozen BW.out 0; have hcW1 : w14_.cell? ⟨gW, 1, none⟩ = some (.bool p2) := (blk_cell BW.out 1).trans rfl; have hfW1 := blk_frozen BW.out 1; have hcG0 : w14_.cell? ⟨gG, 0, none⟩ = some (.string q1) := (blk_cell BG.out 0).trans rfl; have hfG0 := blk_frozen BG.out 0; have hcG1 : w14_.cell? ⟨gG, 1, none⟩ = some (.bool q2) := (blk_cell BG.out 1).trans rfl; have hfG1 := blk_frozen BG.out 1) | (go_at_call 18; (with_reducible refine (eq_SN HG.out HW.out A6.out).mono ?_); rintro e w15_ ⟨rfl, hb⟩; have n0_ := kb BP hb; have n1_ := kb BW hb; have n2_ := kb BG hb; have n3_ := am (Kd.N_below HW.out hb); have n4_ := am (Kd.R_below HX.out hb); have n5_ := am (Kd.S_below HG.out hb); have n6_ := am (below_step HB.out hb); have n7_ := am (Nat.le_trans Ma.out hb.size); have n8_ := am (Nat.le_trans Mx.out hb.size); have n9_ := am (Nat.le_trans Mb.out hb.size); clear BP BW BG HW HX HG HB Ma Mx Mb hcP0 hfP0 hcP1 hfP1 hcW0 hfW0 hcW1 hfW1 hcG0 hfG0 hcG1 hfG1 hb; have BP := n0_; have BW := n1_; have BG := n2_; have HW := n3_; have HX := n4_; have HG := n5_; have HB := n6_; have Ma := n7_; have Mx := n8_; have Mb := n9_; clear n0_ n1_ n2_ n3_ n4_ n5_ n6_ n7_ n8_ n9_; have hcP0 : w15_.cell? ⟨gP, 0, none⟩ = some (.string a0_0) := (blk_cell BP.out 0).trans rfl; have hfP0 := blk_frozen BP.out 0; have hcP1 : w15_.cell? ⟨gP, 1, none⟩ = some (.bool a0_1) := (blk_cell BP.out 1).trans rfl; have hfP1 := blk_frozen BP.out 1; have hcW0 : w15_.cell? ⟨gW, 0, none⟩ = some (.string p1) := (blk_cell BW.out 0).trans rfl; have hfW0 := blk_frozen BW.out 0; have hcW1 : w15_.cell? ⟨gW, 1, none⟩ = some (.bool p2) := (blk_cell BW.out 1).trans rfl; have hfW1 := blk_frozen BW.out 1; have hcG0 : w15_.cell? ⟨gG, 0, none⟩ = some (.string q1) := (blk_cell BG.out 0).trans rfl; have hfG0 := blk_frozen BG.out 0; have hcG1 : w15_.cell? ⟨gG, 1, none⟩ = some (.bool q2) := (blk_cell BG.out 1).trans rfl; have hfG1 := blk_frozen BG.out 1) | ((with_reducible refine gw ?_); refine gl 55 Tryz.func26 #[.slice A1 l1.length c1] ?_; (with_reducible refine (laws_toStringS.calls k A1 c1 l1 l _ (Kd.C_below HR1.out HB.out) HC1.out AL.out).mono ?_); rintro e w16_ ⟨vU, rfl, ho, hb⟩; refine ⟨_, rfl, ?_⟩; have n0_ := kb BP hb; have n1_ := kb BW hb; have n2_ := kb BG hb; have n3_ := am (Kd.N_below HW.out hb); have n4_ := am (Kd.R_below HX.out hb); have n5_ := am (Kd.S_below HG.out hb); have n6_ := am (below_step HB.out hb); have n7_ := am (Nat.le_trans Ma.out hb.size); have n8_ := am (Nat.le_trans Mx.out hb.size); have n9_ := am (Nat.le_trans Mb.out hb.size); have n10_ := am (Kd.R_mono (ok' := fun _ => True) (Kd.R_lower ho HB.out.size) (fun _ _ => trivial)); clear BP BW BG HW HX HG HB Ma Mx Mb hcP0 hfP0 hcP1 hfP1 hcW0 hfW0 hcW1 hfW1 hcG0 hfG0 hcG1 hfG1 hb ho; have BP := n0_; have BW := n1_; have BG := n2_; have HW := n3_; have HX := n4_; have HG := n5_; have HB := n6_; have Ma := n7_; have Mx := n8_; have Mb := n9_; have HU := n10_; clear n0_ n1_ n2_ n3_ n4_ n5_ n6_ n7_ n8_ n9_ n10_; obtain ⟨AU, cU, eU⟩ := Kd.R_slice HU.out; subst eU; have hcP0 : w16_.cell? ⟨gP, 0, none⟩ = some (.string a0_0) := (blk_cell BP.out 0).trans rfl; have hfP0 := blk_frozen BP.out 0; have hcP1 : w16_.cell? ⟨gP, 1, none⟩ = some (.bool a0_1) := (blk_cell BP.out 1).trans rfl; have hfP1 := blk_frozen BP.out 1; have hcW0 : w16_.cell? ⟨gW, 0, none⟩ = some (.string p1) := (blk_cell BW.out 0).trans rfl; have hfW0 := blk_frozen BW.out 0; have hcW1 : w16_.cell? ⟨gW, 1, none⟩ = some (.bool p2) := (blk_cell BW.out 1).trans rfl; have hfW1 := blk_frozen BW.out 1; have hcG0 : w16_.cell? ⟨gG, 0, none⟩ = some (.string q1) := (blk_cell BG.out 0).trans rfl; have hfG0 := blk_frozen BG.out 0; have hcG1 : w16_.cell? ⟨gG, 1, none⟩ = some (.bool q2) := (blk_cell BG.out 1).trans rfl; have hfG1 := blk_frozen BG.out 1) | ((with_reducible refine gw ?_); refine gl 56 Tryz.func27 #[.slice AX l.length cX, .slice AU l.length cU] ?_; (with_reducible refine (eq_RR HX.out HU.out AE.out).mono ?_); rintro e w17_ ⟨rfl, hb⟩; refine ⟨_, rfl, ?_⟩; have n0_ := kb BP hb; have n1_ := kb BW hb; have n2_ := kb BG hb; have n3_ := am (Kd.N_below HW.out hb); have n4_ := am (Kd.R_below HX.out hb); have n5_ := am (Kd.S_below HG.out hb); have n6_ := am (below_step HB.out hb); have n7_ := am (Nat.le_trans Ma.out hb.size); have n8_ := am (Nat.le_trans Mx.out hb.size); have n9_ := am (Nat.le_trans Mb.out hb.size); clear BP BW BG HW HX HG HB Ma Mx Mb hcP0 hfP0 hcP1 hfP1 hcW0 hfW0 hcW1 hfW1 hcG0 hfG0 hcG1 hfG1 hb; have BP := n0_; have BW := n1_; have BG := n2_; have HW := n3_; have HX := n4_; have HG := n5_; have HB := n6_; have Ma := n7_; have Mx := n8_; have Mb := n9_; clear n0_ n1_ n2_ n3_ n4_ n5_ n6_ n7_ n8_ n9_; clear HU; have hcP0 : w17_.cell? ⟨gP, 0, none⟩ = some (.string a0_0) := (blk_cell BP.out 0).trans rfl; have hfP0 := blk_frozen BP.out 0; have hcP1 : w17_.cell? ⟨gP, 1, none⟩ = some (.bool a0_1) := (blk_cell BP.out 1).trans rfl; have hfP1 := blk_frozen BP.out 1; have hcW0 : w17_.cell? ⟨gW, 0, none⟩ = some (.string p1) := (blk_cell BW.out 0).trans rfl; have hfW0 := blk_frozen BW.out 0; have hcW1 : w17_.cell? ⟨gW, 1, none⟩ = some (.bool p2) := (blk_cell BW.out 1).trans rfl; have hfW1 := blk_frozen BW.out 1; have hcG0 : w17_.cell? ⟨gG, 0, none⟩ = some (.string q1) := (blk_cell BG.out 0).trans rfl; have hfG0 := blk_frozen BG.out 0; have hcG1 : w17_.cell? ⟨gG, 1, none⟩ = some (.bool q2) := (blk_cell BG.out 1).trans rfl; have hfG1 := blk_frozen BG.out 1) | ((with_reducible refine gw ?_); refine gl 60 Tryz.func28 #[.slice AX l.length cX, .int .i64 1] ?_; (with_reducible refine (laws_markStringS.calls k (fun k_ => w8_.heap.size ≤ k_ ∧ k_ < w9_.heap.size) (.slice AX l.length cX) l 1 n1 n2 w _ HB.out HX.out AM.out).mono ?_); rintro e w18_ ⟨rfl, ho, hb, hk_⟩; refine ⟨_, rfl, ?_⟩; have n0_ := am ((hk_.2 gP (blk_lt BP.out) (fun h_ => by have := LPx.out; have := h_.1; omega)).trans BP.out); have n1_ := am ((hk_.2 gW (blk_lt BW.out) (fun h_ => by have := LWx.out; have := h_.1; omega)).trans BW.out); have n2_ := am ((hk_.2 gG (blk_lt BG.out) (fun h_ => by have := LxG.out; have := h_.2; omega)).trans BG.out); have n3_ := am (Kd.N_kept HW.out hk_ (fun k_ h1_ h2_ => by have := LAx.out; have := h2_.1; (try dsimp only at h1_); omega)); have n4_ := am (Kd.S_kept_ HG.out hk_ (fun k_ h1_ h2_ => by have := LXlo.out; have := h1_.1; have := h2_.2; omega)); have n5_ := am hb; have n6_ := am (Nat.le_trans Ma.out hk_.1); have n7_ := am (Nat.le_trans Mx.out hk_.1); have n8_ := am (Nat.le_trans Mb.out hk_.1); have n9_ := am ho; clear BP BW BG HW HG HB Ma Mx Mb HX hcP0 hfP0 hcP1 hfP1 hcW0 hfW0 hcW1 hfW1 hcG0 hfG0 hcG1 hfG1 hb ho hk_; have BP := n0_; have BW := n1_; have BG := n2_; have HW := n3_; have HG := n4_; have HB := n5_; have Ma := n6_; have Mx := n7_; have Mb := n8_; have HX := n9_; clear n0_ n1_ n2_ n3_ n4_ n5_ n6_ n7_ n8_ n9_; have hcP0 : w18_.cell? ⟨gP, 0, none⟩ = some (.string a0_0) := (blk_cell BP.out 0).trans rfl; have hfP0 := blk_frozen BP.out 0; have hcP1 : w18_.cell? ⟨gP, 1, none⟩ = some (.bool a0_1) := (blk_cell BP.out 1).trans rfl; have hfP1 := blk_frozen BP.out 1; have hcW0 : w18_.cell? ⟨gW, 0, none⟩ = some (.string p1) := (blk_cell BW.out 0).trans rfl; have hfW0 := blk_frozen BW.out 0; have hcW1 : w18_.cell? ⟨gW, 1, none⟩ = some (.bool p2) := (blk_cell BW.out 1).trans rfl; have hfW1 := blk_frozen BW.out 1; have hcG0 : w18_.cell? ⟨gG, 0, none⟩ = some (.string q1) := (blk_cell BG.out 0).trans rfl; have hfG0 := blk_frozen BG.out 0; have hcG1 : w18_.cell? ⟨gG, 1, none⟩ = some (.bool q2) := (blk_cell BG.out 1).trans rfl; have hfG1 := blk_frozen BG.out 1; clear HX) | (go_at_call 17; (with_reducible refine (laws_eqStream.calls q1 q2 p1 p2 true _ A5.out).mono ?_); rintro e w19_ ⟨rfl, hb⟩; have n0_ := kb BP hb; have n1_ := kb BW hb; have n2_ := kb BG hb; have n3_ := am (Kd.N_below HW.out hb); have n4_ := am (Kd.S_below HG.out hb); have n5_ := am (below_step HB.out hb); have n6_ := am (Nat.le_trans Ma.out hb.size); have n7_ := am (Nat.le_trans Mx.out hb.size); have n8_ := am (Nat.le_trans Mb.out hb.size); clear BP BW BG HW HG HB Ma Mx Mb hcP0 hfP0 hcP1 hfP1 hcW0 hfW0 hcW1 hfW1 hcG0 hfG0 hcG1 hfG1 hb; have BP := n0_; have BW := n1_; have BG := n2_; have HW := n3_; have HG := n4_; have HB := n5_; have Ma := n6_; have Mx := n7_; have Mb := n8_; clear n0_ n1_ n2_ n3_ n4_ n5_ n6_ n7_ n8_; have hcP0 : w19_.cell? ⟨gP, 0, none⟩ = some (.string a0_0) := (blk_cell BP.out 0).trans rfl; have hfP0 := blk_frozen BP.out 0; have hcP1 : w19_.cell? ⟨gP, 1, none⟩ = some (.bool a0_1) := (blk_cell BP.out 1).trans rfl; have hfP1 := blk_frozen BP.out 1; have hcW0 : w19_.cell? ⟨gW, 0, none⟩ = some (.string p1) := (blk_cell BW.out 0).trans rfl; have hfW0 := blk_frozen BW.out 0; have hcW1 : w19_.cell? ⟨gW, 1, none⟩ = some (.bool p2) := (blk_cell BW.out 1).trans rfl; have hfW1 := blk_frozen BW.out 1; have hcG0 : w19_.cell? ⟨gG, 0, none⟩ = some (.string q1) := (blk_cell BG.out 0).trans rfl; have hfG0 := blk_frozen BG.out 0; have hcG1 : w19_.cell? ⟨gG, 1, none⟩ = some (.bool q2) := (blk_cell BG.out 1).trans rfl; have hfG1 := blk_frozen BG.out 1) | (go_at_call 18; (with_reducible refine (eq_SN HG.out HW.out A6.out).mono ?_); rintro e w20_ ⟨rfl, hb⟩; have n0_ := kb BP hb; have n1_ := kb BW hb; have n2_ := kb BG hb; have n3_ := am (Kd.N_below HW.out hb); have n4_ := am (Kd.S_below HG.out hb); have n5_ := am (below_step HB.out hb); have n6_ := am (Nat.le_trans Ma.out hb.size); have n7_ := am (Nat.le_trans Mx.out hb.size); have n8_ := am (Nat.le_trans Mb.out hb.size); clear BP BW BG HW HG HB Ma Mx Mb hcP0 hfP0 hcP1 hfP1 hcW0 hfW0 hcW1 hfW1 hcG0 hfG0 hcG1 hfG1 hb; have BP := n0_; have BW := n1_; have BG := n2_; have HW := n3_; have HG := n4_; have HB := n5_; have Ma := n6_; have Mx := n7_; have Mb := n8_; clear n0_ n1_ n2_ n3_ n4_ n5_ n6_ n7_ n8_; have hcP0 : w20_.cell? ⟨gP, 0, none⟩ = some (.string a0_0) := (blk_cell BP.out 0).trans rfl; have hfP0 := blk_frozen BP.out 0; have hcP1 : w20_.cell? ⟨gP, 1, none⟩ = some (.bool a0_1) := (blk_cell BP.out 1).trans rfl; have hfP1 := blk_frozen BP.out 1; have hcW0 : w20_.cell? ⟨gW, 0, none⟩ = some (.string p1) := (blk_cell BW.out 0).trans rfl; have hfW0 := blk_frozen BW.out 0; have hcW1 : w20_.cell? ⟨gW, 1, none⟩ = some (.bool p2) := (blk_cell BW.out 1).trans rfl; have hfW1 := blk_frozen BW.out 1; have hcG0 : w20_.cell? ⟨gG, 0, none⟩ = some (.string q1) := (blk_cell BG.out 0).trans rfl; have hfG0 := blk_frozen BG.out 0; have hcG1 : w20_.cell? ⟨gG, 1, none⟩ = some (.bool q2) := (blk_cell BG.out 1).trans rfl; have hfG1 := blk_frozen BG.out 1) | ((with_reducible refine gw ?_); refine gl 77 Tryz.func19 #[.slice Ag q3.length cg, .int .i64 1] ?_; (with_reducible refine (laws_markReqS.calls k (fun k_ => w10_.heap.size ≤ k_ ∧ k_ < w11_.heap.size) (.slice Ag q3.length cg) q3 1 hh m2 w _ HB.out HG.out A7.out).mono ?_); rintro e w21_ ⟨rfl, ho, hb, hk_⟩; refine ⟨_, rfl, ?_⟩; have n0_ := am ((hk_.2 gP (blk_lt BP.out) (fun h_ => by have := LPlo.out; have := h_.1; omega)).trans BP.out); have n1_ := am ((hk_.2 gW (blk_lt BW.out) (fun h_ => by have := LWlo.out; have := h_.1; omega)).trans BW.out); have n2_ := am ((hk_.2 gG (blk_lt BG.out) (fun h_ => by have := LbG.out; have := h_.2; omega)).trans BG.out); have n3_ := am (Kd.N_kept HW.out hk_ (fun k_ h1_ h2_ => by have := LAlo.out; have := h2_.1; (try dsimp only at h1_); omega)); have n4_ := am hb; have n5_ := am (Nat.le_trans Ma.out hk_.1); have n6_ := am (Nat.le_trans Mx.out hk_.1); have n7_ := am (Nat.le_trans Mb.out hk_.1); have n8_ := am ho; clear BP BW BG HW HB Ma Mx Mb HG hcP0 hfP0 hcP1 hfP1 hcW0 hfW0 hcW1 hfW1 hcG0 hfG0 hcG1 hfG1 hb ho hk_; have BP := n0_; have BW := n1_; have BG := n2_; have HW := n3_; have HB := n4_; have Ma := n5_; have Mx := n6_; have Mb := n7_; have HG := n8_; clear n0_ n1_ n2_ n3_ n4_ n5_ n6_ n7_ n8_; have hcP0 : w21_.cell? ⟨gP, 0, none⟩ = some (.string a0_0) := (blk_cell BP.out 0).trans rfl; have hfP0 := blk_frozen BP.out 0; have hcP1 : w21_.cell? ⟨gP, 1, none⟩ = some (.bool a0_1) := (blk_cell BP.out 1).trans rfl; have hfP1 := blk_frozen BP.out 1; have hcW0 : w21_.cell? ⟨gW, 0, none⟩ = some (.string p1) := (blk_cell BW.out 0).trans rfl; have hfW0 := blk_frozen BW.out 0; have hcW1 : w21_.cell? ⟨gW, 1, none⟩ = some (.bool p2) := (blk_cell BW.out 1).trans rfl; have hfW1 := blk_frozen BW.out 1; have hcG0 : w21_.cell? ⟨gG, 0, none⟩ = some (.string q1) := (blk_cell BG.out 0).trans rfl; have hfG0 := blk_frozen BG.out 0; have hcG1 : w21_.cell? ⟨gG, 1, none⟩ = some (.bool q2) := (blk_cell BG.out 1).trans rfl; have hfG1 := blk_frozen BG.out 1) | ((with_reducible refine gw ?_); refine gl 80 Tryz.func20 #[.slice Ag q3.length cg, .int .i64 1] ?_; (with_reducible refine (held_S HG.out A8.out).mono ?_); rintro e w22_ ⟨rfl, hb⟩; refine ⟨_, rfl, ?_⟩; have n0_ := kb BP hb; have n1_ := kb BW hb; have n2_ := kb BG hb; have n3_ := am (Kd.N_below HW.out hb); have n4_ := am (Kd.S_below HG.out hb); have n5_ := am (below_step HB.out hb); have n6_ := am (Nat.le_trans Ma.out hb.size); have n7_ := am (Nat.le_trans Mx.out hb.size); have n8_ := am (Nat.le_trans Mb.out hb.size); clear BP BW BG HW HG HB Ma Mx Mb hcP0 hfP0 hcP1 hfP1 hcW0 hfW0 hcW1 hfW1 hcG0 hfG0 hcG1 hfG1 hb; have BP := n0_; have BW := n1_; have BG := n2_; have HW := n3_; have HG := n4_; have HB := n5_; have Ma := n6_; have Mx := n7_; have Mb := n8_; clear n0_ n1_ n2_ n3_ n4_ n5_ n6_ n7_ n8_; have hcP0 : w22_.cell? ⟨gP, 0, none⟩ = some (.string a0_0) := (blk_cell BP.out 0).trans rfl; have hfP0 := blk_frozen BP.out 0; have hcP1 : w22_.cell? ⟨gP, 1, none⟩ = some (.bool a0_1) := (blk_cell BP.out 1).trans rfl; have hfP1 := blk_frozen BP.out 1; have hcW0 : w22_.cell? ⟨gW, 0, none⟩ = some (.string p1) := (blk_cell BW.out 0).trans rfl; have hfW0 := blk_frozen BW.out 0; have hcW1 : w22_.cell? ⟨gW, 1, none⟩ = some (.bool p2) := (blk_cell BW.out 1).trans rfl; have hfW1 := blk_frozen BW.out 1; have hcG0 : w22_.cell? ⟨gG, 0, none⟩ = some (.string q1) := (blk_cell BG.out 0).trans rfl; have hfG0 := blk_frozen BG.out 0; have hcG1 : w22_.cell? ⟨gG, 1, none⟩ = some (.bool q2) := (blk_cell BG.out 1).trans rfl; have hfG1 := blk_frozen BG.out 1) | ((with_reducible refine gw ?_); refine gl 88 Tryz.func16 #[.agg #[.string a0_0, .bool a0_1]] ?_; (with_reducible refine (laws_toStream.calls a0_0 a0_1 s1 s2 _ A2.out).mono ?_); rintro e w23_ ⟨rfl, hb⟩; refine ⟨_, rfl, ?_⟩; have n0_ := kb BP hb; have n1_ := kb BW hb; have n2_ := kb BG hb; have n3_ := am (Kd.N_below HW.out hb); have n4_ := am (Kd.S_below HG.out hb); have n5_ := am (below_step HB.out hb); have n6_ := am (Nat.le_trans Ma.out hb.size); have n7_ := am (Nat.le_trans Mx.out hb.size); have n8_ := am (Nat.le_trans Mb.out hb.size); clear BP BW BG HW HG HB Ma Mx Mb hcP0 hfP0 hcP1 hfP1 hcW0 hfW0 hcW1 hfW1 hcG0 hfG0 hcG1 hfG1 hb; have BP := n0_; have BW := n1_; have BG := n2_; have HW := n3_; have HG := n4_; have HB := n5_; have Ma := n6_; have Mx := n7_; have Mb := n8_; clear n0_ n1_ n2_ n3_ n4_ n5_ n6_ n7_ n8_; have hcP0 : w23_.cell? ⟨gP, 0, none⟩ = some (.string a0_0) := (blk_cell BP.out 0).trans rfl; have hfP0 := blk_frozen BP.out 0; have hcP1 : w23_.cell? ⟨gP, 1, none⟩ = some (.bool a0_1) := (blk_cell BP.out 1).trans rfl; have hfP1 := blk_frozen BP.out 1; have hcW0 : w23_.cell? ⟨gW, 0, none⟩ = some (.string p1) := (blk_cell BW.out 0).trans rfl; have hfW0 := blk_frozen BW.out 0; have hcW1 : w23_.cell? ⟨gW, 1, none⟩ = some (.bool p2) := (blk_cell BW.out 1).trans rfl; have hfW1 := blk_frozen BW.out 1; have hcG0 : w23_.cell? ⟨gG, 0, none⟩ = some (.string q1) := (blk_cell BG.out 0).trans rfl; have hfG0 := blk_frozen BG.out 0; have hcG1 : w23_.cell? ⟨gG, 1, none⟩ = some (.bool q2) := (blk_cell BG.out 1).trans rfl; have hfG1 := blk_frozen BG.out 1) | ((with_reducible refine gw ?_); refine gl 90 Tryz.func26 #[.slice A1 l1.length c1] ?_; (with_reducible refine (laws_toStringS.calls k A1 c1 l1 l _ (Kd.C_below HR1.out HB.out) HC1.out AL.out).mono ?_); rintro e w24_ ⟨vV, rfl, ho, hb⟩; refine ⟨_, rfl, ?_⟩; have n0_ := kb BP hb; have n1_ := kb BW hb; have n2_ := kb BG hb; have n3_ := am (Kd.N_below HW.out hb); have n4_ := am (Kd.S_below HG.out hb); have n5_ := am (below_step HB.out hb); have n6_ := am (Nat.le_trans Ma.out hb.size); have n7_ := am (Nat.le_trans Mx.out hb.size); have n8_ := am (Nat.le_trans Mb.out hb.size); have n9_ := am (Kd.R_mono (ok' := fun _ => True) (Kd.R_lower ho HB.out.size) (fun _ _ => trivial)); clear BP BW BG HW HG HB Ma Mx Mb hcP0 hfP0 hcP1 hfP1 hcW0 hfW0 hcW1 hfW1 hcG0 hfG0 hcG1 hfG1 hb ho; have BP := n0_; have BW := n1_; have BG := n2_; have HW := n3_; have HG := n4_; have HB := n5_; have Ma := n6_; have Mx := n7_; have Mb := n8_; have HV := n9_; clear n0_ n1_ n2_ n3_ n4_ n5_ n6_ n7_ n8_ n9_; obtain ⟨AV, cV, eV⟩ := Kd.R_slice HV.out; subst eV; have hcP0 : w24_.cell? ⟨gP, 0, none⟩ = some (.string a0_0) := (blk_cell BP.out 0).trans rfl; have hfP0 := blk_frozen BP.out 0; have hcP1 : w24_.cell? ⟨gP, 1, none⟩ = some (.bool a0_1) := (blk_cell BP.out 1).trans rfl; have hfP1 := blk_frozen BP.out 1; have hcW0 : w24_.cell? ⟨gW, 0, none⟩ = some (.string p1) := (blk_cell BW.out 0).trans rfl; have hfW0 := blk_frozen BW.out 0; have hcW1 : w24_.cell? ⟨gW, 1, none⟩ = some (.bool p2) := (blk_cell BW.out 1).trans rfl; have hfW1 := blk_frozen BW.out 1; have hcG0 : w24_.cell? ⟨gG, 0, none⟩ = some (.string q1) := (blk_cell BG.out 0).trans rfl; have hfG0 := blk_frozen BG.out 0; have hcG1 : w24_.cell? ⟨gG, 1, none⟩ = some (.bool q2) := (blk_cell BG.out 1).trans rfl; have hfG1 := blk_frozen BG.out 1) | ((with_reducible refine gw ?_); refine gl 91 Tryz.func12 #[.agg #[.string s1, .bool s2], .slice AV l.length cV] ?_; (with_reducible refine (impl_FeedAll_R (GLOBE.below HGE.out HB.out) (GLOBM.below HGM.out HB.out) (GLOBT.below HGT.out HB.out) HV.out A4.out).mono ?_); rintro e w25_ ⟨vh, rfl, ho, hb⟩; refine ⟨_, rfl, ?_⟩; have n0_ := kb BP hb; have n1_ := kb BW hb; have n2_ := kb BG hb; have n3_ := am (Kd.N_below HW.out hb); have n4_ := am (Kd.S_below HG.out hb); have n5_ := am (below_step HB.out hb); have n6_ := am (Nat.le_trans Ma.out hb.size); have n7_ := am (Nat.le_trans Mx.out hb.size); have n8_ := am (Nat.le_trans Mb.out hb.size); have n9_ := am (Kd.S_mono (ok' := fun _ => True) (Kd.S_lower ho HB.out.size) (fun _ _ => trivial)); clear BP BW BG HW HG HB Ma Mx Mb hcP0 hfP0 hcP1 hfP1 hcW0 hfW0 hcW1 hfW1 hcG0 hfG0 hcG1 hfG1 hb ho; have BP := n0_; have BW := n1_; have BG := n2_; have HW := n3_; have HG := n4_; have HB := n5_; have Ma := n6_; have Mx := n7_; have Mb := n8_; have HH := n9_; clear n0_ n1_ n2_ n3_ n4_ n5_ n6_ n7_ n8_ n9_; clear HV; obtain ⟨Ah, ch, eh⟩ := Kd.S_slice HH.out; subst eh; have hcP0 : w25_.cell? ⟨gP, 0, none⟩ = some (.string a0_0) := (blk_cell BP.out 0).trans rfl; have hfP0 := blk_frozen BP.out 0; have hcP1 : w25_.cell? ⟨gP, 1, none⟩ = some (.bool a0_1) := (blk_cell BP.out 1).trans rfl; have hfP1 := blk_frozen BP.out 1; have hcW0 : w25_.cell? ⟨gW, 0, none⟩ = some (.string p1) := (blk_cell BW.out 0).trans rfl; have hfW0 := blk_frozen BW.out 0; have hcW1 : w25_.cell? ⟨gW, 1, none⟩ = some (.bool p2) := (blk_cell BW.out 1).trans rfl; have hfW1 := blk_frozen BW.out 1; have hcG0 : w25_.cell? ⟨gG, 0, none⟩ = some (.string q1) := (blk_cell BG.out 0).trans rfl; have hfG0 := blk_frozen BG.out 0; have hcG1 : w25_.cell? ⟨gG, 1, none⟩ = some (.bool q2) := (blk_cell BG.out 1).trans rfl; have hfG1 := blk_frozen BG.out 1) | ((with_reducible refine gw ?_); refine bx 14 #[.string (⟨#[]⟩ : ByteArray), .bool false] 25 ?_; intro gH hg_ w26_ hbx_ hb; have EH : Aside0 (w.heap.size ≤ gH) := ⟨by rw [hg_]; exact HB.out.size⟩; have NHP : Aside0 (gH ≠ gP) := ⟨by rw [hg_]; exact Nat.ne_of_gt (blk_lt BP.out)⟩; have XHP := NHP.out; have XPH := Ne.symm NHP.out; have NHW : Aside0 (gH ≠ gW) := ⟨by rw [hg_]; exact Nat.ne_of_gt (blk_lt BW.out)⟩; have XHW := NHW.out; have XWH := Ne.symm NHW.out; have NHG : Aside0 (gH ≠ gG) := ⟨by rw [hg_]; exact Nat.ne_of_gt (blk_lt BG.out)⟩; have XHG := NHG.out; have XGH := Ne.symm NHG.out; have LaH : Aside0 (w6_.heap.size ≤ gH) := ⟨by rw [hg_]; exact Ma.out⟩; have LxH : Aside0 (w9_.heap.size ≤ gH) := ⟨by rw [hg_]; exact Mx.out⟩; have LbH : Aside0 (w11_.heap.size ≤ gH) := ⟨by rw [hg_]; exact Mb.out⟩; have n0_ := kb BP hb; have n1_ := kb BW hb; have n2_ := kb BG hb; have n3_ := am (Kd.N_below HW.out hb); have n4_ := am (Kd.S_below HG.out hb); have n5_ := am (Kd.S_below HH.out hb); have n6_ := am (below_step HB.out hb); have n7_ := am (Nat.le_trans Ma.out hb.size); have n8_ := am (Nat.le_trans Mx.out hb.size); have n9_ := am (Nat.le_trans Mb.out hb.size); have n10_ := am hbx_; clear BP BW BG HW HG HH HB Ma Mx Mb hcP0 hfP0 hcP1 hfP1 hcW0 hfW0 hcW1 hfW1 hcG0 hfG0 hcG1 hfG1 hb hbx_ hg_; have BP := n0_; have BW := n1_; have BG := n2_; have HW := n3_; have HG := n4_; have HH := n5_; have HB := n6_; have Ma := n7_; have Mx := n8_; have Mb := n9_; have BH := n10_; clear n0_ n1_ n2_ n3_ n4_ n5_ n6_ n7_ n8_ n9_ n10_; have hcP0 : w26_.cell? ⟨gP, 0, none⟩ = some (.string a0_0) := (blk_cell BP.out 0).trans rfl; have hfP0 := blk_frozen BP.out 0; have hcP1 : w26_.cell? ⟨gP, 1, none⟩ = some (.bool a0_1) := (blk_cell BP.out 1).trans rfl; have hfP1 := blk_frozen BP.out 1; have hcW0 : w26_.cell? ⟨gW, 0, none⟩ = some (.string p1) := (blk_cell BW.out 0).trans rfl; have hfW0 := blk_frozen BW.out 0; have hcW1 : w26_.cell? ⟨gW, 1, none⟩ = some (.bool p2) := (blk_cell BW.out 1).trans rfl; have hfW1 := blk_frozen BW.out 1; have hcG0 : w26_.cell? ⟨gG, 0, none⟩ = some (.string q1) := (blk_cell BG.out 0).trans rfl; have hfG0 := blk_frozen BG.out 0; have hcG1 : w26_.cell? ⟨gG, 1, none⟩ = some (.bool q2) := (blk_cell BG.out 1).trans rfl; have hfG1 := blk_frozen BG.out 1; have hcH0 : w26_.cell? ⟨gH, 0, none⟩ = some (.string (⟨#[]⟩ : ByteArray)) := (blk_cell BH.out 0).trans rfl; have hfH0 := blk_frozen BH.out 0; have hcH1 : w26_.cell? ⟨gH, 1, none⟩ = some (.bool false) := (blk_cell BH.out 1).trans rfl; have hfH1 := blk_frozen BH.out 1) | ((with_reducible refine gate_store (t := 25) (p := 14) rfl ?_); refine store_event (t := 25) (p := 14) (v := ?vo_w27_) (w1 := ((w26_.setCell ⟨gH, 0, none⟩ (.string q1)).setCell ⟨gH, 1, none⟩ (.bool q2))) ?hg ?ho ?hn ?hr ?_; (case ho => rfl); (case hg => rfl); (case hn => rfl); (case hr => first | (go_simp; done) | (go_simp; rfl)); intro w27_ hw_; have n0_ := (⟨by rw [hw_]; exact blk_far (p := ⟨gH, 1, none⟩) (blk_far (p := ⟨gH, 0, none⟩) (BP.out) XPH _) XPH _⟩ : Aside0 (w27_.heap[gP]? = some (.cells #[.string a0_0, .bool a0_1] 41 (0, 0)))); have n1_ := (⟨by rw [hw_]; exact blk_far (p := ⟨gH, 1, none⟩) (blk_far (p := ⟨gH, 0, none⟩) (BW.out) XWH _) XWH _⟩ : Aside0 (w27_.heap[gW]? = some (.cells #[.string p1, .bool p2] 25 (0, 0)))); have n2_ := (⟨by rw [hw_]; exact blk_far (p := ⟨gH, 1, none⟩) (blk_far (p := ⟨gH, 0, none⟩) (BG.out) XGH _) XGH _⟩ : Aside0 (w27_.heap[gG]? = some (.cells #[.string q1, .bool q2] 25 (0, 0)))); have n3_ := (⟨by rw [hw_]; refine blk_put (cs := #[.string q1, .bool false]) ?_ 1 _ rfl; refine blk_put (cs := #[.string (⟨#[]⟩ : ByteArray), .bool false]) ?_ 0 _ rfl; exact BH.out⟩ : Aside0 (w27_.heap[gH]? = some (.cells #[.string q1, .bool q2] 25 (0, 0)))); have n4_ := (⟨by rw [hw_]; exact Kd.N_far (p := ⟨gH, 1, none⟩) (Kd.N_far (p := ⟨gH, 0, none⟩) (HW.out) (fun k_ hk_ e_ => by have h1_ := LaH.out; have h2_ := hk_; rw [e_] at h2_; (try dsimp only at h2_); omega) _) (fun k_ hk_ e_ => by have h1_ := LaH.out; have h2_ := hk_; rw [e_] at h2_; (try dsimp only at h2_); omega) _⟩ : Aside0 (Kd.N k40 40 w27_ w.heap.size (fun k_ => k_ < w6_.heap.size) (.slice Aw p3.length cw) p3)); have n5_ := (⟨by rw [hw_]; exact Kd.S_mono (Kd.S_far (p := ⟨gH, 1, none⟩) (Kd.S_far (p := ⟨gH, 0, none⟩) (Kd.S_types HG.out BH.out (by decide)) (fun _ hk_ => hk_.2) _) (fun _ hk_ => hk_.2) _) (fun _ hk_ => hk_.1)⟩ : Aside0 (Kd.S k40 40 w27_ w.heap.size (fun k_ => (w10_.heap.size ≤ k_ ∧ k_ < w11_.heap.size) ∨ w20_.heap.size ≤ k_) (.slice Ag q3.length cg) m2)); have n6_ := (⟨by rw [hw_]; exact Kd.S_mono (Kd.S_far (p := ⟨gH, 1, none⟩) (Kd.S_far (p := ⟨gH, 0, none⟩) (Kd.S_types HH.out BH.out (by decide)) (fun _ hk_ => hk_.2) _) (fun _ hk_ => hk_.2) _) (fun _ hk_ => hk_.1)⟩ : Aside0 (Kd.S k40 40 w27_ w.heap.size (fun k_ => True) (.slice Ah q3.length ch) q3)); have n7_ := (⟨by rw [hw_]; exact below_set (below_set (HB.out) EH.out) EH.out⟩ : Aside0 (Below w.heap.size w w27_)); have n8_ := (⟨by rw [hw_]; simp only [setCell_size_]; exact Ma.out⟩ : Aside0 (w6_.heap.size ≤ w27_.heap.size)); have n9_ := (⟨by rw [hw_]; simp only [setCell_size_]; exact Mx.out⟩ : Aside0 (w9_.heap.size ≤ w27_.heap.size)); have n10_ := (⟨by rw [hw_]; simp only [setCell_size_]; exact Mb.out⟩ : Aside0 (w11_.heap.size ≤ w27_.heap.size)); clear BP BW BG BH HW HG HH HB Ma Mx Mb hcP0 hfP0 hcP1 hfP1 hcW0 hfW0 hcW1 hfW1 hcG0 hfG0 hcG1 hfG1 hcH0 hfH0 hcH1 hfH1 hw_; have BP := n0_; have BW := n1_; have BG := n2_; have BH := n3_; have HW := n4_; have HG := n5_; have HH := n6_; have HB := n7_; have Ma := n8_; have Mx := n9_; have Mb := n10_; clear n0_ n1_ n2_ n3_ n4_ n5_ n6_ n7_ n8_ n9_ n10_; have hcP0 : w27_.cell? ⟨gP, 0, none⟩ = some (.string a0_0) := (blk_cell BP.out 0).trans rfl; have hfP0 := blk_frozen BP.out 0; have hcP1 : w27_.cell? ⟨gP, 1, none⟩ = some (.bool a0_1) := (blk_cell BP.out 1).trans rfl; have hfP1 := blk_frozen BP.out 1; have hcW0 : w27_.cell? ⟨gW, 0, none⟩ = some (.string p1) := (blk_cell BW.out 0).trans rfl; have hfW0 := blk_frozen BW.out 0; have hcW1 : w27_.cell? ⟨gW, 1, none⟩ = some (.bool p2) := (blk_cell BW.out 1).trans rfl; have hfW1 := blk_frozen BW.out 1; have hcG0 : w27_.cell? ⟨gG, 0, none⟩ = some (.string q1) := (blk_cell BG.out 0).trans rfl; have hfG0 := blk_frozen BG.out 0; have hcG1 : w27_.cell? ⟨gG, 1, none⟩ = some (.bool q2) := (blk_cell BG.out 1).trans rfl; have hfG1 := blk_frozen BG.out 1; have hcH0 : w27_.cell? ⟨gH, 0, none⟩ = some (.string q1) := (blk_cell BH.out 0).trans rfl; have hfH0 := blk_frozen BH.out 0; have hcH1 : w27_.cell? ⟨gH, 1, none⟩ = some (.bool q2) := (blk_cell BH.out 1).trans rfl; have hfH1 := blk_frozen BH.out 1) | ((with_reducible refine gw ?_); refine gl 96 Tryz.func17 #[.agg #[.string q1, .bool q2], .agg #[.string p1, .bool p2]] ?_; (with_reducible refine (laws_eqStream.calls q1 q2 p1 p2 true _ A5.out).mono ?_); rintro e w28_ ⟨rfl, hb⟩; refine ⟨_, rfl, ?_⟩; have n0_ := kb BP hb; have n1_ := kb BW hb; have n2_ := kb BG hb; have n3_ := kb BH hb; have n4_ := am (Kd.N_below HW.out hb); have n5_ := am (Kd.S_below HG.out hb); have n6_ := am (Kd.S_below HH.out hb); have n7_ := am (below_step HB.out hb); have n8_ := am (Nat.le_trans Ma.out hb.size); have n9_ := am (Nat.le_trans Mx.out hb.size); have n10_ := am (Nat.le_trans Mb.out hb.size); clear BP BW BG BH HW HG HH HB Ma Mx Mb hcP0 hfP0 hcP1 hfP1 hcW0 hfW0 hcW1 hfW1 hcG0 hfG0 hcG1 hfG1 hcH0 hfH0 hcH1 hfH1 hb; have BP := n0_; have BW := n1_; have BG := n2_; have BH := n3_; have HW := n4_; have HG := n5_; have HH := n6_; have HB := n7_; have Ma := n8_; have Mx := n9_; have Mb := n10_; clear n0_ n1_ n2_ n3_ n4_ n5_ n6_ n7_ n8_ n9_ n10_; have hcP0 : w28_.cell? ⟨gP, 0, none⟩ = some (.string a0_0) := (blk_cell BP.out 0).trans rfl; have hfP0 := blk_frozen BP.out 0; have hcP1 : w28_.cell? ⟨gP, 1, none⟩ = some (.bool a0_1) := (blk_cell BP.out 1).trans rfl; have hfP1 := blk_frozen BP.out 1; have hcW0 : w28_.cell? ⟨gW, 0, none⟩ = some (.string p1) := (blk_cell BW.out 0).trans rfl; have hfW0 := blk_frozen BW.out 0; have hcW1 : w28_.cell? ⟨gW, 1, none⟩ = some (.bool p2) := (blk_cell BW.out 1).trans rfl; have hfW1 := blk_frozen BW.out 1; have hcG0 : w28_.cell? ⟨gG, 0, none⟩ = some (.string q1) := (blk_cell BG.out 0).trans rfl; have hfG0 := blk_frozen BG.out 0; have hcG1 : w28_.cell? ⟨gG, 1, none⟩ = some (.bool q2) := (blk_cell BG.out 1).trans rfl; have hfG1 := blk_frozen BG.out 1; have hcH0 : w28_.cell? ⟨gH, 0, none⟩ = some (.string q1) := (blk_cell BH.out 0).trans rfl; have hfH0 := blk_frozen BH.out 0; have hcH1 : w28_.cell? ⟨gH, 1, none⟩ = some (.bool q2) := (blk_cell BH.out 1).trans rfl; have hfH1 := blk_frozen BH.out 1) | (go_at_call 18; (with_reducible refine (eq_SN HH.out HW.out A6.out).mono ?_); rintro e w29_ ⟨rfl, hb⟩; have n0_ := kb BP hb; have n1_ := kb BW hb; have n2_ := kb BG hb; have n3_ := kb BH hb; have n4_ := am (Kd.N_below HW.out hb); have n5_ := am (Kd.S_below HG.out hb); have n6_ := am (Kd.S_below HH.out hb); have n7_ := am (below_step HB.out hb); have n8_ := am (Nat.le_trans Ma.out hb.size); have n9_ := am (Nat.le_trans Mx.out hb.size); have n10_ := am (Nat.le_trans Mb.out hb.size); clear BP BW BG BH HW HG HH HB Ma Mx Mb hcP0 hfP0 hcP1 hfP1 hcW0 hfW0 hcW1 hfW1 hcG0 hfG0 hcG1 hfG1 hcH0 hfH0 hcH1 hfH1 hb; have BP := n0_; have BW := n1_; have BG := n2_; have BH := n3_; have HW := n4_; have HG := n5_; have HH := n6_; have HB := n7_; have Ma := n8_; have Mx := n9_; have Mb := n10_; clear n0_ n1_ n2_ n3_ n4_ n5_ n6_ n7_ n8_ n9_ n10_; have hcP0 : w29_.cell? ⟨gP, 0, none⟩ = some (.string a0_0) := (blk_cell BP.out 0).trans rfl; have hfP0 := blk_frozen BP.out 0; have hcP1 : w29_.cell? ⟨gP, 1, none⟩ = some (.bool a0_1) := (blk_cell BP.out 1).trans rfl; have hfP1 := blk_frozen BP.out 1; have hcW0 : w29_.cell? ⟨gW, 0, none⟩ = some (.string p1) := (blk_cell BW.out 0).trans rfl; have hfW0 := blk_frozen BW.out 0; have hcW1 : w29_.cell? ⟨gW, 1, none⟩ = some (.bool p2) := (blk_cell BW.out 1).trans rfl; have hfW1 := blk_frozen BW.out 1; have hcG0 : w29_.cell? ⟨gG, 0, none⟩ = some (.string q1) := (blk_cell BG.out 0).trans rfl; have hfG0 := blk_frozen BG.out 0; have hcG1 : w29_.cell? ⟨gG, 1, none⟩ = some (.bool q2) := (blk_cell BG.out 1).trans rfl; have hfG1 := blk_frozen BG.out 1; have hcH0 : w29_.cell? ⟨gH, 0, none⟩ = some (.string q1) := (blk_cell BH.out 0).trans rfl; have hfH0 := blk_frozen BH.out 0; have hcH1 : w29_.cell? ⟨gH, 1, none⟩ = some (.bool q2) := (blk_cell BH.out 1).trans rfl; have hfH1 := blk_frozen BH.out 1) | ((with_reducible refine gw ?_); refine gl 106 Tryz.func20 #[.slice Ag q3.length cg, .int .i64 1] ?_; (with_reducible refine (held_S HG.out A8.out).mono ?_); rintro e w30_ ⟨rfl, hb⟩; refine ⟨_, rfl, ?_⟩; have n0_ := kb BP hb; have n1_ := kb BW hb; have n2_ := kb BG hb; have n3_ := kb BH hb; have n4_ := am (Kd.N_below HW.out hb); have n5_ := am (Kd.S_below HG.out hb); have n6_ := am (Kd.S_below HH.out hb); have n7_ := am (below_step HB.out hb); have n8_ := am (Nat.le_trans Ma.out hb.size); have n9_ := am (Nat.le_trans Mx.out hb.size); have n10_ := am (Nat.le_trans Mb.out hb.size); clear BP BW BG BH HW HG HH HB Ma Mx Mb hcP0 hfP0 hcP1 hfP1 hcW0 hfW0 hcW1 hfW1 hcG0 hfG0 hcG1 hfG1 hcH0 hfH0 hcH1 hfH1 hb; have BP := n0_; have BW := n1_; have BG := n2_; have BH := n3_; have HW := n4_; have HG := n5_; have HH := n6_; have HB := n7_; have Ma := n8_; have Mx := n9_; have Mb := n10_; clear n0_ n1_ n2_ n3_ n4_ n5_ n6_ n7_ n8_ n9_ n10_; have hcP0 : w30_.cell? ⟨gP, 0, none⟩ = some (.string a0_0) := (blk_cell BP.out 0).trans rfl; have hfP0 := blk_frozen BP.out 0; have hcP1 : w30_.cell? ⟨gP, 1, none⟩ = some (.bool a0_1) := (blk_cell BP.out 1).trans rfl; have hfP1 := blk_frozen BP.out 1; have hcW0 : w30_.cell? ⟨gW, 0, none⟩ = some (.string p1) := (blk_cell BW.out 0).trans rfl; have hfW0 := blk_frozen BW.out 0; have hcW1 : w30_.cell? ⟨gW, 1, none⟩ = some (.bool p2) := (blk_cell BW.out 1).trans rfl; have hfW1 := blk_frozen BW.out 1; have hcG0 : w30_.cell? ⟨gG, 0, none⟩ = some (.string q1) := (blk_cell BG.out 0).trans rfl; have hfG0 := blk_frozen BG.out 0; have hcG1 : w30_.cell? ⟨gG, 1, none⟩ = some (.bool q2) := (blk_cell BG.out 1).trans rfl; have hfG1 := blk_frozen BG.out 1; have hcH0 : w30_.cell? ⟨gH, 0, none⟩ = some (.string q1) := (blk_cell BH.out 0).trans rfl; have hfH0 := blk_frozen BH.out 0; have hcH1 : w30_.cell? ⟨gH, 1, none⟩ = some (.bool q2) := (blk_cell BH.out 1).trans rfl; have hfH1 := blk_frozen BH.out 1))
 go_ret
 exact ⟨rfl, HB.out⟩

end Go.Proofs.YtjckfmipegemcaaGreatDoor.All
