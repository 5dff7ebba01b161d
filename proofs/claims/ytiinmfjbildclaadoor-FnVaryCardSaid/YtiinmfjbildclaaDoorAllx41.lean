-- Written by a program of this session (wip/tools/hprint.py) out of the translation. Lean checks it.
import Derived.Test.YtiinmfjbildclaaDoorAllx0
import Derived.Test.YtiinmfjbildclaaDoorAllx5
import Derived.Test.YtiinmfjbildclaaDoorAllx16
import Derived.Test.YtiinmfjbildclaaDoorAllx18
import Derived.Test.YtiinmfjbildclaaDoorAllx19
namespace Go.Proofs.YtiinmfjbildclaaDoor.All
open Go.RowKit Go.Proofs.YtiinmfjbildclaaDoorW.PrintWords Go.Proofs.YtiinmfjbildclaaDoorW.PrintLast Go.Proofs.YtiinmfjbildclaaDoorW.PrintMore
attribute [local go_sem] max2_int min2_int max_two min_two max_three min_three max_four min_four   -- for this text's walks alone
set_option linter.unusedVariables false
set_option linter.unusedSimpArgs false

/-! ### spec_ValuesOf: function 53 -/
def spec_ValuesOf.l0 : Nat → List ByteArray → List (S114) → List ByteArray → Int → Option (List ByteArray)
 | 0, _, _, _, _ => none
 | k + 1, x0, x1, x5, x6 => if x6 < (x0.length : Int) then (if 0 ≤ x6 then ((spec_Get.f k x1 (rdOf ByteArray.empty x0 x6)).bind fun bt916 => (if bt916.2 = true then (if x5.length < 8796093022208 then (spec_ValuesOf.l0 k x0 x1 (x5 ++ [bt916.1]) (wrap64 (x6 + 1))) else (none)) else (if x5.length < 8796093022208 then (spec_ValuesOf.l0 k x0 x1 (x5 ++ [(⟨#[45]⟩ : ByteArray)]) (wrap64 (x6 + 1))) else (none)))) else (none)) else (some x5)
def spec_ValuesOf.f (k : Nat) (l0 : List ByteArray) (l1 : List (S114)) : Option (List ByteArray) := spec_ValuesOf.l0 k l0 l1 (([] : List ByteArray)) 0
theorem spec_ValuesOf.mono_l : ∀ k, (∀ y0 y1 y2 y3, LeO (spec_ValuesOf.l0 k y0 y1 y2 y3) (spec_ValuesOf.l0 (k + 1) y0 y1 y2 y3))
 | 0 => fun _ _ _ _ r h => by simp [spec_ValuesOf.l0] at h
 | k + 1 => by
  have ih0 := spec_ValuesOf.mono_l k
  ·intro y0 y1 y2 y3
   unfold spec_ValuesOf.l0
   repeat' first
   | (with_reducible exact ih0 _ _ _ _)
   | (with_reducible exact spec_Get.mono _ _ _)
   | (with_reducible exact LeO.refl _)
   | (with_reducible exact LeO.none _)
   | (with_reducible refine LeO.ite ?_ ?_)
   | (with_reducible refine LeO.bind ?_ (fun _ => ?_))
   | exact ih0 _ _ _ _
   | exact spec_Get.mono _ _ _
   | exact LeO.none _
   | refine LeO.ite ?_ ?_
   | refine LeO.bind ?_ (fun _ => ?_)
theorem spec_ValuesOf.mono : ∀ a0 a1 k, LeO (spec_ValuesOf.f k a0 a1) (spec_ValuesOf.f (k + 1) a0 a1) := by
 intro a0 a1 k
 have ih0 := spec_ValuesOf.mono_l k
 unfold spec_ValuesOf.f
 repeat' first
   | (with_reducible exact ih0 _ _ _ _)
   | (with_reducible exact spec_Get.mono _ _ _)
   | (with_reducible exact LeO.refl _)
   | (with_reducible exact LeO.none _)
   | (with_reducible refine LeO.ite ?_ ?_)
   | (with_reducible refine LeO.bind ?_ (fun _ => ?_))
   | exact ih0 _ _ _ _
   | exact spec_Get.mono _ _ _
   | exact LeO.none _
   | refine LeO.ite ?_ ?_
   | refine LeO.bind ?_ (fun _ => ?_)
set_option maxHeartbeats 8000000 in
set_option maxRecDepth 100000 in
theorem spec_ValuesOf.calls (k : Nat) (A0 : Option Addr) (c0 : Nat) (l0 : List ByteArray) (A1 : Option Addr) (c1 : Nat) (l1 : List (S114)) (r : List ByteArray) (w : World) (hr0 : Kd.C Kd.string w A0 l0.length l0) (hc0 : l0.length ≤ c0) (hr1 : Kd.C k114 w A1 l1.length l1) (hc1 : l1.length ≤ c1) (h : spec_ValuesOf.f k l0 l1 = some r) :
  Calls Tryd.prog 53 #[.slice A0 l0.length c0, .slice A1 l1.length c1] w fun e w' => ∃ v0_ : Value, e = .returned (v0_) ∧ Kd.R Kd.string 9 w' w.heap.size (fun _ => True) v0_ r ∧ Below w.heap.size w w' := by
 have HR0 := am hr0
 have HC0 := am hc0
 clear hr0 hc0
 have HR1 := am hr1
 have HC1 := am hc1
 clear hr1 hc1
 have HB := am (Below.refl w.heap.size w)
 have H : (spec_ValuesOf.l0 k l0 l1 (([] : List ByteArray)) 0) = some r := h
 clear h
 obtain ⟨y912, hy912⟩ : ∃ y_ : List ByteArray, y_ = (([] : List ByteArray)) := ⟨_, rfl⟩
 replace H : (spec_ValuesOf.l0 k l0 l1 y912 0) = some r := by first | (rw [hy912]; with_reducible exact H) | (have H2_ := (Option.bind_some _ _).symm.trans H; rw [hy912]; with_reducible exact H2_) | (have H2_ := (Option.bind_some _ _).symm.trans H; with_reducible exact H2_) | with_reducible exact H | (rw [hy912]; exact H) | exact H
 have Ny912 := am hy912
 clear hy912
 have H' := am H
 clear H
 go_enter Tryd.func53, Tryd.ntmps53
 go_wp2_with (first | ((with_reducible refine gate_dst (N := 9) rfl ?_); refine Kd.R_lit Kd.string _ 9 ?hg (N := 9) ?hd (xs := ([] : List ByteArray)) (inner := []) (ok := fun _ => True) (okp := fun _ => True) ?hr ?hp (fun _ hk => hk) trivial (Below.refl _ _) (Nat.le_refl _) (by simp) ?_; (case hd => rfl); (case hg => rfl); (case hr => first | (go_simp; done) | (go_simp; rfl)); (case hp => exact (Reps.none _ _)); intro v913 w3 ho4 hb hg_ hnew_; clear hg_ hnew_; (first | rw [← Ny912.out] at ho4 | (simp only [Int.reduceToNat] at ho4; rw [← Ny912.out] at ho4)); have HO914 := am (Kd.R_lower ho4 (below_size bl)); replace HB := am (below_step bl hb); clear hb ho4))
 (try simp only [Act.put, List.setIfInBounds_toArray, List.set_cons_zero, List.set_cons_succ])
 go_loopg [5, 6] k (fun kq v5 v6 w' => ∃ (x5_1 : List ByteArray) (x6_1 : Int), v6 = .int .i64 x6_1 ∧ Aside0 (spec_ValuesOf.l0 kq l0 l1 x5_1 x6_1 = some r) ∧ Aside0 (kq ≤ k) ∧ Aside0 (Kd.R Kd.string 9 w' w.heap.size (fun _ => True) v5 x5_1) ∧ Aside0 (Below w.heap.size w w'))
 case atStart => exact ⟨(y912), (0), rs, H', ⟨Nat.le_refl _⟩, ⟨by (with_reducible repeat (first | apply Kd.R_alloc | apply Kd.R_drewN | apply Kd.R_drew)); exact HO914.out⟩, ⟨by repeat (first | (with_reducible first | exact HB.out | apply below_alloc | apply pw_below_drewN | apply below_drew1) | exact HB.out)⟩⟩
 case round =>
  clear H'
  try clear c1
  try clear p2
  obtain ⟨x5_1, x6_1, rfl, HA, HK1, HO_5, HB⟩ := hrel
  cases gk with
  | zero => exact absurd HA.out (by simp [spec_ValuesOf.l0])
  | succ k1 =>
   have H := HA.out
   clear HA
   simp only [spec_ValuesOf.l0] at H
   by_cases c5 : x6_1 < (l0.length : Int)
   ·rw [if_pos c5] at H
    have c5b0 : decide (x6_1 < (l0.length : Int)) = true := decide_eq_true c5
    clear c5
    by_cases c6 : 0 ≤ x6_1
    ·rw [if_pos c6] at H
     have c6b0 : decide (0 ≤ x6_1) = true := decide_eq_true c6
     clear c6
     replace H := ob H
     obtain ⟨⟨t916, t917⟩, A70, H⟩ := H
     replace H : (if t917 = true then (if x5_1.length < 8796093022208 then (spec_ValuesOf.l0 k1 l0 l1 (x5_1 ++ [t916]) (wrap64 (x6_1 + 1))) else (none)) else (if x5_1.length < 8796093022208 then (spec_ValuesOf.l0 k1 l0 l1 (x5_1 ++ [(⟨#[45]⟩ : ByteArray)]) (wrap64 (x6_1 + 1))) else (none))) = some r := H
     have A7 := am A70
     clear A70
     by_cases c8 : t917 = true
     ·subst c8
      have H1 : (if x5_1.length < 8796093022208 then (spec_ValuesOf.l0 k1 l0 l1 (x5_1 ++ [t916]) (wrap64 (x6_1 + 1))) else (none)) = some r := by rw [if_pos rfl] at H; exact H
      clear H
      have H := H1
      clear H1
      by_cases c9 : x5_1.length < 8796093022208
      ·rw [if_pos c9] at H
       have LMc9 := am c9
       clear c9
       obtain ⟨y918, hy918⟩ : ∃ y_ : List ByteArray, y_ = (x5_1 ++ [t916]) := ⟨_, rfl⟩
       replace H : (spec_ValuesOf.l0 k1 l0 l1 y918 (wrap64 (x6_1 + 1))) = some r := by first | (rw [hy918]; with_reducible exact H) | (have H2_ := (Option.bind_some _ _).symm.trans H; rw [hy918]; with_reducible exact H2_) | (have H2_ := (Option.bind_some _ _).symm.trans H; with_reducible exact H2_) | with_reducible exact H | (rw [hy918]; exact H) | exact H
       have Ny918 := am hy918
       clear hy918
       have H' := am H
       clear H
       have p915 : 0 ≤ (x6_1 : Int) := od
       have q915 : x6_1 < (l0.length : Int) := od
       obtain ⟨ad915, e915, hx915_0⟩ := Kd.at_string HR0.out x6_1 p915 q915
       cases e915
       replace hx915_0 := hcw hx915_0
       replace p915 := eq_true p915
       replace q915 := eq_true q915
       go_wp2_with (first | ((with_reducible refine gate_callee (f := 97) rfl ?_); refine goesL_ (some 22) rfl rfl Tryd.func97 (by kernel_rfl) rfl #[.slice A1 l1.length c1, .string (rdOf ByteArray.empty l0 x6_1)] rfl ma ?_; (with_reducible refine (spec_Get.calls k1 _ _ l1 (rdOf ByteArray.empty l0 x6_1) t916 true _ ?side1 ?side2 A7.out).mono ?_); (case side1 => exact cb HR1); (case side2 => exact HC1.out); rintro e w' ⟨rfl, ⟨nd, rfl⟩⟩; refine ⟨_, rfl, ?_⟩) | ((with_reducible refine gate_builtin (b := .append) (xs := #[.tmp 27, .tmp 29]) rfl ?_); at_builtin; refine Kd.R_append Kd.string (w0 := w) w.heap.size rfl (.tmp 27) (.tmp 29) 24 9 (.string ⟨#[]⟩) 16 rfl Tryd.underlying24 info9 rfl (by decide) (by omega) u5 x5_1 t916 [.string t916] (fun _ => True) (fun _ => False) rfl rfl ?aP (fun _ hk => hk.elim) ?aF ?aO ?aB ?aS ?aL ?_; (case aP => exact rfl); (case aB => exact bl); (case aF => exact (fun _ _ => trivial)); (case aO => exact (ro HO_5)); (case aS => exact (below_size bl)); (case aL => have := LMc9.out; omega); intro v919 w10 ho hb hg hat; rw [← Ny918.out] at ho; have n0_ := am (hb); have n1_ := am (ho); clear HB; clear HO_5; have HB := n0_; have HO920 := n1_; clear n0_ n1_; clear ho hb hg hat))
       go_roundg k1
       case measure => have := HK1.out; omega
       case rel => exact ⟨(y918), (wrap64 (x6_1 + 1)), rs, H', ⟨by have := HK1.out; omega⟩, ⟨by (with_reducible repeat (first | apply Kd.R_alloc | apply Kd.R_drewN | apply Kd.R_drew)); exact HO920.out⟩, ⟨by repeat (first | (with_reducible first | exact HB.out | apply below_alloc | apply pw_below_drewN | apply below_drew1) | exact HB.out)⟩⟩
      ·rw [if_neg c9] at H
       exact absurd H (by simp)
     ·replace c8 := Bool.eq_false_iff.mpr c8
      subst c8
      have H1 : (if x5_1.length < 8796093022208 then (spec_ValuesOf.l0 k1 l0 l1 (x5_1 ++ [(⟨#[45]⟩ : ByteArray)]) (wrap64 (x6_1 + 1))) else (none)) = some r := by rw [if_neg (show ¬ (false = true) by decide)] at H; exact H
      clear H
      have H := H1
      clear H1
      by_cases c11 : x5_1.length < 8796093022208
      ·rw [if_pos c11] at H
       have LMc11 := am c11
       clear c11
       obtain ⟨y921, hy921⟩ : ∃ y_ : List ByteArray, y_ = (x5_1 ++ [(⟨#[45]⟩ : ByteArray)]) := ⟨_, rfl⟩
       replace H : (spec_ValuesOf.l0 k1 l0 l1 y921 (wrap64 (x6_1 + 1))) = some r := by first | (rw [hy921]; with_reducible exact H) | (have H2_ := (Option.bind_some _ _).symm.trans H; rw [hy921]; with_reducible exact H2_) | (have H2_ := (Option.bind_some _ _).symm.trans H; with_reducible exact H2_) | with_reducible exact H | (rw [hy921]; exact H) | exact H
       have Ny921 := am hy921
       clear hy921
       have H' := am H
       clear H
       have p915 : 0 ≤ (x6_1 : Int) := od
       have q915 : x6_1 < (l0.length : Int) := od
       obtain ⟨ad915, e915, hx915_0⟩ := Kd.at_string HR0.out x6_1 p915 q915
       cases e915
       replace hx915_0 := hcw hx915_0
       replace p915 := eq_true p915
       replace q915 := eq_true q915
       go_wp2_with (first | ((with_reducible refine gate_callee (f := 97) rfl ?_); refine goesL_ (some 22) rfl rfl Tryd.func97 (by kernel_rfl) rfl #[.slice A1 l1.length c1, .string (rdOf ByteArray.empty l0 x6_1)] rfl ma ?_; (with_reducible refine (spec_Get.calls k1 _ _ l1 (rdOf ByteArray.empty l0 x6_1) t916 false _ ?side1 ?side2 A7.out).mono ?_); (case side1 => exact cb HR1); (case side2 => exact HC1.out); rintro e w' ⟨rfl, ⟨nd, rfl⟩⟩; refine ⟨_, rfl, ?_⟩) | ((with_reducible refine gate_builtin (b := .append) (xs := #[.tmp 27, .tmp 29]) rfl ?_); at_builtin; refine Kd.R_append Kd.string (w0 := w) w.heap.size rfl (.tmp 27) (.tmp 29) 24 9 (.string ⟨#[]⟩) 16 rfl Tryd.underlying24 info9 rfl (by decide) (by omega) u5 x5_1 (⟨#[45]⟩ : ByteArray) [.string (⟨#[45]⟩ : ByteArray)] (fun _ => True) (fun _ => False) rfl rfl ?aP (fun _ hk => hk.elim) ?aF ?aO ?aB ?aS ?aL ?_; (case aP => exact rfl); (case aB => exact bl); (case aF => exact (fun _ _ => trivial)); (case aO => exact (ro HO_5)); (case aS => exact (below_size bl)); (case aL => have := LMc11.out; omega); intro v922 w12 ho hb hg hat; rw [← Ny921.out] at ho; have n0_ := am (hb); have n1_ := am (ho); clear HB; clear HO_5; have HB := n0_; have HO923 := n1_; clear n0_ n1_; clear ho hb hg hat))
       go_roundg k1
       case measure => have := HK1.out; omega
       case rel => exact ⟨(y921), (wrap64 (x6_1 + 1)), rs, H', ⟨by have := HK1.out; omega⟩, ⟨by (with_reducible repeat (first | apply Kd.R_alloc | apply Kd.R_drewN | apply Kd.R_drew)); exact HO923.out⟩, ⟨by repeat (first | (with_reducible first | exact HB.out | apply below_alloc | apply pw_below_drewN | apply below_drew1) | exact HB.out)⟩⟩
      ·rw [if_neg c11] at H
       exact absurd H (by simp)
    ·rw [if_neg c6] at H
     exact absurd H (by simp)
   ·rw [if_neg c5] at H
    have c5b0 : decide (x6_1 < (l0.length : Int)) = false := decide_eq_false c5
    clear c5
    obtain rfl := Option.some.inj H
    go_wp2
    go_ret
    exact ⟨_, rf, by (with_reducible repeat (first | apply Kd.R_alloc | apply Kd.R_drewN | apply Kd.R_drew)); exact HO_5.out, bl⟩

/-! ### spec_l8DrawNames: function 127 -/
def spec_l8DrawNames.l0 : Nat → List ByteArray → Int → List Int → Int → Int → Option (List ByteArray × Int × Int)
 | 0, _, _, _, _, _ => none
 | k + 1, x3, x4, x1000, x1001, x1002 => (spec_l1Below.f x1000 x1001 x1002 4).bind fun bt927 => (if x4 < bt927.1 then ((spec_l1Pick.f x1000 bt927.2.1 bt927.2.2 (([(⟨#[108, 97, 110, 103]⟩ : ByteArray), (⟨#[107, 105, 110, 100]⟩ : ByteArray), (⟨#[120, 45, 97]⟩ : ByteArray), (⟨#[108, 97, 110, 103]⟩ : ByteArray), (⟨#[42]⟩ : ByteArray)] : List ByteArray))).bind fun bt933 => (if x3.length < 8796093022208 then (spec_l8DrawNames.l0 k (x3 ++ [bt933.1]) (wrap64 (x4 + 1)) x1000 bt933.2.1 bt933.2.2) else (none))) else (some (x3, bt927.2.1, bt927.2.2)))
def spec_l8DrawNames.f (k : Nat) (s0_0 : List Int) (s0_1 : Int) (s0_2 : Int) : Option (List ByteArray × Int × Int) := spec_l8DrawNames.l0 k (([] : List ByteArray)) 0 s0_0 s0_1 s0_2
theorem spec_l8DrawNames.mono_l : ∀ k, (∀ y0 y1 y2 y3 y4, LeO (spec_l8DrawNames.l0 k y0 y1 y2 y3 y4) (spec_l8DrawNames.l0 (k + 1) y0 y1 y2 y3 y4))
 | 0 => fun _ _ _ _ _ r h => by simp [spec_l8DrawNames.l0] at h
 | k + 1 => by
  have ih0 := spec_l8DrawNames.mono_l k
  ·intro y0 y1 y2 y3 y4
   unfold spec_l8DrawNames.l0
   repeat' first
   | (with_reducible exact ih0 _ _ _ _ _)
   | (with_reducible exact LeO.refl _)
   | (with_reducible exact LeO.none _)
   | (with_reducible refine LeO.ite ?_ ?_)
   | (with_reducible refine LeO.bind ?_ (fun _ => ?_))
   | exact ih0 _ _ _ _ _
   | exact LeO.none _
   | refine LeO.ite ?_ ?_
   | refine LeO.bind ?_ (fun _ => ?_)
theorem spec_l8DrawNames.mono : ∀ a0 a1 a2 k, LeO (spec_l8DrawNames.f k a0 a1 a2) (spec_l8DrawNames.f (k + 1) a0 a1 a2) := by
 intro a0 a1 a2 k
 have ih0 := spec_l8DrawNames.mono_l k
 unfold spec_l8DrawNames.f
 repeat' first
   | (with_reducible exact ih0 _ _ _ _ _)
   | (with_reducible exact LeO.refl _)
   | (with_reducible exact LeO.none _)
   | (with_reducible refine LeO.ite ?_ ?_)
   | (with_reducible refine LeO.bind ?_ (fun _ => ?_))
   | exact ih0 _ _ _ _ _
   | exact LeO.none _
   | refine LeO.ite ?_ ?_
   | refine LeO.bind ?_ (fun _ => ?_)
set_option maxHeartbeats 8000000 in
set_option maxRecDepth 100000 in
theorem spec_l8DrawNames.calls (k : Nat) (g : Nat) (s0_0 : List Int) (s0_1 : Int) (s0_2 : Int) (r1 : List ByteArray) (r2 : Int) (r3 : Int) (w0 w : World) (hI : IsS161 w0 w g s0_0 s0_1 s0_2) (hB : Below w0.heap.size w0 w) (h : spec_l8DrawNames.f k s0_0 s0_1 s0_2 = some (r1, r2, r3)) :
  Calls Tryd.prog 127 #[.pointer (some ⟨g, 0, none⟩)] w fun e w' => ∃ v0_ : Value, e = .returned (v0_) ∧ Kd.R Kd.string 9 w' w.heap.size (fun _ => True) v0_ r1 ∧ IsS161 w0 w' g s0_0 r2 r3 ∧ Below w0.heap.size w0 w' ∧ KeepBut w w' g none := by
 have HI0 := am hI
 have HK := am (KeepBut.refl w g none)
 have HL := am hB.size
 clear hI
 have HW0 := am hB.size
 have HB := am hB
 clear hB
 have H : (spec_l8DrawNames.l0 k (([] : List ByteArray)) 0 s0_0 s0_1 s0_2) = some (r1, r2, r3) := h
 clear h
 obtain ⟨y924, hy924⟩ : ∃ y_ : List ByteArray, y_ = (([] : List ByteArray)) := ⟨_, rfl⟩
 replace H : (spec_l8DrawNames.l0 k y924 0 s0_0 s0_1 s0_2) = some (r1, r2, r3) := by first | (rw [hy924]; with_reducible exact H) | (have H2_ := (Option.bind_some _ _).symm.trans H; rw [hy924]; with_reducible exact H2_) | (have H2_ := (Option.bind_some _ _).symm.trans H; with_reducible exact H2_) | with_reducible exact H | (rw [hy924]; exact H) | exact H
 have Ny924 := am hy924
 clear hy924
 have H' := am H
 clear H
 go_enter Tryd.func127, Tryd.ntmps127
 go_wp2_with (first | ((with_reducible refine gate_dst (N := 5) rfl ?_); refine Kd.R_lit Kd.string _ 9 ?hg (N := 5) ?hd (xs := ([] : List ByteArray)) (inner := []) (ok := fun _ => True) (okp := fun _ => True) ?hr ?hp (fun _ hk => hk) trivial (Below.refl _ _) (Nat.le_refl _) (by simp) ?_; (case hd => rfl); (case hg => rfl); (case hr => first | (go_simp; done) | (go_simp; rfl)); (case hp => exact (Reps.none _ _)); intro v925 w2 ho3 hb hg_ hnew_; clear hg_ hnew_; (first | rw [← Ny924.out] at ho3 | (simp only [Int.reduceToNat] at ho3; rw [← Ny924.out] at ho3)); have HO926 := am (Kd.R_lower ho3 (keep_size (w := w) (g := g) (row := none) (by repeat (first | (with_reducible first | exact HK.out | apply KeepBut.set_ | apply keep_drewN | apply keep_drew | apply keep_alloc) | exact HK.out)))); replace HK := am (KeepBut.trans (by repeat (first | (with_reducible first | exact HK.out | apply KeepBut.set_ | apply keep_drewN | apply keep_drew | apply keep_alloc) | exact HK.out)) (KeepBut.of_below hb g none) (.inl rfl)); replace HB := am (below_step (by repeat (first | (with_reducible first | exact HB.out | apply below_alloc | apply pw_below_drewN | apply below_drew1 | refine below_set ?_ (IsS161.ge HI0.out)) | exact HB.out)) hb); replace HI0 := am (IsS161.below (by repeat (first | (with_reducible first | exact HI0.out | apply IsS161.alloc | apply IsS161.drewN | apply IsS161.drew | apply IsS161.set_1 | apply IsS161.set_2) | exact HI0.out)) hb); clear hb ho3))
 (try simp only [Act.put, List.setIfInBounds_toArray, List.set_cons_zero, List.set_cons_succ])
 go_loopg [3, 4] k (fun kq v3 v4 w' => ∃ (x3_1 : List ByteArray) (x4_1 : Int) (x1001_1 : Int) (x1002_1 : Int), v4 = .int .i64 x4_1 ∧ Aside0 (spec_l8DrawNames.l0 kq x3_1 x4_1 s0_0 x1001_1 x1002_1 = some (r1, r2, r3)) ∧ Aside0 (kq ≤ k) ∧ Aside0 (Kd.R Kd.string 9 w' w.heap.size (fun _ => True) v3 x3_1) ∧ Aside0 (IsS161 w0 w' g s0_0 x1001_1 x1002_1) ∧ Aside0 (KeepBut w w' g none) ∧ Aside0 (Below w0.heap.size w0 w'))
 case atStart => exact ⟨(y924), (0), (s0_1), (s0_2), rs, H', ⟨Nat.le_refl _⟩, ⟨by (with_reducible repeat (first | apply Kd.R_alloc | apply Kd.R_drewN | apply Kd.R_drew)); exact HO926.out⟩, ⟨by repeat (first | (with_reducible first | exact HI0.out | apply IsS161.alloc | apply IsS161.drewN | apply IsS161.drew | apply IsS161.set_1 | apply IsS161.set_2) | exact HI0.out)⟩, ⟨by repeat (first | (with_reducible first | exact HK.out | apply KeepBut.set_ | apply keep_drewN | apply keep_drew | apply keep_alloc) | exact HK.out)⟩, ⟨by repeat (first | (with_reducible first | exact HB.out | apply below_alloc | apply pw_below_drewN | apply below_drew1 | refine below_set ?_ (IsS161.ge HI0.out)) | exact HB.out)⟩⟩
 case round =>
  clear H'
  try clear c1
  try clear p2
  obtain ⟨x3_1, x4_1, x1001_1, x1002_1, rfl, HA, HK1, HO_3, HI0, HK, HB⟩ := hrel
  cases gk with
  | zero => exact absurd HA.out (by simp [spec_l8DrawNames.l0])
  | succ k1 =>
   have H := HA.out
   clear HA
   simp only [spec_l8DrawNames.l0] at H
   replace H := ob H
   obtain ⟨⟨t927, t928, t929⟩, A40, H⟩ := H
   replace H : (if x4_1 < t927 then ((spec_l1Pick.f s0_0 t928 t929 (([(⟨#[108, 97, 110, 103]⟩ : ByteArray), (⟨#[107, 105, 110, 100]⟩ : ByteArray), (⟨#[120, 45, 97]⟩ : ByteArray), (⟨#[108, 97, 110, 103]⟩ : ByteArray), (⟨#[42]⟩ : ByteArray)] : List ByteArray))).bind fun bt933 => (if x3_1.length < 8796093022208 then (spec_l8DrawNames.l0 k1 (x3_1 ++ [bt933.1]) (wrap64 (x4_1 + 1)) s0_0 bt933.2.1 bt933.2.2) else (none))) else (some (x3_1, t928, t929))) = some (r1, r2, r3) := H
   have A4 := am A40
   clear A40
   by_cases c5 : x4_1 < t927
   ·rw [if_pos c5] at H
    have c5b0 : decide (x4_1 < t927) = true := decide_eq_true c5
    clear c5
    obtain ⟨y930, hy930⟩ : ∃ y_ : List ByteArray, y_ = (([(⟨#[108, 97, 110, 103]⟩ : ByteArray), (⟨#[107, 105, 110, 100]⟩ : ByteArray), (⟨#[120, 45, 97]⟩ : ByteArray), (⟨#[108, 97, 110, 103]⟩ : ByteArray), (⟨#[42]⟩ : ByteArray)] : List ByteArray)) := ⟨_, rfl⟩
    replace H : ((spec_l1Pick.f s0_0 t928 t929 y930).bind fun bt933 => (if x3_1.length < 8796093022208 then (spec_l8DrawNames.l0 k1 (x3_1 ++ [bt933.1]) (wrap64 (x4_1 + 1)) s0_0 bt933.2.1 bt933.2.2) else (none))) = some (r1, r2, r3) := by first | (rw [hy930]; with_reducible exact H) | (have H2_ := (Option.bind_some _ _).symm.trans H; rw [hy930]; with_reducible exact H2_) | (have H2_ := (Option.bind_some _ _).symm.trans H; with_reducible exact H2_) | with_reducible exact H | (rw [hy930]; exact H) | exact H
    have Ny930 := am hy930
    clear hy930
    replace H := ob H
    obtain ⟨⟨t933, t934, t935⟩, A60, H⟩ := H
    replace H : (if x3_1.length < 8796093022208 then (spec_l8DrawNames.l0 k1 (x3_1 ++ [t933]) (wrap64 (x4_1 + 1)) s0_0 t934 t935) else (none)) = some (r1, r2, r3) := H
    have A6 := am A60
    clear A60
    by_cases c7 : x3_1.length < 8796093022208
    ·rw [if_pos c7] at H
     have LMc7 := am c7
     clear c7
     obtain ⟨y936, hy936⟩ : ∃ y_ : List ByteArray, y_ = (x3_1 ++ [t933]) := ⟨_, rfl⟩
     replace H : (spec_l8DrawNames.l0 k1 y936 (wrap64 (x4_1 + 1)) s0_0 t934 t935) = some (r1, r2, r3) := by first | (rw [hy936]; with_reducible exact H) | (have H2_ := (Option.bind_some _ _).symm.trans H; rw [hy936]; with_reducible exact H2_) | (have H2_ := (Option.bind_some _ _).symm.trans H; with_reducible exact H2_) | with_reducible exact H | (rw [hy936]; exact H) | exact H
     have Ny936 := am hy936
     clear hy936
     have H' := am H
     clear H
     go_wp2_with (first | ((with_reducible refine gate_callee (f := 166) rfl ?_); refine goesL_ (some 8) rfl rfl Tryd.func166 (by kernel_rfl) rfl #[.pointer (some ⟨g, 0, none⟩), .int .i64 4] rfl ma ?_; (with_reducible refine (spec_l1Below.calls g s0_0 x1001_1 x1002_1 4 t927 t928 t929 w0 _ ?side1 ?side2 A4.out).mono ?_); (case side1 => repeat (first | (with_reducible first | exact HI0.out | apply IsS161.alloc | apply IsS161.drewN | apply IsS161.drew | apply IsS161.set_1 | apply IsS161.set_2) | exact HI0.out)); (case side2 => repeat (first | (with_reducible first | exact HB.out | apply below_alloc | apply pw_below_drewN | apply below_drew1 | refine below_set ?_ (IsS161.ge HI0.out)) | exact HB.out)); rintro e w8 ⟨rfl, hi, hb, hk⟩; refine ⟨_, rfl, ?_⟩; replace HO_3 := am (Kd.R_mono (Kd.R_keep (IsS161.apart (show IsS161 w0 _ g s0_0 x1001_1 x1002_1 from by repeat (first | (with_reducible first | exact HI0.out | apply IsS161.alloc | apply IsS161.drewN | apply IsS161.drew | apply IsS161.set_1 | apply IsS161.set_2) | exact HI0.out)) (ro HO_3) (by decide)) hk (fun _ h => h.2)) (fun _ h => h.1)); replace HK := am (KeepBut.trans (by repeat (first | (with_reducible first | exact HK.out | apply KeepBut.set_ | apply keep_drewN | apply keep_drew | apply keep_alloc) | exact HK.out)) hk (.inl rfl)); replace HB := am (hb); replace HI0 := am (hi); (try clear hb); (try clear hb2); (try clear hk); (try clear hi)) | ((with_reducible refine gate_dst (N := 14) rfl ?_); refine Kd.R_lit Kd.string _ 9 ?hg (N := 14) ?hd (xs := ([(⟨#[108, 97, 110, 103]⟩ : ByteArray), (⟨#[107, 105, 110, 100]⟩ : ByteArray), (⟨#[120, 45, 97]⟩ : ByteArray), (⟨#[108, 97, 110, 103]⟩ : ByteArray), (⟨#[42]⟩ : ByteArray)] : List ByteArray)) (inner := [.string (⟨#[108, 97, 110, 103]⟩ : ByteArray), .string (⟨#[107, 105, 110, 100]⟩ : ByteArray), .string (⟨#[120, 45, 97]⟩ : ByteArray), .string (⟨#[108, 97, 110, 103]⟩ : ByteArray), .string (⟨#[42]⟩ : ByteArray)]) (ok := fun _ => True) (okp := fun _ => True) ?hr ?hp (fun _ hk => hk) trivial (Below.refl _ _) (Nat.le_refl _) (by simp) ?_; (case hd => rfl); (case hg => rfl); (case hr => first | (go_simp; done) | (go_simp; rfl)); (case hp => exact (Reps.one (show Kd.M Kd.string _ _ _ (⟨#[108, 97, 110, 103]⟩ : ByteArray) [.string (⟨#[108, 97, 110, 103]⟩ : ByteArray)] from rfl) (Reps.one (show Kd.M Kd.string _ _ _ (⟨#[107, 105, 110, 100]⟩ : ByteArray) [.string (⟨#[107, 105, 110, 100]⟩ : ByteArray)] from rfl) (Reps.one (show Kd.M Kd.string _ _ _ (⟨#[120, 45, 97]⟩ : ByteArray) [.string (⟨#[120, 45, 97]⟩ : ByteArray)] from rfl) (Reps.one (show Kd.M Kd.string _ _ _ (⟨#[108, 97, 110, 103]⟩ : ByteArray) [.string (⟨#[108, 97, 110, 103]⟩ : ByteArray)] from rfl) (Reps.one (show Kd.M Kd.string _ _ _ (⟨#[42]⟩ : ByteArray) [.string (⟨#[42]⟩ : ByteArray)] from rfl) (Reps.none _ _))))))); intro v931 w9 ho10 hb hg_ hnew_; clear hg_ hnew_; (first | rw [← Ny930.out] at ho10 | (simp only [Int.reduceToNat] at ho10; rw [← Ny930.out] at ho10)); have HO932 := am (Kd.R_lower (Kd.R_new' ho10 (Kd.R_lt (ro HO_3))) (keep_size (w := w) (g := g) (row := none) (by repeat (first | (with_reducible first | exact HK.out | apply KeepBut.set_ | apply keep_drewN | apply keep_drew | apply keep_alloc) | exact HK.out)))); replace HO_3 := am (Kd.R_elder' (ro HO_3) (Kd.R_base ho10) hb); replace HK := am (KeepBut.trans (by repeat (first | (with_reducible first | exact HK.out | apply KeepBut.set_ | apply keep_drewN | apply keep_drew | apply keep_alloc) | exact HK.out)) (KeepBut.of_below hb g none) (.inl rfl)); replace HB := am (below_step (by repeat (first | (with_reducible first | exact HB.out | apply below_alloc | apply pw_below_drewN | apply below_drew1 | refine below_set ?_ (IsS161.ge HI0.out)) | exact HB.out)) hb); replace HI0 := am (IsS161.below (by repeat (first | (with_reducible first | exact HI0.out | apply IsS161.alloc | apply IsS161.drewN | apply IsS161.drew | apply IsS161.set_1 | apply IsS161.set_2) | exact HI0.out)) hb); clear hb ho10; obtain ⟨Ao11, co11, eo11⟩ := Kd.R_slice HO932.out; subst eo11) | ((with_reducible refine gate_callee (f := 129) rfl ?_); refine goesL_ (some 15) rfl rfl Tryd.func129 (by kernel_rfl) rfl #[.pointer (some ⟨g, 0, none⟩), .slice Ao11 y930.length co11] rfl ma ?_; (with_reducible refine (spec_l1Pick.calls g s0_0 t928 t929 _ _ y930 t933 t934 t935 w0 _ ?side1 ?side2 ?side3 ?side4 ?side5 A6.out).mono ?_); (case side1 => repeat (first | (with_reducible first | exact HI0.out | apply IsS161.alloc | apply IsS161.drewN | apply IsS161.drew | apply IsS161.set_1 | apply IsS161.set_2) | exact HI0.out)); (case side2 => repeat (first | (with_reducible first | exact HB.out | apply below_alloc | apply pw_below_drewN | apply below_drew1 | refine below_set ?_ (IsS161.ge HI0.out)) | exact HB.out)); (case side3 => exact rc HO932); (case side4 => exact (Kd.R_reads' HO932.out).2.1); (case side5 => exact far_slice (IsS161.own_ne HI0.out HO932.out (by decide))); rintro e w12 ⟨rfl, hi, hb, hk⟩; refine ⟨_, rfl, ?_⟩; replace HO_3 := am (Kd.R_mono (Kd.R_keep (IsS161.apart (show IsS161 w0 _ g s0_0 t928 t929 from by repeat (first | (with_reducible first | exact HI0.out | apply IsS161.alloc | apply IsS161.drewN | apply IsS161.drew | apply IsS161.set_1 | apply IsS161.set_2) | exact HI0.out)) (ro HO_3) (by decide)) hk (fun _ h => h.2)) (fun _ h => h.1)); replace HO932 := am (Kd.R_mono (Kd.R_keep (IsS161.apart (show IsS161 w0 _ g s0_0 t928 t929 from by repeat (first | (with_reducible first | exact HI0.out | apply IsS161.alloc | apply IsS161.drewN | apply IsS161.drew | apply IsS161.set_1 | apply IsS161.set_2) | exact HI0.out)) (ro HO932) (by decide)) hk (fun _ h => h.2)) (fun _ h => h.1)); replace HK := am (KeepBut.trans (by repeat (first | (with_reducible first | exact HK.out | apply KeepBut.set_ | apply keep_drewN | apply keep_drew | apply keep_alloc) | exact HK.out)) hk (.inl rfl)); replace HB := am (hb); replace HI0 := am (hi); (try clear hb); (try clear hb2); (try clear hk); (try clear hi)) | ((with_reducible refine gate_builtin (b := .append) (xs := #[.tmp 12, .tmp 16]) rfl ?_); at_builtin; refine Kd.R_append Kd.string w.heap.size rfl (.tmp 12) (.tmp 16) 24 9 (.string ⟨#[]⟩) 16 rfl Tryd.underlying24 info9 rfl (by decide) (by omega) u3 x3_1 t933 [.string t933] (fun k_ => some k_ ≠ (.slice Ao11 y930.length co11 : Value).ownBlock) (fun _ => False) rfl rfl ?aP (fun _ hk => hk.elim) ?aF ?aO (Below.refl _ _) ?aS ?aL ?_; (case aP => exact rfl); (case aF => exact (fun k_ hk => Kd.fresh' (Kd.R_lt (ro HO932)) k_ hk)); (case aO => exact (by (with_reducible repeat (first | apply Kd.R_alloc | apply Kd.R_drewN | apply Kd.R_drew)); exact Kd.R_mono HO_3.out (fun _ hk => hk.2))); (case aS => exact (keep_size (w := w) (g := g) (row := none) (by repeat (first | (with_reducible first | exact HK.out | apply KeepBut.set_ | apply keep_drewN | apply keep_drew | apply keep_alloc) | exact HK.out)))); (case aL => have := LMc7.out; omega); intro v937 w13 ho hb hg hat; rw [← Ny936.out] at ho; have n0_ := am (IsS161.grown (by repeat (first | (with_reducible first | exact HI0.out | apply IsS161.alloc | apply IsS161.drewN | apply IsS161.drew | apply IsS161.set_1 | apply IsS161.set_2) | exact HI0.out)) hg (IsS161.own_ne HI0.out HO_3.out (by decide))); have n1_ := am (Kd.R_after (ok := (fun _ => True)) (ro HO932) hg hat); have n2_ := am (below_weaken (by repeat (first | (with_reducible first | exact HB.out | apply below_alloc | apply pw_below_drewN | apply below_drew1 | refine below_set ?_ (IsS161.ge HI0.out)) | exact HB.out)) HL.out hb); have n3_ := am (KeepBut.trans (by repeat (first | (with_reducible first | exact HK.out | apply KeepBut.set_ | apply keep_drewN | apply keep_drew | apply keep_alloc) | exact HK.out)) (KeepBut.of_grown hg g) (Kd.R_base2 HO_3.out)); have n4_ := am (ho); clear HI0; clear HO932; clear HB; clear HK; clear HO_3; have HI0 := n0_; have HO932 := n1_; have HB := n2_; have HK := n3_; have HO938 := n4_; clear n0_ n1_ n2_ n3_ n4_; clear ho hb hg hat))
     go_roundg k1
     case measure => have := HK1.out; omega
     case rel => exact ⟨(y936), (wrap64 (x4_1 + 1)), (t934), (t935), rs, H', ⟨by have := HK1.out; omega⟩, ⟨by (with_reducible repeat (first | apply Kd.R_alloc | apply Kd.R_drewN | apply Kd.R_drew)); exact Kd.R_mono HO938.out (fun _ hk => trivial)⟩, ⟨by repeat (first | (with_reducible first | exact HI0.out | apply IsS161.alloc | apply IsS161.drewN | apply IsS161.drew | apply IsS161.set_1 | apply IsS161.set_2) | exact HI0.out)⟩, ⟨by repeat (first | (with_reducible first | exact HK.out | apply KeepBut.set_ | apply keep_drewN | apply keep_drew | apply keep_alloc) | exact HK.out)⟩, ⟨by repeat (first | (with_reducible first | exact HB.out | apply below_alloc | apply pw_below_drewN | apply below_drew1 | refine below_set ?_ (IsS161.ge HI0.out)) | exact HB.out)⟩⟩
    ·rw [if_neg c7] at H
     exact absurd H (by simp)
   ·rw [if_neg c5] at H
    have c5b0 : decide (x4_1 < t927) = false := decide_eq_false c5
    clear c5
    simp only [Option.some.injEq, Prod.mk.injEq] at H
    obtain ⟨rfl, rfl, rfl⟩ := H
    go_wp2_with (first | ((with_reducible refine gate_callee (f := 166) rfl ?_); refine goesL_ (some 8) rfl rfl Tryd.func166 (by kernel_rfl) rfl #[.pointer (some ⟨g, 0, none⟩), .int .i64 4] rfl ma ?_; (with_reducible refine (spec_l1Below.calls g s0_0 x1001_1 x1002_1 4 t927 t928 t929 w0 _ ?side1 ?side2 A4.out).mono ?_); (case side1 => repeat (first | (with_reducible first | exact HI0.out | apply IsS161.alloc | apply IsS161.drewN | apply IsS161.drew | apply IsS161.set_1 | apply IsS161.set_2) | exact HI0.out)); (case side2 => repeat (first | (with_reducible first | exact HB.out | apply below_alloc | apply pw_below_drewN | apply below_drew1 | refine below_set ?_ (IsS161.ge HI0.out)) | exact HB.out)); rintro e w14 ⟨rfl, hi, hb, hk⟩; refine ⟨_, rfl, ?_⟩; replace HO_3 := am (Kd.R_mono (Kd.R_keep (IsS161.apart (show IsS161 w0 _ g s0_0 x1001_1 x1002_1 from by repeat (first | (with_reducible first | exact HI0.out | apply IsS161.alloc | apply IsS161.drewN | apply IsS161.drew | apply IsS161.set_1 | apply IsS161.set_2) | exact HI0.out)) (ro HO_3) (by decide)) hk (fun _ h => h.2)) (fun _ h => h.1)); replace HK := am (KeepBut.trans (by repeat (first | (with_reducible first | exact HK.out | apply KeepBut.set_ | apply keep_drewN | apply keep_drew | apply keep_alloc) | exact HK.out)) hk (.inl rfl)); replace HB := am (hb); replace HI0 := am (hi); (try clear hb); (try clear hb2); (try clear hk); (try clear hi)))
    go_ret
    exact ⟨_, rf, by (with_reducible repeat (first | apply Kd.R_alloc | apply Kd.R_drewN | apply Kd.R_drew)); exact HO_3.out, by repeat (first | (with_reducible first | exact HI0.out | apply IsS161.alloc | apply IsS161.drewN | apply IsS161.drew | apply IsS161.set_1 | apply IsS161.set_2) | exact HI0.out), by repeat (first | (with_reducible first | exact HB.out | apply below_alloc | apply pw_below_drewN | apply below_drew1 | refine below_set ?_ (IsS161.ge HI0.out)) | exact HB.out), by repeat (first | (with_reducible first | exact HK.out | apply KeepBut.set_ | apply keep_drewN | apply keep_drew | apply keep_alloc) | exact HK.out)⟩

/-! ### spec_DrawSuits: function 46 -/
def spec_DrawSuits.f (k : Nat) (l0 : List Int) : Option (List ByteArray × List ByteArray × (List (S114))) := (spec_l1New.f k l0).bind fun bt939 => ((spec_l8DrawNames.f k bt939.1 bt939.2.1 bt939.2.2).bind fun bt943 => ((spec_l2Draw.f k bt939.1 bt943.2.1 bt943.2.2).bind fun bt948 => ((spec_ValuesOf.f k bt943.1 bt948.1).bind fun t953 => ((spec_l1Once.f bt939.1 bt948.2.1 bt948.2.2 3).bind fun bt956 => (if bt956.1 = true then (if (t953.length : Int) > 0 then ((spec_l1Pick.f bt939.1 bt956.2.1 bt956.2.2 (([(⟨#[100, 101]⟩ : ByteArray), (⟨#[45]⟩ : ByteArray), (⟨#[113]⟩ : ByteArray)] : List ByteArray))).bind fun bt962 => (if 0 < (t953.length : Int) then (some (bt943.1, (t953.set (0 : Int).toNat bt962.1), bt948.1)) else (none))) else (some (bt943.1, t953, bt948.1))) else (some (bt943.1, t953, bt948.1)))))))
theorem spec_DrawSuits.mono : ∀ a0 k, LeO (spec_DrawSuits.f k a0) (spec_DrawSuits.f (k + 1) a0) := by
 intro a0 k
 unfold spec_DrawSuits.f
 repeat' first
   | (with_reducible exact spec_ValuesOf.mono _ _ _)
   | (with_reducible exact spec_l1New.mono _ _)
   | (with_reducible exact spec_l2Draw.mono _ _ _ _)
   | (with_reducible exact spec_l8DrawNames.mono _ _ _ _)
   | (with_reducible exact LeO.refl _)
   | (with_reducible exact LeO.none _)
   | (with_reducible refine LeO.ite ?_ ?_)
   | (with_reducible refine LeO.bind ?_ (fun _ => ?_))
   | exact spec_ValuesOf.mono _ _ _
   | exact spec_l1New.mono _ _
   | exact spec_l2Draw.mono _ _ _ _
   | exact spec_l8DrawNames.mono _ _ _ _
   | exact LeO.none _
   | refine LeO.ite ?_ ?_
   | refine LeO.bind ?_ (fun _ => ?_)
set_option maxHeartbeats 8000000 in
set_option maxRecDepth 100000 in
theorem spec_DrawSuits.calls (k : Nat) (A0 : Option Addr) (c0 : Nat) (l0 : List Int) (r1 : List ByteArray) (r2 : List ByteArray) (r3 : List (S114)) (w : World) (hr0 : Kd.C (Kd.int .u8) w A0 l0.length l0) (hc0 : l0.length ≤ c0) (h : spec_DrawSuits.f k l0 = some (r1, r2, r3)) :
  Calls Tryd.prog 46 #[.slice A0 l0.length c0] w fun e w' => ∃ v0_ v1_ v2_ : Value, e = .returned (.tuple #[v0_, v1_, v2_]) ∧ Kd.R Kd.string 9 w' w.heap.size (fun k_ => some k_ ≠ (v1_ : Value).ownBlock) v0_ r1 ∧ Kd.R Kd.string 9 w' w.heap.size (fun k_ => some k_ ≠ (v0_ : Value).ownBlock) v1_ r2 ∧ Kd.R k114 114 w' w.heap.size (fun _ => True) v2_ r3 ∧ Below w.heap.size w w' := by
 have HR0 := am hr0
 have HC0 := am hc0
 clear hr0 hc0
 have HB := am (Below.refl w.heap.size w)
 have H : ((spec_l1New.f k l0).bind fun bt939 => ((spec_l8DrawNames.f k bt939.1 bt939.2.1 bt939.2.2).bind fun bt943 => ((spec_l2Draw.f k bt939.1 bt943.2.1 bt943.2.2).bind fun bt948 => ((spec_ValuesOf.f k bt943.1 bt948.1).bind fun t953 => ((spec_l1Once.f bt939.1 bt948.2.1 bt948.2.2 3).bind fun bt956 => (if bt956.1 = true then (if (t953.length : Int) > 0 then ((spec_l1Pick.f bt939.1 bt956.2.1 bt956.2.2 (([(⟨#[100, 101]⟩ : ByteArray), (⟨#[45]⟩ : ByteArray), (⟨#[113]⟩ : ByteArray)] : List ByteArray))).bind fun bt962 => (if 0 < (t953.length : Int) then (some (bt943.1, (t953.set (0 : Int).toNat bt962.1), bt948.1)) else (none))) else (some (bt943.1, t953, bt948.1))) else (some (bt943.1, t953, bt948.1)))))))) = some (r1, r2, r3) := h
 clear h
 replace H := ob H
 obtain ⟨⟨t939, t940, t941⟩, A20, H⟩ := H
 replace H : ((spec_l8DrawNames.f k t939 t940 t941).bind fun bt943 => ((spec_l2Draw.f k t939 bt943.2.1 bt943.2.2).bind fun bt948 => ((spec_ValuesOf.f k bt943.1 bt948.1).bind fun t953 => ((spec_l1Once.f t939 bt948.2.1 bt948.2.2 3).bind fun bt956 => (if bt956.1 = true then (if (t953.length : Int) > 0 then ((spec_l1Pick.f t939 bt956.2.1 bt956.2.2 (([(⟨#[100, 101]⟩ : ByteArray), (⟨#[45]⟩ : ByteArray), (⟨#[113]⟩ : ByteArray)] : List ByteArray))).bind fun bt962 => (if 0 < (t953.length : Int) then (some (bt943.1, (t953.set (0 : Int).toNat bt962.1), bt948.1)) else (none))) else (some (bt943.1, t953, bt948.1))) else (some (bt943.1, t953, bt948.1))))))) = some (r1, r2, r3) := H
 have A2 := am A20
 clear A20
 replace H := ob H
 obtain ⟨⟨t943, t946, t947⟩, A30, H⟩ := H
 replace H : ((spec_l2Draw.f k t939 t946 t947).bind fun bt948 => ((spec_ValuesOf.f k t943 bt948.1).bind fun t953 => ((spec_l1Once.f t939 bt948.2.1 bt948.2.2 3).bind fun bt956 => (if bt956.1 = true then (if (t953.length : Int) > 0 then ((spec_l1Pick.f t939 bt956.2.1 bt956.2.2 (([(⟨#[100, 101]⟩ : ByteArray), (⟨#[45]⟩ : ByteArray), (⟨#[113]⟩ : ByteArray)] : List ByteArray))).bind fun bt962 => (if 0 < (t953.length : Int) then (some (t943, (t953.set (0 : Int).toNat bt962.1), bt948.1)) else (none))) else (some (t943, t953, bt948.1))) else (some (t943, t953, bt948.1)))))) = some (r1, r2, r3) := H
 have A3 := am A30
 clear A30
 replace H := ob H
 obtain ⟨⟨t948, t951, t952⟩, A40, H⟩ := H
 replace H : ((spec_ValuesOf.f k t943 t948).bind fun t953 => ((spec_l1Once.f t939 t951 t952 3).bind fun bt956 => (if bt956.1 = true then (if (t953.length : Int) > 0 then ((spec_l1Pick.f t939 bt956.2.1 bt956.2.2 (([(⟨#[100, 101]⟩ : ByteArray), (⟨#[45]⟩ : ByteArray), (⟨#[113]⟩ : ByteArray)] : List ByteArray))).bind fun bt962 => (if 0 < (t953.length : Int) then (some (t943, (t953.set (0 : Int).toNat bt962.1), t948)) else (none))) else (some (t943, t953, t948))) else (some (t943, t953, t948))))) = some (r1, r2, r3) := H
 have A4 := am A40
 clear A40
 replace H := ob H
 obtain ⟨t953, A50, H⟩ := H
 replace H : ((spec_l1Once.f t939 t951 t952 3).bind fun bt956 => (if bt956.1 = true then (if (t953.length : Int) > 0 then ((spec_l1Pick.f t939 bt956.2.1 bt956.2.2 (([(⟨#[100, 101]⟩ : ByteArray), (⟨#[45]⟩ : ByteArray), (⟨#[113]⟩ : ByteArray)] : List ByteArray))).bind fun bt962 => (if 0 < (t953.length : Int) then (some (t943, (t953.set (0 : Int).toNat bt962.1), t948)) else (none))) else (some (t943, t953, t948))) else (some (t943, t953, t948)))) = some (r1, r2, r3) := H
 have A5 := am A50
 clear A50
 replace H := ob H
 obtain ⟨⟨t956, t957, t958⟩, A60, H⟩ := H
 replace H : (if t956 = true then (if (t953.length : Int) > 0 then ((spec_l1Pick.f t939 t957 t958 (([(⟨#[100, 101]⟩ : ByteArray), (⟨#[45]⟩ : ByteArray), (⟨#[113]⟩ : ByteArray)] : List ByteArray))).bind fun bt962 => (if 0 < (t953.length : Int) then (some (t943, (t953.set (0 : Int).toNat bt962.1), t948)) else (none))) else (some (t943, t953, t948))) else (some (t943, t953, t948))) = some (r1, r2, r3) := H
 have A6 := am A60
 clear A60
 by_cases c7 : t956 = true
 ·subst c7
  have H1 : (if (t953.length : Int) > 0 then ((spec_l1Pick.f t939 t957 t958 (([(⟨#[100, 101]⟩ : ByteArray), (⟨#[45]⟩ : ByteArray), (⟨#[113]⟩ : ByteArray)] : List ByteArray))).bind fun bt962 => (if 0 < (t953.length : Int) then (some (t943, (t953.set (0 : Int).toNat bt962.1), t948)) else (none))) else (some (t943, t953, t948))) = some (r1, r2, r3) := by rw [if_pos rfl] at H; exact H
  clear H
  have H := H1
  clear H1
  by_cases c8 : (t953.length : Int) > 0
  ·rw [if_pos c8] at H
   have c8b0 : decide (0 < (t953.length : Int)) = true := decide_eq_true c8
   have c8b1 : decide (0 < t953.length) = true := decide_eq_true (by omega)
   clear c8
   obtain ⟨y959, hy959⟩ : ∃ y_ : List ByteArray, y_ = (([(⟨#[100, 101]⟩ : ByteArray), (⟨#[45]⟩ : ByteArray), (⟨#[113]⟩ : ByteArray)] : List ByteArray)) := ⟨_, rfl⟩
   replace H : ((spec_l1Pick.f t939 t957 t958 y959).bind fun bt962 => (if 0 < (t953.length : Int) then (some (t943, (t953.set (0 : Int).toNat bt962.1), t948)) else (none))) = some (r1, r2, r3) := by first | (rw [hy959]; with_reducible exact H) | (have H2_ := (Option.bind_some _ _).symm.trans H; rw [hy959]; with_reducible exact H2_) | (have H2_ := (Option.bind_some _ _).symm.trans H; with_reducible exact H2_) | with_reducible exact H | (rw [hy959]; exact H) | exact H
   have Ny959 := am hy959
   clear hy959
   replace H := ob H
   obtain ⟨⟨t962, t963, t964⟩, A90, H⟩ := H
   replace H : (if 0 < (t953.length : Int) then (some (t943, (t953.set (0 : Int).toNat t962), t948)) else (none)) = some (r1, r2, r3) := H
   have A9 := am A90
   clear A90
   by_cases c10 : 0 < (t953.length : Int)
   ·rw [if_pos c10] at H
    have c10b0 : decide (0 < (t953.length : Int)) = true := decide_eq_true c10
    have c10b1 : decide (0 < t953.length) = true := decide_eq_true (by omega)
    clear c10
    obtain ⟨y965, hy965⟩ : ∃ y_ : List ByteArray, y_ = (t953.set (0 : Int).toNat t962) := ⟨_, rfl⟩
    replace H : (some (t943, y965, t948)) = some (r1, r2, r3) := by first | (rw [hy965]; with_reducible exact H) | (have H2_ := (Option.bind_some _ _).symm.trans H; rw [hy965]; with_reducible exact H2_) | (have H2_ := (Option.bind_some _ _).symm.trans H; with_reducible exact H2_) | with_reducible exact H | (rw [hy965]; exact H) | exact H
    have Ny965 := am hy965
    clear hy965
    simp only [Option.some.injEq, Prod.mk.injEq] at H
    obtain ⟨rfl, rfl, rfl⟩ := H
    go_enter Tryd.func46, Tryd.ntmps46
    go_wp2_with (first | ((with_reducible refine gate_callee (f := 108) rfl ?_); refine goesL_ (some 10) rfl rfl Tryd.func108 (by kernel_rfl) rfl #[.slice A0 l0.length c0] rfl ma ?_; (with_reducible refine (spec_l1New.calls k _ _ l0 t939 t940 t941 w _ ?side1 ?side2 ?side3 A2.out).mono ?_); (case side1 => repeat (first | (with_reducible first | exact HB.out | apply below_alloc | apply pw_below_drewN | apply below_drew1) | exact HB.out)); (case side2 => exact HR0.out); (case side3 => exact HC0.out); rintro e w12 ⟨g942, rfl, hi, hb, hb2⟩; refine ⟨_, rfl, ?_⟩; replace HB := am (hb); have HI942 := am (hi); (try clear hb); (try clear hb2); (try clear hk); (try clear hi)) | ((with_reducible refine gate_callee (f := 127) rfl ?_); refine goesL_ (some 12) rfl rfl Tryd.func127 (by kernel_rfl) rfl #[.pointer (some ⟨g942, 0, none⟩)] rfl ma ?_; (with_reducible refine (spec_l8DrawNames.calls k g942 t939 t940 t941 t943 t946 t947 w _ ?side1 ?side2 A3.out).mono ?_); (case side1 => repeat (first | (with_reducible first | exact HI942.out | apply IsS161.alloc | apply IsS161.drewN | apply IsS161.drew | apply IsS161.set_1 | apply IsS161.set_2) | exact HI942.out)); (case side2 => repeat (first | (with_reducible first | exact HB.out | apply below_alloc | apply pw_below_drewN | apply below_drew1 | refine below_set ?_ (IsS161.ge HI942.out)) | exact HB.out)); rintro e w13 ⟨v944, rfl, ho0, hi, hb, hk⟩; refine ⟨_, rfl, ?_⟩; have HO945 := am (Kd.R_lower ho0 (below_size (by repeat (first | (with_reducible first | exact HB.out | apply below_alloc | apply pw_below_drewN | apply below_drew1 | refine below_set ?_ (IsS161.ge HI942.out)) | exact HB.out)))); replace HB := am (hb); replace HI942 := am (hi); (try clear hb); (try clear hb2); (try clear hk); (try clear hi); (try clear ho0)) | ((with_reducible refine gate_callee (f := 128) rfl ?_); refine goesL_ (some 14) rfl rfl Tryd.func128 (by kernel_rfl) rfl #[.pointer (some ⟨g942, 0, none⟩)] rfl ma ?_; (with_reducible refine (spec_l2Draw.calls k g942 t939 t946 t947 t948 t951 t952 w _ ?side1 ?side2 A4.out).mono ?_); (case side1 => repeat (first | (with_reducible first | exact HI942.out | apply IsS161.alloc | apply IsS161.drewN | apply IsS161.drew | apply IsS161.set_1 | apply IsS161.set_2) | exact HI942.out)); (case side2 => repeat (first | (with_reducible first | exact HB.out | apply below_alloc | apply pw_below_drewN | apply below_drew1 | refine below_set ?_ (IsS161.ge HI942.out)) | exact HB.out)); rintro e w14 ⟨v949, rfl, ho0, hi, hb, hk⟩; refine ⟨_, rfl, ?_⟩; replace HO945 := am (Kd.R_mono (Kd.R_keep (IsS161.apart (show IsS161 w _ g942 t939 t946 t947 from by repeat (first | (with_reducible first | exact HI942.out | apply IsS161.alloc | apply IsS161.drewN | apply IsS161.drew | apply IsS161.set_1 | apply IsS161.set_2) | exact HI942.out)) (ro HO945) (by decide)) hk (fun _ h => h.2)) (fun _ h => h.1)); have HO950 := am (Kd.R_lower ho0 (below_size (by repeat (first | (with_reducible first | exact HB.out | apply below_alloc | apply pw_below_drewN | apply below_drew1 | refine below_set ?_ (IsS161.ge HI942.out)) | exact HB.out)))); replace HB := am (hb); replace HI942 := am (hi); (try clear hb); (try clear hb2); (try clear hk); (try clear hi); (try clear ho0); obtain ⟨Ao15, co15, eo15⟩ := Kd.R_slice HO945.out; subst eo15; obtain ⟨Ao16, co16, eo16⟩ := Kd.R_slice HO950.out; subst eo16) | ((with_reducible refine gate_callee (f := 53) rfl ?_); refine goesL_ (some 17) rfl rfl Tryd.func53 (by kernel_rfl) rfl #[.slice Ao15 t943.length co15, .slice Ao16 t948.length co16] rfl ma ?_; (with_reducible refine (spec_ValuesOf.calls k _ _ t943 _ _ t948 t953 _ ?side1 ?side2 ?side3 ?side4 A5.out).mono ?_); (case side1 => exact rc HO945); (case side2 => exact (Kd.R_reads' HO945.out).2.1); (case side3 => exact rc HO950); (case side4 => exact (Kd.R_reads' HO950.out).2.1); rintro e w17 ⟨v954, rfl, ho0, hb⟩; refine ⟨_, rfl, ?_⟩; replace HO950 := kr HO950 hb; have HO955 := am (Kd.R_lower (Kd.R_new' ho0 (Kd.R_lt (ro HO945))) (below_size (by repeat (first | (with_reducible first | exact HB.out | apply below_alloc | apply pw_below_drewN | apply below_drew1 | refine below_set ?_ (IsS161.ge HI942.out)) | exact HB.out)))); replace HO945 := am (Kd.R_elder' (ro HO945) (Kd.R_base ho0) hb); replace HB := am (below_step (by repeat (first | (with_reducible first | exact HB.out | apply below_alloc | apply pw_below_drewN | apply below_drew1 | refine below_set ?_ (IsS161.ge HI942.out)) | exact HB.out)) hb); replace HI942 := am (IsS161.below (by repeat (first | (with_reducible first | exact HI942.out | apply IsS161.alloc | apply IsS161.drewN | apply IsS161.drew | apply IsS161.set_1 | apply IsS161.set_2) | exact HI942.out)) hb); (try clear hb); (try clear hb2); (try clear hk); (try clear hi); (try clear ho0)) | ((with_reducible refine gate_callee (f := 109) rfl ?_); refine goesL_ (some 19) rfl rfl Tryd.func109 (by kernel_rfl) rfl #[.pointer (some ⟨g942, 0, none⟩), .int .i64 3] rfl ma ?_; (with_reducible refine (spec_l1Once.calls g942 t939 t951 t952 3 true t957 t958 w _ ?side1 ?side2 A6.out).mono ?_); (case side1 => repeat (first | (with_reducible first | exact HI942.out | apply IsS161.alloc | apply IsS161.drewN | apply IsS161.drew | apply IsS161.set_1 | apply IsS161.set_2) | exact HI942.out)); (case side2 => repeat (first | (with_reducible first | exact HB.out | apply below_alloc | apply pw_below_drewN | apply below_drew1 | refine below_set ?_ (IsS161.ge HI942.out)) | exact HB.out)); rintro e w18 ⟨rfl, hi, hb, hk⟩; refine ⟨_, rfl, ?_⟩; replace HO945 := am (Kd.R_mono (Kd.R_keep (IsS161.apart (show IsS161 w _ g942 t939 t951 t952 from by repeat (first | (with_reducible first | exact HI942.out | apply IsS161.alloc | apply IsS161.drewN | apply IsS161.drew | apply IsS161.set_1 | apply IsS161.set_2) | exact HI942.out)) (ro HO945) (by decide)) hk (fun _ h => h.2)) (fun _ h => h.1)); replace HO950 := am (Kd.R_mono (Kd.R_keep (IsS161.apart (show IsS161 w _ g942 t939 t951 t952 from by repeat (first | (with_reducible first | exact HI942.out | apply IsS161.alloc | apply IsS161.drewN | apply IsS161.drew | apply IsS161.set_1 | apply IsS161.set_2) | exact HI942.out)) (ro HO950) (by decide)) hk (fun _ h => h.2)) (fun _ h => h.1)); replace HO955 := am (Kd.R_mono (Kd.R_keep (IsS161.apart (show IsS161 w _ g942 t939 t951 t952 from by repeat (first | (with_reducible first | exact HI942.out | apply IsS161.alloc | apply IsS161.drewN | apply IsS161.drew | apply IsS161.set_1 | apply IsS161.set_2) | exact HI942.out)) (ro HO955) (by decide)) hk (fun _ h => h.2)) (fun _ h => h.1)); replace HB := am (hb); replace HI942 := am (hi); (try clear hb); (try clear hb2); (try clear hk); (try clear hi); obtain ⟨Ao19, co19, eo19⟩ := Kd.R_slice HO955.out; subst eo19) | ((with_reducible refine gate_dst (N := 27) rfl ?_); (try (refine gate_guard (by rfl) ?_; dsimp only)); refine Kd.R_lit Kd.string _ 9 ?hg (N := 27) ?hd (xs := ([(⟨#[100, 101]⟩ : ByteArray), (⟨#[45]⟩ : ByteArray), (⟨#[113]⟩ : ByteArray)] : List ByteArray)) (inner := [.string (⟨#[100, 101]⟩ : ByteArray), .string (⟨#[45]⟩ : ByteArray), .string (⟨#[113]⟩ : ByteArray)]) (ok := fun _ => True) (okp := fun _ => True) ?hr ?hp (fun _ hk => hk) trivial (Below.refl _ _) (Nat.le_refl _) (by simp) ?_; (case hd => rfl); (case hg => rfl); (case hr => first | (go_simp; done) | (go_simp; rfl)); (case hp => exact (Reps.one (show Kd.M Kd.string _ _ _ (⟨#[100, 101]⟩ : ByteArray) [.string (⟨#[100, 101]⟩ : ByteArray)] from rfl) (Reps.one (show Kd.M Kd.string _ _ _ (⟨#[45]⟩ : ByteArray) [.string (⟨#[45]⟩ : ByteArray)] from rfl) (Reps.one (show Kd.M Kd.string _ _ _ (⟨#[113]⟩ : ByteArray) [.string (⟨#[113]⟩ : ByteArray)] from rfl) (Reps.none _ _))))); intro v960 w20 ho21 hb hg_ hnew_; clear hg_ hnew_; (first | rw [← Ny959.out] at ho21 | (simp only [Int.reduceToNat] at ho21; rw [← Ny959.out] at ho21)); replace HO950 := kr HO950 hb; have HO961 := am (Kd.R_lower (Kd.R_new' (Kd.R_new' ho21 (Kd.R_lt (ro HO945))) (Kd.R_lt (ro HO955))) (below_size (by repeat (first | (with_reducible first | exact HB.out | apply below_alloc | apply pw_below_drewN | apply below_drew1 | refine below_set ?_ (IsS161.ge HI942.out)) | exact HB.out)))); replace HO945 := am (Kd.R_elder' (ro HO945) (Kd.R_base ho21) hb); replace HO955 := am (Kd.R_elder' (ro HO955) (Kd.R_base ho21) hb); replace HB := am (below_step (by repeat (first | (with_reducible first | exact HB.out | apply below_alloc | apply pw_below_drewN | apply below_drew1 | refine below_set ?_ (IsS161.ge HI942.out)) | exact HB.out)) hb); replace HI942 := am (IsS161.below (by repeat (first | (with_reducible first | exact HI942.out | apply IsS161.alloc | apply IsS161.drewN | apply IsS161.drew | apply IsS161.set_1 | apply IsS161.set_2) | exact HI942.out)) hb); clear hb ho21; obtain ⟨Ao22, co22, eo22⟩ := Kd.R_slice HO961.out; subst eo22) | ((with_reducible refine gate_callee (f := 129) rfl ?_); refine goesL_ (some 28) rfl rfl Tryd.func129 (by kernel_rfl) rfl #[.pointer (some ⟨g942, 0, none⟩), .slice Ao22 y959.length co22] rfl ma ?_; (with_reducible refine (spec_l1Pick.calls g942 t939 t957 t958 _ _ y959 t962 t963 t964 w _ ?side1 ?side2 ?side3 ?side4 ?side5 A9.out).mono ?_); (case side1 => repeat (first | (with_reducible first | exact HI942.out | apply IsS161.alloc | apply IsS161.drewN | apply IsS161.drew | apply IsS161.set_1 | apply IsS161.set_2) | exact HI942.out)); (case side2 => repeat (first | (with_reducible first | exact HB.out | apply below_alloc | apply pw_below_drewN | apply below_drew1 | refine below_set ?_ (IsS161.ge HI942.out)) | exact HB.out)); (case side3 => exact rc HO961); (case side4 => exact (Kd.R_reads' HO961.out).2.1); (case side5 => exact far_slice (IsS161.own_ne HI942.out HO961.out (by decide))); rintro e w23 ⟨rfl, hi, hb, hk⟩; refine ⟨_, rfl, ?_⟩; replace HO945 := am (Kd.R_mono (Kd.R_keep (IsS161.apart (show IsS161 w _ g942 t939 t957 t958 from by repeat (first | (with_reducible first | exact HI942.out | apply IsS161.alloc | apply IsS161.drewN | apply IsS161.drew | apply IsS161.set_1 | apply IsS161.set_2) | exact HI942.out)) (ro HO945) (by decide)) hk (fun _ h => h.2)) (fun _ h => h.1)); replace HO950 := am (Kd.R_mono (Kd.R_keep (IsS161.apart (show IsS161 w _ g942 t939 t957 t958 from by repeat (first | (with_reducible first | exact HI942.out | apply IsS161.alloc | apply IsS161.drewN | apply IsS161.drew | apply IsS161.set_1 | apply IsS161.set_2) | exact HI942.out)) (ro HO950) (by decide)) hk (fun _ h => h.2)) (fun _ h => h.1)); replace HO955 := am (Kd.R_mono (Kd.R_keep (IsS161.apart (show IsS161 w _ g942 t939 t957 t958 from by repeat (first | (with_reducible first | exact HI942.out | apply IsS161.alloc | apply IsS161.drewN | apply IsS161.drew | apply IsS161.set_1 | apply IsS161.set_2) | exact HI942.out)) (ro HO955) (by decide)) hk (fun _ h => h.2)) (fun _ h => h.1)); replace HO961 := am (Kd.R_mono (Kd.R_keep (IsS161.apart (show IsS161 w _ g942 t939 t957 t958 from by repeat (first | (with_reducible first | exact HI942.out | apply IsS161.alloc | apply IsS161.drewN | apply IsS161.drew | apply IsS161.set_1 | apply IsS161.set_2) | exact HI942.out)) (ro HO961) (by decide)) hk (fun _ h => h.2)) (fun _ h => h.1)); replace HB := am (hb); replace HI942 := am (hi); (try clear hb); (try clear hb2); (try clear hk); (try clear hi); have p11 : 0 ≤ (0 : Int) := (by omega); have q11 : (0 : Int) < ((t953.length : Int) : Int) := od; have qi11 : (0 < t953.length) = True := eq_true (by omega); obtain ⟨go11, co11, eo11, gb11, gl11, cl11, HG11⟩ := Kd.R_form HO955.out (by omega); (first | cases eo11 | (injection eo11 with ea_ en_ ec_; (first | subst ea_ | (injection ea_ with ea_; subst ea_)); subst ec_; clear en_)); have GB11 := am gb11; have GG11 := am HG11; clear gb11 gl11 HG11; obtain ⟨hx11_0, hf11_0⟩ := Kd.R_celln (⟨#[]⟩ : ByteArray) HO955.out (0 : Int) p11 q11; (try rw [show ((0 : Int)).toNat = 0 from rfl] at hx11_0); (try simp only [Nat.reduceMul, Nat.zero_mul, Nat.zero_add, Nat.reduceAdd] at hx11_0); (try rw [show ((0 : Int)).toNat = 0 from rfl] at hf11_0); (try simp only [Nat.reduceMul, Nat.zero_mul, Nat.zero_add, Nat.reduceAdd] at hf11_0); replace p11 := eq_true p11; replace q11 := eq_true q11; have n_ := am (Kd.R_mono (ok' := (fun k_ => some k_ ≠ (.slice Ao15 t943.length co15 : Value).ownBlock ∧ some k_ ≠ (.slice Ao22 y959.length co22 : Value).ownBlock)) HO955.out (fun k_ hk => ⟨hk.1.2, hk.2⟩)); clear HO955; have HO955 := n_; clear n_; obtain ⟨hy24_, hz24_⟩ := Kd.R_celln (⟨#[]⟩ : ByteArray) HO955.out (0 : Int) (by omega) (od); (try simp only [Int.reduceToNat, Int.toNat_zero, Int.toNat_ofNat, Nat.reduceMul, Nat.zero_mul, Nat.zero_add] at hy24_ hz24_); (try rw [show ((0 : Int)).toNat = 0 from rfl] at hy24_); (try rw [show ((0 : Int)).toNat = 0 from rfl] at hz24_); have HP24 := Kd.R_putg HO955.out (0 : Int) t962) | ((with_reducible refine gate_store (t := 9) (p := 29) rfl ?_); refine store_event (t := 9) (p := 29) (v := ?vo_w25) (w1 := (w23.setCell ⟨go11, (0 : Int).toNat, none⟩ (.string t962))) ?hg ?ho ?hn ?hr ?_; (case ho => rfl); (case hg => rfl); (case hn => rfl); (case hr => first | (go_simp; done) | (go_simp; rfl)); intro w25 hw; have hg : w23.grownBy w25 (some go11) := (by rw [hw]; exact HP24.2); have hp_ : Kd.R Kd.string 9 w25 w.heap.size (fun k_ => some k_ ≠ (.slice Ao15 t943.length co15 : Value).ownBlock ∧ some k_ ≠ (.slice Ao22 y959.length co22 : Value).ownBlock) (.slice (some ⟨go11, 0, none⟩) t953.length co19) y965 := (by rw [hw, Ny965.out]; exact HP24.1); clear HP24; have n0_ := am (IsS161.grown (by repeat (first | (with_reducible first | exact HI942.out | apply IsS161.alloc | apply IsS161.drewN | apply IsS161.drew | apply IsS161.set_1 | apply IsS161.set_2) | exact HI942.out)) hg (IsS161.own_ne HI942.out HO955.out (by decide))); have n1_ := am (Kd.R_after (v := (.slice (some ⟨go11, 0, none⟩) t953.length co19)) (v1 := (.slice (some ⟨go11, 0, none⟩) t953.length co19)) (ok := (fun k_ => some k_ ≠ (.slice Ao22 y959.length co22 : Value).ownBlock)) (by (with_reducible repeat (first | apply Kd.R_alloc | apply Kd.R_drewN | apply Kd.R_drew)); exact Kd.R_mono HO945.out (fun _ hk => ⟨hk.2, hk.1.2⟩)) hg (.inl rfl)); have n2_ := am (Kd.R_over' (v := (.slice (some ⟨go11, 0, none⟩) t953.length co19)) (ro HO950) (Kd.R_typed HO955.out) (by decide) hg); have n3_ := am (hp_); have n4_ := am (Kd.R_after (v := (.slice (some ⟨go11, 0, none⟩) t953.length co19)) (v1 := (.slice (some ⟨go11, 0, none⟩) t953.length co19)) (ok := (fun k_ => some k_ ≠ (.slice Ao15 t943.length co15 : Value).ownBlock)) (by (with_reducible repeat (first | apply Kd.R_alloc | apply Kd.R_drewN | apply Kd.R_drew)); exact Kd.R_mono HO961.out (fun _ hk => ⟨hk.1.2, hk.2⟩)) hg (.inl rfl)); have n5_ := am ((by rw [hw]; exact below_set (HB.out) GB11.out : Below w.heap.size w w25)); clear HI942; clear HO945; clear HO950; clear HO955; clear HO961; clear HB; have HI942 := n0_; have HO945 := n1_; have HO950 := n2_; have HO955 := n3_; have HO961 := n4_; have HB := n5_; clear n0_ n1_ n2_ n3_ n4_ n5_; clear hg hw hp_))
    go_ret3
    exact ⟨_, _, _, rf, by (with_reducible repeat (first | apply Kd.R_alloc | apply Kd.R_drewN | apply Kd.R_drew)); exact Kd.R_mono HO945.out (fun _ hk => hk.2), by (with_reducible repeat (first | apply Kd.R_alloc | apply Kd.R_drewN | apply Kd.R_drew)); exact Kd.R_mono HO955.out (fun _ hk => hk.1), by (with_reducible repeat (first | apply Kd.R_alloc | apply Kd.R_drewN | apply Kd.R_drew)); exact HO950.out, by repeat (first | (with_reducible first | exact HB.out | apply below_alloc | apply pw_below_drewN | apply below_drew1 | refine below_set ?_ (IsS161.ge HI942.out)) | exact HB.out)⟩
   ·rw [if_neg c10] at H
    exact absurd H (by simp)
  ·rw [if_neg c8] at H
   have c8b0 : decide (0 < (t953.length : Int)) = false := decide_eq_false c8
   have c8b1 : decide (0 < t953.length) = false := decide_eq_false (by omega)
   clear c8
   simp only [Option.some.injEq, Prod.mk.injEq] at H
   obtain ⟨rfl, rfl, rfl⟩ := H
   go_enter Tryd.func46, Tryd.ntmps46
   go_wp2_with (first | ((with_reducible refine gate_callee (f := 108) rfl ?_); refine goesL_ (some 10) rfl rfl Tryd.func108 (by kernel_rfl) rfl #[.slice A0 l0.length c0] rfl ma ?_; (with_reducible refine (spec_l1New.calls k _ _ l0 t939 t940 t941 w _ ?side1 ?side2 ?side3 A2.out).mono ?_); (case side1 => repeat (first | (with_reducible first | exact HB.out | apply below_alloc | apply pw_below_drewN | apply below_drew1) | exact HB.out)); (case side2 => exact HR0.out); (case side3 => exact HC0.out); rintro e w26 ⟨g942, rfl, hi, hb, hb2⟩; refine ⟨_, rfl, ?_⟩; replace HB := am (hb); have HI942 := am (hi); (try clear hb); (try clear hb2); (try clear hk); (try clear hi)) | ((with_reducible refine gate_callee (f := 127) rfl ?_); refine goesL_ (some 12) rfl rfl Tryd.func127 (by kernel_rfl) rfl #[.pointer (some ⟨g942, 0, none⟩)] rfl ma ?_; (with_reducible refine (spec_l8DrawNames.calls k g942 t939 t940 t941 t943 t946 t947 w _ ?side1 ?side2 A3.out).mono ?_); (case side1 => repeat (first | (with_reducible first | exact HI942.out | apply IsS161.alloc | apply IsS161.drewN | apply IsS161.drew | apply IsS161.set_1 | apply IsS161.set_2) | exact HI942.out)); (case side2 => repeat (first | (with_reducible first | exact HB.out | apply below_alloc | apply pw_below_drewN | apply below_drew1 | refine below_set ?_ (IsS161.ge HI942.out)) | exact HB.out)); rintro e w27 ⟨v944, rfl, ho0, hi, hb, hk⟩; refine ⟨_, rfl, ?_⟩; have HO945 := am (Kd.R_lower ho0 (below_size (by repeat (first | (with_reducible first | exact HB.out | apply below_alloc | apply pw_below_drewN | apply below_drew1 | refine below_set ?_ (IsS161.ge HI942.out)) | exact HB.out)))); replace HB := am (hb); replace HI942 := am (hi); (try clear hb); (try clear hb2); (try clear hk); (try clear hi); (try clear ho0)) | ((with_reducible refine gate_callee (f := 128) rfl ?_); refine goesL_ (some 14) rfl rfl Tryd.func128 (by kernel_rfl) rfl #[.pointer (some ⟨g942, 0, none⟩)] rfl ma ?_; (with_reducible refine (spec_l2Draw.calls k g942 t939 t946 t947 t948 t951 t952 w _ ?side1 ?side2 A4.out).mono ?_); (case side1 => repeat (first | (with_reducible first | exact HI942.out | apply IsS161.alloc | apply IsS161.drewN | apply IsS161.drew | apply IsS161.set_1 | apply IsS161.set_2) | exact HI942.out)); (case side2 => repeat (first | (with_reducible first | exact HB.out | apply below_alloc | apply pw_below_drewN | apply below_drew1 | refine below_set ?_ (IsS161.ge HI942.out)) | exact HB.out)); rintro e w28 ⟨v949, rfl, ho0, hi, hb, hk⟩; refine ⟨_, rfl, ?_⟩; replace HO945 := am (Kd.R_mono (Kd.R_keep (IsS161.apart (show IsS161 w _ g942 t939 t946 t947 from by repeat (first | (with_reducible first | exact HI942.out | apply IsS161.alloc | apply IsS161.drewN | apply IsS161.drew | apply IsS161.set_1 | apply IsS161.set_2) | exact HI942.out)) (ro HO945) (by decide)) hk (fun _ h => h.2)) (fun _ h => h.1)); have HO950 := am (Kd.R_lower ho0 (below_size (by repeat (first | (with_reducible first | exact HB.out | apply below_alloc | apply pw_below_drewN | apply below_drew1 | refine below_set ?_ (IsS161.ge HI942.out)) | exact HB.out)))); replace HB := am (hb); replace HI942 := am (hi); (try clear hb); (try clear hb2); (try clear hk); (try clear hi); (try clear ho0); obtain ⟨Ao29, co29, eo29⟩ := Kd.R_slice HO945.out; subst eo29; obtain ⟨Ao30, co30, eo30⟩ := Kd.R_slice HO950.out; subst eo30) | ((with_reducible refine gate_callee (f := 53) rfl ?_); refine goesL_ (some 17) rfl rfl Tryd.func53 (by kernel_rfl) rfl #[.slice Ao29 t943.length co29, .slice Ao30 t948.length co30] rfl ma ?_; (with_reducible refine (spec_ValuesOf.calls k _ _ t943 _ _ t948 t953 _ ?side1 ?side2 ?side3 ?side4 A5.out).mono ?_); (case side1 => exact rc HO945); (case side2 => exact (Kd.R_reads' HO945.out).2.1); (case side3 => exact rc HO950); (case side4 => exact (Kd.R_reads' HO950.out).2.1); rintro e w31 ⟨v954, rfl, ho0, hb⟩; refine ⟨_, rfl, ?_⟩; replace HO950 := kr HO950 hb; have HO955 := am (Kd.R_lower (Kd.R_new' ho0 (Kd.R_lt (ro HO945))) (below_size (by repeat (first | (with_reducible first | exact HB.out | apply below_alloc | apply pw_below_drewN | apply below_drew1 | refine below_set ?_ (IsS161.ge HI942.out)) | exact HB.out)))); replace HO945 := am (Kd.R_elder' (ro HO945) (Kd.R_base ho0) hb); replace HB := am (below_step (by repeat (first | (with_reducible first | exact HB.out | apply below_alloc | apply pw_below_drewN | apply below_drew1 | refine below_set ?_ (IsS161.ge HI942.out)) | exact HB.out)) hb); replace HI942 := am (IsS161.below (by repeat (first | (with_reducible first | exact HI942.out | apply IsS161.alloc | apply IsS161.drewN | apply IsS161.drew | apply IsS161.set_1 | apply IsS161.set_2) | exact HI942.out)) hb); (try clear hb); (try clear hb2); (try clear hk); (try clear hi); (try clear ho0)) | ((with_reducible refine gate_callee (f := 109) rfl ?_); refine goesL_ (some 19) rfl rfl Tryd.func109 (by kernel_rfl) rfl #[.pointer (some ⟨g942, 0, none⟩), .int .i64 3] rfl ma ?_; (with_reducible refine (spec_l1Once.calls g942 t939 t951 t952 3 true t957 t958 w _ ?side1 ?side2 A6.out).mono ?_); (case side1 => repeat (first | (with_reducible first | exact HI942.out | apply IsS161.alloc | apply IsS161.drewN | apply IsS161.drew | apply IsS161.set_1 | apply IsS161.set_2) | exact HI942.out)); (case side2 => repeat (first | (with_reducible first | exact HB.out | apply below_alloc | apply pw_below_drewN | apply below_drew1 | refine below_set ?_ (IsS161.ge HI942.out)) | exact HB.out)); rintro e w32 ⟨rfl, hi, hb, hk⟩; refine ⟨_, rfl, ?_⟩; replace HO945 := am (Kd.R_mono (Kd.R_keep (IsS161.apart (show IsS161 w _ g942 t939 t951 t952 from by repeat (first | (with_reducible first | exact HI942.out | apply IsS161.alloc | apply IsS161.drewN | apply IsS161.drew | apply IsS161.set_1 | apply IsS161.set_2) | exact HI942.out)) (ro HO945) (by decide)) hk (fun _ h => h.2)) (fun _ h => h.1)); replace HO950 := am (Kd.R_mono (Kd.R_keep (IsS161.apart (show IsS161 w _ g942 t939 t951 t952 from by repeat (first | (with_reducible first | exact HI942.out | apply IsS161.alloc | apply IsS161.drewN | apply IsS161.drew | apply IsS161.set_1 | apply IsS161.set_2) | exact HI942.out)) (ro HO950) (by decide)) hk (fun _ h => h.2)) (fun _ h => h.1)); replace HO955 := am (Kd.R_mono (Kd.R_keep (IsS161.apart (show IsS161 w _ g942 t939 t951 t952 from by repeat (first | (with_reducible first | exact HI942.out | apply IsS161.alloc | apply IsS161.drewN | apply IsS161.drew | apply IsS161.set_1 | apply IsS161.set_2) | exact HI942.out)) (ro HO955) (by decide)) hk (fun _ h => h.2)) (fun _ h => h.1)); replace HB := am (hb); replace HI942 := am (hi); (try clear hb); (try clear hb2); (try clear hk); (try clear hi); obtain ⟨Ao33, co33, eo33⟩ := Kd.R_slice HO955.out; subst eo33))
   go_ret3
   exact ⟨_, _, _, rf, by (with_reducible repeat (first | apply Kd.R_alloc | apply Kd.R_drewN | apply Kd.R_drew)); exact Kd.R_mono HO945.out (fun _ hk => hk.2), by (with_reducible repeat (first | apply Kd.R_alloc | apply Kd.R_drewN | apply Kd.R_drew)); exact Kd.R_mono HO955.out (fun _ hk => hk.2), by (with_reducible repeat (first | apply Kd.R_alloc | apply Kd.R_drewN | apply Kd.R_drew)); exact HO950.out, by repeat (first | (with_reducible first | exact HB.out | apply below_alloc | apply pw_below_drewN | apply below_drew1 | refine below_set ?_ (IsS161.ge HI942.out)) | exact HB.out)⟩
 ·replace c7 := Bool.eq_false_iff.mpr c7
  subst c7
  have H1 : (some (t943, t953, t948)) = some (r1, r2, r3) := by rw [if_neg (show ¬ (false = true) by decide)] at H; exact H
  clear H
  have H := H1
  clear H1
  simp only [Option.some.injEq, Prod.mk.injEq] at H
  obtain ⟨rfl, rfl, rfl⟩ := H
  go_enter Tryd.func46, Tryd.ntmps46
  go_wp2_with (first | ((with_reducible refine gate_callee (f := 108) rfl ?_); refine goesL_ (some 10) rfl rfl Tryd.func108 (by kernel_rfl) rfl #[.slice A0 l0.length c0] rfl ma ?_; (with_reducible refine (spec_l1New.calls k _ _ l0 t939 t940 t941 w _ ?side1 ?side2 ?side3 A2.out).mono ?_); (case side1 => repeat (first | (with_reducible first | exact HB.out | apply below_alloc | apply pw_below_drewN | apply below_drew1) | exact HB.out)); (case side2 => exact HR0.out); (case side3 => exact HC0.out); rintro e w34 ⟨g942, rfl, hi, hb, hb2⟩; refine ⟨_, rfl, ?_⟩; replace HB := am (hb); have HI942 := am (hi); (try clear hb); (try clear hb2); (try clear hk); (try clear hi)) | ((with_reducible refine gate_callee (f := 127) rfl ?_); refine goesL_ (some 12) rfl rfl Tryd.func127 (by kernel_rfl) rfl #[.pointer (some ⟨g942, 0, none⟩)] rfl ma ?_; (with_reducible refine (spec_l8DrawNames.calls k g942 t939 t940 t941 t943 t946 t947 w _ ?side1 ?side2 A3.out).mono ?_); (case side1 => repeat (first | (with_reducible first | exact HI942.out | apply IsS161.alloc | apply IsS161.drewN | apply IsS161.drew | apply IsS161.set_1 | apply IsS161.set_2) | exact HI942.out)); (case side2 => repeat (first | (with_reducible first | exact HB.out | apply below_alloc | apply pw_below_drewN | apply below_drew1 | refine below_set ?_ (IsS161.ge HI942.out)) | exact HB.out)); rintro e w35 ⟨v944, rfl, ho0, hi, hb, hk⟩; refine ⟨_, rfl, ?_⟩; have HO945 := am (Kd.R_lower ho0 (below_size (by repeat (first | (with_reducible first | exact HB.out | apply below_alloc | apply pw_below_drewN | apply below_drew1 | refine below_set ?_ (IsS161.ge HI942.out)) | exact HB.out)))); replace HB := am (hb); replace HI942 := am (hi); (try clear hb); (try clear hb2); (try clear hk); (try clear hi); (try clear ho0)) | ((with_reducible refine gate_callee (f := 128) rfl ?_); refine goesL_ (some 14) rfl rfl Tryd.func128 (by kernel_rfl) rfl #[.pointer (some ⟨g942, 0, none⟩)] rfl ma ?_; (with_reducible refine (spec_l2Draw.calls k g942 t939 t946 t947 t948 t951 t952 w _ ?side1 ?side2 A4.out).mono ?_); (case side1 => repeat (first | (with_reducible first | exact HI942.out | apply IsS161.alloc | apply IsS161.drewN | apply IsS161.drew | apply IsS161.set_1 | apply IsS161.set_2) | exact HI942.out)); (case side2 => repeat (first | (with_reducible first | exact HB.out | apply below_alloc | apply pw_below_drewN | apply below_drew1 | refine below_set ?_ (IsS161.ge HI942.out)) | exact HB.out)); rintro e w36 ⟨v949, rfl, ho0, hi, hb, hk⟩; refine ⟨_, rfl, ?_⟩; replace HO945 := am (Kd.R_mono (Kd.R_keep (IsS161.apart (show IsS161 w _ g942 t939 t946 t947 from by repeat (first | (with_reducible first | exact HI942.out | apply IsS161.alloc | apply IsS161.drewN | apply IsS161.drew | apply IsS161.set_1 | apply IsS161.set_2) | exact HI942.out)) (ro HO945) (by decide)) hk (fun _ h => h.2)) (fun _ h => h.1)); have HO950 := am (Kd.R_lower ho0 (below_size (by repeat (first | (with_reducible first | exact HB.out | apply below_alloc | apply pw_below_drewN | apply below_drew1 | refine below_set ?_ (IsS161.ge HI942.out)) | exact HB.out)))); replace HB := am (hb); replace HI942 := am (hi); (try clear hb); (try clear hb2); (try clear hk); (try clear hi); (try clear ho0); obtain ⟨Ao37, co37, eo37⟩ := Kd.R_slice HO945.out; subst eo37; obtain ⟨Ao38, co38, eo38⟩ := Kd.R_slice HO950.out; subst eo38) | ((with_reducible refine gate_callee (f := 53) rfl ?_); refine goesL_ (some 17) rfl rfl Tryd.func53 (by kernel_rfl) rfl #[.slice Ao37 t943.length co37, .slice Ao38 t948.length co38] rfl ma ?_; (with_reducible refine (spec_ValuesOf.calls k _ _ t943 _ _ t948 t953 _ ?side1 ?side2 ?side3 ?side4 A5.out).mono ?_); (case side1 => exact rc HO945); (case side2 => exact (Kd.R_reads' HO945.out).2.1); (case side3 => exact rc HO950); (case side4 => exact (Kd.R_reads' HO950.out).2.1); rintro e w39 ⟨v954, rfl, ho0, hb⟩; refine ⟨_, rfl, ?_⟩; replace HO950 := kr HO950 hb; have HO955 := am (Kd.R_lower (Kd.R_new' ho0 (Kd.R_lt (ro HO945))) (below_size (by repeat (first | (with_reducible first | exact HB.out | apply below_alloc | apply pw_below_drewN | apply below_drew1 | refine below_set ?_ (IsS161.ge HI942.out)) | exact HB.out)))); replace HO945 := am (Kd.R_elder' (ro HO945) (Kd.R_base ho0) hb); replace HB := am (below_step (by repeat (first | (with_reducible first | exact HB.out | apply below_alloc | apply pw_below_drewN | apply below_drew1 | refine below_set ?_ (IsS161.ge HI942.out)) | exact HB.out)) hb); replace HI942 := am (IsS161.below (by repeat (first | (with_reducible first | exact HI942.out | apply IsS161.alloc | apply IsS161.drewN | apply IsS161.drew | apply IsS161.set_1 | apply IsS161.set_2) | exact HI942.out)) hb); (try clear hb); (try clear hb2); (try clear hk); (try clear hi); (try clear ho0)) | ((with_reducible refine gate_callee (f := 109) rfl ?_); refine goesL_ (some 19) rfl rfl Tryd.func109 (by kernel_rfl) rfl #[.pointer (some ⟨g942, 0, none⟩), .int .i64 3] rfl ma ?_; (with_reducible refine (spec_l1Once.calls g942 t939 t951 t952 3 false t957 t958 w _ ?side1 ?side2 A6.out).mono ?_); (case side1 => repeat (first | (with_reducible first | exact HI942.out | apply IsS161.alloc | apply IsS161.drewN | apply IsS161.drew | apply IsS161.set_1 | apply IsS161.set_2) | exact HI942.out)); (case side2 => repeat (first | (with_reducible first | exact HB.out | apply below_alloc | apply pw_below_drewN | apply below_drew1 | refine below_set ?_ (IsS161.ge HI942.out)) | exact HB.out)); rintro e w40 ⟨rfl, hi, hb, hk⟩; refine ⟨_, rfl, ?_⟩; replace HO945 := am (Kd.R_mono (Kd.R_keep (IsS161.apart (show IsS161 w _ g942 t939 t951 t952 from by repeat (first | (with_reducible first | exact HI942.out | apply IsS161.alloc | apply IsS161.drewN | apply IsS161.drew | apply IsS161.set_1 | apply IsS161.set_2) | exact HI942.out)) (ro HO945) (by decide)) hk (fun _ h => h.2)) (fun _ h => h.1)); replace HO950 := am (Kd.R_mono (Kd.R_keep (IsS161.apart (show IsS161 w _ g942 t939 t951 t952 from by repeat (first | (with_reducible first | exact HI942.out | apply IsS161.alloc | apply IsS161.drewN | apply IsS161.drew | apply IsS161.set_1 | apply IsS161.set_2) | exact HI942.out)) (ro HO950) (by decide)) hk (fun _ h => h.2)) (fun _ h => h.1)); replace HO955 := am (Kd.R_mono (Kd.R_keep (IsS161.apart (show IsS161 w _ g942 t939 t951 t952 from by repeat (first | (with_reducible first | exact HI942.out | apply IsS161.alloc | apply IsS161.drewN | apply IsS161.drew | apply IsS161.set_1 | apply IsS161.set_2) | exact HI942.out)) (ro HO955) (by decide)) hk (fun _ h => h.2)) (fun _ h => h.1)); replace HB := am (hb); replace HI942 := am (hi); (try clear hb); (try clear hb2); (try clear hk); (try clear hi)))
  go_ret3
  exact ⟨_, _, _, rf, by (with_reducible repeat (first | apply Kd.R_alloc | apply Kd.R_drewN | apply Kd.R_drew)); exact Kd.R_mono HO945.out (fun _ hk => hk.2), by (with_reducible repeat (first | apply Kd.R_alloc | apply Kd.R_drewN | apply Kd.R_drew)); exact Kd.R_mono HO955.out (fun _ hk => hk.2), by (with_reducible repeat (first | apply Kd.R_alloc | apply Kd.R_drewN | apply Kd.R_drew)); exact HO950.out, by repeat (first | (with_reducible first | exact HB.out | apply below_alloc | apply pw_below_drewN | apply below_drew1 | refine below_set ?_ (IsS161.ge HI942.out)) | exact HB.out)⟩

/-! ### impl_ValuesOf: function 49 -/
def impl_ValuesOf.l0 : Nat → List (S114) → List ByteArray → List ByteArray → Int → Int → Option (List ByteArray)
 | 0, _, _, _, _, _ => none
 | k + 1, x1, x5, x10, x11, x12 => if x12 < x11 then (if 0 ≤ x12 then (if x12 < (x10.length : Int) then ((impl_Get.f x1 (rdOf ByteArray.empty x10 x12)).bind fun bt967 => (if bt967.2 = true then (if x5.length < 8796093022208 then (impl_ValuesOf.l0 k x1 (x5 ++ [bt967.1]) x10 x11 (wrap64 (x12 + 1))) else (none)) else (if x5.length < 8796093022208 then (impl_ValuesOf.l0 k x1 (x5 ++ [(⟨#[45]⟩ : ByteArray)]) x10 x11 (wrap64 (x12 + 1))) else (none)))) else (none)) else (none)) else (some x5)
def impl_ValuesOf.f (k : Nat) (l0 : List ByteArray) (l1 : List (S114)) : Option (List ByteArray) := impl_ValuesOf.l0 k l1 ([] : List ByteArray) l0 (l0.length : Int) 0
theorem impl_ValuesOf.mono_l : ∀ k, (∀ y0 y1 y2 y3 y4, LeO (impl_ValuesOf.l0 k y0 y1 y2 y3 y4) (impl_ValuesOf.l0 (k + 1) y0 y1 y2 y3 y4))
 | 0 => fun _ _ _ _ _ r h => by simp [impl_ValuesOf.l0] at h
 | k + 1 => by
  have ih0 := impl_ValuesOf.mono_l k
  ·intro y0 y1 y2 y3 y4
   unfold impl_ValuesOf.l0
   repeat' first
   | (with_reducible exact ih0 _ _ _ _ _)
   | (with_reducible exact LeO.refl _)
   | (with_reducible exact LeO.none _)
   | (with_reducible refine LeO.ite ?_ ?_)
   | (with_reducible refine LeO.bind ?_ (fun _ => ?_))
   | exact ih0 _ _ _ _ _
   | exact LeO.none _
   | refine LeO.ite ?_ ?_
   | refine LeO.bind ?_ (fun _ => ?_)
theorem impl_ValuesOf.mono : ∀ a0 a1 k, LeO (impl_ValuesOf.f k a0 a1) (impl_ValuesOf.f (k + 1) a0 a1) := by
 intro a0 a1 k
 have ih0 := impl_ValuesOf.mono_l k
 unfold impl_ValuesOf.f
 repeat' first
   | (with_reducible exact ih0 _ _ _ _ _)
   | (with_reducible exact LeO.refl _)
   | (with_reducible exact LeO.none _)
   | (with_reducible refine LeO.ite ?_ ?_)
   | (with_reducible refine LeO.bind ?_ (fun _ => ?_))
   | exact ih0 _ _ _ _ _
   | exact LeO.none _
   | refine LeO.ite ?_ ?_
   | refine LeO.bind ?_ (fun _ => ?_)
set_option maxHeartbeats 8000000 in
set_option maxRecDepth 100000 in
theorem impl_ValuesOf.calls (k : Nat) (A0 : Option Addr) (c0 : Nat) (l0 : List ByteArray) (A1 : Option Addr) (c1 : Nat) (l1 : List (S114)) (r : List ByteArray) (w : World) (hr0 : Kd.C Kd.string w A0 l0.length l0) (hc0 : l0.length ≤ c0) (hr1 : Kd.C k114 w A1 l1.length l1) (hc1 : l1.length ≤ c1) (h : impl_ValuesOf.f k l0 l1 = some r) :
  Calls Tryd.prog 49 #[.slice A0 l0.length c0, .slice A1 l1.length c1] w fun e w' => ∃ v0_ : Value, e = .returned (v0_) ∧ Kd.R Kd.string 9 w' w.heap.size (fun _ => True) v0_ r ∧ Below w.heap.size w w' := by
 have HR0 := am hr0
 have HC0 := am hc0
 clear hr0 hc0
 have HR1 := am hr1
 have HC1 := am hc1
 clear hr1 hc1
 have HB := am (Below.refl w.heap.size w)
 have H : (impl_ValuesOf.l0 k l1 ([] : List ByteArray) l0 (l0.length : Int) 0) = some r := h
 clear h
 have H' := am H
 clear H
 go_enter Tryd.func49, Tryd.ntmps49
 go_wp2
 (try simp only [Act.put, List.setIfInBounds_toArray, List.set_cons_zero, List.set_cons_succ])
 go_loopg [5, 12] k (fun kq v5 v12 w' => ∃ (x5_1 : List ByteArray) (x12_1 : Int), v12 = .int .i64 x12_1 ∧ Aside0 (impl_ValuesOf.l0 kq l1 x5_1 l0 (l0.length : Int) x12_1 = some r) ∧ Aside0 (kq ≤ k) ∧ Aside0 (Kd.R Kd.string 9 w' w.heap.size (fun _ => True) v5 x5_1) ∧ Aside0 (Below w.heap.size w w'))
 case atStart => exact ⟨(([] : List ByteArray)), (0), rs, H', ⟨Nat.le_refl _⟩, ⟨by first | exact Kd.R_nil _ _ _ _ _ | exact Kd.N_nil _ _ _ _ _ | exact Kd.V_nil _ _ _ _ _ | exact Kd.Q_nil _ _ _ _ _ | exact Kd.S_nil _ _ _ _ _⟩, ⟨by repeat (first | (with_reducible first | exact HB.out | apply below_alloc | apply pw_below_drewN | apply below_drew1) | exact HB.out)⟩⟩
 case round =>
  clear H'
  try clear c1
  try clear p2
  obtain ⟨x5_1, x12_1, rfl, HA, HK1, HO_5, HB⟩ := hrel
  cases gk with
  | zero => exact absurd HA.out (by simp [impl_ValuesOf.l0])
  | succ k1 =>
   have H := HA.out
   clear HA
   simp only [impl_ValuesOf.l0] at H
   by_cases c3 : x12_1 < (l0.length : Int)
   ·rw [if_pos c3] at H
    have c3b0 : decide (x12_1 < (l0.length : Int)) = true := decide_eq_true c3
    clear c3
    by_cases c4 : 0 ≤ x12_1
    ·rw [if_pos c4] at H
     have c4b0 : decide (0 ≤ x12_1) = true := decide_eq_true c4
     clear c4
     by_cases c5 : x12_1 < (l0.length : Int)
     ·rw [if_pos c5] at H
      have c5b0 : decide (x12_1 < (l0.length : Int)) = true := decide_eq_true c5
      clear c5
      replace H := ob H
      obtain ⟨⟨t967, t968⟩, A60, H⟩ := H
      replace H : (if t968 = true then (if x5_1.length < 8796093022208 then (impl_ValuesOf.l0 k1 l1 (x5_1 ++ [t967]) l0 (l0.length : Int) (wrap64 (x12_1 + 1))) else (none)) else (if x5_1.length < 8796093022208 then (impl_ValuesOf.l0 k1 l1 (x5_1 ++ [(⟨#[45]⟩ : ByteArray)]) l0 (l0.length : Int) (wrap64 (x12_1 + 1))) else (none))) = some r := H
      have A6 := am A60
      clear A60
      by_cases c7 : t968 = true
      ·subst c7
       have H1 : (if x5_1.length < 8796093022208 then (impl_ValuesOf.l0 k1 l1 (x5_1 ++ [t967]) l0 (l0.length : Int) (wrap64 (x12_1 + 1))) else (none)) = some r := by rw [if_pos rfl] at H; exact H
       clear H
       have H := H1
       clear H1
       by_cases c8 : x5_1.length < 8796093022208
       ·rw [if_pos c8] at H
        have LMc8 := am c8
        clear c8
        obtain ⟨y969, hy969⟩ : ∃ y_ : List ByteArray, y_ = (x5_1 ++ [t967]) := ⟨_, rfl⟩
        replace H : (impl_ValuesOf.l0 k1 l1 y969 l0 (l0.length : Int) (wrap64 (x12_1 + 1))) = some r := by first | (rw [hy969]; with_reducible exact H) | (have H2_ := (Option.bind_some _ _).symm.trans H; rw [hy969]; with_reducible exact H2_) | (have H2_ := (Option.bind_some _ _).symm.trans H; with_reducible exact H2_) | with_reducible exact H | (rw [hy969]; exact H) | exact H
        have Ny969 := am hy969
        clear hy969
        have H' := am H
        clear H
        have p966 : 0 ≤ (x12_1 : Int) := od
        have q966 : x12_1 < (l0.length : Int) := od
        obtain ⟨ad966, e966, hx966_0⟩ := Kd.at_string HR0.out x12_1 p966 q966
        cases e966
        replace hx966_0 := hcw hx966_0
        replace p966 := eq_true p966
        replace q966 := eq_true q966
        go_wp2_with (first | ((with_reducible refine gate_callee (f := 39) rfl ?_); refine goesL_ (some 19) rfl rfl Tryd.func39 (by kernel_rfl) rfl #[.slice A1 l1.length c1, .string (rdOf ByteArray.empty l0 x12_1)] rfl ma ?_; (with_reducible refine (impl_Get.calls _ _ l1 (rdOf ByteArray.empty l0 x12_1) t967 true _ ?side1 ?side2 A6.out).mono ?_); (case side1 => exact cb HR1); (case side2 => exact HC1.out); rintro e w9 ⟨rfl, hb⟩; refine ⟨_, rfl, ?_⟩; replace HO_5 := kr HO_5 hb; replace HB := am (below_step bl hb); (try clear hb); (try clear hb2); (try clear hk); (try clear hi)) | ((with_reducible refine gate_builtin (b := .append) (xs := #[.tmp 24, .tmp 26]) rfl ?_); at_builtin; refine Kd.R_append Kd.string (w0 := w) w.heap.size rfl (.tmp 24) (.tmp 26) 24 9 (.string ⟨#[]⟩) 16 rfl Tryd.underlying24 info9 rfl (by decide) (by omega) u5 x5_1 t967 [.string t967] (fun _ => True) (fun _ => False) rfl rfl ?aP (fun _ hk => hk.elim) ?aF ?aO ?aB ?aS ?aL ?_; (case aP => exact rfl); (case aB => exact bl); (case aF => exact (fun _ _ => trivial)); (case aO => exact (ro HO_5)); (case aS => exact (below_size bl)); (case aL => have := LMc8.out; omega); intro v970 w10 ho hb hg hat; rw [← Ny969.out] at ho; have n0_ := am (hb); have n1_ := am (ho); clear HB; clear HO_5; have HB := n0_; have HO971 := n1_; clear n0_ n1_; clear ho hb hg hat))
        go_roundg k1
        case measure => have := HK1.out; omega
        case rel => exact ⟨(y969), (wrap64 (x12_1 + 1)), rs, H', ⟨by have := HK1.out; omega⟩, ⟨by (with_reducible repeat (first | apply Kd.R_alloc | apply Kd.R_drewN | apply Kd.R_drew)); exact HO971.out⟩, ⟨by repeat (first | (with_reducible first | exact HB.out | apply below_alloc | apply pw_below_drewN | apply below_drew1) | exact HB.out)⟩⟩
       ·rw [if_neg c8] at H
        exact absurd H (by simp)
      ·replace c7 := Bool.eq_false_iff.mpr c7
       subst c7
       have H1 : (if x5_1.length < 8796093022208 then (impl_ValuesOf.l0 k1 l1 (x5_1 ++ [(⟨#[45]⟩ : ByteArray)]) l0 (l0.length : Int) (wrap64 (x12_1 + 1))) else (none)) = some r := by rw [if_neg (show ¬ (false = true) by decide)] at H; exact H
       clear H
       have H := H1
       clear H1
       by_cases c11 : x5_1.length < 8796093022208
       ·rw [if_pos c11] at H
        have LMc11 := am c11
        clear c11
        obtain ⟨y972, hy972⟩ : ∃ y_ : List ByteArray, y_ = (x5_1 ++ [(⟨#[45]⟩ : ByteArray)]) := ⟨_, rfl⟩
        replace H : (impl_ValuesOf.l0 k1 l1 y972 l0 (l0.length : Int) (wrap64 (x12_1 + 1))) = some r := by first | (rw [hy972]; with_reducible exact H) | (have H2_ := (Option.bind_some _ _).symm.trans H; rw [hy972]; with_reducible exact H2_) | (have H2_ := (Option.bind_some _ _).symm.trans H; with_reducible exact H2_) | with_reducible exact H | (rw [hy972]; exact H) | exact H
        have Ny972 := am hy972
        clear hy972
        have H' := am H
        clear H
        have p966 : 0 ≤ (x12_1 : Int) := od
        have q966 : x12_1 < (l0.length : Int) := od
        obtain ⟨ad966, e966, hx966_0⟩ := Kd.at_string HR0.out x12_1 p966 q966
        cases e966
        replace hx966_0 := hcw hx966_0
        replace p966 := eq_true p966
        replace q966 := eq_true q966
        go_wp2_with (first | ((with_reducible refine gate_callee (f := 39) rfl ?_); refine goesL_ (some 19) rfl rfl Tryd.func39 (by kernel_rfl) rfl #[.slice A1 l1.length c1, .string (rdOf ByteArray.empty l0 x12_1)] rfl ma ?_; (with_reducible refine (impl_Get.calls _ _ l1 (rdOf ByteArray.empty l0 x12_1) t967 false _ ?side1 ?side2 A6.out).mono ?_); (case side1 => exact cb HR1); (case side2 => exact HC1.out); rintro e w12 ⟨rfl, hb⟩; refine ⟨_, rfl, ?_⟩; replace HO_5 := kr HO_5 hb; replace HB := am (below_step bl hb); (try clear hb); (try clear hb2); (try clear hk); (try clear hi)) | ((with_reducible refine gate_builtin (b := .append) (xs := #[.tmp 24, .tmp 26]) rfl ?_); at_builtin; refine Kd.R_append Kd.string (w0 := w) w.heap.size rfl (.tmp 24) (.tmp 26) 24 9 (.string ⟨#[]⟩) 16 rfl Tryd.underlying24 info9 rfl (by decide) (by omega) u5 x5_1 (⟨#[45]⟩ : ByteArray) [.string (⟨#[45]⟩ : ByteArray)] (fun _ => True) (fun _ => False) rfl rfl ?aP (fun _ hk => hk.elim) ?aF ?aO ?aB ?aS ?aL ?_; (case aP => exact rfl); (case aB => exact bl); (case aF => exact (fun _ _ => trivial)); (case aO => exact (ro HO_5)); (case aS => exact (below_size bl)); (case aL => have := LMc11.out; omega); intro v973 w13 ho hb hg hat; rw [← Ny972.out] at ho; have n0_ := am (hb); have n1_ := am (ho); clear HB; clear HO_5; have HB := n0_; have HO974 := n1_; clear n0_ n1_; clear ho hb hg hat))
        go_roundg k1
        case measure => have := HK1.out; omega
        case rel => exact ⟨(y972), (wrap64 (x12_1 + 1)), rs, H', ⟨by have := HK1.out; omega⟩, ⟨by (with_reducible repeat (first | apply Kd.R_alloc | apply Kd.R_drewN | apply Kd.R_drew)); exact HO974.out⟩, ⟨by repeat (first | (with_reducible first | exact HB.out | apply below_alloc | apply pw_below_drewN | apply below_drew1) | exact HB.out)⟩⟩
       ·rw [if_neg c11] at H
        exact absurd H (by simp)
     ·rw [if_neg c5] at H
      exact absurd H (by simp)
    ·rw [if_neg c4] at H
     exact absurd H (by simp)
   ·rw [if_neg c3] at H
    have c3b0 : decide (x12_1 < (l0.length : Int)) = false := decide_eq_false c3
    clear c3
    obtain rfl := Option.some.inj H
    go_wp2
    go_ret
    exact ⟨_, rf, by (with_reducible repeat (first | apply Kd.R_alloc | apply Kd.R_drewN | apply Kd.R_drew)); exact HO_5.out, bl⟩

end Go.Proofs.YtiinmfjbildclaaDoor.All
