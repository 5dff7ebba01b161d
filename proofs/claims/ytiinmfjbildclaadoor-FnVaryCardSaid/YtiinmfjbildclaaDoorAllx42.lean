-- Written by a program of this session (wip/tools/hprint.py) out of the translation. Lean checks it.
import Derived.Test.YtiinmfjbildclaaDoorAllx0
import Derived.Test.YtiinmfjbildclaaDoorAllx16
import Derived.Test.YtiinmfjbildclaaDoorAllx18
import Derived.Test.YtiinmfjbildclaaDoorAllx19
import Derived.Test.YtiinmfjbildclaaDoorAllx39
import Derived.Test.YtiinmfjbildclaaDoorAllx41
namespace Go.Proofs.YtiinmfjbildclaaDoor.All
open Go.RowKit Go.Proofs.YtiinmfjbildclaaDoorW.PrintWords Go.Proofs.YtiinmfjbildclaaDoorW.PrintLast Go.Proofs.YtiinmfjbildclaaDoorW.PrintMore
attribute [local go_sem] max2_int min2_int max_two min_two max_three min_three max_four min_four   -- for this text's walks alone
set_option linter.unusedVariables false
set_option linter.unusedSimpArgs false

/-! ### slices_Index_string_string: function 180 -/
def slices_Index_string_string.l0 : Nat → List ByteArray → ByteArray → Int → Int → Option (Int)
 | 0, _, _, _, _ => none
 | k + 1, x0, x1, x7, x8 => if x8 < x7 then (if 0 ≤ x8 then (if x8 < (x0.length : Int) then (if x1.toList = (rdOf ByteArray.empty x0 x8).toList then (some x8) else (slices_Index_string_string.l0 k x0 x1 x7 (wrap64 (x8 + 1)))) else (none)) else (none)) else (some (-1))
def slices_Index_string_string.f (k : Nat) (l0 : List ByteArray) (a1 : ByteArray) : Option (Int) := slices_Index_string_string.l0 k l0 a1 (l0.length : Int) 0
theorem slices_Index_string_string.mono_l : ∀ k, (∀ y0 y1 y2 y3, LeO (slices_Index_string_string.l0 k y0 y1 y2 y3) (slices_Index_string_string.l0 (k + 1) y0 y1 y2 y3))
 | 0 => fun _ _ _ _ r h => by simp [slices_Index_string_string.l0] at h
 | k + 1 => by
  have ih0 := slices_Index_string_string.mono_l k
  ·intro y0 y1 y2 y3
   unfold slices_Index_string_string.l0
   repeat' first
   | (with_reducible exact ih0 _ _ _ _)
   | (with_reducible exact LeO.refl _)
   | (with_reducible exact LeO.none _)
   | (with_reducible refine LeO.ite ?_ ?_)
   | (with_reducible refine LeO.bind ?_ (fun _ => ?_))
   | exact ih0 _ _ _ _
   | exact LeO.none _
   | refine LeO.ite ?_ ?_
   | refine LeO.bind ?_ (fun _ => ?_)
theorem slices_Index_string_string.mono : ∀ a0 a1 k, LeO (slices_Index_string_string.f k a0 a1) (slices_Index_string_string.f (k + 1) a0 a1) := by
 intro a0 a1 k
 have ih0 := slices_Index_string_string.mono_l k
 unfold slices_Index_string_string.f
 repeat' first
   | (with_reducible exact ih0 _ _ _ _)
   | (with_reducible exact LeO.refl _)
   | (with_reducible exact LeO.none _)
   | (with_reducible refine LeO.ite ?_ ?_)
   | (with_reducible refine LeO.bind ?_ (fun _ => ?_))
   | exact ih0 _ _ _ _
   | exact LeO.none _
   | refine LeO.ite ?_ ?_
   | refine LeO.bind ?_ (fun _ => ?_)
set_option maxHeartbeats 8000000 in
set_option maxRecDepth 100000 in
theorem slices_Index_string_string.calls (k : Nat) (A0 : Option Addr) (c0 : Nat) (l0 : List ByteArray) (a1 : ByteArray) (r : Int) (w : World) (hr0 : Kd.C Kd.string w A0 l0.length l0) (hc0 : l0.length ≤ c0) (h : slices_Index_string_string.f k l0 a1 = some r) :
  Calls Tryd.prog 180 #[.slice A0 l0.length c0, .string a1] w fun e w' => e = .returned (.int .i64 r) ∧ Drawn0 w w' := by
 have HR0 := am hr0
 have HC0 := am hc0
 clear hr0 hc0
 have H : (slices_Index_string_string.l0 k l0 a1 (l0.length : Int) 0) = some r := h
 clear h
 have H' := am H
 clear H
 go_enter Tryd.func180, Tryd.ntmps180
 go_wp2
 (try simp only [Act.put, List.setIfInBounds_toArray, List.set_cons_zero, List.set_cons_succ])
 go_loopg [8] k (fun kq v8 w' => ∃ (x8_1 : Int), v8 = .int .i64 x8_1 ∧ Aside0 (slices_Index_string_string.l0 kq l0 a1 (l0.length : Int) x8_1 = some r) ∧ Aside0 (kq ≤ k) ∧ Drawn0 w w')
 case atStart => exact ⟨(0), rs, H', ⟨Nat.le_refl _⟩, dr⟩
 case round =>
  clear H'
  try clear c1
  try clear p2
  obtain ⟨x8_1, rfl, HA, HK1, ⟨m1, rfl⟩⟩ := hrel
  cases gk with
  | zero => exact absurd HA.out (by simp [slices_Index_string_string.l0])
  | succ k1 =>
   have H := HA.out
   clear HA
   simp only [slices_Index_string_string.l0] at H
   by_cases c3 : x8_1 < (l0.length : Int)
   ·rw [if_pos c3] at H
    have c3b0 : decide (x8_1 < (l0.length : Int)) = true := decide_eq_true c3
    clear c3
    by_cases c4 : 0 ≤ x8_1
    ·rw [if_pos c4] at H
     have c4b0 : decide (0 ≤ x8_1) = true := decide_eq_true c4
     clear c4
     by_cases c5 : x8_1 < (l0.length : Int)
     ·rw [if_pos c5] at H
      have c5b0 : decide (x8_1 < (l0.length : Int)) = true := decide_eq_true c5
      clear c5
      by_cases c6 : a1.toList = (rdOf ByteArray.empty l0 x8_1).toList
      ·rw [if_pos c6] at H
       have c6b0 : (a1.toList == (rdOf ByteArray.empty l0 x8_1).toList) = true := beq_iff_eq.mpr c6
       have c6b1 : (a1.toList != (rdOf ByteArray.empty l0 x8_1).toList) = false := bne_eq_false_iff_eq.mpr c6
       clear c6
       obtain rfl := Option.some.inj H
       have p975 : 0 ≤ (x8_1 : Int) := od
       have q975 : x8_1 < (l0.length : Int) := od
       obtain ⟨ad975, e975, hx975_0⟩ := Kd.at_string HR0.out x8_1 p975 q975
       cases e975
       replace p975 := eq_true p975
       replace q975 := eq_true q975
       go_wp2
       go_ret
       exact ⟨rs, dr⟩
      ·rw [if_neg c6] at H
       have c6b0 : (a1.toList == (rdOf ByteArray.empty l0 x8_1).toList) = false := beq_eq_false_iff_ne.mpr c6
       have c6b1 : (a1.toList != (rdOf ByteArray.empty l0 x8_1).toList) = true := bne_iff_ne.mpr c6
       have H' := am H
       clear H
       have p975 : 0 ≤ (x8_1 : Int) := od
       have q975 : x8_1 < (l0.length : Int) := od
       obtain ⟨ad975, e975, hx975_0⟩ := Kd.at_string HR0.out x8_1 p975 q975
       cases e975
       replace p975 := eq_true p975
       replace q975 := eq_true q975
       go_wp2
       go_roundg k1
       case measure => have := HK1.out; omega
       case rel => exact ⟨(wrap64 (x8_1 + 1)), rs, H', ⟨by have := HK1.out; omega⟩, dr⟩
     ·rw [if_neg c5] at H
      exact absurd H (by simp)
    ·rw [if_neg c4] at H
     exact absurd H (by simp)
   ·rw [if_neg c3] at H
    have c3b0 : decide (x8_1 < (l0.length : Int)) = false := decide_eq_false c3
    clear c3
    obtain rfl := Option.some.inj H
    go_wp2
    go_ret
    exact ⟨rs, dr⟩

/-! ### slices_Contains_string_string: function 130 -/
def slices_Contains_string_string.f (k : Nat) (l0 : List ByteArray) (a1 : ByteArray) : Option (Bool) := (slices_Index_string_string.f k l0 a1).bind fun t976 => (some (decide (t976 ≥ 0)))
theorem slices_Contains_string_string.mono : ∀ a0 a1 k, LeO (slices_Contains_string_string.f k a0 a1) (slices_Contains_string_string.f (k + 1) a0 a1) := by
 intro a0 a1 k
 unfold slices_Contains_string_string.f
 repeat' first
   | (with_reducible exact slices_Index_string_string.mono _ _ _)
   | (with_reducible exact LeO.refl _)
   | (with_reducible exact LeO.none _)
   | (with_reducible refine LeO.ite ?_ ?_)
   | (with_reducible refine LeO.bind ?_ (fun _ => ?_))
   | exact slices_Index_string_string.mono _ _ _
   | exact LeO.none _
   | refine LeO.ite ?_ ?_
   | refine LeO.bind ?_ (fun _ => ?_)
set_option maxHeartbeats 8000000 in
set_option maxRecDepth 100000 in
theorem slices_Contains_string_string.calls (k : Nat) (A0 : Option Addr) (c0 : Nat) (l0 : List ByteArray) (a1 : ByteArray) (r : Bool) (w : World) (hr0 : Kd.C Kd.string w A0 l0.length l0) (hc0 : l0.length ≤ c0) (h : slices_Contains_string_string.f k l0 a1 = some r) :
  Calls Tryd.prog 130 #[.slice A0 l0.length c0, .string a1] w fun e w' => e = .returned (.bool r) ∧ Drawn0 w w' := by
 have HR0 := am hr0
 have HC0 := am hc0
 clear hr0 hc0
 have H : ((slices_Index_string_string.f k l0 a1).bind fun t976 => (some (decide (t976 ≥ 0)))) = some r := h
 clear h
 replace H := ob H
 obtain ⟨t976, A30, H⟩ := H
 replace H : (some (decide (t976 ≥ 0))) = some r := H
 have A3 := am A30
 clear A30
 obtain rfl := Option.some.inj H
 go_enter Tryd.func130, Tryd.ntmps130
 go_wp2_with (first | ((with_reducible refine gate_callee (f := 180) rfl ?_); refine goesL_ (some 7) rfl rfl Tryd.func180 (by kernel_rfl) rfl #[.slice A0 l0.length c0, .string a1] rfl ma ?_; (with_reducible refine (slices_Index_string_string.calls k _ _ l0 a1 t976 _ ?side1 ?side2 A3.out).mono ?_); (case side1 => exact cc HR0); (case side2 => exact HC0.out); rintro e w' ⟨rfl, ⟨nd, rfl⟩⟩; refine ⟨_, rfl, ?_⟩))
 go_ret
 exact ⟨rs, dr⟩

/-! ### impl_Suits: function 47 -/
def impl_Suits.f (k : Nat) (l0 : List ByteArray) (l1 : List ByteArray) (l2 : List (S114)) : Option (Bool) := (slices_Contains_string_string.f k l0 (⟨#[42]⟩ : ByteArray)).bind fun t979 => (if t979 = true then (some false) else ((impl_ValuesOf.f k l0 l2).bind fun t980 => ((slices_Equal_string_string.f k t980 l1).bind fun t983 => (some t983))))
theorem impl_Suits.mono : ∀ a0 a1 a2 k, LeO (impl_Suits.f k a0 a1 a2) (impl_Suits.f (k + 1) a0 a1 a2) := by
 intro a0 a1 a2 k
 unfold impl_Suits.f
 repeat' first
   | (with_reducible exact impl_ValuesOf.mono _ _ _)
   | (with_reducible exact slices_Contains_string_string.mono _ _ _)
   | (with_reducible exact slices_Equal_string_string.mono _ _ _)
   | (with_reducible exact LeO.refl _)
   | (with_reducible exact LeO.none _)
   | (with_reducible refine LeO.ite ?_ ?_)
   | (with_reducible refine LeO.bind ?_ (fun _ => ?_))
   | exact impl_ValuesOf.mono _ _ _
   | exact slices_Contains_string_string.mono _ _ _
   | exact slices_Equal_string_string.mono _ _ _
   | exact LeO.none _
   | refine LeO.ite ?_ ?_
   | refine LeO.bind ?_ (fun _ => ?_)
set_option maxHeartbeats 8000000 in
set_option maxRecDepth 100000 in
theorem impl_Suits.calls (k : Nat) (A0 : Option Addr) (c0 : Nat) (l0 : List ByteArray) (A1 : Option Addr) (c1 : Nat) (l1 : List ByteArray) (A2 : Option Addr) (c2 : Nat) (l2 : List (S114)) (r : Bool) (w : World) (hr0 : Kd.C Kd.string w A0 l0.length l0) (hc0 : l0.length ≤ c0) (hr1 : Kd.C Kd.string w A1 l1.length l1) (hc1 : l1.length ≤ c1) (hr2 : Kd.C k114 w A2 l2.length l2) (hc2 : l2.length ≤ c2) (h : impl_Suits.f k l0 l1 l2 = some r) :
  Calls Tryd.prog 47 #[.slice A0 l0.length c0, .slice A1 l1.length c1, .slice A2 l2.length c2] w fun e w' => e = .returned (.bool r) ∧ Below w.heap.size w w' := by
 have HR0 := am hr0
 have HC0 := am hc0
 clear hr0 hc0
 have HR1 := am hr1
 have HC1 := am hc1
 clear hr1 hc1
 have HR2 := am hr2
 have HC2 := am hc2
 clear hr2 hc2
 have HB := am (Below.refl w.heap.size w)
 have H : ((slices_Contains_string_string.f k l0 (⟨#[42]⟩ : ByteArray)).bind fun t979 => (if t979 = true then (some false) else ((impl_ValuesOf.f k l0 l2).bind fun t980 => ((slices_Equal_string_string.f k t980 l1).bind fun t983 => (some t983))))) = some r := h
 clear h
 replace H := ob H
 obtain ⟨t979, A40, H⟩ := H
 replace H : (if t979 = true then (some false) else ((impl_ValuesOf.f k l0 l2).bind fun t980 => ((slices_Equal_string_string.f k t980 l1).bind fun t983 => (some t983)))) = some r := H
 have A4 := am A40
 clear A40
 by_cases c5 : t979 = true
 ·subst c5
  have H1 : (some false) = some r := by rw [if_pos rfl] at H; exact H
  clear H
  have H := H1
  clear H1
  obtain rfl := Option.some.inj H
  go_enter Tryd.func47, Tryd.ntmps47
  go_wp2_with (first | ((with_reducible refine gate_callee (f := 130) rfl ?_); refine goesL_ (some 8) rfl rfl Tryd.func130 (by kernel_rfl) rfl #[.slice A0 l0.length c0, .string (⟨#[42]⟩ : ByteArray)] rfl ma ?_; (with_reducible refine (slices_Contains_string_string.calls k _ _ l0 (⟨#[42]⟩ : ByteArray) true _ ?side1 ?side2 A4.out).mono ?_); (case side1 => exact cc HR0); (case side2 => exact HC0.out); rintro e w' ⟨rfl, ⟨nd, rfl⟩⟩; refine ⟨_, rfl, ?_⟩))
  go_ret
  exact ⟨rf, bl⟩
 ·replace c5 := Bool.eq_false_iff.mpr c5
  subst c5
  have H1 : ((impl_ValuesOf.f k l0 l2).bind fun t980 => ((slices_Equal_string_string.f k t980 l1).bind fun t983 => (some t983))) = some r := by rw [if_neg (show ¬ (false = true) by decide)] at H; exact H
  clear H
  have H := H1
  clear H1
  replace H := ob H
  obtain ⟨t980, A60, H⟩ := H
  replace H : ((slices_Equal_string_string.f k t980 l1).bind fun t983 => (some t983)) = some r := H
  have A6 := am A60
  clear A60
  replace H := ob H
  obtain ⟨t983, A70, H⟩ := H
  replace H : (some t983) = some r := H
  have A7 := am A70
  clear A70
  obtain rfl := Option.some.inj H
  go_enter Tryd.func47, Tryd.ntmps47
  go_wp2_with (first | ((with_reducible refine gate_callee (f := 130) rfl ?_); refine goesL_ (some 8) rfl rfl Tryd.func130 (by kernel_rfl) rfl #[.slice A0 l0.length c0, .string (⟨#[42]⟩ : ByteArray)] rfl ma ?_; (with_reducible refine (slices_Contains_string_string.calls k _ _ l0 (⟨#[42]⟩ : ByteArray) false _ ?side1 ?side2 A4.out).mono ?_); (case side1 => exact cc HR0); (case side2 => exact HC0.out); rintro e w' ⟨rfl, ⟨nd, rfl⟩⟩; refine ⟨_, rfl, ?_⟩) | (go_at_call 49; (with_reducible refine (impl_ValuesOf.calls k _ _ l0 _ _ l2 t980 _ ?side1 ?side2 ?side3 ?side4 A6.out).mono ?_); (case side1 => exact cc HR0); (case side2 => exact HC0.out); (case side3 => exact cc HR2); (case side4 => exact HC2.out); rintro e w8 ⟨v981, rfl, ho0, hb⟩; have HO982 := am (Kd.R_lower ho0 (below_size bl)); replace HB := am (below_step bl hb); (try clear hb); (try clear hb2); (try clear hk); (try clear hi); (try clear ho0); obtain ⟨Ao9, co9, eo9⟩ := Kd.R_slice HO982.out; subst eo9) | (go_at_call 131; (with_reducible refine (slices_Equal_string_string.calls k _ _ t980 _ _ l1 t983 _ ?side1 ?side2 ?side3 ?side4 A7.out).mono ?_); (case side1 => exact rc HO982); (case side2 => exact (Kd.R_reads' HO982.out).2.1); (case side3 => exact cb HR1); (case side4 => exact HC1.out); rintro e w' ⟨rfl, ⟨nd, rfl⟩⟩))
  go_ret
  exact ⟨rf, bl⟩

/-! ### spec_l8Star: function 132 -/
def spec_l8Star.l0 : Nat → List ByteArray → Int → Option (Bool)
 | 0, _, _ => none
 | k + 1, x0, x3 => if x3 < (x0.length : Int) then (if 0 ≤ x3 then (if (rdOf ByteArray.empty x0 x3).toList = ([42] : List UInt8) then (some true) else (spec_l8Star.l0 k x0 (wrap64 (x3 + 1)))) else (none)) else (some false)
def spec_l8Star.f (k : Nat) (l0 : List ByteArray) : Option (Bool) := spec_l8Star.l0 k l0 0
theorem spec_l8Star.mono_l : ∀ k, (∀ y0 y1, LeO (spec_l8Star.l0 k y0 y1) (spec_l8Star.l0 (k + 1) y0 y1))
 | 0 => fun _ _ r h => by simp [spec_l8Star.l0] at h
 | k + 1 => by
  have ih0 := spec_l8Star.mono_l k
  ·intro y0 y1
   unfold spec_l8Star.l0
   repeat' first
   | (with_reducible exact ih0 _ _)
   | (with_reducible exact LeO.refl _)
   | (with_reducible exact LeO.none _)
   | (with_reducible refine LeO.ite ?_ ?_)
   | (with_reducible refine LeO.bind ?_ (fun _ => ?_))
   | exact ih0 _ _
   | exact LeO.none _
   | refine LeO.ite ?_ ?_
   | refine LeO.bind ?_ (fun _ => ?_)
theorem spec_l8Star.mono : ∀ a0 k, LeO (spec_l8Star.f k a0) (spec_l8Star.f (k + 1) a0) := by
 intro a0 k
 have ih0 := spec_l8Star.mono_l k
 unfold spec_l8Star.f
 repeat' first
   | (with_reducible exact ih0 _ _)
   | (with_reducible exact LeO.refl _)
   | (with_reducible exact LeO.none _)
   | (with_reducible refine LeO.ite ?_ ?_)
   | (with_reducible refine LeO.bind ?_ (fun _ => ?_))
   | exact ih0 _ _
   | exact LeO.none _
   | refine LeO.ite ?_ ?_
   | refine LeO.bind ?_ (fun _ => ?_)
set_option maxHeartbeats 8000000 in
set_option maxRecDepth 100000 in
theorem spec_l8Star.calls (k : Nat) (A0 : Option Addr) (c0 : Nat) (l0 : List ByteArray) (r : Bool) (w : World) (hr0 : Kd.C Kd.string w A0 l0.length l0) (hc0 : l0.length ≤ c0) (h : spec_l8Star.f k l0 = some r) :
  Calls Tryd.prog 132 #[.slice A0 l0.length c0] w fun e w' => e = .returned (.bool r) ∧ Drawn0 w w' := by
 have HR0 := am hr0
 have HC0 := am hc0
 clear hr0 hc0
 have H : (spec_l8Star.l0 k l0 0) = some r := h
 clear h
 have H' := am H
 clear H
 go_enter Tryd.func132, Tryd.ntmps132
 go_wp2
 (try simp only [Act.put, List.setIfInBounds_toArray, List.set_cons_zero, List.set_cons_succ])
 go_loopg [3] k (fun kq v3 w' => ∃ (x3_1 : Int), v3 = .int .i64 x3_1 ∧ Aside0 (spec_l8Star.l0 kq l0 x3_1 = some r) ∧ Aside0 (kq ≤ k) ∧ Drawn0 w w')
 case atStart => exact ⟨(0), rs, H', ⟨Nat.le_refl _⟩, dr⟩
 case round =>
  clear H'
  try clear c1
  obtain ⟨x3_1, rfl, HA, HK1, ⟨m1, rfl⟩⟩ := hrel
  cases gk with
  | zero => exact absurd HA.out (by simp [spec_l8Star.l0])
  | succ k1 =>
   have H := HA.out
   clear HA
   simp only [spec_l8Star.l0] at H
   by_cases c2 : x3_1 < (l0.length : Int)
   ·rw [if_pos c2] at H
    have c2b0 : decide (x3_1 < (l0.length : Int)) = true := decide_eq_true c2
    clear c2
    by_cases c3 : 0 ≤ x3_1
    ·rw [if_pos c3] at H
     have c3b0 : decide (0 ≤ x3_1) = true := decide_eq_true c3
     clear c3
     by_cases c4 : (rdOf ByteArray.empty l0 x3_1).toList = ([42] : List UInt8)
     ·rw [if_pos c4] at H
      have c4b0 : ((rdOf ByteArray.empty l0 x3_1).toList == ([42] : List UInt8)) = true := beq_iff_eq.mpr c4
      have c4b1 : ((rdOf ByteArray.empty l0 x3_1).toList != ([42] : List UInt8)) = false := bne_eq_false_iff_eq.mpr c4
      clear c4
      obtain rfl := Option.some.inj H
      have p984 : 0 ≤ (x3_1 : Int) := od
      have q984 : x3_1 < (l0.length : Int) := od
      obtain ⟨ad984, e984, hx984_0⟩ := Kd.at_string HR0.out x3_1 p984 q984
      cases e984
      replace p984 := eq_true p984
      replace q984 := eq_true q984
      go_wp2
      go_ret
      exact ⟨rs, dr⟩
     ·rw [if_neg c4] at H
      have c4b0 : ((rdOf ByteArray.empty l0 x3_1).toList == ([42] : List UInt8)) = false := beq_eq_false_iff_ne.mpr c4
      have c4b1 : ((rdOf ByteArray.empty l0 x3_1).toList != ([42] : List UInt8)) = true := bne_iff_ne.mpr c4
      have H' := am H
      clear H
      have p984 : 0 ≤ (x3_1 : Int) := od
      have q984 : x3_1 < (l0.length : Int) := od
      obtain ⟨ad984, e984, hx984_0⟩ := Kd.at_string HR0.out x3_1 p984 q984
      cases e984
      replace p984 := eq_true p984
      replace q984 := eq_true q984
      go_wp2
      go_roundg k1
      case measure => have := HK1.out; omega
      case rel => exact ⟨(wrap64 (x3_1 + 1)), rs, H', ⟨by have := HK1.out; omega⟩, dr⟩
    ·rw [if_neg c3] at H
     exact absurd H (by simp)
   ·rw [if_neg c2] at H
    have c2b0 : decide (x3_1 < (l0.length : Int)) = false := decide_eq_false c2
    clear c2
    obtain rfl := Option.some.inj H
    go_wp2
    go_ret
    exact ⟨rs, dr⟩

/-! ### spec_Suits: function 48 -/
def spec_Suits.f (k : Nat) (l0 : List ByteArray) (l1 : List ByteArray) (l2 : List (S114)) : Option (Bool) := (spec_l8Star.f k l0).bind fun t987 => (if t987 = true then (some false) else ((spec_ValuesOf.f k l0 l2).bind fun t988 => ((spec_l8Texts.f k t988 l1).bind fun t991 => (some t991))))
theorem spec_Suits.mono : ∀ a0 a1 a2 k, LeO (spec_Suits.f k a0 a1 a2) (spec_Suits.f (k + 1) a0 a1 a2) := by
 intro a0 a1 a2 k
 unfold spec_Suits.f
 repeat' first
   | (with_reducible exact spec_ValuesOf.mono _ _ _)
   | (with_reducible exact spec_l8Star.mono _ _)
   | (with_reducible exact spec_l8Texts.mono _ _ _)
   | (with_reducible exact LeO.refl _)
   | (with_reducible exact LeO.none _)
   | (with_reducible refine LeO.ite ?_ ?_)
   | (with_reducible refine LeO.bind ?_ (fun _ => ?_))
   | exact spec_ValuesOf.mono _ _ _
   | exact spec_l8Star.mono _ _
   | exact spec_l8Texts.mono _ _ _
   | exact LeO.none _
   | refine LeO.ite ?_ ?_
   | refine LeO.bind ?_ (fun _ => ?_)
set_option maxHeartbeats 8000000 in
set_option maxRecDepth 100000 in
theorem spec_Suits.calls (k : Nat) (A0 : Option Addr) (c0 : Nat) (l0 : List ByteArray) (A1 : Option Addr) (c1 : Nat) (l1 : List ByteArray) (A2 : Option Addr) (c2 : Nat) (l2 : List (S114)) (r : Bool) (w : World) (hr0 : Kd.C Kd.string w A0 l0.length l0) (hc0 : l0.length ≤ c0) (hr1 : Kd.C Kd.string w A1 l1.length l1) (hc1 : l1.length ≤ c1) (hr2 : Kd.C k114 w A2 l2.length l2) (hc2 : l2.length ≤ c2) (h : spec_Suits.f k l0 l1 l2 = some r) :
  Calls Tryd.prog 48 #[.slice A0 l0.length c0, .slice A1 l1.length c1, .slice A2 l2.length c2] w fun e w' => e = .returned (.bool r) ∧ Below w.heap.size w w' := by
 have HR0 := am hr0
 have HC0 := am hc0
 clear hr0 hc0
 have HR1 := am hr1
 have HC1 := am hc1
 clear hr1 hc1
 have HR2 := am hr2
 have HC2 := am hc2
 clear hr2 hc2
 have HB := am (Below.refl w.heap.size w)
 have H : ((spec_l8Star.f k l0).bind fun t987 => (if t987 = true then (some false) else ((spec_ValuesOf.f k l0 l2).bind fun t988 => ((spec_l8Texts.f k t988 l1).bind fun t991 => (some t991))))) = some r := h
 clear h
 replace H := ob H
 obtain ⟨t987, A40, H⟩ := H
 replace H : (if t987 = true then (some false) else ((spec_ValuesOf.f k l0 l2).bind fun t988 => ((spec_l8Texts.f k t988 l1).bind fun t991 => (some t991)))) = some r := H
 have A4 := am A40
 clear A40
 by_cases c5 : t987 = true
 ·subst c5
  have H1 : (some false) = some r := by rw [if_pos rfl] at H; exact H
  clear H
  have H := H1
  clear H1
  obtain rfl := Option.some.inj H
  go_enter Tryd.func48, Tryd.ntmps48
  go_wp2_with (first | ((with_reducible refine gate_callee (f := 132) rfl ?_); refine goesL_ (some 8) rfl rfl Tryd.func132 (by kernel_rfl) rfl #[.slice A0 l0.length c0] rfl ma ?_; (with_reducible refine (spec_l8Star.calls k _ _ l0 true _ ?side1 ?side2 A4.out).mono ?_); (case side1 => exact cc HR0); (case side2 => exact HC0.out); rintro e w' ⟨rfl, ⟨nd, rfl⟩⟩; refine ⟨_, rfl, ?_⟩))
  go_ret
  exact ⟨rf, bl⟩
 ·replace c5 := Bool.eq_false_iff.mpr c5
  subst c5
  have H1 : ((spec_ValuesOf.f k l0 l2).bind fun t988 => ((spec_l8Texts.f k t988 l1).bind fun t991 => (some t991))) = some r := by rw [if_neg (show ¬ (false = true) by decide)] at H; exact H
  clear H
  have H := H1
  clear H1
  replace H := ob H
  obtain ⟨t988, A60, H⟩ := H
  replace H : ((spec_l8Texts.f k t988 l1).bind fun t991 => (some t991)) = some r := H
  have A6 := am A60
  clear A60
  replace H := ob H
  obtain ⟨t991, A70, H⟩ := H
  replace H : (some t991) = some r := H
  have A7 := am A70
  clear A70
  obtain rfl := Option.some.inj H
  go_enter Tryd.func48, Tryd.ntmps48
  go_wp2_with (first | ((with_reducible refine gate_callee (f := 132) rfl ?_); refine goesL_ (some 8) rfl rfl Tryd.func132 (by kernel_rfl) rfl #[.slice A0 l0.length c0] rfl ma ?_; (with_reducible refine (spec_l8Star.calls k _ _ l0 false _ ?side1 ?side2 A4.out).mono ?_); (case side1 => exact cc HR0); (case side2 => exact HC0.out); rintro e w' ⟨rfl, ⟨nd, rfl⟩⟩; refine ⟨_, rfl, ?_⟩) | (go_at_call 53; (with_reducible refine (spec_ValuesOf.calls k _ _ l0 _ _ l2 t988 _ ?side1 ?side2 ?side3 ?side4 A6.out).mono ?_); (case side1 => exact cc HR0); (case side2 => exact HC0.out); (case side3 => exact cc HR2); (case side4 => exact HC2.out); rintro e w8 ⟨v989, rfl, ho0, hb⟩; have HO990 := am (Kd.R_lower ho0 (below_size bl)); replace HB := am (below_step bl hb); (try clear hb); (try clear hb2); (try clear hk); (try clear hi); (try clear ho0); obtain ⟨Ao9, co9, eo9⟩ := Kd.R_slice HO990.out; subst eo9) | (go_at_call 133; (with_reducible refine (spec_l8Texts.calls k _ _ t988 _ _ l1 t991 _ ?side1 ?side2 ?side3 ?side4 A7.out).mono ?_); (case side1 => exact rc HO990); (case side2 => exact (Kd.R_reads' HO990.out).2.1); (case side3 => exact cb HR1); (case side4 => exact HC1.out); rintro e w' ⟨rfl, ⟨nd, rfl⟩⟩))
  go_ret
  exact ⟨rf, bl⟩

/-! ### spec_DrawValuesOf: function 50 -/
def spec_DrawValuesOf.f (k : Nat) (l0 : List Int) : Option (List ByteArray × (List (S114))) := (spec_l1New.f k l0).bind fun bt992 => ((spec_l8DrawNames.f k bt992.1 bt992.2.1 bt992.2.2).bind fun bt996 => ((spec_l2Draw.f k bt992.1 bt996.2.1 bt996.2.2).bind fun bt1001 => (some (bt996.1, bt1001.1))))
theorem spec_DrawValuesOf.mono : ∀ a0 k, LeO (spec_DrawValuesOf.f k a0) (spec_DrawValuesOf.f (k + 1) a0) := by
 intro a0 k
 unfold spec_DrawValuesOf.f
 repeat' first
   | (with_reducible exact spec_l1New.mono _ _)
   | (with_reducible exact spec_l2Draw.mono _ _ _ _)
   | (with_reducible exact spec_l8DrawNames.mono _ _ _ _)
   | (with_reducible exact LeO.refl _)
   | (with_reducible exact LeO.none _)
   | (with_reducible refine LeO.ite ?_ ?_)
   | (with_reducible refine LeO.bind ?_ (fun _ => ?_))
   | exact spec_l1New.mono _ _
   | exact spec_l2Draw.mono _ _ _ _
   | exact spec_l8DrawNames.mono _ _ _ _
   | exact LeO.none _
   | refine LeO.ite ?_ ?_
   | refine LeO.bind ?_ (fun _ => ?_)
set_option maxHeartbeats 8000000 in
set_option maxRecDepth 100000 in
theorem spec_DrawValuesOf.calls (k : Nat) (A0 : Option Addr) (c0 : Nat) (l0 : List Int) (r1 : List ByteArray) (r2 : List (S114)) (w : World) (hr0 : Kd.C (Kd.int .u8) w A0 l0.length l0) (hc0 : l0.length ≤ c0) (h : spec_DrawValuesOf.f k l0 = some (r1, r2)) :
  Calls Tryd.prog 50 #[.slice A0 l0.length c0] w fun e w' => ∃ v0_ v1_ : Value, e = .returned (.tuple #[v0_, v1_]) ∧ Kd.R Kd.string 9 w' w.heap.size (fun _ => True) v0_ r1 ∧ Kd.R k114 114 w' w.heap.size (fun _ => True) v1_ r2 ∧ Below w.heap.size w w' := by
 have HR0 := am hr0
 have HC0 := am hc0
 clear hr0 hc0
 have HB := am (Below.refl w.heap.size w)
 have H : ((spec_l1New.f k l0).bind fun bt992 => ((spec_l8DrawNames.f k bt992.1 bt992.2.1 bt992.2.2).bind fun bt996 => ((spec_l2Draw.f k bt992.1 bt996.2.1 bt996.2.2).bind fun bt1001 => (some (bt996.1, bt1001.1))))) = some (r1, r2) := h
 clear h
 replace H := ob H
 obtain ⟨⟨t992, t993, t994⟩, A20, H⟩ := H
 replace H : ((spec_l8DrawNames.f k t992 t993 t994).bind fun bt996 => ((spec_l2Draw.f k t992 bt996.2.1 bt996.2.2).bind fun bt1001 => (some (bt996.1, bt1001.1)))) = some (r1, r2) := H
 have A2 := am A20
 clear A20
 replace H := ob H
 obtain ⟨⟨t996, t999, t1000⟩, A30, H⟩ := H
 replace H : ((spec_l2Draw.f k t992 t999 t1000).bind fun bt1001 => (some (t996, bt1001.1))) = some (r1, r2) := H
 have A3 := am A30
 clear A30
 replace H := ob H
 obtain ⟨⟨t1001, t1004, t1005⟩, A40, H⟩ := H
 replace H : (some (t996, t1001)) = some (r1, r2) := H
 have A4 := am A40
 clear A40
 simp only [Option.some.injEq, Prod.mk.injEq] at H
 obtain ⟨rfl, rfl⟩ := H
 go_enter Tryd.func50, Tryd.ntmps50
 go_wp2_with (first | ((with_reducible refine gate_callee (f := 108) rfl ?_); refine goesL_ (some 7) rfl rfl Tryd.func108 (by kernel_rfl) rfl #[.slice A0 l0.length c0] rfl ma ?_; (with_reducible refine (spec_l1New.calls k _ _ l0 t992 t993 t994 w _ ?side1 ?side2 ?side3 A2.out).mono ?_); (case side1 => repeat (first | (with_reducible first | exact HB.out | apply below_alloc | apply pw_below_drewN | apply below_drew1) | exact HB.out)); (case side2 => exact HR0.out); (case side3 => exact HC0.out); rintro e w5 ⟨g995, rfl, hi, hb, hb2⟩; refine ⟨_, rfl, ?_⟩; replace HB := am (hb); have HI995 := am (hi); (try clear hb); (try clear hb2); (try clear hk); (try clear hi)) | ((with_reducible refine gate_callee (f := 127) rfl ?_); refine goesL_ (some 9) rfl rfl Tryd.func127 (by kernel_rfl) rfl #[.pointer (some ⟨g995, 0, none⟩)] rfl ma ?_; (with_reducible refine (spec_l8DrawNames.calls k g995 t992 t993 t994 t996 t999 t1000 w _ ?side1 ?side2 A3.out).mono ?_); (case side1 => repeat (first | (with_reducible first | exact HI995.out | apply IsS161.alloc | apply IsS161.drewN | apply IsS161.drew | apply IsS161.set_1 | apply IsS161.set_2) | exact HI995.out)); (case side2 => repeat (first | (with_reducible first | exact HB.out | apply below_alloc | apply pw_below_drewN | apply below_drew1 | refine below_set ?_ (IsS161.ge HI995.out)) | exact HB.out)); rintro e w6 ⟨v997, rfl, ho0, hi, hb, hk⟩; refine ⟨_, rfl, ?_⟩; have HO998 := am (Kd.R_lower ho0 (below_size (by repeat (first | (with_reducible first | exact HB.out | apply below_alloc | apply pw_below_drewN | apply below_drew1 | refine below_set ?_ (IsS161.ge HI995.out)) | exact HB.out)))); replace HB := am (hb); replace HI995 := am (hi); (try clear hb); (try clear hb2); (try clear hk); (try clear hi); (try clear ho0)) | ((with_reducible refine gate_callee (f := 128) rfl ?_); refine goesL_ (some 12) rfl rfl Tryd.func128 (by kernel_rfl) rfl #[.pointer (some ⟨g995, 0, none⟩)] rfl ma ?_; (with_reducible refine (spec_l2Draw.calls k g995 t992 t999 t1000 t1001 t1004 t1005 w _ ?side1 ?side2 A4.out).mono ?_); (case side1 => repeat (first | (with_reducible first | exact HI995.out | apply IsS161.alloc | apply IsS161.drewN | apply IsS161.drew | apply IsS161.set_1 | apply IsS161.set_2) | exact HI995.out)); (case side2 => repeat (first | (with_reducible first | exact HB.out | apply below_alloc | apply pw_below_drewN | apply below_drew1 | refine below_set ?_ (IsS161.ge HI995.out)) | exact HB.out)); rintro e w7 ⟨v1002, rfl, ho0, hi, hb, hk⟩; refine ⟨_, rfl, ?_⟩; replace HO998 := am (Kd.R_mono (Kd.R_keep (IsS161.apart (show IsS161 w _ g995 t992 t999 t1000 from by repeat (first | (with_reducible first | exact HI995.out | apply IsS161.alloc | apply IsS161.drewN | apply IsS161.drew | apply IsS161.set_1 | apply IsS161.set_2) | exact HI995.out)) (ro HO998) (by decide)) hk (fun _ h => h.2)) (fun _ h => h.1)); have HO1003 := am (Kd.R_lower ho0 (below_size (by repeat (first | (with_reducible first | exact HB.out | apply below_alloc | apply pw_below_drewN | apply below_drew1 | refine below_set ?_ (IsS161.ge HI995.out)) | exact HB.out)))); replace HB := am (hb); replace HI995 := am (hi); (try clear hb); (try clear hb2); (try clear hk); (try clear hi); (try clear ho0)))
 go_ret2
 exact ⟨_, _, rf, by (with_reducible repeat (first | apply Kd.R_alloc | apply Kd.R_drewN | apply Kd.R_drew)); exact HO998.out, by (with_reducible repeat (first | apply Kd.R_alloc | apply Kd.R_drewN | apply Kd.R_drew)); exact HO1003.out, by repeat (first | (with_reducible first | exact HB.out | apply below_alloc | apply pw_below_drewN | apply below_drew1 | refine below_set ?_ (IsS161.ge HI995.out)) | exact HB.out)⟩

/-! ### spec_DrawVaryOf: function 51 -/
def spec_DrawVaryOf.f (k : Nat) (l0 : List Int) : Option ((List (S114))) := (spec_l1New.f k l0).bind fun bt1006 => ((spec_l2Draw.f k bt1006.1 bt1006.2.1 bt1006.2.2).bind fun bt1010 => ((spec_l1Once.f bt1006.1 bt1010.2.1 bt1010.2.2 2).bind fun bt1015 => (if bt1015.1 = true then ((spec_l1Pick.f bt1006.1 bt1015.2.1 bt1015.2.2 (([(⟨#[76, 97, 110, 103]⟩ : ByteArray), (⟨#[108, 97, 110, 103, 44, 107, 105, 110, 100]⟩ : ByteArray), (⟨#[42]⟩ : ByteArray), (⟨#[32, 44, 32, 97]⟩ : ByteArray), (⟨#[108, 97, 110, 103, 44, 32, 42]⟩ : ByteArray)] : List ByteArray))).bind fun bt1021 => ((spec_Put.f k bt1010.1 (⟨#[118, 97, 114, 121]⟩ : ByteArray) bt1021.1).bind fun t1024 => (some t1024))) else (some bt1010.1))))
theorem spec_DrawVaryOf.mono : ∀ a0 k, LeO (spec_DrawVaryOf.f k a0) (spec_DrawVaryOf.f (k + 1) a0) := by
 intro a0 k
 unfold spec_DrawVaryOf.f
 repeat' first
   | (with_reducible exact spec_Put.mono _ _ _ _)
   | (with_reducible exact spec_l1New.mono _ _)
   | (with_reducible exact spec_l2Draw.mono _ _ _ _)
   | (with_reducible exact LeO.refl _)
   | (with_reducible exact LeO.none _)
   | (with_reducible refine LeO.ite ?_ ?_)
   | (with_reducible refine LeO.bind ?_ (fun _ => ?_))
   | exact spec_Put.mono _ _ _ _
   | exact spec_l1New.mono _ _
   | exact spec_l2Draw.mono _ _ _ _
   | exact LeO.none _
   | refine LeO.ite ?_ ?_
   | refine LeO.bind ?_ (fun _ => ?_)
set_option maxHeartbeats 8000000 in
set_option maxRecDepth 100000 in
theorem spec_DrawVaryOf.calls (k : Nat) (A0 : Option Addr) (c0 : Nat) (l0 : List Int) (r : List (S114)) (w : World) (hr0 : Kd.C (Kd.int .u8) w A0 l0.length l0) (hc0 : l0.length ≤ c0) (h : spec_DrawVaryOf.f k l0 = some r) :
  Calls Tryd.prog 51 #[.slice A0 l0.length c0] w fun e w' => ∃ v0_ : Value, e = .returned (v0_) ∧ Kd.R k114 114 w' w.heap.size (fun _ => True) v0_ r ∧ Below w.heap.size w w' := by
 have HR0 := am hr0
 have HC0 := am hc0
 clear hr0 hc0
 have HB := am (Below.refl w.heap.size w)
 have H : ((spec_l1New.f k l0).bind fun bt1006 => ((spec_l2Draw.f k bt1006.1 bt1006.2.1 bt1006.2.2).bind fun bt1010 => ((spec_l1Once.f bt1006.1 bt1010.2.1 bt1010.2.2 2).bind fun bt1015 => (if bt1015.1 = true then ((spec_l1Pick.f bt1006.1 bt1015.2.1 bt1015.2.2 (([(⟨#[76, 97, 110, 103]⟩ : ByteArray), (⟨#[108, 97, 110, 103, 44, 107, 105, 110, 100]⟩ : ByteArray), (⟨#[42]⟩ : ByteArray), (⟨#[32, 44, 32, 97]⟩ : ByteArray), (⟨#[108, 97, 110, 103, 44, 32, 42]⟩ : ByteArray)] : List ByteArray))).bind fun bt1021 => ((spec_Put.f k bt1010.1 (⟨#[118, 97, 114, 121]⟩ : ByteArray) bt1021.1).bind fun t1024 => (some t1024))) else (some bt1010.1))))) = some r := h
 clear h
 replace H := ob H
 obtain ⟨⟨t1006, t1007, t1008⟩, A20, H⟩ := H
 replace H : ((spec_l2Draw.f k t1006 t1007 t1008).bind fun bt1010 => ((spec_l1Once.f t1006 bt1010.2.1 bt1010.2.2 2).bind fun bt1015 => (if bt1015.1 = true then ((spec_l1Pick.f t1006 bt1015.2.1 bt1015.2.2 (([(⟨#[76, 97, 110, 103]⟩ : ByteArray), (⟨#[108, 97, 110, 103, 44, 107, 105, 110, 100]⟩ : ByteArray), (⟨#[42]⟩ : ByteArray), (⟨#[32, 44, 32, 97]⟩ : ByteArray), (⟨#[108, 97, 110, 103, 44, 32, 42]⟩ : ByteArray)] : List ByteArray))).bind fun bt1021 => ((spec_Put.f k bt1010.1 (⟨#[118, 97, 114, 121]⟩ : ByteArray) bt1021.1).bind fun t1024 => (some t1024))) else (some bt1010.1)))) = some r := H
 have A2 := am A20
 clear A20
 replace H := ob H
 obtain ⟨⟨t1010, t1013, t1014⟩, A30, H⟩ := H
 replace H : ((spec_l1Once.f t1006 t1013 t1014 2).bind fun bt1015 => (if bt1015.1 = true then ((spec_l1Pick.f t1006 bt1015.2.1 bt1015.2.2 (([(⟨#[76, 97, 110, 103]⟩ : ByteArray), (⟨#[108, 97, 110, 103, 44, 107, 105, 110, 100]⟩ : ByteArray), (⟨#[42]⟩ : ByteArray), (⟨#[32, 44, 32, 97]⟩ : ByteArray), (⟨#[108, 97, 110, 103, 44, 32, 42]⟩ : ByteArray)] : List ByteArray))).bind fun bt1021 => ((spec_Put.f k t1010 (⟨#[118, 97, 114, 121]⟩ : ByteArray) bt1021.1).bind fun t1024 => (some t1024))) else (some t1010))) = some r := H
 have A3 := am A30
 clear A30
 replace H := ob H
 obtain ⟨⟨t1015, t1016, t1017⟩, A40, H⟩ := H
 replace H : (if t1015 = true then ((spec_l1Pick.f t1006 t1016 t1017 (([(⟨#[76, 97, 110, 103]⟩ : ByteArray), (⟨#[108, 97, 110, 103, 44, 107, 105, 110, 100]⟩ : ByteArray), (⟨#[42]⟩ : ByteArray), (⟨#[32, 44, 32, 97]⟩ : ByteArray), (⟨#[108, 97, 110, 103, 44, 32, 42]⟩ : ByteArray)] : List ByteArray))).bind fun bt1021 => ((spec_Put.f k t1010 (⟨#[118, 97, 114, 121]⟩ : ByteArray) bt1021.1).bind fun t1024 => (some t1024))) else (some t1010)) = some r := H
 have A4 := am A40
 clear A40
 by_cases c5 : t1015 = true
 ·subst c5
  have H1 : ((spec_l1Pick.f t1006 t1016 t1017 (([(⟨#[76, 97, 110, 103]⟩ : ByteArray), (⟨#[108, 97, 110, 103, 44, 107, 105, 110, 100]⟩ : ByteArray), (⟨#[42]⟩ : ByteArray), (⟨#[32, 44, 32, 97]⟩ : ByteArray), (⟨#[108, 97, 110, 103, 44, 32, 42]⟩ : ByteArray)] : List ByteArray))).bind fun bt1021 => ((spec_Put.f k t1010 (⟨#[118, 97, 114, 121]⟩ : ByteArray) bt1021.1).bind fun t1024 => (some t1024))) = some r := by rw [if_pos rfl] at H; exact H
  clear H
  have H := H1
  clear H1
  obtain ⟨y1018, hy1018⟩ : ∃ y_ : List ByteArray, y_ = (([(⟨#[76, 97, 110, 103]⟩ : ByteArray), (⟨#[108, 97, 110, 103, 44, 107, 105, 110, 100]⟩ : ByteArray), (⟨#[42]⟩ : ByteArray), (⟨#[32, 44, 32, 97]⟩ : ByteArray), (⟨#[108, 97, 110, 103, 44, 32, 42]⟩ : ByteArray)] : List ByteArray)) := ⟨_, rfl⟩
  replace H : ((spec_l1Pick.f t1006 t1016 t1017 y1018).bind fun bt1021 => ((spec_Put.f k t1010 (⟨#[118, 97, 114, 121]⟩ : ByteArray) bt1021.1).bind fun t1024 => (some t1024))) = some r := by first | (rw [hy1018]; with_reducible exact H) | (have H2_ := (Option.bind_some _ _).symm.trans H; rw [hy1018]; with_reducible exact H2_) | (have H2_ := (Option.bind_some _ _).symm.trans H; with_reducible exact H2_) | with_reducible exact H | (rw [hy1018]; exact H) | exact H
  have Ny1018 := am hy1018
  clear hy1018
  replace H := ob H
  obtain ⟨⟨t1021, t1022, t1023⟩, A60, H⟩ := H
  replace H : ((spec_Put.f k t1010 (⟨#[118, 97, 114, 121]⟩ : ByteArray) t1021).bind fun t1024 => (some t1024)) = some r := H
  have A6 := am A60
  clear A60
  replace H := ob H
  obtain ⟨t1024, A70, H⟩ := H
  replace H : (some t1024) = some r := H
  have A7 := am A70
  clear A70
  obtain rfl := Option.some.inj H
  go_enter Tryd.func51, Tryd.ntmps51
  go_wp2_with (first | ((with_reducible refine gate_callee (f := 108) rfl ?_); refine goesL_ (some 6) rfl rfl Tryd.func108 (by kernel_rfl) rfl #[.slice A0 l0.length c0] rfl ma ?_; (with_reducible refine (spec_l1New.calls k _ _ l0 t1006 t1007 t1008 w _ ?side1 ?side2 ?side3 A2.out).mono ?_); (case side1 => repeat (first | (with_reducible first | exact HB.out | apply below_alloc | apply pw_below_drewN | apply below_drew1) | exact HB.out)); (case side2 => exact HR0.out); (case side3 => exact HC0.out); rintro e w8 ⟨g1009, rfl, hi, hb, hb2⟩; refine ⟨_, rfl, ?_⟩; replace HB := am (hb); have HI1009 := am (hi); (try clear hb); (try clear hb2); (try clear hk); (try clear hi)) | ((with_reducible refine gate_callee (f := 128) rfl ?_); refine goesL_ (some 8) rfl rfl Tryd.func128 (by kernel_rfl) rfl #[.pointer (some ⟨g1009, 0, none⟩)] rfl ma ?_; (with_reducible refine (spec_l2Draw.calls k g1009 t1006 t1007 t1008 t1010 t1013 t1014 w _ ?side1 ?side2 A3.out).mono ?_); (case side1 => repeat (first | (with_reducible first | exact HI1009.out | apply IsS161.alloc | apply IsS161.drewN | apply IsS161.drew | apply IsS161.set_1 | apply IsS161.set_2) | exact HI1009.out)); (case side2 => repeat (first | (with_reducible first | exact HB.out | apply below_alloc | apply pw_below_drewN | apply below_drew1 | refine below_set ?_ (IsS161.ge HI1009.out)) | exact HB.out)); rintro e w9 ⟨v1011, rfl, ho0, hi, hb, hk⟩; refine ⟨_, rfl, ?_⟩; have HO1012 := am (Kd.R_lower ho0 (below_size (by repeat (first | (with_reducible first | exact HB.out | apply below_alloc | apply pw_below_drewN | apply below_drew1 | refine below_set ?_ (IsS161.ge HI1009.out)) | exact HB.out)))); replace HB := am (hb); replace HI1009 := am (hi); (try clear hb); (try clear hb2); (try clear hk); (try clear hi); (try clear ho0)) | ((with_reducible refine gate_callee (f := 109) rfl ?_); refine goesL_ (some 10) rfl rfl Tryd.func109 (by kernel_rfl) rfl #[.pointer (some ⟨g1009, 0, none⟩), .int .i64 2] rfl ma ?_; (with_reducible refine (spec_l1Once.calls g1009 t1006 t1013 t1014 2 true t1016 t1017 w _ ?side1 ?side2 A4.out).mono ?_); (case side1 => repeat (first | (with_reducible first | exact HI1009.out | apply IsS161.alloc | apply IsS161.drewN | apply IsS161.drew | apply IsS161.set_1 | apply IsS161.set_2) | exact HI1009.out)); (case side2 => repeat (first | (with_reducible first | exact HB.out | apply below_alloc | apply pw_below_drewN | apply below_drew1 | refine below_set ?_ (IsS161.ge HI1009.out)) | exact HB.out)); rintro e w10 ⟨rfl, hi, hb, hk⟩; refine ⟨_, rfl, ?_⟩; replace HO1012 := am (Kd.R_mono (Kd.R_keep (IsS161.apart (show IsS161 w _ g1009 t1006 t1013 t1014 from by repeat (first | (with_reducible first | exact HI1009.out | apply IsS161.alloc | apply IsS161.drewN | apply IsS161.drew | apply IsS161.set_1 | apply IsS161.set_2) | exact HI1009.out)) (ro HO1012) (by decide)) hk (fun _ h => h.2)) (fun _ h => h.1)); replace HB := am (hb); replace HI1009 := am (hi); (try clear hb); (try clear hb2); (try clear hk); (try clear hi)) | ((with_reducible refine gate_dst (N := 13) rfl ?_); refine Kd.R_lit Kd.string _ 9 ?hg (N := 13) ?hd (xs := ([(⟨#[76, 97, 110, 103]⟩ : ByteArray), (⟨#[108, 97, 110, 103, 44, 107, 105, 110, 100]⟩ : ByteArray), (⟨#[42]⟩ : ByteArray), (⟨#[32, 44, 32, 97]⟩ : ByteArray), (⟨#[108, 97, 110, 103, 44, 32, 42]⟩ : ByteArray)] : List ByteArray)) (inner := [.string (⟨#[76, 97, 110, 103]⟩ : ByteArray), .string (⟨#[108, 97, 110, 103, 44, 107, 105, 110, 100]⟩ : ByteArray), .string (⟨#[42]⟩ : ByteArray), .string (⟨#[32, 44, 32, 97]⟩ : ByteArray), .string (⟨#[108, 97, 110, 103, 44, 32, 42]⟩ : ByteArray)]) (ok := fun _ => True) (okp := fun _ => True) ?hr ?hp (fun _ hk => hk) trivial (Below.refl _ _) (Nat.le_refl _) (by simp) ?_; (case hd => rfl); (case hg => rfl); (case hr => first | (go_simp; done) | (go_simp; rfl)); (case hp => exact (Reps.one (show Kd.M Kd.string _ _ _ (⟨#[76, 97, 110, 103]⟩ : ByteArray) [.string (⟨#[76, 97, 110, 103]⟩ : ByteArray)] from rfl) (Reps.one (show Kd.M Kd.string _ _ _ (⟨#[108, 97, 110, 103, 44, 107, 105, 110, 100]⟩ : ByteArray) [.string (⟨#[108, 97, 110, 103, 44, 107, 105, 110, 100]⟩ : ByteArray)] from rfl) (Reps.one (show Kd.M Kd.string _ _ _ (⟨#[42]⟩ : ByteArray) [.string (⟨#[42]⟩ : ByteArray)] from rfl) (Reps.one (show Kd.M Kd.string _ _ _ (⟨#[32, 44, 32, 97]⟩ : ByteArray) [.string (⟨#[32, 44, 32, 97]⟩ : ByteArray)] from rfl) (Reps.one (show Kd.M Kd.string _ _ _ (⟨#[108, 97, 110, 103, 44, 32, 42]⟩ : ByteArray) [.string (⟨#[108, 97, 110, 103, 44, 32, 42]⟩ : ByteArray)] from rfl) (Reps.none _ _))))))); intro v1019 w11 ho12 hb hg_ hnew_; clear hg_ hnew_; (first | rw [← Ny1018.out] at ho12 | (simp only [Int.reduceToNat] at ho12; rw [← Ny1018.out] at ho12)); replace HO1012 := kr HO1012 hb; have HO1020 := am (Kd.R_lower ho12 (below_size (by repeat (first | (with_reducible first | exact HB.out | apply below_alloc | apply pw_below_drewN | apply below_drew1 | refine below_set ?_ (IsS161.ge HI1009.out)) | exact HB.out)))); replace HB := am (below_step (by repeat (first | (with_reducible first | exact HB.out | apply below_alloc | apply pw_below_drewN | apply below_drew1 | refine below_set ?_ (IsS161.ge HI1009.out)) | exact HB.out)) hb); replace HI1009 := am (IsS161.below (by repeat (first | (with_reducible first | exact HI1009.out | apply IsS161.alloc | apply IsS161.drewN | apply IsS161.drew | apply IsS161.set_1 | apply IsS161.set_2) | exact HI1009.out)) hb); clear hb ho12; obtain ⟨Ao13, co13, eo13⟩ := Kd.R_slice HO1020.out; subst eo13) | ((with_reducible refine gate_callee (f := 129) rfl ?_); refine goesL_ (some 14) rfl rfl Tryd.func129 (by kernel_rfl) rfl #[.pointer (some ⟨g1009, 0, none⟩), .slice Ao13 y1018.length co13] rfl ma ?_; (with_reducible refine (spec_l1Pick.calls g1009 t1006 t1016 t1017 _ _ y1018 t1021 t1022 t1023 w _ ?side1 ?side2 ?side3 ?side4 ?side5 A6.out).mono ?_); (case side1 => repeat (first | (with_reducible first | exact HI1009.out | apply IsS161.alloc | apply IsS161.drewN | apply IsS161.drew | apply IsS161.set_1 | apply IsS161.set_2) | exact HI1009.out)); (case side2 => repeat (first | (with_reducible first | exact HB.out | apply below_alloc | apply pw_below_drewN | apply below_drew1 | refine below_set ?_ (IsS161.ge HI1009.out)) | exact HB.out)); (case side3 => exact rc HO1020); (case side4 => exact (Kd.R_reads' HO1020.out).2.1); (case side5 => exact far_slice (IsS161.own_ne HI1009.out HO1020.out (by decide))); rintro e w14 ⟨rfl, hi, hb, hk⟩; refine ⟨_, rfl, ?_⟩; replace HO1012 := am (Kd.R_mono (Kd.R_keep (IsS161.apart (show IsS161 w _ g1009 t1006 t1016 t1017 from by repeat (first | (with_reducible first | exact HI1009.out | apply IsS161.alloc | apply IsS161.drewN | apply IsS161.drew | apply IsS161.set_1 | apply IsS161.set_2) | exact HI1009.out)) (ro HO1012) (by decide)) hk (fun _ h => h.2)) (fun _ h => h.1)); replace HO1020 := am (Kd.R_mono (Kd.R_keep (IsS161.apart (show IsS161 w _ g1009 t1006 t1016 t1017 from by repeat (first | (with_reducible first | exact HI1009.out | apply IsS161.alloc | apply IsS161.drewN | apply IsS161.drew | apply IsS161.set_1 | apply IsS161.set_2) | exact HI1009.out)) (ro HO1020) (by decide)) hk (fun _ h => h.2)) (fun _ h => h.1)); replace HB := am (hb); replace HI1009 := am (hi); (try clear hb); (try clear hb2); (try clear hk); (try clear hi); obtain ⟨Ao15, co15, eo15⟩ := Kd.R_slice HO1012.out; subst eo15) | ((with_reducible refine gate_callee (f := 114) rfl ?_); refine goesL_ (some 15) rfl rfl Tryd.func114 (by kernel_rfl) rfl #[.slice Ao15 t1010.length co15, .string (⟨#[118, 97, 114, 121]⟩ : ByteArray), .string t1021] rfl ma ?_; (with_reducible refine (spec_Put.calls k _ _ t1010 (⟨#[118, 97, 114, 121]⟩ : ByteArray) t1021 t1024 _ ?side1 ?side2 A7.out).mono ?_); (case side1 => exact rc HO1012); (case side2 => exact (Kd.R_reads' HO1012.out).2.1); rintro e w16 ⟨v1025, rfl, ho0, hb⟩; refine ⟨_, rfl, ?_⟩; replace HO1020 := kr HO1020 hb; have HO1026 := am (Kd.R_lower (Kd.R_new' ho0 (Kd.R_lt (ro HO1012))) (below_size (by repeat (first | (with_reducible first | exact HB.out | apply below_alloc | apply pw_below_drewN | apply below_drew1 | refine below_set ?_ (IsS161.ge HI1009.out)) | exact HB.out)))); replace HO1012 := am (Kd.R_elder' (ro HO1012) (Kd.R_base ho0) hb); replace HB := am (below_step (by repeat (first | (with_reducible first | exact HB.out | apply below_alloc | apply pw_below_drewN | apply below_drew1 | refine below_set ?_ (IsS161.ge HI1009.out)) | exact HB.out)) hb); replace HI1009 := am (IsS161.below (by repeat (first | (with_reducible first | exact HI1009.out | apply IsS161.alloc | apply IsS161.drewN | apply IsS161.drew | apply IsS161.set_1 | apply IsS161.set_2) | exact HI1009.out)) hb); (try clear hb); (try clear hb2); (try clear hk); (try clear hi); (try clear ho0)))
  go_ret
  exact ⟨_, rf, by (with_reducible repeat (first | apply Kd.R_alloc | apply Kd.R_drewN | apply Kd.R_drew)); exact Kd.R_mono HO1026.out (fun _ hk => trivial), by repeat (first | (with_reducible first | exact HB.out | apply below_alloc | apply pw_below_drewN | apply below_drew1 | refine below_set ?_ (IsS161.ge HI1009.out)) | exact HB.out)⟩
 ·replace c5 := Bool.eq_false_iff.mpr c5
  subst c5
  have H1 : (some t1010) = some r := by rw [if_neg (show ¬ (false = true) by decide)] at H; exact H
  clear H
  have H := H1
  clear H1
  obtain rfl := Option.some.inj H
  go_enter Tryd.func51, Tryd.ntmps51
  go_wp2_with (first | ((with_reducible refine gate_callee (f := 108) rfl ?_); refine goesL_ (some 6) rfl rfl Tryd.func108 (by kernel_rfl) rfl #[.slice A0 l0.length c0] rfl ma ?_; (with_reducible refine (spec_l1New.calls k _ _ l0 t1006 t1007 t1008 w _ ?side1 ?side2 ?side3 A2.out).mono ?_); (case side1 => repeat (first | (with_reducible first | exact HB.out | apply below_alloc | apply pw_below_drewN | apply below_drew1) | exact HB.out)); (case side2 => exact HR0.out); (case side3 => exact HC0.out); rintro e w17 ⟨g1009, rfl, hi, hb, hb2⟩; refine ⟨_, rfl, ?_⟩; replace HB := am (hb); have HI1009 := am (hi); (try clear hb); (try clear hb2); (try clear hk); (try clear hi)) | ((with_reducible refine gate_callee (f := 128) rfl ?_); refine goesL_ (some 8) rfl rfl Tryd.func128 (by kernel_rfl) rfl #[.pointer (some ⟨g1009, 0, none⟩)] rfl ma ?_; (with_reducible refine (spec_l2Draw.calls k g1009 t1006 t1007 t1008 t1010 t1013 t1014 w _ ?side1 ?side2 A3.out).mono ?_); (case side1 => repeat (first | (with_reducible first | exact HI1009.out | apply IsS161.alloc | apply IsS161.drewN | apply IsS161.drew | apply IsS161.set_1 | apply IsS161.set_2) | exact HI1009.out)); (case side2 => repeat (first | (with_reducible first | exact HB.out | apply below_alloc | apply pw_below_drewN | apply below_drew1 | refine below_set ?_ (IsS161.ge HI1009.out)) | exact HB.out)); rintro e w18 ⟨v1011, rfl, ho0, hi, hb, hk⟩; refine ⟨_, rfl, ?_⟩; have HO1012 := am (Kd.R_lower ho0 (below_size (by repeat (first | (with_reducible first | exact HB.out | apply below_alloc | apply pw_below_drewN | apply below_drew1 | refine below_set ?_ (IsS161.ge HI1009.out)) | exact HB.out)))); replace HB := am (hb); replace HI1009 := am (hi); (try clear hb); (try clear hb2); (try clear hk); (try clear hi); (try clear ho0)) | ((with_reducible refine gate_callee (f := 109) rfl ?_); refine goesL_ (some 10) rfl rfl Tryd.func109 (by kernel_rfl) rfl #[.pointer (some ⟨g1009, 0, none⟩), .int .i64 2] rfl ma ?_; (with_reducible refine (spec_l1Once.calls g1009 t1006 t1013 t1014 2 false t1016 t1017 w _ ?side1 ?side2 A4.out).mono ?_); (case side1 => repeat (first | (with_reducible first | exact HI1009.out | apply IsS161.alloc | apply IsS161.drewN | apply IsS161.drew | apply IsS161.set_1 | apply IsS161.set_2) | exact HI1009.out)); (case side2 => repeat (first | (with_reducible first | exact HB.out | apply below_alloc | apply pw_below_drewN | apply below_drew1 | refine below_set ?_ (IsS161.ge HI1009.out)) | exact HB.out)); rintro e w19 ⟨rfl, hi, hb, hk⟩; refine ⟨_, rfl, ?_⟩; replace HO1012 := am (Kd.R_mono (Kd.R_keep (IsS161.apart (show IsS161 w _ g1009 t1006 t1013 t1014 from by repeat (first | (with_reducible first | exact HI1009.out | apply IsS161.alloc | apply IsS161.drewN | apply IsS161.drew | apply IsS161.set_1 | apply IsS161.set_2) | exact HI1009.out)) (ro HO1012) (by decide)) hk (fun _ h => h.2)) (fun _ h => h.1)); replace HB := am (hb); replace HI1009 := am (hi); (try clear hb); (try clear hb2); (try clear hk); (try clear hi)))
  go_ret
  exact ⟨_, rf, by (with_reducible repeat (first | apply Kd.R_alloc | apply Kd.R_drewN | apply Kd.R_drew)); exact HO1012.out, by repeat (first | (with_reducible first | exact HB.out | apply below_alloc | apply pw_below_drewN | apply below_drew1 | refine below_set ?_ (IsS161.ge HI1009.out)) | exact HB.out)⟩

end Go.Proofs.YtiinmfjbildclaaDoor.All
