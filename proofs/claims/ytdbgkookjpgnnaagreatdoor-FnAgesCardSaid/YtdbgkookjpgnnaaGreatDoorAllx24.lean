-- Written by a program of this session (wip/tools/hprint.py) out of the translation. Lean checks it.
import Derived.Test.YtdbgkookjpgnnaaGreatDoorAllx0
import Derived.Test.YtdbgkookjpgnnaaGreatDoorAllx1
import Derived.Test.YtdbgkookjpgnnaaGreatDoorAllx8
import Derived.Test.YtdbgkookjpgnnaaGreatDoorAllx23
namespace Go.Proofs.YtdbgkookjpgnnaaGreatDoor.All
open Go.RowKit Go.Proofs.YtdbgkookjpgnnaaGreatDoorW.PrintWords Go.Proofs.YtdbgkookjpgnnaaGreatDoorW.PrintLast Go.Proofs.YtdbgkookjpgnnaaGreatDoorW.PrintMore
attribute [local go_sem] max2_int min2_int max_two min_two max_three min_three max_four min_four   -- for this text's walks alone
set_option linter.unusedVariables false
set_option linter.unusedSimpArgs false

/-! ### spec_l1Max: function 98 -/
def spec_l1Max.f (a0 : Int) (a1 : Int) : Option (Int) := if a0 > a1 then (some a0) else (some a1)
set_option maxHeartbeats 8000000 in
set_option maxRecDepth 100000 in
theorem spec_l1Max.calls (a0 : Int) (a1 : Int) (r : Int) (w : World) (h : spec_l1Max.f a0 a1 = some r) :
  Calls Tryz.prog 98 #[.int .i64 a0, .int .i64 a1] w fun e w' => e = .returned (.int .i64 r) ∧ Drawn0 w w' := by
 unfold spec_l1Max.f at h
 have H := h
 clear h
 by_cases c3 : a0 > a1
 ·rw [if_pos c3] at H
  have c3b0 := decide_eq_true c3
  clear c3
  obtain rfl := Option.some.inj H
  go_enter Tryz.func98, Tryz.ntmps98
  go_wp2
  go_ret
  exact ⟨rs, dr⟩
 rw [if_neg c3] at H
 have c3b0 := decide_eq_false c3
 clear c3
 obtain rfl := Option.some.inj H
 go_enter Tryz.func98, Tryz.ntmps98
 go_wp2
 go_ret
 exact ⟨rs, dr⟩

/-! ### spec_Plus: function 33 -/
def spec_Plus.f (a0 : Int) (a1 : Int) : Option (Int) := (spec_l1Max.f a0 0).bind fun t925 => ((spec_l1Min.f t925 1000000).bind fun t926 => ((spec_l1Max.f a1 0).bind fun t927 => ((spec_l1Min.f t927 1000000).bind fun t928 => ((spec_l1Min.f (wrap64 (t926 + t928)) 1000000).bind fun t929 => (some t929)))))
set_option maxHeartbeats 8000000 in
set_option maxRecDepth 100000 in
theorem spec_Plus.calls (a0 : Int) (a1 : Int) (r : Int) (w : World) (h : spec_Plus.f a0 a1 = some r) :
  Calls Tryz.prog 33 #[.int .i64 a0, .int .i64 a1] w fun e w' => e = .returned (.int .i64 r) ∧ Drawn0 w w' := by
 unfold spec_Plus.f at h
 have H := h
 clear h
 revert H
 refine ok1 fun t925 A3 H => ?_
 revert H
 refine ok1 fun t926 A4 H => ?_
 revert H
 refine ok1 fun t927 A5 H => ?_
 revert H
 refine ok1 fun t928 A6 H => ?_
 revert H
 refine ok1 fun t929 A7 H => ?_
 obtain rfl := Option.some.inj H
 go_enter Tryz.func33, Tryz.ntmps33
 go_wp2_with (first | (refine gl 6 Tryz.func98 #[.int .i64 a0, .int .i64 0] ?_; (with_reducible refine (spec_l1Max.calls a0 0 t925 _ A3.out).mono ?_); rintro e w' ⟨rfl, ⟨nd, rfl⟩⟩; refine ⟨_, rfl, ?_⟩) | (refine gl 7 Tryz.func97 #[.int .i64 t925, .int .i64 1000000] ?_; (with_reducible refine (spec_l1Min.calls t925 1000000 t926 _ A4.out).mono ?_); rintro e w' ⟨rfl, ⟨nd, rfl⟩⟩; refine ⟨_, rfl, ?_⟩) | (refine gl 9 Tryz.func98 #[.int .i64 a1, .int .i64 0] ?_; (with_reducible refine (spec_l1Max.calls a1 0 t927 _ A5.out).mono ?_); rintro e w' ⟨rfl, ⟨nd, rfl⟩⟩; refine ⟨_, rfl, ?_⟩) | (refine gl 10 Tryz.func97 #[.int .i64 t927, .int .i64 1000000] ?_; (with_reducible refine (spec_l1Min.calls t927 1000000 t928 _ A6.out).mono ?_); rintro e w' ⟨rfl, ⟨nd, rfl⟩⟩; refine ⟨_, rfl, ?_⟩) | (refine gl 12 Tryz.func97 #[.int .i64 (wrap64 (t926 + t928)), .int .i64 1000000] ?_; (with_reducible refine (spec_l1Min.calls (wrap64 (t926 + t928)) 1000000 t929 _ A7.out).mono ?_); rintro e w' ⟨rfl, ⟨nd, rfl⟩⟩; refine ⟨_, rfl, ?_⟩))
 go_ret
 exact ⟨rs, dr⟩

/-! ### spec_l7Since: function 94 -/
def spec_l7Since.f (a0 : Int) (a1 : Int) : Option (Int) := if a1 ≤ a0 then (some 0) else (if a0 < 0 then (if a1 > (wrap64 (a0 + 1000000)) then (some 1000000) else ((spec_l1Min.f (wrap64 (a1 - a0)) 1000000).bind fun t930 => (some t930))) else ((spec_l1Min.f (wrap64 (a1 - a0)) 1000000).bind fun t931 => (some t931)))
set_option maxHeartbeats 8000000 in
set_option maxRecDepth 100000 in
theorem spec_l7Since.calls (a0 : Int) (a1 : Int) (r : Int) (w : World) (h : spec_l7Since.f a0 a1 = some r) :
  Calls Tryz.prog 94 #[.int .i64 a0, .int .i64 a1] w fun e w' => e = .returned (.int .i64 r) ∧ Drawn0 w w' := by
 unfold spec_l7Since.f at h
 have H := h
 clear h
 by_cases c3 : a1 ≤ a0
 ·rw [if_pos c3] at H
  have c3b0 := decide_eq_true c3
  clear c3
  obtain rfl := Option.some.inj H
  go_enter Tryz.func94, Tryz.ntmps94
  go_wp2
  go_ret
  exact ⟨rs, dr⟩
 rw [if_neg c3] at H
 have c3b0 := decide_eq_false c3
 clear c3
 by_cases c4 : a0 < 0
 rotate_left
 ·rw [if_neg c4] at H
  have c4b0 := decide_eq_false c4
  clear c4
  revert H
  refine ok1 fun t931 A7 H => ?_
  obtain rfl := Option.some.inj H
  go_enter Tryz.func94, Tryz.ntmps94
  go_wp2_with (first | (refine gl 19 Tryz.func97 #[.int .i64 (wrap64 (a1 - a0)), .int .i64 1000000] ?_; (with_reducible refine (spec_l1Min.calls (wrap64 (a1 - a0)) 1000000 t931 _ A7.out).mono ?_); rintro e w' ⟨rfl, ⟨nd, rfl⟩⟩; refine ⟨_, rfl, ?_⟩))
  go_ret
  exact ⟨rs, dr⟩
 rw [if_pos c4] at H
 have c4b0 := decide_eq_true c4
 clear c4
 by_cases c5 : a1 > (wrap64 (a0 + 1000000))
 ·rw [if_pos c5] at H
  have c5b0 := decide_eq_true c5
  clear c5
  obtain rfl := Option.some.inj H
  go_enter Tryz.func94, Tryz.ntmps94
  go_wp2
  go_ret
  exact ⟨rs, dr⟩
 rw [if_neg c5] at H
 have c5b0 := decide_eq_false c5
 clear c5
 revert H
 refine ok1 fun t930 A6 H => ?_
 obtain rfl := Option.some.inj H
 go_enter Tryz.func94, Tryz.ntmps94
 go_wp2_with (first | (refine gl 19 Tryz.func97 #[.int .i64 (wrap64 (a1 - a0)), .int .i64 1000000] ?_; (with_reducible refine (spec_l1Min.calls (wrap64 (a1 - a0)) 1000000 t930 _ A6.out).mono ?_); rintro e w' ⟨rfl, ⟨nd, rfl⟩⟩; refine ⟨_, rfl, ?_⟩))
 go_ret
 exact ⟨rs, dr⟩

/-! ### spec_AgeAt: function 28 -/
theorem u28HB {p : Prop} (h : p := by repeat (first | (with_reducible first | exact HB.out | apply below_alloc | apply pw_below_drewN | apply below_drew1) | exact HB.out)) : p := h
def spec_AgeAt.j0 : Nat → Int → Int → Int → Bool → Option (Int)
 | 0, _, _, _, _ => none
 | k + 1, x1, x2, x9, x25 => if x25 = true then ((spec_l7Since.f x1 x2).bind fun t936 => ((spec_Plus.f 1000000 t936).bind fun t937 => (some t937))) else ((spec_l7Since.f x1 x2).bind fun t938 => ((spec_Plus.f x9 t938).bind fun t939 => (some t939)))
def spec_AgeAt.f (k : Nat) (l0 : List (S116)) (a1 : Int) (a2 : Int) : Option (Int) := (spec_Get.f k l0 (⟨#[97, 103, 101]⟩ : ByteArray)).bind fun bt932 => ((spec_NumRead.f k bt932.1).bind fun bt934 => (if bt932.2 = true then (spec_AgeAt.j0 k a1 a2 bt934.1 (!bt934.2)) else (spec_AgeAt.j0 k a1 a2 bt934.1 false)))
theorem spec_AgeAt.mono_l : ∀ k, (∀ y0 y1 y2 y3, LeO (spec_AgeAt.j0 k y0 y1 y2 y3) (spec_AgeAt.j0 (k + 1) y0 y1 y2 y3))
 | 0 => fun _ _ _ _ r h => by simp [spec_AgeAt.j0] at h
 | k + 1 => by
  have ih0 := spec_AgeAt.mono_l k
  ·intro y0 y1 y2 y3
   unfold spec_AgeAt.j0
   have m0 := @spec_Get.mono
   have m1 := @spec_NumRead.mono
   exact mo
theorem spec_AgeAt.mono : ∀ a0 a1 a2 k, LeO (spec_AgeAt.f k a0 a1 a2) (spec_AgeAt.f (k + 1) a0 a1 a2) := by
 intro a0 a1 a2 k
 have ih0 := spec_AgeAt.mono_l k
 unfold spec_AgeAt.f
 have m0 := @spec_Get.mono
 have m1 := @spec_NumRead.mono
 exact mo
set_option maxHeartbeats 8000000 in
set_option maxRecDepth 100000 in
theorem spec_AgeAt.calls (k : Nat) (A0 : Option Addr) (c0 : Nat) (l0 : List (S116)) (a1 : Int) (a2 : Int) (r : Int) (w : World) (hr0 : Kd.C k116 w A0 l0.length l0) (hc0 : l0.length ≤ c0) (h : spec_AgeAt.f k l0 a1 a2 = some r) :
  Calls Tryz.prog 28 #[.slice A0 l0.length c0, .int .i64 a1, .int .i64 a2] w fun e w' => e = .returned (.int .i64 r) ∧ Below w.heap.size w w' := by
 have HR0 := am hr0
 have HC0 := am hc0
 clear hr0 hc0
 have HB := am (Below.refl w.heap.size w)
 unfold spec_AgeAt.f at h
 have H := h
 clear h
 revert H
 refine ok2 fun t932 t933 A4 H => ?_
 (try dsimp only at H)
 revert H
 refine ok2 fun t934 t935 A5 H => ?_
 (try dsimp only at H)
 have HC6 := am H
 clear H
 go_enter Tryz.func28, Tryz.ntmps28
 go_upto_region 3 with (first | (refine gl 13 Tryz.func78 #[.slice A0 l0.length c0, .string (⟨#[97, 103, 101]⟩ : ByteArray)] ?_; (with_reducible refine (spec_Get.calls k _ _ l0 (⟨#[97, 103, 101]⟩ : ByteArray) t932 t933 _ ?side1 ?side2 A4.out).mono ?_); (case side1 => exact cc HR0); (case side2 => exact HC0.out); rintro e w' ⟨rfl, ⟨nd, rfl⟩⟩; refine ⟨_, rfl, ?_⟩) | (refine gl 18 Tryz.func93 #[.string t932] ?_; (with_reducible refine (spec_NumRead.calls k t932 t934 t935 _ A5.out).mono ?_); rintro e w7 ⟨rfl, hb⟩; refine ⟨_, rfl, ?_⟩; replace HB := am (below_step bl hb); clear hb))
 (try simp only [Act.put, List.setIfInBounds_toArray, List.set_cons_zero, List.set_cons_succ])
 go_cut [25] (fun v25 wc => ∃ (kq : Nat) (x25_5 : Bool), v25 = .bool x25_5 ∧ Aside0 (spec_AgeAt.j0 kq a1 a2 t934 x25_5 = some r) ∧ Aside0 (kq ≤ k) ∧ Aside0 (Below w.heap.size w wc))
 case first =>
  have H := HC6.out
  clear HC6
  by_cases c8 : t933 = true
  ·subst c8
   rw [if_pos rfl] at H
   have H' := am H
   clear H
   go_wp2
   go_meet
   case rel => exact ⟨_, (!t935), rs, H', ⟨by first | omega | exact Nat.le_refl _⟩, ⟨u28HB⟩⟩
  replace c8 := Bool.eq_false_iff.mpr c8
  subst c8
  rw [if_neg (show ¬ (false = true) by decide)] at H
  have H' := am H
  clear H
  go_wp2
  go_meet
  case rel => exact ⟨_, (false), rs, H', ⟨by first | omega | exact Nat.le_refl _⟩, ⟨u28HB⟩⟩
 case rest =>
  clear HC6
  try clear c2
  try clear p2
  try clear c7
  try clear c8
  obtain ⟨kq, x25_5, rfl, HA, HJ5, HB⟩ := hcut
  cases kq with
  | zero => exact absurd HA.out (by simp [spec_AgeAt.j0])
  | succ kj5 =>
   have H := HA.out
   clear HA
   simp only [spec_AgeAt.j0] at H
   by_cases c9 : x25_5 = true
   ·subst c9
    rw [if_pos rfl] at H
    revert H
    refine ok1 fun t936 A10 H => ?_
    revert H
    refine ok1 fun t937 A11 H => ?_
    obtain rfl := Option.some.inj H
    go_wp2_with (first | (refine gl 29 Tryz.func94 #[.int .i64 a1, .int .i64 a2] ?_; (with_reducible refine (spec_l7Since.calls a1 a2 t936 _ A10.out).mono ?_); rintro e w' ⟨rfl, ⟨nd, rfl⟩⟩; refine ⟨_, rfl, ?_⟩) | (refine gl 30 Tryz.func33 #[.int .i64 1000000, .int .i64 t936] ?_; (with_reducible refine (spec_Plus.calls 1000000 t936 t937 _ A11.out).mono ?_); rintro e w' ⟨rfl, ⟨nd, rfl⟩⟩; refine ⟨_, rfl, ?_⟩))
    go_ret
    exact ⟨rf, bl⟩
   replace c9 := Bool.eq_false_iff.mpr c9
   subst c9
   rw [if_neg (show ¬ (false = true) by decide)] at H
   revert H
   refine ok1 fun t938 A12 H => ?_
   revert H
   refine ok1 fun t939 A13 H => ?_
   obtain rfl := Option.some.inj H
   go_wp2_with (first | (refine gl 29 Tryz.func94 #[.int .i64 a1, .int .i64 a2] ?_; (with_reducible refine (spec_l7Since.calls a1 a2 t938 _ A12.out).mono ?_); rintro e w' ⟨rfl, ⟨nd, rfl⟩⟩; refine ⟨_, rfl, ?_⟩) | (refine gl 30 Tryz.func33 #[.int .i64 t934, .int .i64 t938] ?_; (with_reducible refine (spec_Plus.calls t934 t938 t939 _ A13.out).mono ?_); rintro e w' ⟨rfl, ⟨nd, rfl⟩⟩; refine ⟨_, rfl, ?_⟩))
   go_ret
   exact ⟨rf, bl⟩

/-! ### spec_Life: function 30 -/
attribute [local go_sem high] ccf0 ccf1 ccf2 ccf3 ccf4 ccf5
def spec_Life.f (k : Nat) (l0 : List (S116)) : Option (Int) := (spec_CcOf.f k l0).bind fun bt940 => (some bt940.2.2.2.2.2)
theorem spec_Life.mono : ∀ a0 k, LeO (spec_Life.f k a0) (spec_Life.f (k + 1) a0) := by
 intro a0 k
 unfold spec_Life.f
 have m0 := @spec_CcOf.mono
 exact mo
set_option maxHeartbeats 8000000 in
set_option maxRecDepth 100000 in
theorem spec_Life.calls (k : Nat) (A0 : Option Addr) (c0 : Nat) (l0 : List (S116)) (r : Int) (w : World) (hr0 : Kd.C k116 w A0 l0.length l0) (hc0 : l0.length ≤ c0) (h : spec_Life.f k l0 = some r) :
  Calls Tryz.prog 30 #[.slice A0 l0.length c0] w fun e w' => e = .returned (.int .i64 r) ∧ Below w.heap.size w w' := by
 have HR0 := am hr0
 have HC0 := am hc0
 clear hr0 hc0
 have HB := am (Below.refl w.heap.size w)
 unfold spec_Life.f at h
 have H := h
 clear h
 revert H
 refine ok6 fun t940 t941 t942 t943 t944 t945 A2 H => ?_
 (try dsimp only at H)
 obtain rfl := Option.some.inj H
 go_enter Tryz.func30, Tryz.ntmps30
 go_wp2_with (first | (refine gl 4 Tryz.func42 #[.slice A0 l0.length c0] ?_; (with_reducible refine (spec_CcOf.calls k _ _ l0 t940 t941 t942 t943 t944 t945 _ ?side1 ?side2 A2.out).mono ?_); (case side1 => exact cc HR0); (case side2 => exact HC0.out); rintro e w3 ⟨rfl, hb⟩; refine ⟨_, rfl, ?_⟩; replace HB := am (below_step bl hb); clear hb))
 go_ret
 exact ⟨rf, bl⟩

/-! ### spec_Fresh: function 22 -/
attribute [local go_sem high] ccf0 ccf1 ccf2 ccf3 ccf4 ccf5
def spec_Fresh.f (k : Nat) (l0 : List (S116)) (a1 : Int) (a2 : Int) : Option (Bool) := (spec_AgeAt.f k l0 a1 a2).bind fun t946 => ((spec_Life.f k l0).bind fun t947 => (if t946 < t947 then ((spec_CcOf.f k l0).bind fun bt948 => (some (!bt948.2.1))) else (some false)))
theorem spec_Fresh.mono : ∀ a0 a1 a2 k, LeO (spec_Fresh.f k a0 a1 a2) (spec_Fresh.f (k + 1) a0 a1 a2) := by
 intro a0 a1 a2 k
 unfold spec_Fresh.f
 have m0 := @spec_AgeAt.mono
 have m1 := @spec_CcOf.mono
 have m2 := @spec_Life.mono
 exact mo
set_option maxHeartbeats 8000000 in
set_option maxRecDepth 100000 in
theorem spec_Fresh.calls (k : Nat) (A0 : Option Addr) (c0 : Nat) (l0 : List (S116)) (a1 : Int) (a2 : Int) (r : Bool) (w : World) (hr0 : Kd.C k116 w A0 l0.length l0) (hc0 : l0.length ≤ c0) (h : spec_Fresh.f k l0 a1 a2 = some r) :
  Calls Tryz.prog 22 #[.slice A0 l0.length c0, .int .i64 a1, .int .i64 a2] w fun e w' => e = .returned (.bool r) ∧ Below w.heap.size w w' := by
 have HR0 := am hr0
 have HC0 := am hc0
 clear hr0 hc0
 have HB := am (Below.refl w.heap.size w)
 unfold spec_Fresh.f at h
 have H := h
 clear h
 revert H
 refine ok1 fun t946 A4 H => ?_
 revert H
 refine ok1 fun t947 A5 H => ?_
 by_cases c6 : t946 < t947
 rotate_left
 ·rw [if_neg c6] at H
  have c6b0 := decide_eq_false c6
  clear c6
  obtain rfl := Option.some.inj H
  go_enter Tryz.func22, Tryz.ntmps22
  go_wp2_with (first | (refine gl 10 Tryz.func28 #[.slice A0 l0.length c0, .int .i64 a1, .int .i64 a2] ?_; (with_reducible refine (spec_AgeAt.calls k _ _ l0 a1 a2 t946 _ ?side1 ?side2 A4.out).mono ?_); (case side1 => exact cc HR0); (case side2 => exact HC0.out); rintro e w11 ⟨rfl, hb⟩; refine ⟨_, rfl, ?_⟩; replace HB := am (below_step bl hb); clear hb) | (refine gl 12 Tryz.func30 #[.slice A0 l0.length c0] ?_; (with_reducible refine (spec_Life.calls k _ _ l0 t947 _ ?side1 ?side2 A5.out).mono ?_); (case side1 => exact cb HR0); (case side2 => exact HC0.out); rintro e w12 ⟨rfl, hb⟩; refine ⟨_, rfl, ?_⟩; replace HB := am (below_step bl hb); clear hb))
  go_ret
  exact ⟨rf, bl⟩
 rw [if_pos c6] at H
 have c6b0 := decide_eq_true c6
 clear c6
 revert H
 refine ok6 fun t948 t949 t950 t951 t952 t953 A7 H => ?_
 (try dsimp only at H)
 obtain rfl := Option.some.inj H
 go_enter Tryz.func22, Tryz.ntmps22
 go_wp2_with (first | (refine gl 10 Tryz.func28 #[.slice A0 l0.length c0, .int .i64 a1, .int .i64 a2] ?_; (with_reducible refine (spec_AgeAt.calls k _ _ l0 a1 a2 t946 _ ?side1 ?side2 A4.out).mono ?_); (case side1 => exact cc HR0); (case side2 => exact HC0.out); rintro e w8 ⟨rfl, hb⟩; refine ⟨_, rfl, ?_⟩; replace HB := am (below_step bl hb); clear hb) | (refine gl 12 Tryz.func30 #[.slice A0 l0.length c0] ?_; (with_reducible refine (spec_Life.calls k _ _ l0 t947 _ ?side1 ?side2 A5.out).mono ?_); (case side1 => exact cb HR0); (case side2 => exact HC0.out); rintro e w9 ⟨rfl, hb⟩; refine ⟨_, rfl, ?_⟩; replace HB := am (below_step bl hb); clear hb) | (go_at_call 42; (with_reducible refine (spec_CcOf.calls k _ _ l0 t948 t949 t950 t951 t952 t953 _ ?side1 ?side2 A7.out).mono ?_); (case side1 => exact cb HR0); (case side2 => exact HC0.out); rintro e w10 ⟨rfl, hb⟩; replace HB := am (below_step bl hb); clear hb))
 go_ret
 exact ⟨rf, bl⟩

/-! ### impl_within: function 96 -/
def impl_within.f (a0 : Int) : Option (Int) := some (mx 0 (mn a0 1000000))
set_option maxHeartbeats 8000000 in
set_option maxRecDepth 100000 in
theorem impl_within.calls (a0 : Int) (r : Int) (w : World) (h : impl_within.f a0 = some r) :
  Calls Tryz.prog 96 #[.int .i64 a0] w fun e w' => e = .returned (.int .i64 r) ∧ Below w.heap.size w w' := by
 have HB := am (Below.refl w.heap.size w)
 unfold impl_within.f at h
 have H := h
 clear h
 obtain ⟨ji2, hji2⟩ : ∃ j_ : Int, (mn a0 1000000) = j_ := ⟨_, rfl⟩
 replace H : (some (mx 0 (ji2))) = some r := by first | (rw [hji2] at H; exact H) | (simp only [hji2] at H ⊢; exact H)
 (try (have hji2h : ji2 ≤ 1000000 := by (rw [← hji2]; unfold mn; (repeat' split) <;> omega)))
 (try (have hji2g : ji2 ≤ 64 := by omega))
 have hji2_ : (if 1000000 < a0 then 1000000 else a0) = ji2 := hji2
 obtain ⟨ji3, hji3⟩ : ∃ j_ : Int, (mx 0 (ji2)) = j_ := ⟨_, rfl⟩
 replace H : (some ji3) = some r := by first | (rw [hji3] at H; exact H) | (simp only [hji3] at H ⊢; exact H)
 have hji3_ : (if 0 < (ji2) then (ji2) else 0) = ji3 := hji3
 obtain rfl := Option.some.inj H
 go_enter Tryz.func96, Tryz.ntmps96
 go_wp2
 go_ret
 exact ⟨by first | rfl | (simp [errW_none, errW_some] <;> rfl) | (simp only [← hji2, ← hji3]; first | rfl | (simp [errW_none, errW_some] <;> rfl)) | (simp [*, errW_none, errW_some] <;> rfl), bl⟩

/-! ### impl_Plus: function 32 -/
def impl_Plus.f (a0 : Int) (a1 : Int) : Option (Int) := (impl_within.f a0).bind fun t964 => ((impl_within.f a1).bind fun t965 => ((impl_within.f (wrap64 (t964 + t965))).bind fun t966 => (some t966)))
set_option maxHeartbeats 8000000 in
set_option maxRecDepth 100000 in
theorem impl_Plus.calls (a0 : Int) (a1 : Int) (r : Int) (w : World) (h : impl_Plus.f a0 a1 = some r) :
  Calls Tryz.prog 32 #[.int .i64 a0, .int .i64 a1] w fun e w' => e = .returned (.int .i64 r) ∧ Below w.heap.size w w' := by
 have HB := am (Below.refl w.heap.size w)
 unfold impl_Plus.f at h
 have H := h
 clear h
 revert H
 refine ok1 fun t964 A3 H => ?_
 revert H
 refine ok1 fun t965 A4 H => ?_
 revert H
 refine ok1 fun t966 A5 H => ?_
 obtain rfl := Option.some.inj H
 go_enter Tryz.func32, Tryz.ntmps32
 go_wp2_with (first | (refine gl 6 Tryz.func96 #[.int .i64 a0] ?_; (with_reducible refine (impl_within.calls a0 t964 _ A3.out).mono ?_); rintro e w6 ⟨rfl, hb⟩; refine ⟨_, rfl, ?_⟩; replace HB := am (below_step bl hb); clear hb) | (refine gl 8 Tryz.func96 #[.int .i64 a1] ?_; (with_reducible refine (impl_within.calls a1 t965 _ A4.out).mono ?_); rintro e w7 ⟨rfl, hb⟩; refine ⟨_, rfl, ?_⟩; replace HB := am (below_step bl hb); clear hb) | (refine gl 10 Tryz.func96 #[.int .i64 (wrap64 (t964 + t965))] ?_; (with_reducible refine (impl_within.calls (wrap64 (t964 + t965)) t966 _ A5.out).mono ?_); rintro e w8 ⟨rfl, hb⟩; refine ⟨_, rfl, ?_⟩; replace HB := am (below_step bl hb); clear hb))
 go_ret
 exact ⟨rf, bl⟩

/-! ### impl_since: function 92 -/
def impl_since.f (a0 : Int) (a1 : Int) : Option (Int) := if a1 ≤ a0 then (some 0) else (if (wrap64 (a1 - a0)) < 0 then (some 1000000) else ((impl_within.f (wrap64 (a1 - a0))).bind fun t967 => (some t967)))
set_option maxHeartbeats 8000000 in
set_option maxRecDepth 100000 in
theorem impl_since.calls (a0 : Int) (a1 : Int) (r : Int) (w : World) (h : impl_since.f a0 a1 = some r) :
  Calls Tryz.prog 92 #[.int .i64 a0, .int .i64 a1] w fun e w' => e = .returned (.int .i64 r) ∧ Below w.heap.size w w' := by
 have HB := am (Below.refl w.heap.size w)
 unfold impl_since.f at h
 have H := h
 clear h
 by_cases c3 : a1 ≤ a0
 ·rw [if_pos c3] at H
  have c3b0 := decide_eq_true c3
  clear c3
  obtain rfl := Option.some.inj H
  go_enter Tryz.func92, Tryz.ntmps92
  go_wp2
  go_ret
  exact ⟨rf, bl⟩
 rw [if_neg c3] at H
 have c3b0 := decide_eq_false c3
 clear c3
 by_cases c4 : (wrap64 (a1 - a0)) < 0
 ·rw [if_pos c4] at H
  have c4b0 := decide_eq_true c4
  clear c4
  obtain rfl := Option.some.inj H
  go_enter Tryz.func92, Tryz.ntmps92
  go_wp2
  go_ret
  exact ⟨rf, bl⟩
 rw [if_neg c4] at H
 have c4b0 := decide_eq_false c4
 clear c4
 revert H
 refine ok1 fun t967 A5 H => ?_
 obtain rfl := Option.some.inj H
 go_enter Tryz.func92, Tryz.ntmps92
 go_wp2_with (first | (refine gl 15 Tryz.func96 #[.int .i64 (wrap64 (a1 - a0))] ?_; (with_reducible refine (impl_within.calls (wrap64 (a1 - a0)) t967 _ A5.out).mono ?_); rintro e w6 ⟨rfl, hb⟩; refine ⟨_, rfl, ?_⟩; replace HB := am (below_step bl hb); clear hb))
 go_ret
 exact ⟨rf, bl⟩

/-! ### impl_AgeAt: function 27 -/
def impl_AgeAt.f (l0 : List (S116)) (a1 : Int) (a2 : Int) : Option (Int) := (impl_Get.f l0 (⟨#[97, 103, 101]⟩ : ByteArray)).bind fun bt968 => (if bt968.2 = true then ((impl_NumRead.f bt968.1).bind fun bt970 => (if bt970.2 = true then ((impl_since.f a1 a2).bind fun t972 => ((impl_Plus.f bt970.1 t972).bind fun t973 => (some t973))) else ((impl_since.f a1 a2).bind fun t974 => ((impl_Plus.f 1000000 t974).bind fun t975 => (some t975))))) else ((impl_since.f a1 a2).bind fun t976 => ((impl_Plus.f 0 t976).bind fun t977 => (some t977))))
set_option maxHeartbeats 8000000 in
set_option maxRecDepth 100000 in
theorem impl_AgeAt.calls (A0 : Option Addr) (c0 : Nat) (l0 : List (S116)) (a1 : Int) (a2 : Int) (r : Int) (w : World) (hGE : GLOBE w) (hGT : GLOBT w) (hr0 : Kd.C k116 w A0 l0.length l0) (hc0 : l0.length ≤ c0) (h : impl_AgeAt.f l0 a1 a2 = some r) :
  Calls Tryz.prog 27 #[.slice A0 l0.length c0, .int .i64 a1, .int .i64 a2] w fun e w' => e = .returned (.int .i64 r) ∧ Below w.heap.size w w' := by
 have HR0 := am hr0
 have HC0 := am hc0
 clear hr0 hc0
 have HGE := am hGE
 clear hGE
 have HGT := am hGT
 clear hGT
 have HB := am (Below.refl w.heap.size w)
 unfold impl_AgeAt.f at h
 have H := h
 clear h
 revert H
 refine ok2 fun t968 t969 A4 H => ?_
 (try dsimp only at H)
 by_cases c5 : t969 = true
 rotate_left
 ·replace c5 := Bool.eq_false_iff.mpr c5
  subst c5
  rw [if_neg (show ¬ (false = true) by decide)] at H
  revert H
  refine ok1 fun t976 A20 H => ?_
  revert H
  refine ok1 fun t977 A21 H => ?_
  obtain rfl := Option.some.inj H
  go_enter Tryz.func27, Tryz.ntmps27
  go_wp2_with (first | (refine gl 14 Tryz.func75 #[.slice A0 l0.length c0, .string (⟨#[97, 103, 101]⟩ : ByteArray)] ?_; (with_reducible refine (impl_Get.calls _ _ l0 (⟨#[97, 103, 101]⟩ : ByteArray) t968 false _ ?side1 ?side2 A4.out).mono ?_); (case side1 => exact cc HR0); (case side2 => exact HC0.out); rintro e w22 ⟨rfl, hb⟩; refine ⟨_, rfl, ?_⟩; replace HB := am (below_step bl hb); clear hb) | (refine gl 29 Tryz.func92 #[.int .i64 a1, .int .i64 a2] ?_; (with_reducible refine (impl_since.calls a1 a2 t976 _ A20.out).mono ?_); rintro e w23 ⟨rfl, hb⟩; refine ⟨_, rfl, ?_⟩; replace HB := am (below_step bl hb); clear hb) | (refine gl 30 Tryz.func32 #[.int .i64 0, .int .i64 t976] ?_; (with_reducible refine (impl_Plus.calls 0 t976 t977 _ A21.out).mono ?_); rintro e w24 ⟨rfl, hb⟩; refine ⟨_, rfl, ?_⟩; replace HB := am (below_step bl hb); clear hb))
  go_ret
  exact ⟨rf, bl⟩
 subst c5
 rw [if_pos rfl] at H
 revert H
 refine ok2 fun t970 t971 A6 H => ?_
 (try dsimp only at H)
 by_cases c7 : t971 = true
 ·subst c7
  rw [if_pos rfl] at H
  revert H
  refine ok1 fun t972 A8 H => ?_
  revert H
  refine ok1 fun t973 A9 H => ?_
  obtain rfl := Option.some.inj H
  go_enter Tryz.func27, Tryz.ntmps27
  go_wp2_with (first | (refine gl 14 Tryz.func75 #[.slice A0 l0.length c0, .string (⟨#[97, 103, 101]⟩ : ByteArray)] ?_; (with_reducible refine (impl_Get.calls _ _ l0 (⟨#[97, 103, 101]⟩ : ByteArray) t968 true _ ?side1 ?side2 A4.out).mono ?_); (case side1 => exact cc HR0); (case side2 => exact HC0.out); rintro e w10 ⟨rfl, hb⟩; refine ⟨_, rfl, ?_⟩; replace HB := am (below_step bl hb); clear hb) | (refine gl 20 Tryz.func91 #[.string t968] ?_; (with_reducible refine (impl_NumRead.calls t968 t970 true _ ?side1 ?side2 A6.out).mono ?_); (case side1 => exact GLOBE.below HGE.out bl); (case side2 => exact GLOBT.below HGT.out bl); rintro e w11 ⟨rfl, hb⟩; refine ⟨_, rfl, ?_⟩; replace HB := am (below_step bl hb); clear hb) | (refine gl 29 Tryz.func92 #[.int .i64 a1, .int .i64 a2] ?_; (with_reducible refine (impl_since.calls a1 a2 t972 _ A8.out).mono ?_); rintro e w12 ⟨rfl, hb⟩; refine ⟨_, rfl, ?_⟩; replace HB := am (below_step bl hb); clear hb) | (refine gl 30 Tryz.func32 #[.int .i64 t970, .int .i64 t972] ?_; (with_reducible refine (impl_Plus.calls t970 t972 t973 _ A9.out).mono ?_); rintro e w13 ⟨rfl, hb⟩; refine ⟨_, rfl, ?_⟩; replace HB := am (below_step bl hb); clear hb))
  go_ret
  exact ⟨rf, bl⟩
 replace c7 := Bool.eq_false_iff.mpr c7
 subst c7
 rw [if_neg (show ¬ (false = true) by decide)] at H
 revert H
 refine ok1 fun t974 A14 H => ?_
 revert H
 refine ok1 fun t975 A15 H => ?_
 obtain rfl := Option.some.inj H
 go_enter Tryz.func27, Tryz.ntmps27
 go_wp2_with (first | (refine gl 14 Tryz.func75 #[.slice A0 l0.length c0, .string (⟨#[97, 103, 101]⟩ : ByteArray)] ?_; (with_reducible refine (impl_Get.calls _ _ l0 (⟨#[97, 103, 101]⟩ : ByteArray) t968 true _ ?side1 ?side2 A4.out).mono ?_); (case side1 => exact cc HR0); (case side2 => exact HC0.out); rintro e w16 ⟨rfl, hb⟩; refine ⟨_, rfl, ?_⟩; replace HB := am (below_step bl hb); clear hb) | (refine gl 20 Tryz.func91 #[.string t968] ?_; (with_reducible refine (impl_NumRead.calls t968 t970 false _ ?side1 ?side2 A6.out).mono ?_); (case side1 => exact GLOBE.below HGE.out bl); (case side2 => exact GLOBT.below HGT.out bl); rintro e w17 ⟨rfl, hb⟩; refine ⟨_, rfl, ?_⟩; replace HB := am (below_step bl hb); clear hb) | (refine gl 29 Tryz.func92 #[.int .i64 a1, .int .i64 a2] ?_; (with_reducible refine (impl_since.calls a1 a2 t974 _ A14.out).mono ?_); rintro e w18 ⟨rfl, hb⟩; refine ⟨_, rfl, ?_⟩; replace HB := am (below_step bl hb); clear hb) | (refine gl 30 Tryz.func32 #[.int .i64 1000000, .int .i64 t974] ?_; (with_reducible refine (impl_Plus.calls 1000000 t974 t975 _ A15.out).mono ?_); rintro e w19 ⟨rfl, hb⟩; refine ⟨_, rfl, ?_⟩; replace HB := am (below_step bl hb); clear hb))
 go_ret
 exact ⟨rf, bl⟩

/-! ### impl_Life: function 29 -/
attribute [local go_sem high] ccf0 ccf1 ccf2 ccf3 ccf4 ccf5
def impl_Life.f (k : Nat) (l0 : List (S116)) : Option (Int) := (impl_CcOf.f k l0).bind fun bt994 => (some bt994.2.2.2.2.2)
theorem impl_Life.mono : ∀ a0 k, LeO (impl_Life.f k a0) (impl_Life.f (k + 1) a0) := by
 intro a0 k
 unfold impl_Life.f
 have m0 := @impl_CcOf.mono
 exact mo
set_option maxHeartbeats 8000000 in
set_option maxRecDepth 100000 in
theorem impl_Life.calls (k : Nat) (A0 : Option Addr) (c0 : Nat) (l0 : List (S116)) (r : Int) (w : World) (hGE : GLOBE w) (hGM : GLOBM w) (hGT : GLOBT w) (hr0 : Kd.C k116 w A0 l0.length l0) (hc0 : l0.length ≤ c0) (h : impl_Life.f k l0 = some r) :
  Calls Tryz.prog 29 #[.slice A0 l0.length c0] w fun e w' => e = .returned (.int .i64 r) ∧ Below w.heap.size w w' := by
 have HR0 := am hr0
 have HC0 := am hc0
 clear hr0 hc0
 have HGE := am hGE
 clear hGE
 have HGM := am hGM
 clear hGM
 have HGT := am hGT
 clear hGT
 have HB := am (Below.refl w.heap.size w)
 unfold impl_Life.f at h
 have H := h
 clear h
 revert H
 refine ok6 fun t994 t995 t996 t997 t998 t999 A2 H => ?_
 (try dsimp only at H)
 obtain rfl := Option.some.inj H
 go_enter Tryz.func29, Tryz.ntmps29
 go_wp2_with (first | (refine gl 4 Tryz.func41 #[.slice A0 l0.length c0] ?_; (with_reducible refine (impl_CcOf.calls k _ _ l0 t994 t995 t996 t997 t998 t999 _ ?side1 ?side2 ?side3 ?side4 ?side5 A2.out).mono ?_); (case side1 => exact GLOBE.below HGE.out bl); (case side2 => exact GLOBM.below HGM.out bl); (case side3 => exact GLOBT.below HGT.out bl); (case side4 => exact cc HR0); (case side5 => exact HC0.out); rintro e w3 ⟨rfl, hb⟩; refine ⟨_, rfl, ?_⟩; replace HB := am (below_step bl hb); clear hb))
 go_ret
 exact ⟨rf, bl⟩

/-! ### impl_Fresh: function 24 -/
attribute [local go_sem high] ccf0 ccf1 ccf2 ccf3 ccf4 ccf5
def impl_Fresh.f (k : Nat) (l0 : List (S116)) (a1 : Int) (a2 : Int) : Option (Bool) := (impl_AgeAt.f l0 a1 a2).bind fun t1000 => ((impl_Life.f k l0).bind fun t1001 => (if t1000 < t1001 then ((impl_CcOf.f k l0).bind fun bt1002 => (some (!bt1002.2.1))) else (some false)))
theorem impl_Fresh.mono : ∀ a0 a1 a2 k, LeO (impl_Fresh.f k a0 a1 a2) (impl_Fresh.f (k + 1) a0 a1 a2) := by
 intro a0 a1 a2 k
 unfold impl_Fresh.f
 have m0 := @impl_CcOf.mono
 have m1 := @impl_Life.mono
 exact mo
set_option maxHeartbeats 8000000 in
set_option maxRecDepth 100000 in
theorem impl_Fresh.calls (k : Nat) (A0 : Option Addr) (c0 : Nat) (l0 : List (S116)) (a1 : Int) (a2 : Int) (r : Bool) (w : World) (hGE : GLOBE w) (hGM : GLOBM w) (hGT : GLOBT w) (hr0 : Kd.C k116 w A0 l0.length l0) (hc0 : l0.length ≤ c0) (h : impl_Fresh.f k l0 a1 a2 = some r) :
  Calls Tryz.prog 24 #[.slice A0 l0.length c0, .int .i64 a1, .int .i64 a2] w fun e w' => e = .returned (.bool r) ∧ Below w.heap.size w w' := by
 have HR0 := am hr0
 have HC0 := am hc0
 clear hr0 hc0
 have HGE := am hGE
 clear hGE
 have HGM := am hGM
 clear hGM
 have HGT := am hGT
 clear hGT
 have HB := am (Below.refl w.heap.size w)
 unfold impl_Fresh.f at h
 have H := h
 clear h
 revert H
 refine ok1 fun t1000 A4 H => ?_
 revert H
 refine ok1 fun t1001 A5 H => ?_
 by_cases c6 : t1000 < t1001
 rotate_left
 ·rw [if_neg c6] at H
  have c6b0 := decide_eq_false c6
  clear c6
  obtain rfl := Option.some.inj H
  go_enter Tryz.func24, Tryz.ntmps24
  go_wp2_with (first | (refine gl 10 Tryz.func27 #[.slice A0 l0.length c0, .int .i64 a1, .int .i64 a2] ?_; (with_reducible refine (impl_AgeAt.calls _ _ l0 a1 a2 t1000 _ ?side1 ?side2 ?side3 ?side4 A4.out).mono ?_); (case side1 => exact GLOBE.below HGE.out bl); (case side2 => exact GLOBT.below HGT.out bl); (case side3 => exact cc HR0); (case side4 => exact HC0.out); rintro e w11 ⟨rfl, hb⟩; refine ⟨_, rfl, ?_⟩; replace HB := am (below_step bl hb); clear hb) | (refine gl 12 Tryz.func29 #[.slice A0 l0.length c0] ?_; (with_reducible refine (impl_Life.calls k _ _ l0 t1001 _ ?side1 ?side2 ?side3 ?side4 ?side5 A5.out).mono ?_); (case side1 => exact GLOBE.below HGE.out bl); (case side2 => exact GLOBM.below HGM.out bl); (case side3 => exact GLOBT.below HGT.out bl); (case side4 => exact cb HR0); (case side5 => exact HC0.out); rintro e w12 ⟨rfl, hb⟩; refine ⟨_, rfl, ?_⟩; replace HB := am (below_step bl hb); clear hb))
  go_ret
  exact ⟨rf, bl⟩
 rw [if_pos c6] at H
 have c6b0 := decide_eq_true c6
 clear c6
 revert H
 refine ok6 fun t1002 t1003 t1004 t1005 t1006 t1007 A7 H => ?_
 (try dsimp only at H)
 obtain rfl := Option.some.inj H
 go_enter Tryz.func24, Tryz.ntmps24
 go_wp2_with (first | (refine gl 10 Tryz.func27 #[.slice A0 l0.length c0, .int .i64 a1, .int .i64 a2] ?_; (with_reducible refine (impl_AgeAt.calls _ _ l0 a1 a2 t1000 _ ?side1 ?side2 ?side3 ?side4 A4.out).mono ?_); (case side1 => exact GLOBE.below HGE.out bl); (case side2 => exact GLOBT.below HGT.out bl); (case side3 => exact cc HR0); (case side4 => exact HC0.out); rintro e w8 ⟨rfl, hb⟩; refine ⟨_, rfl, ?_⟩; replace HB := am (below_step bl hb); clear hb) | (refine gl 12 Tryz.func29 #[.slice A0 l0.length c0] ?_; (with_reducible refine (impl_Life.calls k _ _ l0 t1001 _ ?side1 ?side2 ?side3 ?side4 ?side5 A5.out).mono ?_); (case side1 => exact GLOBE.below HGE.out bl); (case side2 => exact GLOBM.below HGM.out bl); (case side3 => exact GLOBT.below HGT.out bl); (case side4 => exact cb HR0); (case side5 => exact HC0.out); rintro e w9 ⟨rfl, hb⟩; refine ⟨_, rfl, ?_⟩; replace HB := am (below_step bl hb); clear hb) | (go_at_call 41; (with_reducible refine (impl_CcOf.calls k _ _ l0 t1002 t1003 t1004 t1005 t1006 t1007 _ ?side1 ?side2 ?side3 ?side4 ?side5 A7.out).mono ?_); (case side1 => exact GLOBE.below HGE.out bl); (case side2 => exact GLOBM.below HGM.out bl); (case side3 => exact GLOBT.below HGT.out bl); (case side4 => exact cb HR0); (case side5 => exact HC0.out); rintro e w10 ⟨rfl, hb⟩; replace HB := am (below_step bl hb); clear hb))
 go_ret
 exact ⟨rf, bl⟩

end Go.Proofs.YtdbgkookjpgnnaaGreatDoor.All
