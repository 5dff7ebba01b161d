-- Written by a program of this session (wip/tools/hprint.py) out of the translation. Lean checks it.
import Derived.Test.YtjlpjbkpmmpojaaGreatDoorAllx0
import Derived.Test.YtjlpjbkpmmpojaaGreatDoorAllx1
import Derived.Test.YtjlpjbkpmmpojaaGreatDoorAllx2
import Derived.Test.YtjlpjbkpmmpojaaGreatDoorAllx3
namespace Go.Proofs.YtjlpjbkpmmpojaaGreatDoor.All
open Go.RowKit Go.Proofs.YtjlpjbkpmmpojaaGreatDoorW.PrintWords Go.Proofs.YtjlpjbkpmmpojaaGreatDoorW.PrintLast Go.Proofs.YtjlpjbkpmmpojaaGreatDoorW.PrintMore
attribute [local go_sem] max2_int min2_int max_two min_two max_three min_three max_four min_four   -- for this text's walks alone
set_option linter.unusedVariables false
set_option linter.unusedSimpArgs false

/-! ### spec_CcText: function 21 -/
theorem u21HB {p : Prop} (h : p := by repeat (first | (with_reducible first | exact HB.out | apply below_alloc | apply pw_below_drewN | apply below_drew1 | refine below_set ?_ GE965.out) | exact HB.out)) : p := h
mutual
def spec_CcText.j0 : Nat → Bool → Bool → Bool → Bool → Bool → Bool → Int → Option (ByteArray)
 | 0, _, _, _, _, _, _, _ => none
 | k + 1, x13, x966000, x966001, x966002, x966003, x966004, x966005 => if x13 = true then (some (⟨#[]⟩ : ByteArray)) else ((some (([] : List ByteArray) : List ByteArray)).bind fun y967 => (if x966000 = true then (if y967.length < 8796093022208 then (spec_CcText.j1 k (y967 ++ [(⟨#[110, 111, 45, 115, 116, 111, 114, 101]⟩ : ByteArray)]) x966000 x966001 x966002 x966003 x966004 x966005) else (none)) else (spec_CcText.j1 k y967 x966000 x966001 x966002 x966003 x966004 x966005)))
def spec_CcText.j1 : Nat → List ByteArray → Bool → Bool → Bool → Bool → Bool → Int → Option (ByteArray)
 | 0, _, _, _, _, _, _, _ => none
 | k + 1, x3, x966000, x966001, x966002, x966003, x966004, x966005 => if x966001 = true then (if x3.length < 8796093022208 then (spec_CcText.j2 k (x3 ++ [(⟨#[110, 111, 45, 99, 97, 99, 104, 101]⟩ : ByteArray)]) x966000 x966001 x966002 x966003 x966004 x966005) else (none)) else (spec_CcText.j2 k x3 x966000 x966001 x966002 x966003 x966004 x966005)
def spec_CcText.j2 : Nat → List ByteArray → Bool → Bool → Bool → Bool → Bool → Int → Option (ByteArray)
 | 0, _, _, _, _, _, _, _ => none
 | k + 1, x3, x966000, x966001, x966002, x966003, x966004, x966005 => if x966002 = true then (if x3.length < 8796093022208 then (spec_CcText.j3 k (x3 ++ [(⟨#[112, 114, 105, 118, 97, 116, 101]⟩ : ByteArray)]) x966000 x966001 x966002 x966003 x966004 x966005) else (none)) else (spec_CcText.j3 k x3 x966000 x966001 x966002 x966003 x966004 x966005)
def spec_CcText.j3 : Nat → List ByteArray → Bool → Bool → Bool → Bool → Bool → Int → Option (ByteArray)
 | 0, _, _, _, _, _, _, _ => none
 | k + 1, x3, x966000, x966001, x966002, x966003, x966004, x966005 => if x966003 = true then (if x3.length < 8796093022208 then (spec_CcText.j4 k (x3 ++ [(⟨#[109, 117, 115, 116, 45, 114, 101, 118, 97, 108, 105, 100, 97, 116, 101]⟩ : ByteArray)]) x966000 x966001 x966002 x966003 x966004 x966005) else (none)) else (spec_CcText.j4 k x3 x966000 x966001 x966002 x966003 x966004 x966005)
def spec_CcText.j4 : Nat → List ByteArray → Bool → Bool → Bool → Bool → Bool → Int → Option (ByteArray)
 | 0, _, _, _, _, _, _, _ => none
 | k + 1, x3, x966000, x966001, x966002, x966003, x966004, x966005 => if x966004 = true then ((spec_NumText.f k x966005).bind fun t982 => (if 8 + t982.size ≤ 9223372036854775807 then (if x3.length < 8796093022208 then (spec_CcText.j5 k (x3 ++ [(⟨#[109, 97, 120, 45, 97, 103, 101, 61]⟩ : ByteArray) ++ t982])) else (none)) else (none))) else (spec_CcText.j5 k x3)
def spec_CcText.j5 : Nat → List ByteArray → Option (ByteArray)
 | 0, _ => none
 | k + 1, x3 => spec_CcText.l0 k x3 (⟨#[]⟩ : ByteArray) 0
def spec_CcText.l0 : Nat → List ByteArray → ByteArray → Int → Option (ByteArray)
 | 0, _, _, _ => none
 | k + 1, x3, x4, x5 => if x5 < (x3.length : Int) then (if x5 > 0 then (if x4.size + 2 ≤ 9223372036854775807 then (if 0 ≤ x5 then (if (x4 ++ (⟨#[44, 32]⟩ : ByteArray)).size + (rdOf ByteArray.empty x3 x5).size ≤ 9223372036854775807 then (spec_CcText.l0 k x3 ((x4 ++ (⟨#[44, 32]⟩ : ByteArray)) ++ (rdOf ByteArray.empty x3 x5)) (wrap64 (x5 + 1))) else (none)) else (none)) else (none)) else (if 0 ≤ x5 then (if x4.size + (rdOf ByteArray.empty x3 x5).size ≤ 9223372036854775807 then (spec_CcText.l0 k x3 (x4 ++ (rdOf ByteArray.empty x3 x5)) (wrap64 (x5 + 1))) else (none)) else (none))) else (some x4)
end
def spec_CcText.f (k : Nat) (a0_0 : Bool) (a0_1 : Bool) (a0_2 : Bool) (a0_3 : Bool) (a0_4 : Bool) (a0_5 : Int) : Option (ByteArray) := if a0_4 = true then ((spec_l1In.f a0_5 0 1000000).bind fun t966 => (spec_CcText.j0 k (!t966) a0_0 a0_1 a0_2 a0_3 a0_4 a0_5)) else (spec_CcText.j0 k false a0_0 a0_1 a0_2 a0_3 a0_4 a0_5)
theorem spec_CcText.mono_l : ∀ k, (∀ y0 y1 y2 y3 y4 y5 y6, LeO (spec_CcText.j0 k y0 y1 y2 y3 y4 y5 y6) (spec_CcText.j0 (k + 1) y0 y1 y2 y3 y4 y5 y6)) ∧ (∀ y0 y1 y2 y3 y4 y5 y6, LeO (spec_CcText.j1 k y0 y1 y2 y3 y4 y5 y6) (spec_CcText.j1 (k + 1) y0 y1 y2 y3 y4 y5 y6)) ∧ (∀ y0 y1 y2 y3 y4 y5 y6, LeO (spec_CcText.j2 k y0 y1 y2 y3 y4 y5 y6) (spec_CcText.j2 (k + 1) y0 y1 y2 y3 y4 y5 y6)) ∧ (∀ y0 y1 y2 y3 y4 y5 y6, LeO (spec_CcText.j3 k y0 y1 y2 y3 y4 y5 y6) (spec_CcText.j3 (k + 1) y0 y1 y2 y3 y4 y5 y6)) ∧ (∀ y0 y1 y2 y3 y4 y5 y6, LeO (spec_CcText.j4 k y0 y1 y2 y3 y4 y5 y6) (spec_CcText.j4 (k + 1) y0 y1 y2 y3 y4 y5 y6)) ∧ (∀ y0, LeO (spec_CcText.j5 k y0) (spec_CcText.j5 (k + 1) y0)) ∧ (∀ y0 y1 y2, LeO (spec_CcText.l0 k y0 y1 y2) (spec_CcText.l0 (k + 1) y0 y1 y2))
 | 0 => ⟨fun _ _ _ _ _ _ _ r h => by simp [spec_CcText.j0] at h, fun _ _ _ _ _ _ _ r h => by simp [spec_CcText.j1] at h, fun _ _ _ _ _ _ _ r h => by simp [spec_CcText.j2] at h, fun _ _ _ _ _ _ _ r h => by simp [spec_CcText.j3] at h, fun _ _ _ _ _ _ _ r h => by simp [spec_CcText.j4] at h, fun _ r h => by simp [spec_CcText.j5] at h, fun _ _ _ r h => by simp [spec_CcText.l0] at h⟩
 | k + 1 => by
  obtain ⟨ih0, ih1, ih2, ih3, ih4, ih5, ih6⟩ := spec_CcText.mono_l k
  refine ⟨?_, ?_, ?_, ?_, ?_, ?_, ?_⟩
  ·intro y0 y1 y2 y3 y4 y5 y6
   unfold spec_CcText.j0
   have m0 := @spec_NumText.mono
   exact mo
  ·intro y0 y1 y2 y3 y4 y5 y6
   unfold spec_CcText.j1
   have m0 := @spec_NumText.mono
   exact mo
  ·intro y0 y1 y2 y3 y4 y5 y6
   unfold spec_CcText.j2
   have m0 := @spec_NumText.mono
   exact mo
  ·intro y0 y1 y2 y3 y4 y5 y6
   unfold spec_CcText.j3
   have m0 := @spec_NumText.mono
   exact mo
  ·intro y0 y1 y2 y3 y4 y5 y6
   unfold spec_CcText.j4
   have m0 := @spec_NumText.mono
   exact mo
  ·intro y0
   unfold spec_CcText.j5
   have m0 := @spec_NumText.mono
   exact mo
  ·intro y0 y1 y2
   unfold spec_CcText.l0
   have m0 := @spec_NumText.mono
   exact mo
theorem spec_CcText.mono : ∀ a0 a1 a2 a3 a4 a5 k, LeO (spec_CcText.f k a0 a1 a2 a3 a4 a5) (spec_CcText.f (k + 1) a0 a1 a2 a3 a4 a5) := by
 intro a0 a1 a2 a3 a4 a5 k
 obtain ⟨ih0, ih1, ih2, ih3, ih4, ih5, ih6⟩ := spec_CcText.mono_l k
 unfold spec_CcText.f
 have m0 := @spec_NumText.mono
 exact mo
set_option maxHeartbeats 8000000 in
set_option maxRecDepth 100000 in
theorem spec_CcText.calls (k : Nat) (a0_0 : Bool) (a0_1 : Bool) (a0_2 : Bool) (a0_3 : Bool) (a0_4 : Bool) (a0_5 : Int) (r : ByteArray) (w : World) (h : spec_CcText.f k a0_0 a0_1 a0_2 a0_3 a0_4 a0_5 = some r) :
  Calls Tryz.prog 21 #[.agg #[.bool a0_0, .bool a0_1, .bool a0_2, .bool a0_3, .bool a0_4, .int .i64 a0_5]] w fun e w' => e = .returned (.string r) ∧ Below w.heap.size w w' := by
 have hu42 := Tryz.underlying42
 have HB := am (Below.refl w.heap.size w)
 unfold spec_CcText.f at h
 have H := h
 clear h
 have HC2 := am H
 clear H
 go_enter Tryz.func21, Tryz.ntmps21
 go_upto_region 1 with ((with_reducible refine gw ?_); first | (refine bx 1 #[.bool a0_0, .bool a0_1, .bool a0_2, .bool a0_3, .bool a0_4, .int .i64 a0_5] 42 ?_; intro gb965 hg w3 hbox hb; have BK965 := am (hbox); have GW965 := am (sz hg : w.heap.size ≤ gb965); have GE965 := am (sz hg : w.heap.size ≤ gb965); replace HB := am (below_step bl hb); clear hb hbox hg))
 (try simp only [Act.put, List.setIfInBounds_toArray, List.set_cons_zero, List.set_cons_succ])
 go_cut [13] (fun v13 wc => ∃ (kq : Nat) (x13_1 : Bool), v13 = .bool x13_1 ∧ Aside0 (spec_CcText.j0 kq x13_1 a0_0 a0_1 a0_2 a0_3 a0_4 a0_5 = some r) ∧ Aside0 (kq ≤ k) ∧ Aside0 (wc.heap[gb965]? = some (.cells #[.bool a0_0, .bool a0_1, .bool a0_2, .bool a0_3, .bool a0_4, .int .i64 a0_5] 42 (0, 0))) ∧ Aside0 (Below w.heap.size w wc))
 case first =>
  have H := HC2.out
  clear HC2
  by_cases c4 : a0_4 = true
  rotate_left
  ·replace c4 := Bool.eq_false_iff.mpr c4
   subst c4
   rw [if_neg (show ¬ (false = true) by decide)] at H
   have H' := am H
   clear H
   obtain ⟨z7_0, y7_0, z7_1, y7_1, z7_2, y7_2, z7_3, y7_3, z7_4, y7_4, z7_5, y7_5⟩ := cl6 BK965
   go_wp2
   go_meet
   case rel => exact ⟨_, (false), rs, H', ⟨by first | omega | exact Nat.le_refl _⟩, ⟨by (with_reducible repeat (first | refine blk_drewN ?_ _ | refine blk_drew ?_ | refine blk_alloc ?_ _)); exact BK965.out⟩, ⟨u21HB⟩⟩
  subst c4
  rw [if_pos rfl] at H
  revert H
  refine ok1 fun t966 A5 H => ?_
  have H' := am H
  clear H
  obtain ⟨z6_0, y6_0, z6_1, y6_1, z6_2, y6_2, z6_3, y6_3, z6_4, y6_4, z6_5, y6_5⟩ := cl6 BK965
  go_wp2_with (first | (go_at_call 79; (with_reducible refine (spec_l1In.calls a0_5 0 1000000 t966 _ A5.out).mono ?_); rintro e w' ⟨rfl, ⟨nd, rfl⟩⟩))
  go_meet
  case rel => exact ⟨_, (!t966), rs, H', ⟨by first | omega | exact Nat.le_refl _⟩, ⟨by (with_reducible repeat (first | refine blk_drewN ?_ _ | refine blk_drew ?_ | refine blk_alloc ?_ _)); exact BK965.out⟩, ⟨u21HB⟩⟩
 case rest =>
  clear HC2
  try clear c2
  try clear p2
  try clear c4
  try clear z6_0
  try clear z6_1
  try clear z6_2
  try clear z6_3
  try clear z6_4
  try clear z6_5
  try clear z7_0
  try clear z7_1
  try clear z7_2
  try clear z7_3
  try clear z7_4
  try clear z7_5
  try clear y6_0
  try clear y6_1
  try clear y6_2
  try clear y6_3
  try clear y6_4
  try clear y6_5
  try clear y7_0
  try clear y7_1
  try clear y7_2
  try clear y7_3
  try clear y7_4
  try clear y7_5
  obtain ⟨kq, x13_1, rfl, HA, HJ1, BK965, HB⟩ := hcut
  cases kq with
  | zero => exact absurd HA.out (by simp [spec_CcText.j0])
  | succ kj1 =>
   have H := HA.out
   clear HA
   simp only [spec_CcText.j0] at H
   by_cases c8 : x13_1 = true
   ·subst c8
    rw [if_pos rfl] at H
    obtain rfl := Option.some.inj H
    go_wp2
    go_ret
    exact ⟨rf, bl⟩
   replace c8 := Bool.eq_false_iff.mpr c8
   subst c8
   rw [if_neg (show ¬ (false = true) by decide)] at H
   obtain ⟨y967, hy967⟩ : ∃ y_ : List ByteArray, y_ = (([] : List ByteArray)) := ⟨_, rfl⟩
   replace H : (if a0_0 = true then (if y967.length < 8796093022208 then (spec_CcText.j1 kj1 (y967 ++ [(⟨#[110, 111, 45, 115, 116, 111, 114, 101]⟩ : ByteArray)]) a0_0 a0_1 a0_2 a0_3 a0_4 a0_5) else (none)) else (spec_CcText.j1 kj1 y967 a0_0 a0_1 a0_2 a0_3 a0_4 a0_5)) = some r := by first | (rw [hy967]; with_reducible exact H) | (have H2_ := (Option.bind_some _ _).symm.trans H; rw [hy967]; with_reducible exact H2_) | (have H2_ := (Option.bind_some _ _).symm.trans H; with_reducible exact H2_) | with_reducible exact H | (rw [hy967]; exact H) | exact H
   have Ny967 := am hy967
   clear hy967
   have HC9 := am H
   clear H
   go_upto_if 16 with (first | ((with_reducible refine gate_dst (N := 14) rfl ?_); refine Kd.R_lit Kd.string _ 9 ?hg (N := 14) ?hd (xs := ([] : List ByteArray)) (inner := []) (ok := fun _ => True) (okp := fun _ => True) ?hr ?hp (fun _ hk => hk) trivial (Below.refl _ _) (Nat.le_refl _) (by simp) ?_; (case hd => rfl); (case hg => rfl); (case hr => first | (go_simp; done) | (go_simp; rfl)); (case hp => exact (Reps.none _ _)); intro v968 w10 ho11 hb hg_ hnew_; clear hg_ hnew_; (first | rw [← Ny967.out] at ho11 | (simp only [Int.reduceToNat] at ho11; rw [← Ny967.out] at ho11)); have HO969 := am (Kd.R_lower ho11 (below_size bl)); replace BK965 := kb BK965 hb; replace HB := am (below_step bl hb); clear hb ho11; obtain ⟨z12_0, y12_0, z12_1, y12_1, z12_2, y12_2, z12_3, y12_3, z12_4, y12_4, z12_5, y12_5⟩ := cl6 BK965))
   (try simp only [Act.put, List.setIfInBounds_toArray, List.set_cons_zero, List.set_cons_succ])
   go_cut [3] (fun v3 wc => ∃ (kq : Nat) (x3_8 : List ByteArray), Aside0 (spec_CcText.j1 kq x3_8 a0_0 a0_1 a0_2 a0_3 a0_4 a0_5 = some r) ∧ Aside0 (kq ≤ kj1) ∧ Aside0 (Kd.R Kd.string 9 wc w.heap.size (fun _ => True) v3 x3_8) ∧ Aside0 (wc.heap[gb965]? = some (.cells #[.bool a0_0, .bool a0_1, .bool a0_2, .bool a0_3, .bool a0_4, .int .i64 a0_5] 42 (0, 0))) ∧ Aside0 (Below w.heap.size w wc))
   case first =>
    have H := HC9.out
    clear HC9
    by_cases c13 : a0_0 = true
    rotate_left
    ·replace c13 := Bool.eq_false_iff.mpr c13
     subst c13
     rw [if_neg (show ¬ (false = true) by decide)] at H
     have H' := am H
     clear H
     go_wp2
     go_meet
     case rel => exact ⟨_, (y967), H', ⟨by have := HJ1.out; first | omega | exact Nat.le_refl _⟩, ⟨by (with_reducible repeat (first | apply Kd.R_alloc | apply Kd.R_drewN | apply Kd.R_drew)); exact HO969.out⟩, ⟨by (with_reducible repeat (first | refine blk_drewN ?_ _ | refine blk_drew ?_ | refine blk_alloc ?_ _)); exact BK965.out⟩, ⟨u21HB⟩⟩
    subst c13
    rw [if_pos rfl] at H
    revert H
    refine ifn fun c14 H => ?_
    have LMc14 := am c14
    clear c14
    obtain ⟨y970, hy970⟩ : ∃ y_ : List ByteArray, y_ = (y967 ++ [(⟨#[110, 111, 45, 115, 116, 111, 114, 101]⟩ : ByteArray)]) := ⟨_, rfl⟩
    replace H : (spec_CcText.j1 kj1 y970 true a0_1 a0_2 a0_3 a0_4 a0_5) = some r := by first | (rw [hy970]; with_reducible exact H) | (have H2_ := (Option.bind_some _ _).symm.trans H; rw [hy970]; with_reducible exact H2_) | (have H2_ := (Option.bind_some _ _).symm.trans H; with_reducible exact H2_) | with_reducible exact H | (rw [hy970]; exact H) | exact H
    have Ny970 := am hy970
    clear hy970
    have H' := am H
    clear H
    go_wp2_with (first | ((with_reducible refine gate_builtin (b := .append) (xs := #[.tmp 17, .tmp 18]) rfl ?_); at_builtin; refine Kd.R_append Kd.string (w0 := w) w.heap.size rfl (.tmp 17) (.tmp 18) 26 9 (.string ⟨#[]⟩) 16 rfl Tryz.underlying26 info9 rfl (by decide) (by omega) v968 y967 (⟨#[110, 111, 45, 115, 116, 111, 114, 101]⟩ : ByteArray) [.string (⟨#[110, 111, 45, 115, 116, 111, 114, 101]⟩ : ByteArray)] (fun _ => True) (fun _ => False) rfl rfl ?aP (fun _ hk => hk.elim) ?aF ?aO ?aB ?aS ?aL ?_; (case aP => exact rfl); (case aB => exact bl); (case aF => exact (fun _ _ => trivial)); (case aO => exact (ro HO969)); (case aS => exact (below_size bl)); (case aL => have := LMc14.out; omega); intro v971 w15 ho hb hg hat; rw [← Ny970.out] at ho; have n0_ := am (blk_grown (g := gb965) (o := .cells #[.bool true, .bool a0_1, .bool a0_2, .bool a0_3, .bool a0_4, .int .i64 a0_5] 42 (0, 0)) (bk BK965) hg (Kd.R_ne HO969.out BK965.out (by decide))); have n1_ := am (hb); have n2_ := am (ho); clear BK965; clear HB; clear HO969; have BK965 := n0_; have HB := n1_; have HO972 := n2_; clear n0_ n1_ n2_; clear ho hb hg hat))
    go_meet
    case rel => exact ⟨_, (y970), H', ⟨by have := HJ1.out; first | omega | exact Nat.le_refl _⟩, ⟨by (with_reducible repeat (first | apply Kd.R_alloc | apply Kd.R_drewN | apply Kd.R_drew)); exact HO972.out⟩, ⟨by (with_reducible repeat (first | refine blk_drewN ?_ _ | refine blk_drew ?_ | refine blk_alloc ?_ _)); exact BK965.out⟩, ⟨u21HB⟩⟩
   case rest =>
    clear HC9
    try clear c1
    try clear c2
    try clear p2
    try clear c4
    try clear c8
    try clear c13
    try clear c14
    try clear z12_0
    try clear z12_1
    try clear z12_2
    try clear z12_3
    try clear z12_4
    try clear z12_5
    try clear z6_0
    try clear z6_1
    try clear z6_2
    try clear z6_3
    try clear z6_4
    try clear z6_5
    try clear z7_0
    try clear z7_1
    try clear z7_2
    try clear z7_3
    try clear z7_4
    try clear z7_5
    try clear y12_0
    try clear y12_1
    try clear y12_2
    try clear y12_3
    try clear y12_4
    try clear y12_5
    try clear y6_0
    try clear y6_1
    try clear y6_2
    try clear y6_3
    try clear y6_4
    try clear y6_5
    try clear y7_0
    try clear y7_1
    try clear y7_2
    try clear y7_3
    try clear y7_4
    try clear y7_5
    try clear p2
    obtain ⟨kq, x3_8, HA, HJ8, HO_3, BK965, HB⟩ := hcut
    cases kq with
    | zero => exact absurd HA.out (by simp [spec_CcText.j1])
    | succ kj8 =>
     have H := HA.out
     clear HA
     simp only [spec_CcText.j1] at H
     have HC16 := am H
     clear H
     obtain ⟨z17_0, y17_0, z17_1, y17_1, z17_2, y17_2, z17_3, y17_3, z17_4, y17_4, z17_5, y17_5⟩ := cl6 BK965
     go_upto_if 21 with (fail)
     go_cut [3] (fun v3 wc => ∃ (kq : Nat) (x3_15 : List ByteArray), Aside0 (spec_CcText.j2 kq x3_15 a0_0 a0_1 a0_2 a0_3 a0_4 a0_5 = some r) ∧ Aside0 (kq ≤ kj8) ∧ Aside0 (Kd.R Kd.string 9 wc w.heap.size (fun _ => True) v3 x3_15) ∧ Aside0 (wc.heap[gb965]? = some (.cells #[.bool a0_0, .bool a0_1, .bool a0_2, .bool a0_3, .bool a0_4, .int .i64 a0_5] 42 (0, 0))) ∧ Aside0 (Below w.heap.size w wc))
     case first =>
      have H := HC16.out
      clear HC16
      by_cases c18 : a0_1 = true
      rotate_left
      ·replace c18 := Bool.eq_false_iff.mpr c18
       subst c18
       rw [if_neg (show ¬ (false = true) by decide)] at H
       have H' := am H
       clear H
       go_wp2
       go_meet
       case rel => exact ⟨_, (x3_8), H', ⟨by have := HJ1.out; have := HJ8.out; first | omega | exact Nat.le_refl _⟩, ⟨by (with_reducible repeat (first | apply Kd.R_alloc | apply Kd.R_drewN | apply Kd.R_drew)); exact HO_3.out⟩, ⟨by (with_reducible repeat (first | refine blk_drewN ?_ _ | refine blk_drew ?_ | refine blk_alloc ?_ _)); exact BK965.out⟩, ⟨u21HB⟩⟩
      subst c18
      rw [if_pos rfl] at H
      revert H
      refine ifn fun c19 H => ?_
      have LMc19 := am c19
      clear c19
      obtain ⟨y973, hy973⟩ : ∃ y_ : List ByteArray, y_ = (x3_8 ++ [(⟨#[110, 111, 45, 99, 97, 99, 104, 101]⟩ : ByteArray)]) := ⟨_, rfl⟩
      replace H : (spec_CcText.j2 kj8 y973 a0_0 true a0_2 a0_3 a0_4 a0_5) = some r := by first | (rw [hy973]; with_reducible exact H) | (have H2_ := (Option.bind_some _ _).symm.trans H; rw [hy973]; with_reducible exact H2_) | (have H2_ := (Option.bind_some _ _).symm.trans H; with_reducible exact H2_) | with_reducible exact H | (rw [hy973]; exact H) | exact H
      have Ny973 := am hy973
      clear hy973
      have H' := am H
      clear H
      go_wp2_with (first | ((with_reducible refine gate_builtin (b := .append) (xs := #[.tmp 22, .tmp 23]) rfl ?_); at_builtin; refine Kd.R_append Kd.string (w0 := w) w.heap.size rfl (.tmp 22) (.tmp 23) 26 9 (.string ⟨#[]⟩) 16 rfl Tryz.underlying26 info9 rfl (by decide) (by omega) u3 x3_8 (⟨#[110, 111, 45, 99, 97, 99, 104, 101]⟩ : ByteArray) [.string (⟨#[110, 111, 45, 99, 97, 99, 104, 101]⟩ : ByteArray)] (fun _ => True) (fun _ => False) rfl rfl ?aP (fun _ hk => hk.elim) ?aF ?aO ?aB ?aS ?aL ?_; (case aP => exact rfl); (case aB => exact bl); (case aF => exact (fun _ _ => trivial)); (case aO => exact (ro HO_3)); (case aS => exact (below_size bl)); (case aL => have := LMc19.out; omega); intro v974 w20 ho hb hg hat; rw [← Ny973.out] at ho; have n0_ := am (blk_grown (g := gb965) (o := .cells #[.bool a0_0, .bool true, .bool a0_2, .bool a0_3, .bool a0_4, .int .i64 a0_5] 42 (0, 0)) (bk BK965) hg (Kd.R_ne HO_3.out BK965.out (by decide))); have n1_ := am (hb); have n2_ := am (ho); clear BK965; clear HB; clear HO_3; have BK965 := n0_; have HB := n1_; have HO975 := n2_; clear n0_ n1_ n2_; clear ho hb hg hat))
      go_meet
      case rel => exact ⟨_, (y973), H', ⟨by have := HJ1.out; have := HJ8.out; first | omega | exact Nat.le_refl _⟩, ⟨by (with_reducible repeat (first | apply Kd.R_alloc | apply Kd.R_drewN | apply Kd.R_drew)); exact HO975.out⟩, ⟨by (with_reducible repeat (first | refine blk_drewN ?_ _ | refine blk_drew ?_ | refine blk_alloc ?_ _)); exact BK965.out⟩, ⟨u21HB⟩⟩
     case rest =>
      clear HC16
      try clear c1
      try clear c2
      try clear p2
      try clear c4
      try clear c8
      try clear c13
      try clear c14
      try clear c18
      try clear c19
      try clear z12_0
      try clear z12_1
      try clear z12_2
      try clear z12_3
      try clear z12_4
      try clear z12_5
      try clear z17_0
      try clear z17_1
      try clear z17_2
      try clear z17_3
      try clear z17_4
      try clear z17_5
      try clear z6_0
      try clear z6_1
      try clear z6_2
      try clear z6_3
      try clear z6_4
      try clear z6_5
      try clear z7_0
      try clear z7_1
      try clear z7_2
      try clear z7_3
      try clear z7_4
      try clear z7_5
      try clear y12_0
      try clear y12_1
      try clear y12_2
      try clear y12_3
      try clear y12_4
      try clear y12_5
      try clear y17_0
      try clear y17_1
      try clear y17_2
      try clear y17_3
      try clear y17_4
      try clear y17_5
      try clear y6_0
      try clear y6_1
      try clear y6_2
      try clear y6_3
      try clear y6_4
      try clear y6_5
      try clear y7_0
      try clear y7_1
      try clear y7_2
      try clear y7_3
      try clear y7_4
      try clear y7_5
      try clear p2
      obtain ⟨kq, x3_15, HA, HJ15, HO_3, BK965, HB⟩ := hcut
      cases kq with
      | zero => exact absurd HA.out (by simp [spec_CcText.j2])
      | succ kj15 =>
       have H := HA.out
       clear HA
       simp only [spec_CcText.j2] at H
       have HC21 := am H
       clear H
       obtain ⟨z22_0, y22_0, z22_1, y22_1, z22_2, y22_2, z22_3, y22_3, z22_4, y22_4, z22_5, y22_5⟩ := cl6 BK965
       go_upto_if 26 with (fail)
       go_cut [3] (fun v3 wc => ∃ (kq : Nat) (x3_20 : List ByteArray), Aside0 (spec_CcText.j3 kq x3_20 a0_0 a0_1 a0_2 a0_3 a0_4 a0_5 = some r) ∧ Aside0 (kq ≤ kj15) ∧ Aside0 (Kd.R Kd.string 9 wc w.heap.size (fun _ => True) v3 x3_20) ∧ Aside0 (wc.heap[gb965]? = some (.cells #[.bool a0_0, .bool a0_1, .bool a0_2, .bool a0_3, .bool a0_4, .int .i64 a0_5] 42 (0, 0))) ∧ Aside0 (Below w.heap.size w wc))
       case first =>
        have H := HC21.out
        clear HC21
        by_cases c23 : a0_2 = true
        rotate_left
        ·replace c23 := Bool.eq_false_iff.mpr c23
         subst c23
         rw [if_neg (show ¬ (false = true) by decide)] at H
         have H' := am H
         clear H
         go_wp2
         go_meet
         case rel => exact ⟨_, (x3_15), H', ⟨by have := HJ1.out; have := HJ8.out; have := HJ15.out; first | omega | exact Nat.le_refl _⟩, ⟨by (with_reducible repeat (first | apply Kd.R_alloc | apply Kd.R_drewN | apply Kd.R_drew)); exact HO_3.out⟩, ⟨by (with_reducible repeat (first | refine blk_drewN ?_ _ | refine blk_drew ?_ | refine blk_alloc ?_ _)); exact BK965.out⟩, ⟨u21HB⟩⟩
        subst c23
        rw [if_pos rfl] at H
        revert H
        refine ifn fun c24 H => ?_
        have LMc24 := am c24
        clear c24
        obtain ⟨y976, hy976⟩ : ∃ y_ : List ByteArray, y_ = (x3_15 ++ [(⟨#[112, 114, 105, 118, 97, 116, 101]⟩ : ByteArray)]) := ⟨_, rfl⟩
        replace H : (spec_CcText.j3 kj15 y976 a0_0 a0_1 true a0_3 a0_4 a0_5) = some r := by first | (rw [hy976]; with_reducible exact H) | (have H2_ := (Option.bind_some _ _).symm.trans H; rw [hy976]; with_reducible exact H2_) | (have H2_ := (Option.bind_some _ _).symm.trans H; with_reducible exact H2_) | with_reducible exact H | (rw [hy976]; exact H) | exact H
        have Ny976 := am hy976
        clear hy976
        have H' := am H
        clear H
        go_wp2_with (first | ((with_reducible refine gate_builtin (b := .append) (xs := #[.tmp 27, .tmp 28]) rfl ?_); at_builtin; refine Kd.R_append Kd.string (w0 := w) w.heap.size rfl (.tmp 27) (.tmp 28) 26 9 (.string ⟨#[]⟩) 16 rfl Tryz.underlying26 info9 rfl (by decide) (by omega) u3 x3_15 (⟨#[112, 114, 105, 118, 97, 116, 101]⟩ : ByteArray) [.string (⟨#[112, 114, 105, 118, 97, 116, 101]⟩ : ByteArray)] (fun _ => True) (fun _ => False) rfl rfl ?aP (fun _ hk => hk.elim) ?aF ?aO ?aB ?aS ?aL ?_; (case aP => exact rfl); (case aB => exact bl); (case aF => exact (fun _ _ => trivial)); (case aO => exact (ro HO_3)); (case aS => exact (below_size bl)); (case aL => have := LMc24.out; omega); intro v977 w25 ho hb hg hat; rw [← Ny976.out] at ho; have n0_ := am (blk_grown (g := gb965) (o := .cells #[.bool a0_0, .bool a0_1, .bool true, .bool a0_3, .bool a0_4, .int .i64 a0_5] 42 (0, 0)) (bk BK965) hg (Kd.R_ne HO_3.out BK965.out (by decide))); have n1_ := am (hb); have n2_ := am (ho); clear BK965; clear HB; clear HO_3; have BK965 := n0_; have HB := n1_; have HO978 := n2_; clear n0_ n1_ n2_; clear ho hb hg hat))
        go_meet
        case rel => exact ⟨_, (y976), H', ⟨by have := HJ1.out; have := HJ8.out; have := HJ15.out; first | omega | exact Nat.le_refl _⟩, ⟨by (with_reducible repeat (first | apply Kd.R_alloc | apply Kd.R_drewN | apply Kd.R_drew)); exact HO978.out⟩, ⟨by (with_reducible repeat (first | refine blk_drewN ?_ _ | refine blk_drew ?_ | refine blk_alloc ?_ _)); exact BK965.out⟩, ⟨u21HB⟩⟩
       case rest =>
        clear HC21
        try clear c1
        try clear c2
        try clear p2
        try clear c4
        try clear c8
        try clear c13
        try clear c14
        try clear c18
        try clear c19
        try clear c21
        try clear c23
        try clear c24
        try clear z12_0
        try clear z12_1
        try clear z12_2
        try clear z12_3
        try clear z12_4
        try clear z12_5
        try clear z17_0
        try clear z17_1
        try clear z17_2
        try clear z17_3
        try clear z17_4
        try clear z17_5
        try clear z22_0
        try clear z22_1
        try clear z22_2
        try clear z22_3
        try clear z22_4
        try clear z22_5
        try clear z6_0
        try clear z6_1
        try clear z6_2
        try clear z6_3
        try clear z6_4
        try clear z6_5
        try clear z7_0
        try clear z7_1
        try clear z7_2
        try clear z7_3
        try clear z7_4
        try clear z7_5
        try clear y12_0
        try clear y12_1
        try clear y12_2
        try clear y12_3
        try clear y12_4
        try clear y12_5
        try clear y17_0
        try clear y17_1
        try clear y17_2
        try clear y17_3
        try clear y17_4
        try clear y17_5
        try clear y22_0
        try clear y22_1
        try clear y22_2
        try clear y22_3
        try clear y22_4
        try clear y22_5
        try clear y6_0
        try clear y6_1
        try clear y6_2
        try clear y6_3
        try clear y6_4
        try clear y6_5
        try clear y7_0
        try clear y7_1
        try clear y7_2
        try clear y7_3
        try clear y7_4
        try clear y7_5
        try clear p2
        obtain ⟨kq, x3_20, HA, HJ20, HO_3, BK965, HB⟩ := hcut
        cases kq with
        | zero => exact absurd HA.out (by simp [spec_CcText.j3])
        | succ kj20 =>
         have H := HA.out
         clear HA
         simp only [spec_CcText.j3] at H
         have HC26 := am H
         clear H
         obtain ⟨z27_0, y27_0, z27_1, y27_1, z27_2, y27_2, z27_3, y27_3, z27_4, y27_4, z27_5, y27_5⟩ := cl6 BK965
         go_upto_if 31 with (fail)
         go_cut [3] (fun v3 wc => ∃ (kq : Nat) (x3_25 : List ByteArray), Aside0 (spec_CcText.j4 kq x3_25 a0_0 a0_1 a0_2 a0_3 a0_4 a0_5 = some r) ∧ Aside0 (kq ≤ kj20) ∧ Aside0 (Kd.R Kd.string 9 wc w.heap.size (fun _ => True) v3 x3_25) ∧ Aside0 (wc.heap[gb965]? = some (.cells #[.bool a0_0, .bool a0_1, .bool a0_2, .bool a0_3, .bool a0_4, .int .i64 a0_5] 42 (0, 0))) ∧ Aside0 (Below w.heap.size w wc))
         case first =>
          have H := HC26.out
          clear HC26
          by_cases c28 : a0_3 = true
          rotate_left
          ·replace c28 := Bool.eq_false_iff.mpr c28
           subst c28
           rw [if_neg (show ¬ (false = true) by decide)] at H
           have H' := am H
           clear H
           go_wp2
           go_meet
           case rel => exact ⟨_, (x3_20), H', ⟨by have := HJ1.out; have := HJ8.out; have := HJ15.out; have := HJ20.out; first | omega | exact Nat.le_refl _⟩, ⟨by (with_reducible repeat (first | apply Kd.R_alloc | apply Kd.R_drewN | apply Kd.R_drew)); exact HO_3.out⟩, ⟨by (with_reducible repeat (first | refine blk_drewN ?_ _ | refine blk_drew ?_ | refine blk_alloc ?_ _)); exact BK965.out⟩, ⟨u21HB⟩⟩
          subst c28
          rw [if_pos rfl] at H
          revert H
          refine ifn fun c29 H => ?_
          have LMc29 := am c29
          clear c29
          obtain ⟨y979, hy979⟩ : ∃ y_ : List ByteArray, y_ = (x3_20 ++ [(⟨#[109, 117, 115, 116, 45, 114, 101, 118, 97, 108, 105, 100, 97, 116, 101]⟩ : ByteArray)]) := ⟨_, rfl⟩
          replace H : (spec_CcText.j4 kj20 y979 a0_0 a0_1 a0_2 true a0_4 a0_5) = some r := by first | (rw [hy979]; with_reducible exact H) | (have H2_ := (Option.bind_some _ _).symm.trans H; rw [hy979]; with_reducible exact H2_) | (have H2_ := (Option.bind_some _ _).symm.trans H; with_reducible exact H2_) | with_reducible exact H | (rw [hy979]; exact H) | exact H
          have Ny979 := am hy979
          clear hy979
          have H' := am H
          clear H
          go_wp2_with (first | ((with_reducible refine gate_builtin (b := .append) (xs := #[.tmp 32, .tmp 33]) rfl ?_); at_builtin; refine Kd.R_append Kd.string (w0 := w) w.heap.size rfl (.tmp 32) (.tmp 33) 26 9 (.string ⟨#[]⟩) 16 rfl Tryz.underlying26 info9 rfl (by decide) (by omega) u3 x3_20 (⟨#[109, 117, 115, 116, 45, 114, 101, 118, 97, 108, 105, 100, 97, 116, 101]⟩ : ByteArray) [.string (⟨#[109, 117, 115, 116, 45, 114, 101, 118, 97, 108, 105, 100, 97, 116, 101]⟩ : ByteArray)] (fun _ => True) (fun _ => False) rfl rfl ?aP (fun _ hk => hk.elim) ?aF ?aO ?aB ?aS ?aL ?_; (case aP => exact rfl); (case aB => exact bl); (case aF => exact (fun _ _ => trivial)); (case aO => exact (ro HO_3)); (case aS => exact (below_size bl)); (case aL => have := LMc29.out; omega); intro v980 w30 ho hb hg hat; rw [← Ny979.out] at ho; have n0_ := am (blk_grown (g := gb965) (o := .cells #[.bool a0_0, .bool a0_1, .bool a0_2, .bool true, .bool a0_4, .int .i64 a0_5] 42 (0, 0)) (bk BK965) hg (Kd.R_ne HO_3.out BK965.out (by decide))); have n1_ := am (hb); have n2_ := am (ho); clear BK965; clear HB; clear HO_3; have BK965 := n0_; have HB := n1_; have HO981 := n2_; clear n0_ n1_ n2_; clear ho hb hg hat))
          go_meet
          case rel => exact ⟨_, (y979), H', ⟨by have := HJ1.out; have := HJ8.out; have := HJ15.out; have := HJ20.out; first | omega | exact Nat.le_refl _⟩, ⟨by (with_reducible repeat (first | apply Kd.R_alloc | apply Kd.R_drewN | apply Kd.R_drew)); exact HO981.out⟩, ⟨by (with_reducible repeat (first | refine blk_drewN ?_ _ | refine blk_drew ?_ | refine blk_alloc ?_ _)); exact BK965.out⟩, ⟨u21HB⟩⟩
         case rest =>
          clear HC26
          try clear c1
          try clear c2
          try clear p2
          try clear c4
          try clear c8
          try clear c13
          try clear c14
          try clear c18
          try clear c19
          try clear c21
          try clear c23
          try clear c24
          try clear c28
          try clear c29
          try clear z12_0
          try clear z12_1
          try clear z12_2
          try clear z12_3
          try clear z12_4
          try clear z12_5
          try clear z17_0
          try clear z17_1
          try clear z17_2
          try clear z17_3
          try clear z17_4
          try clear z17_5
          try clear z22_0
          try clear z22_1
          try clear z22_2
          try clear z22_3
          try clear z22_4
          try clear z22_5
          try clear z27_0
          try clear z27_1
          try clear z27_2
          try clear z27_3
          try clear z27_4
          try clear z27_5
          try clear z6_0
          try clear z6_1
          try clear z6_2
          try clear z6_3
          try clear z6_4
          try clear z6_5
          try clear z7_0
          try clear z7_1
          try clear z7_2
          try clear z7_3
          try clear z7_4
          try clear z7_5
          try clear y12_0
          try clear y12_1
          try clear y12_2
          try clear y12_3
          try clear y12_4
          try clear y12_5
          try clear y17_0
          try clear y17_1
          try clear y17_2
          try clear y17_3
          try clear y17_4
          try clear y17_5
          try clear y22_0
          try clear y22_1
          try clear y22_2
          try clear y22_3
          try clear y22_4
          try clear y22_5
          try clear y27_0
          try clear y27_1
          try clear y27_2
          try clear y27_3
          try clear y27_4
          try clear y27_5
          try clear y6_0
          try clear y6_1
          try clear y6_2
          try clear y6_3
          try clear y6_4
          try clear y6_5
          try clear y7_0
          try clear y7_1
          try clear y7_2
          try clear y7_3
          try clear y7_4
          try clear y7_5
          try clear p2
          obtain ⟨kq, x3_25, HA, HJ25, HO_3, BK965, HB⟩ := hcut
          cases kq with
          | zero => exact absurd HA.out (by simp [spec_CcText.j4])
          | succ kj25 =>
           have H := HA.out
           clear HA
           simp only [spec_CcText.j4] at H
           have HC31 := am H
           clear H
           obtain ⟨z32_0, y32_0, z32_1, y32_1, z32_2, y32_2, z32_3, y32_3, z32_4, y32_4, z32_5, y32_5⟩ := cl6 BK965
           go_upto_if 36 with (fail)
           go_cut [3] (fun v3 wc => ∃ (kq : Nat) (x3_30 : List ByteArray), Aside0 (spec_CcText.j5 kq x3_30 = some r) ∧ Aside0 (kq ≤ kj25) ∧ Aside0 (Kd.R Kd.string 9 wc w.heap.size (fun _ => True) v3 x3_30) ∧ Aside0 (wc.heap[gb965]? = some (.cells #[.bool a0_0, .bool a0_1, .bool a0_2, .bool a0_3, .bool a0_4, .int .i64 a0_5] 42 (0, 0))) ∧ Aside0 (Below w.heap.size w wc))
           case first =>
            have H := HC31.out
            clear HC31
            by_cases c33 : a0_4 = true
            rotate_left
            ·replace c33 := Bool.eq_false_iff.mpr c33
             subst c33
             rw [if_neg (show ¬ (false = true) by decide)] at H
             have H' := am H
             clear H
             go_wp2
             go_meet
             case rel => exact ⟨_, (x3_25), H', ⟨by have := HJ1.out; have := HJ8.out; have := HJ15.out; have := HJ20.out; have := HJ25.out; first | omega | exact Nat.le_refl _⟩, ⟨by (with_reducible repeat (first | apply Kd.R_alloc | apply Kd.R_drewN | apply Kd.R_drew)); exact HO_3.out⟩, ⟨by (with_reducible repeat (first | refine blk_drewN ?_ _ | refine blk_drew ?_ | refine blk_alloc ?_ _)); exact BK965.out⟩, ⟨u21HB⟩⟩
            subst c33
            rw [if_pos rfl] at H
            revert H
            refine ok1 fun t982 A34 H => ?_
            revert H
            refine ifn fun c35 H => ?_
            have c35b0 := eq_true c35
            have c35b1 := decide_eq_true c35
            try have c35b2 := eq_false (Nat.not_lt.2 c35)
            revert H
            refine ifn fun c36 H => ?_
            have LMc36 := am c36
            clear c36
            obtain ⟨y983, hy983⟩ : ∃ y_ : List ByteArray, y_ = (x3_25 ++ [(⟨#[109, 97, 120, 45, 97, 103, 101, 61]⟩ : ByteArray) ++ t982]) := ⟨_, rfl⟩
            replace H : (spec_CcText.j5 kj25 y983) = some r := by first | (rw [hy983]; with_reducible exact H) | (have H2_ := (Option.bind_some _ _).symm.trans H; rw [hy983]; with_reducible exact H2_) | (have H2_ := (Option.bind_some _ _).symm.trans H; with_reducible exact H2_) | with_reducible exact H | (rw [hy983]; exact H) | exact H
            have Ny983 := am hy983
            clear hy983
            have H' := am H
            clear H
            obtain ⟨z37_0, y37_0, z37_1, y37_1, z37_2, y37_2, z37_3, y37_3, z37_4, y37_4, z37_5, y37_5⟩ := cl6 BK965
            go_wp2_with (first | ((with_reducible refine gw ?_); first | (refine gl 40 Tryz.func80 #[.int .i64 a0_5] ?_; (with_reducible refine (spec_NumText.calls kj25 a0_5 t982 _ A34.out).mono ?_); rintro e w38 ⟨rfl, hb⟩; refine ⟨_, rfl, ?_⟩; replace HO_3 := kr HO_3 hb; replace BK965 := kb BK965 hb; replace HB := am (below_step bl hb); clear hb)) | ((with_reducible refine gate_builtin (b := .append) (xs := #[.tmp 37, .tmp 42]) rfl ?_); at_builtin; refine Kd.R_append Kd.string (w0 := w) w.heap.size rfl (.tmp 37) (.tmp 42) 26 9 (.string ⟨#[]⟩) 16 rfl Tryz.underlying26 info9 rfl (by decide) (by omega) u3 x3_25 ((⟨#[109, 97, 120, 45, 97, 103, 101, 61]⟩ : ByteArray) ++ t982) [.string ((⟨#[109, 97, 120, 45, 97, 103, 101, 61]⟩ : ByteArray) ++ t982)] (fun _ => True) (fun _ => False) rfl rfl ?aP (fun _ hk => hk.elim) ?aF ?aO ?aB ?aS ?aL ?_; (case aP => exact rfl); (case aB => exact bl); (case aF => exact (fun _ _ => trivial)); (case aO => exact (ro HO_3)); (case aS => exact (below_size bl)); (case aL => have := LMc36.out; omega); intro v984 w39 ho hb hg hat; rw [← Ny983.out] at ho; have n0_ := am (blk_grown (g := gb965) (o := .cells #[.bool a0_0, .bool a0_1, .bool a0_2, .bool a0_3, .bool true, .int .i64 a0_5] 42 (0, 0)) (bk BK965) hg (Kd.R_ne HO_3.out BK965.out (by decide))); have n1_ := am (hb); have n2_ := am (ho); clear BK965; clear HB; clear HO_3; have BK965 := n0_; have HB := n1_; have HO985 := n2_; clear n0_ n1_ n2_; clear ho hb hg hat))
            go_meet
            case rel => exact ⟨_, (y983), H', ⟨by have := HJ1.out; have := HJ8.out; have := HJ15.out; have := HJ20.out; have := HJ25.out; first | omega | exact Nat.le_refl _⟩, ⟨by (with_reducible repeat (first | apply Kd.R_alloc | apply Kd.R_drewN | apply Kd.R_drew)); exact HO985.out⟩, ⟨by (with_reducible repeat (first | refine blk_drewN ?_ _ | refine blk_drew ?_ | refine blk_alloc ?_ _)); exact BK965.out⟩, ⟨u21HB⟩⟩
           case rest =>
            clear HC31
            try clear c1
            try clear c2
            try clear p2
            try clear c3
            try clear c4
            try clear c8
            try clear c13
            try clear c14
            try clear c18
            try clear c19
            try clear c21
            try clear c23
            try clear c24
            try clear c28
            try clear c29
            try clear c33
            try clear c35
            try clear c35b0
            try clear c35b1
            try clear c35b2
            try clear c36
            try clear z12_0
            try clear z12_1
            try clear z12_2
            try clear z12_3
            try clear z12_4
            try clear z12_5
            try clear z17_0
            try clear z17_1
            try clear z17_2
            try clear z17_3
            try clear z17_4
            try clear z17_5
            try clear z22_0
            try clear z22_1
            try clear z22_2
            try clear z22_3
            try clear z22_4
            try clear z22_5
            try clear z27_0
            try clear z27_1
            try clear z27_2
            try clear z27_3
            try clear z27_4
            try clear z27_5
            try clear z32_0
            try clear z32_1
            try clear z32_2
            try clear z32_3
            try clear z32_4
            try clear z32_5
            try clear z37_0
            try clear z37_1
            try clear z37_2
            try clear z37_3
            try clear z37_4
            try clear z37_5
            try clear z6_0
            try clear z6_1
            try clear z6_2
            try clear z6_3
            try clear z6_4
            try clear z6_5
            try clear z7_0
            try clear z7_1
            try clear z7_2
            try clear z7_3
            try clear z7_4
            try clear z7_5
            try clear y12_0
            try clear y12_1
            try clear y12_2
            try clear y12_3
            try clear y12_4
            try clear y12_5
            try clear y17_0
            try clear y17_1
            try clear y17_2
            try clear y17_3
            try clear y17_4
            try clear y17_5
            try clear y22_0
            try clear y22_1
            try clear y22_2
            try clear y22_3
            try clear y22_4
            try clear y22_5
            try clear y27_0
            try clear y27_1
            try clear y27_2
            try clear y27_3
            try clear y27_4
            try clear y27_5
            try clear y32_0
            try clear y32_1
            try clear y32_2
            try clear y32_3
            try clear y32_4
            try clear y32_5
            try clear y37_0
            try clear y37_1
            try clear y37_2
            try clear y37_3
            try clear y37_4
            try clear y37_5
            try clear y6_0
            try clear y6_1
            try clear y6_2
            try clear y6_3
            try clear y6_4
            try clear y6_5
            try clear y7_0
            try clear y7_1
            try clear y7_2
            try clear y7_3
            try clear y7_4
            try clear y7_5
            try clear p2
            obtain ⟨kq, x3_30, HA, HJ30, HO_3, BK965, HB⟩ := hcut
            cases kq with
            | zero => exact absurd HA.out (by simp [spec_CcText.j5])
            | succ kj30 =>
             have H := HA.out
             clear HA
             simp only [spec_CcText.j5] at H
             have H' := am H
             clear H
             go_wp2
             (try simp only [Act.put, List.setIfInBounds_toArray, List.set_cons_zero, List.set_cons_succ])
             go_loopg [4, 5] kj30 (fun kq v4 v5 w' => ∃ (x4_7 : ByteArray) (x5_7 : Int), v4 = .string x4_7 ∧ v5 = .int .i64 x5_7 ∧ Aside0 (spec_CcText.l0 kq x3_30 x4_7 x5_7 = some r) ∧ Aside0 (kq ≤ kj30) ∧ Aside0 (Kd.R Kd.string 9 w' w.heap.size (fun _ => True) u3 x3_30) ∧ Aside0 (w'.heap[gb965]? = some (.cells #[.bool a0_0, .bool a0_1, .bool a0_2, .bool a0_3, .bool a0_4, .int .i64 a0_5] 42 (0, 0))) ∧ Aside0 (Below w.heap.size w w'))
             case atStart => exact ⟨((⟨#[]⟩ : ByteArray)), (0), rs, rs, H', ⟨Nat.le_refl _⟩, ⟨by (with_reducible repeat (first | apply Kd.R_alloc | apply Kd.R_drewN | apply Kd.R_drew)); exact HO_3.out⟩, ⟨by (with_reducible repeat (first | refine blk_drewN ?_ _ | refine blk_drew ?_ | refine blk_alloc ?_ _)); exact BK965.out⟩, ⟨u21HB⟩⟩
             case round =>
              clear H'
              try clear c1
              try clear c2
              try clear p2
              try clear c3
              try clear c4
              try clear c8
              try clear c13
              try clear c14
              try clear c18
              try clear c19
              try clear c21
              try clear c23
              try clear c24
              try clear c28
              try clear c29
              try clear c33
              try clear c35
              try clear c35b0
              try clear c35b1
              try clear c35b2
              try clear c36
              try clear z12_0
              try clear z12_1
              try clear z12_2
              try clear z12_3
              try clear z12_4
              try clear z12_5
              try clear z17_0
              try clear z17_1
              try clear z17_2
              try clear z17_3
              try clear z17_4
              try clear z17_5
              try clear z22_0
              try clear z22_1
              try clear z22_2
              try clear z22_3
              try clear z22_4
              try clear z22_5
              try clear z27_0
              try clear z27_1
              try clear z27_2
              try clear z27_3
              try clear z27_4
              try clear z27_5
              try clear z32_0
              try clear z32_1
              try clear z32_2
              try clear z32_3
              try clear z32_4
              try clear z32_5
              try clear z37_0
              try clear z37_1
              try clear z37_2
              try clear z37_3
              try clear z37_4
              try clear z37_5
              try clear z6_0
              try clear z6_1
              try clear z6_2
              try clear z6_3
              try clear z6_4
              try clear z6_5
              try clear z7_0
              try clear z7_1
              try clear z7_2
              try clear z7_3
              try clear z7_4
              try clear z7_5
              try clear y12_0
              try clear y12_1
              try clear y12_2
              try clear y12_3
              try clear y12_4
              try clear y12_5
              try clear y17_0
              try clear y17_1
              try clear y17_2
              try clear y17_3
              try clear y17_4
              try clear y17_5
              try clear y22_0
              try clear y22_1
              try clear y22_2
              try clear y22_3
              try clear y22_4
              try clear y22_5
              try clear y27_0
              try clear y27_1
              try clear y27_2
              try clear y27_3
              try clear y27_4
              try clear y27_5
              try clear y32_0
              try clear y32_1
              try clear y32_2
              try clear y32_3
              try clear y32_4
              try clear y32_5
              try clear y37_0
              try clear y37_1
              try clear y37_2
              try clear y37_3
              try clear y37_4
              try clear y37_5
              try clear y6_0
              try clear y6_1
              try clear y6_2
              try clear y6_3
              try clear y6_4
              try clear y6_5
              try clear y7_0
              try clear y7_1
              try clear y7_2
              try clear y7_3
              try clear y7_4
              try clear y7_5
              try clear p2
              obtain ⟨x4_7, x5_7, rfl, rfl, HA, HK7, HO_3, BK965, HB⟩ := hrel
              cases gk with
              | zero => exact absurd HA.out (by simp [spec_CcText.l0])
              | succ k7 =>
               have H := HA.out
               clear HA
               simp only [spec_CcText.l0] at H
               by_cases c40 : x5_7 < (x3_30.length : Int)
               rotate_left
               ·rw [if_neg c40] at H
                have c40b0 := decide_eq_false c40
                clear c40
                obtain rfl := Option.some.inj H
                obtain ⟨Ao49, co49, eo49⟩ := Kd.R_slice HO_3.out
                subst eo49
                go_wp2
                go_ret
                exact ⟨rf, bl⟩
               rw [if_pos c40] at H
               have c40b0 := decide_eq_true c40
               clear c40
               by_cases c41 : x5_7 > 0
               rotate_left
               ·rw [if_neg c41] at H
                have c41b0 := decide_eq_false c41
                clear c41
                revert H
                refine ifn fun c46 H => ?_
                have c46b0 := decide_eq_true c46
                clear c46
                revert H
                refine ifn fun c47 H => ?_
                have c47b0 := eq_true c47
                have c47b1 := decide_eq_true c47
                try have c47b2 := eq_false (Nat.not_lt.2 c47)
                have H' := am H
                clear H
                obtain ⟨Ao48, co48, eo48⟩ := Kd.R_slice HO_3.out
                subst eo48
                have p987 : 0 ≤ (x5_7 : Int) := od
                have q987 : x5_7 < (x3_30.length : Int) := od
                obtain ⟨ad987, e987, hx987_0⟩ := Kd.at_string (Kd.R_reads' HO_3.out).2.2 x5_7 p987 q987
                cases e987
                replace p987 := eq_true p987
                replace q987 := eq_true q987
                go_wp2
                go_roundg k7
                case measure => have := HJ1.out; have := HJ8.out; have := HJ15.out; have := HJ20.out; have := HJ25.out; have := HJ30.out; have := HK7.out; omega
                case rel => exact ⟨(x4_7 ++ (rdOf ByteArray.empty x3_30 x5_7)), (wrap64 (x5_7 + 1)), rs, rs, H', ⟨by have := HJ1.out; have := HJ8.out; have := HJ15.out; have := HJ20.out; have := HJ25.out; have := HJ30.out; have := HK7.out; omega⟩, ⟨by (with_reducible repeat (first | apply Kd.R_alloc | apply Kd.R_drewN | apply Kd.R_drew)); exact HO_3.out⟩, ⟨by (with_reducible repeat (first | refine blk_drewN ?_ _ | refine blk_drew ?_ | refine blk_alloc ?_ _)); exact BK965.out⟩, ⟨u21HB⟩⟩
               rw [if_pos c41] at H
               have c41b0 := decide_eq_true c41
               clear c41
               revert H
               refine ifn fun c42 H => ?_
               have c42b0 := eq_true c42
               have c42b1 := decide_eq_true c42
               try have c42b2 := eq_false (Nat.not_lt.2 c42)
               revert H
               refine ifn fun c43 H => ?_
               have c43b0 := decide_eq_true c43
               clear c43
               revert H
               refine ifn fun c44 H => ?_
               have c44b0 := eq_true c44
               have c44b1 := decide_eq_true c44
               try have c44b2 := eq_false (Nat.not_lt.2 c44)
               have c44b3 : (9223372036854775807 < (x4_7).size + 2 + (rdOf ByteArray.empty x3_30 x5_7).size) = False := b3 c44
               have H' := am H
               clear H
               obtain ⟨Ao45, co45, eo45⟩ := Kd.R_slice HO_3.out
               subst eo45
               have p986 : 0 ≤ (x5_7 : Int) := od
               have q986 : x5_7 < (x3_30.length : Int) := od
               obtain ⟨ad986, e986, hx986_0⟩ := Kd.at_string (Kd.R_reads' HO_3.out).2.2 x5_7 p986 q986
               cases e986
               replace p986 := eq_true p986
               replace q986 := eq_true q986
               go_wp2
               go_roundg k7
               case measure => have := HJ1.out; have := HJ8.out; have := HJ15.out; have := HJ20.out; have := HJ25.out; have := HJ30.out; have := HK7.out; omega
               case rel => exact ⟨((x4_7 ++ (⟨#[44, 32]⟩ : ByteArray)) ++ (rdOf ByteArray.empty x3_30 x5_7)), (wrap64 (x5_7 + 1)), rs, rs, H', ⟨by have := HJ1.out; have := HJ8.out; have := HJ15.out; have := HJ20.out; have := HJ25.out; have := HJ30.out; have := HK7.out; omega⟩, ⟨by (with_reducible repeat (first | apply Kd.R_alloc | apply Kd.R_drewN | apply Kd.R_drew)); exact HO_3.out⟩, ⟨by (with_reducible repeat (first | refine blk_drewN ?_ _ | refine blk_drew ?_ | refine blk_alloc ?_ _)); exact BK965.out⟩, ⟨u21HB⟩⟩

/-! ### spec_DrawCcOf: function 24 -/
theorem u24HB {p : Prop} (h : p := by repeat (first | (with_reducible first | exact HB.out | apply below_alloc | apply pw_below_drewN | apply below_drew1 | refine below_set ?_ (IsS139.ge HI998.out)) | exact HB.out)) : p := h
theorem u24HI998 {p : Prop} (h : p := by repeat (first | (with_reducible first | exact HI998.out | apply IsS139.alloc | apply IsS139.drewN | apply IsS139.drew | apply IsS139.set_1 | apply IsS139.set_2) | exact HI998.out)) : p := h
def spec_DrawCcOf.f (k : Nat) (l0 : List Int) : Option ((List (S116))) := (spec_l1New.f k l0).bind fun bt995 => ((spec_l2Draw.f k bt995.1 bt995.2.1 bt995.2.2).bind fun bt999 => (some bt999.1))
theorem spec_DrawCcOf.mono : ∀ a0 k, LeO (spec_DrawCcOf.f k a0) (spec_DrawCcOf.f (k + 1) a0) := by
 intro a0 k
 unfold spec_DrawCcOf.f
 have m0 := @spec_l1New.mono
 have m1 := @spec_l2Draw.mono
 exact mo
set_option maxHeartbeats 8000000 in
set_option maxRecDepth 100000 in
theorem spec_DrawCcOf.calls (k : Nat) (A0 : Option Addr) (c0 : Nat) (l0 : List Int) (r : List (S116)) (w : World) (hr0 : Kd.C (Kd.int .u8) w A0 l0.length l0) (hc0 : l0.length ≤ c0) (h : spec_DrawCcOf.f k l0 = some r) :
  Calls Tryz.prog 24 #[.slice A0 l0.length c0] w fun e w' => ∃ v0_ : Value, e = .returned (v0_) ∧ Kd.R k116 116 w' w.heap.size (fun _ => True) v0_ r ∧ Below w.heap.size w w' := by
 have HR0 := am hr0
 have HC0 := am hc0
 clear hr0 hc0
 have HB := am (Below.refl w.heap.size w)
 unfold spec_DrawCcOf.f at h
 have H := h
 clear h
 revert H
 refine ok3 fun t995 t996 t997 A2 H => ?_
 (try dsimp only at H)
 revert H
 refine ok3 fun t999 t1002 t1003 A3 H => ?_
 (try dsimp only at H)
 obtain rfl := Option.some.inj H
 go_enter Tryz.func24, Tryz.ntmps24
 go_wp2_with ((with_reducible refine gw ?_); first | (refine gl 4 Tryz.func59 #[.slice A0 l0.length c0] ?_; (with_reducible refine (spec_l1New.calls k _ _ l0 t995 t996 t997 w _ ?side1 ?side2 ?side3 A2.out).mono ?_); (case side1 => exact u24HB); (case side2 => exact HR0.out); (case side3 => exact HC0.out); rintro e w4 ⟨g998, rfl, hi, hb, hb2⟩; refine ⟨_, rfl, ?_⟩; replace HB := am (hb); have HI998 := am (hi); clear hb hb2 hi) | (refine gl 5 Tryz.func85 #[.pointer (some ⟨g998, 0, none⟩)] ?_; (with_reducible refine (spec_l2Draw.calls k g998 t995 t996 t997 t999 t1002 t1003 w _ ?side1 ?side2 A3.out).mono ?_); (case side1 => exact u24HI998); (case side2 => exact u24HB); rintro e w5 ⟨v1000, rfl, ho0, hi, hb, hk⟩; refine ⟨_, rfl, ?_⟩; have HO1001 := am (Kd.R_lower ho0 (below_size u24HB)); replace HB := am (hb); replace HI998 := am (hi); clear hb hk hi ho0))
 go_ret
 exact ⟨_, rf, by (with_reducible repeat (first | apply Kd.R_alloc | apply Kd.R_drewN | apply Kd.R_drew)); exact HO1001.out, u24HB⟩

end Go.Proofs.YtjlpjbkpmmpojaaGreatDoor.All
