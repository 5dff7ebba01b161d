-- Written by a program of this session (wip/tools/hprint.py) out of the translation. Lean checks it.
import Derived.Test.YtnmanegjgidgcaaGreatDoorAllx0
import Derived.Test.YtnmanegjgidgcaaGreatDoorAllx3
import Derived.Test.YtnmanegjgidgcaaGreatDoorAllx14
namespace Go.Proofs.YtnmanegjgidgcaaGreatDoor.All
open Go.RowKit Go.Proofs.YtnmanegjgidgcaaGreatDoorW.PrintWords Go.Proofs.YtnmanegjgidgcaaGreatDoorW.PrintLast Go.Proofs.YtnmanegjgidgcaaGreatDoorW.PrintMore
attribute [local go_sem] max2_int min2_int max_two min_two max_three min_three max_four min_four   -- for this text's walks alone
set_option linter.unusedVariables false
set_option linter.unusedSimpArgs false

/-! ### impl_RespText: function 33 -/
def impl_RespText.f (k : Nat) (a0_0 : Int) (l0_1 : List (S100)) (a0_2 : ByteArray) : Option (ByteArray) := (impl_RespOk.f k a0_0 l0_1 a0_2).bind fun t734 => (if t734 = true then ((strconv_Itoa.f a0_0).bind fun t735 => (if 9 + t735.size ≤ 9223372036854775807 then (if ((⟨#[72, 84, 84, 80, 47, 49, 46, 49, 32]⟩ : ByteArray) ++ t735).size + 2 ≤ 9223372036854775807 then (if (((⟨#[72, 84, 84, 80, 47, 49, 46, 49, 32]⟩ : ByteArray) ++ t735) ++ (⟨#[32, 46]⟩ : ByteArray)).size + 2 ≤ 9223372036854775807 then ((impl_FieldsText.f l0_1).bind fun t736 => (if ((((⟨#[72, 84, 84, 80, 47, 49, 46, 49, 32]⟩ : ByteArray) ++ t735) ++ (⟨#[32, 46]⟩ : ByteArray)) ++ (⟨#[13, 10]⟩ : ByteArray)).size + t736.size ≤ 9223372036854775807 then ((impl_lengthLine.f a0_2).bind fun t737 => (if (((((⟨#[72, 84, 84, 80, 47, 49, 46, 49, 32]⟩ : ByteArray) ++ t735) ++ (⟨#[32, 46]⟩ : ByteArray)) ++ (⟨#[13, 10]⟩ : ByteArray)) ++ t736).size + t737.size ≤ 9223372036854775807 then (if ((((((⟨#[72, 84, 84, 80, 47, 49, 46, 49, 32]⟩ : ByteArray) ++ t735) ++ (⟨#[32, 46]⟩ : ByteArray)) ++ (⟨#[13, 10]⟩ : ByteArray)) ++ t736) ++ t737).size + 2 ≤ 9223372036854775807 then (if (((((((⟨#[72, 84, 84, 80, 47, 49, 46, 49, 32]⟩ : ByteArray) ++ t735) ++ (⟨#[32, 46]⟩ : ByteArray)) ++ (⟨#[13, 10]⟩ : ByteArray)) ++ t736) ++ t737) ++ (⟨#[13, 10]⟩ : ByteArray)).size + a0_2.size ≤ 9223372036854775807 then (some ((((((((⟨#[72, 84, 84, 80, 47, 49, 46, 49, 32]⟩ : ByteArray) ++ t735) ++ (⟨#[32, 46]⟩ : ByteArray)) ++ (⟨#[13, 10]⟩ : ByteArray)) ++ t736) ++ t737) ++ (⟨#[13, 10]⟩ : ByteArray)) ++ a0_2)) else (none)) else (none)) else (none))) else (none))) else (none)) else (none)) else (none))) else (some (⟨#[]⟩ : ByteArray)))
theorem impl_RespText.mono : ∀ a0 a1 a2 k, LeO (impl_RespText.f k a0 a1 a2) (impl_RespText.f (k + 1) a0 a1 a2) := by
 intro a0 a1 a2 k
 unfold impl_RespText.f
 have m0 := @impl_RespOk.mono
 exact mo
def impl_RespText.T3 : Bool × List (List Nat × List Nat) := (true, [([], []), ([0], [0]), ([1], [1]), ([2], [2]), ([3], [3]), ([4], [4]), ([], []), ([6], [6]), ([7, 2], [7]), ([5, 8], [5, 8]), ([], []), ([10], [10]), ([11, 8], [11]), ([9, 12], [9, 12]), ([13], [13]), ([], []), ([15], [15]), ([14, 16], [14, 16]), ([17, 12, 0, 1, 2, 3, 4, 5, 6, 7, 8, 9, 10, 11, 12, 13, 14, 15, 16, 17], [17])])
def impl_RespText.B3 : List Nat := [0, 1, 3, 7, 15, 31, 0, 64, 199, 511, 0, 1024, 3527, 8191, 16383, 0, 32768, 131071, 262143]
theorem impl_RespText.tab3 : rtab .any (opsOf Tryz.f33 3) = impl_RespText.T3 := by kernel_rfl
theorem impl_RespText.bits3 : waitsOk impl_RespText.T3.2 impl_RespText.B3 = true := by kernel_rfl
set_option maxHeartbeats 8000000 in
set_option maxRecDepth 100000 in
theorem impl_RespText.calls (k : Nat) (a0_0 : Int) (A0_1 : Option Addr) (c0_1 : Nat) (l0_1 : List (S100)) (a0_2 : ByteArray) (r : ByteArray) (w : World) (hGT : GLOBT w) (hr0_1 : Kd.C k100 w A0_1 l0_1.length l0_1) (hc0_1 : l0_1.length ≤ c0_1) (h : impl_RespText.f k a0_0 l0_1 a0_2 = some r) :
  Calls Tryz.prog 33 #[.agg #[.int .i64 a0_0, .slice A0_1 l0_1.length c0_1, .string a0_2]] w fun e w' => e = .returned (.string r) ∧ Below w.heap.size w w' := by
 have hu48 := Tryz.underlying48
 have HR0_1 := am hr0_1
 have HC0_1 := am hc0_1
 clear hr0_1 hc0_1
 have HGT := am hGT
 clear hGT
 have HB := am (Below.refl w.heap.size w)
 unfold impl_RespText.f at h
 have H := h
 clear h
 revert H
 refine ok1 fun t734 A2 H => ?_
 by_cases c3 : t734 = true
 rotate_left
 ·replace c3 := Bool.eq_false_iff.mpr c3
  subst c3
  rw [if_neg (show ¬ (false = true) by decide)] at H
  obtain rfl := Option.some.inj H
  go_enter Tryz.func33, Tryz.ntmps33
  go_wp2_with (first | (refine bx 1 #[.int .i64 a0_0, .slice A0_1 l0_1.length c0_1, .string a0_2] 48 ?_; intro gb733 hg w21 hbox hb; have BK733 := am (hbox); have GW733 := am (sz hg : w.heap.size ≤ gb733); have GE733 := am (sz hg : w.heap.size ≤ gb733); replace HB := am (below_step bl hb); clear hb hbox hg; obtain ⟨z22_0, y22_0, z22_1, y22_1, z22_2, y22_2⟩ := cl3 BK733) | (refine gl 4 Tryz.func35 #[.agg #[.int .i64 a0_0, .slice A0_1 l0_1.length c0_1, .string a0_2]] ?_; (with_reducible refine (impl_RespOk.calls k a0_0 _ _ l0_1 a0_2 false _ ?side1 ?side2 A2.out).mono ?_); (case side1 => exact cb HR0_1); (case side2 => exact HC0_1.out); rintro e w23 ⟨rfl, hb⟩; refine ⟨_, rfl, ?_⟩; replace BK733 := kb BK733 hb; replace HB := am (below_step bl hb); clear hb))
  go_ret
  exact ⟨rf, bl⟩
 subst c3
 rw [if_pos rfl] at H
 revert H
 refine ok1 fun t735 A4 H => ?_
 revert H
 refine ifn fun c5 H => ?_
 have c5b0 := eq_true c5
 have c5b1 := decide_eq_true c5
 try have c5b2 := eq_false (Nat.not_lt.2 c5)
 revert H
 refine ifn fun c6 H => ?_
 have c6b0 := eq_true c6
 have c6b1 := decide_eq_true c6
 try have c6b2 := eq_false (Nat.not_lt.2 c6)
 have c6b3 : (9223372036854775807 < 9 + (t735).size + 2) = False := b3 c6
 revert H
 refine ifn fun c7 H => ?_
 have c7b0 := eq_true c7
 have c7b1 := decide_eq_true c7
 try have c7b2 := eq_false (Nat.not_lt.2 c7)
 have c7b3 : (9223372036854775807 < 9 + (t735).size + 2 + 2) = False := b3 c7
 revert H
 refine ok1 fun t736 A8 H => ?_
 revert H
 refine ifn fun c9 H => ?_
 have c9b0 := eq_true c9
 have c9b1 := decide_eq_true c9
 try have c9b2 := eq_false (Nat.not_lt.2 c9)
 have c9b3 : (9223372036854775807 < 9 + (t735).size + 2 + 2 + (t736).size) = False := b3 c9
 revert H
 refine ok1 fun t737 A10 H => ?_
 revert H
 refine ifn fun c11 H => ?_
 have c11b0 := eq_true c11
 have c11b1 := decide_eq_true c11
 try have c11b2 := eq_false (Nat.not_lt.2 c11)
 have c11b3 : (9223372036854775807 < 9 + (t735).size + 2 + 2 + (t736).size + (t737).size) = False := b3 c11
 revert H
 refine ifn fun c12 H => ?_
 have c12b0 := eq_true c12
 have c12b1 := decide_eq_true c12
 try have c12b2 := eq_false (Nat.not_lt.2 c12)
 have c12b3 : (9223372036854775807 < 9 + (t735).size + 2 + 2 + (t736).size + (t737).size + 2) = False := b3 c12
 revert H
 refine ifn fun c13 H => ?_
 have c13b0 := eq_true c13
 have c13b1 := decide_eq_true c13
 try have c13b2 := eq_false (Nat.not_lt.2 c13)
 have c13b3 : (9223372036854775807 < 9 + (t735).size + 2 + 2 + (t736).size + (t737).size + 2 + (a0_2).size) = False := b3 c13
 obtain rfl := Option.some.inj H
 go_enter Tryz.func33, Tryz.ntmps33
 try go_wp2_with (first | (refine bx 1 #[.int .i64 a0_0, .slice A0_1 l0_1.length c0_1, .string a0_2] 48 ?_; intro gb733 hg w14 hbox hb; have BK733 := am (hbox); have GW733 := am (sz hg : w.heap.size ≤ gb733); have GE733 := am (sz hg : w.heap.size ≤ gb733); replace HB := am (below_step bl hb); clear hb hbox hg; obtain ⟨z15_0, y15_0, z15_1, y15_1, z15_2, y15_2⟩ := cl3 BK733) | (refine gl 4 Tryz.func35 #[.agg #[.int .i64 a0_0, .slice A0_1 l0_1.length c0_1, .string a0_2]] ?_; (with_reducible refine (impl_RespOk.calls k a0_0 _ _ l0_1 a0_2 true _ ?side1 ?side2 A2.out).mono ?_); (case side1 => exact cb HR0_1); (case side2 => exact HC0_1.out); rintro e w16 ⟨rfl, hb⟩; refine ⟨_, rfl, ?_⟩; replace BK733 := kb BK733 hb; replace HB := am (below_step bl hb); clear hb))
 replace BK733 := am (blk_drew BK733.out)
 replace HB := am (below_drew1 HB.out)
 refine start_ (n := 19) (S := fun w' => w'.cell? ⟨gb733, 0, none⟩ = some (.int .i64 a0_0) ∧ w'.cell? ⟨gb733, 1, none⟩ = some (.slice A0_1 l0_1.length c0_1) ∧ w'.cell? ⟨gb733, 2, none⟩ = some (.string a0_2)) (ds := []) ⟨br true [0, 19]⟩ (by kernel_rfl) rfl (by kernel_rfl) ⟨bc BK733, bc BK733, bc BK733⟩ (fun hHeld => ?_); refine with_tabW impl_RespText.tab3 impl_RespText.bits3 (fun HT_ HW_ => ?_)
 generalize w16.drew = w17 at BK733 HB hHeld ⊢
 refine pu 0 6 [1, 18] ?_
 refine pu 6 12 [1, 5, 1, 12] ?_
 refine pu 10 16 [1, 5, 1, 3, 1, 8] ?_
 refine pu 15 21 [1, 5, 1, 3, 1, 4, 1, 3] ?_
 refine tk 1 7 [2, 4, 1, 3, 1, 4, 1, 3] ?_
 refine tk 7 13 [2, 4, 2, 2, 1, 4, 1, 3] ?_
 refine tk 11 17 [2, 4, 2, 2, 2, 3, 1, 3] ?_
 refine tk 16 22 [2, 4, 2, 2, 2, 3, 2, 2] ?_
 refine og 2 8 [3, 3, 2, 2, 2, 3, 2, 2] Tryz.func95 #[.int .i64 a0_0] (fun K hK => ?_)
 with_reducible refine (strconv_Itoa.calls a0_0 t735 _ ?side1 A4.out).mono ?_
 (case side1 => exact GLOBT.below HGT.out bl)
 rintro e w18 ⟨rfl, hb⟩
 refine ⟨_, rfl, ?_⟩
 replace BK733 := kb BK733 hb
 replace HB := am (below_step bl hb)
 clear hb
 refine hK.out _ _ ⟨bc BK733, bc BK733, bc BK733⟩ (fun hHeld => ?_)
 clear hK K
 refine nm 8 ?_
 refine pu 3 9 [4, 2, 2, 2, 2, 3, 2, 2] ?_
 refine pu 4 10 [5, 1, 2, 2, 2, 3, 2, 2] ?_
 refine pu 5 11 [8, 2, 2, 3, 2, 2] ?_
 refine og 8 14 [9, 1, 2, 3, 2, 2] Tryz.func73 #[.slice A0_1 l0_1.length c0_1] (fun K hK => ?_)
 with_reducible refine (impl_FieldsText.calls _ _ l0_1 t736 _ ?side1 ?side2 A8.out).mono ?_
 (case side1 => exact cb HR0_1)
 (case side2 => exact HC0_1.out)
 rintro e w19 ⟨rfl, hb⟩
 refine ⟨_, rfl, ?_⟩
 replace BK733 := kb BK733 hb
 replace HB := am (below_step bl hb)
 clear hb
 refine hK.out _ _ ⟨bc BK733, bc BK733, bc BK733⟩ (fun hHeld => ?_)
 clear hK K
 refine nm 14 ?_
 refine pu 9 15 [12, 3, 2, 2] ?_
 refine og 12 18 [13, 2, 2, 2] Tryz.func74 #[.string a0_2] (fun K hK => ?_)
 with_reducible refine (impl_lengthLine.calls a0_2 t737 _ ?side1 A10.out).mono ?_
 (case side1 => exact GLOBT.below HGT.out bl)
 rintro e w20 ⟨rfl, hb⟩
 refine ⟨_, rfl, ?_⟩
 replace BK733 := kb BK733 hb
 replace HB := am (below_step bl hb)
 clear hb
 refine hK.out _ _ ⟨bc BK733, bc BK733, bc BK733⟩ (fun hHeld => ?_)
 clear hK K
 refine nm 18 ?_
 refine pu 13 19 [14, 1, 2, 2] ?_
 refine pu 14 20 [17, 2] ?_
 refine pu 17 23 [18, 1] ?_
 refine pu 18 2 [19] ?_
 refine done_ (done_of HT_.out (by kernel_rfl)) ?_
 try go_wp2
 go_ret
 exact ⟨rf, bl⟩

/-! ### impl_RespRead: function 28 -/
theorem u28HB {p : Prop} (h : p := by repeat (first | (with_reducible first | exact HB.out | apply below_alloc | apply pw_below_drewN | apply below_drew1 | refine below_set ?_ GE738.out) | exact HB.out)) : p := h
def impl_RespRead.j0 : Nat → ByteArray → List (S100) → ByteArray → List ByteArray → Bool → Option (Int × (List (S100)) × ByteArray × Bool)
 | 0, _, _, _, _, _ => none
 | k + 1, x0, x5, x6, x8, x27 => if x27 = true then (some (0, ([] : List (S100)), (⟨#[]⟩ : ByteArray), false)) else (if 1 < (x8.length : Int) then ((impl_NumRead.f (rdOf ByteArray.empty x8 1)).bind fun bt749 => (if x0.toList = ([] : List UInt8) then (some (0, ([] : List (S100)), (⟨#[]⟩ : ByteArray), false)) else ((impl_RespText.f k bt749.1 x5 x6).bind fun t752 => (if t752.toList = x0.toList then (some (bt749.1, x5, x6, true)) else (some (0, ([] : List (S100)), (⟨#[]⟩ : ByteArray), false)))))) else (none))
def impl_RespRead.f (k : Nat) (a0 : ByteArray) : Option (Int × (List (S100)) × ByteArray × Bool) := (impl_parts.f k a0).bind fun bt739 => ((strings_Split.f bt739.1 (⟨#[32]⟩ : ByteArray)).bind fun t745 => (if bt739.2.2.2 = true then (impl_RespRead.j0 k a0 bt739.2.1 bt739.2.2.1 t745 ((t745.length : Int) != 3)) else (impl_RespRead.j0 k a0 bt739.2.1 bt739.2.2.1 t745 true)))
theorem impl_RespRead.mono_l : ∀ k, (∀ y0 y1 y2 y3 y4, LeO (impl_RespRead.j0 k y0 y1 y2 y3 y4) (impl_RespRead.j0 (k + 1) y0 y1 y2 y3 y4))
 | 0 => fun _ _ _ _ _ r h => by simp [impl_RespRead.j0] at h
 | k + 1 => by
  have ih0 := impl_RespRead.mono_l k
  ·intro y0 y1 y2 y3 y4
   unfold impl_RespRead.j0
   have m0 := @impl_RespText.mono
   have m1 := @impl_parts.mono
   exact mo
theorem impl_RespRead.mono : ∀ a0 k, LeO (impl_RespRead.f k a0) (impl_RespRead.f (k + 1) a0) := by
 intro a0 k
 have ih0 := impl_RespRead.mono_l k
 unfold impl_RespRead.f
 have m0 := @impl_RespText.mono
 have m1 := @impl_parts.mono
 exact mo
set_option maxHeartbeats 8000000 in
set_option maxRecDepth 100000 in
theorem impl_RespRead.calls (k : Nat) (a0 : ByteArray) (r1 : Int) (r2 : List (S100)) (r3 : ByteArray) (r4 : Bool) (w : World) (hGE : GLOBE w) (hGM : GLOBM w) (hGT : GLOBT w) (h : impl_RespRead.f k a0 = some (r1, r2, r3, r4)) :
  Calls Tryz.prog 28 #[.string a0] w fun e w' => ∃ v1_ : Value, e = .returned (.tuple #[.agg #[.int .i64 r1, v1_, .string r3], .bool r4]) ∧ Kd.R k100 100 w' w.heap.size (fun _ => True) v1_ r2 ∧ Below w.heap.size w w' := by
 have hu48 := Tryz.underlying48
 have HGE := am hGE
 clear hGE
 have HGM := am hGM
 clear hGM
 have HGT := am hGT
 clear hGT
 have HB := am (Below.refl w.heap.size w)
 unfold impl_RespRead.f at h
 have H := h
 clear h
 revert H
 refine ok4 fun t739 t740 t741 t742 A2 H => ?_
 (try dsimp only at H)
 revert H
 refine ok1 fun t745 A3 H => ?_
 have HC4 := am H
 clear H
 go_enter Tryz.func28, Tryz.ntmps28
 go_upto_region 3 with (first | ((with_reducible refine gate_dst (N := 2) rfl ?_); (try (refine gate_guard (by rfl) ?_; dsimp only)); refine box_event ?hg (N := 2) ?hd (cs := #[.int .i64 0, .slice none 0 0, .string (⟨#[]⟩ : ByteArray)]) (t := 48) ?hr ?_; (case hd => rfl); (case hg => rfl); (case hr => first | (go_simp; done) | (go_simp; rfl)); intro gb738 hg w5 hbox hb; have BK738 := am (hbox); have GW738 := am (sz hg : w.heap.size ≤ gb738); have GE738 := am (sz hg : w.heap.size ≤ gb738); replace HB := am (below_step bl hb); clear hb hbox hg) | (refine gl 14 Tryz.func83 #[.string a0] ?_; (with_reducible refine (impl_parts.calls k a0 t739 t740 t741 t742 _ ?side1 A2.out).mono ?_); (case side1 => exact GLOBM.below HGM.out bl); rintro e w6 ⟨v743, rfl, ho0, hb⟩; refine ⟨_, rfl, ?_⟩; have HO744 := am (Kd.R_lower ho0 (below_size bl)); replace BK738 := kb BK738 hb; replace HB := am (below_step bl hb); clear hb ho0) | (refine gl 20 Tryz.func84 #[.string t739, .string (⟨#[32]⟩ : ByteArray)] ?_; (with_reducible refine (strings_Split.calls t739 (⟨#[32]⟩ : ByteArray) t745 _ ?side1 A3.out).mono ?_); (case side1 => exact GLOBM.below HGM.out bl); rintro e w7 ⟨v746, rfl, ho0, hb⟩; refine ⟨_, rfl, ?_⟩; replace HO744 := kr HO744 hb; have HO747 := am (Kd.R_lower ho0 (below_size bl)); replace BK738 := kb BK738 hb; replace HB := am (below_step bl hb); clear hb ho0))
 (try simp only [Act.put, List.setIfInBounds_toArray, List.set_cons_zero, List.set_cons_succ])
 go_cut [27] (fun v27 wc => ∃ (kq : Nat) (x27_3 : Bool), v27 = .bool x27_3 ∧ Aside0 (impl_RespRead.j0 kq a0 t740 t741 t745 x27_3 = some (r1, r2, r3, r4)) ∧ Aside0 (kq ≤ k) ∧ Aside0 (Kd.R k100 100 wc w.heap.size (fun _ => True) v743 t740) ∧ Aside0 (Kd.R Kd.string 9 wc w.heap.size (fun _ => True) v746 t745) ∧ Aside0 (wc.heap[gb738]? = some (.cells #[.int .i64 0, (.slice none 0 0), .string (⟨#[]⟩ : ByteArray)] 48 (0, 0))) ∧ Aside0 (Below w.heap.size w wc))
 case first =>
  have H := HC4.out
  clear HC4
  by_cases c8 : t742 = true
  rotate_left
  ·replace c8 := Bool.eq_false_iff.mpr c8
   subst c8
   rw [if_neg (show ¬ (false = true) by decide)] at H
   have H' := am H
   clear H
   go_wp2
   go_meet
   case rel => exact ⟨_, (true), rs, H', ⟨by first | omega | exact Nat.le_refl _⟩, ⟨by (with_reducible repeat (first | apply Kd.R_alloc | apply Kd.R_drewN | apply Kd.R_drew)); exact HO744.out⟩, ⟨by (with_reducible repeat (first | apply Kd.R_alloc | apply Kd.R_drewN | apply Kd.R_drew)); exact HO747.out⟩, ⟨by (with_reducible repeat (first | refine blk_drewN ?_ _ | refine blk_drew ?_ | refine blk_alloc ?_ _)); exact BK738.out⟩, ⟨u28HB⟩⟩
  subst c8
  rw [if_pos rfl] at H
  have H' := am H
  clear H
  obtain ⟨Ao9, co9, eo9⟩ := Kd.R_slice HO747.out
  subst eo9
  go_wp2
  go_meet
  case rel => exact ⟨_, (((t745.length : Int) != 3)), rs, H', ⟨by first | omega | exact Nat.le_refl _⟩, ⟨by (with_reducible repeat (first | apply Kd.R_alloc | apply Kd.R_drewN | apply Kd.R_drew)); exact HO744.out⟩, ⟨by (with_reducible repeat (first | apply Kd.R_alloc | apply Kd.R_drewN | apply Kd.R_drew)); exact HO747.out⟩, ⟨by (with_reducible repeat (first | refine blk_drewN ?_ _ | refine blk_drew ?_ | refine blk_alloc ?_ _)); exact BK738.out⟩, ⟨u28HB⟩⟩
 case rest =>
  clear HC4
  try clear c2
  try clear p2
  try clear c8
  obtain ⟨kq, x27_3, rfl, HA, HJ3, HO_5, HO_8, BK738, HB⟩ := hcut
  cases kq with
  | zero => exact absurd HA.out (by simp [impl_RespRead.j0])
  | succ kj3 =>
   have H := HA.out
   clear HA
   simp only [impl_RespRead.j0] at H
   by_cases c10 : x27_3 = true
   ·subst c10
    rw [if_pos rfl] at H
    simp only [Option.some.injEq, Prod.mk.injEq] at H
    obtain ⟨rfl, rfl, rfl, rfl⟩ := H
    obtain ⟨z11_0, y11_0, z11_1, y11_1, z11_2, y11_2⟩ := cl3 BK738
    go_wp2
    refine bodyPost_ret (results_ct rfl _ _ gb738 48 #[.int .i64 0, .slice none 0 0, .string (⟨#[]⟩ : ByteArray)] (0, 0) _ rfl (pt0 BK738) Tryz.underlying48 rfl (by kernel_rfl)) rfl ?_
    exact ⟨_, rf, by first | exact Kd.R_nil _ _ _ _ _ | exact Kd.N_nil _ _ _ _ _ | exact Kd.V_nil _ _ _ _ _ | exact Kd.Q_nil _ _ _ _ _ | exact Kd.S_nil _ _ _ _ _, bl⟩
   replace c10 := Bool.eq_false_iff.mpr c10
   subst c10
   rw [if_neg (show ¬ (false = true) by decide)] at H
   revert H
   refine ifn fun c12 H => ?_
   have c12b0 := decide_eq_true c12
   have c12b1 : decide (1 < t745.length) = true := decide_eq_true (by omega)
   clear c12
   revert H
   refine ok2 fun t749 t750 A13 H => ?_
   (try dsimp only at H)
   by_cases c14 : a0.toList = ([] : List UInt8)
   ·rw [if_pos c14] at H
    have c14b0 : (a0.toList == ([] : List UInt8)) = true := beq_iff_eq.mpr c14
    have c14b1 : (a0.toList != ([] : List UInt8)) = false := bne_eq_false_iff_eq.mpr c14
    clear c14
    simp only [Option.some.injEq, Prod.mk.injEq] at H
    obtain ⟨rfl, rfl, rfl, rfl⟩ := H
    obtain ⟨Ao15, co15, eo15⟩ := Kd.R_slice HO_8.out
    subst eo15
    have p748 : 0 ≤ (1 : Int) := (by omega)
    have q748 : 1 < (t745.length : Int) := od
    obtain ⟨ad748, e748, hx748_0⟩ := Kd.at_string (Kd.R_reads' HO_8.out).2.2 1 p748 q748
    cases e748
    (try simp only [show (1 : Int).toNat = 1 from rfl, Nat.reduceMul, Nat.reduceEqDiff, Go.Addr.add, ↓reduceIte] at hx748_0)
    have qi748 : (1 < t745.length) = True := eq_true (by omega)
    (try rw [show ((1 : Int)).toNat = 1 from rfl] at hx748_0)
    replace p748 := eq_true p748
    replace q748 := eq_true q748
    go_wp2_with (first | (refine gl 33 Tryz.func90 #[.string (rdOf ByteArray.empty t745 1)] ?_; (with_reducible refine (impl_NumRead.calls (rdOf ByteArray.empty t745 1) t749 t750 _ ?side1 ?side2 A13.out).mono ?_); (case side1 => exact GLOBE.below HGE.out bl); (case side2 => exact GLOBT.below HGT.out bl); rintro e w16 ⟨rfl, hb⟩; refine ⟨_, rfl, ?_⟩; replace HO_5 := kr HO_5 hb; replace HO_8 := kr HO_8 hb; replace BK738 := kb BK738 hb; replace HB := am (below_step bl hb); clear hb; obtain ⟨Ao17, co17, eo17⟩ := Kd.R_slice HO_5.out; subst eo17) | ((with_reducible refine gate_dst (N := 11) rfl ?_); (try (refine gate_guard (by rfl) ?_; dsimp only)); refine box_event ?hg (N := 11) ?hd (cs := #[.int .i64 0, .slice none 0 0, .string (⟨#[]⟩ : ByteArray)]) (t := 48) ?hr ?_; (case hd => rfl); (case hg => rfl); (case hr => first | (go_simp; done) | (go_simp; rfl)); intro gb751 hg w18 hbox hb; replace HO_5 := am (Kd.R_below (ro HO_5) hb); replace HO_8 := am (Kd.R_below (ro HO_8) hb); have BK751 := am (hbox); have GW751 := am (sz hg : w.heap.size ≤ gb751); have GE751 := am (sz hg : w.heap.size ≤ gb751); replace HB := am (below_step bl hb); have NB738_751 := am (nl hg BK738 : gb738 ≠ gb751); have NB751_738 := am (ng hg BK738 : gb751 ≠ gb738); replace BK738 := kb BK738 hb; clear hb hbox hg; have hnb19 := NB751_738.out; have hnc19 := NB738_751.out; obtain ⟨z20_0, y20_0, z20_1, y20_1, z20_2, y20_2⟩ := cl3 BK751; obtain ⟨z21_0, y21_0, z21_1, y21_1, z21_2, y21_2⟩ := cl3 BK738))
    refine bodyPost_ret (results_ct rfl _ _ gb738 48 #[.int .i64 0, .slice none 0 0, .string (⟨#[]⟩ : ByteArray)] (0, 0) _ rfl (pt1 BK738 NB738_751) Tryz.underlying48 rfl (by kernel_rfl)) rfl ?_
    exact ⟨_, rf, by first | exact Kd.R_nil _ _ _ _ _ | exact Kd.N_nil _ _ _ _ _ | exact Kd.V_nil _ _ _ _ _ | exact Kd.Q_nil _ _ _ _ _ | exact Kd.S_nil _ _ _ _ _, bl⟩
   rw [if_neg c14] at H
   have c14b0 : (a0.toList == ([] : List UInt8)) = false := beq_eq_false_iff_ne.mpr c14
   have c14b1 : (a0.toList != ([] : List UInt8)) = true := bne_iff_ne.mpr c14
   revert H
   refine ok1 fun t752 A22 H => ?_
   by_cases c23 : t752.toList = a0.toList
   ·rw [if_pos c23] at H
    have c23b0 : (t752.toList == a0.toList) = true := beq_iff_eq.mpr c23
    have c23b1 : (t752.toList != a0.toList) = false := bne_eq_false_iff_eq.mpr c23
    clear c23
    simp only [Option.some.injEq, Prod.mk.injEq] at H
    obtain ⟨rfl, rfl, rfl, rfl⟩ := H
    obtain ⟨Ao24, co24, eo24⟩ := Kd.R_slice HO_8.out
    subst eo24
    have p748 : 0 ≤ (1 : Int) := (by omega)
    have q748 : 1 < (t745.length : Int) := od
    obtain ⟨ad748, e748, hx748_0⟩ := Kd.at_string (Kd.R_reads' HO_8.out).2.2 1 p748 q748
    cases e748
    (try simp only [show (1 : Int).toNat = 1 from rfl, Nat.reduceMul, Nat.reduceEqDiff, Go.Addr.add, ↓reduceIte] at hx748_0)
    have qi748 : (1 < t745.length) = True := eq_true (by omega)
    (try rw [show ((1 : Int)).toNat = 1 from rfl] at hx748_0)
    replace p748 := eq_true p748
    replace q748 := eq_true q748
    go_wp2_with (first | (refine gl 33 Tryz.func90 #[.string (rdOf ByteArray.empty t745 1)] ?_; (with_reducible refine (impl_NumRead.calls (rdOf ByteArray.empty t745 1) t749 t750 _ ?side1 ?side2 A13.out).mono ?_); (case side1 => exact GLOBE.below HGE.out bl); (case side2 => exact GLOBT.below HGT.out bl); rintro e w25 ⟨rfl, hb⟩; refine ⟨_, rfl, ?_⟩; replace HO_5 := kr HO_5 hb; replace HO_8 := kr HO_8 hb; replace BK738 := kb BK738 hb; replace HB := am (below_step bl hb); clear hb; obtain ⟨Ao26, co26, eo26⟩ := Kd.R_slice HO_5.out; subst eo26) | ((with_reducible refine gate_dst (N := 11) rfl ?_); (try (refine gate_guard (by rfl) ?_; dsimp only)); refine box_event ?hg (N := 11) ?hd (cs := #[.int .i64 0, .slice none 0 0, .string (⟨#[]⟩ : ByteArray)]) (t := 48) ?hr ?_; (case hd => rfl); (case hg => rfl); (case hr => first | (go_simp; done) | (go_simp; rfl)); intro gb751 hg w27 hbox hb; replace HO_5 := am (Kd.R_below (ro HO_5) hb); replace HO_8 := am (Kd.R_below (ro HO_8) hb); have BK751 := am (hbox); have GW751 := am (sz hg : w.heap.size ≤ gb751); have GE751 := am (sz hg : w.heap.size ≤ gb751); replace HB := am (below_step bl hb); have NB738_751 := am (nl hg BK738 : gb738 ≠ gb751); have NB751_738 := am (ng hg BK738 : gb751 ≠ gb738); replace BK738 := kb BK738 hb; clear hb hbox hg; have hnb28 := NB751_738.out; have hnc28 := NB738_751.out; obtain ⟨z29_0, y29_0, z29_1, y29_1, z29_2, y29_2⟩ := cl3 BK751) | (go_at_call 33; (with_reducible refine (impl_RespText.calls kj3 t749 _ _ t740 t741 t752 _ ?side1 ?side2 ?side3 A22.out).mono ?_); (case side1 => exact GLOBT.below HGT.out bl); (case side2 => refine (Kd.R_reads' (e := 100) (base := w.heap.size) (ok := fun k_ => True) (n := t740.length) (c := co26) ?_).2.2; exact (by (with_reducible repeat (first | apply Kd.R_alloc | apply Kd.R_drewN | apply Kd.R_drew)); exact (Kd.R_mono (Kd.R_far (p := ⟨gb751, 2, none⟩) (Kd.R_far (p := ⟨gb751, 1, none⟩) (Kd.R_far (p := ⟨gb751, 0, none⟩) (Kd.R_types HO_5.out BK751.out (by decide)) (fun _ hk => hk.2) (.int .i64 t749)) (fun _ hk => hk.2) (.slice Ao26 t740.length co26)) (fun _ hk => hk.2) (.string t741)) (fun _ h_ => h_.1)))); (case side3 => exact (Kd.R_reads' HO_5.out).2.1); rintro e w30 ⟨rfl, hb⟩; have n0_ := am (Kd.R_below (by (with_reducible repeat (first | apply Kd.R_alloc | apply Kd.R_drewN | apply Kd.R_drew)); exact (Kd.R_mono (Kd.R_far (p := ⟨gb751, 2, none⟩) (Kd.R_far (p := ⟨gb751, 1, none⟩) (Kd.R_far (p := ⟨gb751, 0, none⟩) (Kd.R_types HO_5.out BK751.out (by decide)) (fun _ hk => hk.2) (.int .i64 t749)) (fun _ hk => hk.2) (.slice Ao26 t740.length co26)) (fun _ hk => hk.2) (.string t741)) (fun _ h_ => h_.1))) hb); have n1_ := am (Kd.R_below (by (with_reducible repeat (first | apply Kd.R_alloc | apply Kd.R_drewN | apply Kd.R_drew)); exact (Kd.R_mono (Kd.R_far (p := ⟨gb751, 2, none⟩) (Kd.R_far (p := ⟨gb751, 1, none⟩) (Kd.R_far (p := ⟨gb751, 0, none⟩) (Kd.R_types HO_8.out BK751.out (by decide)) (fun _ hk => hk.2) (.int .i64 t749)) (fun _ hk => hk.2) (.slice Ao26 t740.length co26)) (fun _ hk => hk.2) (.string t741)) (fun _ h_ => h_.1))) hb); have n2_ := kg1 BK738 NB738_751 hb; have n3_ := am (blk_below (g := gb751) (o := .cells #[.int .i64 t749, .slice Ao26 t740.length co26, .string t741] 48 (0, 0)) (pt0 BK751) hb); have n4_ := am (below_step bl hb); clear HO_5; clear HO_8; clear BK738; clear BK751; clear HB; have HO_5 := n0_; have HO_8 := n1_; have BK738 := n2_; have BK751 := n3_; have HB := n4_; clear n0_ n1_ n2_ n3_ n4_; clear hb; obtain ⟨z31_0, y31_0, z31_1, y31_1, z31_2, y31_2⟩ := cl3 BK751; obtain ⟨z32_0, y32_0, z32_1, y32_1, z32_2, y32_2⟩ := cl3 BK738))
    refine bodyPost_ret (results_ct rfl _ _ gb738 48 #[.int .i64 t749, .slice Ao26 t740.length co26, .string t741] (0, 0) _ rfl (pt0 BK738) Tryz.underlying48 rfl (by kernel_rfl)) rfl ?_
    exact ⟨_, rf, rg (Kd.R_types HO_5.out BK738.out (by decide)), bl⟩
   rw [if_neg c23] at H
   have c23b0 : (t752.toList == a0.toList) = false := beq_eq_false_iff_ne.mpr c23
   have c23b1 : (t752.toList != a0.toList) = true := bne_iff_ne.mpr c23
   simp only [Option.some.injEq, Prod.mk.injEq] at H
   obtain ⟨rfl, rfl, rfl, rfl⟩ := H
   obtain ⟨Ao33, co33, eo33⟩ := Kd.R_slice HO_8.out
   subst eo33
   have p748 : 0 ≤ (1 : Int) := (by omega)
   have q748 : 1 < (t745.length : Int) := od
   obtain ⟨ad748, e748, hx748_0⟩ := Kd.at_string (Kd.R_reads' HO_8.out).2.2 1 p748 q748
   cases e748
   (try simp only [show (1 : Int).toNat = 1 from rfl, Nat.reduceMul, Nat.reduceEqDiff, Go.Addr.add, ↓reduceIte] at hx748_0)
   have qi748 : (1 < t745.length) = True := eq_true (by omega)
   (try rw [show ((1 : Int)).toNat = 1 from rfl] at hx748_0)
   replace p748 := eq_true p748
   replace q748 := eq_true q748
   go_wp2_with (first | (refine gl 33 Tryz.func90 #[.string (rdOf ByteArray.empty t745 1)] ?_; (with_reducible refine (impl_NumRead.calls (rdOf ByteArray.empty t745 1) t749 t750 _ ?side1 ?side2 A13.out).mono ?_); (case side1 => exact GLOBE.below HGE.out bl); (case side2 => exact GLOBT.below HGT.out bl); rintro e w34 ⟨rfl, hb⟩; refine ⟨_, rfl, ?_⟩; replace HO_5 := kr HO_5 hb; replace HO_8 := kr HO_8 hb; replace BK738 := kb BK738 hb; replace HB := am (below_step bl hb); clear hb; obtain ⟨Ao35, co35, eo35⟩ := Kd.R_slice HO_5.out; subst eo35) | ((with_reducible refine gate_dst (N := 11) rfl ?_); (try (refine gate_guard (by rfl) ?_; dsimp only)); refine box_event ?hg (N := 11) ?hd (cs := #[.int .i64 0, .slice none 0 0, .string (⟨#[]⟩ : ByteArray)]) (t := 48) ?hr ?_; (case hd => rfl); (case hg => rfl); (case hr => first | (go_simp; done) | (go_simp; rfl)); intro gb751 hg w36 hbox hb; replace HO_5 := am (Kd.R_below (ro HO_5) hb); replace HO_8 := am (Kd.R_below (ro HO_8) hb); have BK751 := am (hbox); have GW751 := am (sz hg : w.heap.size ≤ gb751); have GE751 := am (sz hg : w.heap.size ≤ gb751); replace HB := am (below_step bl hb); have NB738_751 := am (nl hg BK738 : gb738 ≠ gb751); have NB751_738 := am (ng hg BK738 : gb751 ≠ gb738); replace BK738 := kb BK738 hb; clear hb hbox hg; have hnb37 := NB751_738.out; have hnc37 := NB738_751.out; obtain ⟨z38_0, y38_0, z38_1, y38_1, z38_2, y38_2⟩ := cl3 BK751) | (go_at_call 33; (with_reducible refine (impl_RespText.calls kj3 t749 _ _ t740 t741 t752 _ ?side1 ?side2 ?side3 A22.out).mono ?_); (case side1 => exact GLOBT.below HGT.out bl); (case side2 => refine (Kd.R_reads' (e := 100) (base := w.heap.size) (ok := fun k_ => True) (n := t740.length) (c := co35) ?_).2.2; exact (by (with_reducible repeat (first | apply Kd.R_alloc | apply Kd.R_drewN | apply Kd.R_drew)); exact (Kd.R_mono (Kd.R_far (p := ⟨gb751, 2, none⟩) (Kd.R_far (p := ⟨gb751, 1, none⟩) (Kd.R_far (p := ⟨gb751, 0, none⟩) (Kd.R_types HO_5.out BK751.out (by decide)) (fun _ hk => hk.2) (.int .i64 t749)) (fun _ hk => hk.2) (.slice Ao35 t740.length co35)) (fun _ hk => hk.2) (.string t741)) (fun _ h_ => h_.1)))); (case side3 => exact (Kd.R_reads' HO_5.out).2.1); rintro e w39 ⟨rfl, hb⟩; have n0_ := am (Kd.R_below (by (with_reducible repeat (first | apply Kd.R_alloc | apply Kd.R_drewN | apply Kd.R_drew)); exact (Kd.R_mono (Kd.R_far (p := ⟨gb751, 2, none⟩) (Kd.R_far (p := ⟨gb751, 1, none⟩) (Kd.R_far (p := ⟨gb751, 0, none⟩) (Kd.R_types HO_5.out BK751.out (by decide)) (fun _ hk => hk.2) (.int .i64 t749)) (fun _ hk => hk.2) (.slice Ao35 t740.length co35)) (fun _ hk => hk.2) (.string t741)) (fun _ h_ => h_.1))) hb); have n1_ := am (Kd.R_below (by (with_reducible repeat (first | apply Kd.R_alloc | apply Kd.R_drewN | apply Kd.R_drew)); exact (Kd.R_mono (Kd.R_far (p := ⟨gb751, 2, none⟩) (Kd.R_far (p := ⟨gb751, 1, none⟩) (Kd.R_far (p := ⟨gb751, 0, none⟩) (Kd.R_types HO_8.out BK751.out (by decide)) (fun _ hk => hk.2) (.int .i64 t749)) (fun _ hk => hk.2) (.slice Ao35 t740.length co35)) (fun _ hk => hk.2) (.string t741)) (fun _ h_ => h_.1))) hb); have n2_ := kg1 BK738 NB738_751 hb; have n3_ := am (blk_below (g := gb751) (o := .cells #[.int .i64 t749, .slice Ao35 t740.length co35, .string t741] 48 (0, 0)) (pt0 BK751) hb); have n4_ := am (below_step bl hb); clear HO_5; clear HO_8; clear BK738; clear BK751; clear HB; have HO_5 := n0_; have HO_8 := n1_; have BK738 := n2_; have BK751 := n3_; have HB := n4_; clear n0_ n1_ n2_ n3_ n4_; clear hb; obtain ⟨z40_0, y40_0, z40_1, y40_1, z40_2, y40_2⟩ := cl3 BK738))
   refine bodyPost_ret (results_ct rfl _ _ gb738 48 #[.int .i64 0, .slice none 0 0, .string (⟨#[]⟩ : ByteArray)] (0, 0) _ rfl (pt0 BK738) Tryz.underlying48 rfl (by kernel_rfl)) rfl ?_
   exact ⟨_, rf, by first | exact Kd.R_nil _ _ _ _ _ | exact Kd.N_nil _ _ _ _ _ | exact Kd.V_nil _ _ _ _ _ | exact Kd.Q_nil _ _ _ _ _ | exact Kd.S_nil _ _ _ _ _, bl⟩

end Go.Proofs.YtnmanegjgidgcaaGreatDoor.All
