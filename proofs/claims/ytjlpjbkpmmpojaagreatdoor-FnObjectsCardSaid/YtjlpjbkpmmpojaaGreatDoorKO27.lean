import Derived.Test.YtjlpjbkpmmpojaaGreatDoorKO12
namespace Go.Proofs.YtjlpjbkpmmpojaaGreatDoor.All
open Go.RowKit Go.Proofs.YtjlpjbkpmmpojaaGreatDoorW.PrintWords Go.Proofs.YtjlpjbkpmmpojaaGreatDoorW.PrintLast Go.Proofs.YtjlpjbkpmmpojaaGreatDoorW.PrintMore
set_option maxHeartbeats 8000000
set_option maxRecDepth 100000
attribute [local go_sem] min2_int min_two
set_option linter.unusedVariables false
set_option linter.unusedSimpArgs false
def strconv_Itoa.f (a0 : Int) : Option ByteArray := if -9223372036854775808 ≤ a0 ∧ a0 ≤ 9223372036854775807 then some ⟨(Lib.itoa a0).toArray⟩ else none
theorem strconv_Itoa.calls (a0 : Int) (r : ByteArray) (w : World) (hGT : GLOBT w) (h : strconv_Itoa.f a0 = some r) :
  Calls Tryz.prog 99 #[.int .i64 a0] w fun e w' => e = .returned (.string r) ∧ Below w.heap.size w w' := by
 unfold strconv_Itoa.f at h
 split at h
 case isFalse => cases h
 rename_i hl
 obtain rfl := Option.some.inj h
 refine (Tryz.strconv_Itoa a0 hl.1 hl.2 w hGT).mono ?_
 rintro e w' ⟨rfl, k, os, rfl⟩
 exact ⟨rfl, Go.Lib.below_grow _ _ (Nat.le_refl _) k os⟩
def impl_NumText.f (a0 : Int) : Option (ByteArray) := (impl_inRange.f a0 0 1000000).bind fun t6 => (if t6 = true then ((strconv_Itoa.f a0).bind fun t7 => (some t7)) else (some (⟨#[]⟩ : ByteArray)))
theorem impl_NumText.calls (a0 : Int) (r : ByteArray) (w : World) (hGT : GLOBT w) (h : impl_NumText.f a0 = some r) :
  Calls Tryz.prog 77 #[.int .i64 a0] w fun e w' => e = .returned (.string r) ∧ Below w.heap.size w w' := by
 have HGT := am hGT
 clear hGT
 have HB := am (Below.refl w.heap.size w)
 unfold impl_NumText.f at h
 have H := h
 clear h
 revert H
 refine ok1 fun t6 A2 H => ?_
 by_cases c3 : t6 = true
 rotate_left
 ·replace c3 := nb_ c3
  subst c3
  rw [if_neg ff_] at H
  obtain rfl := si_ H
  go_enter Tryz.func77, Tryz.ntmps77
  go_wp2_with ((with_reducible refine gw ?_); first | (refine gl 4 Tryz.func76 #[.int .i64 a0, .int .i64 0, .int .i64 1000000] ?_; (with_reducible refine (impl_inRange.calls a0 0 1000000 false _ A2.out).mono ?_); rintro e w' ⟨rfl, ⟨nd, rfl⟩⟩; refine ⟨_, rfl, ?_⟩))
  go_ret
  exact ⟨rf, bl⟩
 subst c3
 rw [if_pos rfl] at H
 revert H
 refine ok1 fun t7 A4 H => ?_
 obtain rfl := si_ H
 go_enter Tryz.func77, Tryz.ntmps77
 go_wp2_with ((with_reducible refine gw ?_); first | (refine gl 4 Tryz.func76 #[.int .i64 a0, .int .i64 0, .int .i64 1000000] ?_; (with_reducible refine (impl_inRange.calls a0 0 1000000 true _ A2.out).mono ?_); rintro e w' ⟨rfl, ⟨nd, rfl⟩⟩; refine ⟨_, rfl, ?_⟩) | (refine gl 7 Tryz.func99 #[.int .i64 a0] ?_; refine (strconv_Itoa.calls a0 t7 _ (GLOBT.below HGT.out bl) A4.out).mono ?_; rintro e w5 ⟨rfl, hb⟩; refine ⟨_, rfl, ?_⟩; replace HB := am (below_step bl hb); clear hb))
 go_ret
 exact ⟨rf, bl⟩
def numRead (s : ByteArray) : Int × Bool :=
 if 7 < s.size then (0, false)
 else match Lib.atoiAll s.data.toList with
  | .ok n => if 0 ≤ n ∧ n ≤ 1000000 ∧ Lib.itoa n = s.data.toList then (n, true) else (0, false)
  | _ => (0, false)
def impl_NumRead.f (a0 : ByteArray) : Option (Int × Bool) := some (numRead a0)
set_option maxHeartbeats 4000000 in
theorem impl_NumRead.calls (a0 : ByteArray) (r1 : Int) (r2 : Bool) (w : World) (hGE : GLOBE w) (hGT : GLOBT w) (h : impl_NumRead.f a0 = some (r1, r2)) :
  Calls Tryz.prog 110 #[.string a0] w fun e w' => e = .returned (.tuple #[.int .i64 r1, .bool r2]) ∧ Below w.heap.size w w' := by
 obtain rfl : (numRead a0).1 = r1 := by rw [Option.some.inj h]
 obtain rfl : (numRead a0).2 = r2 := by rw [Option.some.inj h]
 clear h
 have HGE := am hGE
 have HGT := am hGT
 clear hGE hGT
 have HB := am (Below.refl w.heap.size w)
 by_cases c : 7 < a0.size
 ·have c0 : decide ((a0.size : Int) > 7) = true := decide_eq_true (by omega)
  go_enter Tryz.func110, Tryz.ntmps110
  go_wp2
  go_ret2
  exact ⟨by unfold numRead; rw [if_pos c]; rfl, HB.out⟩
 have c0 : decide ((a0.size : Int) > 7) = false := decide_eq_false (by omega)
 have hmax : a0.size ≤ 9223372036854775806 := by omega
 have hlim : a0.size ≤ 281474976710656 := by omega
 cases hA : Lib.atoiAll a0.data.toList with
 | ok n =>
  have HA := am hA
  clear hA
  go_enter Tryz.func110, Tryz.ntmps110
  by_cases c1 : 0 ≤ n ∧ n ≤ 1000000
  rotate_left
  ·have c1' : impl_inRange.f n 0 1000000 = some false := by
    unfold impl_inRange.f
    by_cases h : n ≥ 0
    ·rw [if_pos h, decide_eq_false (fun e => c1 ⟨h, e⟩)]
    ·rw [if_neg h]
   go_wp2_with (first | (go_at_call 157; refine (Tryz.strconv_Atoi_ok a0 hmax n HA.out _).mono ?_; rintro e w1 ⟨rfl, hb⟩; have HB1 : Aside0 (Below w.heap.size w w1) := ⟨by rcases hb with rfl | ⟨t, rfl⟩ <;> first | exact Below.refl _ _ | exact Lib.bytesWorld_below _ _ _⟩; clear hb) | (go_at_call 76; refine (impl_inRange.calls n 0 1000000 false _ c1').mono ?_; rintro e w2 ⟨rfl, ⟨nd, rfl⟩⟩))
   go_ret2
   exact ⟨by unfold numRead; rw [if_neg c, HA.out]; simp only; rw [if_neg (fun e => c1 ⟨e.1, e.2.1⟩)]; rfl, by repeat (first | (with_reducible first | exact HB1.out | apply below_alloc | apply pw_below_drewN | apply below_drew1) | exact HB1.out)⟩
  by_cases c2 : Lib.itoa n = a0.data.toList
  ·have e2 : (Lib.itoa n == a0.toList) = true := by rw [ByteArray.toList_eq, c2]; simp
   have e3 : (!(Lib.itoa n == a0.toList)) = false := by rw [e2]; rfl
   go_wp2_with (first | (go_at_call 157; refine (Tryz.strconv_Atoi_ok a0 hmax n HA.out _).mono ?_; rintro e w1 ⟨rfl, hb⟩; have HB1 : Aside0 (Below w.heap.size w w1) := ⟨by rcases hb with rfl | ⟨t, rfl⟩ <;> first | exact Below.refl _ _ | exact Lib.bytesWorld_below _ _ _⟩; clear hb) | (go_at_call 76; refine (impl_inRange.calls n 0 1000000 true _ (by unfold impl_inRange.f; rw [if_pos c1.1, decide_eq_true c1.2])).mono ?_; rintro e w2 ⟨rfl, ⟨nd, rfl⟩⟩) | (go_at_call 99; refine (strconv_Itoa.calls n ⟨(Lib.itoa n).toArray⟩ _ ?hg (by unfold strconv_Itoa.f; rw [if_pos (by omega)])).mono ?_; (case hg => exact GLOBT.below HGT.out (pw_below_drewN HB1.out _)); rintro e w3 ⟨rfl, hb3⟩; have HB3 := am (below_step (pw_below_drewN HB1.out _) hb3); clear hb3))
   go_ret2
   exact ⟨by unfold numRead; rw [if_neg c, HA.out]; simp only; rw [if_pos ⟨c1.1, c1.2, c2⟩]; rfl, by repeat (first | (with_reducible first | exact HB3.out | apply below_alloc | apply pw_below_drewN | apply below_drew1) | exact HB3.out)⟩
  have e2 : (Lib.itoa n == a0.toList) = false := by rw [ByteArray.toList_eq, beq_eq_false_iff_ne]; exact c2
  have e3 : (!(Lib.itoa n == a0.toList)) = true := by rw [e2]; rfl
  go_wp2_with (first | (go_at_call 157; refine (Tryz.strconv_Atoi_ok a0 hmax n HA.out _).mono ?_; rintro e w1 ⟨rfl, hb⟩; have HB1 : Aside0 (Below w.heap.size w w1) := ⟨by rcases hb with rfl | ⟨t, rfl⟩ <;> first | exact Below.refl _ _ | exact Lib.bytesWorld_below _ _ _⟩; clear hb) | (go_at_call 76; refine (impl_inRange.calls n 0 1000000 true _ (by unfold impl_inRange.f; rw [if_pos c1.1, decide_eq_true c1.2])).mono ?_; rintro e w2 ⟨rfl, ⟨nd, rfl⟩⟩) | (go_at_call 99; refine (strconv_Itoa.calls n ⟨(Lib.itoa n).toArray⟩ _ ?hg (by unfold strconv_Itoa.f; rw [if_pos (by omega)])).mono ?_; (case hg => exact GLOBT.below HGT.out (pw_below_drewN HB1.out _)); rintro e w3 ⟨rfl, hb3⟩; have HB3 := am (below_step (pw_below_drewN HB1.out _) hb3); clear hb3))
  go_ret2
  exact ⟨by unfold numRead; rw [if_neg c, HA.out]; simp only; rw [if_neg (fun e => c2 e.2.2)]; rfl, by repeat (first | (with_reducible first | exact HB3.out | apply below_alloc | apply pw_below_drewN | apply below_drew1) | exact HB3.out)⟩
 | range =>
  have HA := am hA
  clear hA
  obtain ⟨_, ⟨tp, pv, hv⟩⟩ := HGE.out
  go_enter Tryz.func110, Tryz.ntmps110
  go_wp2_with (first | (go_at_call 157; refine (Tryz.strconv_Atoi_range_var a0 hlim HA.out tp pv _ hv).mono ?_; rintro e w1 ⟨N, rfl, _, _, hb⟩; have HB1 := am hb; clear hb))
  go_ret2
  exact ⟨by unfold numRead; rw [if_neg c, HA.out]; rfl, by repeat (first | (with_reducible first | exact HB1.out | apply below_alloc | apply pw_below_drewN | apply below_drew1) | exact HB1.out)⟩
 | _ =>
  have HA := am hA
  clear hA
  obtain ⟨⟨tp, pv, hv⟩, _⟩ := HGE.out
  go_enter Tryz.func110, Tryz.ntmps110
  go_wp2_with (first | (go_at_call 157; refine (Tryz.strconv_Atoi_syntax_var a0 hlim HA.out tp pv _ hv).mono ?_; rintro e w1 ⟨N, rfl, _, _, hb⟩; have HB1 := am hb; clear hb))
  go_ret2
  exact ⟨by unfold numRead; rw [if_neg c, HA.out]; rfl, by repeat (first | (with_reducible first | exact HB1.out | apply below_alloc | apply pw_below_drewN | apply below_drew1) | exact HB1.out)⟩
end Go.Proofs.YtjlpjbkpmmpojaaGreatDoor.All
