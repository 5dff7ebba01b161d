-- Written by a program of this session (wip/tools/hprint.py) out of the translation. Lean checks it.
import Derived.Test.YtdbgkookjpgnnaaGreatDoorAllx0
import Derived.Test.YtdbgkookjpgnnaaGreatDoorAllx1
import Derived.Test.YtdbgkookjpgnnaaGreatDoorAllx8
namespace Go.Proofs.YtdbgkookjpgnnaaGreatDoor.All
open Go.RowKit Go.Proofs.YtdbgkookjpgnnaaGreatDoorW.PrintWords Go.Proofs.YtdbgkookjpgnnaaGreatDoorW.PrintLast Go.Proofs.YtdbgkookjpgnnaaGreatDoorW.PrintMore
attribute [local go_sem] max2_int min2_int max_two min_two max_three min_three max_four min_four   -- for this text's walks alone
set_option linter.unusedVariables false
set_option linter.unusedSimpArgs false

/-! ### NumRead: strconv.Atoi there, strconv.Itoa back -/
def numRead (s : ByteArray) : Int × Bool :=
 if 7 < s.size then (0, false)
 else match Lib.atoiAll s.data.toList with
  | .ok n => if 0 ≤ n ∧ n ≤ 1000000 ∧ Lib.itoa n = s.data.toList then (n, true) else (0, false)
  | _ => (0, false)
def impl_NumRead.f (a0 : ByteArray) : Option (Int × Bool) := some (numRead a0)
set_option maxHeartbeats 4000000 in
theorem impl_NumRead.calls (a0 : ByteArray) (r1 : Int) (r2 : Bool) (w : World) (hGE : GLOBE w) (hGT : GLOBT w) (h : impl_NumRead.f a0 = some (r1, r2)) :
  Calls Tryz.prog 91 #[.string a0] w fun e w' => e = .returned (.tuple #[.int .i64 r1, .bool r2]) ∧ Below w.heap.size w w' := by
 obtain rfl : (numRead a0).1 = r1 := by rw [Option.some.inj h]
 obtain rfl : (numRead a0).2 = r2 := by rw [Option.some.inj h]
 clear h
 have HGE := am hGE
 have HGT := am hGT
 clear hGE hGT
 have HB := am (Below.refl w.heap.size w)
 by_cases c : 7 < a0.size
 ·have c0 : decide ((a0.size : Int) > 7) = true := decide_eq_true (by omega)
  go_enter Tryz.func91, Tryz.ntmps91
  go_wp2
  go_ret2
  exact ⟨by unfold numRead; rw [if_pos c]; rfl, HB.out⟩
 have c0 : decide ((a0.size : Int) > 7) = false := decide_eq_false (by omega)
 have hmax : a0.size ≤ 9223372036854775806 := by omega
 have hlim : a0.size ≤ 281474976710656 := by omega
 cases hA : Lib.atoiAll a0.data.toList with
 | ok n =>
  have HA := am hA
  clear hA
  go_enter Tryz.func91, Tryz.ntmps91
  by_cases c1 : 0 ≤ n ∧ n ≤ 1000000
  rotate_left
  ·have c1' : impl_inRange.f n 0 1000000 = some false := by
    unfold impl_inRange.f
    by_cases h : n ≥ 0
    ·rw [if_pos h, decide_eq_false (fun e => c1 ⟨h, e⟩)]
    ·rw [if_neg h]
   go_wp2_with (first | (go_at_call 154; refine (Tryz.strconv_Atoi_ok a0 hmax n HA.out _).mono ?_; rintro e w1 ⟨rfl, hb⟩; have HB1 : Aside0 (Below w.heap.size w w1) := ⟨by rcases hb with rfl | ⟨t, rfl⟩ <;> first | exact Below.refl _ _ | exact Lib.bytesWorld_below _ _ _⟩; clear hb) | (go_at_call 100; refine (impl_inRange.calls n 0 1000000 false _ c1').mono ?_; rintro e w2 ⟨rfl, ⟨nd, rfl⟩⟩))
   go_ret2
   exact ⟨by unfold numRead; rw [if_neg c, HA.out]; simp only; rw [if_neg (fun e => c1 ⟨e.1, e.2.1⟩)]; rfl, by repeat (first | (with_reducible first | exact HB1.out | apply below_alloc | apply pw_below_drewN | apply below_drew1) | exact HB1.out)⟩
  by_cases c2 : Lib.itoa n = a0.data.toList
  ·have e2 : (Lib.itoa n == a0.toList) = true := by rw [ByteArray.toList_eq, c2]; simp
   have e3 : (!(Lib.itoa n == a0.toList)) = false := by rw [e2]; rfl
   go_wp2_with (first | (go_at_call 154; refine (Tryz.strconv_Atoi_ok a0 hmax n HA.out _).mono ?_; rintro e w1 ⟨rfl, hb⟩; have HB1 : Aside0 (Below w.heap.size w w1) := ⟨by rcases hb with rfl | ⟨t, rfl⟩ <;> first | exact Below.refl _ _ | exact Lib.bytesWorld_below _ _ _⟩; clear hb) | (go_at_call 100; refine (impl_inRange.calls n 0 1000000 true _ (by unfold impl_inRange.f; rw [if_pos c1.1, decide_eq_true c1.2])).mono ?_; rintro e w2 ⟨rfl, ⟨nd, rfl⟩⟩) | (go_at_call 122; refine (strconv_Itoa.calls n ⟨(Lib.itoa n).toArray⟩ _ ?hg (by unfold strconv_Itoa.f; rw [if_pos (by omega)])).mono ?_; (case hg => exact GLOBT.below HGT.out (pw_below_drewN HB1.out _)); rintro e w3 ⟨rfl, hb3⟩; have HB3 := am (below_step (pw_below_drewN HB1.out _) hb3); clear hb3))
   go_ret2
   exact ⟨by unfold numRead; rw [if_neg c, HA.out]; simp only; rw [if_pos ⟨c1.1, c1.2, c2⟩]; rfl, by repeat (first | (with_reducible first | exact HB3.out | apply below_alloc | apply pw_below_drewN | apply below_drew1) | exact HB3.out)⟩
  have e2 : (Lib.itoa n == a0.toList) = false := by rw [ByteArray.toList_eq, beq_eq_false_iff_ne]; exact c2
  have e3 : (!(Lib.itoa n == a0.toList)) = true := by rw [e2]; rfl
  go_wp2_with (first | (go_at_call 154; refine (Tryz.strconv_Atoi_ok a0 hmax n HA.out _).mono ?_; rintro e w1 ⟨rfl, hb⟩; have HB1 : Aside0 (Below w.heap.size w w1) := ⟨by rcases hb with rfl | ⟨t, rfl⟩ <;> first | exact Below.refl _ _ | exact Lib.bytesWorld_below _ _ _⟩; clear hb) | (go_at_call 100; refine (impl_inRange.calls n 0 1000000 true _ (by unfold impl_inRange.f; rw [if_pos c1.1, decide_eq_true c1.2])).mono ?_; rintro e w2 ⟨rfl, ⟨nd, rfl⟩⟩) | (go_at_call 122; refine (strconv_Itoa.calls n ⟨(Lib.itoa n).toArray⟩ _ ?hg (by unfold strconv_Itoa.f; rw [if_pos (by omega)])).mono ?_; (case hg => exact GLOBT.below HGT.out (pw_below_drewN HB1.out _)); rintro e w3 ⟨rfl, hb3⟩; have HB3 := am (below_step (pw_below_drewN HB1.out _) hb3); clear hb3))
  go_ret2
  exact ⟨by unfold numRead; rw [if_neg c, HA.out]; simp only; rw [if_neg (fun e => c2 e.2.2)]; rfl, by repeat (first | (with_reducible first | exact HB3.out | apply below_alloc | apply pw_below_drewN | apply below_drew1) | exact HB3.out)⟩
 | range =>
  have HA := am hA
  clear hA
  obtain ⟨_, ⟨tp, pv, hv⟩⟩ := HGE.out
  go_enter Tryz.func91, Tryz.ntmps91
  go_wp2_with (first | (go_at_call 154; refine (Tryz.strconv_Atoi_range_var a0 hlim HA.out tp pv _ hv).mono ?_; rintro e w1 ⟨N, rfl, _, _, hb⟩; have HB1 := am hb; clear hb))
  go_ret2
  exact ⟨by unfold numRead; rw [if_neg c, HA.out]; rfl, by repeat (first | (with_reducible first | exact HB1.out | apply below_alloc | apply pw_below_drewN | apply below_drew1) | exact HB1.out)⟩
 | _ =>
  have HA := am hA
  clear hA
  obtain ⟨⟨tp, pv, hv⟩, _⟩ := HGE.out
  go_enter Tryz.func91, Tryz.ntmps91
  go_wp2_with (first | (go_at_call 154; refine (Tryz.strconv_Atoi_syntax_var a0 hlim HA.out tp pv _ hv).mono ?_; rintro e w1 ⟨N, rfl, _, _, hb⟩; have HB1 := am hb; clear hb))
  go_ret2
  exact ⟨by unfold numRead; rw [if_neg c, HA.out]; rfl, by repeat (first | (with_reducible first | exact HB1.out | apply below_alloc | apply pw_below_drewN | apply below_drew1) | exact HB1.out)⟩

/-! ### stringslite_CutPrefix: function 181 -/
def stringslite_CutPrefix.f (a0 : ByteArray) (a1 : ByteArray) : Option (ByteArray × Bool) := (stringslite_HasPrefix.f a0 a1).bind fun t978 => (if t978 = true then (if 0 ≤ (a1.size : Int) then (if (a1.size : Int) ≤ (a0.size : Int) then (some (a0.extract ((a1.size : Int) : Int).toNat a0.size, true)) else (none)) else (none)) else (some (a0, false)))
set_option maxHeartbeats 8000000 in
set_option maxRecDepth 100000 in
theorem stringslite_CutPrefix.calls (a0 : ByteArray) (a1 : ByteArray) (r1 : ByteArray) (r2 : Bool) (w : World) (h : stringslite_CutPrefix.f a0 a1 = some (r1, r2)) :
  Calls Tryz.prog 181 #[.string a0, .string a1] w fun e w' => e = .returned (.tuple #[.string r1, .bool r2]) ∧ Drawn0 w w' := by
 unfold stringslite_CutPrefix.f at h
 have H := h
 clear h
 revert H
 refine ok1 fun t978 A3 H => ?_
 by_cases c4 : t978 = true
 rotate_left
 ·replace c4 := Bool.eq_false_iff.mpr c4
  subst c4
  rw [if_neg (show ¬ (false = true) by decide)] at H
  simp only [Option.some.injEq, Prod.mk.injEq] at H
  obtain ⟨rfl, rfl⟩ := H
  go_enter Tryz.func181, Tryz.ntmps181
  go_wp2_with (first | (refine gl 8 Tryz.func143 #[.string a0, .string a1] ?_; (with_reducible refine (stringslite_HasPrefix.calls a0 a1 false _ A3.out).mono ?_); rintro e w' ⟨rfl, ⟨nd, rfl⟩⟩; refine ⟨_, rfl, ?_⟩))
  go_ret2
  exact ⟨rs, dr⟩
 subst c4
 rw [if_pos rfl] at H
 revert H
 refine ifn fun c5 H => ?_
 have c5b0 := eq_true c5
 have c5b1 := decide_eq_true c5
 clear c5
 revert H
 refine ifn fun c6 H => ?_
 have c6b0 := eq_true c6
 have c6b1 := decide_eq_true c6
 clear c6
 simp only [Option.some.injEq, Prod.mk.injEq] at H
 obtain ⟨rfl, rfl⟩ := H
 go_enter Tryz.func181, Tryz.ntmps181
 go_wp2_with (first | (refine gl 8 Tryz.func143 #[.string a0, .string a1] ?_; (with_reducible refine (stringslite_HasPrefix.calls a0 a1 true _ A3.out).mono ?_); rintro e w' ⟨rfl, ⟨nd, rfl⟩⟩; refine ⟨_, rfl, ?_⟩))
 go_ret2
 exact ⟨rs, dr⟩

/-! ### strings_CutPrefix: function 159 -/
def strings_CutPrefix.f (a0 : ByteArray) (a1 : ByteArray) : Option (ByteArray × Bool) := (stringslite_CutPrefix.f a0 a1).bind fun bt979 => (some (bt979.1, bt979.2))
set_option maxHeartbeats 8000000 in
set_option maxRecDepth 100000 in
theorem strings_CutPrefix.calls (a0 : ByteArray) (a1 : ByteArray) (r1 : ByteArray) (r2 : Bool) (w : World) (h : strings_CutPrefix.f a0 a1 = some (r1, r2)) :
  Calls Tryz.prog 159 #[.string a0, .string a1] w fun e w' => e = .returned (.tuple #[.string r1, .bool r2]) ∧ Drawn0 w w' := by
 unfold strings_CutPrefix.f at h
 have H := h
 clear h
 revert H
 refine ok2 fun t979 t980 A3 H => ?_
 (try dsimp only at H)
 simp only [Option.some.injEq, Prod.mk.injEq] at H
 obtain ⟨rfl, rfl⟩ := H
 go_enter Tryz.func159, Tryz.ntmps159
 go_wp2_with (first | (refine gl 8 Tryz.func181 #[.string a0, .string a1] ?_; (with_reducible refine (stringslite_CutPrefix.calls a0 a1 t979 t980 _ A3.out).mono ?_); rintro e w' ⟨rfl, ⟨nd, rfl⟩⟩; refine ⟨_, rfl, ?_⟩))
 go_ret2
 exact ⟨rs, dr⟩

/-- A state of type 55 at block g of W; what its slices lead to came in by w0. -/
def IsS55 (w0 W : World) (g : Nat) (f0 : Bool) (f1 : Bool) (f2 : Bool) (f3 : Bool) (f4 : Bool) (f5 : Int) : Prop := W.heap[g]? = some (.cells #[.bool f0, .bool f1, .bool f2, .bool f3, .bool f4, .int .i64 f5] 55 (0, 0)) ∧ w0.heap.size ≤ g
theorem IsS55.grown {w0 W : World} {g : Nat} {f0 : Bool} {f1 : Bool} {f2 : Bool} {f3 : Bool} {f4 : Bool} {f5 : Int} {W1 : World} {row : Option Nat} (h : IsS55 w0 W g f0 f1 f2 f3 f4 f5) (hw : W.grownBy W1 row) (hne : some g ≠ row) : IsS55 w0 W1 g f0 f1 f2 f3 f4 f5 := by
 obtain ⟨hb, hg⟩ := h
 exact ⟨blk_grown hb hw hne, hg⟩
theorem IsS55.own_neN {w0 W : World} {g : Nat} {f0 : Bool} {f1 : Bool} {f2 : Bool} {f3 : Bool} {f4 : Bool} {f5 : Int} {α : Type} {d : Kd α} {e : Nat} {base : Nat} {ok : Nat → Prop} {v : Value} {xs : List α} (h : IsS55 w0 W g f0 f1 f2 f3 f4 f5) (ho : Kd.N d e W base ok v xs) (ht : e ≠ 55) : some g ≠ v.ownBlock := by
 obtain ⟨hb, hg⟩ := h
 exact Kd.N_ne ho hb ht
theorem IsS55.fresh {w0 W : World} {g : Nat} {f0 : Bool} {f1 : Bool} {f2 : Bool} {f3 : Bool} {f4 : Bool} {f5 : Int} (h : IsS55 w0 W g f0 f1 f2 f3 f4 f5) : ∀ k, W.heap.size ≤ k → k ≠ g := by
 obtain ⟨hb, hg⟩ := h
 exact Kd.freshB hb
theorem IsS55.kept {w0 W : World} {g : Nat} {f0 : Bool} {f1 : Bool} {f2 : Bool} {f3 : Bool} {f4 : Bool} {f5 : Int} {W1 : World} {S : Nat → Prop} (h : IsS55 w0 W g f0 f1 f2 f3 f4 f5) (hk : Kept W W1 S) (hne : ¬ S g) : IsS55 w0 W1 g f0 f1 f2 f3 f4 f5 := by
 obtain ⟨hb, hg⟩ := h
 exact ⟨blk_kept hb hk hne, hg⟩
theorem IsS55.below {w0 W : World} {g : Nat} {f0 : Bool} {f1 : Bool} {f2 : Bool} {f3 : Bool} {f4 : Bool} {f5 : Int} {W1 : World} (h : IsS55 w0 W g f0 f1 f2 f3 f4 f5) (hw : Below W.heap.size W W1) : IsS55 w0 W1 g f0 f1 f2 f3 f4 f5 := h.grown (grown_of_below hw none) (by simp)
theorem IsS55.alloc {w0 W : World} {g : Nat} {f0 : Bool} {f1 : Bool} {f2 : Bool} {f3 : Bool} {f4 : Bool} {f5 : Int} (h : IsS55 w0 W g f0 f1 f2 f3 f4 f5) (o : Obj) : IsS55 w0 (W.alloc o) g f0 f1 f2 f3 f4 f5 := h.below (below_alloc (Below.refl _ _) o)
theorem IsS55.drewN {w0 W : World} {g : Nat} {f0 : Bool} {f1 : Bool} {f2 : Bool} {f3 : Bool} {f4 : Bool} {f5 : Int} (h : IsS55 w0 W g f0 f1 f2 f3 f4 f5) (m : Nat) : IsS55 w0 (W.drewN m) g f0 f1 f2 f3 f4 f5 := h
theorem IsS55.drew {w0 W : World} {g : Nat} {f0 : Bool} {f1 : Bool} {f2 : Bool} {f3 : Bool} {f4 : Bool} {f5 : Int} (h : IsS55 w0 W g f0 f1 f2 f3 f4 f5) : IsS55 w0 W.drew g f0 f1 f2 f3 f4 f5 := h
theorem IsS55.at_ {w0 W : World} {g : Nat} {f0 : Bool} {f1 : Bool} {f2 : Bool} {f3 : Bool} {f4 : Bool} {f5 : Int} {w' : World} {m : Nat} (hq : W.drewN m = w') (h : IsS55 w0 W g f0 f1 f2 f3 f4 f5) : IsS55 w0 w' g f0 f1 f2 f3 f4 f5 := by subst hq; exact IsS55.drewN h m
theorem IsS55.apart {w0 W : World} {g : Nat} {f0 : Bool} {f1 : Bool} {f2 : Bool} {f3 : Bool} {f4 : Bool} {f5 : Int} {α : Type} {d : Kd α} {e : Nat} {base : Nat} {ok : Nat → Prop} {v : Value} {xs : List α} (h : IsS55 w0 W g f0 f1 f2 f3 f4 f5) (ho : d.R e W base ok v xs) (ht : ∀ q, q ∈ e :: d.E → q ≠ 55) : d.R e W base (fun k => ok k ∧ k ≠ g) v xs := by
 obtain ⟨hb, hg⟩ := h
 exact Kd.R_types ho hb ht
theorem IsS55.own_ne {w0 W : World} {g : Nat} {f0 : Bool} {f1 : Bool} {f2 : Bool} {f3 : Bool} {f4 : Bool} {f5 : Int} {α : Type} {d : Kd α} {e : Nat} {base : Nat} {ok : Nat → Prop} {v : Value} {xs : List α} (h : IsS55 w0 W g f0 f1 f2 f3 f4 f5) (ho : d.R e W base ok v xs) (ht : e ≠ 55) : some g ≠ v.ownBlock := by
 obtain ⟨hb, hg⟩ := h
 exact Kd.R_ne ho hb ht
theorem IsS55.apartQ {w0 W : World} {g : Nat} {f0 : Bool} {f1 : Bool} {f2 : Bool} {f3 : Bool} {f4 : Bool} {f5 : Int} {α : Type} {d : Kd α} {e : Nat} {base : Nat} {ok : Nat → Prop} {v : Value} {xs : List α} (h : IsS55 w0 W g f0 f1 f2 f3 f4 f5) (ho : d.Q e W base ok v xs) (ht : ∀ q, q ∈ e :: d.E → q ≠ 55) : d.Q e W base (fun k => ok k ∧ k ≠ g) v xs := by
 obtain ⟨hb, hg⟩ := h
 exact Kd.Q_types ho hb ht
theorem IsS55.own_neQ {w0 W : World} {g : Nat} {f0 : Bool} {f1 : Bool} {f2 : Bool} {f3 : Bool} {f4 : Bool} {f5 : Int} {α : Type} {d : Kd α} {e : Nat} {base : Nat} {ok : Nat → Prop} {v : Value} {xs : List α} (h : IsS55 w0 W g f0 f1 f2 f3 f4 f5) (ho : d.Q e W base ok v xs) (ht : e ≠ 55) : some g ≠ v.ownBlock := by
 obtain ⟨hb, hg⟩ := h
 exact Kd.Q_ne ho hb ht
theorem IsS55.apartS {w0 W : World} {g : Nat} {f0 : Bool} {f1 : Bool} {f2 : Bool} {f3 : Bool} {f4 : Bool} {f5 : Int} {α : Type} {d : Kd α} {e : Nat} {base : Nat} {ok : Nat → Prop} {v : Value} {xs : List α} (h : IsS55 w0 W g f0 f1 f2 f3 f4 f5) (ho : d.S e W base ok v xs) (ht : ∀ q, q ∈ e :: d.E → q ≠ 55) : d.S e W base (fun k => ok k ∧ k ≠ g) v xs := by
 obtain ⟨hb, hg⟩ := h
 exact Kd.S_types ho hb ht
theorem IsS55.own_neS {w0 W : World} {g : Nat} {f0 : Bool} {f1 : Bool} {f2 : Bool} {f3 : Bool} {f4 : Bool} {f5 : Int} {α : Type} {d : Kd α} {e : Nat} {base : Nat} {ok : Nat → Prop} {v : Value} {xs : List α} (h : IsS55 w0 W g f0 f1 f2 f3 f4 f5) (ho : d.S e W base ok v xs) (ht : e ≠ 55) : some g ≠ v.ownBlock := by
 obtain ⟨hb, hg⟩ := h
 exact Kd.S_ne ho hb ht
theorem IsS55.lt {w0 W : World} {g : Nat} {f0 : Bool} {f1 : Bool} {f2 : Bool} {f3 : Bool} {f4 : Bool} {f5 : Int} (h : IsS55 w0 W g f0 f1 f2 f3 f4 f5) : g < W.heap.size := by
 obtain ⟨hb, hg⟩ := h
 exact blk_lt hb
theorem IsS55.ge {w0 W : World} {g : Nat} {f0 : Bool} {f1 : Bool} {f2 : Bool} {f3 : Bool} {f4 : Bool} {f5 : Int} (h : IsS55 w0 W g f0 f1 f2 f3 f4 f5) : w0.heap.size ≤ g := by
 obtain ⟨hb, hg⟩ := h
 exact hg
theorem IsS55.ne_blk {w0 W : World} {g : Nat} {f0 : Bool} {f1 : Bool} {f2 : Bool} {f3 : Bool} {f4 : Bool} {f5 : Int} {a : Nat} {cs : Array Value} {t : TypeId} {fr : Nat × Nat} (h : IsS55 w0 W g f0 f1 f2 f3 f4 f5) (hb2 : W.heap[a]? = some (.cells cs t fr)) (ht : t ≠ 55) : g ≠ a := by
 obtain ⟨hb, hg⟩ := h
 rintro rfl
 rw [hb] at hb2
 injection hb2 with hb2
 injection hb2 with _ ht2
 exact ht ht2.symm
theorem IsS55.far {w0 W : World} {g : Nat} {f0 : Bool} {f1 : Bool} {f2 : Bool} {f3 : Bool} {f4 : Bool} {f5 : Int} {p : Addr} (h : IsS55 w0 W g f0 f1 f2 f3 f4 f5) (hne : g ≠ p.block) (u : Value) : IsS55 w0 (W.setCell p u) g f0 f1 f2 f3 f4 f5 := by
 obtain ⟨hb, hg⟩ := h
 exact ⟨blk_far hb hne u, hg⟩
theorem cellS55_0 {W : World} {g : Nat} {f0 : Bool} {f1 : Bool} {f2 : Bool} {f3 : Bool} {f4 : Bool} {f5 : Int} (h : W.heap[g]? = some (.cells #[.bool f0, .bool f1, .bool f2, .bool f3, .bool f4, .int .i64 f5] 55 (0, 0))) : W.cell? ⟨g, 0, none⟩ = some (.bool f0) := (blk_cell h 0).trans rfl
theorem IsS55.set_0 {w0 W : World} {g : Nat} {f0 : Bool} {f1 : Bool} {f2 : Bool} {f3 : Bool} {f4 : Bool} {f5 : Int} (h : IsS55 w0 W g f0 f1 f2 f3 f4 f5) (x : Bool) : IsS55 w0 (W.setCell ⟨g, 0, none⟩ (.bool x)) g x f1 f2 f3 f4 f5 := by
 obtain ⟨hb, hg⟩ := h
 exact ⟨by simpa using blk_set hb 0 (.bool x), hg⟩
theorem cellS55_1 {W : World} {g : Nat} {f0 : Bool} {f1 : Bool} {f2 : Bool} {f3 : Bool} {f4 : Bool} {f5 : Int} (h : W.heap[g]? = some (.cells #[.bool f0, .bool f1, .bool f2, .bool f3, .bool f4, .int .i64 f5] 55 (0, 0))) : W.cell? ⟨g, 1, none⟩ = some (.bool f1) := (blk_cell h 1).trans rfl
theorem IsS55.set_1 {w0 W : World} {g : Nat} {f0 : Bool} {f1 : Bool} {f2 : Bool} {f3 : Bool} {f4 : Bool} {f5 : Int} (h : IsS55 w0 W g f0 f1 f2 f3 f4 f5) (x : Bool) : IsS55 w0 (W.setCell ⟨g, 1, none⟩ (.bool x)) g f0 x f2 f3 f4 f5 := by
 obtain ⟨hb, hg⟩ := h
 exact ⟨by simpa using blk_set hb 1 (.bool x), hg⟩
theorem cellS55_2 {W : World} {g : Nat} {f0 : Bool} {f1 : Bool} {f2 : Bool} {f3 : Bool} {f4 : Bool} {f5 : Int} (h : W.heap[g]? = some (.cells #[.bool f0, .bool f1, .bool f2, .bool f3, .bool f4, .int .i64 f5] 55 (0, 0))) : W.cell? ⟨g, 2, none⟩ = some (.bool f2) := (blk_cell h 2).trans rfl
theorem IsS55.set_2 {w0 W : World} {g : Nat} {f0 : Bool} {f1 : Bool} {f2 : Bool} {f3 : Bool} {f4 : Bool} {f5 : Int} (h : IsS55 w0 W g f0 f1 f2 f3 f4 f5) (x : Bool) : IsS55 w0 (W.setCell ⟨g, 2, none⟩ (.bool x)) g f0 f1 x f3 f4 f5 := by
 obtain ⟨hb, hg⟩ := h
 exact ⟨by simpa using blk_set hb 2 (.bool x), hg⟩
theorem cellS55_3 {W : World} {g : Nat} {f0 : Bool} {f1 : Bool} {f2 : Bool} {f3 : Bool} {f4 : Bool} {f5 : Int} (h : W.heap[g]? = some (.cells #[.bool f0, .bool f1, .bool f2, .bool f3, .bool f4, .int .i64 f5] 55 (0, 0))) : W.cell? ⟨g, 3, none⟩ = some (.bool f3) := (blk_cell h 3).trans rfl
theorem IsS55.set_3 {w0 W : World} {g : Nat} {f0 : Bool} {f1 : Bool} {f2 : Bool} {f3 : Bool} {f4 : Bool} {f5 : Int} (h : IsS55 w0 W g f0 f1 f2 f3 f4 f5) (x : Bool) : IsS55 w0 (W.setCell ⟨g, 3, none⟩ (.bool x)) g f0 f1 f2 x f4 f5 := by
 obtain ⟨hb, hg⟩ := h
 exact ⟨by simpa using blk_set hb 3 (.bool x), hg⟩
theorem cellS55_4 {W : World} {g : Nat} {f0 : Bool} {f1 : Bool} {f2 : Bool} {f3 : Bool} {f4 : Bool} {f5 : Int} (h : W.heap[g]? = some (.cells #[.bool f0, .bool f1, .bool f2, .bool f3, .bool f4, .int .i64 f5] 55 (0, 0))) : W.cell? ⟨g, 4, none⟩ = some (.bool f4) := (blk_cell h 4).trans rfl
theorem IsS55.set_4 {w0 W : World} {g : Nat} {f0 : Bool} {f1 : Bool} {f2 : Bool} {f3 : Bool} {f4 : Bool} {f5 : Int} (h : IsS55 w0 W g f0 f1 f2 f3 f4 f5) (x : Bool) : IsS55 w0 (W.setCell ⟨g, 4, none⟩ (.bool x)) g f0 f1 f2 f3 x f5 := by
 obtain ⟨hb, hg⟩ := h
 exact ⟨by simpa using blk_set hb 4 (.bool x), hg⟩
theorem cellS55_5 {W : World} {g : Nat} {f0 : Bool} {f1 : Bool} {f2 : Bool} {f3 : Bool} {f4 : Bool} {f5 : Int} (h : W.heap[g]? = some (.cells #[.bool f0, .bool f1, .bool f2, .bool f3, .bool f4, .int .i64 f5] 55 (0, 0))) : W.cell? ⟨g, 5, none⟩ = some (.int .i64 f5) := (blk_cell h 5).trans rfl
theorem IsS55.set_5 {w0 W : World} {g : Nat} {f0 : Bool} {f1 : Bool} {f2 : Bool} {f3 : Bool} {f4 : Bool} {f5 : Int} (h : IsS55 w0 W g f0 f1 f2 f3 f4 f5) (x : Int) : IsS55 w0 (W.setCell ⟨g, 5, none⟩ (.int .i64 x)) g f0 f1 f2 f3 f4 x := by
 obtain ⟨hb, hg⟩ := h
 exact ⟨by simpa using blk_set hb 5 (.int .i64 x), hg⟩
theorem IsS55.new (w0 W : World) (f0 : Bool) (f1 : Bool) (f2 : Bool) (f3 : Bool) (f4 : Bool) (f5 : Int) (hB : Below w0.heap.size w0 W) : IsS55 w0 (W.alloc (.cells #[.bool f0, .bool f1, .bool f2, .bool f3, .bool f4, .int .i64 f5] 55)) W.heap.size f0 f1 f2 f3 f4 f5 := ⟨by simpa using heap_alloc_new W _, hB.size⟩

/-! ### impl_Cc_word: function 106 -/
theorem u106HI0 {p : Prop} (h : p := by repeat (first | (with_reducible first | exact HI0.out | apply IsS55.alloc | apply IsS55.drewN | apply IsS55.drew | apply IsS55.set_0 | apply IsS55.set_1 | apply IsS55.set_2 | apply IsS55.set_3 | apply IsS55.set_4 | apply IsS55.set_5) | exact HI0.out)) : p := h
theorem u106HK {p : Prop} (h : p := by repeat (first | (with_reducible first | exact HK.out | apply KeepBut.set_ | apply keep_drewN | apply keep_drew | apply keep_alloc) | exact HK.out)) : p := h
theorem u106HB {p : Prop} (h : p := by repeat (first | (with_reducible first | exact HB.out | apply below_alloc | apply pw_below_drewN | apply below_drew1 | refine below_set ?_ (IsS55.ge HI0.out)) | exact HB.out)) : p := h
def impl_Cc_word.j0 : Nat → ByteArray → Bool → Bool → Bool → Bool → Bool → Int → Option (Bool × Bool × Bool × Bool × Bool × Int)
 | 0, _, _, _, _, _, _, _ => none
 | k + 1, x1, x1000, x1001, x1002, x1003, x1004, x1005 => (strings_CutPrefix.f x1 (⟨#[109, 97, 120, 45, 97, 103, 101, 61]⟩ : ByteArray)).bind fun bt981 => (if bt981.2 = true then ((impl_NumRead.f bt981.1).bind fun bt983 => (if x1004 = true then (some (x1000, x1001, x1002, x1003, true, mn bt983.1 x1005)) else (some (x1000, x1001, x1002, x1003, true, bt983.1)))) else (some (x1000, x1001, x1002, x1003, x1004, x1005)))
def impl_Cc_word.f (k : Nat) (s0_0 : Bool) (s0_1 : Bool) (s0_2 : Bool) (s0_3 : Bool) (s0_4 : Bool) (s0_5 : Int) (a1 : ByteArray) : Option (Bool × Bool × Bool × Bool × Bool × Int) := if a1.toList = ([110, 111, 45, 115, 116, 111, 114, 101] : List UInt8) then (impl_Cc_word.j0 k a1 true s0_1 s0_2 s0_3 s0_4 s0_5) else (if a1.toList = ([110, 111, 45, 99, 97, 99, 104, 101] : List UInt8) then (impl_Cc_word.j0 k a1 s0_0 true s0_2 s0_3 s0_4 s0_5) else (if a1.toList = ([112, 114, 105, 118, 97, 116, 101] : List UInt8) then (impl_Cc_word.j0 k a1 s0_0 s0_1 true s0_3 s0_4 s0_5) else (if a1.toList = ([109, 117, 115, 116, 45, 114, 101, 118, 97, 108, 105, 100, 97, 116, 101] : List UInt8) then (impl_Cc_word.j0 k a1 s0_0 s0_1 s0_2 true s0_4 s0_5) else (impl_Cc_word.j0 k a1 s0_0 s0_1 s0_2 s0_3 s0_4 s0_5))))
theorem impl_Cc_word.mono_l : ∀ k, (∀ y0 y1 y2 y3 y4 y5 y6, LeO (impl_Cc_word.j0 k y0 y1 y2 y3 y4 y5 y6) (impl_Cc_word.j0 (k + 1) y0 y1 y2 y3 y4 y5 y6))
 | 0 => fun _ _ _ _ _ _ _ r h => by simp [impl_Cc_word.j0] at h
 | k + 1 => by
  have ih0 := impl_Cc_word.mono_l k
  ·intro y0 y1 y2 y3 y4 y5 y6
   unfold impl_Cc_word.j0
   exact mo
theorem impl_Cc_word.mono : ∀ a0 a1 a2 a3 a4 a5 a6 k, LeO (impl_Cc_word.f k a0 a1 a2 a3 a4 a5 a6) (impl_Cc_word.f (k + 1) a0 a1 a2 a3 a4 a5 a6) := by
 intro a0 a1 a2 a3 a4 a5 a6 k
 have ih0 := impl_Cc_word.mono_l k
 unfold impl_Cc_word.f
 exact mo
set_option maxHeartbeats 8000000 in
set_option maxRecDepth 100000 in
theorem impl_Cc_word.calls (k : Nat) (g : Nat) (s0_0 : Bool) (s0_1 : Bool) (s0_2 : Bool) (s0_3 : Bool) (s0_4 : Bool) (s0_5 : Int) (a1 : ByteArray) (r1 : Bool) (r2 : Bool) (r3 : Bool) (r4 : Bool) (r5 : Bool) (r6 : Int) (w0 w : World) (hGE : GLOBE w0) (hGT : GLOBT w0) (hI : IsS55 w0 w g s0_0 s0_1 s0_2 s0_3 s0_4 s0_5) (hB : Below w0.heap.size w0 w) (h : impl_Cc_word.f k s0_0 s0_1 s0_2 s0_3 s0_4 s0_5 a1 = some (r1, r2, r3, r4, r5, r6)) :
  Calls Tryz.prog 106 #[.pointer (some ⟨g, 0, none⟩), .string a1] w fun e w' => e = .returned (.tuple #[]) ∧ IsS55 w0 w' g r1 r2 r3 r4 r5 r6 ∧ Below w0.heap.size w0 w' ∧ KeepBut w w' g none := by
 have HGE := am hGE
 clear hGE
 have HGT := am hGT
 clear hGT
 have HI0 := am hI
 have HK := am (KeepBut.refl w g none)
 have HL := am hB.size
 clear hI
 have HW0 := am hB.size
 have HB := am hB
 clear hB
 unfold impl_Cc_word.f at h
 have H := h
 clear h
 have HC3 := am H
 clear H
 go_enter Tryz.func106, Tryz.ntmps106
 go_upto_block 0 with (fail)
 go_cut [] (fun wc => ∃ (kq : Nat) (x1000_2 : Bool) (x1001_2 : Bool) (x1002_2 : Bool) (x1003_2 : Bool), Aside0 (impl_Cc_word.j0 kq a1 x1000_2 x1001_2 x1002_2 x1003_2 s0_4 s0_5 = some (r1, r2, r3, r4, r5, r6)) ∧ Aside0 (kq ≤ k) ∧ Aside0 (IsS55 w0 wc g x1000_2 x1001_2 x1002_2 x1003_2 s0_4 s0_5) ∧ Aside0 (KeepBut w wc g none) ∧ Aside0 (Below w0.heap.size w0 wc))
 case first =>
  have H := HC3.out
  clear HC3
  by_cases c4 : a1.toList = ([110, 111, 45, 115, 116, 111, 114, 101] : List UInt8)
  ·rw [if_pos c4] at H
   have c4b0 : (a1.toList == ([110, 111, 45, 115, 116, 111, 114, 101] : List UInt8)) = true := beq_iff_eq.mpr c4
   have c4b1 : (a1.toList != ([110, 111, 45, 115, 116, 111, 114, 101] : List UInt8)) = false := bne_eq_false_iff_eq.mpr c4
   clear c4
   (first | rw [c4b0] | (simp only [i64_w, i32_w]; rw [c4b0]) | skip)
   have H' := am H
   clear H
   obtain ⟨HGz5, hgz5⟩ := HI0.out
   have z5_0 := cellS55_0 HGz5
   have z5_1 := cellS55_1 HGz5
   have z5_2 := cellS55_2 HGz5
   have z5_3 := cellS55_3 HGz5
   have z5_4 := cellS55_4 HGz5
   have z5_5 := cellS55_5 HGz5
   have y5_0 := blk_frozen HGz5 0
   have y5_1 := blk_frozen HGz5 1
   have y5_2 := blk_frozen HGz5 2
   have y5_3 := blk_frozen HGz5 3
   have y5_4 := blk_frozen HGz5 4
   have y5_5 := blk_frozen HGz5 5
   clear HGz5 hgz5
   go_wp2
   go_meet
   case rel => exact ⟨_, (true), (s0_1), (s0_2), (s0_3), H', ⟨by first | omega | exact Nat.le_refl _⟩, ⟨u106HI0⟩, ⟨u106HK⟩, ⟨u106HB⟩⟩
  rw [if_neg c4] at H
  have c4b0 : (a1.toList == ([110, 111, 45, 115, 116, 111, 114, 101] : List UInt8)) = false := beq_eq_false_iff_ne.mpr c4
  have c4b1 : (a1.toList != ([110, 111, 45, 115, 116, 111, 114, 101] : List UInt8)) = true := bne_iff_ne.mpr c4
  (first | rw [c4b0] | (simp only [i64_w, i32_w]; rw [c4b0]) | skip)
  by_cases c6 : a1.toList = ([110, 111, 45, 99, 97, 99, 104, 101] : List UInt8)
  ·rw [if_pos c6] at H
   have c6b0 : (a1.toList == ([110, 111, 45, 99, 97, 99, 104, 101] : List UInt8)) = true := beq_iff_eq.mpr c6
   have c6b1 : (a1.toList != ([110, 111, 45, 99, 97, 99, 104, 101] : List UInt8)) = false := bne_eq_false_iff_eq.mpr c6
   clear c6
   have H' := am H
   clear H
   obtain ⟨HGz7, hgz7⟩ := HI0.out
   have z7_0 := cellS55_0 HGz7
   have z7_1 := cellS55_1 HGz7
   have z7_2 := cellS55_2 HGz7
   have z7_3 := cellS55_3 HGz7
   have z7_4 := cellS55_4 HGz7
   have z7_5 := cellS55_5 HGz7
   have y7_0 := blk_frozen HGz7 0
   have y7_1 := blk_frozen HGz7 1
   have y7_2 := blk_frozen HGz7 2
   have y7_3 := blk_frozen HGz7 3
   have y7_4 := blk_frozen HGz7 4
   have y7_5 := blk_frozen HGz7 5
   clear HGz7 hgz7
   go_wp2
   go_meet
   case rel => exact ⟨_, (s0_0), (true), (s0_2), (s0_3), H', ⟨by first | omega | exact Nat.le_refl _⟩, ⟨u106HI0⟩, ⟨u106HK⟩, ⟨u106HB⟩⟩
  rw [if_neg c6] at H
  have c6b0 : (a1.toList == ([110, 111, 45, 99, 97, 99, 104, 101] : List UInt8)) = false := beq_eq_false_iff_ne.mpr c6
  have c6b1 : (a1.toList != ([110, 111, 45, 99, 97, 99, 104, 101] : List UInt8)) = true := bne_iff_ne.mpr c6
  by_cases c8 : a1.toList = ([112, 114, 105, 118, 97, 116, 101] : List UInt8)
  ·rw [if_pos c8] at H
   have c8b0 : (a1.toList == ([112, 114, 105, 118, 97, 116, 101] : List UInt8)) = true := beq_iff_eq.mpr c8
   have c8b1 : (a1.toList != ([112, 114, 105, 118, 97, 116, 101] : List UInt8)) = false := bne_eq_false_iff_eq.mpr c8
   clear c8
   have H' := am H
   clear H
   obtain ⟨HGz9, hgz9⟩ := HI0.out
   have z9_0 := cellS55_0 HGz9
   have z9_1 := cellS55_1 HGz9
   have z9_2 := cellS55_2 HGz9
   have z9_3 := cellS55_3 HGz9
   have z9_4 := cellS55_4 HGz9
   have z9_5 := cellS55_5 HGz9
   have y9_0 := blk_frozen HGz9 0
   have y9_1 := blk_frozen HGz9 1
   have y9_2 := blk_frozen HGz9 2
   have y9_3 := blk_frozen HGz9 3
   have y9_4 := blk_frozen HGz9 4
   have y9_5 := blk_frozen HGz9 5
   clear HGz9 hgz9
   go_wp2
   go_meet
   case rel => exact ⟨_, (s0_0), (s0_1), (true), (s0_3), H', ⟨by first | omega | exact Nat.le_refl _⟩, ⟨u106HI0⟩, ⟨u106HK⟩, ⟨u106HB⟩⟩
  rw [if_neg c8] at H
  have c8b0 : (a1.toList == ([112, 114, 105, 118, 97, 116, 101] : List UInt8)) = false := beq_eq_false_iff_ne.mpr c8
  have c8b1 : (a1.toList != ([112, 114, 105, 118, 97, 116, 101] : List UInt8)) = true := bne_iff_ne.mpr c8
  by_cases c10 : a1.toList = ([109, 117, 115, 116, 45, 114, 101, 118, 97, 108, 105, 100, 97, 116, 101] : List UInt8)
  rotate_left
  ·rw [if_neg c10] at H
   have c10b0 : (a1.toList == ([109, 117, 115, 116, 45, 114, 101, 118, 97, 108, 105, 100, 97, 116, 101] : List UInt8)) = false := beq_eq_false_iff_ne.mpr c10
   have c10b1 : (a1.toList != ([109, 117, 115, 116, 45, 114, 101, 118, 97, 108, 105, 100, 97, 116, 101] : List UInt8)) = true := bne_iff_ne.mpr c10
   have H' := am H
   clear H
   go_wp2
   go_meet
   case rel => exact ⟨_, (s0_0), (s0_1), (s0_2), (s0_3), H', ⟨by first | omega | exact Nat.le_refl _⟩, ⟨u106HI0⟩, ⟨u106HK⟩, ⟨u106HB⟩⟩
  rw [if_pos c10] at H
  have c10b0 : (a1.toList == ([109, 117, 115, 116, 45, 114, 101, 118, 97, 108, 105, 100, 97, 116, 101] : List UInt8)) = true := beq_iff_eq.mpr c10
  have c10b1 : (a1.toList != ([109, 117, 115, 116, 45, 114, 101, 118, 97, 108, 105, 100, 97, 116, 101] : List UInt8)) = false := bne_eq_false_iff_eq.mpr c10
  clear c10
  have H' := am H
  clear H
  obtain ⟨HGz11, hgz11⟩ := HI0.out
  have z11_0 := cellS55_0 HGz11
  have z11_1 := cellS55_1 HGz11
  have z11_2 := cellS55_2 HGz11
  have z11_3 := cellS55_3 HGz11
  have z11_4 := cellS55_4 HGz11
  have z11_5 := cellS55_5 HGz11
  have y11_0 := blk_frozen HGz11 0
  have y11_1 := blk_frozen HGz11 1
  have y11_2 := blk_frozen HGz11 2
  have y11_3 := blk_frozen HGz11 3
  have y11_4 := blk_frozen HGz11 4
  have y11_5 := blk_frozen HGz11 5
  clear HGz11 hgz11
  go_wp2
  go_meet
  case rel => exact ⟨_, (s0_0), (s0_1), (s0_2), (true), H', ⟨by first | omega | exact Nat.le_refl _⟩, ⟨u106HI0⟩, ⟨u106HK⟩, ⟨u106HB⟩⟩
 case rest =>
  clear HC3
  try clear c1
  try clear p2
  try clear c4
  try clear c4b0
  try clear c4b1
  try clear c6
  try clear c6b0
  try clear c6b1
  try clear c8
  try clear c8b0
  try clear c8b1
  try clear c10
  try clear c10b0
  try clear c10b1
  try clear z11_0
  try clear z11_1
  try clear z11_2
  try clear z11_3
  try clear z11_4
  try clear z11_5
  try clear z5_0
  try clear z5_1
  try clear z5_2
  try clear z5_3
  try clear z5_4
  try clear z5_5
  try clear z7_0
  try clear z7_1
  try clear z7_2
  try clear z7_3
  try clear z7_4
  try clear z7_5
  try clear z9_0
  try clear z9_1
  try clear z9_2
  try clear z9_3
  try clear z9_4
  try clear z9_5
  try clear y11_0
  try clear y11_1
  try clear y11_2
  try clear y11_3
  try clear y11_4
  try clear y11_5
  try clear y5_0
  try clear y5_1
  try clear y5_2
  try clear y5_3
  try clear y5_4
  try clear y5_5
  try clear y7_0
  try clear y7_1
  try clear y7_2
  try clear y7_3
  try clear y7_4
  try clear y7_5
  try clear y9_0
  try clear y9_1
  try clear y9_2
  try clear y9_3
  try clear y9_4
  try clear y9_5
  obtain ⟨kq, x1000_2, x1001_2, x1002_2, x1003_2, HA, HJ2, HI0, HK, HB⟩ := hcut
  cases kq with
  | zero => exact absurd HA.out (by simp [impl_Cc_word.j0])
  | succ kj2 =>
   have H := HA.out
   clear HA
   simp only [impl_Cc_word.j0] at H
   revert H
   refine ok2 fun t981 t982 A12 H => ?_
   (try dsimp only at H)
   by_cases c13 : t982 = true
   rotate_left
   ·replace c13 := Bool.eq_false_iff.mpr c13
    subst c13
    rw [if_neg (show ¬ (false = true) by decide)] at H
    simp only [Option.some.injEq, Prod.mk.injEq] at H
    obtain ⟨rfl, rfl, rfl, rfl, rfl, rfl⟩ := H
    go_wp2_with (first | (refine gl 31 Tryz.func159 #[.string a1, .string (⟨#[109, 97, 120, 45, 97, 103, 101, 61]⟩ : ByteArray)] ?_; (with_reducible refine (strings_CutPrefix.calls a1 (⟨#[109, 97, 120, 45, 97, 103, 101, 61]⟩ : ByteArray) t981 false _ A12.out).mono ?_); rintro e w' ⟨rfl, ⟨nd, rfl⟩⟩; refine ⟨_, rfl, ?_⟩))
    first | go_end0 | ((try simp only [Exit.inBlock, Exit.then]); refine bodyPost_ret (results_none rfl _ _ _) rfl ?_)
    exact ⟨rf, u106HI0, u106HB, u106HK⟩
   subst c13
   rw [if_pos rfl] at H
   revert H
   refine ok2 fun t983 t984 A14 H => ?_
   (try dsimp only at H)
   by_cases c15 : s0_4 = true
   rotate_left
   ·replace c15 := Bool.eq_false_iff.mpr c15
    subst c15
    rw [if_neg (show ¬ (false = true) by decide)] at H
    simp only [Option.some.injEq, Prod.mk.injEq] at H
    obtain ⟨rfl, rfl, rfl, rfl, rfl, rfl⟩ := H
    go_wp2_with (first | (refine gl 31 Tryz.func159 #[.string a1, .string (⟨#[109, 97, 120, 45, 97, 103, 101, 61]⟩ : ByteArray)] ?_; (with_reducible refine (strings_CutPrefix.calls a1 (⟨#[109, 97, 120, 45, 97, 103, 101, 61]⟩ : ByteArray) t981 true _ A12.out).mono ?_); rintro e w' ⟨rfl, ⟨nd, rfl⟩⟩; refine ⟨_, rfl, ?_⟩; (try (rw [drewN_self wc]; generalize hq_ : World.drewN wc _ = wc; have n0_ : Aside0 (IsS55 w0 wc g x1000_2 x1001_2 x1002_2 x1003_2 false s0_5) := ⟨by rw [← hq_]; exact u106HI0⟩; have n1_ : Aside0 (KeepBut w wc g none) := ⟨by rw [← hq_]; exact u106HK⟩; have n2_ : Aside0 (Below w0.heap.size w0 wc) := ⟨by rw [← hq_]; exact u106HB⟩; clear HI0 HK HB hq_; have HI0 := n0_; have HK := n1_; have HB := n2_; clear n0_ n1_ n2_))) | (refine gl 38 Tryz.func91 #[.string t981] ?_; (with_reducible refine (impl_NumRead.calls t981 t983 t984 _ ?side1 ?side2 A14.out).mono ?_); (case side1 => exact GLOBE.below HGE.out u106HB); (case side2 => exact GLOBT.below HGT.out u106HB); rintro e w19 ⟨rfl, hb⟩; refine ⟨_, rfl, ?_⟩; replace HK := am (KeepBut.trans u106HK (KeepBut.of_below hb g none) (.inl rfl)); replace HB := am (below_step u106HB hb); replace HI0 := am (IsS55.below u106HI0 hb); clear hb; obtain ⟨HGz20, hgz20⟩ := HI0.out; have z20_0 := cellS55_0 HGz20; have z20_1 := cellS55_1 HGz20; have z20_2 := cellS55_2 HGz20; have z20_3 := cellS55_3 HGz20; have z20_4 := cellS55_4 HGz20; have z20_5 := cellS55_5 HGz20; have y20_0 := blk_frozen HGz20 0; have y20_1 := blk_frozen HGz20 1; have y20_2 := blk_frozen HGz20 2; have y20_3 := blk_frozen HGz20 3; have y20_4 := blk_frozen HGz20 4; have y20_5 := blk_frozen HGz20 5; clear HGz20 hgz20))
    first | go_end0 | ((try simp only [Exit.inBlock, Exit.then]); refine bodyPost_ret (results_none rfl _ _ _) rfl ?_)
    exact ⟨rf, u106HI0, u106HB, u106HK⟩
   subst c15
   rw [if_pos rfl] at H
   obtain ⟨ji16, hji16⟩ : ∃ j_ : Int, (mn t983 s0_5) = j_ := ⟨_, rfl⟩
   replace H : (some (x1000_2, x1001_2, x1002_2, x1003_2, true, ji16)) = some (r1, r2, r3, r4, r5, r6) := by first | (rw [hji16] at H; exact H) | (simp only [hji16] at H ⊢; exact H)
   (try rw [hji16] at A12)
   (try rw [hji16] at A14)
   have hji16_ : (if s0_5 < t983 then s0_5 else t983) = ji16 := hji16
   simp only [Option.some.injEq, Prod.mk.injEq] at H
   obtain ⟨rfl, rfl, rfl, rfl, rfl, rfl⟩ := H
   go_wp2_with (first | (refine gl 31 Tryz.func159 #[.string a1, .string (⟨#[109, 97, 120, 45, 97, 103, 101, 61]⟩ : ByteArray)] ?_; (with_reducible refine (strings_CutPrefix.calls a1 (⟨#[109, 97, 120, 45, 97, 103, 101, 61]⟩ : ByteArray) t981 true _ A12.out).mono ?_); rintro e w' ⟨rfl, ⟨nd, rfl⟩⟩; refine ⟨_, rfl, ?_⟩; (try (rw [drewN_self wc]; generalize hq_ : World.drewN wc _ = wc; have n0_ : Aside0 (IsS55 w0 wc g x1000_2 x1001_2 x1002_2 x1003_2 true s0_5) := ⟨by rw [← hq_]; exact u106HI0⟩; have n1_ : Aside0 (KeepBut w wc g none) := ⟨by rw [← hq_]; exact u106HK⟩; have n2_ : Aside0 (Below w0.heap.size w0 wc) := ⟨by rw [← hq_]; exact u106HB⟩; clear HI0 HK HB hq_; have HI0 := n0_; have HK := n1_; have HB := n2_; clear n0_ n1_ n2_))) | (refine gl 38 Tryz.func91 #[.string t981] ?_; (with_reducible refine (impl_NumRead.calls t981 t983 t984 _ ?side1 ?side2 A14.out).mono ?_); (case side1 => exact GLOBE.below HGE.out u106HB); (case side2 => exact GLOBT.below HGT.out u106HB); rintro e w17 ⟨rfl, hb⟩; refine ⟨_, rfl, ?_⟩; replace HK := am (KeepBut.trans u106HK (KeepBut.of_below hb g none) (.inl rfl)); replace HB := am (below_step u106HB hb); replace HI0 := am (IsS55.below u106HI0 hb); clear hb; obtain ⟨HGz18, hgz18⟩ := HI0.out; have z18_0 := cellS55_0 HGz18; have z18_1 := cellS55_1 HGz18; have z18_2 := cellS55_2 HGz18; have z18_3 := cellS55_3 HGz18; have z18_4 := cellS55_4 HGz18; have z18_5 := cellS55_5 HGz18; have y18_0 := blk_frozen HGz18 0; have y18_1 := blk_frozen HGz18 1; have y18_2 := blk_frozen HGz18 2; have y18_3 := blk_frozen HGz18 3; have y18_4 := blk_frozen HGz18 4; have y18_5 := blk_frozen HGz18 5; clear HGz18 hgz18))
   first | go_end0 | ((try simp only [Exit.inBlock, Exit.then]); refine bodyPost_ret (results_none rfl _ _ _) rfl ?_)
   exact ⟨by first | rfl | (simp [errW_none, errW_some] <;> rfl) | (simp only [← hji16]; first | rfl | (simp [errW_none, errW_some] <;> rfl)) | (simp [*, errW_none, errW_some] <;> rfl), u106HI0, u106HB, u106HK⟩

/-! ### impl.CcRead: word behind word -/
def ccFold (k : Nat) : List ByteArray → Bool → Bool → Bool → Bool → Bool → Int → Option (Bool × Bool × Bool × Bool × Bool × Int)
 | [], f0, f1, f2, f3, f4, f5 => some (f0, f1, f2, f3, f4, f5)
 | x :: r, f0, f1, f2, f3, f4, f5 => (impl_Lower.f x).bind fun t => (impl_Cc_word.f k f0 f1 f2 f3 f4 f5 t).bind fun s => ccFold k r s.1 s.2.1 s.2.2.1 s.2.2.2.1 s.2.2.2.2.1 s.2.2.2.2.2
theorem ccFold.mono : ∀ xs f0 f1 f2 f3 f4 f5 k, LeO (ccFold k xs f0 f1 f2 f3 f4 f5) (ccFold (k + 1) xs f0 f1 f2 f3 f4 f5)
 | [], _, _, _, _, _, _, _ => LeO.refl _
 | x :: r, f0, f1, f2, f3, f4, f5, k => by
  rw [ccFold, ccFold]
  exact LeO.bind (LeO.refl _) (fun _ => LeO.bind (impl_Cc_word.mono _ _ _ _ _ _ _ _) (fun _ => ccFold.mono _ _ _ _ _ _ _ _))
def impl_CcRead.f (k : Nat) (a0 : ByteArray) : Option (Bool × Bool × Bool × Bool × Bool × Int) := (impl_Split.f k a0).bind fun xs => if xs.length ≤ 4294967296 then ccFold k xs false false false false false 0 else none
theorem impl_CcRead.mono : ∀ a0 k, LeO (impl_CcRead.f k a0) (impl_CcRead.f (k + 1) a0) := fun a0 k => by
 unfold impl_CcRead.f
 exact LeO.bind (impl_Split.mono _ _) (fun _ => LeO.ite (ccFold.mono _ _ _ _ _ _ _ _) (LeO.none _))
set_option maxHeartbeats 8000000 in
set_option maxRecDepth 100000 in
theorem impl_CcRead.calls (k : Nat) (a0 : ByteArray) (r1 : Bool) (r2 : Bool) (r3 : Bool) (r4 : Bool) (r5 : Bool) (r6 : Int) (w : World) (hGE : GLOBE w) (hGM : GLOBM w) (hGT : GLOBT w) (h : impl_CcRead.f k a0 = some (r1, r2, r3, r4, r5, r6)) :
  Calls Tryz.prog 37 #[.string a0] w fun e w' => e = .returned (.agg #[.bool r1, .bool r2, .bool r3, .bool r4, .bool r5, .int .i64 r6]) ∧ Below w.heap.size w w' := by
 unfold impl_CcRead.f at h
 obtain ⟨xs, hxs, h⟩ := Option.bind_eq_some_iff.mp h
 split at h
 case isFalse => cases h
 rename_i hlen
 have HXS := am hxs
 have HLEN := am hlen
 have HH := am h
 have HGE := am hGE
 have HGM := am hGM
 have HGT := am hGT
 clear hxs hlen h hGE hGM hGT
 have HB := am (Below.refl w.heap.size w)
 go_enter Tryz.func37, Tryz.ntmps37
 go_wp2_with (first | (refine bx 2 #[.bool false, .bool false, .bool false, .bool false, .bool false, .int .i64 0] 55 ?_; intro gr hgr w2 hbr hb; have HBR := am hbr; have GR := am ((by rw [hgr]; exact (below_size bl) : w.heap.size ≤ gr)); replace HB := am (below_step bl hb); clear hbr hb hgr) | (refine bx 3 #[.bool false, .bool false, .bool false, .bool false, .bool false, .int .i64 0] 55 ?_; intro gc hgc w3 hbc hb; have NE := am ((by rw [hgc]; exact Nat.ne_of_lt (blk_lt (bk HBR)) : gr ≠ gc)); have GC := am ((by rw [hgc]; exact (below_size bl) : w.heap.size ≤ gc)); have HI := am (show IsS55 w w3 gc false false false false false 0 from ⟨hbc, GC.out⟩); replace HBR := kb HBR hb; replace HB := am (below_step bl hb); clear hbc hb hgc) | (go_at_call 105; refine (impl_Split.calls k a0 xs _ (GLOBM.below HGM.out bl) HXS.out).mono ?_; rintro e w4 ⟨v7, rfl, ho, hb⟩; have HO := am (show Kd.R Kd.string 9 w4 w.heap.size (fun q_ => q_ ≠ gc) v7 xs from Kd.R_lower (Kd.R_mono (Kd.R_bound ho) (fun q_ hq => fun e_ => by have h1 := IsS55.lt HI.out; have h2 : w3.heap.size ≤ q_ := hq.2.1; omega)) (below_size bl)); replace HI := am (IsS55.below HI.out hb); replace HBR := kb HBR hb; replace HB := am (below_step bl hb); clear ho hb; obtain ⟨A7, c7, e7⟩ := Kd.R_slice HO.out; subst e7))
 have HL := am (show (xs.length : Int) ≤ 4294967296 by have := HLEN.out; omega)
 go_loopw [9] (fun v9 wr => ∃ (n : Nat) (f0 f1 f2 f3 f4 : Bool) (f5 : Int), n ≤ xs.length ∧ v9 = .int .i64 n ∧ Aside0 (ccFold k (xs.drop n) f0 f1 f2 f3 f4 f5 = some (r1, r2, r3, r4, r5, r6)) ∧ Aside0 (Kd.R Kd.string 9 wr w.heap.size (fun q_ => q_ ≠ gc) (.slice A7 xs.length c7) xs) ∧ Aside0 (wr.heap[gr]? = some (.cells #[.bool false, .bool false, .bool false, .bool false, .bool false, .int .i64 0] 55 (0, 0))) ∧ Aside0 (IsS55 w wr gc f0 f1 f2 f3 f4 f5) ∧ Aside0 (Below w.heap.size w wr)) (fun v9 _ => xs.length - (intOf v9).toNat)
 case atStart => exact ⟨0, false, false, false, false, false, 0, Nat.zero_le _, rfl, ⟨by rw [List.drop_zero]; exact HH.out⟩, HO, HBR, HI, HB⟩
 case round =>
  clear HO HBR HI HB
  obtain ⟨n, f0, f1, f2, f3, f4, f5, hn, rfl, HF, HO, HBR, HI, HB⟩ := hrel
  have hn2 : (n : Int) ≤ 4294967296 := by have := HL.out; omega
  by_cases hlt : n < xs.length
  ·obtain ⟨ad, e1, hx0⟩ := Kd.at_string (Kd.R_reads' HO.out).2.2 (n : Int) (by omega) (by omega)
   cases e1
   have hrd : rdOf ByteArray.empty xs (n : Int) = xs[n] := by simp [rdOf, List.getD, hlt]
   rw [hrd, Int.toNat_natCast] at hx0
   have hF := HF.out
   rw [List.drop_eq_getElem_cons hlt, ccFold] at hF
   obtain ⟨x, hx⟩ : ∃ x, x = xs[n] := ⟨_, rfl⟩
   rw [← hx] at hx0 hF
   obtain ⟨t, ht, hF⟩ := Option.bind_eq_some_iff.mp hF
   obtain ⟨⟨g0, g1, g2, g3, g4, g5⟩, hw, hF⟩ := Option.bind_eq_some_iff.mp hF
   have HT := am ht
   have HW := am hw
   have HF2 := am hF
   clear hrd hx ht hw hF HF hn
   go_wp2_with (first | (go_at_call 107; refine (impl_Lower.calls x t _ HT.out).mono ?_; rintro e w5 ⟨rfl, hb⟩; replace HO := kr HO hb; replace HBR := kb HBR hb; replace HI := am (IsS55.below (by repeat (first | (with_reducible first | exact HI.out | apply IsS55.alloc | apply IsS55.drewN | apply IsS55.drew) | exact HI.out)) hb); replace HB := am (below_step bl hb); clear hb) | (go_at_call 106; refine (impl_Cc_word.calls k gc f0 f1 f2 f3 f4 f5 t g0 g1 g2 g3 g4 g5 w _ HGE.out HGT.out (by repeat (first | (with_reducible first | exact HI.out | apply IsS55.alloc | apply IsS55.drewN | apply IsS55.drew) | exact HI.out)) bl HW.out).mono ?_; rintro e w6 ⟨rfl, hi, hb, hk⟩; replace HO := am (Kd.R_keep (ro HO) hk (fun _ hq => hq)); replace HBR := am (KeepBut.blk hk (bk HBR) NE.out (by simp)); replace HI := am hi; replace HB := am hb; clear hi hb hk))
   go_roundw
   case rel => exact ⟨n + 1, g0, g1, g2, g3, g4, g5, by omega, by go_num, HF2, ⟨ro HO⟩, ⟨bk HBR⟩, ⟨by repeat (first | (with_reducible first | exact HI.out | apply IsS55.alloc | apply IsS55.drewN | apply IsS55.drew) | exact HI.out)⟩, ⟨bl⟩⟩
   case measure => simp [intOf]; omega
  ·have hnn : n = xs.length := by omega
   have hF := HF.out
   rw [hnn, List.drop_length, ccFold] at hF
   simp only [Option.some.injEq, Prod.mk.injEq] at hF
   obtain ⟨rfl, rfl, rfl, rfl, rfl, rfl⟩ := hF
   have hi := HI.out.1
   have c0 := (blk_cell hi 0).trans (show _ = some (.bool f0) from rfl)
   have c1 := (blk_cell hi 1).trans (show _ = some (.bool f1) from rfl)
   have c2 := (blk_cell hi 2).trans (show _ = some (.bool f2) from rfl)
   have c3 := (blk_cell hi 3).trans (show _ = some (.bool f3) from rfl)
   have c4 := (blk_cell hi 4).trans (show _ = some (.bool f4) from rfl)
   have c5 := (blk_cell hi 5).trans (show _ = some (.int .i64 f5) from rfl)
   have d0 := (blk_cell HBR.out 0).trans (show _ = some (.bool false) from rfl)
   have d1 := (blk_cell HBR.out 1).trans (show _ = some (.bool false) from rfl)
   have d2 := (blk_cell HBR.out 2).trans (show _ = some (.bool false) from rfl)
   have d3 := (blk_cell HBR.out 3).trans (show _ = some (.bool false) from rfl)
   have d4 := (blk_cell HBR.out 4).trans (show _ = some (.bool false) from rfl)
   have d5 := (blk_cell HBR.out 5).trans (show _ = some (.int .i64 0) from rfl)
   have z0 := blk_frozen HBR.out 0
   have z1 := blk_frozen HBR.out 1
   have z2 := blk_frozen HBR.out 2
   have z3 := blk_frozen HBR.out 3
   have z4 := blk_frozen HBR.out 4
   have z5 := blk_frozen HBR.out 5
   have ne1 := NE.out
   have ne2 := Ne.symm NE.out
   clear hi HF hn hnn
   go_wp2
   refine bodyPost_ret (results_cell_row rfl _ _ gr 55 #[.bool f0, .bool f1, .bool f2, .bool f3, .bool f4, .int .i64 f5] (0, 0) _ rfl (by (with_reducible repeat (first | refine blk_drewN ?_ _ | refine blk_drew ?_ | refine blk_alloc ?_ _)); refine blk_put (cs := #[.bool f0, .bool f1, .bool f2, .bool f3, .bool f4, .int .i64 0]) ?_ 5 _ rfl; refine blk_put (cs := #[.bool f0, .bool f1, .bool f2, .bool f3, .bool false, .int .i64 0]) ?_ 4 _ rfl; refine blk_put (cs := #[.bool f0, .bool f1, .bool f2, .bool false, .bool false, .int .i64 0]) ?_ 3 _ rfl; refine blk_put (cs := #[.bool f0, .bool f1, .bool false, .bool false, .bool false, .int .i64 0]) ?_ 2 _ rfl; refine blk_put (cs := #[.bool f0, .bool false, .bool false, .bool false, .bool false, .int .i64 0]) ?_ 1 _ rfl; refine blk_put (cs := #[.bool false, .bool false, .bool false, .bool false, .bool false, .int .i64 0]) ?_ 0 _ rfl; exact bk HBR) Tryz.underlying55 rfl (by kernel_rfl)) rfl ?_
   exact ⟨rf, by repeat (first | (with_reducible first | exact HB.out | apply below_alloc | apply pw_below_drewN | apply below_drew1 | refine below_set ?_ GR.out) | exact HB.out)⟩

/-! ### impl_CcOf: function 41 -/
def impl_CcOf.f (k : Nat) (l0 : List (S116)) : Option (Bool × Bool × Bool × Bool × Bool × Int) := (impl_Get.f l0 (⟨#[99, 97, 99, 104, 101, 45, 99, 111, 110, 116, 114, 111, 108]⟩ : ByteArray)).bind fun bt986 => ((impl_CcRead.f k bt986.1).bind fun bt988 => (some (bt988.1, bt988.2.1, bt988.2.2.1, bt988.2.2.2.1, bt988.2.2.2.2.1, bt988.2.2.2.2.2)))
theorem impl_CcOf.mono : ∀ a0 k, LeO (impl_CcOf.f k a0) (impl_CcOf.f (k + 1) a0) := by
 intro a0 k
 unfold impl_CcOf.f
 have m0 := @impl_CcRead.mono
 exact mo
set_option maxHeartbeats 8000000 in
set_option maxRecDepth 100000 in
theorem impl_CcOf.calls (k : Nat) (A0 : Option Addr) (c0 : Nat) (l0 : List (S116)) (r1 : Bool) (r2 : Bool) (r3 : Bool) (r4 : Bool) (r5 : Bool) (r6 : Int) (w : World) (hGE : GLOBE w) (hGM : GLOBM w) (hGT : GLOBT w) (hr0 : Kd.C k116 w A0 l0.length l0) (hc0 : l0.length ≤ c0) (h : impl_CcOf.f k l0 = some (r1, r2, r3, r4, r5, r6)) :
  Calls Tryz.prog 41 #[.slice A0 l0.length c0] w fun e w' => e = .returned (.agg #[.bool r1, .bool r2, .bool r3, .bool r4, .bool r5, .int .i64 r6]) ∧ Below w.heap.size w w' := by
 have hu55 := Tryz.underlying55
 have HR0 := am hr0
 have HC0 := am hc0
 clear hr0 hc0
 have HGE := am hGE
 clear hGE
 have HGM := am hGM
 clear hGM
 have HGT := am hGT
 clear hGT
 have HB := am (Below.refl w.heap.size w)
 unfold impl_CcOf.f at h
 have H := h
 clear h
 revert H
 refine ok2 fun t986 t987 A2 H => ?_
 (try dsimp only at H)
 revert H
 refine ok6 fun t988 t989 t990 t991 t992 t993 A3 H => ?_
 (try dsimp only at H)
 simp only [Option.some.injEq, Prod.mk.injEq] at H
 obtain ⟨rfl, rfl, rfl, rfl, rfl, rfl⟩ := H
 go_enter Tryz.func41, Tryz.ntmps41
 go_wp2_with (first | (refine bx 2 #[.bool false, .bool false, .bool false, .bool false, .bool false, .int .i64 0] 55 ?_; intro gb985 hg w4 hbox hb; have BK985 := am (hbox); have GW985 := am (sz hg : w.heap.size ≤ gb985); have GE985 := am (sz hg : w.heap.size ≤ gb985); replace HB := am (below_step bl hb); clear hb hbox hg) | (refine gl 7 Tryz.func75 #[.slice A0 l0.length c0, .string (⟨#[99, 97, 99, 104, 101, 45, 99, 111, 110, 116, 114, 111, 108]⟩ : ByteArray)] ?_; (with_reducible refine (impl_Get.calls _ _ l0 (⟨#[99, 97, 99, 104, 101, 45, 99, 111, 110, 116, 114, 111, 108]⟩ : ByteArray) t986 t987 _ ?side1 ?side2 A2.out).mono ?_); (case side1 => exact cb HR0); (case side2 => exact HC0.out); rintro e w5 ⟨rfl, hb⟩; refine ⟨_, rfl, ?_⟩; replace BK985 := kb BK985 hb; replace HB := am (below_step bl hb); clear hb) | (refine gl 11 Tryz.func37 #[.string t986] ?_; (with_reducible refine (impl_CcRead.calls k t986 t988 t989 t990 t991 t992 t993 _ ?side1 ?side2 ?side3 A3.out).mono ?_); (case side1 => exact GLOBE.below HGE.out bl); (case side2 => exact GLOBM.below HGM.out bl); (case side3 => exact GLOBT.below HGT.out bl); rintro e w6 ⟨rfl, hb⟩; refine ⟨_, rfl, ?_⟩; replace BK985 := kb BK985 hb; replace HB := am (below_step bl hb); clear hb; obtain ⟨z7_0, y7_0, z7_1, y7_1, z7_2, y7_2, z7_3, y7_3, z7_4, y7_4, z7_5, y7_5⟩ := cl6 BK985))
 refine bodyPost_ret (results_cell_row rfl _ _ gb985 55 #[.bool t988, .bool t989, .bool t990, .bool t991, .bool t992, .int .i64 t993] (0, 0) _ rfl (pt0 BK985) Tryz.underlying55 rfl (by kernel_rfl)) rfl ?_
 exact ⟨rf, bl⟩

end Go.Proofs.YtdbgkookjpgnnaaGreatDoor.All
