-- Written by a program of this session (wip/tools/hprint.py) out of the translation. Lean checks it.
import Derived.Test.YtjlpjbkpmmpojaaDoorAllx0
namespace Go.Proofs.YtjlpjbkpmmpojaaDoor.All
open Go.RowKit Go.Proofs.YtjlpjbkpmmpojaaDoorW.PrintWords Go.Proofs.YtjlpjbkpmmpojaaDoorW.PrintLast Go.Proofs.YtjlpjbkpmmpojaaDoorW.PrintMore
attribute [local go_sem] max2_int min2_int max_two min_two max_three min_three max_four min_four   -- for this text's walks alone
set_option linter.unusedVariables false
set_option linter.unusedSimpArgs false

/-! ### impl.fieldAt: through slices.IndexFunc and its closure -/
theorem clos37 (x : S46) (name : ByteArray) (B : Nat) (w : World) (hcell : w.cell? ⟨B, 0, none⟩ = some (.string name)) :
  Calls Tryd.prog 45 #[.agg #[.string x.f0, .string x.f1], .pointer (some ⟨B, 0, none⟩)] w fun e w' => e = .returned (.bool (x.f0.toList == name.toList)) ∧ Below w.heap.size w w' := by
 have hl := World.block_lt_of_cell? w _ hcell
 go_enter Tryd.func45, Tryd.ntmps45
 go_wp2
 go_ret
 exact ⟨rfl, (Below.refl _ _).alloc (Nat.le_refl _) _⟩

/-- where the first field of a name stands from i on -/
def at_ (name : ByteArray) : List S46 → Nat → Int
 | [], _ => -1
 | x :: r, i => if x.f0.toList == name.toList then i else at_ name r (i + 1)

set_option maxHeartbeats 4000000 in
theorem index36 (A0 : Option Addr) (c0 : Nat) (l0 : List S46) (name : ByteArray) (B : Nat) (w : World) (hn : l0.length ≤ 9223372036854775807) (hr0 : Kd.C k46 w A0 l0.length l0) (hcell : w.cell? ⟨B, 0, none⟩ = some (.string name)) :
  Calls Tryd.prog 44 #[.slice A0 l0.length c0, .func (.func 45) #[] #[.pointer (some ⟨B, 0, none⟩)]] w fun e w' => e = .returned (.int .i64 (at_ name l0 0)) ∧ Below w.heap.size w w' := by
 go_enter Tryd.func44, Tryd.ntmps44
 go_wp2
 go_loopw [8] (fun i wr => ∃ k : Nat, k ≤ l0.length ∧ i = .int .i64 k ∧ Aside0 (at_ name l0 0 = at_ name (l0.drop k) k) ∧ Below w.heap.size w wr) (fun i _ => l0.length - (intOf i).toNat)
 case atStart => exact ⟨0, Nat.zero_le _, rfl, ⟨rfl⟩, Below.refl _ _⟩
 case round =>
  obtain ⟨k, hk, rfl, ha, hb⟩ := hrel
  have hk2 : ((k : Nat) : Int) ≤ 9223372036854775807 := by omega
  by_cases hlt : k < l0.length
  ·obtain ⟨ad, e1, hx0, hx1⟩ := at_T46 hr0 k (by omega) (by omega)
   have hx : rd_T46 l0 k = l0[k] := by simp [rd_T46, List.getD, hlt]
   rw [hx, Int.toNat_natCast] at hx0 hx1
   have hd : at_ name (l0.drop k) k = if (l0[k].f0.toList == name.toList) = true then (k : Int) else at_ name (l0.drop (k + 1)) (k + 1) := by
    rw [List.drop_eq_getElem_cons hlt]; rfl
   cases e1
   replace hx0 := pw_cell_below hb hx0
   replace hx1 := pw_cell_below hb hx1
   have hc := pw_cell_below hb hcell
   have H := am hd
   have HX := am hx
   clear hd hx hcell hr0
   have h0 : (0 : Int) ≤ (k : Int) := by omega
   have h1 : (k : Int) < (l0.length : Int) := by omega
   go_wp2_with (first | (go_at_call 45; refine (clos37 l0[k] name B _ hc).mono ?_; rintro e w2 ⟨rfl, hb2⟩))
   ·have ht : (l0[k].f0.toList == name.toList) = true := by assumption
    go_ret
    exact ⟨ret_int (show (k : Int) = at_ name l0 0 by rw [ha.out, H.out, if_pos ht]), below_then hb hb.size hb2⟩
   ·have ht : (l0[k].f0.toList == name.toList) = false := by assumption
    go_roundw
    case rel => exact ⟨k + 1, by omega, by go_num, ⟨by rw [ha.out, H.out, ht]; rfl⟩, below_then hb hb.size hb2⟩
    case measure => simp [intOf]; omega
  ·go_wp2
   go_ret
   exact ⟨ret_int (show (-1 : Int) = at_ name l0 0 by rw [ha.out, List.drop_eq_nil_of_le (by omega)]; rfl), hb⟩

def impl_fieldAt.f (l0 : List S46) (a1 : ByteArray) : Option Int := if l0.length < 4398046511104 then some (at_ a1 l0 0) else none
theorem impl_fieldAt.calls (A0 : Option Addr) (c0 : Nat) (l0 : List (S46)) (a1 : ByteArray) (r : Int) (w : World) (hr0 : Kd.C k46 w A0 l0.length l0) (hc0 : l0.length ≤ c0) (h : impl_fieldAt.f l0 a1 = some r) :
  Calls Tryd.prog 29 #[.slice A0 l0.length c0, .string a1] w fun e w' => e = .returned (.int .i64 r) ∧ Below w.heap.size w w' := by
 unfold impl_fieldAt.f at h
 split at h
 case isFalse => cases h
 rename_i hl
 obtain rfl := Option.some.inj h
 have HN := am hl
 have HR := am hr0
 clear h hl hr0 hc0
 go_enter Tryd.func29, Tryd.ntmps29
 go_wp2_with (first | (go_at_call 44; refine (index36 A0 c0 l0 a1 w.heap.size _ (by have := HN.out; omega) (Kd.C_below HR.out ((Below.refl _ _).alloc (Nat.le_refl _) _)) (by simp)).mono ?_; rintro e w2 ⟨rfl, hb2⟩))
 go_ret
 exact ⟨rfl, below_then ((Below.refl _ _).alloc (Nat.le_refl _) _) (by simp) hb2⟩

/-! ### impl_Get: function 15 -/
def impl_Get.f (l0 : List (S46)) (a1 : ByteArray) : Option (ByteArray × Bool) := (impl_fieldAt.f l0 a1).bind fun t496 => (if t496 < 0 then (some ((⟨#[]⟩ : ByteArray), false)) else (if 0 ≤ t496 then (if t496 < (l0.length : Int) then (some ((rd_T46 l0 t496).f1, true)) else (none)) else (none)))
set_option maxHeartbeats 8000000 in
set_option maxRecDepth 100000 in
theorem impl_Get.calls (A0 : Option Addr) (c0 : Nat) (l0 : List (S46)) (a1 : ByteArray) (r1 : ByteArray) (r2 : Bool) (w : World) (hr0 : Kd.C k46 w A0 l0.length l0) (hc0 : l0.length ≤ c0) (h : impl_Get.f l0 a1 = some (r1, r2)) :
  Calls Tryd.prog 15 #[.slice A0 l0.length c0, .string a1] w fun e w' => e = .returned (.tuple #[.string r1, .bool r2]) ∧ Below w.heap.size w w' := by
 have HR0 := am hr0
 have HC0 := am hc0
 clear hr0 hc0
 have HB := am (Below.refl w.heap.size w)
 unfold impl_Get.f at h
 have H := h
 clear h
 revert H
 refine ok1 fun t496 A3 H => ?_
 by_cases c4 : t496 < 0
 ·rw [if_pos c4] at H
  have c4b0 := decide_eq_true c4
  clear c4
  simp only [Option.some.injEq, Prod.mk.injEq] at H
  obtain ⟨rfl, rfl⟩ := H
  go_enter Tryd.func15, Tryd.ntmps15
  go_wp2_with ((with_reducible refine gw ?_); first | (refine gl 9 Tryd.func29 #[.slice A0 l0.length c0, .string a1] ?_; (with_reducible refine (impl_fieldAt.calls _ _ l0 a1 t496 _ ?side1 ?side2 A3.out).mono ?_); (case side1 => exact cc HR0); (case side2 => exact HC0.out); rintro e w5 ⟨rfl, hb⟩; refine ⟨_, rfl, ?_⟩; replace HB := am (below_step bl hb); clear hb))
  go_ret2
  exact ⟨rf, bl⟩
 rw [if_neg c4] at H
 have c4b0 := decide_eq_false c4
 clear c4
 revert H
 refine ifn fun c6 H => ?_
 have c6b0 := decide_eq_true c6
 clear c6
 revert H
 refine ifn fun c7 H => ?_
 have c7b0 := decide_eq_true c7
 clear c7
 simp only [Option.some.injEq, Prod.mk.injEq] at H
 obtain ⟨rfl, rfl⟩ := H
 go_enter Tryd.func15, Tryd.ntmps15
 go_wp2_with ((with_reducible refine gw ?_); first | (refine gl 9 Tryd.func29 #[.slice A0 l0.length c0, .string a1] ?_; (with_reducible refine (impl_fieldAt.calls _ _ l0 a1 t496 _ ?side1 ?side2 A3.out).mono ?_); (case side1 => exact cc HR0); (case side2 => exact HC0.out); rintro e w8 ⟨rfl, hb⟩; refine ⟨_, rfl, ?_⟩; replace HB := am (below_step bl hb); clear hb; have p497 : 0 ≤ (t496 : Int) := od; have q497 : t496 < (l0.length : Int) := od; obtain ⟨ad497, e497, hx497_0, hx497_1⟩ := at_T46 HR0.out t496 p497 q497; cases e497; replace hx497_0 := hcw hx497_0; replace hx497_1 := hcw hx497_1; replace p497 := eq_true p497; replace q497 := eq_true q497))
 go_ret2
 exact ⟨rf, bl⟩

/-! ### impl_inRange: function 30 -/
def impl_inRange.f (a0 : Int) (a1 : Int) (a2 : Int) : Option (Bool) := if a0 ≥ a1 then (some (decide (a0 ≤ a2))) else (some false)
set_option maxHeartbeats 8000000 in
set_option maxRecDepth 100000 in
theorem impl_inRange.calls (a0 : Int) (a1 : Int) (a2 : Int) (r : Bool) (w : World) (h : impl_inRange.f a0 a1 a2 = some r) :
  Calls Tryd.prog 30 #[.int .i64 a0, .int .i64 a1, .int .i64 a2] w fun e w' => e = .returned (.bool r) ∧ Drawn0 w w' := by
 unfold impl_inRange.f at h
 have H := h
 clear h
 by_cases c4 : a0 ≥ a1
 ·rw [if_pos c4] at H
  have c4b0 := decide_eq_true c4
  clear c4
  obtain rfl := Option.some.inj H
  go_enter Tryd.func30, Tryd.ntmps30
  go_wp2
  go_ret
  exact ⟨rs, dr⟩
 rw [if_neg c4] at H
 have c4b0 := decide_eq_false c4
 clear c4
 obtain rfl := Option.some.inj H
 go_enter Tryd.func30, Tryd.ntmps30
 go_wp2
 go_ret
 exact ⟨rs, dr⟩

/-! ### impl_areFrom: function 46 -/
def impl_areFrom.l0 : Nat → ByteArray → Int → Int → Option (Bool)
 | 0, _, _, _ => none
 | k + 1, x0, x1, x5 => if x5 < (x0.size : Int) then (if 0 ≤ x5 then (if (bt x0 x5) < x1 then (some false) else (if (bt x0 x5) > 126 then (some false) else (impl_areFrom.l0 k x0 x1 (wrap64 (x5 + 1))))) else (none)) else (some true)
def impl_areFrom.f (k : Nat) (a0 : ByteArray) (a1 : Int) : Option (Bool) := impl_areFrom.l0 k a0 a1 0
theorem impl_areFrom.mono_l : ∀ k, (∀ y0 y1 y2, LeO (impl_areFrom.l0 k y0 y1 y2) (impl_areFrom.l0 (k + 1) y0 y1 y2))
 | 0 => fun _ _ _ r h => by simp [impl_areFrom.l0] at h
 | k + 1 => by
  have ih0 := impl_areFrom.mono_l k
  ·intro y0 y1 y2
   unfold impl_areFrom.l0
   exact mo
theorem impl_areFrom.mono : ∀ a0 a1 k, LeO (impl_areFrom.f k a0 a1) (impl_areFrom.f (k + 1) a0 a1) := by
 intro a0 a1 k
 have ih0 := impl_areFrom.mono_l k
 unfold impl_areFrom.f
 exact mo
set_option maxHeartbeats 8000000 in
set_option maxRecDepth 100000 in
theorem impl_areFrom.calls (k : Nat) (a0 : ByteArray) (a1 : Int) (r : Bool) (w : World) (h : impl_areFrom.f k a0 a1 = some r) :
  Calls Tryd.prog 46 #[.string a0, .int .u8 a1] w fun e w' => e = .returned (.bool r) ∧ Drawn0 w w' := by
 unfold impl_areFrom.f at h
 have H := h
 clear h
 have H' := am H
 clear H
 go_enter Tryd.func46, Tryd.ntmps46
 go_wp2
 (try simp only [Act.put, List.setIfInBounds_toArray, List.set_cons_zero, List.set_cons_succ])
 go_loopg [5] k (fun kq v5 w' => ∃ (x5_1 : Int), v5 = .int .i64 x5_1 ∧ Aside0 (impl_areFrom.l0 kq a0 a1 x5_1 = some r) ∧ Aside0 (kq ≤ k) ∧ Drawn0 w w')
 case atStart => exact ⟨(0), rs, H', ⟨Nat.le_refl _⟩, dr⟩
 case round =>
  clear H'
  try clear p2
  obtain ⟨x5_1, rfl, HA, HK1, ⟨m1, rfl⟩⟩ := hrel
  cases gk with
  | zero => exact absurd HA.out (by simp [impl_areFrom.l0])
  | succ k1 =>
   have H := HA.out
   clear HA
   simp only [impl_areFrom.l0] at H
   by_cases c3 : x5_1 < (a0.size : Int)
   rotate_left
   ·rw [if_neg c3] at H
    have c3b0 := decide_eq_false c3
    clear c3
    obtain rfl := Option.some.inj H
    go_wp2
    go_ret
    exact ⟨rs, dr⟩
   rw [if_pos c3] at H
   have c3b0 := decide_eq_true c3
   clear c3
   revert H
   refine ifn fun c4 H => ?_
   have c4b0 := decide_eq_true c4
   clear c4
   by_cases c6 : (bt a0 x5_1) < a1
   ·rw [if_pos c6] at H
    have c6b0 := decide_eq_true c6
    clear c6
    obtain rfl := Option.some.inj H
    have p5 : 0 ≤ (x5_1 : Int) := od
    have q5 : x5_1 < (a0.size : Int) := od
    have hx5 := bt_at a0 x5_1
    replace p5 := eq_true p5
    replace q5 := eq_true q5
    go_wp2
    go_ret
    exact ⟨rs, dr⟩
   rw [if_neg c6] at H
   have c6b0 := decide_eq_false c6
   clear c6
   by_cases c8 : (bt a0 x5_1) > 126
   ·rw [if_pos c8] at H
    have c8b0 := decide_eq_true c8
    clear c8
    obtain rfl := Option.some.inj H
    have p5 : 0 ≤ (x5_1 : Int) := od
    have q5 : x5_1 < (a0.size : Int) := od
    have hx5 := bt_at a0 x5_1
    replace p5 := eq_true p5
    replace q5 := eq_true q5
    have p7 : 0 ≤ (x5_1 : Int) := od
    have q7 : x5_1 < (a0.size : Int) := od
    have hx7 := bt_at a0 x5_1
    replace p7 := eq_true p7
    replace q7 := eq_true q7
    go_wp2
    go_ret
    exact ⟨rs, dr⟩
   rw [if_neg c8] at H
   have c8b0 := decide_eq_false c8
   clear c8
   have H' := am H
   clear H
   have p5 : 0 ≤ (x5_1 : Int) := od
   have q5 : x5_1 < (a0.size : Int) := od
   have hx5 := bt_at a0 x5_1
   replace p5 := eq_true p5
   replace q5 := eq_true q5
   have p7 : 0 ≤ (x5_1 : Int) := od
   have q7 : x5_1 < (a0.size : Int) := od
   have hx7 := bt_at a0 x5_1
   replace p7 := eq_true p7
   replace q7 := eq_true q7
   go_wp2
   go_roundg k1
   case measure => have := HK1.out; omega
   case rel => exact ⟨(wrap64 (x5_1 + 1)), rs, H', ⟨by have := HK1.out; omega⟩, dr⟩

/-! ### impl_pathOk: function 31 -/
def impl_pathOk.f (k : Nat) (a0 : ByteArray) : Option (Bool) := (impl_inRange.f (a0.size : Int) 1 60).bind fun t498 => (if t498 = true then (if 0 < (a0.size : Int) then (if (bt a0 0) = 47 then ((impl_areFrom.f k a0 33).bind fun t499 => (some t499)) else (some false)) else (none)) else (some false))
theorem impl_pathOk.mono : ∀ a0 k, LeO (impl_pathOk.f k a0) (impl_pathOk.f (k + 1) a0) := by
 intro a0 k
 unfold impl_pathOk.f
 have m0 := @impl_areFrom.mono
 exact mo
set_option maxHeartbeats 8000000 in
set_option maxRecDepth 100000 in
theorem impl_pathOk.calls (k : Nat) (a0 : ByteArray) (r : Bool) (w : World) (h : impl_pathOk.f k a0 = some r) :
  Calls Tryd.prog 31 #[.string a0] w fun e w' => e = .returned (.bool r) ∧ Drawn0 w w' := by
 unfold impl_pathOk.f at h
 have H := h
 clear h
 revert H
 refine ok1 fun t498 A2 H => ?_
 by_cases c3 : t498 = true
 rotate_left
 ·replace c3 := Bool.eq_false_iff.mpr c3
  subst c3
  rw [if_neg (show ¬ (false = true) by decide)] at H
  obtain rfl := Option.some.inj H
  go_enter Tryd.func31, Tryd.ntmps31
  go_wp2_with ((with_reducible refine gw ?_); first | (refine gl 5 Tryd.func30 #[.int .i64 (a0.size : Int), .int .i64 1, .int .i64 60] ?_; (with_reducible refine (impl_inRange.calls (a0.size : Int) 1 60 false _ A2.out).mono ?_); rintro e w' ⟨rfl, ⟨nd, rfl⟩⟩; refine ⟨_, rfl, ?_⟩))
  go_ret
  exact ⟨rs, dr⟩
 subst c3
 rw [if_pos rfl] at H
 revert H
 refine ifn fun c4 H => ?_
 have c4b0 := decide_eq_true c4
 have c4b1 : decide (0 < a0.size) = true := decide_eq_true (by omega)
 clear c4
 by_cases c6 : (bt a0 0) = 47
 rotate_left
 ·rw [if_neg c6] at H
  have c6b0 : ((bt a0 0) == 47) = false := beq_eq_false_iff_ne.mpr c6
  have c6b1 : ((bt a0 0) != 47) = true := bne_iff_ne.mpr c6
  obtain rfl := Option.some.inj H
  go_enter Tryd.func31, Tryd.ntmps31
  go_wp2_with ((with_reducible refine gw ?_); first | (refine gl 5 Tryd.func30 #[.int .i64 (a0.size : Int), .int .i64 1, .int .i64 60] ?_; (with_reducible refine (impl_inRange.calls (a0.size : Int) 1 60 true _ A2.out).mono ?_); rintro e w' ⟨rfl, ⟨nd, rfl⟩⟩; refine ⟨_, rfl, ?_⟩; have p5 : 0 ≤ (0 : Int) := (by omega); have q5 : 0 < a0.size := (by have : (0 : Int) < (a0.size : Int) := od; omega); have hx5 : ∀ h : 0 < a0.size, ((a0[0]'h).toNat : Int) = bt a0 0 := bt_at a0 0; clear p5; have qi5 : (0 < (a0.size : Int)) = True := eq_true (od); replace q5 := eq_true q5))
  go_ret
  exact ⟨rs, dr⟩
 rw [if_pos c6] at H
 have c6b0 : ((bt a0 0) == 47) = true := beq_iff_eq.mpr c6
 have c6b1 : ((bt a0 0) != 47) = false := bne_eq_false_iff_eq.mpr c6
 clear c6
 revert H
 refine ok1 fun t499 A7 H => ?_
 obtain rfl := Option.some.inj H
 go_enter Tryd.func31, Tryd.ntmps31
 go_wp2_with (first | ((with_reducible refine gw ?_); first | (refine gl 5 Tryd.func30 #[.int .i64 (a0.size : Int), .int .i64 1, .int .i64 60] ?_; (with_reducible refine (impl_inRange.calls (a0.size : Int) 1 60 true _ A2.out).mono ?_); rintro e w' ⟨rfl, ⟨nd, rfl⟩⟩; refine ⟨_, rfl, ?_⟩; have p5 : 0 ≤ (0 : Int) := (by omega); have q5 : 0 < a0.size := (by have : (0 : Int) < (a0.size : Int) := od; omega); have hx5 : ∀ h : 0 < a0.size, ((a0[0]'h).toNat : Int) = bt a0 0 := bt_at a0 0; clear p5; have qi5 : (0 < (a0.size : Int)) = True := eq_true (od); replace q5 := eq_true q5)) | (go_at_call 46; (with_reducible refine (impl_areFrom.calls k a0 33 t499 _ A7.out).mono ?_); rintro e w' ⟨rfl, ⟨nd, rfl⟩⟩))
 go_ret
 exact ⟨rs, dr⟩

/-! ### impl_TokenOk: function 47 -/
def impl_TokenOk.l0 : Nat → ByteArray → Int → Option (Bool)
 | 0, _, _ => none
 | k + 1, x0, x3 => if x3 < (x0.size : Int) then (if 0 ≤ x3 then (if (bt x0 x3) ≥ 97 then (if (bt x0 x3) ≤ 122 then (impl_TokenOk.l0 k x0 (wrap64 (x3 + 1))) else (if (bt x0 x3) ≥ 48 then (if (bt x0 x3) ≤ 57 then (impl_TokenOk.l0 k x0 (wrap64 (x3 + 1))) else (if ((bt x0 x3) = 45) then (impl_TokenOk.l0 k x0 (wrap64 (x3 + 1))) else (some false))) else (if ((bt x0 x3) = 45) then (impl_TokenOk.l0 k x0 (wrap64 (x3 + 1))) else (some false)))) else (if (bt x0 x3) ≥ 48 then (if (bt x0 x3) ≤ 57 then (impl_TokenOk.l0 k x0 (wrap64 (x3 + 1))) else (if ((bt x0 x3) = 45) then (impl_TokenOk.l0 k x0 (wrap64 (x3 + 1))) else (some false))) else (if ((bt x0 x3) = 45) then (impl_TokenOk.l0 k x0 (wrap64 (x3 + 1))) else (some false)))) else (none)) else ((impl_inRange.f (x0.size : Int) 1 20).bind fun t500 => (some t500))
def impl_TokenOk.f (k : Nat) (a0 : ByteArray) : Option (Bool) := impl_TokenOk.l0 k a0 0
theorem impl_TokenOk.mono_l : ∀ k, (∀ y0 y1, LeO (impl_TokenOk.l0 k y0 y1) (impl_TokenOk.l0 (k + 1) y0 y1))
 | 0 => fun _ _ r h => by simp [impl_TokenOk.l0] at h
 | k + 1 => by
  have ih0 := impl_TokenOk.mono_l k
  ·intro y0 y1
   unfold impl_TokenOk.l0
   exact mo
theorem impl_TokenOk.mono : ∀ a0 k, LeO (impl_TokenOk.f k a0) (impl_TokenOk.f (k + 1) a0) := by
 intro a0 k
 have ih0 := impl_TokenOk.mono_l k
 unfold impl_TokenOk.f
 exact mo
set_option maxHeartbeats 8000000 in
set_option maxRecDepth 100000 in
theorem impl_TokenOk.calls (k : Nat) (a0 : ByteArray) (r : Bool) (w : World) (h : impl_TokenOk.f k a0 = some r) :
  Calls Tryd.prog 47 #[.string a0] w fun e w' => e = .returned (.bool r) ∧ Drawn0 w w' := by
 unfold impl_TokenOk.f at h
 have H := h
 clear h
 have H' := am H
 clear H
 go_enter Tryd.func47, Tryd.ntmps47
 go_wp2
 (try simp only [Act.put, List.setIfInBounds_toArray, List.set_cons_zero, List.set_cons_succ])
 go_loopg [3] k (fun kq v3 w' => ∃ (x3_1 : Int), v3 = .int .i64 x3_1 ∧ Aside0 (impl_TokenOk.l0 kq a0 x3_1 = some r) ∧ Aside0 (kq ≤ k) ∧ Drawn0 w w')
 case atStart => exact ⟨(0), rs, H', ⟨Nat.le_refl _⟩, dr⟩
 case round =>
  clear H'
  obtain ⟨x3_1, rfl, HA, HK1, ⟨m1, rfl⟩⟩ := hrel
  cases gk with
  | zero => exact absurd HA.out (by simp [impl_TokenOk.l0])
  | succ k1 =>
   have H := HA.out
   clear HA
   simp only [impl_TokenOk.l0] at H
   by_cases c2 : x3_1 < (a0.size : Int)
   rotate_left
   ·rw [if_neg c2] at H
    have c2b0 := decide_eq_false c2
    clear c2
    revert H
    refine ok1 fun t500 A24 H => ?_
    obtain rfl := Option.some.inj H
    go_wp2_with ((with_reducible refine gw ?_); first | (refine gl 41 Tryd.func30 #[.int .i64 (a0.size : Int), .int .i64 1, .int .i64 20] ?_; (with_reducible refine (impl_inRange.calls (a0.size : Int) 1 20 t500 _ A24.out).mono ?_); rintro e w' ⟨rfl, ⟨nd, rfl⟩⟩; refine ⟨_, rfl, ?_⟩))
    go_ret
    exact ⟨rs, dr⟩
   rw [if_pos c2] at H
   have c2b0 := decide_eq_true c2
   clear c2
   revert H
   refine ifn fun c3 H => ?_
   have c3b0 := decide_eq_true c3
   clear c3
   by_cases c5 : (bt a0 x3_1) ≥ 97
   rotate_left
   ·rw [if_neg c5] at H
    have c5b0 := decide_eq_false c5
    clear c5
    by_cases c17 : (bt a0 x3_1) ≥ 48
    rotate_left
    ·rw [if_neg c17] at H
     have c17b0 := decide_eq_false c17
     clear c17
     by_cases c23 : ((bt a0 x3_1) = 45)
     rotate_left
     ·rw [if_neg c23] at H
      have c23b0 : ((bt a0 x3_1) == 45) = false := beq_eq_false_iff_ne.mpr c23
      have c23b1 : ((bt a0 x3_1) != 45) = true := bne_iff_ne.mpr c23
      obtain rfl := Option.some.inj H
      have p4 : 0 ≤ (x3_1 : Int) := od
      have q4 : x3_1 < (a0.size : Int) := od
      have hx4 := bt_at a0 x3_1
      replace p4 := eq_true p4
      replace q4 := eq_true q4
      have p16 : 0 ≤ (x3_1 : Int) := od
      have q16 : x3_1 < (a0.size : Int) := od
      have hx16 := bt_at a0 x3_1
      replace p16 := eq_true p16
      replace q16 := eq_true q16
      have p22 : 0 ≤ (x3_1 : Int) := od
      have q22 : x3_1 < (a0.size : Int) := od
      have hx22 := bt_at a0 x3_1
      replace p22 := eq_true p22
      replace q22 := eq_true q22
      go_wp2
      go_ret
      exact ⟨rs, dr⟩
     rw [if_pos c23] at H
     have c23b0 : ((bt a0 x3_1) == 45) = true := beq_iff_eq.mpr c23
     have c23b1 : ((bt a0 x3_1) != 45) = false := bne_eq_false_iff_eq.mpr c23
     clear c23
     have H' := am H
     clear H
     have p4 : 0 ≤ (x3_1 : Int) := od
     have q4 : x3_1 < (a0.size : Int) := od
     have hx4 := bt_at a0 x3_1
     replace p4 := eq_true p4
     replace q4 := eq_true q4
     have p16 : 0 ≤ (x3_1 : Int) := od
     have q16 : x3_1 < (a0.size : Int) := od
     have hx16 := bt_at a0 x3_1
     replace p16 := eq_true p16
     replace q16 := eq_true q16
     have p22 : 0 ≤ (x3_1 : Int) := od
     have q22 : x3_1 < (a0.size : Int) := od
     have hx22 := bt_at a0 x3_1
     replace p22 := eq_true p22
     replace q22 := eq_true q22
     go_wp2
     go_roundg k1
     case measure => have := HK1.out; omega
     case rel => exact ⟨(wrap64 (x3_1 + 1)), rs, H', ⟨by have := HK1.out; omega⟩, dr⟩
    rw [if_pos c17] at H
    have c17b0 := decide_eq_true c17
    clear c17
    by_cases c19 : (bt a0 x3_1) ≤ 57
    ·rw [if_pos c19] at H
     have c19b0 := decide_eq_true c19
     clear c19
     have H' := am H
     clear H
     have p4 : 0 ≤ (x3_1 : Int) := od
     have q4 : x3_1 < (a0.size : Int) := od
     have hx4 := bt_at a0 x3_1
     replace p4 := eq_true p4
     replace q4 := eq_true q4
     have p16 : 0 ≤ (x3_1 : Int) := od
     have q16 : x3_1 < (a0.size : Int) := od
     have hx16 := bt_at a0 x3_1
     replace p16 := eq_true p16
     replace q16 := eq_true q16
     have p18 : 0 ≤ (x3_1 : Int) := od
     have q18 : x3_1 < (a0.size : Int) := od
     have hx18 := bt_at a0 x3_1
     replace p18 := eq_true p18
     replace q18 := eq_true q18
     go_wp2
     go_roundg k1
     case measure => have := HK1.out; omega
     case rel => exact ⟨(wrap64 (x3_1 + 1)), rs, H', ⟨by have := HK1.out; omega⟩, dr⟩
    rw [if_neg c19] at H
    have c19b0 := decide_eq_false c19
    clear c19
    by_cases c21 : ((bt a0 x3_1) = 45)
    rotate_left
    ·rw [if_neg c21] at H
     have c21b0 : ((bt a0 x3_1) == 45) = false := beq_eq_false_iff_ne.mpr c21
     have c21b1 : ((bt a0 x3_1) != 45) = true := bne_iff_ne.mpr c21
     obtain rfl := Option.some.inj H
     have p4 : 0 ≤ (x3_1 : Int) := od
     have q4 : x3_1 < (a0.size : Int) := od
     have hx4 := bt_at a0 x3_1
     replace p4 := eq_true p4
     replace q4 := eq_true q4
     have p16 : 0 ≤ (x3_1 : Int) := od
     have q16 : x3_1 < (a0.size : Int) := od
     have hx16 := bt_at a0 x3_1
     replace p16 := eq_true p16
     replace q16 := eq_true q16
     have p18 : 0 ≤ (x3_1 : Int) := od
     have q18 : x3_1 < (a0.size : Int) := od
     have hx18 := bt_at a0 x3_1
     replace p18 := eq_true p18
     replace q18 := eq_true q18
     have p20 : 0 ≤ (x3_1 : Int) := od
     have q20 : x3_1 < (a0.size : Int) := od
     have hx20 := bt_at a0 x3_1
     replace p20 := eq_true p20
     replace q20 := eq_true q20
     go_wp2
     go_ret
     exact ⟨rs, dr⟩
    rw [if_pos c21] at H
    have c21b0 : ((bt a0 x3_1) == 45) = true := beq_iff_eq.mpr c21
    have c21b1 : ((bt a0 x3_1) != 45) = false := bne_eq_false_iff_eq.mpr c21
    clear c21
    have H' := am H
    clear H
    have p4 : 0 ≤ (x3_1 : Int) := od
    have q4 : x3_1 < (a0.size : Int) := od
    have hx4 := bt_at a0 x3_1
    replace p4 := eq_true p4
    replace q4 := eq_true q4
    have p16 : 0 ≤ (x3_1 : Int) := od
    have q16 : x3_1 < (a0.size : Int) := od
    have hx16 := bt_at a0 x3_1
    replace p16 := eq_true p16
    replace q16 := eq_true q16
    have p18 : 0 ≤ (x3_1 : Int) := od
    have q18 : x3_1 < (a0.size : Int) := od
    have hx18 := bt_at a0 x3_1
    replace p18 := eq_true p18
    replace q18 := eq_true q18
    have p20 : 0 ≤ (x3_1 : Int) := od
    have q20 : x3_1 < (a0.size : Int) := od
    have hx20 := bt_at a0 x3_1
    replace p20 := eq_true p20
    replace q20 := eq_true q20
    go_wp2
    go_roundg k1
    case measure => have := HK1.out; omega
    case rel => exact ⟨(wrap64 (x3_1 + 1)), rs, H', ⟨by have := HK1.out; omega⟩, dr⟩
   rw [if_pos c5] at H
   have c5b0 := decide_eq_true c5
   clear c5
   by_cases c7 : (bt a0 x3_1) ≤ 122
   ·rw [if_pos c7] at H
    have c7b0 := decide_eq_true c7
    clear c7
    have H' := am H
    clear H
    have p4 : 0 ≤ (x3_1 : Int) := od
    have q4 : x3_1 < (a0.size : Int) := od
    have hx4 := bt_at a0 x3_1
    replace p4 := eq_true p4
    replace q4 := eq_true q4
    have p6 : 0 ≤ (x3_1 : Int) := od
    have q6 : x3_1 < (a0.size : Int) := od
    have hx6 := bt_at a0 x3_1
    replace p6 := eq_true p6
    replace q6 := eq_true q6
    go_wp2
    go_roundg k1
    case measure => have := HK1.out; omega
    case rel => exact ⟨(wrap64 (x3_1 + 1)), rs, H', ⟨by have := HK1.out; omega⟩, dr⟩
   rw [if_neg c7] at H
   have c7b0 := decide_eq_false c7
   clear c7
   by_cases c9 : (bt a0 x3_1) ≥ 48
   rotate_left
   ·rw [if_neg c9] at H
    have c9b0 := decide_eq_false c9
    clear c9
    by_cases c15 : ((bt a0 x3_1) = 45)
    rotate_left
    ·rw [if_neg c15] at H
     have c15b0 : ((bt a0 x3_1) == 45) = false := beq_eq_false_iff_ne.mpr c15
     have c15b1 : ((bt a0 x3_1) != 45) = true := bne_iff_ne.mpr c15
     obtain rfl := Option.some.inj H
     have p4 : 0 ≤ (x3_1 : Int) := od
     have q4 : x3_1 < (a0.size : Int) := od
     have hx4 := bt_at a0 x3_1
     replace p4 := eq_true p4
     replace q4 := eq_true q4
     have p6 : 0 ≤ (x3_1 : Int) := od
     have q6 : x3_1 < (a0.size : Int) := od
     have hx6 := bt_at a0 x3_1
     replace p6 := eq_true p6
     replace q6 := eq_true q6
     have p8 : 0 ≤ (x3_1 : Int) := od
     have q8 : x3_1 < (a0.size : Int) := od
     have hx8 := bt_at a0 x3_1
     replace p8 := eq_true p8
     replace q8 := eq_true q8
     have p14 : 0 ≤ (x3_1 : Int) := od
     have q14 : x3_1 < (a0.size : Int) := od
     have hx14 := bt_at a0 x3_1
     replace p14 := eq_true p14
     replace q14 := eq_true q14
     go_wp2
     go_ret
     exact ⟨rs, dr⟩
    rw [if_pos c15] at H
    have c15b0 : ((bt a0 x3_1) == 45) = true := beq_iff_eq.mpr c15
    have c15b1 : ((bt a0 x3_1) != 45) = false := bne_eq_false_iff_eq.mpr c15
    clear c15
    have H' := am H
    clear H
    have p4 : 0 ≤ (x3_1 : Int) := od
    have q4 : x3_1 < (a0.size : Int) := od
    have hx4 := bt_at a0 x3_1
    replace p4 := eq_true p4
    replace q4 := eq_true q4
    have p6 : 0 ≤ (x3_1 : Int) := od
    have q6 : x3_1 < (a0.size : Int) := od
    have hx6 := bt_at a0 x3_1
    replace p6 := eq_true p6
    replace q6 := eq_true q6
    have p8 : 0 ≤ (x3_1 : Int) := od
    have q8 : x3_1 < (a0.size : Int) := od
    have hx8 := bt_at a0 x3_1
    replace p8 := eq_true p8
    replace q8 := eq_true q8
    have p14 : 0 ≤ (x3_1 : Int) := od
    have q14 : x3_1 < (a0.size : Int) := od
    have hx14 := bt_at a0 x3_1
    replace p14 := eq_true p14
    replace q14 := eq_true q14
    go_wp2
    go_roundg k1
    case measure => have := HK1.out; omega
    case rel => exact ⟨(wrap64 (x3_1 + 1)), rs, H', ⟨by have := HK1.out; omega⟩, dr⟩
   rw [if_pos c9] at H
   have c9b0 := decide_eq_true c9
   clear c9
   by_cases c11 : (bt a0 x3_1) ≤ 57
   ·rw [if_pos c11] at H
    have c11b0 := decide_eq_true c11
    clear c11
    have H' := am H
    clear H
    have p4 : 0 ≤ (x3_1 : Int) := od
    have q4 : x3_1 < (a0.size : Int) := od
    have hx4 := bt_at a0 x3_1
    replace p4 := eq_true p4
    replace q4 := eq_true q4
    have p6 : 0 ≤ (x3_1 : Int) := od
    have q6 : x3_1 < (a0.size : Int) := od
    have hx6 := bt_at a0 x3_1
    replace p6 := eq_true p6
    replace q6 := eq_true q6
    have p8 : 0 ≤ (x3_1 : Int) := od
    have q8 : x3_1 < (a0.size : Int) := od
    have hx8 := bt_at a0 x3_1
    replace p8 := eq_true p8
    replace q8 := eq_true q8
    have p10 : 0 ≤ (x3_1 : Int) := od
    have q10 : x3_1 < (a0.size : Int) := od
    have hx10 := bt_at a0 x3_1
    replace p10 := eq_true p10
    replace q10 := eq_true q10
    go_wp2
    go_roundg k1
    case measure => have := HK1.out; omega
    case rel => exact ⟨(wrap64 (x3_1 + 1)), rs, H', ⟨by have := HK1.out; omega⟩, dr⟩
   rw [if_neg c11] at H
   have c11b0 := decide_eq_false c11
   clear c11
   by_cases c13 : ((bt a0 x3_1) = 45)
   rotate_left
   ·rw [if_neg c13] at H
    have c13b0 : ((bt a0 x3_1) == 45) = false := beq_eq_false_iff_ne.mpr c13
    have c13b1 : ((bt a0 x3_1) != 45) = true := bne_iff_ne.mpr c13
    obtain rfl := Option.some.inj H
    have p4 : 0 ≤ (x3_1 : Int) := od
    have q4 : x3_1 < (a0.size : Int) := od
    have hx4 := bt_at a0 x3_1
    replace p4 := eq_true p4
    replace q4 := eq_true q4
    have p6 : 0 ≤ (x3_1 : Int) := od
    have q6 : x3_1 < (a0.size : Int) := od
    have hx6 := bt_at a0 x3_1
    replace p6 := eq_true p6
    replace q6 := eq_true q6
    have p8 : 0 ≤ (x3_1 : Int) := od
    have q8 : x3_1 < (a0.size : Int) := od
    have hx8 := bt_at a0 x3_1
    replace p8 := eq_true p8
    replace q8 := eq_true q8
    have p10 : 0 ≤ (x3_1 : Int) := od
    have q10 : x3_1 < (a0.size : Int) := od
    have hx10 := bt_at a0 x3_1
    replace p10 := eq_true p10
    replace q10 := eq_true q10
    have p12 : 0 ≤ (x3_1 : Int) := od
    have q12 : x3_1 < (a0.size : Int) := od
    have hx12 := bt_at a0 x3_1
    replace p12 := eq_true p12
    replace q12 := eq_true q12
    go_wp2
    go_ret
    exact ⟨rs, dr⟩
   rw [if_pos c13] at H
   have c13b0 : ((bt a0 x3_1) == 45) = true := beq_iff_eq.mpr c13
   have c13b1 : ((bt a0 x3_1) != 45) = false := bne_eq_false_iff_eq.mpr c13
   clear c13
   have H' := am H
   clear H
   have p4 : 0 ≤ (x3_1 : Int) := od
   have q4 : x3_1 < (a0.size : Int) := od
   have hx4 := bt_at a0 x3_1
   replace p4 := eq_true p4
   replace q4 := eq_true q4
   have p6 : 0 ≤ (x3_1 : Int) := od
   have q6 : x3_1 < (a0.size : Int) := od
   have hx6 := bt_at a0 x3_1
   replace p6 := eq_true p6
   replace q6 := eq_true q6
   have p8 : 0 ≤ (x3_1 : Int) := od
   have q8 : x3_1 < (a0.size : Int) := od
   have hx8 := bt_at a0 x3_1
   replace p8 := eq_true p8
   replace q8 := eq_true q8
   have p10 : 0 ≤ (x3_1 : Int) := od
   have q10 : x3_1 < (a0.size : Int) := od
   have hx10 := bt_at a0 x3_1
   replace p10 := eq_true p10
   replace q10 := eq_true q10
   have p12 : 0 ≤ (x3_1 : Int) := od
   have q12 : x3_1 < (a0.size : Int) := od
   have hx12 := bt_at a0 x3_1
   replace p12 := eq_true p12
   replace q12 := eq_true q12
   go_wp2
   go_roundg k1
   case measure => have := HK1.out; omega
   case rel => exact ⟨(wrap64 (x3_1 + 1)), rs, H', ⟨by have := HK1.out; omega⟩, dr⟩

/-! ### strings.Trim at one blank -/
def strings_Trim.f (a0 a1 : ByteArray) : Option ByteArray := if a1 = ⟨#[32]⟩ ∧ a0.size ≤ 9223372036854775807 then some ⟨(Lib.trimB a0.data.toList 32).toArray⟩ else none
theorem strings_Trim.calls (a0 a1 : ByteArray) (r : ByteArray) (w : World) (h : strings_Trim.f a0 a1 = some r) :
  Calls Tryd.prog 60 #[.string a0, .string a1] w fun e w' => e = .returned (.string r) ∧ Below w.heap.size w w' := by
 unfold strings_Trim.f at h
 split at h
 case isFalse => cases h
 rename_i hl
 obtain rfl := Option.some.inj h
 rw [hl.1]
 refine (Tryd.strings_Trim_one a0 32 (by decide) w hl.2).mono ?_
 rintro e w' ⟨rfl, rfl | rfl⟩
 ·exact ⟨rfl, Below.refl _ _⟩
 ·exact ⟨rfl, below_drew1 (Below.refl _ _)⟩

/-! ### impl_Trim: function 57 -/
def impl_Trim.f (a0 : ByteArray) : Option (ByteArray) := (strings_Trim.f a0 (⟨#[32]⟩ : ByteArray)).bind fun t501 => (some t501)
set_option maxHeartbeats 8000000 in
set_option maxRecDepth 100000 in
theorem impl_Trim.calls (a0 : ByteArray) (r : ByteArray) (w : World) (h : impl_Trim.f a0 = some r) :
  Calls Tryd.prog 57 #[.string a0] w fun e w' => e = .returned (.string r) ∧ Below w.heap.size w w' := by
 have HB := am (Below.refl w.heap.size w)
 unfold impl_Trim.f at h
 have H := h
 clear h
 revert H
 refine ok1 fun t501 A2 H => ?_
 obtain rfl := Option.some.inj H
 go_enter Tryd.func57, Tryd.ntmps57
 go_wp2_with ((with_reducible refine gw ?_); first | (refine gl 4 Tryd.func60 #[.string a0, .string (⟨#[32]⟩ : ByteArray)] ?_; (with_reducible refine (strings_Trim.calls a0 (⟨#[32]⟩ : ByteArray) t501 _ A2.out).mono ?_); rintro e w3 ⟨rfl, hb⟩; refine ⟨_, rfl, ?_⟩; replace HB := am (below_step bl hb); clear hb))
 go_ret
 exact ⟨rf, bl⟩

/-! ### impl_ValueOk: function 48 -/
def impl_ValueOk.f (k : Nat) (a0 : ByteArray) : Option (Bool) := (impl_inRange.f (a0.size : Int) 1 60).bind fun t502 => (if t502 = true then ((impl_areFrom.f k a0 32).bind fun t503 => (if t503 = true then ((impl_Trim.f a0).bind fun t504 => (some (t504.toList == a0.toList))) else (some false))) else (some false))
theorem impl_ValueOk.mono : ∀ a0 k, LeO (impl_ValueOk.f k a0) (impl_ValueOk.f (k + 1) a0) := by
 intro a0 k
 unfold impl_ValueOk.f
 have m0 := @impl_areFrom.mono
 exact mo
set_option maxHeartbeats 8000000 in
set_option maxRecDepth 100000 in
theorem impl_ValueOk.calls (k : Nat) (a0 : ByteArray) (r : Bool) (w : World) (h : impl_ValueOk.f k a0 = some r) :
  Calls Tryd.prog 48 #[.string a0] w fun e w' => e = .returned (.bool r) ∧ Below w.heap.size w w' := by
 have HB := am (Below.refl w.heap.size w)
 unfold impl_ValueOk.f at h
 have H := h
 clear h
 revert H
 refine ok1 fun t502 A2 H => ?_
 by_cases c3 : t502 = true
 rotate_left
 ·replace c3 := Bool.eq_false_iff.mpr c3
  subst c3
  rw [if_neg (show ¬ (false = true) by decide)] at H
  obtain rfl := Option.some.inj H
  go_enter Tryd.func48, Tryd.ntmps48
  go_wp2_with ((with_reducible refine gw ?_); first | (refine gl 5 Tryd.func30 #[.int .i64 (a0.size : Int), .int .i64 1, .int .i64 60] ?_; (with_reducible refine (impl_inRange.calls (a0.size : Int) 1 60 false _ A2.out).mono ?_); rintro e w' ⟨rfl, ⟨nd, rfl⟩⟩; refine ⟨_, rfl, ?_⟩))
  go_ret
  exact ⟨rf, bl⟩
 subst c3
 rw [if_pos rfl] at H
 revert H
 refine ok1 fun t503 A4 H => ?_
 by_cases c5 : t503 = true
 rotate_left
 ·replace c5 := Bool.eq_false_iff.mpr c5
  subst c5
  rw [if_neg (show ¬ (false = true) by decide)] at H
  obtain rfl := Option.some.inj H
  go_enter Tryd.func48, Tryd.ntmps48
  go_wp2_with (first | ((with_reducible refine gw ?_); first | (refine gl 5 Tryd.func30 #[.int .i64 (a0.size : Int), .int .i64 1, .int .i64 60] ?_; (with_reducible refine (impl_inRange.calls (a0.size : Int) 1 60 true _ A2.out).mono ?_); rintro e w' ⟨rfl, ⟨nd, rfl⟩⟩; refine ⟨_, rfl, ?_⟩)) | (go_at_call 46; (with_reducible refine (impl_areFrom.calls k a0 32 false _ A4.out).mono ?_); rintro e w' ⟨rfl, ⟨nd, rfl⟩⟩))
  go_ret
  exact ⟨rf, bl⟩
 subst c5
 rw [if_pos rfl] at H
 revert H
 refine ok1 fun t504 A6 H => ?_
 obtain rfl := Option.some.inj H
 go_enter Tryd.func48, Tryd.ntmps48
 go_wp2_with (first | ((with_reducible refine gw ?_); first | (refine gl 5 Tryd.func30 #[.int .i64 (a0.size : Int), .int .i64 1, .int .i64 60] ?_; (with_reducible refine (impl_inRange.calls (a0.size : Int) 1 60 true _ A2.out).mono ?_); rintro e w' ⟨rfl, ⟨nd, rfl⟩⟩; refine ⟨_, rfl, ?_⟩)) | (go_at_call 46; (with_reducible refine (impl_areFrom.calls k a0 32 true _ A4.out).mono ?_); rintro e w' ⟨rfl, ⟨nd, rfl⟩⟩) | (go_at_call 57; (with_reducible refine (impl_Trim.calls a0 t504 _ A6.out).mono ?_); rintro e w7 ⟨rfl, hb⟩; replace HB := am (below_step bl hb); clear hb))
 go_ret
 exact ⟨rf, bl⟩

/-! ### impl_FieldsOk: function 32 -/
theorem u32HB {p : Prop} (h : p := by repeat (first | (with_reducible first | exact HB.out | apply below_alloc | apply pw_below_drewN | apply below_drew1 | refine below_set ?_ GE506.out) | exact HB.out)) : p := h
def impl_FieldsOk.l0 : Nat → List (S46) → List (S46) → Int → Int → Option (Bool)
 | 0, _, _, _, _ => none
 | k + 1, x0, x5, x6, x7 => if x7 < x6 then (if 0 ≤ x7 then (if x7 < (x5.length : Int) then ((impl_TokenOk.f k ((rd_T46 x5 x7).f0)).bind fun t507 => (if t507 = true then ((impl_ValueOk.f k ((rd_T46 x5 x7).f1)).bind fun t508 => (if t508 = true then (if ((rd_T46 x5 x7).f0).toList = ([99, 111, 110, 116, 101, 110, 116, 45, 108, 101, 110, 103, 116, 104] : List UInt8) then (some false) else ((impl_fieldAt.f x0 ((rd_T46 x5 x7).f0)).bind fun t509 => (if t509 = x7 then (impl_FieldsOk.l0 k x0 x5 x6 (wrap64 (x7 + 1))) else (some false)))) else (some false))) else (some false))) else (none)) else (none)) else (some (decide ((x0.length : Int) ≤ 8)))
def impl_FieldsOk.f (k : Nat) (l0 : List (S46)) : Option (Bool) := impl_FieldsOk.l0 k l0 l0 (l0.length : Int) 0
theorem impl_FieldsOk.mono_l : ∀ k, (∀ y0 y1 y2 y3, LeO (impl_FieldsOk.l0 k y0 y1 y2 y3) (impl_FieldsOk.l0 (k + 1) y0 y1 y2 y3))
 | 0 => fun _ _ _ _ r h => by simp [impl_FieldsOk.l0] at h
 | k + 1 => by
  have ih0 := impl_FieldsOk.mono_l k
  ·intro y0 y1 y2 y3
   unfold impl_FieldsOk.l0
   have m0 := @impl_TokenOk.mono
   have m1 := @impl_ValueOk.mono
   exact mo
theorem impl_FieldsOk.mono : ∀ a0 k, LeO (impl_FieldsOk.f k a0) (impl_FieldsOk.f (k + 1) a0) := by
 intro a0 k
 have ih0 := impl_FieldsOk.mono_l k
 unfold impl_FieldsOk.f
 have m0 := @impl_TokenOk.mono
 have m1 := @impl_ValueOk.mono
 exact mo
set_option maxHeartbeats 8000000 in
set_option maxRecDepth 100000 in
theorem impl_FieldsOk.calls (k : Nat) (A0 : Option Addr) (c0 : Nat) (l0 : List (S46)) (r : Bool) (w : World) (hr0 : Kd.C k46 w A0 l0.length l0) (hc0 : l0.length ≤ c0) (h : impl_FieldsOk.f k l0 = some r) :
  Calls Tryd.prog 32 #[.slice A0 l0.length c0] w fun e w' => e = .returned (.bool r) ∧ Below w.heap.size w w' := by
 have hu46 := Tryd.underlying46
 have HR0 := am hr0
 have HC0 := am hc0
 clear hr0 hc0
 have HB := am (Below.refl w.heap.size w)
 unfold impl_FieldsOk.f at h
 have H := h
 clear h
 have H' := am H
 clear H
 go_enter Tryd.func32, Tryd.ntmps32
 go_wp2
 (try simp only [Act.put, List.setIfInBounds_toArray, List.set_cons_zero, List.set_cons_succ])
 go_loopg [7] k (fun kq v7 w' => ∃ (x7_1 : Int), v7 = .int .i64 x7_1 ∧ Aside0 (impl_FieldsOk.l0 kq l0 l0 (l0.length : Int) x7_1 = some r) ∧ Aside0 (kq ≤ k) ∧ Aside0 (Below w.heap.size w w'))
 case atStart => exact ⟨(0), rs, H', ⟨Nat.le_refl _⟩, ⟨u32HB⟩⟩
 case round =>
  clear H'
  obtain ⟨x7_1, rfl, HA, HK1, HB⟩ := hrel
  cases gk with
  | zero => exact absurd HA.out (by simp [impl_FieldsOk.l0])
  | succ k1 =>
   have H := HA.out
   clear HA
   simp only [impl_FieldsOk.l0] at H
   by_cases c2 : x7_1 < (l0.length : Int)
   rotate_left
   ·rw [if_neg c2] at H
    have c2b0 := decide_eq_false c2
    clear c2
    obtain rfl := Option.some.inj H
    go_wp2
    go_ret
    exact ⟨rf, bl⟩
   rw [if_pos c2] at H
   have c2b0 := decide_eq_true c2
   clear c2
   revert H
   refine ifn fun c3 H => ?_
   have c3b0 := decide_eq_true c3
   clear c3
   revert H
   refine ifn fun c4 H => ?_
   have c4b0 := decide_eq_true c4
   clear c4
   revert H
   refine ok1 fun t507 A5 H => ?_
   by_cases c6 : t507 = true
   rotate_left
   ·replace c6 := Bool.eq_false_iff.mpr c6
    subst c6
    rw [if_neg (show ¬ (false = true) by decide)] at H
    obtain rfl := Option.some.inj H
    have p505 : 0 ≤ (x7_1 : Int) := od
    have q505 : x7_1 < (l0.length : Int) := od
    obtain ⟨ad505, e505, hx505_0, hx505_1⟩ := at_T46 HR0.out x7_1 p505 q505
    cases e505
    replace hx505_0 := hcw hx505_0
    replace hx505_1 := hcw hx505_1
    replace p505 := eq_true p505
    replace q505 := eq_true q505
    go_wp2_with ((with_reducible refine gw ?_); first | (refine bx 4 #[.string (⟨#[]⟩ : ByteArray), .string (⟨#[]⟩ : ByteArray)] 46 ?_; intro gb506 hg w25 hbox hb; have BK506 := am (hbox); have GW506 := am (sz hg : w.heap.size ≤ gb506); have GE506 := am (sz hg : w.heap.size ≤ gb506); replace HB := am (below_step bl hb); clear hb hbox hg; obtain ⟨z26_0, y26_0, z26_1, y26_1⟩ := cl2 BK506) | (refine gl 14 Tryd.func47 #[.string ((rd_T46 l0 x7_1).f0)] ?_; (with_reducible refine (impl_TokenOk.calls k1 ((rd_T46 l0 x7_1).f0) false _ A5.out).mono ?_); rintro e w' ⟨rfl, ⟨nd, rfl⟩⟩; refine ⟨_, rfl, ?_⟩))
    go_ret
    exact ⟨rf, bl⟩
   subst c6
   rw [if_pos rfl] at H
   revert H
   refine ok1 fun t508 A7 H => ?_
   by_cases c8 : t508 = true
   rotate_left
   ·replace c8 := Bool.eq_false_iff.mpr c8
    subst c8
    rw [if_neg (show ¬ (false = true) by decide)] at H
    obtain rfl := Option.some.inj H
    have p505 : 0 ≤ (x7_1 : Int) := od
    have q505 : x7_1 < (l0.length : Int) := od
    obtain ⟨ad505, e505, hx505_0, hx505_1⟩ := at_T46 HR0.out x7_1 p505 q505
    cases e505
    replace hx505_0 := hcw hx505_0
    replace hx505_1 := hcw hx505_1
    replace p505 := eq_true p505
    replace q505 := eq_true q505
    go_wp2_with (first | ((with_reducible refine gw ?_); first | (refine bx 4 #[.string (⟨#[]⟩ : ByteArray), .string (⟨#[]⟩ : ByteArray)] 46 ?_; intro gb506 hg w22 hbox hb; have BK506 := am (hbox); have GW506 := am (sz hg : w.heap.size ≤ gb506); have GE506 := am (sz hg : w.heap.size ≤ gb506); replace HB := am (below_step bl hb); clear hb hbox hg; obtain ⟨z23_0, y23_0, z23_1, y23_1⟩ := cl2 BK506) | (refine gl 14 Tryd.func47 #[.string ((rd_T46 l0 x7_1).f0)] ?_; (with_reducible refine (impl_TokenOk.calls k1 ((rd_T46 l0 x7_1).f0) true _ A5.out).mono ?_); rintro e w' ⟨rfl, ⟨nd, rfl⟩⟩; refine ⟨_, rfl, ?_⟩)) | (go_at_call 48; (with_reducible refine (impl_ValueOk.calls k1 ((rd_T46 l0 x7_1).f1) false _ A7.out).mono ?_); rintro e w24 ⟨rfl, hb⟩; replace BK506 := am (blk_below (g := gb506) (o := .cells #[.string ((rd_T46 l0 x7_1).f0), .string ((rd_T46 l0 x7_1).f1)] 46 (0, 0)) (pt0 BK506) hb); replace HB := am (below_step bl hb); clear hb))
    go_ret
    exact ⟨rf, bl⟩
   subst c8
   rw [if_pos rfl] at H
   by_cases c9 : ((rd_T46 l0 x7_1).f0).toList = ([99, 111, 110, 116, 101, 110, 116, 45, 108, 101, 110, 103, 116, 104] : List UInt8)
   ·rw [if_pos c9] at H
    have c9b0 : (((rd_T46 l0 x7_1).f0).toList == ([99, 111, 110, 116, 101, 110, 116, 45, 108, 101, 110, 103, 116, 104] : List UInt8)) = true := beq_iff_eq.mpr c9
    have c9b1 : (((rd_T46 l0 x7_1).f0).toList != ([99, 111, 110, 116, 101, 110, 116, 45, 108, 101, 110, 103, 116, 104] : List UInt8)) = false := bne_eq_false_iff_eq.mpr c9
    clear c9
    obtain rfl := Option.some.inj H
    have p505 : 0 ≤ (x7_1 : Int) := od
    have q505 : x7_1 < (l0.length : Int) := od
    obtain ⟨ad505, e505, hx505_0, hx505_1⟩ := at_T46 HR0.out x7_1 p505 q505
    cases e505
    replace hx505_0 := hcw hx505_0
    replace hx505_1 := hcw hx505_1
    replace p505 := eq_true p505
    replace q505 := eq_true q505
    go_wp2_with (first | ((with_reducible refine gw ?_); first | (refine bx 4 #[.string (⟨#[]⟩ : ByteArray), .string (⟨#[]⟩ : ByteArray)] 46 ?_; intro gb506 hg w10 hbox hb; have BK506 := am (hbox); have GW506 := am (sz hg : w.heap.size ≤ gb506); have GE506 := am (sz hg : w.heap.size ≤ gb506); replace HB := am (below_step bl hb); clear hb hbox hg; obtain ⟨z11_0, y11_0, z11_1, y11_1⟩ := cl2 BK506) | (refine gl 14 Tryd.func47 #[.string ((rd_T46 l0 x7_1).f0)] ?_; (with_reducible refine (impl_TokenOk.calls k1 ((rd_T46 l0 x7_1).f0) true _ A5.out).mono ?_); rintro e w' ⟨rfl, ⟨nd, rfl⟩⟩; refine ⟨_, rfl, ?_⟩)) | (go_at_call 48; (with_reducible refine (impl_ValueOk.calls k1 ((rd_T46 l0 x7_1).f1) true _ A7.out).mono ?_); rintro e w12 ⟨rfl, hb⟩; replace BK506 := am (blk_below (g := gb506) (o := .cells #[.string ((rd_T46 l0 x7_1).f0), .string ((rd_T46 l0 x7_1).f1)] 46 (0, 0)) (pt0 BK506) hb); replace HB := am (below_step bl hb); clear hb; obtain ⟨z13_0, y13_0, z13_1, y13_1⟩ := cl2 BK506))
    go_ret
    exact ⟨rf, bl⟩
   rw [if_neg c9] at H
   have c9b0 : (((rd_T46 l0 x7_1).f0).toList == ([99, 111, 110, 116, 101, 110, 116, 45, 108, 101, 110, 103, 116, 104] : List UInt8)) = false := beq_eq_false_iff_ne.mpr c9
   have c9b1 : (((rd_T46 l0 x7_1).f0).toList != ([99, 111, 110, 116, 101, 110, 116, 45, 108, 101, 110, 103, 116, 104] : List UInt8)) = true := bne_iff_ne.mpr c9
   revert H
   refine ok1 fun t509 A14 H => ?_
   have HH15 := am H
   clear H
   have p505 : 0 ≤ (x7_1 : Int) := od
   have q505 : x7_1 < (l0.length : Int) := od
   obtain ⟨ad505, e505, hx505_0, hx505_1⟩ := at_T46 HR0.out x7_1 p505 q505
   cases e505
   replace hx505_0 := hcw hx505_0
   replace hx505_1 := hcw hx505_1
   replace p505 := eq_true p505
   replace q505 := eq_true q505
   go_upto_if 34 with (first | ((with_reducible refine gw ?_); first | (refine bx 4 #[.string (⟨#[]⟩ : ByteArray), .string (⟨#[]⟩ : ByteArray)] 46 ?_; intro gb506 hg w16 hbox hb; have BK506 := am (hbox); have GW506 := am (sz hg : w.heap.size ≤ gb506); have GE506 := am (sz hg : w.heap.size ≤ gb506); replace HB := am (below_step bl hb); clear hb hbox hg; obtain ⟨z17_0, y17_0, z17_1, y17_1⟩ := cl2 BK506) | (refine gl 14 Tryd.func47 #[.string ((rd_T46 l0 x7_1).f0)] ?_; (with_reducible refine (impl_TokenOk.calls k1 ((rd_T46 l0 x7_1).f0) true _ A5.out).mono ?_); rintro e w' ⟨rfl, ⟨nd, rfl⟩⟩; refine ⟨_, rfl, ?_⟩)) | (go_at_call 48; (with_reducible refine (impl_ValueOk.calls k1 ((rd_T46 l0 x7_1).f1) true _ A7.out).mono ?_); rintro e w18 ⟨rfl, hb⟩; replace BK506 := am (blk_below (g := gb506) (o := .cells #[.string ((rd_T46 l0 x7_1).f0), .string ((rd_T46 l0 x7_1).f1)] 46 (0, 0)) (pt0 BK506) hb); replace HB := am (below_step bl hb); clear hb; obtain ⟨z19_0, y19_0, z19_1, y19_1⟩ := cl2 BK506) | (go_at_call 29; (with_reducible refine (impl_fieldAt.calls _ _ l0 ((rd_T46 l0 x7_1).f0) t509 _ ?side1 ?side2 A14.out).mono ?_); (case side1 => exact cb HR0); (case side2 => exact HC0.out); rintro e w20 ⟨rfl, hb⟩; replace BK506 := kb BK506 hb; replace HB := am (below_step bl hb); clear hb))
   have H := HH15.out
   clear HH15
   by_cases c21 : t509 = x7_1
   rotate_left
   ·rw [if_neg c21] at H
    have c21b0 : (t509 == x7_1) = false := beq_eq_false_iff_ne.mpr c21
    have c21b1 : (t509 != x7_1) = true := bne_iff_ne.mpr c21
    (first | rw [c21b0] | (simp only [i64_w, i32_w]; rw [c21b0]) | skip)
    obtain rfl := Option.some.inj H
    go_wp2
    go_ret
    exact ⟨rf, bl⟩
   rw [if_pos c21] at H
   have c21b0 : (t509 == x7_1) = true := beq_iff_eq.mpr c21
   have c21b1 : (t509 != x7_1) = false := bne_eq_false_iff_eq.mpr c21
   clear c21
   (first | rw [c21b0] | (simp only [i64_w, i32_w]; rw [c21b0]) | skip)
   have H' := am H
   clear H
   go_wp2
   go_roundg k1
   case measure => have := HK1.out; omega
   case rel => exact ⟨(wrap64 (x7_1 + 1)), rs, H', ⟨by have := HK1.out; omega⟩, ⟨u32HB⟩⟩

/-! ### impl_ReqOk: function 16 -/
def impl_ReqOk.f (k : Nat) (a0_0 : Int) (a0_1 : ByteArray) (l0_2 : List (S46)) (a0_3 : ByteArray) : Option (Bool) := (impl_inRange.f a0_0 1 4).bind fun t511 => (if t511 = true then ((impl_pathOk.f k a0_1).bind fun t512 => (if t512 = true then (if (a0_3.size : Int) ≤ 120 then ((impl_FieldsOk.f k l0_2).bind fun t513 => (some t513)) else (some false)) else (some false))) else (some false))
theorem impl_ReqOk.mono : ∀ a0 a1 a2 a3 k, LeO (impl_ReqOk.f k a0 a1 a2 a3) (impl_ReqOk.f (k + 1) a0 a1 a2 a3) := by
 intro a0 a1 a2 a3 k
 unfold impl_ReqOk.f
 have m0 := @impl_FieldsOk.mono
 have m1 := @impl_pathOk.mono
 exact mo
set_option maxHeartbeats 8000000 in
set_option maxRecDepth 100000 in
theorem impl_ReqOk.calls (k : Nat) (a0_0 : Int) (a0_1 : ByteArray) (A0_2 : Option Addr) (c0_2 : Nat) (l0_2 : List (S46)) (a0_3 : ByteArray) (r : Bool) (w : World) (hr0_2 : Kd.C k46 w A0_2 l0_2.length l0_2) (hc0_2 : l0_2.length ≤ c0_2) (h : impl_ReqOk.f k a0_0 a0_1 l0_2 a0_3 = some r) :
  Calls Tryd.prog 16 #[.agg #[.int .i64 a0_0, .string a0_1, .slice A0_2 l0_2.length c0_2, .string a0_3]] w fun e w' => e = .returned (.bool r) ∧ Below w.heap.size w w' := by
 have hu26 := Tryd.underlying26
 have HR0_2 := am hr0_2
 have HC0_2 := am hc0_2
 clear hr0_2 hc0_2
 have HB := am (Below.refl w.heap.size w)
 unfold impl_ReqOk.f at h
 have H := h
 clear h
 revert H
 refine ok1 fun t511 A2 H => ?_
 by_cases c3 : t511 = true
 rotate_left
 ·replace c3 := Bool.eq_false_iff.mpr c3
  subst c3
  rw [if_neg (show ¬ (false = true) by decide)] at H
  obtain rfl := Option.some.inj H
  go_enter Tryd.func16, Tryd.ntmps16
  go_wp2_with (first | ((with_reducible refine gate_dst (N := 1) rfl ?_); (try (refine gate_guard (by rfl) ?_; dsimp only)); refine box_event ?hg (N := 1) ?hd (cs := #[.int .i64 a0_0, .string a0_1, .slice A0_2 l0_2.length c0_2, .string a0_3]) (t := 26) ?hr ?_; (case hd => rfl); (case hg => rfl); (case hr => first | (go_simp; done) | (go_simp; rfl)); intro gb510 hg w15 hbox hb; have BK510 := am (hbox); have GW510 := am (sz hg : w.heap.size ≤ gb510); have GE510 := am (sz hg : w.heap.size ≤ gb510); replace HB := am (below_step bl hb); clear hb hbox hg; obtain ⟨z16_0, y16_0, z16_1, y16_1, z16_2, y16_2, z16_3, y16_3⟩ := cl4 BK510) | ((with_reducible refine gw ?_); first | (refine gl 5 Tryd.func30 #[.int .i64 a0_0, .int .i64 1, .int .i64 4] ?_; (with_reducible refine (impl_inRange.calls a0_0 1 4 false _ A2.out).mono ?_); rintro e w' ⟨rfl, ⟨nd, rfl⟩⟩; refine ⟨_, rfl, ?_⟩)))
  go_ret
  exact ⟨rf, bl⟩
 subst c3
 rw [if_pos rfl] at H
 revert H
 refine ok1 fun t512 A4 H => ?_
 by_cases c5 : t512 = true
 rotate_left
 ·replace c5 := Bool.eq_false_iff.mpr c5
  subst c5
  rw [if_neg (show ¬ (false = true) by decide)] at H
  obtain rfl := Option.some.inj H
  go_enter Tryd.func16, Tryd.ntmps16
  go_wp2_with (first | ((with_reducible refine gate_dst (N := 1) rfl ?_); (try (refine gate_guard (by rfl) ?_; dsimp only)); refine box_event ?hg (N := 1) ?hd (cs := #[.int .i64 a0_0, .string a0_1, .slice A0_2 l0_2.length c0_2, .string a0_3]) (t := 26) ?hr ?_; (case hd => rfl); (case hg => rfl); (case hr => first | (go_simp; done) | (go_simp; rfl)); intro gb510 hg w13 hbox hb; have BK510 := am (hbox); have GW510 := am (sz hg : w.heap.size ≤ gb510); have GE510 := am (sz hg : w.heap.size ≤ gb510); replace HB := am (below_step bl hb); clear hb hbox hg; obtain ⟨z14_0, y14_0, z14_1, y14_1, z14_2, y14_2, z14_3, y14_3⟩ := cl4 BK510) | ((with_reducible refine gw ?_); first | (refine gl 5 Tryd.func30 #[.int .i64 a0_0, .int .i64 1, .int .i64 4] ?_; (with_reducible refine (impl_inRange.calls a0_0 1 4 true _ A2.out).mono ?_); rintro e w' ⟨rfl, ⟨nd, rfl⟩⟩; refine ⟨_, rfl, ?_⟩)) | (go_at_call 31; (with_reducible refine (impl_pathOk.calls k a0_1 false _ A4.out).mono ?_); rintro e w' ⟨rfl, ⟨nd, rfl⟩⟩))
  go_ret
  exact ⟨rf, bl⟩
 subst c5
 rw [if_pos rfl] at H
 by_cases c6 : (a0_3.size : Int) ≤ 120
 rotate_left
 ·rw [if_neg c6] at H
  have c6b0 := decide_eq_false c6
  have c6b1 : decide (a0_3.size ≤ 120) = false := decide_eq_false (by omega)
  clear c6
  obtain rfl := Option.some.inj H
  go_enter Tryd.func16, Tryd.ntmps16
  go_wp2_with (first | ((with_reducible refine gate_dst (N := 1) rfl ?_); (try (refine gate_guard (by rfl) ?_; dsimp only)); refine box_event ?hg (N := 1) ?hd (cs := #[.int .i64 a0_0, .string a0_1, .slice A0_2 l0_2.length c0_2, .string a0_3]) (t := 26) ?hr ?_; (case hd => rfl); (case hg => rfl); (case hr => first | (go_simp; done) | (go_simp; rfl)); intro gb510 hg w11 hbox hb; have BK510 := am (hbox); have GW510 := am (sz hg : w.heap.size ≤ gb510); have GE510 := am (sz hg : w.heap.size ≤ gb510); replace HB := am (below_step bl hb); clear hb hbox hg; obtain ⟨z12_0, y12_0, z12_1, y12_1, z12_2, y12_2, z12_3, y12_3⟩ := cl4 BK510) | ((with_reducible refine gw ?_); first | (refine gl 5 Tryd.func30 #[.int .i64 a0_0, .int .i64 1, .int .i64 4] ?_; (with_reducible refine (impl_inRange.calls a0_0 1 4 true _ A2.out).mono ?_); rintro e w' ⟨rfl, ⟨nd, rfl⟩⟩; refine ⟨_, rfl, ?_⟩)) | (go_at_call 31; (with_reducible refine (impl_pathOk.calls k a0_1 true _ A4.out).mono ?_); rintro e w' ⟨rfl, ⟨nd, rfl⟩⟩))
  go_ret
  exact ⟨rf, bl⟩
 rw [if_pos c6] at H
 have c6b0 := decide_eq_true c6
 have c6b1 : decide (a0_3.size ≤ 120) = true := decide_eq_true (by omega)
 clear c6
 revert H
 refine ok1 fun t513 A7 H => ?_
 obtain rfl := Option.some.inj H
 go_enter Tryd.func16, Tryd.ntmps16
 go_wp2_with (first | ((with_reducible refine gate_dst (N := 1) rfl ?_); (try (refine gate_guard (by rfl) ?_; dsimp only)); refine box_event ?hg (N := 1) ?hd (cs := #[.int .i64 a0_0, .string a0_1, .slice A0_2 l0_2.length c0_2, .string a0_3]) (t := 26) ?hr ?_; (case hd => rfl); (case hg => rfl); (case hr => first | (go_simp; done) | (go_simp; rfl)); intro gb510 hg w8 hbox hb; have BK510 := am (hbox); have GW510 := am (sz hg : w.heap.size ≤ gb510); have GE510 := am (sz hg : w.heap.size ≤ gb510); replace HB := am (below_step bl hb); clear hb hbox hg; obtain ⟨z9_0, y9_0, z9_1, y9_1, z9_2, y9_2, z9_3, y9_3⟩ := cl4 BK510) | ((with_reducible refine gw ?_); first | (refine gl 5 Tryd.func30 #[.int .i64 a0_0, .int .i64 1, .int .i64 4] ?_; (with_reducible refine (impl_inRange.calls a0_0 1 4 true _ A2.out).mono ?_); rintro e w' ⟨rfl, ⟨nd, rfl⟩⟩; refine ⟨_, rfl, ?_⟩)) | (go_at_call 31; (with_reducible refine (impl_pathOk.calls k a0_1 true _ A4.out).mono ?_); rintro e w' ⟨rfl, ⟨nd, rfl⟩⟩) | (go_at_call 32; (with_reducible refine (impl_FieldsOk.calls k _ _ l0_2 t513 _ ?side1 ?side2 A7.out).mono ?_); (case side1 => repeat (first | exact (Kd.C_below HR0_2.out bl) | (with_reducible refine Kd.C_alloc ?_ _) | (with_reducible refine Kd.C_drewN ?_ _) | (with_reducible refine Kd.C_drew ?_))); (case side2 => exact HC0_2.out); rintro e w10 ⟨rfl, hb⟩; replace BK510 := kb BK510 hb; replace HB := am (below_step bl hb); clear hb))
 go_ret
 exact ⟨rf, bl⟩

/-! ### slices.Clone of fields -/
def slices_Clone_Field.f (l0 : List S46) : Option (List S46) := if l0.length < 4398046511104 then some l0 else none
set_option maxHeartbeats 4000000 in
theorem slices_Clone_Field.calls (A0 : Option Addr) (c0 : Nat) (l0 : List (S46)) (r : List S46) (w : World) (hr0 : Kd.C k46 w A0 l0.length l0) (hc0 : l0.length ≤ c0) (h : slices_Clone_Field.f l0 = some r) :
  Calls Tryd.prog 37 #[.slice A0 l0.length c0] w fun e w' => ∃ v0_ : Value, e = .returned v0_ ∧ Kd.R k46 46 w' w.heap.size (fun _ => True) v0_ r ∧ Below w.heap.size w w' := by
 unfold slices_Clone_Field.f at h
 split at h
 case isFalse => cases h
 rename_i hl
 obtain rfl := Option.some.inj h
 have HN := am hl
 have HB := am (Below.refl w.heap.size w)
 have hk := Lib.run_eql_slice_nil (P := Tryd.prog) w 24 46 A0 l0.length c0 0 0 Tryd.underlying24
 clear h hl hc0
 cases A0 with
 | none =>
  have HE := am (C_none_nil hr0 rfl)
  clear hr0
  go_enter Tryd.func37, Tryd.ntmps37
  go_wp2
  go_ret
  exact ⟨_, rfl, by rw [HE.out]; exact Kd.R_nil _ _ _ _ _, HB.out⟩
 | some ad =>
  have HR := am hr0
  clear hr0
  go_enter Tryd.func37, Tryd.ntmps37
  go_wp2_with (first | ((with_reducible refine gate_dst (N := 5) rfl ?_); refine Kd.R_lit k46 _ 46 ?hg (N := 5) ?hd (xs := ([] : List (S46))) (inner := []) (ok := fun _ => True) (okp := fun _ => True) ?hr ?hp (fun _ hk => hk) trivial (Below.refl _ _) (Nat.le_refl _) (by simp) ?_; (case hd => rfl); (case hg => rfl); (case hr => first | (go_simp; done) | (go_simp; rfl)); (case hp => exact (Reps.none _ _)); intro v1 w1 ho hb hg_ hnew_; clear hg_ hnew_; have H1 := am ho; have HB1 := am hb; clear ho hb HB) | ((with_reducible refine gate_builtin (b := .append) (xs := #[.tmp 5, .tmp 6]) rfl ?_); at_builtin; refine Kd.R_append_rows k46 (w0 := w) w.heap.size rfl (.tmp 5) (.tmp 6) 24 46 (.agg #[(.string ⟨#[]⟩), (.string ⟨#[]⟩)]) 32 rfl Tryd.underlying24 info46 rfl (by decide) (by omega) v1 [] l0 _ _ _ (fun _ => True) (fun _ => False) rfl rfl H1.out (Kd.C_below HR.out HB1.out) (fun _ _ h => h) (fun _ h => h.elim) (fun _ _ => trivial) HB1.out HB1.out.size (by have := HN.out; simp; omega) ?_; intro v2 w2 ho hb hg hat; clear hg hat; have H2 := am ho; have HB2 := am hb; clear ho hb H1 HB1))
  go_ret
  exact ⟨_, rfl, H2.out, HB2.out⟩

/-! ### impl_copyReq: function 22 -/
def impl_copyReq.f (a0_0 : Int) (a0_1 : ByteArray) (l0_2 : List (S46)) (a0_3 : ByteArray) : Option (Int × ByteArray × (List (S46)) × ByteArray) := (slices_Clone_Field.f l0_2).bind fun t516 => (some (a0_0, a0_1, t516, a0_3))
set_option maxHeartbeats 8000000 in
set_option maxRecDepth 100000 in
theorem impl_copyReq.calls (a0_0 : Int) (a0_1 : ByteArray) (A0_2 : Option Addr) (c0_2 : Nat) (l0_2 : List (S46)) (a0_3 : ByteArray) (r1 : Int) (r2 : ByteArray) (r3 : List (S46)) (r4 : ByteArray) (w : World) (hr0_2 : Kd.C k46 w A0_2 l0_2.length l0_2) (hc0_2 : l0_2.length ≤ c0_2) (h : impl_copyReq.f a0_0 a0_1 l0_2 a0_3 = some (r1, r2, r3, r4)) :
  Calls Tryd.prog 22 #[.agg #[.int .i64 a0_0, .string a0_1, .slice A0_2 l0_2.length c0_2, .string a0_3]] w fun e w' => ∃ v2_ : Value, e = .returned (.agg #[.int .i64 r1, .string r2, v2_, .string r4]) ∧ Kd.R k46 46 w' w.heap.size (fun _ => True) v2_ r3 ∧ Below w.heap.size w w' := by
 have hu26 := Tryd.underlying26
 have HR0_2 := am hr0_2
 have HC0_2 := am hc0_2
 clear hr0_2 hc0_2
 have HB := am (Below.refl w.heap.size w)
 unfold impl_copyReq.f at h
 have H := h
 clear h
 revert H
 refine ok1 fun t516 A2 H => ?_
 simp only [Option.some.injEq, Prod.mk.injEq] at H
 obtain ⟨rfl, rfl, rfl, rfl⟩ := H
 go_enter Tryd.func22, Tryd.ntmps22
 go_wp2_with ((with_reducible refine gw ?_); first | (refine bx 1 #[.int .i64 a0_0, .string a0_1, .slice A0_2 l0_2.length c0_2, .string a0_3] 26 ?_; intro gb514 hg w3 hbox hb; have BK514 := am (hbox); have GW514 := am (sz hg : w.heap.size ≤ gb514); have GE514 := am (sz hg : w.heap.size ≤ gb514); replace HB := am (below_step bl hb); clear hb hbox hg) | (refine bx 2 #[.int .i64 0, .string (⟨#[]⟩ : ByteArray), .slice none 0 0, .string (⟨#[]⟩ : ByteArray)] 26 ?_; intro gb515 hg w4 hbox hb; have BK515 := am (hbox); have GW515 := am (sz hg : w.heap.size ≤ gb515); have GE515 := am (sz hg : w.heap.size ≤ gb515); replace HB := am (below_step bl hb); have NB514_515 := am (nl hg BK514 : gb514 ≠ gb515); have NB515_514 := am (ng hg BK514 : gb515 ≠ gb514); replace BK514 := kb BK514 hb; clear hb hbox hg; have hnb5 := NB514_515.out; have hnc5 := NB515_514.out; obtain ⟨z6_0, y6_0, z6_1, y6_1, z6_2, y6_2, z6_3, y6_3⟩ := cl4 BK514) | (refine gl 5 Tryd.func37 #[.slice A0_2 l0_2.length c0_2] ?_; (with_reducible refine (slices_Clone_Field.calls _ _ l0_2 t516 _ ?side1 ?side2 A2.out).mono ?_); (case side1 => exact cb HR0_2); (case side2 => exact HC0_2.out); rintro e w7 ⟨v517, rfl, ho0, hb⟩; refine ⟨_, rfl, ?_⟩; have HO518 := am (Kd.R_lower ho0 (below_size bl)); replace BK514 := kb BK514 hb; replace BK515 := kb BK515 hb; replace HB := am (below_step bl hb); clear hb ho0; obtain ⟨Ao8, co8, eo8⟩ := Kd.R_slice HO518.out; subst eo8; obtain ⟨z9_0, y9_0, z9_1, y9_1, z9_2, y9_2, z9_3, y9_3⟩ := cl4 BK514; obtain ⟨z10_0, y10_0, z10_1, y10_1, z10_2, y10_2, z10_3, y10_3⟩ := cl4 BK515))
 refine bodyPost_ret (results_cell_row rfl _ _ gb515 26 #[.int .i64 a0_0, .string a0_1, .slice Ao8 t516.length co8, .string a0_3] (0, 0) _ rfl (pt1 BK515 NB515_514) Tryd.underlying26 rfl (by kernel_rfl)) rfl ?_
 exact ⟨_, rf, rj (Kd.R_types (Kd.R_types HO518.out BK514.out (by decide)) BK515.out (by decide)) (fun _ hk => trivial), bl⟩

/-! ### impl_Put: function 23 -/
def impl_Put.f (l0 : List (S46)) (a1 : ByteArray) (a2 : ByteArray) : Option ((List (S46))) := (slices_Clone_Field.f l0).bind fun t519 => ((impl_fieldAt.f l0 a1).bind fun t522 => (if t522 ≥ 0 then (if 0 ≤ t522 then (if t522 < (t519.length : Int) then (some (t519.set (t522 : Int).toNat (⟨(rd_T46 t519 t522).f0, a2⟩ : S46))) else (none)) else (none)) else (if t519.length < 4398046511104 then (some (t519 ++ [(⟨a1, a2⟩ : S46)])) else (none))))
set_option maxHeartbeats 8000000 in
set_option maxRecDepth 100000 in
theorem impl_Put.calls (A0 : Option Addr) (c0 : Nat) (l0 : List (S46)) (a1 : ByteArray) (a2 : ByteArray) (r : List (S46)) (w : World) (hr0 : Kd.C k46 w A0 l0.length l0) (hc0 : l0.length ≤ c0) (h : impl_Put.f l0 a1 a2 = some r) :
  Calls Tryd.prog 23 #[.slice A0 l0.length c0, .string a1, .string a2] w fun e w' => ∃ v0_ : Value, e = .returned (v0_) ∧ Kd.R k46 46 w' w.heap.size (fun _ => True) v0_ r ∧ Below w.heap.size w w' := by
 have hu46 := Tryd.underlying46
 have HR0 := am hr0
 have HC0 := am hc0
 clear hr0 hc0
 have HB := am (Below.refl w.heap.size w)
 unfold impl_Put.f at h
 have H := h
 clear h
 revert H
 refine ok1 fun t519 A4 H => ?_
 revert H
 refine ok1 fun t522 A5 H => ?_
 have HH6 := am H
 clear H
 go_enter Tryd.func23, Tryd.ntmps23
 go_upto_if 15 with ((with_reducible refine gw ?_); first | (refine gl 10 Tryd.func37 #[.slice A0 l0.length c0] ?_; (with_reducible refine (slices_Clone_Field.calls _ _ l0 t519 _ ?side1 ?side2 A4.out).mono ?_); (case side1 => exact cc HR0); (case side2 => exact HC0.out); rintro e w7 ⟨v520, rfl, ho0, hb⟩; refine ⟨_, rfl, ?_⟩; have HO521 := am (Kd.R_lower ho0 (below_size bl)); replace HB := am (below_step bl hb); clear hb ho0) | (refine gl 13 Tryd.func29 #[.slice A0 l0.length c0, .string a1] ?_; (with_reducible refine (impl_fieldAt.calls _ _ l0 a1 t522 _ ?side1 ?side2 A5.out).mono ?_); (case side1 => exact cb HR0); (case side2 => exact HC0.out); rintro e w8 ⟨rfl, hb⟩; refine ⟨_, rfl, ?_⟩; replace HO521 := kr HO521 hb; replace HB := am (below_step bl hb); clear hb))
 have H := HH6.out
 clear HH6
 by_cases c9 : t522 ≥ 0
 rotate_left
 ·rw [if_neg c9] at H
  have c9b0 := decide_eq_false c9
  clear c9
  (first | rw [c9b0] | (simp only [i64_w, i32_w]; rw [c9b0]) | skip)
  revert H
  refine ifn fun c15 H => ?_
  have LMc15 := am c15
  clear c15
  obtain ⟨y524, hy524⟩ : ∃ y_ : List (S46), y_ = (t519 ++ [(⟨a1, a2⟩ : S46)]) := ⟨_, rfl⟩
  replace H : (some y524) = some r := by first | (rw [hy524]; with_reducible exact H) | (have H2_ := (Option.bind_some _ _).symm.trans H; rw [hy524]; with_reducible exact H2_) | (have H2_ := (Option.bind_some _ _).symm.trans H; with_reducible exact H2_) | with_reducible exact H | (rw [hy524]; exact H) | exact H
  have Ny524 := am hy524
  clear hy524
  obtain rfl := Option.some.inj H
  go_wp2_with (first | ((with_reducible refine gate_builtin (b := .append) (xs := #[.tmp 22, .tmp 26]) rfl ?_); at_builtin; refine Kd.R_append k46 (w0 := w) w.heap.size rfl (.tmp 22) (.tmp 26) 24 46 (.agg #[(.string ⟨#[]⟩), (.string ⟨#[]⟩)]) 32 rfl Tryd.underlying24 info46 rfl (by decide) (by omega) v520 t519 (⟨a1, a2⟩ : S46) [.string a1, .string a2] (fun _ => True) (fun _ => False) rfl rfl ?aP (fun _ hk => hk.elim) ?aF ?aO ?aB ?aS ?aL ?_; (case aP => exact k46_mkM _ _ _ (⟨a1, a2⟩ : S46)); (case aB => exact bl); (case aF => exact (fun _ _ => trivial)); (case aO => exact (ro HO521)); (case aS => exact (below_size bl)); (case aL => have := LMc15.out; omega); intro v525 w16 ho hb hg hat; rw [← Ny524.out] at ho; have n0_ := am (hb); have n1_ := am (ho); clear HB; clear HO521; have HB := n0_; have HO526 := n1_; clear n0_ n1_; clear ho hb hg hat))
  go_ret
  exact ⟨_, rf, by (with_reducible repeat (first | apply Kd.R_alloc | apply Kd.R_drewN | apply Kd.R_drew)); exact HO526.out, bl⟩
 rw [if_pos c9] at H
 have c9b0 := decide_eq_true c9
 clear c9
 (first | rw [c9b0] | (simp only [i64_w, i32_w]; rw [c9b0]) | skip)
 revert H
 refine ifn fun c10 H => ?_
 have c10b0 := decide_eq_true c10
 clear c10
 revert H
 refine ifn fun c11 H => ?_
 have c11b0 := decide_eq_true c11
 clear c11
 obtain ⟨y523, hy523⟩ : ∃ y_ : List (S46), y_ = (t519.set (t522 : Int).toNat (⟨(rd_T46 t519 t522).f0, a2⟩ : S46)) := ⟨_, rfl⟩
 replace H : (some y523) = some r := by first | (rw [hy523]; with_reducible exact H) | (have H2_ := (Option.bind_some _ _).symm.trans H; rw [hy523]; with_reducible exact H2_) | (have H2_ := (Option.bind_some _ _).symm.trans H; with_reducible exact H2_) | with_reducible exact H | (rw [hy523]; exact H) | exact H
 have Ny523 := am hy523
 clear hy523
 obtain rfl := Option.some.inj H
 have p12 : 0 ≤ (t522 : Int) := od
 have q12 : (t522 : Int) < ((t519.length : Int) : Int) := od
 obtain ⟨go12, co12, eo12, gb12, gl12, cl12, HG12⟩ := Kd.R_form HO521.out (by omega)
 (first | cases eo12 | (injection eo12 with ea_ en_ ec_; (first | subst ea_ | (injection ea_ with ea_; subst ea_)); subst ec_; clear en_))
 have GB12 := am gb12
 have GG12 := am HG12
 clear gb12 gl12 HG12
 obtain ⟨ce12, hcl12, hM12, hcc12, hfr12⟩ := Kd.R_elem HO521.out z46 (t522 : Int) p12 q12
 obtain rfl := k46_openM hM12
 have hx12_0 : w8.cell? ⟨go12, (t522 : Int).toNat * 2, none⟩ = some (.string ((rd_T46 t519 t522).f0)) := hcc12 0 _ rfl
 have hx12_1 : w8.cell? ⟨go12, (t522 : Int).toNat * 2 + 1, none⟩ = some (.string ((rd_T46 t519 t522).f1)) := hcc12 1 _ rfl
 have hf12_0 : w8.frozen? ⟨go12, (t522 : Int).toNat * 2, none⟩ = false := hfr12 0
 have hf12_1 : w8.frozen? ⟨go12, (t522 : Int).toNat * 2 + 1, none⟩ = false := hfr12 1
 clear hcl12 hcc12 hfr12 hM12
 replace p12 := eq_true p12
 replace q12 := eq_true q12
 have HX13 := am (show Kd.R k46 46 w8 w.heap.size (fun _ => True) (.slice (some ⟨go12, 0, none⟩) t519.length co12) t519 from (ro HO521))
 obtain ⟨ce13, hcl13, hM13, hcc13, hfr13⟩ := Kd.R_elem HX13.out z46 (t522 : Int) (od) (by have h_ : (t522 : Int) < ((t519.length : Int) : Int) := od; first | exact h_ | (have e_ := (Kd.R_reads' HO521.out).1; omega) | simpa using h_)
 obtain rfl := k46_openM hM13
 have HP13 := Kd.R_seg HX13.out (t522 : Int) (od) (by have h_ : (t522 : Int) < ((t519.length : Int) : Int) := od; first | exact h_ | (have e_ := (Kd.R_reads' HO521.out).1; omega) | simpa using h_) (seg := [.string a2]) (j := 1) hcl13 hcc13 (show 2 ≤ 2 from by decide) (x' := (⟨(rd_T46 t519 t522).f0, a2⟩ : S46)) (k46_mkM _ _ _ (⟨(rd_T46 t519 t522).f0, a2⟩ : S46) ) (fun _ hk => hk)
 have hx13_1 := hcc13 1 _ rfl
 (try simp only [show (k46).sz = 2 from rfl, Nat.mul_one, Nat.add_zero] at hx13_1)
 have hf13_1 := hfr13 1
 (try simp only [show (k46).sz = 2 from rfl, Nat.mul_one, Nat.add_zero] at hf13_1)
 clear hcl13 hcc13 hfr13 hM13
 go_wp2_with (first | ((with_reducible refine gate_store (t := 9) (p := 20) rfl ?_); refine store_event (t := 9) (p := 20) (v := ?vo_w14) (w1 := (w8.setCell ⟨go12, (t522 : Int).toNat * 2 + 1, none⟩ (.string a2))) ?hg ?ho ?hn ?hr ?_; (case ho => rfl); (case hg => rfl); (case hn => rfl); (case hr => first | (go_simp; done) | (go_simp; rfl)); intro w14 hw; have hg : w8.grownBy w14 (some go12) := (by rw [hw]; exact HP13.2); have hp_ : Kd.R k46 46 w14 w.heap.size (fun _ => True) (.slice (some ⟨go12, 0, none⟩) t519.length co12) y523 := (by rw [hw, Ny523.out]; exact HP13.1); clear HP13; have n0_ := am (hp_); have n1_ := am ((by rw [hw]; exact below_set (HB.out) GB12.out : Below w.heap.size w w14)); clear HO521; clear HB; have HO521 := n0_; have HB := n1_; clear n0_ n1_; clear hg hw hp_))
 go_ret
 exact ⟨_, rf, by (with_reducible repeat (first | apply Kd.R_alloc | apply Kd.R_drewN | apply Kd.R_drew)); exact HO521.out, bl⟩

/-! ### slices.Delete of one field of a row of the call's own, in place -/
/-- a store behind a row's last element (its capacity reaches further) turns nothing of it -/
theorem R_beyond {α : Type} {d : Kd α} {e base g m c j : Nat} {ok : Nat → Prop} {W : World} {xs : List α} (h : Kd.R d e W base ok (.slice (some ⟨g, 0, none⟩) m c) xs) (hj : m * d.sz ≤ j) (u : Value) : Kd.R d e (W.setCell ⟨g, j, none⟩ u) base ok (.slice (some ⟨g, 0, none⟩) m c) xs := by
 obtain ⟨hm, _, _⟩ := Kd.R_reads' h
 obtain ⟨hok, inner, ⟨hl, hown⟩, hr⟩ := h
 refine ⟨hok, inner, ⟨hl, ?_⟩, hr.imp_ (fun _ _ hp => Kd.M_far (p := ⟨g, j, none⟩) hp (fun k hk e => hk.2 (by rw [e]; rfl)) u)⟩
 rcases hown with ⟨hv, _⟩ | ⟨g', cap, cur, hv, hb, hh, h1, h2, h3, h4⟩
 ·cases hv
 injection hv with ha _ hc
 injection ha with ha
 injection ha with hg
 subst hg; subst hc
 refine .inr ⟨g, c, cur.setIfInBounds j u, by rw [← hm], hb, blk_set hh j u, h1, h2, by simpa using h3, ?_⟩
 rw [← h4, Array.toList_setIfInBounds, List.take_set_of_le (by rw [← hm]; omega)]
theorem R_cells {α : Type} {d : Kd α} {e base g m c : Nat} {ok : Nat → Prop} {W : World} {xs : List α} (h : Kd.R d e W base ok (.slice (some ⟨g, 0, none⟩) m c) xs) (j : Nat) (hj : j < c * d.sz) : (W.cell? ⟨g, j, none⟩).isSome = true ∧ W.frozen? ⟨g, j, none⟩ = false ∧ base ≤ g := by
 obtain ⟨_, inner, ⟨hl, hown⟩, hr⟩ := h
 rcases hown with ⟨hv, _⟩ | ⟨g', cap, cur, hv, hb, hh, h1, h2, h3, h4⟩
 ·cases hv
 injection hv with ha _ hc
 injection ha with ha
 injection ha with hg
 subst hg; subst hc
 refine ⟨?_, blk_frozen hh j, hb⟩
 rw [blk_cell hh, Array.getElem?_eq_getElem (by omega)]; rfl
theorem clear_one (g n c' : Nat) (hn : 0 < n) (w : World) (h1 : (w.cell? ⟨g, (n - 1) * 2, none⟩).isSome = true ∧ w.frozen? ⟨g, (n - 1) * 2, none⟩ = false) (h2 : (w.cell? ⟨g, (n - 1) * 2 + 1, none⟩).isSome = true ∧ w.frozen? ⟨g, (n - 1) * 2 + 1, none⟩ = false) (ty : TypeId) :
  (Builtin.clear_ #[24] ty #[.slice (some ⟨g, (n - 1) * 2, none⟩) (n - (n - 1)) c']).run Tryd.prog w = .ok (.tuple #[]) ((w.setCell ⟨g, (n - 1) * 2, none⟩ (.string ⟨#[]⟩)).setCell ⟨g, (n - 1) * 2 + 1, none⟩ (.string ⟨#[]⟩)) := by
 have hst := run_storeCells_cells (P := Tryd.prog) g ((n - 1) * 2) [.string ⟨#[]⟩, .string ⟨#[]⟩] 0 w (by intro j hj; have hj' : j < 2 := hj; rcases j with _ | _ | j; exact h1.1; exact h2.1; omega) (by intro j hj; have hj' : j < 2 := hj; rcases j with _ | _ | j; exact h1.2; exact h2.2; omega) (by simp [Value.oneCell'])
 have hz : (zeroValue 46).run Tryd.prog w = .ok (.agg #[.string ⟨#[]⟩, .string ⟨#[]⟩]) w := by kernel_rfl
 have hone : n - (n - 1) = 1 := by omega
 rw [hone]
 have hzc : (Builtin.zeroCells #[Value.string ⟨#[]⟩, Value.string ⟨#[]⟩] 1).toList = [Value.string ⟨#[]⟩, Value.string ⟨#[]⟩] := by kernel_rfl
 simp only [Builtin.clear_]
 simp [run_underlying Tryd.underlying24, hz, Value.cells, hzc, hst]
 rfl
set_option maxHeartbeats 8000000 in
set_option maxRecDepth 100000 in
theorem deleteF (w0 : World) (base g c i : Nat) (xs : List S46) (W : World) (HO : Kd.R k46 46 W base (fun _ => True) (.slice (some ⟨g, 0, none⟩) xs.length c) xs) (hi : i < xs.length) (hn : xs.length < 4398046511104) (HB : Below base w0 W) (hbase : base ≤ W.heap.size) :
  Calls Tryd.prog 38 #[.slice (some ⟨g, 0, none⟩) xs.length c, .int .i64 i, .int .i64 ((i : Int) + 1)] W fun e w' => ∃ v0_ : Value, e = .returned v0_ ∧ Kd.R k46 46 w' base (fun _ => True) v0_ (xs.eraseIdx i) ∧ Below base w0 w' := by
 obtain ⟨_, hc, _⟩ := Kd.R_reads' HO
 have HOA := am HO
 have HBA := am HB
 clear HO HB
 have h0 : (0 : Int) ≤ (i : Int) := by omega
 have h1 : (i : Int) ≤ (i : Int) + 1 := by omega
 have h2 : (i : Int) + 1 ≤ (xs.length : Int) := by omega
 have h3 : (xs.length : Int) ≤ (c : Int) := by omega
 have hne : ((i : Int) == (i : Int) + 1) = false := by simp; omega
 go_enter Tryd.func38, Tryd.ntmps38
 go_wp2
 have h4 : (0 : Int) ≤ (i : Int) + 1 := by omega
 have HNE := am hn
 clear hn
 by_cases hci : c = i + 1
 ·subst hci
  go_region_law ((refine Kd.R_delete_step k46 (w0 := w0) base ?hw (.tmp 22) (.tmp 25) 24 46 rfl Tryd.underlying24 (by kernel_rfl) (g := g) (n := xs.length) (c := i + 1) (k := i) rfl rfl ?hA ?hm (Kd.R_drew HOA.out) hi (below_drew HBA.out) hbase ?_); (case hw => rfl); (case hA => simp); (case hm => omega); intro w1 ho hb hg; have HO1 := am ho; have HB1 := am hb; have HG1 := am hg; clear ho hb hg)
  have q1 := R_cells HO1.out ((xs.length - 1) * 2) (by show _ < (i + 1) * 2; omega)
  have q2 := R_cells HO1.out ((xs.length - 1) * 2 + 1) (by show _ < (i + 1) * 2; omega)
  have kcl := clear_one g xs.length ((i + 1) - (xs.length - 1)) (by omega) w1 ⟨q1.1, q1.2.1⟩ ⟨q2.1, q2.2.1⟩
  have HQ := am q1.2.2
  clear q1 q2
  have k1 : (0 : Int) ≤ ((xs.length - 1 : Nat) : Int) := by omega
  have k2 : ((xs.length - 1 : Nat) : Int) ≤ (xs.length : Int) := by omega
  go_wp2
  go_ret
  exact ⟨_, rfl, R_beyond (R_beyond HO1.out (by show (xs.length - 1) * 2 ≤ _; omega) _) (by show (xs.length - 1) * 2 ≤ _; omega) _, (HB1.out.setCell (p := ⟨g, (xs.length - 1) * 2, none⟩) HQ.out _).setCell (p := ⟨g, (xs.length - 1) * 2 + 1, none⟩) HQ.out _⟩
 ·have hcf : (c == i + 1) = false := by simpa using hci
  have HC := am hci
  have hic : i ≤ c := by omega
  go_region_law ((refine Kd.R_delete_step k46 (w0 := w0) base ?hw (.tmp 22) (.tmp 25) 24 46 rfl Tryd.underlying24 (by kernel_rfl) (g := g) (n := xs.length) (c := c) (k := i) rfl rfl ?hA ?hm (Kd.R_drew HOA.out) hi (below_drew HBA.out) hbase ?_); (case hw => rfl); (case hA => rw [if_neg HC.out, Option.map_some, add_plain]; rfl); (case hm => first | rfl | omega); intro w1 ho hb hg; have HO1 := am ho; have HB1 := am hb; have HG1 := am hg; clear ho hb hg)
  have q1 := R_cells HO1.out ((xs.length - 1) * 2) (by show _ < c * 2; omega)
  have q2 := R_cells HO1.out ((xs.length - 1) * 2 + 1) (by show _ < c * 2; omega)
  have kcl := clear_one g xs.length (c - (xs.length - 1)) (by omega) w1 ⟨q1.1, q1.2.1⟩ ⟨q2.1, q2.2.1⟩
  have HQ := am q1.2.2
  clear q1 q2
  have k1 : (0 : Int) ≤ ((xs.length - 1 : Nat) : Int) := by omega
  have k2 : ((xs.length - 1 : Nat) : Int) ≤ (xs.length : Int) := by omega
  go_wp2
  go_ret
  exact ⟨_, rfl, R_beyond (R_beyond HO1.out (by show (xs.length - 1) * 2 ≤ _; omega) _) (by show (xs.length - 1) * 2 ≤ _; omega) _, (HB1.out.setCell (p := ⟨g, (xs.length - 1) * 2, none⟩) HQ.out _).setCell (p := ⟨g, (xs.length - 1) * 2 + 1, none⟩) HQ.out _⟩

/-! ### impl.Drop -/
def impl_Drop.f (l0 : List S46) (a1 : ByteArray) : Option (List S46) := if l0.length < 4398046511104 then some (if at_ a1 l0 0 < 0 then l0 else l0.eraseIdx (at_ a1 l0 0).toNat) else none
theorem at_bounds (n : ByteArray) : ∀ (l : List S46) (i : Nat), at_ n l i = -1 ∨ ((i : Int) ≤ at_ n l i ∧ at_ n l i < (i : Int) + l.length)
 | [], i => .inl rfl
 | x :: r, i => by
  simp only [at_]
  split
  ·exact .inr ⟨Int.le_refl _, by simp; omega⟩
  ·rcases at_bounds n r (i + 1) with h | h
   ·exact .inl h
   ·exact .inr ⟨by omega, by simp; omega⟩
set_option maxHeartbeats 8000000 in
set_option maxRecDepth 100000 in
theorem impl_Drop.calls (A0 : Option Addr) (c0 : Nat) (l0 : List (S46)) (a1 : ByteArray) (r : List S46) (w : World) (hr0 : Kd.C k46 w A0 l0.length l0) (hc0 : l0.length ≤ c0) (h : impl_Drop.f l0 a1 = some r) :
  Calls Tryd.prog 24 #[.slice A0 l0.length c0, .string a1] w fun e w' => ∃ v0_ : Value, e = .returned v0_ ∧ Kd.R k46 46 w' w.heap.size (fun _ => True) v0_ r ∧ Below w.heap.size w w' := by
 unfold impl_Drop.f at h
 split at h
 case isFalse => cases h
 rename_i hl
 have HRR := am (Option.some.inj h).symm
 have HN := am hl
 have HR := am hr0
 have HC0 := am hc0
 have hcl : slices_Clone_Field.f l0 = some l0 := by unfold slices_Clone_Field.f; rw [if_pos hl]
 have hat : impl_fieldAt.f l0 a1 = some (at_ a1 l0 0) := by unfold impl_fieldAt.f; rw [if_pos hl]
 have HCL := am hcl
 have HAT := am hat
 have hb := at_bounds a1 l0 0
 clear h hl hr0 hc0 hcl hat
 obtain ⟨j, hj⟩ : ∃ j, j = at_ a1 l0 0 := ⟨_, rfl⟩
 rw [← hj] at hb
 have HJ := am hj
 rw [HJ.out.symm] at HAT
 clear hj
 by_cases hneg : j < 0
 ·have hd : decide (0 ≤ j) = false := by simpa using hneg
  have HNEG := am hneg
  clear hneg hb
  go_enter Tryd.func24, Tryd.ntmps24
  go_wp2_with (first | (go_at_call 37; refine (slices_Clone_Field.calls _ _ l0 l0 _ HR.out HC0.out HCL.out).mono ?_; rintro e w1 ⟨v1, rfl, ho, hb⟩; have HO1 := am ho; have HB1 := am hb; clear ho hb) | (go_at_call 29; refine (impl_fieldAt.calls _ _ l0 a1 _ _ (Kd.C_below HR.out HB1.out) HC0.out HAT.out).mono ?_; rintro e w2 ⟨rfl, hb⟩; have HB2 := am hb; clear hb))
  go_ret
  exact ⟨_, rfl, by rw [HRR.out, if_pos (by rw [← HJ.out]; exact HNEG.out)]; exact Kd.R_below HO1.out HB2.out, below_then HB1.out HB1.out.size HB2.out⟩
 ·obtain ⟨i, rfl⟩ : ∃ i : Nat, j = (i : Int) := ⟨j.toNat, by omega⟩
  have hi : i < l0.length := by omega
  have hd : decide ((0 : Int) ≤ (i : Int)) = true := by simp
  have hbi : (i : Int) ≤ 4398046511104 := by have := HN.out; omega
  have HI := am hi
  clear hneg hb hi
  go_enter Tryd.func24, Tryd.ntmps24
  go_wp2_with (first | (go_at_call 37; refine (slices_Clone_Field.calls _ _ l0 l0 _ HR.out HC0.out HCL.out).mono ?_; rintro e w1 ⟨v1, rfl, ho, hb⟩; obtain ⟨g1, cap1, rfl, hg1, _⟩ := Kd.R_form ho (Nat.lt_of_le_of_lt (Nat.zero_le _) HI.out); have HO1 := am ho; have HB1 := am hb; clear ho hb hg1) | (go_at_call 29; refine (impl_fieldAt.calls _ _ l0 a1 _ _ (Kd.C_below HR.out HB1.out) HC0.out HAT.out).mono ?_; rintro e w2 ⟨rfl, hb⟩; have HB2 := am hb; clear hb) | (go_at_call 38; refine (deleteF w w.heap.size g1 cap1 i l0 _ (Kd.R_below HO1.out HB2.out) HI.out HN.out (below_then HB1.out HB1.out.size HB2.out) (below_size (below_then HB1.out HB1.out.size HB2.out))).mono ?_; rintro e w3 ⟨v3, rfl, ho, hb⟩; have HO3 := am ho; have HB3 := am hb; clear ho hb))
  go_ret
  exact ⟨_, rfl, by rw [HRR.out, if_neg (by rw [← HJ.out]; omega), ← HJ.out, Int.toNat_natCast]; exact HO3.out, HB3.out⟩

end Go.Proofs.YtjlpjbkpmmpojaaDoor.All
