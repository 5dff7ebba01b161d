-- Written by a program of this session (wip/tools/hprint.py) out of the translation. Lean checks it.
import Derived.Test.YtnmanegjgidgcaaGreatDoorAllx0
import Derived.Test.YtnmanegjgidgcaaGreatDoorAllx2
import Derived.Test.YtnmanegjgidgcaaGreatDoorAllx3
import Derived.Test.YtnmanegjgidgcaaGreatDoorAllx5
namespace Go.Proofs.YtnmanegjgidgcaaGreatDoor.All
open Go.RowKit Go.Proofs.YtnmanegjgidgcaaGreatDoorW.PrintWords Go.Proofs.YtnmanegjgidgcaaGreatDoorW.PrintLast Go.Proofs.YtnmanegjgidgcaaGreatDoorW.PrintMore
attribute [local go_sem] max2_int min2_int max_two min_two max_three min_three max_four min_four   -- for this text's walks alone
set_option linter.unusedVariables false
set_option linter.unusedSimpArgs false

/-! ### spec_l3Methods: function 77 -/
def spec_l3Methods.f  : Option (List ByteArray) := some (([(⟨#[]⟩ : ByteArray), (⟨#[71, 69, 84]⟩ : ByteArray), (⟨#[72, 69, 65, 68]⟩ : ByteArray), (⟨#[80, 79, 83, 84]⟩ : ByteArray), (⟨#[80, 85, 82, 71, 69]⟩ : ByteArray)] : List ByteArray))
set_option maxHeartbeats 8000000 in
set_option maxRecDepth 100000 in
theorem spec_l3Methods.calls  (r : List ByteArray) (w : World) (h : spec_l3Methods.f  = some r) :
  Calls Tryz.prog 77 #[] w fun e w' => ∃ v0_ : Value, e = .returned (v0_) ∧ Kd.R Kd.string 9 w' w.heap.size (fun _ => True) v0_ r ∧ Below w.heap.size w w' := by
 have HB := am (Below.refl w.heap.size w)
 unfold spec_l3Methods.f at h
 have H := h
 clear h
 obtain ⟨y117, hy117⟩ : ∃ y_ : List ByteArray, y_ = (([(⟨#[]⟩ : ByteArray), (⟨#[71, 69, 84]⟩ : ByteArray), (⟨#[72, 69, 65, 68]⟩ : ByteArray), (⟨#[80, 79, 83, 84]⟩ : ByteArray), (⟨#[80, 85, 82, 71, 69]⟩ : ByteArray)] : List ByteArray)) := ⟨_, rfl⟩
 replace H : (some y117) = some r := by first | (rw [hy117]; with_reducible exact H) | (have H2_ := (Option.bind_some _ _).symm.trans H; rw [hy117]; with_reducible exact H2_) | (have H2_ := (Option.bind_some _ _).symm.trans H; with_reducible exact H2_) | with_reducible exact H | (rw [hy117]; exact H) | exact H
 have Ny117 := am hy117
 clear hy117
 obtain rfl := Option.some.inj H
 go_enter Tryz.func77, Tryz.ntmps77
 go_wp2_with (first | ((with_reducible refine gate_dst (N := 1) rfl ?_); refine Kd.R_lit Kd.string _ 9 ?hg (N := 1) ?hd (xs := ([(⟨#[]⟩ : ByteArray), (⟨#[71, 69, 84]⟩ : ByteArray), (⟨#[72, 69, 65, 68]⟩ : ByteArray), (⟨#[80, 79, 83, 84]⟩ : ByteArray), (⟨#[80, 85, 82, 71, 69]⟩ : ByteArray)] : List ByteArray)) (inner := [.string (⟨#[]⟩ : ByteArray), .string (⟨#[71, 69, 84]⟩ : ByteArray), .string (⟨#[72, 69, 65, 68]⟩ : ByteArray), .string (⟨#[80, 79, 83, 84]⟩ : ByteArray), .string (⟨#[80, 85, 82, 71, 69]⟩ : ByteArray)]) (ok := fun _ => True) (okp := fun _ => True) ?hr ?hp (fun _ hk => hk) trivial (Below.refl _ _) (Nat.le_refl _) (by simp) ?_; (case hd => rfl); (case hg => rfl); (case hr => first | (go_simp; done) | (go_simp; rfl)); (case hp => exact rp); intro v118 w1 ho2 hb hg_ hnew_; clear hg_ hnew_; (first | rw [← Ny117.out] at ho2 | (simp only [Int.reduceToNat] at ho2; rw [← Ny117.out] at ho2)); have HO119 := am (Kd.R_lower ho2 (below_size bl)); replace HB := am (below_step bl hb); clear hb ho2))
 go_ret
 exact ⟨_, rf, by (with_reducible repeat (first | apply Kd.R_alloc | apply Kd.R_drewN | apply Kd.R_drew)); exact HO119.out, bl⟩

/-! ### impl_ReqOk: function 22 -/
def impl_ReqOk.f (k : Nat) (a0_0 : Int) (a0_1 : ByteArray) (l0_2 : List (S100)) (a0_3 : ByteArray) : Option (Bool) := (impl_inRange.f a0_0 1 4).bind fun t292 => (if t292 = true then ((impl_pathOk.f k a0_1).bind fun t293 => (if t293 = true then (if (a0_3.size : Int) ≤ 120 then ((impl_FieldsOk.f k l0_2).bind fun t294 => (some t294)) else (some false)) else (some false))) else (some false))
theorem impl_ReqOk.mono : ∀ a0 a1 a2 a3 k, LeO (impl_ReqOk.f k a0 a1 a2 a3) (impl_ReqOk.f (k + 1) a0 a1 a2 a3) := by
 intro a0 a1 a2 a3 k
 unfold impl_ReqOk.f
 have m0 := @impl_FieldsOk.mono
 have m1 := @impl_pathOk.mono
 exact mo
set_option maxHeartbeats 8000000 in
set_option maxRecDepth 100000 in
theorem impl_ReqOk.calls (k : Nat) (a0_0 : Int) (a0_1 : ByteArray) (A0_2 : Option Addr) (c0_2 : Nat) (l0_2 : List (S100)) (a0_3 : ByteArray) (r : Bool) (w : World) (hr0_2 : Kd.C k100 w A0_2 l0_2.length l0_2) (hc0_2 : l0_2.length ≤ c0_2) (h : impl_ReqOk.f k a0_0 a0_1 l0_2 a0_3 = some r) :
  Calls Tryz.prog 22 #[.agg #[.int .i64 a0_0, .string a0_1, .slice A0_2 l0_2.length c0_2, .string a0_3]] w fun e w' => e = .returned (.bool r) ∧ Below w.heap.size w w' := by
 have hu40 := Tryz.underlying40
 have HR0_2 := am hr0_2
 have HC0_2 := am hc0_2
 clear hr0_2 hc0_2
 have HB := am (Below.refl w.heap.size w)
 unfold impl_ReqOk.f at h
 have H := h
 clear h
 revert H
 refine ok1 fun t292 A2 H => ?_
 by_cases c3 : t292 = true
 rotate_left
 ·replace c3 := Bool.eq_false_iff.mpr c3
  subst c3
  rw [if_neg (show ¬ (false = true) by decide)] at H
  obtain rfl := Option.some.inj H
  go_enter Tryz.func22, Tryz.ntmps22
  go_wp2_with (first | ((with_reducible refine gate_dst (N := 1) rfl ?_); (try (refine gate_guard (by rfl) ?_; dsimp only)); refine box_event ?hg (N := 1) ?hd (cs := #[.int .i64 a0_0, .string a0_1, .slice A0_2 l0_2.length c0_2, .string a0_3]) (t := 40) ?hr ?_; (case hd => rfl); (case hg => rfl); (case hr => first | (go_simp; done) | (go_simp; rfl)); intro gb291 hg w15 hbox hb; have BK291 := am (hbox); have GW291 := am (sz hg : w.heap.size ≤ gb291); have GE291 := am (sz hg : w.heap.size ≤ gb291); replace HB := am (below_step bl hb); clear hb hbox hg; obtain ⟨z16_0, y16_0, z16_1, y16_1, z16_2, y16_2, z16_3, y16_3⟩ := cl4 BK291) | (refine gl 5 Tryz.func80 #[.int .i64 a0_0, .int .i64 1, .int .i64 4] ?_; (with_reducible refine (impl_inRange.calls a0_0 1 4 false _ A2.out).mono ?_); rintro e w' ⟨rfl, ⟨nd, rfl⟩⟩; refine ⟨_, rfl, ?_⟩))
  go_ret
  exact ⟨rf, bl⟩
 subst c3
 rw [if_pos rfl] at H
 revert H
 refine ok1 fun t293 A4 H => ?_
 by_cases c5 : t293 = true
 rotate_left
 ·replace c5 := Bool.eq_false_iff.mpr c5
  subst c5
  rw [if_neg (show ¬ (false = true) by decide)] at H
  obtain rfl := Option.some.inj H
  go_enter Tryz.func22, Tryz.ntmps22
  go_wp2_with (first | ((with_reducible refine gate_dst (N := 1) rfl ?_); (try (refine gate_guard (by rfl) ?_; dsimp only)); refine box_event ?hg (N := 1) ?hd (cs := #[.int .i64 a0_0, .string a0_1, .slice A0_2 l0_2.length c0_2, .string a0_3]) (t := 40) ?hr ?_; (case hd => rfl); (case hg => rfl); (case hr => first | (go_simp; done) | (go_simp; rfl)); intro gb291 hg w13 hbox hb; have BK291 := am (hbox); have GW291 := am (sz hg : w.heap.size ≤ gb291); have GE291 := am (sz hg : w.heap.size ≤ gb291); replace HB := am (below_step bl hb); clear hb hbox hg; obtain ⟨z14_0, y14_0, z14_1, y14_1, z14_2, y14_2, z14_3, y14_3⟩ := cl4 BK291) | (refine gl 5 Tryz.func80 #[.int .i64 a0_0, .int .i64 1, .int .i64 4] ?_; (with_reducible refine (impl_inRange.calls a0_0 1 4 true _ A2.out).mono ?_); rintro e w' ⟨rfl, ⟨nd, rfl⟩⟩; refine ⟨_, rfl, ?_⟩) | (go_at_call 81; (with_reducible refine (impl_pathOk.calls k a0_1 false _ A4.out).mono ?_); rintro e w' ⟨rfl, ⟨nd, rfl⟩⟩))
  go_ret
  exact ⟨rf, bl⟩
 subst c5
 rw [if_pos rfl] at H
 by_cases c6 : (a0_3.size : Int) ≤ 120
 rotate_left
 ·rw [if_neg c6] at H
  have c6b0 := decide_eq_false c6
  have c6b1 : decide (a0_3.size ≤ 120) = false := decide_eq_false (by omega)
  clear c6
  obtain rfl := Option.some.inj H
  go_enter Tryz.func22, Tryz.ntmps22
  go_wp2_with (first | ((with_reducible refine gate_dst (N := 1) rfl ?_); (try (refine gate_guard (by rfl) ?_; dsimp only)); refine box_event ?hg (N := 1) ?hd (cs := #[.int .i64 a0_0, .string a0_1, .slice A0_2 l0_2.length c0_2, .string a0_3]) (t := 40) ?hr ?_; (case hd => rfl); (case hg => rfl); (case hr => first | (go_simp; done) | (go_simp; rfl)); intro gb291 hg w11 hbox hb; have BK291 := am (hbox); have GW291 := am (sz hg : w.heap.size ≤ gb291); have GE291 := am (sz hg : w.heap.size ≤ gb291); replace HB := am (below_step bl hb); clear hb hbox hg; obtain ⟨z12_0, y12_0, z12_1, y12_1, z12_2, y12_2, z12_3, y12_3⟩ := cl4 BK291) | (refine gl 5 Tryz.func80 #[.int .i64 a0_0, .int .i64 1, .int .i64 4] ?_; (with_reducible refine (impl_inRange.calls a0_0 1 4 true _ A2.out).mono ?_); rintro e w' ⟨rfl, ⟨nd, rfl⟩⟩; refine ⟨_, rfl, ?_⟩) | (go_at_call 81; (with_reducible refine (impl_pathOk.calls k a0_1 true _ A4.out).mono ?_); rintro e w' ⟨rfl, ⟨nd, rfl⟩⟩))
  go_ret
  exact ⟨rf, bl⟩
 rw [if_pos c6] at H
 have c6b0 := decide_eq_true c6
 have c6b1 : decide (a0_3.size ≤ 120) = true := decide_eq_true (by omega)
 clear c6
 revert H
 refine ok1 fun t294 A7 H => ?_
 obtain rfl := Option.some.inj H
 go_enter Tryz.func22, Tryz.ntmps22
 go_wp2_with (first | ((with_reducible refine gate_dst (N := 1) rfl ?_); (try (refine gate_guard (by rfl) ?_; dsimp only)); refine box_event ?hg (N := 1) ?hd (cs := #[.int .i64 a0_0, .string a0_1, .slice A0_2 l0_2.length c0_2, .string a0_3]) (t := 40) ?hr ?_; (case hd => rfl); (case hg => rfl); (case hr => first | (go_simp; done) | (go_simp; rfl)); intro gb291 hg w8 hbox hb; have BK291 := am (hbox); have GW291 := am (sz hg : w.heap.size ≤ gb291); have GE291 := am (sz hg : w.heap.size ≤ gb291); replace HB := am (below_step bl hb); clear hb hbox hg; obtain ⟨z9_0, y9_0, z9_1, y9_1, z9_2, y9_2, z9_3, y9_3⟩ := cl4 BK291) | (refine gl 5 Tryz.func80 #[.int .i64 a0_0, .int .i64 1, .int .i64 4] ?_; (with_reducible refine (impl_inRange.calls a0_0 1 4 true _ A2.out).mono ?_); rintro e w' ⟨rfl, ⟨nd, rfl⟩⟩; refine ⟨_, rfl, ?_⟩) | (go_at_call 81; (with_reducible refine (impl_pathOk.calls k a0_1 true _ A4.out).mono ?_); rintro e w' ⟨rfl, ⟨nd, rfl⟩⟩) | (go_at_call 82; (with_reducible refine (impl_FieldsOk.calls k _ _ l0_2 t294 _ ?side1 ?side2 A7.out).mono ?_); (case side1 => repeat (first | exact (Kd.C_below HR0_2.out bl) | (with_reducible refine Kd.C_alloc ?_ _) | (with_reducible refine Kd.C_drewN ?_ _) | (with_reducible refine Kd.C_drew ?_))); (case side2 => exact HC0_2.out); rintro e w10 ⟨rfl, hb⟩; replace BK291 := kb BK291 hb; replace HB := am (below_step bl hb); clear hb))
 go_ret
 exact ⟨rf, bl⟩

/-! ### an element of an array value -/
theorem run_index_plain {P : Program} (w : World) {t e : TypeId} {n : Nat} {cs : Array Value} {k : IntKind} {i : Int} {v : Value} {inf : TypeInfo} (h : P.underlying t = some (.array n e)) (he : P.plainKey e = true) (hinf : P.info? e = some inf) (hsz : P.cellsOf e = 1) (h0 : 0 ≤ i ∧ i < n) (hv : cs[i.toNat]? = some v) :
  (Instr.index t (.agg cs) (.int k i)).run P w = .ok v w := by
 simp [Instr.index, run_underlying h, asIntOf, h0, run_sizeOf w hinf, hsz, run_part_plain w he hv]

/-! ### a word out of an array -/
def impl_methodText.f (a0 : Int) : Option ByteArray := if a0 = 1 then some ⟨#[71, 69, 84]⟩ else if a0 = 2 then some ⟨#[72, 69, 65, 68]⟩ else if a0 = 3 then some ⟨#[80, 79, 83, 84]⟩ else if a0 = 4 then some ⟨#[80, 85, 82, 71, 69]⟩ else none
set_option maxHeartbeats 2000000 in
set_option maxRecDepth 100000 in
theorem impl_methodText.calls (a0 : Int) (r : ByteArray) (w : World) (h : impl_methodText.f a0 = some r) :
  Calls Tryz.prog 72 #[.int .i64 a0] w fun e w' => e = .returned (.string r) ∧ Below w.heap.size w w' := by
 unfold impl_methodText.f at h
 have HB := am (Below.refl w.heap.size w)
 obtain ⟨inf, hinf, _⟩ := Option.map_eq_some_iff.1 (show (Tryz.prog.info? 9).map (fun i => i.size) = some 1 by kernel_rfl)
 split at h
 ·rename_i e; obtain rfl := Option.some.inj h; subst e; clear h
  go_enter Tryz.func72, Tryz.ntmps72
  go_wp2
  rw [run_index_plain w Tryz.underlying130 (by kernel_rfl) hinf (by kernel_rfl) (by decide) rfl]
  simp only [Result.andThen]
  rw [Oper.upon_value]
  go_wp2
  go_ret
  exact ⟨rfl, bl⟩
 split at h
 ·rename_i e; obtain rfl := Option.some.inj h; subst e; clear h
  go_enter Tryz.func72, Tryz.ntmps72
  go_wp2
  rw [run_index_plain w Tryz.underlying130 (by kernel_rfl) hinf (by kernel_rfl) (by decide) rfl]
  simp only [Result.andThen]
  rw [Oper.upon_value]
  go_wp2
  go_ret
  exact ⟨rfl, bl⟩
 split at h
 ·rename_i e; obtain rfl := Option.some.inj h; subst e; clear h
  go_enter Tryz.func72, Tryz.ntmps72
  go_wp2
  rw [run_index_plain w Tryz.underlying130 (by kernel_rfl) hinf (by kernel_rfl) (by decide) rfl]
  simp only [Result.andThen]
  rw [Oper.upon_value]
  go_wp2
  go_ret
  exact ⟨rfl, bl⟩
 split at h
 ·rename_i e; obtain rfl := Option.some.inj h; subst e; clear h
  go_enter Tryz.func72, Tryz.ntmps72
  go_wp2
  rw [run_index_plain w Tryz.underlying130 (by kernel_rfl) hinf (by kernel_rfl) (by decide) rfl]
  simp only [Result.andThen]
  rw [Oper.upon_value]
  go_wp2
  go_ret
  exact ⟨rfl, bl⟩
 ·cases h

/-! ### impl_ReqText: function 19 -/
def impl_ReqText.f (k : Nat) (a0_0 : Int) (a0_1 : ByteArray) (l0_2 : List (S100)) (a0_3 : ByteArray) : Option (ByteArray) := (impl_ReqOk.f k a0_0 a0_1 l0_2 a0_3).bind fun t297 => (if t297 = true then ((impl_methodText.f a0_0).bind fun t298 => (if t298.size + 1 ≤ 9223372036854775807 then (if (t298 ++ (⟨#[32]⟩ : ByteArray)).size + a0_1.size ≤ 9223372036854775807 then (if ((t298 ++ (⟨#[32]⟩ : ByteArray)) ++ a0_1).size + 1 ≤ 9223372036854775807 then (if (((t298 ++ (⟨#[32]⟩ : ByteArray)) ++ a0_1) ++ (⟨#[32]⟩ : ByteArray)).size + 8 ≤ 9223372036854775807 then (if ((((t298 ++ (⟨#[32]⟩ : ByteArray)) ++ a0_1) ++ (⟨#[32]⟩ : ByteArray)) ++ (⟨#[72, 84, 84, 80, 47, 49, 46, 49]⟩ : ByteArray)).size + 2 ≤ 9223372036854775807 then ((impl_FieldsText.f l0_2).bind fun t299 => (if (((((t298 ++ (⟨#[32]⟩ : ByteArray)) ++ a0_1) ++ (⟨#[32]⟩ : ByteArray)) ++ (⟨#[72, 84, 84, 80, 47, 49, 46, 49]⟩ : ByteArray)) ++ (⟨#[13, 10]⟩ : ByteArray)).size + t299.size ≤ 9223372036854775807 then (if a0_3.toList = ([] : List UInt8) then (if ((((((t298 ++ (⟨#[32]⟩ : ByteArray)) ++ a0_1) ++ (⟨#[32]⟩ : ByteArray)) ++ (⟨#[72, 84, 84, 80, 47, 49, 46, 49]⟩ : ByteArray)) ++ (⟨#[13, 10]⟩ : ByteArray)) ++ t299).size + 2 ≤ 9223372036854775807 then (if (((((((t298 ++ (⟨#[32]⟩ : ByteArray)) ++ a0_1) ++ (⟨#[32]⟩ : ByteArray)) ++ (⟨#[72, 84, 84, 80, 47, 49, 46, 49]⟩ : ByteArray)) ++ (⟨#[13, 10]⟩ : ByteArray)) ++ t299) ++ (⟨#[13, 10]⟩ : ByteArray)).size + a0_3.size ≤ 9223372036854775807 then (some ((((((((t298 ++ (⟨#[32]⟩ : ByteArray)) ++ a0_1) ++ (⟨#[32]⟩ : ByteArray)) ++ (⟨#[72, 84, 84, 80, 47, 49, 46, 49]⟩ : ByteArray)) ++ (⟨#[13, 10]⟩ : ByteArray)) ++ t299) ++ (⟨#[13, 10]⟩ : ByteArray)) ++ a0_3)) else (none)) else (none)) else ((impl_lengthLine.f a0_3).bind fun t300 => (if ((((((t298 ++ (⟨#[32]⟩ : ByteArray)) ++ a0_1) ++ (⟨#[32]⟩ : ByteArray)) ++ (⟨#[72, 84, 84, 80, 47, 49, 46, 49]⟩ : ByteArray)) ++ (⟨#[13, 10]⟩ : ByteArray)) ++ t299).size + t300.size ≤ 9223372036854775807 then (if (((((((t298 ++ (⟨#[32]⟩ : ByteArray)) ++ a0_1) ++ (⟨#[32]⟩ : ByteArray)) ++ (⟨#[72, 84, 84, 80, 47, 49, 46, 49]⟩ : ByteArray)) ++ (⟨#[13, 10]⟩ : ByteArray)) ++ t299) ++ t300).size + 2 ≤ 9223372036854775807 then (if ((((((((t298 ++ (⟨#[32]⟩ : ByteArray)) ++ a0_1) ++ (⟨#[32]⟩ : ByteArray)) ++ (⟨#[72, 84, 84, 80, 47, 49, 46, 49]⟩ : ByteArray)) ++ (⟨#[13, 10]⟩ : ByteArray)) ++ t299) ++ t300) ++ (⟨#[13, 10]⟩ : ByteArray)).size + a0_3.size ≤ 9223372036854775807 then (some (((((((((t298 ++ (⟨#[32]⟩ : ByteArray)) ++ a0_1) ++ (⟨#[32]⟩ : ByteArray)) ++ (⟨#[72, 84, 84, 80, 47, 49, 46, 49]⟩ : ByteArray)) ++ (⟨#[13, 10]⟩ : ByteArray)) ++ t299) ++ t300) ++ (⟨#[13, 10]⟩ : ByteArray)) ++ a0_3)) else (none)) else (none)) else (none)))) else (none))) else (none)) else (none)) else (none)) else (none)) else (none))) else (some (⟨#[]⟩ : ByteArray)))
theorem impl_ReqText.mono : ∀ a0 a1 a2 a3 k, LeO (impl_ReqText.f k a0 a1 a2 a3) (impl_ReqText.f (k + 1) a0 a1 a2 a3) := by
 intro a0 a1 a2 a3 k
 unfold impl_ReqText.f
 have m0 := @impl_ReqOk.mono
 exact mo
def impl_ReqText.T3 : Bool × List (List Nat × List Nat) := (true, [([], []), ([0], [0]), ([1], [1]), ([2], [2]), ([], []), ([4], [4]), ([3, 5], [3, 5]), ([6], [6]), ([7], [7]), ([8], [8]), ([], []), ([10], [10]), ([11, 2], [11]), ([9, 12], [9, 12]), ([13, 12, 0, 1, 2, 3, 4, 5, 6, 7, 8, 9, 10, 11, 12, 13], [13])])
def impl_ReqText.B3 : List Nat := [0, 1, 3, 7, 0, 16, 63, 127, 255, 511, 0, 1024, 3079, 8191, 16383]
theorem impl_ReqText.tab3 : rtab .any (opsOf Tryz.f19 3) = impl_ReqText.T3 := by kernel_rfl
theorem impl_ReqText.bits3 : waitsOk impl_ReqText.T3.2 impl_ReqText.B3 = true := by kernel_rfl
set_option maxHeartbeats 8000000 in
set_option maxRecDepth 100000 in
theorem impl_ReqText.calls (k : Nat) (a0_0 : Int) (a0_1 : ByteArray) (A0_2 : Option Addr) (c0_2 : Nat) (l0_2 : List (S100)) (a0_3 : ByteArray) (r : ByteArray) (w : World) (hGT : GLOBT w) (hr0_2 : Kd.C k100 w A0_2 l0_2.length l0_2) (hc0_2 : l0_2.length ≤ c0_2) (h : impl_ReqText.f k a0_0 a0_1 l0_2 a0_3 = some r) :
  Calls Tryz.prog 19 #[.agg #[.int .i64 a0_0, .string a0_1, .slice A0_2 l0_2.length c0_2, .string a0_3]] w fun e w' => e = .returned (.string r) ∧ Below w.heap.size w w' := by
 have hu40 := Tryz.underlying40
 have HR0_2 := am hr0_2
 have HC0_2 := am hc0_2
 clear hr0_2 hc0_2
 have HGT := am hGT
 clear hGT
 have HB := am (Below.refl w.heap.size w)
 unfold impl_ReqText.f at h
 have H := h
 clear h
 revert H
 refine ok1 fun t297 A2 H => ?_
 by_cases c3 : t297 = true
 rotate_left
 ·replace c3 := Bool.eq_false_iff.mpr c3
  subst c3
  rw [if_neg (show ¬ (false = true) by decide)] at H
  obtain rfl := Option.some.inj H
  go_enter Tryz.func19, Tryz.ntmps19
  go_wp2_with (first | (refine bx 1 #[.int .i64 a0_0, .string a0_1, .slice A0_2 l0_2.length c0_2, .string a0_3] 40 ?_; intro gb296 hg w35 hbox hb; have BK296 := am (hbox); have GW296 := am (sz hg : w.heap.size ≤ gb296); have GE296 := am (sz hg : w.heap.size ≤ gb296); replace HB := am (below_step bl hb); clear hb hbox hg; obtain ⟨z36_0, y36_0, z36_1, y36_1, z36_2, y36_2, z36_3, y36_3⟩ := cl4 BK296) | (refine gl 5 Tryz.func22 #[.agg #[.int .i64 a0_0, .string a0_1, .slice A0_2 l0_2.length c0_2, .string a0_3]] ?_; (with_reducible refine (impl_ReqOk.calls k a0_0 a0_1 _ _ l0_2 a0_3 false _ ?side1 ?side2 A2.out).mono ?_); (case side1 => exact cb HR0_2); (case side2 => exact HC0_2.out); rintro e w37 ⟨rfl, hb⟩; refine ⟨_, rfl, ?_⟩; replace BK296 := kb BK296 hb; replace HB := am (below_step bl hb); clear hb))
  go_ret
  exact ⟨rf, bl⟩
 subst c3
 rw [if_pos rfl] at H
 revert H
 refine ok1 fun t298 A4 H => ?_
 revert H
 refine ifn fun c5 H => ?_
 have c5b0 := eq_true c5
 have c5b1 := decide_eq_true c5
 try have c5b2 := eq_false (Nat.not_lt.2 c5)
 revert H
 refine ifn fun c6 H => ?_
 have c6b0 := eq_true c6
 have c6b1 := decide_eq_true c6
 try have c6b2 := eq_false (Nat.not_lt.2 c6)
 have c6b3 : (9223372036854775807 < (t298).size + 1 + (a0_1).size) = False := b3 c6
 revert H
 refine ifn fun c7 H => ?_
 have c7b0 := eq_true c7
 have c7b1 := decide_eq_true c7
 try have c7b2 := eq_false (Nat.not_lt.2 c7)
 have c7b3 : (9223372036854775807 < (t298).size + 1 + (a0_1).size + 1) = False := b3 c7
 revert H
 refine ifn fun c8 H => ?_
 have c8b0 := eq_true c8
 have c8b1 := decide_eq_true c8
 try have c8b2 := eq_false (Nat.not_lt.2 c8)
 have c8b3 : (9223372036854775807 < (t298).size + 1 + (a0_1).size + 1 + 8) = False := b3 c8
 revert H
 refine ifn fun c9 H => ?_
 have c9b0 := eq_true c9
 have c9b1 := decide_eq_true c9
 try have c9b2 := eq_false (Nat.not_lt.2 c9)
 have c9b3 : (9223372036854775807 < (t298).size + 1 + (a0_1).size + 1 + 8 + 2) = False := b3 c9
 revert H
 refine ok1 fun t299 A10 H => ?_
 revert H
 refine ifn fun c11 H => ?_
 have c11b0 := eq_true c11
 have c11b1 := decide_eq_true c11
 try have c11b2 := eq_false (Nat.not_lt.2 c11)
 have c11b3 : (9223372036854775807 < (t298).size + 1 + (a0_1).size + 1 + 8 + 2 + (t299).size) = False := b3 c11
 by_cases c12 : a0_3.toList = ([] : List UInt8)
 ·rw [if_pos c12] at H
  have c12b0 : (a0_3.toList == ([] : List UInt8)) = true := beq_iff_eq.mpr c12
  have c12b1 : (a0_3.toList != ([] : List UInt8)) = false := bne_eq_false_iff_eq.mpr c12
  clear c12
  revert H
  refine ifn fun c13 H => ?_
  have c13b0 := eq_true c13
  have c13b1 := decide_eq_true c13
  try have c13b2 := eq_false (Nat.not_lt.2 c13)
  have c13b3 : (9223372036854775807 < (t298).size + 1 + (a0_1).size + 1 + 8 + 2 + (t299).size + 2) = False := b3 c13
  revert H
  refine ifn fun c14 H => ?_
  have c14b0 := eq_true c14
  have c14b1 := decide_eq_true c14
  try have c14b2 := eq_false (Nat.not_lt.2 c14)
  have c14b3 : (9223372036854775807 < (t298).size + 1 + (a0_1).size + 1 + 8 + 2 + (t299).size + 2 + (a0_3).size) = False := b3 c14
  obtain rfl := Option.some.inj H
  go_enter Tryz.func19, Tryz.ntmps19
  try go_wp2_with (first | (refine bx 1 #[.int .i64 a0_0, .string a0_1, .slice A0_2 l0_2.length c0_2, .string a0_3] 40 ?_; intro gb296 hg w15 hbox hb; have BK296 := am (hbox); have GW296 := am (sz hg : w.heap.size ≤ gb296); have GE296 := am (sz hg : w.heap.size ≤ gb296); replace HB := am (below_step bl hb); clear hb hbox hg; obtain ⟨z16_0, y16_0, z16_1, y16_1, z16_2, y16_2, z16_3, y16_3⟩ := cl4 BK296) | (refine gl 5 Tryz.func22 #[.agg #[.int .i64 a0_0, .string a0_1, .slice A0_2 l0_2.length c0_2, .string a0_3]] ?_; (with_reducible refine (impl_ReqOk.calls k a0_0 a0_1 _ _ l0_2 a0_3 true _ ?side1 ?side2 A2.out).mono ?_); (case side1 => exact cb HR0_2); (case side2 => exact HC0_2.out); rintro e w17 ⟨rfl, hb⟩; refine ⟨_, rfl, ?_⟩; replace BK296 := kb BK296 hb; replace HB := am (below_step bl hb); clear hb))
  replace BK296 := am (blk_drew BK296.out)
  replace HB := am (below_drew1 HB.out)
  refine start_ (n := 15) (S := fun w' => w'.cell? ⟨gb296, 0, none⟩ = some (.int .i64 a0_0) ∧ w'.cell? ⟨gb296, 1, none⟩ = some (.string a0_1) ∧ w'.cell? ⟨gb296, 2, none⟩ = some (.slice A0_2 l0_2.length c0_2) ∧ w'.cell? ⟨gb296, 3, none⟩ = some (.string a0_3)) (ds := []) ⟨br true [0, 15]⟩ (by kernel_rfl) rfl (by kernel_rfl) ⟨bc BK296, bc BK296, bc BK296, bc BK296⟩ (fun hHeld => ?_); refine with_tabW impl_ReqText.tab3 impl_ReqText.bits3 (fun HT_ HW_ => ?_)
  generalize w17.drew = w18 at BK296 HB hHeld ⊢
  refine pu 0 7 [1, 14] ?_
  refine pu 4 11 [1, 3, 1, 10] ?_
  refine pu 10 17 [1, 3, 1, 5, 1, 4] ?_
  refine tk 1 8 [2, 2, 1, 5, 1, 4] ?_
  refine tk 5 12 [2, 2, 2, 4, 1, 4] ?_
  refine tk 11 18 [2, 2, 2, 4, 2, 3] ?_
  refine og 2 9 [3, 1, 2, 4, 2, 3] Tryz.func72 #[.int .i64 a0_0] (fun K hK => ?_)
  with_reducible refine (impl_methodText.calls a0_0 t298 _ A4.out).mono ?_
  rintro e w19 ⟨rfl, hb⟩
  refine ⟨_, rfl, ?_⟩
  replace BK296 := kb BK296 hb
  replace HB := am (below_step bl hb)
  clear hb
  refine hK.out _ _ ⟨bc BK296, bc BK296, bc BK296, bc BK296⟩ (fun hHeld => ?_)
  clear hK K
  refine nm 9 ?_
  refine pu 3 10 [6, 4, 2, 3] ?_
  refine pu 6 13 [7, 3, 2, 3] ?_
  refine pu 7 14 [8, 2, 2, 3] ?_
  refine pu 8 15 [9, 1, 2, 3] ?_
  refine pu 9 16 [12, 3] ?_
  refine og 12 19 [13, 2] Tryz.func73 #[.slice A0_2 l0_2.length c0_2] (fun K hK => ?_)
  with_reducible refine (impl_FieldsText.calls _ _ l0_2 t299 _ ?side1 ?side2 A10.out).mono ?_
  (case side1 => exact cb HR0_2)
  (case side2 => exact HC0_2.out)
  rintro e w20 ⟨rfl, hb⟩
  refine ⟨_, rfl, ?_⟩
  replace BK296 := kb BK296 hb
  replace HB := am (below_step bl hb)
  clear hb
  refine hK.out _ _ ⟨bc BK296, bc BK296, bc BK296, bc BK296⟩ (fun hHeld => ?_)
  clear hK K
  refine nm 19 ?_
  refine pu 13 20 [14, 1] ?_
  refine pu 14 3 [15] ?_
  refine done_ (done_of HT_.out (by kernel_rfl)) ?_
  obtain ⟨z21_0, y21_0, z21_1, y21_1, z21_2, y21_2, z21_3, y21_3⟩ := cl4 BK296
  try go_wp2
  go_ret
  exact ⟨rf, bl⟩
 rw [if_neg c12] at H
 have c12b0 : (a0_3.toList == ([] : List UInt8)) = false := beq_eq_false_iff_ne.mpr c12
 have c12b1 : (a0_3.toList != ([] : List UInt8)) = true := bne_iff_ne.mpr c12
 revert H
 refine ok1 fun t300 A22 H => ?_
 revert H
 refine ifn fun c23 H => ?_
 have c23b0 := eq_true c23
 have c23b1 := decide_eq_true c23
 try have c23b2 := eq_false (Nat.not_lt.2 c23)
 have c23b3 : (9223372036854775807 < (t298).size + 1 + (a0_1).size + 1 + 8 + 2 + (t299).size + (t300).size) = False := b3 c23
 revert H
 refine ifn fun c24 H => ?_
 have c24b0 := eq_true c24
 have c24b1 := decide_eq_true c24
 try have c24b2 := eq_false (Nat.not_lt.2 c24)
 have c24b3 : (9223372036854775807 < (t298).size + 1 + (a0_1).size + 1 + 8 + 2 + (t299).size + (t300).size + 2) = False := b3 c24
 revert H
 refine ifn fun c25 H => ?_
 have c25b0 := eq_true c25
 have c25b1 := decide_eq_true c25
 try have c25b2 := eq_false (Nat.not_lt.2 c25)
 have c25b3 : (9223372036854775807 < (t298).size + 1 + (a0_1).size + 1 + 8 + 2 + (t299).size + (t300).size + 2 + (a0_3).size) = False := b3 c25
 obtain rfl := Option.some.inj H
 go_enter Tryz.func19, Tryz.ntmps19
 try go_wp2_with (first | (refine bx 1 #[.int .i64 a0_0, .string a0_1, .slice A0_2 l0_2.length c0_2, .string a0_3] 40 ?_; intro gb296 hg w26 hbox hb; have BK296 := am (hbox); have GW296 := am (sz hg : w.heap.size ≤ gb296); have GE296 := am (sz hg : w.heap.size ≤ gb296); replace HB := am (below_step bl hb); clear hb hbox hg; obtain ⟨z27_0, y27_0, z27_1, y27_1, z27_2, y27_2, z27_3, y27_3⟩ := cl4 BK296) | (refine gl 5 Tryz.func22 #[.agg #[.int .i64 a0_0, .string a0_1, .slice A0_2 l0_2.length c0_2, .string a0_3]] ?_; (with_reducible refine (impl_ReqOk.calls k a0_0 a0_1 _ _ l0_2 a0_3 true _ ?side1 ?side2 A2.out).mono ?_); (case side1 => exact cb HR0_2); (case side2 => exact HC0_2.out); rintro e w28 ⟨rfl, hb⟩; refine ⟨_, rfl, ?_⟩; replace BK296 := kb BK296 hb; replace HB := am (below_step bl hb); clear hb))
 replace BK296 := am (blk_drew BK296.out)
 replace HB := am (below_drew1 HB.out)
 refine start_ (n := 15) (S := fun w' => w'.cell? ⟨gb296, 0, none⟩ = some (.int .i64 a0_0) ∧ w'.cell? ⟨gb296, 1, none⟩ = some (.string a0_1) ∧ w'.cell? ⟨gb296, 2, none⟩ = some (.slice A0_2 l0_2.length c0_2) ∧ w'.cell? ⟨gb296, 3, none⟩ = some (.string a0_3)) (ds := []) ⟨br true [0, 15]⟩ (by kernel_rfl) rfl (by kernel_rfl) ⟨bc BK296, bc BK296, bc BK296, bc BK296⟩ (fun hHeld => ?_); refine with_tabW impl_ReqText.tab3 impl_ReqText.bits3 (fun HT_ HW_ => ?_)
 generalize w28.drew = w29 at BK296 HB hHeld ⊢
 refine pu 0 7 [1, 14] ?_
 refine pu 4 11 [1, 3, 1, 10] ?_
 refine pu 10 17 [1, 3, 1, 5, 1, 4] ?_
 refine tk 1 8 [2, 2, 1, 5, 1, 4] ?_
 refine tk 5 12 [2, 2, 2, 4, 1, 4] ?_
 refine tk 11 18 [2, 2, 2, 4, 2, 3] ?_
 refine og 2 9 [3, 1, 2, 4, 2, 3] Tryz.func72 #[.int .i64 a0_0] (fun K hK => ?_)
 with_reducible refine (impl_methodText.calls a0_0 t298 _ A4.out).mono ?_
 rintro e w30 ⟨rfl, hb⟩
 refine ⟨_, rfl, ?_⟩
 replace BK296 := kb BK296 hb
 replace HB := am (below_step bl hb)
 clear hb
 refine hK.out _ _ ⟨bc BK296, bc BK296, bc BK296, bc BK296⟩ (fun hHeld => ?_)
 clear hK K
 refine nm 9 ?_
 refine pu 3 10 [6, 4, 2, 3] ?_
 refine pu 6 13 [7, 3, 2, 3] ?_
 refine pu 7 14 [8, 2, 2, 3] ?_
 refine pu 8 15 [9, 1, 2, 3] ?_
 refine pu 9 16 [12, 3] ?_
 refine og 12 19 [13, 2] Tryz.func73 #[.slice A0_2 l0_2.length c0_2] (fun K hK => ?_)
 with_reducible refine (impl_FieldsText.calls _ _ l0_2 t299 _ ?side1 ?side2 A10.out).mono ?_
 (case side1 => exact cb HR0_2)
 (case side2 => exact HC0_2.out)
 rintro e w31 ⟨rfl, hb⟩
 refine ⟨_, rfl, ?_⟩
 replace BK296 := kb BK296 hb
 replace HB := am (below_step bl hb)
 clear hb
 refine hK.out _ _ ⟨bc BK296, bc BK296, bc BK296, bc BK296⟩ (fun hHeld => ?_)
 clear hK K
 refine nm 19 ?_
 refine pu 13 20 [14, 1] ?_
 refine pu 14 3 [15] ?_
 refine done_ (done_of HT_.out (by kernel_rfl)) ?_
 obtain ⟨z32_0, y32_0, z32_1, y32_1, z32_2, y32_2, z32_3, y32_3⟩ := cl4 BK296
 try go_wp2_with (first | (refine gl 27 Tryz.func74 #[.string a0_3] ?_; (with_reducible refine (impl_lengthLine.calls a0_3 t300 _ ?side1 A22.out).mono ?_); (case side1 => exact GLOBT.below HGT.out bl); rintro e w33 ⟨rfl, hb⟩; refine ⟨_, rfl, ?_⟩; replace BK296 := kb BK296 hb; replace HB := am (below_step bl hb); clear hb; obtain ⟨z34_0, y34_0, z34_1, y34_1, z34_2, y34_2, z34_3, y34_3⟩ := cl4 BK296))
 go_ret
 exact ⟨rf, bl⟩

/-! ### impl_ReqRead: function 23 -/
theorem u23HB {p : Prop} (h : p := by repeat (first | (with_reducible first | exact HB.out | apply below_alloc | apply pw_below_drewN | apply below_drew1 | refine below_set ?_ GE323.out | refine below_set ?_ GE334.out) | exact HB.out)) : p := h
mutual
def impl_ReqRead.j0 : Nat → ByteArray → List (S100) → ByteArray → List ByteArray → Bool → Option (Int × ByteArray × (List (S100)) × ByteArray × Bool)
 | 0, _, _, _, _, _ => none
 | k + 1, x0, x5, x6, x8, x26 => if x26 = true then (some (0, (⟨#[]⟩ : ByteArray), ([] : List (S100)), (⟨#[]⟩ : ByteArray), false)) else (if 1 < (x8.length : Int) then (impl_ReqRead.l0 k x0 x8 1 0 (rdOf ByteArray.empty x8 1) x5 x6) else (none))
def impl_ReqRead.l0 : Nat → ByteArray → List ByteArray → Int → Int → ByteArray → List (S100) → ByteArray → Option (Int × ByteArray × (List (S100)) × ByteArray × Bool)
 | 0, _, _, _, _, _, _, _ => none
 | k + 1, x0, x8, x10, x335000, x335001, x335002, x335003 => if x10 ≤ 4 then ((impl_methodText.f x10).bind fun t335 => (if 0 < (x8.length : Int) then (if t335.toList = (rdOf ByteArray.empty x8 0).toList then (impl_ReqRead.l0 k x0 x8 (wrap64 (x10 + 1)) x10 x335001 x335002 x335003) else (impl_ReqRead.l0 k x0 x8 (wrap64 (x10 + 1)) x335000 x335001 x335002 x335003)) else (none))) else (if x0.toList = ([] : List UInt8) then (some (0, (⟨#[]⟩ : ByteArray), ([] : List (S100)), (⟨#[]⟩ : ByteArray), false)) else ((impl_ReqText.f k x335000 x335001 x335002 x335003).bind fun t337 => (if t337.toList = x0.toList then (some (x335000, x335001, x335002, x335003, true)) else (some (0, (⟨#[]⟩ : ByteArray), ([] : List (S100)), (⟨#[]⟩ : ByteArray), false)))))
end
def impl_ReqRead.f (k : Nat) (a0 : ByteArray) : Option (Int × ByteArray × (List (S100)) × ByteArray × Bool) := (impl_parts.f k a0).bind fun bt324 => ((strings_Split.f bt324.1 (⟨#[32]⟩ : ByteArray)).bind fun t330 => (if bt324.2.2.2 = true then (impl_ReqRead.j0 k a0 bt324.2.1 bt324.2.2.1 t330 ((t330.length : Int) != 3)) else (impl_ReqRead.j0 k a0 bt324.2.1 bt324.2.2.1 t330 true)))
theorem impl_ReqRead.mono_l : ∀ k, (∀ y0 y1 y2 y3 y4, LeO (impl_ReqRead.j0 k y0 y1 y2 y3 y4) (impl_ReqRead.j0 (k + 1) y0 y1 y2 y3 y4)) ∧ (∀ y0 y1 y2 y3 y4 y5 y6, LeO (impl_ReqRead.l0 k y0 y1 y2 y3 y4 y5 y6) (impl_ReqRead.l0 (k + 1) y0 y1 y2 y3 y4 y5 y6))
 | 0 => ⟨fun _ _ _ _ _ r h => by simp [impl_ReqRead.j0] at h, fun _ _ _ _ _ _ _ r h => by simp [impl_ReqRead.l0] at h⟩
 | k + 1 => by
  obtain ⟨ih0, ih1⟩ := impl_ReqRead.mono_l k
  refine ⟨?_, ?_⟩
  ·intro y0 y1 y2 y3 y4
   unfold impl_ReqRead.j0
   have m0 := @impl_ReqText.mono
   have m1 := @impl_parts.mono
   exact mo
  ·intro y0 y1 y2 y3 y4 y5 y6
   unfold impl_ReqRead.l0
   have m0 := @impl_ReqText.mono
   have m1 := @impl_parts.mono
   exact mo
theorem impl_ReqRead.mono : ∀ a0 k, LeO (impl_ReqRead.f k a0) (impl_ReqRead.f (k + 1) a0) := by
 intro a0 k
 obtain ⟨ih0, ih1⟩ := impl_ReqRead.mono_l k
 unfold impl_ReqRead.f
 have m0 := @impl_ReqText.mono
 have m1 := @impl_parts.mono
 exact mo
set_option maxHeartbeats 8000000 in
set_option maxRecDepth 100000 in
theorem impl_ReqRead.calls (k : Nat) (a0 : ByteArray) (r1 : Int) (r2 : ByteArray) (r3 : List (S100)) (r4 : ByteArray) (r5 : Bool) (w : World) (hGM : GLOBM w) (hGT : GLOBT w) (h : impl_ReqRead.f k a0 = some (r1, r2, r3, r4, r5)) :
  Calls Tryz.prog 23 #[.string a0] w fun e w' => ∃ v2_ : Value, e = .returned (.tuple #[.agg #[.int .i64 r1, .string r2, v2_, .string r4], .bool r5]) ∧ Kd.R k100 100 w' w.heap.size (fun _ => True) v2_ r3 ∧ Below w.heap.size w w' := by
 have hu40 := Tryz.underlying40
 have HGM := am hGM
 clear hGM
 have HGT := am hGT
 clear hGT
 have HB := am (Below.refl w.heap.size w)
 unfold impl_ReqRead.f at h
 have H := h
 clear h
 revert H
 refine ok4 fun t324 t325 t326 t327 A2 H => ?_
 (try dsimp only at H)
 revert H
 refine ok1 fun t330 A3 H => ?_
 have HC4 := am H
 clear H
 go_enter Tryz.func23, Tryz.ntmps23
 go_upto_region 3 with (first | ((with_reducible refine gate_dst (N := 2) rfl ?_); (try (refine gate_guard (by rfl) ?_; dsimp only)); refine box_event ?hg (N := 2) ?hd (cs := #[.int .i64 0, .string (⟨#[]⟩ : ByteArray), .slice none 0 0, .string (⟨#[]⟩ : ByteArray)]) (t := 40) ?hr ?_; (case hd => rfl); (case hg => rfl); (case hr => first | (go_simp; done) | (go_simp; rfl)); intro gb323 hg w5 hbox hb; have BK323 := am (hbox); have GW323 := am (sz hg : w.heap.size ≤ gb323); have GE323 := am (sz hg : w.heap.size ≤ gb323); replace HB := am (below_step bl hb); clear hb hbox hg) | (refine gl 13 Tryz.func83 #[.string a0] ?_; (with_reducible refine (impl_parts.calls k a0 t324 t325 t326 t327 _ ?side1 A2.out).mono ?_); (case side1 => exact GLOBM.below HGM.out bl); rintro e w6 ⟨v328, rfl, ho0, hb⟩; refine ⟨_, rfl, ?_⟩; have HO329 := am (Kd.R_lower ho0 (below_size bl)); replace BK323 := kb BK323 hb; replace HB := am (below_step bl hb); clear hb ho0) | (refine gl 19 Tryz.func84 #[.string t324, .string (⟨#[32]⟩ : ByteArray)] ?_; (with_reducible refine (strings_Split.calls t324 (⟨#[32]⟩ : ByteArray) t330 _ ?side1 A3.out).mono ?_); (case side1 => exact GLOBM.below HGM.out bl); rintro e w7 ⟨v331, rfl, ho0, hb⟩; refine ⟨_, rfl, ?_⟩; replace HO329 := kr HO329 hb; have HO332 := am (Kd.R_lower ho0 (below_size bl)); replace BK323 := kb BK323 hb; replace HB := am (below_step bl hb); clear hb ho0))
 (try simp only [Act.put, List.setIfInBounds_toArray, List.set_cons_zero, List.set_cons_succ])
 go_cut [26] (fun v26 wc => ∃ (kq : Nat) (x26_3 : Bool), v26 = .bool x26_3 ∧ Aside0 (impl_ReqRead.j0 kq a0 t325 t326 t330 x26_3 = some (r1, r2, r3, r4, r5)) ∧ Aside0 (kq ≤ k) ∧ Aside0 (Kd.R k100 100 wc w.heap.size (fun _ => True) v328 t325) ∧ Aside0 (Kd.R Kd.string 9 wc w.heap.size (fun _ => True) v331 t330) ∧ Aside0 (wc.heap[gb323]? = some (.cells #[.int .i64 0, .string (⟨#[]⟩ : ByteArray), (.slice none 0 0), .string (⟨#[]⟩ : ByteArray)] 40 (0, 0))) ∧ Aside0 (Below w.heap.size w wc))
 case first =>
  have H := HC4.out
  clear HC4
  by_cases c8 : t327 = true
  rotate_left
  ·replace c8 := Bool.eq_false_iff.mpr c8
   subst c8
   rw [if_neg (show ¬ (false = true) by decide)] at H
   have H' := am H
   clear H
   go_wp2
   go_meet
   case rel => exact ⟨_, (true), rs, H', ⟨by first | omega | exact Nat.le_refl _⟩, ⟨by (with_reducible repeat (first | apply Kd.R_alloc | apply Kd.R_drewN | apply Kd.R_drew)); exact HO329.out⟩, ⟨by (with_reducible repeat (first | apply Kd.R_alloc | apply Kd.R_drewN | apply Kd.R_drew)); exact HO332.out⟩, ⟨by (with_reducible repeat (first | refine blk_drewN ?_ _ | refine blk_drew ?_ | refine blk_alloc ?_ _)); exact BK323.out⟩, ⟨u23HB⟩⟩
  subst c8
  rw [if_pos rfl] at H
  have H' := am H
  clear H
  obtain ⟨Ao9, co9, eo9⟩ := Kd.R_slice HO332.out
  subst eo9
  go_wp2
  go_meet
  case rel => exact ⟨_, (((t330.length : Int) != 3)), rs, H', ⟨by first | omega | exact Nat.le_refl _⟩, ⟨by (with_reducible repeat (first | apply Kd.R_alloc | apply Kd.R_drewN | apply Kd.R_drew)); exact HO329.out⟩, ⟨by (with_reducible repeat (first | apply Kd.R_alloc | apply Kd.R_drewN | apply Kd.R_drew)); exact HO332.out⟩, ⟨by (with_reducible repeat (first | refine blk_drewN ?_ _ | refine blk_drew ?_ | refine blk_alloc ?_ _)); exact BK323.out⟩, ⟨u23HB⟩⟩
 case rest =>
  clear HC4
  try clear c2
  try clear p2
  try clear c8
  obtain ⟨kq, x26_3, rfl, HA, HJ3, HO_5, HO_8, BK323, HB⟩ := hcut
  cases kq with
  | zero => exact absurd HA.out (by simp [impl_ReqRead.j0])
  | succ kj3 =>
   have H := HA.out
   clear HA
   simp only [impl_ReqRead.j0] at H
   by_cases c10 : x26_3 = true
   ·subst c10
    rw [if_pos rfl] at H
    simp only [Option.some.injEq, Prod.mk.injEq] at H
    obtain ⟨rfl, rfl, rfl, rfl, rfl⟩ := H
    obtain ⟨z11_0, y11_0, z11_1, y11_1, z11_2, y11_2, z11_3, y11_3⟩ := cl4 BK323
    go_wp2
    refine bodyPost_ret (results_ct rfl _ _ gb323 40 #[.int .i64 0, .string (⟨#[]⟩ : ByteArray), .slice none 0 0, .string (⟨#[]⟩ : ByteArray)] (0, 0) _ rfl (pt0 BK323) Tryz.underlying40 rfl (by kernel_rfl)) rfl ?_
    exact ⟨_, rf, by first | exact Kd.R_nil _ _ _ _ _ | exact Kd.N_nil _ _ _ _ _ | exact Kd.V_nil _ _ _ _ _ | exact Kd.Q_nil _ _ _ _ _ | exact Kd.S_nil _ _ _ _ _, bl⟩
   replace c10 := Bool.eq_false_iff.mpr c10
   subst c10
   rw [if_neg (show ¬ (false = true) by decide)] at H
   revert H
   refine ifn fun c12 H => ?_
   have c12b0 := decide_eq_true c12
   have c12b1 : decide (1 < t330.length) = true := decide_eq_true (by omega)
   clear c12
   have H' := am H
   clear H
   obtain ⟨Ao13, co13, eo13⟩ := Kd.R_slice HO_8.out
   subst eo13
   have p333 : 0 ≤ (1 : Int) := (by omega)
   have q333 : 1 < (t330.length : Int) := od
   obtain ⟨ad333, e333, hx333_0⟩ := Kd.at_string (Kd.R_reads' HO_8.out).2.2 1 p333 q333
   cases e333
   (try simp only [show (1 : Int).toNat = 1 from rfl, Nat.reduceMul, Nat.reduceEqDiff, Go.Addr.add, ↓reduceIte] at hx333_0)
   have qi333 : (1 < t330.length) = True := eq_true (by omega)
   (try rw [show ((1 : Int)).toNat = 1 from rfl] at hx333_0)
   replace p333 := eq_true p333
   replace q333 := eq_true q333
   obtain ⟨Ao14, co14, eo14⟩ := Kd.R_slice HO_5.out
   subst eo14
   go_wp2_with (first | ((with_reducible refine gate_dst (N := 9) rfl ?_); (try (refine gate_guard (by rfl) ?_; dsimp only)); refine box_event ?hg (N := 9) ?hd (cs := #[.int .i64 0, .string (⟨#[]⟩ : ByteArray), .slice none 0 0, .string (⟨#[]⟩ : ByteArray)]) (t := 40) ?hr ?_; (case hd => rfl); (case hg => rfl); (case hr => first | (go_simp; done) | (go_simp; rfl)); intro gb334 hg w15 hbox hb; replace HO_5 := am (Kd.R_below (ro HO_5) hb); replace HO_8 := am (Kd.R_below (ro HO_8) hb); have BK334 := am (hbox); have GW334 := am (sz hg : w.heap.size ≤ gb334); have GE334 := am (sz hg : w.heap.size ≤ gb334); replace HB := am (below_step bl hb); have NB323_334 := am (nl hg BK323 : gb323 ≠ gb334); have NB334_323 := am (ng hg BK323 : gb334 ≠ gb323); replace BK323 := kb BK323 hb; clear hb hbox hg; have hnb16 := NB334_323.out; have hnc16 := NB323_334.out; obtain ⟨z17_0, y17_0, z17_1, y17_1, z17_2, y17_2, z17_3, y17_3⟩ := cl4 BK334))
   (try simp only [Act.put, List.setIfInBounds_toArray, List.set_cons_zero, List.set_cons_succ])
   go_loopg [10] kj3 (fun kq v10 w' => ∃ (x10_2 : Int) (x335000_2 : Int), v10 = .int .i64 x10_2 ∧ Aside0 (impl_ReqRead.l0 kq a0 t330 x10_2 x335000_2 (rdOf ByteArray.empty t330 1) t325 t326 = some (r1, r2, r3, r4, r5)) ∧ Aside0 (kq ≤ kj3) ∧ Aside0 (Kd.R Kd.string 9 w' w.heap.size (fun _ => True) (.slice (some ad333) t330.length co13) t330) ∧ Aside0 (Kd.R k100 100 w' w.heap.size (fun _ => True) (.slice Ao14 t325.length co14) t325) ∧ Aside0 (w'.heap[gb323]? = some (.cells #[.int .i64 0, .string (⟨#[]⟩ : ByteArray), (.slice none 0 0), .string (⟨#[]⟩ : ByteArray)] 40 (0, 0))) ∧ Aside0 (w'.heap[gb334]? = some (.cells #[.int .i64 x335000_2, .string (rdOf ByteArray.empty t330 1), (.slice Ao14 t325.length co14), .string t326] 40 (0, 0))) ∧ Aside0 (Below w.heap.size w w'))
   case atStart => exact ⟨(1), (0), rs, H', ⟨Nat.le_refl _⟩, ⟨rg (Kd.R_types HO_8.out BK334.out (by decide))⟩, ⟨rg (Kd.R_types HO_5.out BK334.out (by decide))⟩, ⟨by (with_reducible repeat (first | refine blk_drewN ?_ _ | refine blk_drew ?_ | refine blk_alloc ?_ _)); refine blk_far ?_ NB323_334.out _; (with_reducible repeat (first | refine blk_drewN ?_ _ | refine blk_drew ?_ | refine blk_alloc ?_ _)); refine blk_far ?_ NB323_334.out _; (with_reducible repeat (first | refine blk_drewN ?_ _ | refine blk_drew ?_ | refine blk_alloc ?_ _)); refine blk_far ?_ NB323_334.out _; (with_reducible repeat (first | refine blk_drewN ?_ _ | refine blk_drew ?_ | refine blk_alloc ?_ _)); refine blk_far ?_ NB323_334.out _; (with_reducible repeat (first | refine blk_drewN ?_ _ | refine blk_drew ?_ | refine blk_alloc ?_ _)); exact BK323.out⟩, ⟨pt0 BK334⟩, ⟨u23HB⟩⟩
   case round =>
    clear H'
    try clear c1
    try clear c2
    try clear p2
    try clear p3
    try clear q3
    try clear hx3
    try clear qi3
    try clear c8
    try clear c10
    try clear c12
    try clear c12b0
    try clear c12b1
    try clear c16
    try clear z11_0
    try clear z11_1
    try clear z11_2
    try clear z11_3
    try clear z17_0
    try clear z17_1
    try clear z17_2
    try clear z17_3
    try clear y11_0
    try clear y11_1
    try clear y11_2
    try clear y11_3
    try clear y17_0
    try clear y17_1
    try clear y17_2
    try clear y17_3
    try clear hx333_0
    try clear p2
    try clear p333
    try clear q333
    obtain ⟨x10_2, x335000_2, rfl, HA, HK2, HO_8, HO_335002, BK323, BK334, HB⟩ := hrel
    cases gk with
    | zero => exact absurd HA.out (by simp [impl_ReqRead.l0])
    | succ k2 =>
     have H := HA.out
     clear HA
     simp only [impl_ReqRead.l0] at H
     by_cases c18 : x10_2 ≤ 4
     rotate_left
     ·rw [if_neg c18] at H
      have c18b0 := decide_eq_false c18
      clear c18
      by_cases c28 : a0.toList = ([] : List UInt8)
      ·rw [if_pos c28] at H
       have c28b0 : (a0.toList == ([] : List UInt8)) = true := beq_iff_eq.mpr c28
       have c28b1 : (a0.toList != ([] : List UInt8)) = false := bne_eq_false_iff_eq.mpr c28
       clear c28
       simp only [Option.some.injEq, Prod.mk.injEq] at H
       obtain ⟨rfl, rfl, rfl, rfl, rfl⟩ := H
       have hnb29 := NB323_334.out
       have hnc29 := NB334_323.out
       obtain ⟨z30_0, y30_0, z30_1, y30_1, z30_2, y30_2, z30_3, y30_3⟩ := cl4 BK323
       go_wp2
       refine bodyPost_ret (results_ct rfl _ _ gb323 40 #[.int .i64 0, .string (⟨#[]⟩ : ByteArray), .slice none 0 0, .string (⟨#[]⟩ : ByteArray)] (0, 0) _ rfl (pt0 BK323) Tryz.underlying40 rfl (by kernel_rfl)) rfl ?_
       exact ⟨_, rf, by first | exact Kd.R_nil _ _ _ _ _ | exact Kd.N_nil _ _ _ _ _ | exact Kd.V_nil _ _ _ _ _ | exact Kd.Q_nil _ _ _ _ _ | exact Kd.S_nil _ _ _ _ _, bl⟩
      rw [if_neg c28] at H
      have c28b0 : (a0.toList == ([] : List UInt8)) = false := beq_eq_false_iff_ne.mpr c28
      have c28b1 : (a0.toList != ([] : List UInt8)) = true := bne_iff_ne.mpr c28
      revert H
      refine ok1 fun t337 A31 H => ?_
      by_cases c32 : t337.toList = a0.toList
      rotate_left
      ·rw [if_neg c32] at H
       have c32b0 : (t337.toList == a0.toList) = false := beq_eq_false_iff_ne.mpr c32
       have c32b1 : (t337.toList != a0.toList) = true := bne_iff_ne.mpr c32
       simp only [Option.some.injEq, Prod.mk.injEq] at H
       obtain ⟨rfl, rfl, rfl, rfl, rfl⟩ := H
       have hnb38 := NB334_323.out
       have hnc38 := NB323_334.out
       obtain ⟨z39_0, y39_0, z39_1, y39_1, z39_2, y39_2, z39_3, y39_3⟩ := cl4 BK334
       go_wp2_with (first | (go_at_call 19; (with_reducible refine (impl_ReqText.calls k2 x335000_2 (rdOf ByteArray.empty t330 1) _ _ t325 t326 t337 _ ?side1 ?side2 ?side3 A31.out).mono ?_); (case side1 => exact GLOBT.below HGT.out bl); (case side2 => exact rc HO_335002); (case side3 => exact (Kd.R_reads' HO_335002.out).2.1); rintro e w40 ⟨rfl, hb⟩; replace HO_8 := kr HO_8 hb; replace HO_335002 := kr HO_335002 hb; replace BK323 := kb BK323 hb; replace BK334 := kb BK334 hb; replace HB := am (below_step bl hb); clear hb; obtain ⟨z41_0, y41_0, z41_1, y41_1, z41_2, y41_2, z41_3, y41_3⟩ := cl4 BK323))
       refine bodyPost_ret (results_ct rfl _ _ gb323 40 #[.int .i64 0, .string (⟨#[]⟩ : ByteArray), .slice none 0 0, .string (⟨#[]⟩ : ByteArray)] (0, 0) _ rfl (pt0 BK323) Tryz.underlying40 rfl (by kernel_rfl)) rfl ?_
       exact ⟨_, rf, by first | exact Kd.R_nil _ _ _ _ _ | exact Kd.N_nil _ _ _ _ _ | exact Kd.V_nil _ _ _ _ _ | exact Kd.Q_nil _ _ _ _ _ | exact Kd.S_nil _ _ _ _ _, bl⟩
      rw [if_pos c32] at H
      have c32b0 : (t337.toList == a0.toList) = true := beq_iff_eq.mpr c32
      have c32b1 : (t337.toList != a0.toList) = false := bne_eq_false_iff_eq.mpr c32
      clear c32
      simp only [Option.some.injEq, Prod.mk.injEq] at H
      obtain ⟨rfl, rfl, rfl, rfl, rfl⟩ := H
      have hnb33 := NB334_323.out
      have hnc33 := NB323_334.out
      obtain ⟨z34_0, y34_0, z34_1, y34_1, z34_2, y34_2, z34_3, y34_3⟩ := cl4 BK334
      go_wp2_with (first | (go_at_call 19; (with_reducible refine (impl_ReqText.calls k2 x335000_2 (rdOf ByteArray.empty t330 1) _ _ t325 t326 t337 _ ?side1 ?side2 ?side3 A31.out).mono ?_); (case side1 => exact GLOBT.below HGT.out bl); (case side2 => exact rc HO_335002); (case side3 => exact (Kd.R_reads' HO_335002.out).2.1); rintro e w35 ⟨rfl, hb⟩; replace HO_8 := kr HO_8 hb; replace HO_335002 := kr HO_335002 hb; replace BK323 := kb BK323 hb; replace BK334 := kb BK334 hb; replace HB := am (below_step bl hb); clear hb; obtain ⟨z36_0, y36_0, z36_1, y36_1, z36_2, y36_2, z36_3, y36_3⟩ := cl4 BK334; obtain ⟨z37_0, y37_0, z37_1, y37_1, z37_2, y37_2, z37_3, y37_3⟩ := cl4 BK323))
      refine bodyPost_ret (results_ct rfl _ _ gb323 40 #[.int .i64 x335000_2, .string (rdOf ByteArray.empty t330 1), .slice Ao14 t325.length co14, .string t326] (0, 0) _ rfl (pt0 BK323) Tryz.underlying40 rfl (by kernel_rfl)) rfl ?_
      exact ⟨_, rf, rg (Kd.R_types HO_335002.out BK323.out (by decide)), bl⟩
     rw [if_pos c18] at H
     have c18b0 := decide_eq_true c18
     clear c18
     revert H
     refine ok1 fun t335 A19 H => ?_
     revert H
     refine ifn fun c20 H => ?_
     have c20b0 := decide_eq_true c20
     have c20b1 : decide (0 < t330.length) = true := decide_eq_true (by omega)
     clear c20
     by_cases c21 : t335.toList = (rdOf ByteArray.empty t330 0).toList
     rotate_left
     ·rw [if_neg c21] at H
      have c21b0 : (t335.toList == (rdOf ByteArray.empty t330 0).toList) = false := beq_eq_false_iff_ne.mpr c21
      have c21b1 : (t335.toList != (rdOf ByteArray.empty t330 0).toList) = true := bne_iff_ne.mpr c21
      have H' := am H
      clear H
      try go_wp2
      replace HO_8 := am (Kd.R_drew HO_8.out)
      replace HO_335002 := am (Kd.R_drew HO_335002.out)
      replace BK323 := am (blk_drew BK323.out)
      replace BK334 := am (blk_drew BK334.out)
      replace HB := am (below_drew1 HB.out)
      have p336 : 0 ≤ (0 : Int) := (by omega)
      have q336 : 0 < (t330.length : Int) := od
      obtain ⟨ad336, e336, hx336_0⟩ := Kd.at_string (Kd.R_reads' HO_8.out).2.2 0 p336 q336
      obtain rfl : ad333 = ad336 := (by injection e336)
      have qi336 : (0 < t330.length) = True := eq_true (by omega)
      (try rw [show ((0 : Int)).toNat = 0 from rfl] at hx336_0)
      (try rw [Addr.add_zero'] at hx336_0)
      replace p336 := eq_true p336
      replace q336 := eq_true q336
      refine start_ (n := 6) (S := fun w' => w'.cell? ad333 = some (.string (rdOf ByteArray.empty t330 0))) (ds := []) ⟨br true [0, 6]⟩ (by kernel_rfl) rfl (by kernel_rfl) (hx336_0) (fun hHeld => ?_)
      generalize wr.drew = w26 at HO_8 HO_335002 BK323 BK334 HB hx336_0 hHeld ⊢
      refine pu 0 38 [1, 5] ?_
      refine pu 2 40 [1, 1, 1, 3] ?_
      refine pu 3 41 [1, 1, 2, 2] ?_
      refine take_ (i := 4) (N := some 42) (v := ?_) (a' := ?_) #[true, false, true, true, true, false] rfl rfl (by kernel_rfl) (fun _ _ _ h => h) (Or.inl ⟨by rfl, ?_⟩) hHeld ?_ ?_
      rotate_left
      ·intro w' s0
       go_simp
       with_reducible rfl
      rotate_left
      ·simp only [Act.put, List.setIfInBounds_toArray, List.set_cons_zero, List.set_cons_succ, i64_w, i32_w]
       rfl
      refine og 1 39 [5, 1] Tryz.func72 #[.int .i64 x10_2] (fun K hK => ?_)
      with_reducible refine (impl_methodText.calls x10_2 t335 _ A19.out).mono ?_
      rintro e w27 ⟨rfl, hb⟩
      have HS0_ := (hb.cell (World.block_lt_of_cell? _ _ (hHeld))).trans (hHeld)
      refine ⟨_, rfl, ?_⟩
      replace HO_8 := kr HO_8 hb
      replace HO_335002 := kr HO_335002 hb
      replace BK323 := kb BK323 hb
      replace BK334 := kb BK334 hb
      replace HB := am (below_step bl hb)
      clear hb
      refine hK.out _ _ (HS0_) (fun hHeld => ?_)
      clear hK K
      refine nm 39 ?_
      refine pu 5 43 [6] ?_
      refine done_ (by kernel_rfl) ?_
      try go_wp2
      go_roundg k2
      case measure => have := HJ3.out; have := HK2.out; omega
      case rel => exact ⟨(wrap64 (x10_2 + 1)), (x335000_2), rs, H', ⟨by have := HJ3.out; have := HK2.out; omega⟩, ⟨by (with_reducible repeat (first | apply Kd.R_alloc | apply Kd.R_drewN | apply Kd.R_drew)); exact HO_8.out⟩, ⟨by (with_reducible repeat (first | apply Kd.R_alloc | apply Kd.R_drewN | apply Kd.R_drew)); exact HO_335002.out⟩, ⟨by (with_reducible repeat (first | refine blk_drewN ?_ _ | refine blk_drew ?_ | refine blk_alloc ?_ _)); exact BK323.out⟩, ⟨by (with_reducible repeat (first | refine blk_drewN ?_ _ | refine blk_drew ?_ | refine blk_alloc ?_ _)); exact BK334.out⟩, ⟨u23HB⟩⟩
     rw [if_pos c21] at H
     have c21b0 : (t335.toList == (rdOf ByteArray.empty t330 0).toList) = true := beq_iff_eq.mpr c21
     have c21b1 : (t335.toList != (rdOf ByteArray.empty t330 0).toList) = false := bne_eq_false_iff_eq.mpr c21
     clear c21
     have H' := am H
     clear H
     try go_wp2
     replace HO_8 := am (Kd.R_drew HO_8.out)
     replace HO_335002 := am (Kd.R_drew HO_335002.out)
     replace BK323 := am (blk_drew BK323.out)
     replace BK334 := am (blk_drew BK334.out)
     replace HB := am (below_drew1 HB.out)
     have p336 : 0 ≤ (0 : Int) := (by omega)
     have q336 : 0 < (t330.length : Int) := od
     obtain ⟨ad336, e336, hx336_0⟩ := Kd.at_string (Kd.R_reads' HO_8.out).2.2 0 p336 q336
     obtain rfl : ad333 = ad336 := (by injection e336)
     have qi336 : (0 < t330.length) = True := eq_true (by omega)
     (try rw [show ((0 : Int)).toNat = 0 from rfl] at hx336_0)
     (try rw [Addr.add_zero'] at hx336_0)
     replace p336 := eq_true p336
     replace q336 := eq_true q336
     refine start_ (n := 6) (S := fun w' => w'.cell? ad333 = some (.string (rdOf ByteArray.empty t330 0))) (ds := []) ⟨br true [0, 6]⟩ (by kernel_rfl) rfl (by kernel_rfl) (hx336_0) (fun hHeld => ?_)
     generalize wr.drew = w22 at HO_8 HO_335002 BK323 BK334 HB hx336_0 hHeld ⊢
     refine pu 0 38 [1, 5] ?_
     refine pu 2 40 [1, 1, 1, 3] ?_
     refine pu 3 41 [1, 1, 2, 2] ?_
     refine take_ (i := 4) (N := some 42) (v := ?_) (a' := ?_) #[true, false, true, true, true, false] rfl rfl (by kernel_rfl) (fun _ _ _ h => h) (Or.inl ⟨by rfl, ?_⟩) hHeld ?_ ?_
     rotate_left
     ·intro w' s0
      go_simp
      with_reducible rfl
     rotate_left
     ·simp only [Act.put, List.setIfInBounds_toArray, List.set_cons_zero, List.set_cons_succ, i64_w, i32_w]
      rfl
     refine og 1 39 [5, 1] Tryz.func72 #[.int .i64 x10_2] (fun K hK => ?_)
     with_reducible refine (impl_methodText.calls x10_2 t335 _ A19.out).mono ?_
     rintro e w23 ⟨rfl, hb⟩
     have HS0_ := (hb.cell (World.block_lt_of_cell? _ _ (hHeld))).trans (hHeld)
     refine ⟨_, rfl, ?_⟩
     replace HO_8 := kr HO_8 hb
     replace HO_335002 := kr HO_335002 hb
     replace BK323 := kb BK323 hb
     replace BK334 := kb BK334 hb
     replace HB := am (below_step bl hb)
     clear hb
     refine hK.out _ _ (HS0_) (fun hHeld => ?_)
     clear hK K
     refine nm 39 ?_
     refine pu 5 43 [6] ?_
     refine done_ (by kernel_rfl) ?_
     have hnb24 := NB334_323.out
     have hnc24 := NB323_334.out
     obtain ⟨z25_0, y25_0, z25_1, y25_1, z25_2, y25_2, z25_3, y25_3⟩ := cl4 BK334
     try go_wp2
     go_roundg k2
     case measure => have := HJ3.out; have := HK2.out; omega
     case rel => exact ⟨(wrap64 (x10_2 + 1)), (x10_2), rs, H', ⟨by have := HJ3.out; have := HK2.out; omega⟩, ⟨rg (Kd.R_types HO_8.out BK334.out (by decide))⟩, ⟨rg (Kd.R_types HO_335002.out BK334.out (by decide))⟩, ⟨by (with_reducible repeat (first | refine blk_drewN ?_ _ | refine blk_drew ?_ | refine blk_alloc ?_ _)); refine blk_far ?_ NB323_334.out _; (with_reducible repeat (first | refine blk_drewN ?_ _ | refine blk_drew ?_ | refine blk_alloc ?_ _)); exact BK323.out⟩, ⟨pt0 BK334⟩, ⟨u23HB⟩⟩

-- NOT PRINTED: function 195 (bytealg_IndexByteString)

-- NOT PRINTED: function 168 (stringslite_IndexByte)

-- NOT PRINTED: function 169 (bytealg_IndexString)

-- NOT PRINTED: function 170 (bytealg_Cutover)

-- NOT PRINTED: function 196 (bytealg_hashStr_string)

-- NOT PRINTED: function 171 (bytealg_IndexRabinKarp_string)

-- NOT PRINTED: function 151 (stringslite_Index)

-- NOT PRINTED: function 119 (strings_Index)

end Go.Proofs.YtnmanegjgidgcaaGreatDoor.All
