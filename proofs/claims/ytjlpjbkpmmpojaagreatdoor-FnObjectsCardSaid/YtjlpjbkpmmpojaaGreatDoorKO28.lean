import Derived.Test.YtjlpjbkpmmpojaaGreatDoorKO14
import Derived.Test.YtjlpjbkpmmpojaaGreatDoorKO27
namespace Go.Proofs.YtjlpjbkpmmpojaaGreatDoor.All
open Go.RowKit Go.Proofs.YtjlpjbkpmmpojaaGreatDoorW.PrintWords Go.Proofs.YtjlpjbkpmmpojaaGreatDoorW.PrintLast Go.Proofs.YtjlpjbkpmmpojaaGreatDoorW.PrintMore
set_option maxHeartbeats 8000000
set_option maxRecDepth 100000
attribute [local go_sem] min2_int min_two
set_option linter.unusedVariables false
set_option linter.unusedSimpArgs false
set_option maxHeartbeats 1000000 in
theorem bldCheck_used (b : Nat) (w : World) (h0 : w.cell? ⟨b, 0, none⟩ = some (.pointer (some ⟨b, 0, none⟩))) :
  Calls Tryz.prog 171 #[.pointer (some ⟨b, 0, none⟩)] w fun e w' => e = .returned (.tuple #[]) ∧ w' = w := by
 obtain ⟨j, hj, _⟩ := Option.map_eq_some_iff.1 (show (Tryz.prog.info? 145).map (fun i => i.size) = some 2 by kernel_rfl)
 go_enter Tryz.func171, Tryz.ntmps171
 go_wp2
 rw [Lib.run_neq_ptr_same w _ Tryz.underlying143 hj]
 go_wp2
 go_end0
 exact ⟨rfl, rfl⟩
set_option maxHeartbeats 1000000 in
theorem bldCheck_fresh (b : Nat) (w : World) (h0 : w.cell? ⟨b, 0, none⟩ = some (.pointer none)) (hsh : w.shape? b = some (145, 2)) (hfz : w.frozen? ⟨b, 0, none⟩ = false) :
  Calls Tryz.prog 171 #[.pointer (some ⟨b, 0, none⟩)] w fun e w' => e = .returned (.tuple #[]) ∧ w' = w.setCell ⟨b, 0, none⟩ (.pointer (some ⟨b, 0, none⟩)) := by
 obtain ⟨j, hj, hjs⟩ := Option.map_eq_some_iff.1 (show (Tryz.prog.info? 145).map (fun i => i.size) = some 2 by kernel_rfl)
 go_enter Tryz.func171, Tryz.ntmps171
 go_wp2
 rw [Lib.run_to_unsafe w ⟨b, 0, none⟩ Tryz.underlying143 Tryz.underlying185 hj (by rw [hjs]; decide) hsh (Nat.zero_lt_succ 1)]
 simp only [Result.andThen]
 rw [Oper.upon_value]
 go_wp2
 rw [run_callFunc_extern Tryz.func189 (by kernel_rfl) (by kernel_rfl) (by kernel_rfl) (e := Extern.AbiNoEscape.same) (by kernel_rfl)]
 rw [Lib.run_noEscape]
 simp only [Result.andThen]
 rw [Oper.upon_value]
 go_wp2
 rw [Lib.run_from_unsafe w ⟨b, 0, none⟩ Tryz.underlying185 Tryz.underlying143 hj hsh (by kernel_rfl)]
 simp only [Result.andThen]
 rw [Oper.upon_value]
 go_wp2
 go_end0
 exact ⟨rfl, rfl⟩
theorem bldCheck (B b : Nat) (bs : List Value) (w : World) (h : Lib.IsBuilder 145 5 B b bs w) :
  Calls Tryz.prog 171 #[.pointer (some ⟨b, 0, none⟩)] w fun e w' => e = .returned (.tuple #[]) ∧ (Lib.BuilderAt 145 5 B b (.pointer (some ⟨b, 0, none⟩)) bs w' ∧ Below B w w') := by
 rcases h with h | h
 ·refine (bldCheck_fresh b w h.cell0 h.shape h.frozen0).mono ?_
  rintro e w' ⟨rfl, rfl⟩
  exact ⟨rfl, h.used _, (Below.refl B w).setCell (p := ⟨b, 0, none⟩) h.1 _⟩
 ·refine (bldCheck_used b w h.cell0).mono ?_
  rintro e w' ⟨rfl, rfl⟩
  exact ⟨rfl, h, Below.refl B _⟩
set_option maxHeartbeats 2000000 in
theorem bldWrite (B b : Nat) (bs : List Value) (s : ByteArray) (w : World) (h : Lib.IsBuilder 145 5 B b bs w) (hlen : bs.length + s.size ≤ 140737488355328) (hBw : B ≤ w.heap.size) :
  Calls Tryz.prog 142 #[.pointer (some ⟨b, 0, none⟩), .string s] w fun e w' => e = .returned (.tuple #[.int .i64 s.size, .nilIface]) ∧ (Lib.BuilderAt 145 5 B b (.pointer (some ⟨b, 0, none⟩)) (bs ++ Lib.strCells s) w' ∧ Below B w w') := by
 obtain ⟨i0, hi, hz0, hz1, hz2⟩ := info_parts (show (Tryz.prog.info? 5).map (fun i => (i.zero, i.size, i.bytes)) = some (some (.int .u8 0), 1, 1) by kernel_rfl)
 go_enter Tryz.func142, Tryz.ntmps142
 go_wp2_with (go_at_call 171; refine (bldCheck B b bs _ h).mono ?_)
 rintro e w1 ⟨rfl, h1, hb1⟩
 obtain ⟨hB, v, hbk, hown, hne⟩ := h1
 have c0 : w1.cell? ⟨b, 0, none⟩ = some (.pointer (some ⟨b, 0, none⟩)) := by rw [Lib.cell_of_heap hbk]; rfl
 have c1 : w1.cell? ⟨b, 1, none⟩ = some v := by rw [Lib.cell_of_heap hbk]; rfl
 go_wp2_with (at_builtin; refine Lib.wpList_append_own_string _ rfl _ _ 22 9 rfl B 5 i0 Tryz.underlying22 Tryz.underlying9 hi hz0 hz1 hz2 _ _ _ rfl hown s rfl ?c3 ?c4 ?c5 ?_)
 case c3 => unfold maxLen; omega
 case c4 => omega
 case c5 => have := hb1.size; omega
 intro v' w2 hown' hgrow _
 have hlt : b < w1.heap.size := by
  rcases Nat.lt_or_ge b w1.heap.size with h' | h'
  ·exact h'
  ·simp [Array.getElem?_eq_none h'] at hbk
 have hb2 : w2.heap[b]? = some (.cells #[.pointer (some ⟨b, 0, none⟩), v] 145 (0, 0)) := by
  rw [hgrow.block b hlt (fun e => hne e.symm)]
  exact hbk
 have d0 : w2.cell? ⟨b, 0, none⟩ = some (.pointer (some ⟨b, 0, none⟩)) := by rw [Lib.cell_of_heap hb2]; rfl
 have d1 : w2.cell? ⟨b, 1, none⟩ = some v := by rw [Lib.cell_of_heap hb2]; rfl
 have f1 : w2.frozen? ⟨b, 1, none⟩ = false := Lib.frozen_of_heap hb2 1
 obtain ⟨ao, n', cap, rfl⟩ : ∃ ao n' cap, v' = .slice ao n' cap := by
  rcases hown'.2 with ⟨hv, _⟩ | ⟨g, cap, cur, hv, _⟩
  ·exact ⟨_, _, _, hv⟩
  ·exact ⟨_, _, _, hv⟩
 go_wp2
 go_ret2
 refine ⟨rfl, ?_, ?_⟩
 ·exact Lib.BuilderAt.put (T := 145) (e := 5) hB hb2 (bs' := bs ++ Lib.strCells s) (by simpa [Lib.strCells_length] using hown') (by decide)
 ·exact (hb1.grown hgrow (by have := hb1.size; omega) (fun k hk => (hown.lt k hk).1)).setCell (p := ⟨b, 1, none⟩) hB _
theorem bldAt_below {T e : TypeId} {B b : Nat} {p : Value} {bs : List Value} {w w1 : World} (h : Lib.BuilderAt T e B b p bs w) (hb : Below w.heap.size w w1) : Lib.BuilderAt T e B b p bs w1 := by
 obtain ⟨h1, v, h2, h3, h4⟩ := h
 exact ⟨h1, v, blk_below h2 hb, pw_own_below h3 hb, h4⟩
theorem bld_below {T e : TypeId} {B b : Nat} {bs : List Value} {w w1 : World} (h : Lib.IsBuilder T e B b bs w) (hb : Below w.heap.size w w1) : Lib.IsBuilder T e B b bs w1 := by
 rcases h with h | h
 ·exact .inl (bldAt_below h hb)
 ·exact .inr (bldAt_below h hb)
def fieldLine (x : S116) : List UInt8 := x.f0.data.toList ++ [58, 32] ++ x.f1.data.toList ++ [13, 10]
def fieldLines : List S116 → List UInt8
 | [] => []
 | x :: r => fieldLine x ++ fieldLines r
theorem fieldLines_append : ∀ a b, fieldLines (a ++ b) = fieldLines a ++ fieldLines b
 | [], b => rfl
 | x :: r, b => by simp [fieldLines, fieldLines_append r b]
theorem fieldLines_take {l : List S116} {k : Nat} (h : k < l.length) : fieldLines (l.take (k + 1)) = fieldLines (l.take k) ++ fieldLine l[k] := by
 rw [List.take_succ_eq_append_getElem h, fieldLines_append]; simp [fieldLines]
theorem fieldLines_le {l : List S116} {k : Nat} (h : k < l.length) : (fieldLines (l.take k)).length + (fieldLine l[k]).length ≤ (fieldLines l).length := by
 have h1 : fieldLines l = fieldLines (l.take (k + 1)) ++ fieldLines (l.drop (k + 1)) := by rw [← fieldLines_append, List.take_append_drop]
 rw [h1, fieldLines_take h, List.length_append, List.length_append]; omega
def impl_FieldsText.f (l0 : List S116) : Option ByteArray := if l0.length < 4398046511104 ∧ (fieldLines l0).length ≤ 1099511627776 then some ⟨(fieldLines l0).toArray⟩ else none
set_option maxHeartbeats 4000000 in
theorem impl_FieldsText.calls (A0 : Option Addr) (c0 : Nat) (l0 : List (S116)) (r : ByteArray) (w : World) (hr0 : Kd.C k116 w A0 l0.length l0) (hc0 : l0.length ≤ c0) (h : impl_FieldsText.f l0 = some r) :
  Calls Tryz.prog 100 #[.slice A0 l0.length c0] w fun e w' => e = .returned (.string r) ∧ Below w.heap.size w w' := by
 unfold impl_FieldsText.f at h
 split at h
 case isFalse => cases h
 rename_i hl
 obtain rfl := Option.some.inj h
 have HN := am hl
 have HR := am hr0
 clear h hl hr0 hc0
 have HF := am (Lib.fresh_isBuilder 145 5 w)
 go_enter Tryz.func100, Tryz.ntmps100
 go_wp2
 go_loopw [8] (fun i wr => ∃ k : Nat, k ≤ l0.length ∧ i = .int .i64 k ∧ Aside0 (Lib.IsBuilder 145 5 w.heap.size w.heap.size (Lib.byteCells (fieldLines (l0.take k))) wr) ∧ Below w.heap.size w wr) (fun i _ => l0.length - (intOf i).toNat)
 case atStart => exact ⟨0, Nat.zero_le _, rfl, HF, (Below.refl _ _).alloc (Nat.le_refl _) _⟩
 case round =>
  obtain ⟨k, hk, rfl, hr, hb⟩ := hrel
  have hk2 : ((k : Nat) : Int) ≤ 4611686018427387904 := by have := HN.out.1; omega
  by_cases hlt : k < l0.length
  ·obtain ⟨ad, e1, hx0, hx1⟩ := at_T116 HR.out k (by omega) (by omega)
   have hx : rd_T116 l0 k = l0[k] := by simp [rd_T116, List.getD, hlt]
   rw [hx, Int.toNat_natCast] at hx0 hx1
   cases e1
   replace hx0 := pw_cell_below hb hx0
   replace hx1 := pw_cell_below hb hx1
   have hle := fieldLines_le hlt
   have hsz : (fieldLine l0[k]).length = l0[k].f0.size + 2 + l0[k].f1.size + 2 := by
    simp only [fieldLine, List.length_append, data_length]; rfl
   have ht := fieldLines_take hlt
   obtain ⟨f0, hf0⟩ : ∃ f, f = l0[k].f0 := ⟨_, rfl⟩
   obtain ⟨f1, hf1⟩ : ∃ f, f = l0[k].f1 := ⟨_, rfl⟩
   have hline : fieldLine l0[k] = (f0 ++ (⟨#[58, 32]⟩ : ByteArray) ++ f1 ++ (⟨#[13, 10]⟩ : ByteArray)).data.toList := by
    rw [hf0, hf1]; simp [fieldLine, ByteArray.data_append]
   rw [← hf0] at hx0
   rw [← hf1] at hx1
   rw [hline] at ht
   rw [hsz, ← hf0, ← hf1] at hle
   have HT := am ht
   have s1 : f0.size + 2 ≤ 9223372036854775807 := by have := HN.out.2; omega
   have s2 : f0.size + 2 + f1.size ≤ 9223372036854775807 := by have := HN.out.2; omega
   have s3 : f0.size + 2 + f1.size + 2 ≤ 9223372036854775807 := by have := HN.out.2; omega
   have HLE := am hle
   clear hx hle hsz ht hline hf0 hf1
   have HS : ((f0 ++ (⟨#[58, 32]⟩ : ByteArray) ++ f1 ++ (⟨#[13, 10]⟩ : ByteArray)).size) = f0.size + 2 + f1.size + 2 := by
    rw [ByteArray.size_append, ByteArray.size_append, ByteArray.size_append]; rfl
   have HS := am HS
   go_wp2_with (first | (go_at_call 142; refine (bldWrite w.heap.size w.heap.size _ _ _ (bld_below hr.out ((Below.refl _ _).alloc (Nat.le_refl _) _)) (by rw [HS.out, Lib.byteCells_length]; have := HLE.out; have := HN.out.2; omega) (by have := hb.size; simp; omega)).mono ?_; rintro e w2 ⟨rfl, h2, hb2⟩; rw [Lib.strCells_eq, ← Lib.byteCells_append, ← HT.out] at h2; have H2 := am h2; have HB2 := am hb2; clear h2 hb2))
   go_roundw
   case rel => exact ⟨k + 1, by omega, by go_num, ⟨.inr H2.out⟩, (hb.alloc hb.size _).trans HB2.out⟩
   case measure => simp [intOf]; omega
  ·have hkk : k = l0.length := by omega
   have HK := am hkk
   clear hkk
   go_wp2_with (first | (go_at_call 143; refine (Tryz.Builder_String_any w.heap.size w.heap.size _ _ hr.out hb.size).mono ?_; rintro e w2 ⟨rfl, hb2⟩; have HB2 := am hb2; clear hb2))
   go_ret
   exact ⟨by rw [HK.out, List.take_length]; rfl, hb.trans HB2.out⟩
def impl_lengthLine.f (a0 : ByteArray) : Option (ByteArray) := (strconv_Itoa.f (a0.size : Int)).bind fun t6 => (if 16 + t6.size ≤ 9223372036854775807 then (if ((⟨#[99, 111, 110, 116, 101, 110, 116, 45, 108, 101, 110, 103, 116, 104, 58, 32]⟩ : ByteArray) ++ t6).size + 2 ≤ 9223372036854775807 then (some (((⟨#[99, 111, 110, 116, 101, 110, 116, 45, 108, 101, 110, 103, 116, 104, 58, 32]⟩ : ByteArray) ++ t6) ++ (⟨#[13, 10]⟩ : ByteArray))) else (none)) else (none))
theorem impl_lengthLine.calls (a0 : ByteArray) (r : ByteArray) (w : World) (hGT : GLOBT w) (h : impl_lengthLine.f a0 = some r) :
  Calls Tryz.prog 101 #[.string a0] w fun e w' => e = .returned (.string r) ∧ Below w.heap.size w w' := by
 have HGT := am hGT
 clear hGT
 have HB := am (Below.refl w.heap.size w)
 unfold impl_lengthLine.f at h
 have H := h
 clear h
 revert H
 refine ok1 fun t6 A2 H => ?_
 revert H
 refine ifn fun c3 H => ?_
 have c3b0 := eq_true c3
 have c3b1 := decide_eq_true c3
 try have c3b2 := eq_false (Nat.not_lt.2 c3)
 revert H
 refine ifn fun c4 H => ?_
 have c4b0 := eq_true c4
 have c4b1 := decide_eq_true c4
 try have c4b2 := eq_false (Nat.not_lt.2 c4)
 have c4b3 : (9223372036854775807 < 16 + (t6).size + 2) = False := b3 c4
 obtain rfl := si_ H
 go_enter Tryz.func101, Tryz.ntmps101
 go_wp2_with ((with_reducible refine gw ?_); first | (refine gl 5 Tryz.func99 #[.int .i64 (a0.size : Int)] ?_; refine (strconv_Itoa.calls (a0.size : Int) t6 _ (GLOBT.below HGT.out bl) A2.out).mono ?_; rintro e w5 ⟨rfl, hb⟩; refine ⟨_, rfl, ?_⟩; replace HB := am (below_step bl hb); clear hb))
 go_ret
 exact ⟨rf, bl⟩
def impl_RespText.f (k : Nat) (a0_0 : Int) (l0_1 : List (S116)) (a0_2 : ByteArray) : Option (ByteArray) := (impl_RespOk.f k a0_0 l0_1 a0_2).bind fun t25 => (if t25 = true then ((strconv_Itoa.f a0_0).bind fun t22 => (if 9 + t22.size ≤ 9223372036854775807 then (if ((⟨#[72, 84, 84, 80, 47, 49, 46, 49, 32]⟩ : ByteArray) ++ t22).size + 2 ≤ 9223372036854775807 then (if (((⟨#[72, 84, 84, 80, 47, 49, 46, 49, 32]⟩ : ByteArray) ++ t22) ++ (⟨#[32, 46]⟩ : ByteArray)).size + 2 ≤ 9223372036854775807 then ((impl_FieldsText.f l0_1).bind fun t23 => (if ((((⟨#[72, 84, 84, 80, 47, 49, 46, 49, 32]⟩ : ByteArray) ++ t22) ++ (⟨#[32, 46]⟩ : ByteArray)) ++ (⟨#[13, 10]⟩ : ByteArray)).size + t23.size ≤ 9223372036854775807 then ((impl_lengthLine.f a0_2).bind fun t24 => (if (((((⟨#[72, 84, 84, 80, 47, 49, 46, 49, 32]⟩ : ByteArray) ++ t22) ++ (⟨#[32, 46]⟩ : ByteArray)) ++ (⟨#[13, 10]⟩ : ByteArray)) ++ t23).size + t24.size ≤ 9223372036854775807 then (if ((((((⟨#[72, 84, 84, 80, 47, 49, 46, 49, 32]⟩ : ByteArray) ++ t22) ++ (⟨#[32, 46]⟩ : ByteArray)) ++ (⟨#[13, 10]⟩ : ByteArray)) ++ t23) ++ t24).size + 2 ≤ 9223372036854775807 then (if (((((((⟨#[72, 84, 84, 80, 47, 49, 46, 49, 32]⟩ : ByteArray) ++ t22) ++ (⟨#[32, 46]⟩ : ByteArray)) ++ (⟨#[13, 10]⟩ : ByteArray)) ++ t23) ++ t24) ++ (⟨#[13, 10]⟩ : ByteArray)).size + a0_2.size ≤ 9223372036854775807 then (some ((((((((⟨#[72, 84, 84, 80, 47, 49, 46, 49, 32]⟩ : ByteArray) ++ t22) ++ (⟨#[32, 46]⟩ : ByteArray)) ++ (⟨#[13, 10]⟩ : ByteArray)) ++ t23) ++ t24) ++ (⟨#[13, 10]⟩ : ByteArray)) ++ a0_2)) else (none)) else (none)) else (none))) else (none))) else (none)) else (none)) else (none))) else (some (⟨#[]⟩ : ByteArray)))
def impl_RespText.T3 : Bool × List (List Nat × List Nat) := (true, [([], []), ([0], [0]), ([1], [1]), ([2], [2]), ([3], [3]), ([4], [4]), ([], []), ([6], [6]), ([7, 2], [7]), ([5, 8], [5, 8]), ([], []), ([10], [10]), ([11, 8], [11]), ([9, 12], [9, 12]), ([13], [13]), ([], []), ([15], [15]), ([14, 16], [14, 16]), ([17, 12, 0, 1, 2, 3, 4, 5, 6, 7, 8, 9, 10, 11, 12, 13, 14, 15, 16, 17], [17])])
def impl_RespText.B3 : List Nat := [0, 1, 3, 7, 15, 31, 0, 64, 199, 511, 0, 1024, 3527, 8191, 16383, 0, 32768, 131071, 262143]
theorem impl_RespText.tab3 : rtab .any (opsOf Tryz.f35 3) = impl_RespText.T3 := by kernel_rfl
theorem impl_RespText.bits3 : waitsOk impl_RespText.T3.2 impl_RespText.B3 = true := by kernel_rfl
theorem impl_RespText.calls (k : Nat) (a0_0 : Int) (A0_1 : Option Addr) (c0_1 : Nat) (l0_1 : List (S116)) (a0_2 : ByteArray) (r : ByteArray) (w : World) (hGT : GLOBT w) (hr0_1 : Kd.C k116 w A0_1 l0_1.length l0_1) (hc0_1 : l0_1.length ≤ c0_1) (h : impl_RespText.f k a0_0 l0_1 a0_2 = some r) :
  Calls Tryz.prog 35 #[.agg #[.int .i64 a0_0, .slice A0_1 l0_1.length c0_1, .string a0_2]] w fun e w' => e = .returned (.string r) ∧ Below w.heap.size w w' := by
 have hu29 := Tryz.underlying29
 have HR0_1 := am hr0_1
 have HC0_1 := am hc0_1
 clear hr0_1 hc0_1
 have HGT := am hGT
 clear hGT
 have HB := am (Below.refl w.heap.size w)
 unfold impl_RespText.f at h
 have H := h
 clear h
 revert H
 refine ok1 fun t25 A2 H => ?_
 have HH3 := am H
 clear H
 go_enter Tryz.func35, Tryz.ntmps35
 go_upto_if 5 with ((with_reducible refine gw ?_); first | (refine bx 1 #[.int .i64 a0_0, .slice A0_1 l0_1.length c0_1, .string a0_2] 29 ?_; intro gb5 hg w4 hbox hb; have BK5 := am (hbox); have GW5 := am (sz hg : w.heap.size ≤ gb5); have GE5 := am (sz hg : w.heap.size ≤ gb5); replace HB := am (below_step bl hb); clear hb hbox hg; obtain ⟨_, _, _, _, _, _⟩ := cl3 BK5) | (refine gl 4 Tryz.func32 #[.agg #[.int .i64 a0_0, .slice A0_1 l0_1.length c0_1, .string a0_2]] ?_; refine (impl_RespOk.calls k a0_0 _ _ l0_1 a0_2 t25 _ (cb HR0_1) HC0_1.out A2.out).mono ?_; rintro e w6 ⟨rfl, hb⟩; refine ⟨_, rfl, ?_⟩; replace BK5 := kb BK5 hb; replace HB := am (below_step bl hb); clear hb))
 have H := HH3.out
 clear HH3
 by_cases c7 : t25 = true
 rotate_left
 ·replace c7 := nb_ c7
  subst c7
  rw [if_neg ff_] at H
  obtain rfl := si_ H
  go_wp2
  go_ret
  exact ⟨rf, bl⟩
 subst c7
 rw [if_pos rfl] at H
 revert H
 refine ok1 fun t22 A8 H => ?_
 revert H
 refine ifn fun c9 H => ?_
 have c9b0 := eq_true c9
 have c9b1 := decide_eq_true c9
 try have c9b2 := eq_false (Nat.not_lt.2 c9)
 revert H
 refine ifn fun c10 H => ?_
 have c10b0 := eq_true c10
 have c10b1 := decide_eq_true c10
 try have c10b2 := eq_false (Nat.not_lt.2 c10)
 have c10b3 : (9223372036854775807 < 9 + (t22).size + 2) = False := b3 c10
 revert H
 refine ifn fun c11 H => ?_
 have c11b0 := eq_true c11
 have c11b1 := decide_eq_true c11
 try have c11b2 := eq_false (Nat.not_lt.2 c11)
 have c11b3 : (9223372036854775807 < 9 + (t22).size + 2 + 2) = False := b3 c11
 revert H
 refine ok1 fun t23 A12 H => ?_
 revert H
 refine ifn fun c13 H => ?_
 have c13b0 := eq_true c13
 have c13b1 := decide_eq_true c13
 try have c13b2 := eq_false (Nat.not_lt.2 c13)
 have c13b3 : (9223372036854775807 < 9 + (t22).size + 2 + 2 + (t23).size) = False := b3 c13
 revert H
 refine ok1 fun t24 A14 H => ?_
 revert H
 refine ifn fun c15 H => ?_
 have c15b0 := eq_true c15
 have c15b1 := decide_eq_true c15
 try have c15b2 := eq_false (Nat.not_lt.2 c15)
 have c15b3 : (9223372036854775807 < 9 + (t22).size + 2 + 2 + (t23).size + (t24).size) = False := b3 c15
 revert H
 refine ifn fun c16 H => ?_
 have c16b0 := eq_true c16
 have c16b1 := decide_eq_true c16
 try have c16b2 := eq_false (Nat.not_lt.2 c16)
 have c16b3 : (9223372036854775807 < 9 + (t22).size + 2 + 2 + (t23).size + (t24).size + 2) = False := b3 c16
 revert H
 refine ifn fun c17 H => ?_
 have c17b0 := eq_true c17
 have c17b1 := decide_eq_true c17
 try have c17b2 := eq_false (Nat.not_lt.2 c17)
 have c17b3 : (9223372036854775807 < 9 + (t22).size + 2 + 2 + (t23).size + (t24).size + 2 + (a0_2).size) = False := b3 c17
 obtain rfl := si_ H
 try go_wp2
 replace BK5 := am (blk_drew BK5.out)
 replace HB := am (below_drew1 HB.out)
 refine start_ (n := 19) (S := fun w' => w'.cell? ⟨gb5, 0, none⟩ = some (.int .i64 a0_0) ∧ w'.cell? ⟨gb5, 1, none⟩ = some (.slice A0_1 l0_1.length c0_1) ∧ w'.cell? ⟨gb5, 2, none⟩ = some (.string a0_2)) (ds := []) ⟨br true [0, 19]⟩ (by kernel_rfl) rfl (by kernel_rfl) ⟨bc BK5, bc BK5, bc BK5⟩ (fun hHeld => ?_); refine with_tabW impl_RespText.tab3 impl_RespText.bits3 (fun HT_ HW_ => ?_)
 generalize w6.drew = w18 at BK5 HB hHeld ⊢
 refine pu 0 6 [1, 18] ?_
 refine pu 6 12 [1, 5, 1, 12] ?_
 refine pu 10 16 [1, 5, 1, 3, 1, 8] ?_
 refine pu 15 21 [1, 5, 1, 3, 1, 4, 1, 3] ?_
 refine tk 1 7 [2, 4, 1, 3, 1, 4, 1, 3] ?_
 refine tk 7 13 [2, 4, 2, 2, 1, 4, 1, 3] ?_
 refine tk 11 17 [2, 4, 2, 2, 2, 3, 1, 3] ?_
 refine tk 16 22 [2, 4, 2, 2, 2, 3, 2, 2] ?_
 refine og 2 8 [3, 3, 2, 2, 2, 3, 2, 2] Tryz.func99 #[.int .i64 a0_0] (fun K hK => ?_)
 refine (strconv_Itoa.calls a0_0 t22 _ (GLOBT.below HGT.out bl) A8.out).mono ?_
 rintro e w19 ⟨rfl, hb⟩
 refine ⟨_, rfl, ?_⟩
 replace BK5 := kb BK5 hb
 replace HB := am (below_step bl hb)
 clear hb
 refine hK.out _ _ ⟨bc BK5, bc BK5, bc BK5⟩ (fun hHeld => ?_)
 clear hK K
 refine nm 8 ?_
 refine pu 3 9 [4, 2, 2, 2, 2, 3, 2, 2] ?_
 refine pu 4 10 [5, 1, 2, 2, 2, 3, 2, 2] ?_
 refine pu 5 11 [8, 2, 2, 3, 2, 2] ?_
 refine og 8 14 [9, 1, 2, 3, 2, 2] Tryz.func100 #[.slice A0_1 l0_1.length c0_1] (fun K hK => ?_)
 refine (impl_FieldsText.calls _ _ l0_1 t23 _ (cb HR0_1) HC0_1.out A12.out).mono ?_
 rintro e w20 ⟨rfl, hb⟩
 refine ⟨_, rfl, ?_⟩
 replace BK5 := kb BK5 hb
 replace HB := am (below_step bl hb)
 clear hb
 refine hK.out _ _ ⟨bc BK5, bc BK5, bc BK5⟩ (fun hHeld => ?_)
 clear hK K
 refine nm 14 ?_
 refine pu 9 15 [12, 3, 2, 2] ?_
 refine og 12 18 [13, 2, 2, 2] Tryz.func101 #[.string a0_2] (fun K hK => ?_)
 refine (impl_lengthLine.calls a0_2 t24 _ (GLOBT.below HGT.out bl) A14.out).mono ?_
 rintro e w21 ⟨rfl, hb⟩
 refine ⟨_, rfl, ?_⟩
 replace BK5 := kb BK5 hb
 replace HB := am (below_step bl hb)
 clear hb
 refine hK.out _ _ ⟨bc BK5, bc BK5, bc BK5⟩ (fun hHeld => ?_)
 clear hK K
 refine nm 18 ?_
 refine pu 13 19 [14, 1, 2, 2] ?_
 refine pu 14 20 [17, 2] ?_
 refine pu 17 23 [18, 1] ?_
 refine pu 18 2 [19] ?_
 refine done_ (done_of HT_.out (by kernel_rfl)) ?_
 try go_wp2
 go_ret
 exact ⟨rf, bl⟩
end Go.Proofs.YtjlpjbkpmmpojaaGreatDoor.All
