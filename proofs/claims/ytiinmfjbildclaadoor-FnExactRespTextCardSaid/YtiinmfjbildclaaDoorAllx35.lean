-- Written by a program of this session (wip/tools/hprint.py) out of the translation. Lean checks it.
import Derived.Test.YtiinmfjbildclaaDoorAllx0
import Derived.Test.YtiinmfjbildclaaDoorAllx12
namespace Go.Proofs.YtiinmfjbildclaaDoor.All
open Go.RowKit Go.Proofs.YtiinmfjbildclaaDoorW.PrintWords Go.Proofs.YtiinmfjbildclaaDoorW.PrintLast Go.Proofs.YtiinmfjbildclaaDoorW.PrintMore
attribute [local go_sem] max2_int min2_int max_two min_two max_three min_three max_four min_four   -- for this text's walks alone
set_option linter.unusedVariables false
set_option linter.unusedSimpArgs false

/-! ### spec_FieldsText: function 122 -/
def spec_FieldsText.l0 : Nat → List (S114) → ByteArray → Int → Option (ByteArray)
 | 0, _, _, _ => none
 | k + 1, x0, x3, x4 => if x4 < (x0.length : Int) then (if 0 ≤ x4 then (if x3.size + ((rd_T114 x0 x4).f0).size ≤ 9223372036854775807 then (if (x3 ++ ((rd_T114 x0 x4).f0)).size + 2 ≤ 9223372036854775807 then (if ((x3 ++ ((rd_T114 x0 x4).f0)) ++ (⟨#[58, 32]⟩ : ByteArray)).size + ((rd_T114 x0 x4).f1).size ≤ 9223372036854775807 then (if (((x3 ++ ((rd_T114 x0 x4).f0)) ++ (⟨#[58, 32]⟩ : ByteArray)) ++ ((rd_T114 x0 x4).f1)).size + 2 ≤ 9223372036854775807 then (spec_FieldsText.l0 k x0 ((((x3 ++ ((rd_T114 x0 x4).f0)) ++ (⟨#[58, 32]⟩ : ByteArray)) ++ ((rd_T114 x0 x4).f1)) ++ (⟨#[13, 10]⟩ : ByteArray)) (wrap64 (x4 + 1))) else (none)) else (none)) else (none)) else (none)) else (none)) else (some x3)
def spec_FieldsText.f (k : Nat) (l0 : List (S114)) : Option (ByteArray) := spec_FieldsText.l0 k l0 (⟨#[]⟩ : ByteArray) 0
theorem spec_FieldsText.mono_l : ∀ k, (∀ y0 y1 y2, LeO (spec_FieldsText.l0 k y0 y1 y2) (spec_FieldsText.l0 (k + 1) y0 y1 y2))
 | 0 => fun _ _ _ r h => by simp [spec_FieldsText.l0] at h
 | k + 1 => by
  have ih0 := spec_FieldsText.mono_l k
  ·intro y0 y1 y2
   unfold spec_FieldsText.l0
   repeat' first
   | (with_reducible exact ih0 _ _ _)
   | (with_reducible exact LeO.refl _)
   | (with_reducible exact LeO.none _)
   | (with_reducible refine LeO.ite ?_ ?_)
   | (with_reducible refine LeO.bind ?_ (fun _ => ?_))
   | exact ih0 _ _ _
   | exact LeO.none _
   | refine LeO.ite ?_ ?_
   | refine LeO.bind ?_ (fun _ => ?_)
theorem spec_FieldsText.mono : ∀ a0 k, LeO (spec_FieldsText.f k a0) (spec_FieldsText.f (k + 1) a0) := by
 intro a0 k
 have ih0 := spec_FieldsText.mono_l k
 unfold spec_FieldsText.f
 repeat' first
   | (with_reducible exact ih0 _ _ _)
   | (with_reducible exact LeO.refl _)
   | (with_reducible exact LeO.none _)
   | (with_reducible refine LeO.ite ?_ ?_)
   | (with_reducible refine LeO.bind ?_ (fun _ => ?_))
   | exact ih0 _ _ _
   | exact LeO.none _
   | refine LeO.ite ?_ ?_
   | refine LeO.bind ?_ (fun _ => ?_)
set_option maxHeartbeats 8000000 in
set_option maxRecDepth 100000 in
theorem spec_FieldsText.calls (k : Nat) (A0 : Option Addr) (c0 : Nat) (l0 : List (S114)) (r : ByteArray) (w : World) (hr0 : Kd.C k114 w A0 l0.length l0) (hc0 : l0.length ≤ c0) (h : spec_FieldsText.f k l0 = some r) :
  Calls Tryd.prog 122 #[.slice A0 l0.length c0] w fun e w' => e = .returned (.string r) ∧ Drawn0 w w' := by
 have HR0 := am hr0
 have HC0 := am hc0
 clear hr0 hc0
 have H : (spec_FieldsText.l0 k l0 (⟨#[]⟩ : ByteArray) 0) = some r := h
 clear h
 have H' := am H
 clear H
 go_enter Tryd.func122, Tryd.ntmps122
 go_wp2
 repeat (go_quiet (fail); try go_wp2)
 (try simp only [Act.put, List.setIfInBounds_toArray, List.set_cons_zero, List.set_cons_succ])
 go_loopg [3, 4] k (fun kq v3 v4 w' => ∃ (x3_1 : ByteArray) (x4_1 : Int), v3 = .string x3_1 ∧ v4 = .int .i64 x4_1 ∧ Aside0 (spec_FieldsText.l0 kq l0 x3_1 x4_1 = some r) ∧ Aside0 (kq ≤ k) ∧ Drawn0 w w')
 case atStart => exact ⟨((⟨#[]⟩ : ByteArray)), (0), rs, rs, H', ⟨Nat.le_refl _⟩, dr⟩
 case round =>
  clear H'
  try clear c1
  obtain ⟨x3_1, x4_1, rfl, rfl, HA, HK1, ⟨m1, rfl⟩⟩ := hrel
  cases gk with
  | zero => exact absurd HA.out (by simp [spec_FieldsText.l0])
  | succ k1 =>
   have H := HA.out
   clear HA
   simp only [spec_FieldsText.l0] at H
   by_cases c2 : x4_1 < (l0.length : Int)
   ·rw [if_pos c2] at H
    have c2b0 : decide (x4_1 < (l0.length : Int)) = true := decide_eq_true c2
    clear c2
    by_cases c3 : 0 ≤ x4_1
    ·rw [if_pos c3] at H
     have c3b0 : decide (0 ≤ x4_1) = true := decide_eq_true c3
     clear c3
     by_cases c4 : x3_1.size + ((rd_T114 l0 x4_1).f0).size ≤ 9223372036854775807
     ·rw [if_pos c4] at H
      have c4b0 := eq_true c4
      have c4b1 : decide (x3_1.size + ((rd_T114 l0 x4_1).f0).size ≤ 9223372036854775807) = true := decide_eq_true c4
      try have c4b2 : (9223372036854775807 < x3_1.size + ((rd_T114 l0 x4_1).f0).size) = False := eq_false (Nat.not_lt.2 c4)
      by_cases c5 : (x3_1 ++ ((rd_T114 l0 x4_1).f0)).size + 2 ≤ 9223372036854775807
      ·rw [if_pos c5] at H
       have c5b0 := eq_true c5
       have c5b1 : decide ((x3_1 ++ ((rd_T114 l0 x4_1).f0)).size + 2 ≤ 9223372036854775807) = true := decide_eq_true c5
       try have c5b2 : (9223372036854775807 < (x3_1 ++ ((rd_T114 l0 x4_1).f0)).size + 2) = False := eq_false (Nat.not_lt.2 c5)
       have c5b3 : (9223372036854775807 < (x3_1).size + ((rd_T114 l0 x4_1).f0).size + 2) = False := eq_false (Nat.not_lt.2 (by have h_ := c5; simp only [ByteArray.size_append] at h_; first | exact h_ | (simp only [ByteArray.size_extract] at h_; rw [Nat.min_eq_left (by omega)] at h_; exact h_)))
       by_cases c6 : ((x3_1 ++ ((rd_T114 l0 x4_1).f0)) ++ (⟨#[58, 32]⟩ : ByteArray)).size + ((rd_T114 l0 x4_1).f1).size ≤ 9223372036854775807
       ·rw [if_pos c6] at H
        have c6b0 := eq_true c6
        have c6b1 : decide (((x3_1 ++ ((rd_T114 l0 x4_1).f0)) ++ (⟨#[58, 32]⟩ : ByteArray)).size + ((rd_T114 l0 x4_1).f1).size ≤ 9223372036854775807) = true := decide_eq_true c6
        try have c6b2 : (9223372036854775807 < ((x3_1 ++ ((rd_T114 l0 x4_1).f0)) ++ (⟨#[58, 32]⟩ : ByteArray)).size + ((rd_T114 l0 x4_1).f1).size) = False := eq_false (Nat.not_lt.2 c6)
        have c6b3 : (9223372036854775807 < (x3_1).size + ((rd_T114 l0 x4_1).f0).size + 2 + ((rd_T114 l0 x4_1).f1).size) = False := eq_false (Nat.not_lt.2 (by have h_ := c6; simp only [ByteArray.size_append] at h_; first | exact h_ | (simp only [ByteArray.size_extract] at h_; rw [Nat.min_eq_left (by omega)] at h_; exact h_)))
        by_cases c7 : (((x3_1 ++ ((rd_T114 l0 x4_1).f0)) ++ (⟨#[58, 32]⟩ : ByteArray)) ++ ((rd_T114 l0 x4_1).f1)).size + 2 ≤ 9223372036854775807
        ·rw [if_pos c7] at H
         have c7b0 := eq_true c7
         have c7b1 : decide ((((x3_1 ++ ((rd_T114 l0 x4_1).f0)) ++ (⟨#[58, 32]⟩ : ByteArray)) ++ ((rd_T114 l0 x4_1).f1)).size + 2 ≤ 9223372036854775807) = true := decide_eq_true c7
         try have c7b2 : (9223372036854775807 < (((x3_1 ++ ((rd_T114 l0 x4_1).f0)) ++ (⟨#[58, 32]⟩ : ByteArray)) ++ ((rd_T114 l0 x4_1).f1)).size + 2) = False := eq_false (Nat.not_lt.2 c7)
         have c7b3 : (9223372036854775807 < (x3_1).size + ((rd_T114 l0 x4_1).f0).size + 2 + ((rd_T114 l0 x4_1).f1).size + 2) = False := eq_false (Nat.not_lt.2 (by have h_ := c7; simp only [ByteArray.size_append] at h_; first | exact h_ | (simp only [ByteArray.size_extract] at h_; rw [Nat.min_eq_left (by omega)] at h_; exact h_)))
         have H' := am H
         clear H
         have p866 : 0 ≤ (x4_1 : Int) := od
         have q866 : x4_1 < (l0.length : Int) := od
         obtain ⟨ad866, e866, hx866_0, hx866_1⟩ := at_T114 HR0.out x4_1 p866 q866
         cases e866
         replace p866 := eq_true p866
         replace q866 := eq_true q866
         have p867 : 0 ≤ (x4_1 : Int) := od
         have q867 : x4_1 < (l0.length : Int) := od
         obtain ⟨ad867, e867, hx867_0, hx867_1⟩ := at_T114 HR0.out x4_1 p867 q867
         obtain rfl : ad866 = ad867 := (by injection e867)
         replace p867 := eq_true p867
         replace q867 := eq_true q867
         go_wp2
         repeat (go_quiet (fail); try go_wp2)
         go_roundg k1
         case measure => have := HK1.out; omega
         case rel => exact ⟨((((x3_1 ++ ((rd_T114 l0 x4_1).f0)) ++ (⟨#[58, 32]⟩ : ByteArray)) ++ ((rd_T114 l0 x4_1).f1)) ++ (⟨#[13, 10]⟩ : ByteArray)), (wrap64 (x4_1 + 1)), rs, rs, H', ⟨by have := HK1.out; omega⟩, dr⟩
        ·rw [if_neg c7] at H
         exact absurd H (by simp)
       ·rw [if_neg c6] at H
        exact absurd H (by simp)
      ·rw [if_neg c5] at H
       exact absurd H (by simp)
     ·rw [if_neg c4] at H
      exact absurd H (by simp)
    ·rw [if_neg c3] at H
     exact absurd H (by simp)
   ·rw [if_neg c2] at H
    have c2b0 : decide (x4_1 < (l0.length : Int)) = false := decide_eq_false c2
    clear c2
    obtain rfl := Option.some.inj H
    go_wp2
    repeat (go_quiet (fail); try go_wp2)
    go_ret
    exact ⟨rs, dr⟩

/-! ### strings.Builder, written and read: a builder that the call has made -/
set_option maxHeartbeats 1000000 in
set_option maxRecDepth 100000 in
theorem bldCheck_used (b : Nat) (w : World) (h0 : w.cell? ⟨b, 0, none⟩ = some (.pointer (some ⟨b, 0, none⟩))) :
  Calls Tryd.prog 199 #[.pointer (some ⟨b, 0, none⟩)] w fun e w' => e = .returned (.tuple #[]) ∧ w' = w := by
 obtain ⟨j, hj, _⟩ := Option.map_eq_some_iff.1 (show (Tryd.prog.info? 170).map (fun i => i.size) = some 2 by kernel_rfl)
 go_enter Tryd.func199, Tryd.ntmps199
 go_wp2
 rw [Lib.run_neq_ptr_same w _ Tryd.underlying168 hj]
 go_wp2
 go_end0
 exact ⟨rfl, rfl⟩
set_option maxHeartbeats 1000000 in
set_option maxRecDepth 100000 in
theorem bldCheck_fresh (b : Nat) (w : World) (h0 : w.cell? ⟨b, 0, none⟩ = some (.pointer none)) (hsh : w.shape? b = some (170, 2)) (hfz : w.frozen? ⟨b, 0, none⟩ = false) :
  Calls Tryd.prog 199 #[.pointer (some ⟨b, 0, none⟩)] w fun e w' => e = .returned (.tuple #[]) ∧ w' = w.setCell ⟨b, 0, none⟩ (.pointer (some ⟨b, 0, none⟩)) := by
 obtain ⟨j, hj, hjs⟩ := Option.map_eq_some_iff.1 (show (Tryd.prog.info? 170).map (fun i => i.size) = some 2 by kernel_rfl)
 go_enter Tryd.func199, Tryd.ntmps199
 go_wp2
 rw [Lib.run_to_unsafe w ⟨b, 0, none⟩ Tryd.underlying168 Tryd.underlying210 hj (by rw [hjs]; decide) hsh (Nat.zero_lt_succ 1)]
 simp only [Result.andThen]
 rw [Oper.upon_value]
 go_wp2
 rw [run_callFunc_extern Tryd.func218 (by kernel_rfl) (by kernel_rfl) (by kernel_rfl) (e := Extern.AbiNoEscape.same) (by kernel_rfl)]
 rw [Lib.run_noEscape]
 simp only [Result.andThen]
 rw [Oper.upon_value]
 go_wp2
 rw [Lib.run_from_unsafe w ⟨b, 0, none⟩ Tryd.underlying210 Tryd.underlying168 hj hsh (by kernel_rfl)]
 simp only [Result.andThen]
 rw [Oper.upon_value]
 go_wp2
 go_end0
 exact ⟨rfl, rfl⟩
theorem bldCheck (B b : Nat) (bs : List Value) (w : World) (h : Lib.IsBuilder 170 5 B b bs w) :
  Calls Tryd.prog 199 #[.pointer (some ⟨b, 0, none⟩)] w fun e w' => e = .returned (.tuple #[]) ∧ (Lib.BuilderAt 170 5 B b (.pointer (some ⟨b, 0, none⟩)) bs w' ∧ Below B w w') := by
 rcases h with h | h
 ·refine (bldCheck_fresh b w h.cell0 h.shape h.frozen0).mono ?_
  rintro e w' ⟨rfl, rfl⟩
  exact ⟨rfl, h.used _, (Below.refl B w).setCell (p := ⟨b, 0, none⟩) h.1 _⟩
 ·refine (bldCheck_used b w h.cell0).mono ?_
  rintro e w' ⟨rfl, rfl⟩
  exact ⟨rfl, h, Below.refl B _⟩
set_option maxHeartbeats 2000000 in
set_option maxRecDepth 100000 in
theorem bldWrite (B b : Nat) (bs : List Value) (s : ByteArray) (w : World) (h : Lib.IsBuilder 170 5 B b bs w) (hlen : bs.length + s.size ≤ 140737488355328) (hBw : B ≤ w.heap.size) :
  Calls Tryd.prog 176 #[.pointer (some ⟨b, 0, none⟩), .string s] w fun e w' => e = .returned (.tuple #[.int .i64 s.size, .nilIface]) ∧ (Lib.BuilderAt 170 5 B b (.pointer (some ⟨b, 0, none⟩)) (bs ++ Lib.strCells s) w' ∧ Below B w w') := by
 obtain ⟨i0, hi, hz0, hz1, hz2⟩ := info_parts (show (Tryd.prog.info? 5).map (fun i => (i.zero, i.size, i.bytes)) = some (some (.int .u8 0), 1, 1) by kernel_rfl)
 go_enter Tryd.func176, Tryd.ntmps176
 go_wp2_with (go_at_call 199; refine (bldCheck B b bs _ h).mono ?_)
 rintro e w1 ⟨rfl, h1, hb1⟩
 obtain ⟨hB, v, hbk, hown, hne⟩ := h1
 have c0 : w1.cell? ⟨b, 0, none⟩ = some (.pointer (some ⟨b, 0, none⟩)) := by rw [Lib.cell_of_heap hbk]; rfl
 have c1 : w1.cell? ⟨b, 1, none⟩ = some v := by rw [Lib.cell_of_heap hbk]; rfl
 go_wp2_with (at_builtin; refine Lib.wpList_append_own_string _ rfl _ _ 35 9 rfl B 5 i0 Tryd.underlying35 Tryd.underlying9 hi hz0 hz1 hz2 _ _ _ rfl hown s rfl ?c3 ?c4 ?c5 ?_)
 case c3 => unfold maxLen; omega
 case c4 => omega
 case c5 => have := hb1.size; omega
 intro v' w2 hown' hgrow _
 have hlt : b < w1.heap.size := by
  rcases Nat.lt_or_ge b w1.heap.size with h' | h'
  ·exact h'
  ·simp [Array.getElem?_eq_none h'] at hbk
 have hb2 : w2.heap[b]? = some (.cells #[.pointer (some ⟨b, 0, none⟩), v] 170 (0, 0)) := by
  rw [hgrow.block b hlt (fun e => hne e.symm)]
  exact hbk
 have d0 : w2.cell? ⟨b, 0, none⟩ = some (.pointer (some ⟨b, 0, none⟩)) := by rw [Lib.cell_of_heap hb2]; rfl
 have d1 : w2.cell? ⟨b, 1, none⟩ = some v := by rw [Lib.cell_of_heap hb2]; rfl
 have f1 : w2.frozen? ⟨b, 1, none⟩ = false := Lib.frozen_of_heap hb2 1
 obtain ⟨ao, n', cap, rfl⟩ : ∃ ao n' cap, v' = .slice ao n' cap := by
  rcases hown'.2 with ⟨hv, _⟩ | ⟨g, cap, cur, hv, _⟩
  ·exact ⟨_, _, _, hv⟩
  ·exact ⟨_, _, _, hv⟩
 go_wp2
 go_ret2
 refine ⟨rfl, ?_, ?_⟩
 ·exact Lib.BuilderAt.put (T := 170) (e := 5) hB hb2 (bs' := bs ++ Lib.strCells s) (by simpa [Lib.strCells_length] using hown') (by decide)
 ·exact (hb1.grown hgrow (by have := hb1.size; omega) (fun k hk => (hown.lt k hk).1)).setCell (p := ⟨b, 1, none⟩) hB _
theorem bldAt_below {T e : TypeId} {B b : Nat} {p : Value} {bs : List Value} {w w1 : World} (h : Lib.BuilderAt T e B b p bs w) (hb : Below w.heap.size w w1) : Lib.BuilderAt T e B b p bs w1 := by
 obtain ⟨h1, v, h2, h3, h4⟩ := h
 exact ⟨h1, v, blk_below h2 hb, pw_own_below h3 hb, h4⟩
theorem bld_below {T e : TypeId} {B b : Nat} {bs : List Value} {w w1 : World} (h : Lib.IsBuilder T e B b bs w) (hb : Below w.heap.size w w1) : Lib.IsBuilder T e B b bs w1 := by
 rcases h with h | h
 ·exact .inl (bldAt_below h hb)
 ·exact .inr (bldAt_below h hb)

/-! ### impl.FieldsText: through a strings.Builder -/
def fieldLine (x : S114) : List UInt8 := x.f0.data.toList ++ [58, 32] ++ x.f1.data.toList ++ [13, 10]
def fieldLines : List S114 → List UInt8
 | [] => []
 | x :: r => fieldLine x ++ fieldLines r
theorem fieldLines_append : ∀ a b, fieldLines (a ++ b) = fieldLines a ++ fieldLines b
 | [], b => rfl
 | x :: r, b => by simp [fieldLines, fieldLines_append r b]
theorem fieldLines_take {l : List S114} {k : Nat} (h : k < l.length) : fieldLines (l.take (k + 1)) = fieldLines (l.take k) ++ fieldLine l[k] := by
 rw [List.take_succ_eq_append_getElem h, fieldLines_append]; simp [fieldLines]
theorem fieldLines_le {l : List S114} {k : Nat} (h : k < l.length) : (fieldLines (l.take k)).length + (fieldLine l[k]).length ≤ (fieldLines l).length := by
 have h1 : fieldLines l = fieldLines (l.take (k + 1)) ++ fieldLines (l.drop (k + 1)) := by rw [← fieldLines_append, List.take_append_drop]
 rw [h1, fieldLines_take h, List.length_append, List.length_append]; omega
def impl_FieldsText.f (l0 : List S114) : Option ByteArray := if l0.length < 4398046511104 ∧ (fieldLines l0).length ≤ 1099511627776 then some ⟨(fieldLines l0).toArray⟩ else none
set_option maxHeartbeats 4000000 in
set_option maxRecDepth 100000 in
theorem impl_FieldsText.calls (A0 : Option Addr) (c0 : Nat) (l0 : List (S114)) (r : ByteArray) (w : World) (hr0 : Kd.C k114 w A0 l0.length l0) (hc0 : l0.length ≤ c0) (h : impl_FieldsText.f l0 = some r) :
  Calls Tryd.prog 125 #[.slice A0 l0.length c0] w fun e w' => e = .returned (.string r) ∧ Below w.heap.size w w' := by
 unfold impl_FieldsText.f at h
 split at h
 case isFalse => cases h
 rename_i hl
 obtain rfl := Option.some.inj h
 have HN := am hl
 have HR := am hr0
 clear h hl hr0 hc0
 have HF := am (Lib.fresh_isBuilder 170 5 w)
 go_enter Tryd.func125, Tryd.ntmps125
 go_wp2
 go_loopw [8] (fun i wr => ∃ k : Nat, k ≤ l0.length ∧ i = .int .i64 k ∧ Aside0 (Lib.IsBuilder 170 5 w.heap.size w.heap.size (Lib.byteCells (fieldLines (l0.take k))) wr) ∧ Below w.heap.size w wr) (fun i _ => l0.length - (intOf i).toNat)
 case atStart => exact ⟨0, Nat.zero_le _, rfl, HF, (Below.refl _ _).alloc (Nat.le_refl _) _⟩
 case round =>
  obtain ⟨k, hk, rfl, hr, hb⟩ := hrel
  have hk2 : ((k : Nat) : Int) ≤ 4611686018427387904 := by have := HN.out.1; omega
  by_cases hlt : k < l0.length
  ·obtain ⟨ad, e1, hx0, hx1⟩ := at_T114 HR.out k (by omega) (by omega)
   have hx : rd_T114 l0 k = l0[k] := by simp [rd_T114, List.getD, hlt]
   rw [hx, Int.toNat_natCast] at hx0 hx1
   cases e1
   replace hx0 := pw_cell_below hb hx0
   replace hx1 := pw_cell_below hb hx1
   have hle := fieldLines_le hlt
   have hsz : (fieldLine l0[k]).length = l0[k].f0.size + 2 + l0[k].f1.size + 2 := by
    simp only [fieldLine, List.length_append, data_length]; rfl
   have ht := fieldLines_take hlt
   obtain ⟨f0, hf0⟩ : ∃ f, f = l0[k].f0 := ⟨_, rfl⟩
   obtain ⟨f1, hf1⟩ : ∃ f, f = l0[k].f1 := ⟨_, rfl⟩
   have hline : fieldLine l0[k] = (f0 ++ (⟨#[58, 32]⟩ : ByteArray) ++ f1 ++ (⟨#[13, 10]⟩ : ByteArray)).data.toList := by
    rw [hf0, hf1]; simp [fieldLine, ByteArray.data_append]
   rw [← hf0] at hx0
   rw [← hf1] at hx1
   rw [hline] at ht
   rw [hsz, ← hf0, ← hf1] at hle
   have HT := am ht
   have s1 : f0.size + 2 ≤ 9223372036854775807 := by have := HN.out.2; omega
   have s2 : f0.size + 2 + f1.size ≤ 9223372036854775807 := by have := HN.out.2; omega
   have s3 : f0.size + 2 + f1.size + 2 ≤ 9223372036854775807 := by have := HN.out.2; omega
   have HLE := am hle
   clear hx hle hsz ht hline hf0 hf1
   have HS : ((f0 ++ (⟨#[58, 32]⟩ : ByteArray) ++ f1 ++ (⟨#[13, 10]⟩ : ByteArray)).size) = f0.size + 2 + f1.size + 2 := by
    rw [ByteArray.size_append, ByteArray.size_append, ByteArray.size_append]; rfl
   have HS := am HS
   go_wp2_with (first | (go_at_call 176; refine (bldWrite w.heap.size w.heap.size _ _ _ (bld_below hr.out ((Below.refl _ _).alloc (Nat.le_refl _) _)) (by rw [HS.out, Lib.byteCells_length]; have := HLE.out; have := HN.out.2; omega) (by have := hb.size; simp; omega)).mono ?_; rintro e w2 ⟨rfl, h2, hb2⟩; rw [Lib.strCells_eq, ← Lib.byteCells_append, ← HT.out] at h2; have H2 := am h2; have HB2 := am hb2; clear h2 hb2))
   go_roundw
   case rel => exact ⟨k + 1, by omega, by go_num, ⟨.inr H2.out⟩, (hb.alloc hb.size _).trans HB2.out⟩
   case measure => simp [intOf]; omega
  ·have hkk : k = l0.length := by omega
   have HK := am hkk
   clear hkk
   go_wp2_with (first | (go_at_call 177; refine (Tryd.Builder_String_any w.heap.size w.heap.size _ _ hr.out hb.size).mono ?_; rintro e w2 ⟨rfl, hb2⟩; have HB2 := am hb2; clear hb2))
   go_ret
   exact ⟨by rw [HK.out, List.take_length]; rfl, hb.trans HB2.out⟩

/-! ### impl_lengthLine: function 126 -/
def impl_lengthLine.f (a0 : ByteArray) : Option (ByteArray) := (strconv_Itoa.f (a0.size : Int)).bind fun t882 => (if 16 + t882.size ≤ 9223372036854775807 then (if ((⟨#[99, 111, 110, 116, 101, 110, 116, 45, 108, 101, 110, 103, 116, 104, 58, 32]⟩ : ByteArray) ++ t882).size + 2 ≤ 9223372036854775807 then (some (((⟨#[99, 111, 110, 116, 101, 110, 116, 45, 108, 101, 110, 103, 116, 104, 58, 32]⟩ : ByteArray) ++ t882) ++ (⟨#[13, 10]⟩ : ByteArray))) else (none)) else (none))
set_option maxHeartbeats 8000000 in
set_option maxRecDepth 100000 in
theorem impl_lengthLine.calls (a0 : ByteArray) (r : ByteArray) (w : World) (hGT : GLOBT w) (h : impl_lengthLine.f a0 = some r) :
  Calls Tryd.prog 126 #[.string a0] w fun e w' => e = .returned (.string r) ∧ Below w.heap.size w w' := by
 have HGT := am hGT
 clear hGT
 have HB := am (Below.refl w.heap.size w)
 have H : ((strconv_Itoa.f (a0.size : Int)).bind fun t882 => (if 16 + t882.size ≤ 9223372036854775807 then (if ((⟨#[99, 111, 110, 116, 101, 110, 116, 45, 108, 101, 110, 103, 116, 104, 58, 32]⟩ : ByteArray) ++ t882).size + 2 ≤ 9223372036854775807 then (some (((⟨#[99, 111, 110, 116, 101, 110, 116, 45, 108, 101, 110, 103, 116, 104, 58, 32]⟩ : ByteArray) ++ t882) ++ (⟨#[13, 10]⟩ : ByteArray))) else (none)) else (none))) = some r := h
 clear h
 replace H := ob H
 obtain ⟨t882, A20, H⟩ := H
 replace H : (if 16 + t882.size ≤ 9223372036854775807 then (if ((⟨#[99, 111, 110, 116, 101, 110, 116, 45, 108, 101, 110, 103, 116, 104, 58, 32]⟩ : ByteArray) ++ t882).size + 2 ≤ 9223372036854775807 then (some (((⟨#[99, 111, 110, 116, 101, 110, 116, 45, 108, 101, 110, 103, 116, 104, 58, 32]⟩ : ByteArray) ++ t882) ++ (⟨#[13, 10]⟩ : ByteArray))) else (none)) else (none)) = some r := H
 have A2 := am A20
 clear A20
 by_cases c3 : 16 + t882.size ≤ 9223372036854775807
 ·rw [if_pos c3] at H
  have c3b0 := eq_true c3
  have c3b1 : decide (16 + t882.size ≤ 9223372036854775807) = true := decide_eq_true c3
  try have c3b2 : (9223372036854775807 < 16 + t882.size) = False := eq_false (Nat.not_lt.2 c3)
  by_cases c4 : ((⟨#[99, 111, 110, 116, 101, 110, 116, 45, 108, 101, 110, 103, 116, 104, 58, 32]⟩ : ByteArray) ++ t882).size + 2 ≤ 9223372036854775807
  ·rw [if_pos c4] at H
   have c4b0 := eq_true c4
   have c4b1 : decide (((⟨#[99, 111, 110, 116, 101, 110, 116, 45, 108, 101, 110, 103, 116, 104, 58, 32]⟩ : ByteArray) ++ t882).size + 2 ≤ 9223372036854775807) = true := decide_eq_true c4
   try have c4b2 : (9223372036854775807 < ((⟨#[99, 111, 110, 116, 101, 110, 116, 45, 108, 101, 110, 103, 116, 104, 58, 32]⟩ : ByteArray) ++ t882).size + 2) = False := eq_false (Nat.not_lt.2 c4)
   have c4b3 : (9223372036854775807 < 16 + (t882).size + 2) = False := eq_false (Nat.not_lt.2 (by have h_ := c4; simp only [ByteArray.size_append] at h_; first | exact h_ | (simp only [ByteArray.size_extract] at h_; rw [Nat.min_eq_left (by omega)] at h_; exact h_)))
   obtain rfl := Option.some.inj H
   go_enter Tryd.func126, Tryd.ntmps126
   go_wp2_with (first | ((with_reducible refine gate_callee (f := 124) rfl ?_); refine goesL_ (some 5) rfl rfl Tryd.func124 (by kernel_rfl) rfl #[.int .i64 (a0.size : Int)] rfl ma ?_; (with_reducible refine (strconv_Itoa.calls (a0.size : Int) t882 _ ?side1 A2.out).mono ?_); (case side1 => exact GLOBT.below HGT.out bl); rintro e w5 ⟨rfl, hb⟩; refine ⟨_, rfl, ?_⟩; replace HB := am (below_step bl hb); (try clear hb); (try clear hb2); (try clear hk); (try clear hi)))
   go_ret
   exact ⟨rf, bl⟩
  ·rw [if_neg c4] at H
   exact absurd H (by simp)
 ·rw [if_neg c3] at H
  exact absurd H (by simp)

end Go.Proofs.YtiinmfjbildclaaDoor.All
