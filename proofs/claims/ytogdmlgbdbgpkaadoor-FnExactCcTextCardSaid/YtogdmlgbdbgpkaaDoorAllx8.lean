-- Written by a program of this session (wip/tools/hprint.py) out of the translation. Lean checks it.
import Derived.Test.YtogdmlgbdbgpkaaDoorAllx0
import Derived.Test.YtogdmlgbdbgpkaaDoorAllx1
import Derived.Test.YtogdmlgbdbgpkaaDoorAllx6
import Derived.Test.YtogdmlgbdbgpkaaDoorAllx7
namespace Go.Proofs.YtogdmlgbdbgpkaaDoor.All
open Go.RowKit Go.Proofs.YtogdmlgbdbgpkaaDoorW.PrintWords Go.Proofs.YtogdmlgbdbgpkaaDoorW.PrintLast Go.Proofs.YtogdmlgbdbgpkaaDoorW.PrintMore
attribute [local go_sem] max2_int min2_int max_two min_two max_three min_three max_four min_four   -- for this text's walks alone
set_option linter.unusedVariables false
set_option linter.unusedSimpArgs false

/-! ### laws_toCc: function 22 -/
def laws_toCc.f (a0_0 : Bool) (a0_1 : Bool) (a0_2 : Bool) (a0_3 : Bool) (a0_4 : Bool) (a0_5 : Int) : Option (Bool × Bool × Bool × Bool × Bool × Int) := some (a0_0, a0_1, a0_2, a0_3, a0_4, a0_5)
set_option maxHeartbeats 8000000 in
set_option maxRecDepth 100000 in
theorem laws_toCc.calls (a0_0 : Bool) (a0_1 : Bool) (a0_2 : Bool) (a0_3 : Bool) (a0_4 : Bool) (a0_5 : Int) (r1 : Bool) (r2 : Bool) (r3 : Bool) (r4 : Bool) (r5 : Bool) (r6 : Int) (w : World) (h : laws_toCc.f a0_0 a0_1 a0_2 a0_3 a0_4 a0_5 = some (r1, r2, r3, r4, r5, r6)) :
    Calls Tryd.prog 22 #[.agg #[.bool a0_0, .bool a0_1, .bool a0_2, .bool a0_3, .bool a0_4, .int .i64 a0_5]] w fun e w' => e = .returned (.agg #[.bool r1, .bool r2, .bool r3, .bool r4, .bool r5, .int .i64 r6]) ∧ Below w.heap.size w w' := by
  have hu30 := Tryd.underlying30
  have hu32 := Tryd.underlying32
  have HB := Aside0.mk (Below.refl w.heap.size w)
  have H : (some (a0_0, a0_1, a0_2, a0_3, a0_4, a0_5)) = some (r1, r2, r3, r4, r5, r6) := h
  clear h
  simp only [Option.some.injEq, Prod.mk.injEq] at H
  obtain ⟨rfl, rfl, rfl, rfl, rfl, rfl⟩ := H
  go_enter Tryd.func22, Tryd.ntmps22
  go_wp2_with (first | ((with_reducible refine gate_dst (N := 1) rfl ?_); refine box_event ?hg (N := 1) ?hd (cs := #[.bool a0_0, .bool a0_1, .bool a0_2, .bool a0_3, .bool a0_4, .int .i64 a0_5]) (t := 30) ?hr ?_; (case hd => rfl); (case hg => rfl); (case hr => first | (go_simp; done) | (go_simp; rfl)); intro gb162 hg w2 hbox hb; have n0_ := Aside0.mk (below_step bl hb); have n1_ := Aside0.mk (hbox); have n2_ := Aside0.mk ((by rw [hg]; exact (below_size bl) : w.heap.size ≤ gb162)); have n3_ := Aside0.mk ((by rw [hg]; exact (below_size bl) : w.heap.size ≤ gb162)); clear HB; have HB := n0_; have BK162 := n1_; have GW162 := n2_; have GE162 := n3_; clear n0_ n1_ n2_ n3_; clear hb hbox hg) | ((with_reducible refine gate_dst (N := 2) rfl ?_); refine box_event ?hg (N := 2) ?hd (cs := #[.bool false, .bool false, .bool false, .bool false, .bool false, .int .i64 0]) (t := 32) ?hr ?_; (case hd => rfl); (case hg => rfl); (case hr => first | (go_simp; done) | (go_simp; rfl)); intro gb163 hg w3 hbox hb; have n0_ := Aside0.mk (blk_below (g := gb162) (o := .cells #[.bool a0_0, .bool a0_1, .bool a0_2, .bool a0_3, .bool a0_4, .int .i64 a0_5] 30 (0, 0)) (bk BK162) hb); have n1_ := Aside0.mk (below_step bl hb); have n2_ := Aside0.mk (hbox); have n3_ := Aside0.mk ((by rw [hg]; exact (below_size bl) : w.heap.size ≤ gb163)); have n4_ := Aside0.mk ((by rw [hg]; exact (below_size bl) : w.heap.size ≤ gb163)); have n5_ := Aside0.mk ((by rw [hg]; exact Nat.ne_of_lt (blk_lt (g := gb162) (o := .cells #[.bool a0_0, .bool a0_1, .bool a0_2, .bool a0_3, .bool a0_4, .int .i64 a0_5] 30 (0, 0)) (bk BK162)) : gb162 ≠ gb163)); have n6_ := Aside0.mk ((by rw [hg]; exact Nat.ne_of_gt (blk_lt (g := gb162) (o := .cells #[.bool a0_0, .bool a0_1, .bool a0_2, .bool a0_3, .bool a0_4, .int .i64 a0_5] 30 (0, 0)) (bk BK162)) : gb163 ≠ gb162)); clear BK162; clear HB; have BK162 := n0_; have HB := n1_; have BK163 := n2_; have GW163 := n3_; have GE163 := n4_; have NB162_163 := n5_; have NB163_162 := n6_; clear n0_ n1_ n2_ n3_ n4_ n5_ n6_; clear hb hbox hg) | ((with_reducible refine gate_dst (N := 3) rfl ?_); refine box_event ?hg (N := 3) ?hd (cs := #[.bool false, .bool false, .bool false, .bool false, .bool false, .int .i64 0]) (t := 32) ?hr ?_; (case hd => rfl); (case hg => rfl); (case hr => first | (go_simp; done) | (go_simp; rfl)); intro gb164 hg w4 hbox hb; have n0_ := Aside0.mk (blk_below (g := gb162) (o := .cells #[.bool a0_0, .bool a0_1, .bool a0_2, .bool a0_3, .bool a0_4, .int .i64 a0_5] 30 (0, 0)) (bk BK162) hb); have n1_ := Aside0.mk (blk_below (g := gb163) (o := .cells #[.bool false, .bool false, .bool false, .bool false, .bool false, .int .i64 0] 32 (0, 0)) (bk BK163) hb); have n2_ := Aside0.mk (below_step bl hb); have n3_ := Aside0.mk (hbox); have n4_ := Aside0.mk ((by rw [hg]; exact (below_size bl) : w.heap.size ≤ gb164)); have n5_ := Aside0.mk ((by rw [hg]; exact (below_size bl) : w.heap.size ≤ gb164)); have n6_ := Aside0.mk ((by rw [hg]; exact Nat.ne_of_lt (blk_lt (g := gb162) (o := .cells #[.bool a0_0, .bool a0_1, .bool a0_2, .bool a0_3, .bool a0_4, .int .i64 a0_5] 30 (0, 0)) (bk BK162)) : gb162 ≠ gb164)); have n7_ := Aside0.mk ((by rw [hg]; exact Nat.ne_of_gt (blk_lt (g := gb162) (o := .cells #[.bool a0_0, .bool a0_1, .bool a0_2, .bool a0_3, .bool a0_4, .int .i64 a0_5] 30 (0, 0)) (bk BK162)) : gb164 ≠ gb162)); have n8_ := Aside0.mk ((by rw [hg]; exact Nat.ne_of_lt (blk_lt (g := gb163) (o := .cells #[.bool false, .bool false, .bool false, .bool false, .bool false, .int .i64 0] 32 (0, 0)) (bk BK163)) : gb163 ≠ gb164)); have n9_ := Aside0.mk ((by rw [hg]; exact Nat.ne_of_gt (blk_lt (g := gb163) (o := .cells #[.bool false, .bool false, .bool false, .bool false, .bool false, .int .i64 0] 32 (0, 0)) (bk BK163)) : gb164 ≠ gb163)); clear BK162; clear BK163; clear HB; have BK162 := n0_; have BK163 := n1_; have HB := n2_; have BK164 := n3_; have GW164 := n4_; have GE164 := n5_; have NB162_164 := n6_; have NB164_162 := n7_; have NB163_164 := n8_; have NB164_163 := n9_; clear n0_ n1_ n2_ n3_ n4_ n5_ n6_ n7_ n8_ n9_; clear hb hbox hg; have hnb5 := NB162_163.out; have hnc5 := NB163_162.out; have hnb6 := NB162_164.out; have hnc6 := NB164_162.out; have hcz7_0 : w4.cell? ⟨gb162, 0, none⟩ = some (.bool a0_0) := (blk_cell BK162.out 0).trans rfl; have hcz7_1 : w4.cell? ⟨gb162, 1, none⟩ = some (.bool a0_1) := (blk_cell BK162.out 1).trans rfl; have hcz7_2 : w4.cell? ⟨gb162, 2, none⟩ = some (.bool a0_2) := (blk_cell BK162.out 2).trans rfl; have hcz7_3 : w4.cell? ⟨gb162, 3, none⟩ = some (.bool a0_3) := (blk_cell BK162.out 3).trans rfl; have hcz7_4 : w4.cell? ⟨gb162, 4, none⟩ = some (.bool a0_4) := (blk_cell BK162.out 4).trans rfl; have hcz7_5 : w4.cell? ⟨gb162, 5, none⟩ = some (.int .i64 a0_5) := (blk_cell BK162.out 5).trans rfl; have hfz7_0 := blk_frozen BK162.out 0; have hfz7_1 := blk_frozen BK162.out 1; have hfz7_2 := blk_frozen BK162.out 2; have hfz7_3 := blk_frozen BK162.out 3; have hfz7_4 := blk_frozen BK162.out 4; have hfz7_5 := blk_frozen BK162.out 5; have hnb8 := NB164_163.out; have hnc8 := NB163_164.out; have hcz9_0 : w4.cell? ⟨gb164, 0, none⟩ = some (.bool false) := (blk_cell BK164.out 0).trans rfl; have hcz9_1 : w4.cell? ⟨gb164, 1, none⟩ = some (.bool false) := (blk_cell BK164.out 1).trans rfl; have hcz9_2 : w4.cell? ⟨gb164, 2, none⟩ = some (.bool false) := (blk_cell BK164.out 2).trans rfl; have hcz9_3 : w4.cell? ⟨gb164, 3, none⟩ = some (.bool false) := (blk_cell BK164.out 3).trans rfl; have hcz9_4 : w4.cell? ⟨gb164, 4, none⟩ = some (.bool false) := (blk_cell BK164.out 4).trans rfl; have hcz9_5 : w4.cell? ⟨gb164, 5, none⟩ = some (.int .i64 0) := (blk_cell BK164.out 5).trans rfl; have hfz9_0 := blk_frozen BK164.out 0; have hfz9_1 := blk_frozen BK164.out 1; have hfz9_2 := blk_frozen BK164.out 2; have hfz9_3 := blk_frozen BK164.out 3; have hfz9_4 := blk_frozen BK164.out 4; have hfz9_5 := blk_frozen BK164.out 5; have hcz10_0 : w4.cell? ⟨gb163, 0, none⟩ = some (.bool false) := (blk_cell BK163.out 0).trans rfl; have hcz10_1 : w4.cell? ⟨gb163, 1, none⟩ = some (.bool false) := (blk_cell BK163.out 1).trans rfl; have hcz10_2 : w4.cell? ⟨gb163, 2, none⟩ = some (.bool false) := (blk_cell BK163.out 2).trans rfl; have hcz10_3 : w4.cell? ⟨gb163, 3, none⟩ = some (.bool false) := (blk_cell BK163.out 3).trans rfl; have hcz10_4 : w4.cell? ⟨gb163, 4, none⟩ = some (.bool false) := (blk_cell BK163.out 4).trans rfl; have hcz10_5 : w4.cell? ⟨gb163, 5, none⟩ = some (.int .i64 0) := (blk_cell BK163.out 5).trans rfl; have hfz10_0 := blk_frozen BK163.out 0; have hfz10_1 := blk_frozen BK163.out 1; have hfz10_2 := blk_frozen BK163.out 2; have hfz10_3 := blk_frozen BK163.out 3; have hfz10_4 := blk_frozen BK163.out 4; have hfz10_5 := blk_frozen BK163.out 5))
  refine bodyPost_ret (results_cell_row rfl _ _ gb163 32 #[.bool a0_0, .bool a0_1, .bool a0_2, .bool a0_3, .bool a0_4, .int .i64 a0_5] (0, 0) _ rfl (by (with_reducible repeat (first | refine blk_drewN ?_ _ | refine blk_drew ?_ | refine blk_alloc ?_ _)); refine blk_put (cs := #[.bool a0_0, .bool a0_1, .bool a0_2, .bool a0_3, .bool a0_4, .int .i64 0]) ?_ 5 _ rfl; (with_reducible repeat (first | refine blk_drewN ?_ _ | refine blk_drew ?_ | refine blk_alloc ?_ _)); refine blk_put (cs := #[.bool a0_0, .bool a0_1, .bool a0_2, .bool a0_3, .bool false, .int .i64 0]) ?_ 4 _ rfl; (with_reducible repeat (first | refine blk_drewN ?_ _ | refine blk_drew ?_ | refine blk_alloc ?_ _)); refine blk_put (cs := #[.bool a0_0, .bool a0_1, .bool a0_2, .bool false, .bool false, .int .i64 0]) ?_ 3 _ rfl; (with_reducible repeat (first | refine blk_drewN ?_ _ | refine blk_drew ?_ | refine blk_alloc ?_ _)); refine blk_put (cs := #[.bool a0_0, .bool a0_1, .bool false, .bool false, .bool false, .int .i64 0]) ?_ 2 _ rfl; (with_reducible repeat (first | refine blk_drewN ?_ _ | refine blk_drew ?_ | refine blk_alloc ?_ _)); refine blk_put (cs := #[.bool a0_0, .bool false, .bool false, .bool false, .bool false, .int .i64 0]) ?_ 1 _ rfl; (with_reducible repeat (first | refine blk_drewN ?_ _ | refine blk_drew ?_ | refine blk_alloc ?_ _)); refine blk_put (cs := #[.bool false, .bool false, .bool false, .bool false, .bool false, .int .i64 0]) ?_ 0 _ rfl; (with_reducible repeat (first | refine blk_drewN ?_ _ | refine blk_drew ?_ | refine blk_alloc ?_ _)); refine blk_far ?_ NB163_164.out _; (with_reducible repeat (first | refine blk_drewN ?_ _ | refine blk_drew ?_ | refine blk_alloc ?_ _)); refine blk_far ?_ NB163_164.out _; (with_reducible repeat (first | refine blk_drewN ?_ _ | refine blk_drew ?_ | refine blk_alloc ?_ _)); refine blk_far ?_ NB163_164.out _; (with_reducible repeat (first | refine blk_drewN ?_ _ | refine blk_drew ?_ | refine blk_alloc ?_ _)); refine blk_far ?_ NB163_164.out _; (with_reducible repeat (first | refine blk_drewN ?_ _ | refine blk_drew ?_ | refine blk_alloc ?_ _)); refine blk_far ?_ NB163_164.out _; (with_reducible repeat (first | refine blk_drewN ?_ _ | refine blk_drew ?_ | refine blk_alloc ?_ _)); refine blk_far ?_ NB163_164.out _; (with_reducible repeat (first | refine blk_drewN ?_ _ | refine blk_drew ?_ | refine blk_alloc ?_ _)); exact BK163.out) Tryd.underlying32 rfl (by kernel_rfl)) rfl ?_
  exact ⟨rf, bl⟩

/-! ### strings.Join over a row of the call's own -/
def joinB (xs : List ByteArray) (sep : ByteArray) : ByteArray := ⟨(Lib.join (xs.map (·.data.toList)) sep.data.toList).toArray⟩
theorem joinOwn (xs : List ByteArray) (sep : ByteArray) (base : Nat) (ok : Nat → Prop) (v : Value) (W : World) (HO : Kd.R Kd.string 9 W base ok v xs) (hn : xs.length ≤ 140737488355328) (hlen : (Lib.join (xs.map (·.data.toList)) sep.data.toList).length ≤ 140737488355328) :
    Calls Tryd.prog 90 #[v, .string sep] W fun e w' => e = .returned (.string (joinB xs sep)) ∧ Below W.heap.size W w' := by
  cases xs with
  | nil =>
    obtain ⟨A, c, rfl⟩ := Kd.R_slice HO
    refine (Tryd.strings_Join_none A c sep W).mono ?_
    rintro e w' ⟨rfl, rfl⟩
    exact ⟨rfl, Below.refl _ _⟩
  | cons x r =>
    obtain ⟨g, cap, rfl, hb, hlt, _⟩ := Kd.R_form HO (by simp)
    obtain ⟨_, hc, hC⟩ := Kd.R_reads' HO
    refine Tryd.strings_Join g 0 cap (x :: r) sep W (fun j y hj => ?_) hlt hn hc hlen
    obtain ⟨hl, hy⟩ := List.getElem?_eq_some_iff.1 hj
    obtain ⟨ad, e1, h1⟩ := Kd.at_string hC (j : Int) (by omega) (by omega)
    cases e1
    rw [Lib.add_plain, Int.toNat_natCast] at h1
    rw [h1]
    simp [rdOf, List.getD, hj]

/-! ### impl.CcText -/
def ccSel (l : List (Bool × ByteArray)) : List ByteArray := (l.filter (·.1)).map (·.2)
def ccRow (f0 f1 f2 f3 : Bool) : List (Bool × ByteArray) := [(f0, (⟨#[110, 111, 45, 115, 116, 111, 114, 101]⟩ : ByteArray)), (f1, (⟨#[110, 111, 45, 99, 97, 99, 104, 101]⟩ : ByteArray)), (f2, (⟨#[112, 114, 105, 118, 97, 116, 101]⟩ : ByteArray)), (f3, (⟨#[109, 117, 115, 116, 45, 114, 101, 118, 97, 108, 105, 100, 97, 116, 101]⟩ : ByteArray))]
def ccTake (f0 f1 f2 f3 : Bool) (k : Nat) : List ByteArray := ccSel ((ccRow f0 f1 f2 f3).take k)
theorem ccTake_len (f0 f1 f2 f3 : Bool) (k : Nat) : (ccTake f0 f1 f2 f3 k).length ≤ 4 := by
  unfold ccTake ccSel
  rw [List.length_map]
  refine Nat.le_trans (List.length_filter_le _ _) ?_
  rw [List.length_take]
  exact Nat.min_le_right _ _
def impl_CcText.f (a0_0 : Bool) (a0_1 : Bool) (a0_2 : Bool) (a0_3 : Bool) (a0_4 : Bool) (a0_5 : Int) : Option ByteArray :=
  if a0_4 = true then (impl_inRange.f a0_5 0 1000000).bind fun t => if t = true then (impl_NumText.f a0_5).bind fun s => if s.size ≤ 1000 then some (joinB (ccTake a0_0 a0_1 a0_2 a0_3 4 ++ [(⟨#[109, 97, 120, 45, 97, 103, 101, 61]⟩ : ByteArray) ++ s]) ⟨#[44, 32]⟩) else none else some ⟨#[]⟩
  else some (joinB (ccTake a0_0 a0_1 a0_2 a0_3 4) ⟨#[44, 32]⟩)
theorem join_bound (sep : List UInt8) (n : Nat) : ∀ (l : List (List UInt8)), (∀ x ∈ l, x.length ≤ n) → (Lib.join l sep).length ≤ l.length * (n + sep.length)
  | [], _ => by simp [Lib.join_nil]
  | x :: r, h => by
    rw [Lib.join_cons]
    have h1 := h x (by simp)
    have h2 : ∀ r : List (List UInt8), (∀ x ∈ r, x.length ≤ n) → (Lib.joinTail sep r).length ≤ r.length * (n + sep.length) := by
      intro r
      induction r with
      | nil => intro _; simp [Lib.joinTail]
      | cons y r ih =>
        intro h
        have h3 := h y (by simp)
        have h4 := ih (fun x hx => h x (by simp [hx]))
        unfold Lib.joinTail at h4 ⊢
        simp only [List.map_cons, List.flatten_cons, List.length_append, List.length_cons, Nat.succ_mul]
        omega
    have h3 := h2 r (fun x hx => h x (by simp [hx]))
    simp only [List.length_append, List.length_cons, Nat.succ_mul]
    omega
theorem ccTake_small (f0 f1 f2 f3 : Bool) (k : Nat) : ∀ x ∈ (ccTake f0 f1 f2 f3 k).map (·.data.toList), x.length ≤ 1100 := by
  intro x hx
  obtain ⟨y, hy, rfl⟩ := List.mem_map.1 hx
  unfold ccTake ccSel at hy
  obtain ⟨z, hz, rfl⟩ := List.mem_map.1 hy
  have hz := List.mem_of_mem_take (List.mem_filter.1 hz).1
  simp only [ccRow, List.mem_cons, List.mem_nil_iff, or_false] at hz
  rcases hz with rfl | rfl | rfl | rfl <;> exact Nat.le_of_ble_eq_true rfl
theorem cc_join_bound (f0 f1 f2 f3 : Bool) (s : ByteArray) (hs : s.size ≤ 1000) : (Lib.join ((ccTake f0 f1 f2 f3 4 ++ [(⟨#[109, 97, 120, 45, 97, 103, 101, 61]⟩ : ByteArray) ++ s]).map (·.data.toList)) (⟨#[44, 32]⟩ : ByteArray).data.toList).length ≤ 140737488355328 := by
  have h1 := ccTake_len f0 f1 f2 f3 4
  refine Nat.le_trans (join_bound _ 1100 _ ?_) ?_
  · intro x hx
    rw [List.map_append] at hx
    rcases List.mem_append.1 hx with hx | hx
    · exact ccTake_small _ _ _ _ _ x hx
    · simp only [List.map_cons, List.map_nil, List.mem_singleton] at hx
      rw [hx, ByteArray.data_append, Array.toList_append, List.length_append, data_length, data_length]
      have : (⟨#[109, 97, 120, 45, 97, 103, 101, 61]⟩ : ByteArray).size = 8 := rfl
      omega
  · rw [List.length_map, List.length_append]
    have hh : (ccTake f0 f1 f2 f3 4).length + 1 ≤ 5 := by omega
    exact Nat.le_trans (Nat.mul_le_mul_right _ hh) (by rw [data_length]; exact Nat.le_of_ble_eq_true rfl)
theorem cc_new1 (w : World) (o o' : Obj) : ((w.alloc o).alloc o').heap[w.heap.size + 1]? = some o' := by
  have h := blk_new (w.alloc o) o'
  have e : (w.alloc o).heap.size = w.heap.size + 1 := by go_simp
  rw [e] at h
  exact h
theorem cc_new2 (w : World) (o o' : Obj) (n : Nat) : (((w.alloc o).drewN n).alloc o').heap[w.heap.size + 1]? = some o' := by
  have h := blk_new ((w.alloc o).drewN n) o'
  have e : ((w.alloc o).drewN n).heap.size = w.heap.size + 1 := by go_simp
  rw [e] at h
  exact h
set_option maxHeartbeats 16000000 in
set_option maxRecDepth 100000 in
theorem impl_CcText.calls (a0_0 : Bool) (a0_1 : Bool) (a0_2 : Bool) (a0_3 : Bool) (a0_4 : Bool) (a0_5 : Int) (r : ByteArray) (w : World) (hGT : GLOBT w) (h : impl_CcText.f a0_0 a0_1 a0_2 a0_3 a0_4 a0_5 = some r) :
    Calls Tryd.prog 23 #[.agg #[.bool a0_0, .bool a0_1, .bool a0_2, .bool a0_3, .bool a0_4, .int .i64 a0_5]] w fun e w' => e = .returned (.string r) ∧ Below w.heap.size w w' := by
  have HGT := Aside0.mk hGT
  clear hGT
  have HB := Aside0.mk (Below.refl w.heap.size w)
  obtain ⟨inf, hinf, _⟩ := Option.map_eq_some_iff.1 (show (Tryd.prog.info? 9).map (fun i => i.size) = some 1 by kernel_rfl)
  have HINF := Aside0.mk hinf
  clear hinf
  unfold impl_CcText.f at h
  cases a0_4 with
  | true =>
    rw [if_pos rfl] at h
    obtain ⟨t, ht, h⟩ := Option.bind_eq_some_iff.mp h
    have HT1 := Aside0.mk ht
    clear ht
    cases t with
    | false =>
      rw [if_neg (by simp)] at h
      obtain rfl := Option.some.inj h
      clear h
      go_enter Tryd.func23, Tryd.ntmps23
      go_wp2_with (first | (go_at_call 81; refine (impl_inRange.calls _ _ _ _ _ HT1.out).mono ?_; rintro e w1 ⟨rfl, ⟨nd, rfl⟩⟩))
      go_ret
      exact ⟨rfl, pw_below_drewN (below_alloc (Below.refl _ _) _) _⟩
    | true =>
      rw [if_pos rfl] at h
      obtain ⟨s, hs, h⟩ := Option.bind_eq_some_iff.mp h
      have HT2 := Aside0.mk hs
      clear hs
      by_cases hsz : s.size ≤ 1000
      case neg => rw [if_neg hsz] at h; cases h
      rw [if_pos hsz] at h
      obtain rfl := Option.some.inj h
      clear h
      have s0 : (8 : Nat) + s.size ≤ 9223372036854775807 := by omega
      have HSZ := Aside0.mk hsz
      clear hsz
      go_enter Tryd.func23, Tryd.ntmps23
      go_wp2_with (first | (go_at_call 81; refine (impl_inRange.calls _ _ _ _ _ HT1.out).mono ?_; rintro e w1 ⟨rfl, ⟨nd, rfl⟩⟩))
      go_loopw [3, 25] (fun v3 v25 wr => ∃ k : Nat, k ≤ 4 ∧ v25 = .int .i64 k ∧ Aside0 (Kd.R Kd.string 9 wr w.heap.size (fun k_ => k_ ≠ w.heap.size ∧ k_ ≠ w.heap.size + 1) v3 (ccTake a0_0 a0_1 a0_2 a0_3 k)) ∧ Aside0 (wr.heap[w.heap.size]? = some (.cells #[.bool a0_0, .bool a0_1, .bool a0_2, .bool a0_3, .bool true, .int .i64 a0_5] 32 (0, 0))) ∧ Aside0 (wr.heap[w.heap.size + 1]? = some (.cells #[.bool a0_0, .bool a0_1, .bool a0_2, .bool a0_3] 106 (0, 0))) ∧ Aside0 (Below w.heap.size w wr)) (fun _ v25 _ => 4 - (intOf v25).toNat)
      case atStart => exact ⟨0, by omega, rfl, ⟨Kd.R_nil _ _ _ _ _⟩, ⟨blk_alloc (blk_drewN (blk_new w _) _) _⟩, ⟨cc_new2 _ _ _ _⟩, ⟨by repeat (first | apply below_alloc | apply pw_below_drewN | exact Below.refl _ _)⟩⟩
      case round =>
        obtain ⟨k, hk, rfl, HO, HC, HF, HB⟩ := hrel
        have hk2 : (k : Int) ≤ 4 := by omega
        have HLEN := Aside0.mk (ccTake_len a0_0 a0_1 a0_2 a0_3 k)
        by_cases hlt : k < 4
        · have hk3 : k = 0 ∨ k = 1 ∨ k = 2 ∨ k = 3 := by omega
          clear hk2 hk hlt
          rcases hk3 with rfl | rfl | rfl | rfl
          · have hfl := blk_cell HF.out 0
            cases a0_0 with
            | true =>
              go_wp2
              rw [run_index_plain wr (v := .string (⟨#[110, 111, 45, 115, 116, 111, 114, 101]⟩ : ByteArray)) Tryd.underlying107 (by kernel_rfl) HINF.out (by kernel_rfl) (by decide) rfl]
              simp only [Result.andThen]
              rw [Oper.upon_value]
              go_wp2_with (first | ((with_reducible refine gate_builtin (b := .append) (xs := #[.tmp 32, .tmp 34]) rfl ?_); at_builtin; refine Kd.R_append Kd.string (w0 := w) w.heap.size rfl (.tmp 32) (.tmp 34) 65 9 (.string ⟨#[]⟩) 16 rfl Tryd.underlying65 info9 rfl (by decide) (by omega) u3 (ccTake true a0_1 a0_2 a0_3 0) (⟨#[110, 111, 45, 115, 116, 111, 114, 101]⟩ : ByteArray) [.string (⟨#[110, 111, 45, 115, 116, 111, 114, 101]⟩ : ByteArray)] (fun k_ => k_ ≠ w.heap.size ∧ k_ ≠ w.heap.size + 1) (fun _ => False) rfl rfl ?aP (fun _ hk => hk.elim) ?aF ?aO ?aB ?aS ?aL ?_; (case aP => exact rfl); (case aB => exact bl); (case aF => exact (fun k_ hk => by have h_ := blk_lt (bk HF); exact ⟨by omega, by omega⟩)); (case aO => exact (ro HO)); (case aS => exact (below_size bl)); (case aL => have h_ := HLEN.out; omega); intro v1 w1 ho hb hg hat; have HF1 := Aside0.mk (blk_grown (bk HF) hg (Kd.R_away HO.out (fun _ hk => hk.2))); have HC1 := Aside0.mk (blk_grown (bk HC) hg (Kd.R_away HO.out (fun _ hk => hk.1))); have HO1 := Aside0.mk ho; have HB1 := Aside0.mk hb; clear ho hb hg hat))
              go_roundw
              case rel => exact ⟨1, by omega, by go_num, ⟨by rw [show ccTake true a0_1 a0_2 a0_3 1 = ccTake true a0_1 a0_2 a0_3 0 ++ [(⟨#[110, 111, 45, 115, 116, 111, 114, 101]⟩ : ByteArray)] from by rfl]; exact HO1.out⟩, HC1, HF1, HB1⟩
              case measure => simp [intOf]
            | false =>
              go_wp2
              rw [run_index_plain wr (v := .string (⟨#[110, 111, 45, 115, 116, 111, 114, 101]⟩ : ByteArray)) Tryd.underlying107 (by kernel_rfl) HINF.out (by kernel_rfl) (by decide) rfl]
              simp only [Result.andThen]
              rw [Oper.upon_value]
              go_wp2
              go_roundw
              case rel => exact ⟨1, by omega, by go_num, ⟨by rw [show ccTake false a0_1 a0_2 a0_3 1 = ccTake false a0_1 a0_2 a0_3 0 from by rfl]; exact HO.out⟩, HC, HF, HB⟩
              case measure => simp [intOf]
          · have hfl := blk_cell HF.out 1
            cases a0_1 with
            | true =>
              go_wp2
              rw [run_index_plain wr (v := .string (⟨#[110, 111, 45, 99, 97, 99, 104, 101]⟩ : ByteArray)) Tryd.underlying107 (by kernel_rfl) HINF.out (by kernel_rfl) (by decide) rfl]
              simp only [Result.andThen]
              rw [Oper.upon_value]
              go_wp2_with (first | ((with_reducible refine gate_builtin (b := .append) (xs := #[.tmp 32, .tmp 34]) rfl ?_); at_builtin; refine Kd.R_append Kd.string (w0 := w) w.heap.size rfl (.tmp 32) (.tmp 34) 65 9 (.string ⟨#[]⟩) 16 rfl Tryd.underlying65 info9 rfl (by decide) (by omega) u3 (ccTake a0_0 true a0_2 a0_3 1) (⟨#[110, 111, 45, 99, 97, 99, 104, 101]⟩ : ByteArray) [.string (⟨#[110, 111, 45, 99, 97, 99, 104, 101]⟩ : ByteArray)] (fun k_ => k_ ≠ w.heap.size ∧ k_ ≠ w.heap.size + 1) (fun _ => False) rfl rfl ?aP (fun _ hk => hk.elim) ?aF ?aO ?aB ?aS ?aL ?_; (case aP => exact rfl); (case aB => exact bl); (case aF => exact (fun k_ hk => by have h_ := blk_lt (bk HF); exact ⟨by omega, by omega⟩)); (case aO => exact (ro HO)); (case aS => exact (below_size bl)); (case aL => have h_ := HLEN.out; omega); intro v1 w1 ho hb hg hat; have HF1 := Aside0.mk (blk_grown (bk HF) hg (Kd.R_away HO.out (fun _ hk => hk.2))); have HC1 := Aside0.mk (blk_grown (bk HC) hg (Kd.R_away HO.out (fun _ hk => hk.1))); have HO1 := Aside0.mk ho; have HB1 := Aside0.mk hb; clear ho hb hg hat))
              go_roundw
              case rel => exact ⟨2, by omega, by go_num, ⟨by rw [show ccTake a0_0 true a0_2 a0_3 2 = ccTake a0_0 true a0_2 a0_3 1 ++ [(⟨#[110, 111, 45, 99, 97, 99, 104, 101]⟩ : ByteArray)] from by cases a0_0 <;> rfl]; exact HO1.out⟩, HC1, HF1, HB1⟩
              case measure => simp [intOf]
            | false =>
              go_wp2
              rw [run_index_plain wr (v := .string (⟨#[110, 111, 45, 99, 97, 99, 104, 101]⟩ : ByteArray)) Tryd.underlying107 (by kernel_rfl) HINF.out (by kernel_rfl) (by decide) rfl]
              simp only [Result.andThen]
              rw [Oper.upon_value]
              go_wp2
              go_roundw
              case rel => exact ⟨2, by omega, by go_num, ⟨by rw [show ccTake a0_0 false a0_2 a0_3 2 = ccTake a0_0 false a0_2 a0_3 1 from by cases a0_0 <;> rfl]; exact HO.out⟩, HC, HF, HB⟩
              case measure => simp [intOf]
          · have hfl := blk_cell HF.out 2
            cases a0_2 with
            | true =>
              go_wp2
              rw [run_index_plain wr (v := .string (⟨#[112, 114, 105, 118, 97, 116, 101]⟩ : ByteArray)) Tryd.underlying107 (by kernel_rfl) HINF.out (by kernel_rfl) (by decide) rfl]
              simp only [Result.andThen]
              rw [Oper.upon_value]
              go_wp2_with (first | ((with_reducible refine gate_builtin (b := .append) (xs := #[.tmp 32, .tmp 34]) rfl ?_); at_builtin; refine Kd.R_append Kd.string (w0 := w) w.heap.size rfl (.tmp 32) (.tmp 34) 65 9 (.string ⟨#[]⟩) 16 rfl Tryd.underlying65 info9 rfl (by decide) (by omega) u3 (ccTake a0_0 a0_1 true a0_3 2) (⟨#[112, 114, 105, 118, 97, 116, 101]⟩ : ByteArray) [.string (⟨#[112, 114, 105, 118, 97, 116, 101]⟩ : ByteArray)] (fun k_ => k_ ≠ w.heap.size ∧ k_ ≠ w.heap.size + 1) (fun _ => False) rfl rfl ?aP (fun _ hk => hk.elim) ?aF ?aO ?aB ?aS ?aL ?_; (case aP => exact rfl); (case aB => exact bl); (case aF => exact (fun k_ hk => by have h_ := blk_lt (bk HF); exact ⟨by omega, by omega⟩)); (case aO => exact (ro HO)); (case aS => exact (below_size bl)); (case aL => have h_ := HLEN.out; omega); intro v1 w1 ho hb hg hat; have HF1 := Aside0.mk (blk_grown (bk HF) hg (Kd.R_away HO.out (fun _ hk => hk.2))); have HC1 := Aside0.mk (blk_grown (bk HC) hg (Kd.R_away HO.out (fun _ hk => hk.1))); have HO1 := Aside0.mk ho; have HB1 := Aside0.mk hb; clear ho hb hg hat))
              go_roundw
              case rel => exact ⟨3, by omega, by go_num, ⟨by rw [show ccTake a0_0 a0_1 true a0_3 3 = ccTake a0_0 a0_1 true a0_3 2 ++ [(⟨#[112, 114, 105, 118, 97, 116, 101]⟩ : ByteArray)] from by cases a0_0 <;> cases a0_1 <;> rfl]; exact HO1.out⟩, HC1, HF1, HB1⟩
              case measure => simp [intOf]
            | false =>
              go_wp2
              rw [run_index_plain wr (v := .string (⟨#[112, 114, 105, 118, 97, 116, 101]⟩ : ByteArray)) Tryd.underlying107 (by kernel_rfl) HINF.out (by kernel_rfl) (by decide) rfl]
              simp only [Result.andThen]
              rw [Oper.upon_value]
              go_wp2
              go_roundw
              case rel => exact ⟨3, by omega, by go_num, ⟨by rw [show ccTake a0_0 a0_1 false a0_3 3 = ccTake a0_0 a0_1 false a0_3 2 from by cases a0_0 <;> cases a0_1 <;> rfl]; exact HO.out⟩, HC, HF, HB⟩
              case measure => simp [intOf]
          · have hfl := blk_cell HF.out 3
            cases a0_3 with
            | true =>
              go_wp2
              rw [run_index_plain wr (v := .string (⟨#[109, 117, 115, 116, 45, 114, 101, 118, 97, 108, 105, 100, 97, 116, 101]⟩ : ByteArray)) Tryd.underlying107 (by kernel_rfl) HINF.out (by kernel_rfl) (by decide) rfl]
              simp only [Result.andThen]
              rw [Oper.upon_value]
              go_wp2_with (first | ((with_reducible refine gate_builtin (b := .append) (xs := #[.tmp 32, .tmp 34]) rfl ?_); at_builtin; refine Kd.R_append Kd.string (w0 := w) w.heap.size rfl (.tmp 32) (.tmp 34) 65 9 (.string ⟨#[]⟩) 16 rfl Tryd.underlying65 info9 rfl (by decide) (by omega) u3 (ccTake a0_0 a0_1 a0_2 true 3) (⟨#[109, 117, 115, 116, 45, 114, 101, 118, 97, 108, 105, 100, 97, 116, 101]⟩ : ByteArray) [.string (⟨#[109, 117, 115, 116, 45, 114, 101, 118, 97, 108, 105, 100, 97, 116, 101]⟩ : ByteArray)] (fun k_ => k_ ≠ w.heap.size ∧ k_ ≠ w.heap.size + 1) (fun _ => False) rfl rfl ?aP (fun _ hk => hk.elim) ?aF ?aO ?aB ?aS ?aL ?_; (case aP => exact rfl); (case aB => exact bl); (case aF => exact (fun k_ hk => by have h_ := blk_lt (bk HF); exact ⟨by omega, by omega⟩)); (case aO => exact (ro HO)); (case aS => exact (below_size bl)); (case aL => have h_ := HLEN.out; omega); intro v1 w1 ho hb hg hat; have HF1 := Aside0.mk (blk_grown (bk HF) hg (Kd.R_away HO.out (fun _ hk => hk.2))); have HC1 := Aside0.mk (blk_grown (bk HC) hg (Kd.R_away HO.out (fun _ hk => hk.1))); have HO1 := Aside0.mk ho; have HB1 := Aside0.mk hb; clear ho hb hg hat))
              go_roundw
              case rel => exact ⟨4, by omega, by go_num, ⟨by rw [show ccTake a0_0 a0_1 a0_2 true 4 = ccTake a0_0 a0_1 a0_2 true 3 ++ [(⟨#[109, 117, 115, 116, 45, 114, 101, 118, 97, 108, 105, 100, 97, 116, 101]⟩ : ByteArray)] from by cases a0_0 <;> cases a0_1 <;> cases a0_2 <;> rfl]; exact HO1.out⟩, HC1, HF1, HB1⟩
              case measure => simp [intOf]
            | false =>
              go_wp2
              rw [run_index_plain wr (v := .string (⟨#[109, 117, 115, 116, 45, 114, 101, 118, 97, 108, 105, 100, 97, 116, 101]⟩ : ByteArray)) Tryd.underlying107 (by kernel_rfl) HINF.out (by kernel_rfl) (by decide) rfl]
              simp only [Result.andThen]
              rw [Oper.upon_value]
              go_wp2
              go_roundw
              case rel => exact ⟨4, by omega, by go_num, ⟨by rw [show ccTake a0_0 a0_1 a0_2 false 4 = ccTake a0_0 a0_1 a0_2 false 3 from by cases a0_0 <;> cases a0_1 <;> cases a0_2 <;> rfl]; exact HO.out⟩, HC, HF, HB⟩
              case measure => simp [intOf]
        · have hk4 : k = 4 := by omega
          subst hk4
          clear hk2 hk hlt
          have g4 := blk_cell HC.out 4
          have g5 := blk_cell HC.out 5
          go_wp2_with (first | (go_at_call 89; refine (impl_NumText.calls a0_5 s _ ?hg HT2.out).mono ?_; (case hg => exact GLOBT.below HGT.out bl); rintro e w5 ⟨rfl, hb⟩; have HB5 := Aside0.mk (below_step bl hb); have HO5 := Aside0.mk (Kd.R_below (ro HO) hb); have HF5 := Aside0.mk (blk_below (bk HF) hb); have HC5 := Aside0.mk (blk_below (bk HC) hb); clear hb HO HF HC HB; have HO := HO5; have HF := HF5; have HC := HC5; have HB := HB5; clear HO5 HF5 HC5 HB5) | ((with_reducible refine gate_builtin (b := .append) (xs := #[.tmp 39, .tmp 44]) rfl ?_); at_builtin; refine Kd.R_append Kd.string (w0 := w) w.heap.size rfl (.tmp 39) (.tmp 44) 65 9 (.string ⟨#[]⟩) 16 rfl Tryd.underlying65 info9 rfl (by decide) (by omega) u3 (ccTake a0_0 a0_1 a0_2 a0_3 4) ((⟨#[109, 97, 120, 45, 97, 103, 101, 61]⟩ : ByteArray) ++ s) [.string ((⟨#[109, 97, 120, 45, 97, 103, 101, 61]⟩ : ByteArray) ++ s)] (fun k_ => k_ ≠ w.heap.size ∧ k_ ≠ w.heap.size + 1) (fun _ => False) rfl rfl ?aP (fun _ hk => hk.elim) ?aF ?aO ?aB ?aS ?aL ?_; (case aP => exact rfl); (case aB => exact bl); (case aF => exact (fun k_ hk => by have h_ := blk_lt (bk HF); exact ⟨by omega, by omega⟩)); (case aO => exact (ro HO)); (case aS => exact (below_size bl)); (case aL => have h_ := HLEN.out; omega); intro v1 w1 ho hb hg hat; have HF1 := Aside0.mk (blk_grown (bk HF) hg (Kd.R_away HO.out (fun _ hk => hk.2))); have HC1 := Aside0.mk (blk_grown (bk HC) hg (Kd.R_away HO.out (fun _ hk => hk.1))); have HO1 := Aside0.mk ho; have HB1 := Aside0.mk hb; clear ho hb hg hat) | (go_at_call 90; refine (joinOwn _ _ w.heap.size _ _ _ HO1.out (by have h_ := HLEN.out; simp; omega) ?hj).mono ?_; (case hj => exact cc_join_bound _ _ _ _ _ HSZ.out); rintro e w6 ⟨rfl, hb⟩; have HB6 := Aside0.mk (below_step HB1.out hb); clear hb))
          go_ret
          exact ⟨rfl, HB6.out⟩
  | false =>
    rw [if_neg (by simp)] at h
    obtain rfl := Option.some.inj h
    clear h
    go_enter Tryd.func23, Tryd.ntmps23
    go_wp2
    go_loopw [3, 25] (fun v3 v25 wr => ∃ k : Nat, k ≤ 4 ∧ v25 = .int .i64 k ∧ Aside0 (Kd.R Kd.string 9 wr w.heap.size (fun k_ => k_ ≠ w.heap.size ∧ k_ ≠ w.heap.size + 1) v3 (ccTake a0_0 a0_1 a0_2 a0_3 k)) ∧ Aside0 (wr.heap[w.heap.size]? = some (.cells #[.bool a0_0, .bool a0_1, .bool a0_2, .bool a0_3, .bool false, .int .i64 a0_5] 32 (0, 0))) ∧ Aside0 (wr.heap[w.heap.size + 1]? = some (.cells #[.bool a0_0, .bool a0_1, .bool a0_2, .bool a0_3] 106 (0, 0))) ∧ Aside0 (Below w.heap.size w wr)) (fun _ v25 _ => 4 - (intOf v25).toNat)
    case atStart => exact ⟨0, by omega, rfl, ⟨Kd.R_nil _ _ _ _ _⟩, ⟨blk_alloc (blk_new w _) _⟩, ⟨cc_new1 _ _ _⟩, ⟨by repeat (first | apply below_alloc | apply pw_below_drewN | exact Below.refl _ _)⟩⟩
    case round =>
      obtain ⟨k, hk, rfl, HO, HC, HF, HB⟩ := hrel
      have hk2 : (k : Int) ≤ 4 := by omega
      have HLEN := Aside0.mk (ccTake_len a0_0 a0_1 a0_2 a0_3 k)
      by_cases hlt : k < 4
      · have hk3 : k = 0 ∨ k = 1 ∨ k = 2 ∨ k = 3 := by omega
        clear hk2 hk hlt
        rcases hk3 with rfl | rfl | rfl | rfl
        · have hfl := blk_cell HF.out 0
          cases a0_0 with
          | true =>
            go_wp2
            rw [run_index_plain wr (v := .string (⟨#[110, 111, 45, 115, 116, 111, 114, 101]⟩ : ByteArray)) Tryd.underlying107 (by kernel_rfl) HINF.out (by kernel_rfl) (by decide) rfl]
            simp only [Result.andThen]
            rw [Oper.upon_value]
            go_wp2_with (first | ((with_reducible refine gate_builtin (b := .append) (xs := #[.tmp 32, .tmp 34]) rfl ?_); at_builtin; refine Kd.R_append Kd.string (w0 := w) w.heap.size rfl (.tmp 32) (.tmp 34) 65 9 (.string ⟨#[]⟩) 16 rfl Tryd.underlying65 info9 rfl (by decide) (by omega) u3 (ccTake true a0_1 a0_2 a0_3 0) (⟨#[110, 111, 45, 115, 116, 111, 114, 101]⟩ : ByteArray) [.string (⟨#[110, 111, 45, 115, 116, 111, 114, 101]⟩ : ByteArray)] (fun k_ => k_ ≠ w.heap.size ∧ k_ ≠ w.heap.size + 1) (fun _ => False) rfl rfl ?aP (fun _ hk => hk.elim) ?aF ?aO ?aB ?aS ?aL ?_; (case aP => exact rfl); (case aB => exact bl); (case aF => exact (fun k_ hk => by have h_ := blk_lt (bk HF); exact ⟨by omega, by omega⟩)); (case aO => exact (ro HO)); (case aS => exact (below_size bl)); (case aL => have h_ := HLEN.out; omega); intro v1 w1 ho hb hg hat; have HF1 := Aside0.mk (blk_grown (bk HF) hg (Kd.R_away HO.out (fun _ hk => hk.2))); have HC1 := Aside0.mk (blk_grown (bk HC) hg (Kd.R_away HO.out (fun _ hk => hk.1))); have HO1 := Aside0.mk ho; have HB1 := Aside0.mk hb; clear ho hb hg hat))
            go_roundw
            case rel => exact ⟨1, by omega, by go_num, ⟨by rw [show ccTake true a0_1 a0_2 a0_3 1 = ccTake true a0_1 a0_2 a0_3 0 ++ [(⟨#[110, 111, 45, 115, 116, 111, 114, 101]⟩ : ByteArray)] from by rfl]; exact HO1.out⟩, HC1, HF1, HB1⟩
            case measure => simp [intOf]
          | false =>
            go_wp2
            rw [run_index_plain wr (v := .string (⟨#[110, 111, 45, 115, 116, 111, 114, 101]⟩ : ByteArray)) Tryd.underlying107 (by kernel_rfl) HINF.out (by kernel_rfl) (by decide) rfl]
            simp only [Result.andThen]
            rw [Oper.upon_value]
            go_wp2
            go_roundw
            case rel => exact ⟨1, by omega, by go_num, ⟨by rw [show ccTake false a0_1 a0_2 a0_3 1 = ccTake false a0_1 a0_2 a0_3 0 from by rfl]; exact HO.out⟩, HC, HF, HB⟩
            case measure => simp [intOf]
        · have hfl := blk_cell HF.out 1
          cases a0_1 with
          | true =>
            go_wp2
            rw [run_index_plain wr (v := .string (⟨#[110, 111, 45, 99, 97, 99, 104, 101]⟩ : ByteArray)) Tryd.underlying107 (by kernel_rfl) HINF.out (by kernel_rfl) (by decide) rfl]
            simp only [Result.andThen]
            rw [Oper.upon_value]
            go_wp2_with (first | ((with_reducible refine gate_builtin (b := .append) (xs := #[.tmp 32, .tmp 34]) rfl ?_); at_builtin; refine Kd.R_append Kd.string (w0 := w) w.heap.size rfl (.tmp 32) (.tmp 34) 65 9 (.string ⟨#[]⟩) 16 rfl Tryd.underlying65 info9 rfl (by decide) (by omega) u3 (ccTake a0_0 true a0_2 a0_3 1) (⟨#[110, 111, 45, 99, 97, 99, 104, 101]⟩ : ByteArray) [.string (⟨#[110, 111, 45, 99, 97, 99, 104, 101]⟩ : ByteArray)] (fun k_ => k_ ≠ w.heap.size ∧ k_ ≠ w.heap.size + 1) (fun _ => False) rfl rfl ?aP (fun _ hk => hk.elim) ?aF ?aO ?aB ?aS ?aL ?_; (case aP => exact rfl); (case aB => exact bl); (case aF => exact (fun k_ hk => by have h_ := blk_lt (bk HF); exact ⟨by omega, by omega⟩)); (case aO => exact (ro HO)); (case aS => exact (below_size bl)); (case aL => have h_ := HLEN.out; omega); intro v1 w1 ho hb hg hat; have HF1 := Aside0.mk (blk_grown (bk HF) hg (Kd.R_away HO.out (fun _ hk => hk.2))); have HC1 := Aside0.mk (blk_grown (bk HC) hg (Kd.R_away HO.out (fun _ hk => hk.1))); have HO1 := Aside0.mk ho; have HB1 := Aside0.mk hb; clear ho hb hg hat))
            go_roundw
            case rel => exact ⟨2, by omega, by go_num, ⟨by rw [show ccTake a0_0 true a0_2 a0_3 2 = ccTake a0_0 true a0_2 a0_3 1 ++ [(⟨#[110, 111, 45, 99, 97, 99, 104, 101]⟩ : ByteArray)] from by cases a0_0 <;> rfl]; exact HO1.out⟩, HC1, HF1, HB1⟩
            case measure => simp [intOf]
          | false =>
            go_wp2
            rw [run_index_plain wr (v := .string (⟨#[110, 111, 45, 99, 97, 99, 104, 101]⟩ : ByteArray)) Tryd.underlying107 (by kernel_rfl) HINF.out (by kernel_rfl) (by decide) rfl]
            simp only [Result.andThen]
            rw [Oper.upon_value]
            go_wp2
            go_roundw
            case rel => exact ⟨2, by omega, by go_num, ⟨by rw [show ccTake a0_0 false a0_2 a0_3 2 = ccTake a0_0 false a0_2 a0_3 1 from by cases a0_0 <;> rfl]; exact HO.out⟩, HC, HF, HB⟩
            case measure => simp [intOf]
        · have hfl := blk_cell HF.out 2
          cases a0_2 with
          | true =>
            go_wp2
            rw [run_index_plain wr (v := .string (⟨#[112, 114, 105, 118, 97, 116, 101]⟩ : ByteArray)) Tryd.underlying107 (by kernel_rfl) HINF.out (by kernel_rfl) (by decide) rfl]
            simp only [Result.andThen]
            rw [Oper.upon_value]
            go_wp2_with (first | ((with_reducible refine gate_builtin (b := .append) (xs := #[.tmp 32, .tmp 34]) rfl ?_); at_builtin; refine Kd.R_append Kd.string (w0 := w) w.heap.size rfl (.tmp 32) (.tmp 34) 65 9 (.string ⟨#[]⟩) 16 rfl Tryd.underlying65 info9 rfl (by decide) (by omega) u3 (ccTake a0_0 a0_1 true a0_3 2) (⟨#[112, 114, 105, 118, 97, 116, 101]⟩ : ByteArray) [.string (⟨#[112, 114, 105, 118, 97, 116, 101]⟩ : ByteArray)] (fun k_ => k_ ≠ w.heap.size ∧ k_ ≠ w.heap.size + 1) (fun _ => False) rfl rfl ?aP (fun _ hk => hk.elim) ?aF ?aO ?aB ?aS ?aL ?_; (case aP => exact rfl); (case aB => exact bl); (case aF => exact (fun k_ hk => by have h_ := blk_lt (bk HF); exact ⟨by omega, by omega⟩)); (case aO => exact (ro HO)); (case aS => exact (below_size bl)); (case aL => have h_ := HLEN.out; omega); intro v1 w1 ho hb hg hat; have HF1 := Aside0.mk (blk_grown (bk HF) hg (Kd.R_away HO.out (fun _ hk => hk.2))); have HC1 := Aside0.mk (blk_grown (bk HC) hg (Kd.R_away HO.out (fun _ hk => hk.1))); have HO1 := Aside0.mk ho; have HB1 := Aside0.mk hb; clear ho hb hg hat))
            go_roundw
            case rel => exact ⟨3, by omega, by go_num, ⟨by rw [show ccTake a0_0 a0_1 true a0_3 3 = ccTake a0_0 a0_1 true a0_3 2 ++ [(⟨#[112, 114, 105, 118, 97, 116, 101]⟩ : ByteArray)] from by cases a0_0 <;> cases a0_1 <;> rfl]; exact HO1.out⟩, HC1, HF1, HB1⟩
            case measure => simp [intOf]
          | false =>
            go_wp2
            rw [run_index_plain wr (v := .string (⟨#[112, 114, 105, 118, 97, 116, 101]⟩ : ByteArray)) Tryd.underlying107 (by kernel_rfl) HINF.out (by kernel_rfl) (by decide) rfl]
            simp only [Result.andThen]
            rw [Oper.upon_value]
            go_wp2
            go_roundw
            case rel => exact ⟨3, by omega, by go_num, ⟨by rw [show ccTake a0_0 a0_1 false a0_3 3 = ccTake a0_0 a0_1 false a0_3 2 from by cases a0_0 <;> cases a0_1 <;> rfl]; exact HO.out⟩, HC, HF, HB⟩
            case measure => simp [intOf]
        · have hfl := blk_cell HF.out 3
          cases a0_3 with
          | true =>
            go_wp2
            rw [run_index_plain wr (v := .string (⟨#[109, 117, 115, 116, 45, 114, 101, 118, 97, 108, 105, 100, 97, 116, 101]⟩ : ByteArray)) Tryd.underlying107 (by kernel_rfl) HINF.out (by kernel_rfl) (by decide) rfl]
            simp only [Result.andThen]
            rw [Oper.upon_value]
            go_wp2_with (first | ((with_reducible refine gate_builtin (b := .append) (xs := #[.tmp 32, .tmp 34]) rfl ?_); at_builtin; refine Kd.R_append Kd.string (w0 := w) w.heap.size rfl (.tmp 32) (.tmp 34) 65 9 (.string ⟨#[]⟩) 16 rfl Tryd.underlying65 info9 rfl (by decide) (by omega) u3 (ccTake a0_0 a0_1 a0_2 true 3) (⟨#[109, 117, 115, 116, 45, 114, 101, 118, 97, 108, 105, 100, 97, 116, 101]⟩ : ByteArray) [.string (⟨#[109, 117, 115, 116, 45, 114, 101, 118, 97, 108, 105, 100, 97, 116, 101]⟩ : ByteArray)] (fun k_ => k_ ≠ w.heap.size ∧ k_ ≠ w.heap.size + 1) (fun _ => False) rfl rfl ?aP (fun _ hk => hk.elim) ?aF ?aO ?aB ?aS ?aL ?_; (case aP => exact rfl); (case aB => exact bl); (case aF => exact (fun k_ hk => by have h_ := blk_lt (bk HF); exact ⟨by omega, by omega⟩)); (case aO => exact (ro HO)); (case aS => exact (below_size bl)); (case aL => have h_ := HLEN.out; omega); intro v1 w1 ho hb hg hat; have HF1 := Aside0.mk (blk_grown (bk HF) hg (Kd.R_away HO.out (fun _ hk => hk.2))); have HC1 := Aside0.mk (blk_grown (bk HC) hg (Kd.R_away HO.out (fun _ hk => hk.1))); have HO1 := Aside0.mk ho; have HB1 := Aside0.mk hb; clear ho hb hg hat))
            go_roundw
            case rel => exact ⟨4, by omega, by go_num, ⟨by rw [show ccTake a0_0 a0_1 a0_2 true 4 = ccTake a0_0 a0_1 a0_2 true 3 ++ [(⟨#[109, 117, 115, 116, 45, 114, 101, 118, 97, 108, 105, 100, 97, 116, 101]⟩ : ByteArray)] from by cases a0_0 <;> cases a0_1 <;> cases a0_2 <;> rfl]; exact HO1.out⟩, HC1, HF1, HB1⟩
            case measure => simp [intOf]
          | false =>
            go_wp2
            rw [run_index_plain wr (v := .string (⟨#[109, 117, 115, 116, 45, 114, 101, 118, 97, 108, 105, 100, 97, 116, 101]⟩ : ByteArray)) Tryd.underlying107 (by kernel_rfl) HINF.out (by kernel_rfl) (by decide) rfl]
            simp only [Result.andThen]
            rw [Oper.upon_value]
            go_wp2
            go_roundw
            case rel => exact ⟨4, by omega, by go_num, ⟨by rw [show ccTake a0_0 a0_1 a0_2 false 4 = ccTake a0_0 a0_1 a0_2 false 3 from by cases a0_0 <;> cases a0_1 <;> cases a0_2 <;> rfl]; exact HO.out⟩, HC, HF, HB⟩
            case measure => simp [intOf]
      · have hk4 : k = 4 := by omega
        subst hk4
        clear hk2 hk hlt
        have g4 := blk_cell HC.out 4
        go_wp2_with (first | (go_at_call 90; refine (joinOwn _ _ w.heap.size _ _ _ (ro HO) (by have h_ := HLEN.out; omega) ?hj).mono ?_; (case hj => have h_ := HLEN.out; refine Nat.le_trans (join_bound _ 1100 _ (ccTake_small _ _ _ _ _)) ?_; (simp only [List.length_map, data_length]; have : (⟨#[44, 32]⟩ : ByteArray).size = 2 := rfl; have : ([44, 32] : List UInt8).length = 2 := rfl; exact Nat.le_trans (Nat.mul_le_mul_right _ h_) (by omega))); rintro e w6 ⟨rfl, hb⟩; have HB6 := Aside0.mk (below_step bl hb); clear hb))
        go_ret
        exact ⟨rfl, HB6.out⟩

/-! ### laws_FnExactCcText: function 5 -/
def laws_FnExactCcText.f (k : Nat) (a0_0 : Bool) (a0_1 : Bool) (a0_2 : Bool) (a0_3 : Bool) (a0_4 : Bool) (a0_5 : Int) : Option (Bool) := (laws_toCc.f a0_0 a0_1 a0_2 a0_3 a0_4 a0_5).bind fun bt168 => ((spec_CcText.f k bt168.1 bt168.2.1 bt168.2.2.1 bt168.2.2.2.1 bt168.2.2.2.2.1 bt168.2.2.2.2.2).bind fun t174 => ((laws_toCc.f a0_0 a0_1 a0_2 a0_3 a0_4 a0_5).bind fun bt175 => ((impl_CcText.f bt175.1 bt175.2.1 bt175.2.2.1 bt175.2.2.2.1 bt175.2.2.2.2.1 bt175.2.2.2.2.2).bind fun t181 => (if t181.toList = t174.toList then (some true) else (some false)))))
theorem laws_FnExactCcText.mono : ∀ a0 a1 a2 a3 a4 a5 k, LeO (laws_FnExactCcText.f k a0 a1 a2 a3 a4 a5) (laws_FnExactCcText.f (k + 1) a0 a1 a2 a3 a4 a5) := by
  intro a0 a1 a2 a3 a4 a5 k
  unfold laws_FnExactCcText.f
  repeat' first
      | (with_reducible exact spec_CcText.mono _ _ _ _ _ _ _)
      | (with_reducible exact LeO.refl _)
      | (with_reducible exact LeO.none _)
      | (with_reducible refine LeO.ite ?_ ?_)
      | (with_reducible refine LeO.bind ?_ (fun _ => ?_))
      | exact spec_CcText.mono _ _ _ _ _ _ _
      | exact LeO.none _
      | refine LeO.ite ?_ ?_
      | refine LeO.bind ?_ (fun _ => ?_)
set_option maxHeartbeats 8000000 in
set_option maxRecDepth 100000 in
theorem laws_FnExactCcText.calls (k : Nat) (a0_0 : Bool) (a0_1 : Bool) (a0_2 : Bool) (a0_3 : Bool) (a0_4 : Bool) (a0_5 : Int) (r : Bool) (w : World) (hGT : GLOBT w) (ht_ : r = true) (h : laws_FnExactCcText.f k a0_0 a0_1 a0_2 a0_3 a0_4 a0_5 = some r) :
    Calls Tryd.prog 5 #[.agg #[.bool a0_0, .bool a0_1, .bool a0_2, .bool a0_3, .bool a0_4, .int .i64 a0_5]] w fun e w' => e = .returned (.bool r) ∧ Below w.heap.size w w' := by
  have hu30 := Tryd.underlying30
  have HGT := Aside0.mk hGT
  clear hGT
  have HB := Aside0.mk (Below.refl w.heap.size w)
  have H : ((laws_toCc.f a0_0 a0_1 a0_2 a0_3 a0_4 a0_5).bind fun bt168 => ((spec_CcText.f k bt168.1 bt168.2.1 bt168.2.2.1 bt168.2.2.2.1 bt168.2.2.2.2.1 bt168.2.2.2.2.2).bind fun t174 => ((laws_toCc.f a0_0 a0_1 a0_2 a0_3 a0_4 a0_5).bind fun bt175 => ((impl_CcText.f bt175.1 bt175.2.1 bt175.2.2.1 bt175.2.2.2.1 bt175.2.2.2.2.1 bt175.2.2.2.2.2).bind fun t181 => (if t181.toList = t174.toList then (some true) else (some false)))))) = some r := h
  clear h
  replace H := Option.bind_eq_some_iff.mp H
  obtain ⟨⟨t168, t169, t170, t171, t172, t173⟩, A20, H⟩ := H
  replace H : ((spec_CcText.f k t168 t169 t170 t171 t172 t173).bind fun t174 => ((laws_toCc.f a0_0 a0_1 a0_2 a0_3 a0_4 a0_5).bind fun bt175 => ((impl_CcText.f bt175.1 bt175.2.1 bt175.2.2.1 bt175.2.2.2.1 bt175.2.2.2.2.1 bt175.2.2.2.2.2).bind fun t181 => (if t181.toList = t174.toList then (some true) else (some false))))) = some r := H
  have A2 := Aside0.mk A20
  clear A20
  replace H := Option.bind_eq_some_iff.mp H
  obtain ⟨t174, A30, H⟩ := H
  replace H : ((laws_toCc.f a0_0 a0_1 a0_2 a0_3 a0_4 a0_5).bind fun bt175 => ((impl_CcText.f bt175.1 bt175.2.1 bt175.2.2.1 bt175.2.2.2.1 bt175.2.2.2.2.1 bt175.2.2.2.2.2).bind fun t181 => (if t181.toList = t174.toList then (some true) else (some false)))) = some r := H
  have A3 := Aside0.mk A30
  clear A30
  replace H := Option.bind_eq_some_iff.mp H
  obtain ⟨⟨t175, t176, t177, t178, t179, t180⟩, A40, H⟩ := H
  replace H : ((impl_CcText.f t175 t176 t177 t178 t179 t180).bind fun t181 => (if t181.toList = t174.toList then (some true) else (some false))) = some r := H
  have A4 := Aside0.mk A40
  clear A40
  replace H := Option.bind_eq_some_iff.mp H
  obtain ⟨t181, A50, H⟩ := H
  replace H : (if t181.toList = t174.toList then (some true) else (some false)) = some r := H
  have A5 := Aside0.mk A50
  clear A50
  by_cases c6 : t181.toList = t174.toList
  · rw [if_pos c6] at H
    have c6b0 : (t181.toList == t174.toList) = true := beq_iff_eq.mpr c6
    have c6b1 : (t181.toList != t174.toList) = false := bne_eq_false_iff_eq.mpr c6
    clear c6
    obtain rfl := Option.some.inj H
    go_enter Tryd.func5, Tryd.ntmps5
    go_wp2_with (first | ((with_reducible refine gate_dst (N := 1) rfl ?_); refine box_event ?hg (N := 1) ?hd (cs := #[.bool a0_0, .bool a0_1, .bool a0_2, .bool a0_3, .bool a0_4, .int .i64 a0_5]) (t := 30) ?hr ?_; (case hd => rfl); (case hg => rfl); (case hr => first | (go_simp; done) | (go_simp; rfl)); intro gb167 hg w7 hbox hb; have n0_ := Aside0.mk (below_step bl hb); have n1_ := Aside0.mk (hbox); have n2_ := Aside0.mk ((by rw [hg]; exact (below_size bl) : w.heap.size ≤ gb167)); have n3_ := Aside0.mk ((by rw [hg]; exact (below_size bl) : w.heap.size ≤ gb167)); clear HB; have HB := n0_; have BK167 := n1_; have GW167 := n2_; have GE167 := n3_; clear n0_ n1_ n2_ n3_; clear hb hbox hg; have hcz8_0 : w7.cell? ⟨gb167, 0, none⟩ = some (.bool a0_0) := (blk_cell BK167.out 0).trans rfl; have hcz8_1 : w7.cell? ⟨gb167, 1, none⟩ = some (.bool a0_1) := (blk_cell BK167.out 1).trans rfl; have hcz8_2 : w7.cell? ⟨gb167, 2, none⟩ = some (.bool a0_2) := (blk_cell BK167.out 2).trans rfl; have hcz8_3 : w7.cell? ⟨gb167, 3, none⟩ = some (.bool a0_3) := (blk_cell BK167.out 3).trans rfl; have hcz8_4 : w7.cell? ⟨gb167, 4, none⟩ = some (.bool a0_4) := (blk_cell BK167.out 4).trans rfl; have hcz8_5 : w7.cell? ⟨gb167, 5, none⟩ = some (.int .i64 a0_5) := (blk_cell BK167.out 5).trans rfl; have hfz8_0 := blk_frozen BK167.out 0; have hfz8_1 := blk_frozen BK167.out 1; have hfz8_2 := blk_frozen BK167.out 2; have hfz8_3 := blk_frozen BK167.out 3; have hfz8_4 := blk_frozen BK167.out 4; have hfz8_5 := blk_frozen BK167.out 5) | ((with_reducible refine gate_callee (f := 22) rfl ?_); refine goesL_ (some 6) rfl rfl Tryd.func22 (by kernel_rfl) rfl #[.agg #[.bool a0_0, .bool a0_1, .bool a0_2, .bool a0_3, .bool a0_4, .int .i64 a0_5]] rfl ma ?_; (with_reducible refine (laws_toCc.calls a0_0 a0_1 a0_2 a0_3 a0_4 a0_5 t168 t169 t170 t171 t172 t173 _ A2.out).mono ?_); rintro e w9 ⟨rfl, hb⟩; refine ⟨_, rfl, ?_⟩; replace BK167 := kb BK167 hb; replace HB := Aside0.mk (below_step bl hb); (try clear hb); (try clear hb2); (try clear hk); (try clear hi)) | ((with_reducible refine gate_callee (f := 21) rfl ?_); refine goesL_ (some 7) rfl rfl Tryd.func21 (by kernel_rfl) rfl #[.agg #[.bool t168, .bool t169, .bool t170, .bool t171, .bool t172, .int .i64 t173]] rfl ma ?_; (with_reducible refine (spec_CcText.calls k t168 t169 t170 t171 t172 t173 t174 _ A3.out).mono ?_); rintro e w10 ⟨rfl, hb⟩; refine ⟨_, rfl, ?_⟩; replace BK167 := kb BK167 hb; replace HB := Aside0.mk (below_step bl hb); (try clear hb); (try clear hb2); (try clear hk); (try clear hi); have hcz11_0 : w10.cell? ⟨gb167, 0, none⟩ = some (.bool a0_0) := (blk_cell BK167.out 0).trans rfl; have hcz11_1 : w10.cell? ⟨gb167, 1, none⟩ = some (.bool a0_1) := (blk_cell BK167.out 1).trans rfl; have hcz11_2 : w10.cell? ⟨gb167, 2, none⟩ = some (.bool a0_2) := (blk_cell BK167.out 2).trans rfl; have hcz11_3 : w10.cell? ⟨gb167, 3, none⟩ = some (.bool a0_3) := (blk_cell BK167.out 3).trans rfl; have hcz11_4 : w10.cell? ⟨gb167, 4, none⟩ = some (.bool a0_4) := (blk_cell BK167.out 4).trans rfl; have hcz11_5 : w10.cell? ⟨gb167, 5, none⟩ = some (.int .i64 a0_5) := (blk_cell BK167.out 5).trans rfl; have hfz11_0 := blk_frozen BK167.out 0; have hfz11_1 := blk_frozen BK167.out 1; have hfz11_2 := blk_frozen BK167.out 2; have hfz11_3 := blk_frozen BK167.out 3; have hfz11_4 := blk_frozen BK167.out 4; have hfz11_5 := blk_frozen BK167.out 5) | ((with_reducible refine gate_callee (f := 22) rfl ?_); refine goesL_ (some 9) rfl rfl Tryd.func22 (by kernel_rfl) rfl #[.agg #[.bool a0_0, .bool a0_1, .bool a0_2, .bool a0_3, .bool a0_4, .int .i64 a0_5]] rfl ma ?_; (with_reducible refine (laws_toCc.calls a0_0 a0_1 a0_2 a0_3 a0_4 a0_5 t175 t176 t177 t178 t179 t180 _ A4.out).mono ?_); rintro e w12 ⟨rfl, hb⟩; refine ⟨_, rfl, ?_⟩; replace BK167 := kb BK167 hb; replace HB := Aside0.mk (below_step bl hb); (try clear hb); (try clear hb2); (try clear hk); (try clear hi)) | ((with_reducible refine gate_callee (f := 23) rfl ?_); refine goesL_ (some 10) rfl rfl Tryd.func23 (by kernel_rfl) rfl #[.agg #[.bool t175, .bool t176, .bool t177, .bool t178, .bool t179, .int .i64 t180]] rfl ma ?_; (with_reducible refine (impl_CcText.calls t175 t176 t177 t178 t179 t180 t181 _ ?side1 A5.out).mono ?_); (case side1 => exact GLOBT.below HGT.out bl); rintro e w13 ⟨rfl, hb⟩; refine ⟨_, rfl, ?_⟩; replace BK167 := kb BK167 hb; replace HB := Aside0.mk (below_step bl hb); (try clear hb); (try clear hb2); (try clear hk); (try clear hi)))
    go_ret
    exact ⟨rf, bl⟩
  · rw [if_neg c6] at H
    have c6b0 : (t181.toList == t174.toList) = false := beq_eq_false_iff_ne.mpr c6
    have c6b1 : (t181.toList != t174.toList) = true := bne_iff_ne.mpr c6
    exact absurd (Option.some.inj H) (by rw [ht_]; decide)

end Go.Proofs.YtogdmlgbdbgpkaaDoor.All
