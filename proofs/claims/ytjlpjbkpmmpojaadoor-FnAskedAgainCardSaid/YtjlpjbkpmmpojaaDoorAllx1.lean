-- Written by a program of this session (wip/tools/hprint.py) out of the translation. Lean checks it.
import Derived.Test.YtjlpjbkpmmpojaaDoorAllx0
namespace Go.Proofs.YtjlpjbkpmmpojaaDoor.All
open Go.RowKit Go.Proofs.YtjlpjbkpmmpojaaDoorW.PrintWords Go.Proofs.YtjlpjbkpmmpojaaDoorW.PrintLast Go.Proofs.YtjlpjbkpmmpojaaDoorW.PrintMore
attribute [local go_sem] max2_int min2_int max_two min_two max_three min_three max_four min_four   -- for this text's walks alone
set_option linter.unusedVariables false
set_option linter.unusedSimpArgs false

/-! #### words -/
theorem eqA46 (d : Nat) (w : World) (x0 y0 : ByteArray) (x1 y1 : ByteArray) :
  (Op.equalIn (d + 2) 46 (.agg #[.string x0, .string x1]) (.agg #[.string y0, .string y1])).run Tryd.prog w = .ok (x0.toList == y0.toList && (x1.toList == y1.toList)) w := by
 refine eqA_of Tryd.underlying46 (by kernel_rfl) ?_
 refine eqf_cons (by rfl) (by go_simp; rfl) (by go_simp; rfl) (by go_simp) ?_
 exact eqf_last (by rfl) (by go_simp; rfl) (by go_simp; rfl) (by go_simp)

/-! ### laws_big: function 4 -/
def laws_big.f (l0 : List Int) : Option (Bool) := some (decide ((l0.length : Int) > 1048576))
set_option maxHeartbeats 8000000 in
set_option maxRecDepth 100000 in
theorem laws_big.calls (A0 : Option Addr) (c0 : Nat) (l0 : List Int) (r : Bool) (w : World) (hr0 : Kd.C (Kd.int .u8) w A0 l0.length l0) (hc0 : l0.length ≤ c0) (h : laws_big.f l0 = some r) :
  Calls Tryd.prog 4 #[.slice A0 l0.length c0] w fun e w' => e = .returned (.bool r) ∧ Drawn0 w w' := by
 have HR0 := am hr0
 have HC0 := am hc0
 clear hr0 hc0
 unfold laws_big.f at h
 have H := h
 clear h
 obtain rfl := Option.some.inj H
 go_enter Tryd.func4, Tryd.ntmps4
 go_wp2
 go_ret
 exact ⟨rs, dr⟩

/-- A state of type 57 at block g of W; what its slices lead to came in by w0. -/
def IsS57 (w0 W : World) (g : Nat) (f0 : List Int) (f1 : Int) (f2 : Int) : Prop := ∃ A0 c0, W.heap[g]? = some (.cells #[.slice A0 f0.length c0, .int .i64 f1, .int .i64 f2] 57 (0, 0)) ∧ w0.heap.size ≤ g ∧ Kd.C (Kd.int .u8) w0 A0 f0.length f0
theorem IsS57.grown {w0 W : World} {g : Nat} {f0 : List Int} {f1 : Int} {f2 : Int} {W1 : World} {row : Option Nat} (h : IsS57 w0 W g f0 f1 f2) (hw : W.grownBy W1 row) (hne : some g ≠ row) : IsS57 w0 W1 g f0 f1 f2 := by
 obtain ⟨A0, c0, hb, hg, hr0⟩ := h
 exact ⟨A0, c0, blk_grown hb hw hne, hg, hr0⟩
theorem IsS57.own_neN {w0 W : World} {g : Nat} {f0 : List Int} {f1 : Int} {f2 : Int} {α : Type} {d : Kd α} {e : Nat} {base : Nat} {ok : Nat → Prop} {v : Value} {xs : List α} (h : IsS57 w0 W g f0 f1 f2) (ho : Kd.N d e W base ok v xs) (ht : e ≠ 57) : some g ≠ v.ownBlock := by
 obtain ⟨A0, c0, hb, hg, hr0⟩ := h
 exact Kd.N_ne ho hb ht
theorem IsS57.fresh {w0 W : World} {g : Nat} {f0 : List Int} {f1 : Int} {f2 : Int} (h : IsS57 w0 W g f0 f1 f2) : ∀ k, W.heap.size ≤ k → k ≠ g := by
 obtain ⟨A0, c0, hb, hg, hr0⟩ := h
 exact Kd.freshB hb
theorem IsS57.kept {w0 W : World} {g : Nat} {f0 : List Int} {f1 : Int} {f2 : Int} {W1 : World} {S : Nat → Prop} (h : IsS57 w0 W g f0 f1 f2) (hk : Kept W W1 S) (hne : ¬ S g) : IsS57 w0 W1 g f0 f1 f2 := by
 obtain ⟨A0, c0, hb, hg, hr0⟩ := h
 exact ⟨A0, c0, blk_kept hb hk hne, hg, hr0⟩
theorem IsS57.below {w0 W : World} {g : Nat} {f0 : List Int} {f1 : Int} {f2 : Int} {W1 : World} (h : IsS57 w0 W g f0 f1 f2) (hw : Below W.heap.size W W1) : IsS57 w0 W1 g f0 f1 f2 := h.grown (grown_of_below hw none) (by simp)
theorem IsS57.alloc {w0 W : World} {g : Nat} {f0 : List Int} {f1 : Int} {f2 : Int} (h : IsS57 w0 W g f0 f1 f2) (o : Obj) : IsS57 w0 (W.alloc o) g f0 f1 f2 := h.below (below_alloc (Below.refl _ _) o)
theorem IsS57.drewN {w0 W : World} {g : Nat} {f0 : List Int} {f1 : Int} {f2 : Int} (h : IsS57 w0 W g f0 f1 f2) (m : Nat) : IsS57 w0 (W.drewN m) g f0 f1 f2 := h
theorem IsS57.drew {w0 W : World} {g : Nat} {f0 : List Int} {f1 : Int} {f2 : Int} (h : IsS57 w0 W g f0 f1 f2) : IsS57 w0 W.drew g f0 f1 f2 := h
theorem IsS57.at_ {w0 W : World} {g : Nat} {f0 : List Int} {f1 : Int} {f2 : Int} {w' : World} {m : Nat} (hq : W.drewN m = w') (h : IsS57 w0 W g f0 f1 f2) : IsS57 w0 w' g f0 f1 f2 := by subst hq; exact IsS57.drewN h m
theorem IsS57.apart {w0 W : World} {g : Nat} {f0 : List Int} {f1 : Int} {f2 : Int} {α : Type} {d : Kd α} {e : Nat} {base : Nat} {ok : Nat → Prop} {v : Value} {xs : List α} (h : IsS57 w0 W g f0 f1 f2) (ho : d.R e W base ok v xs) (ht : ∀ q, q ∈ e :: d.E → q ≠ 57) : d.R e W base (fun k => ok k ∧ k ≠ g) v xs := by
 obtain ⟨A0, c0, hb, hg, hr0⟩ := h
 exact Kd.R_types ho hb ht
theorem IsS57.own_ne {w0 W : World} {g : Nat} {f0 : List Int} {f1 : Int} {f2 : Int} {α : Type} {d : Kd α} {e : Nat} {base : Nat} {ok : Nat → Prop} {v : Value} {xs : List α} (h : IsS57 w0 W g f0 f1 f2) (ho : d.R e W base ok v xs) (ht : e ≠ 57) : some g ≠ v.ownBlock := by
 obtain ⟨A0, c0, hb, hg, hr0⟩ := h
 exact Kd.R_ne ho hb ht
theorem IsS57.apartQ {w0 W : World} {g : Nat} {f0 : List Int} {f1 : Int} {f2 : Int} {α : Type} {d : Kd α} {e : Nat} {base : Nat} {ok : Nat → Prop} {v : Value} {xs : List α} (h : IsS57 w0 W g f0 f1 f2) (ho : d.Q e W base ok v xs) (ht : ∀ q, q ∈ e :: d.E → q ≠ 57) : d.Q e W base (fun k => ok k ∧ k ≠ g) v xs := by
 obtain ⟨A0, c0, hb, hg, hr0⟩ := h
 exact Kd.Q_types ho hb ht
theorem IsS57.own_neQ {w0 W : World} {g : Nat} {f0 : List Int} {f1 : Int} {f2 : Int} {α : Type} {d : Kd α} {e : Nat} {base : Nat} {ok : Nat → Prop} {v : Value} {xs : List α} (h : IsS57 w0 W g f0 f1 f2) (ho : d.Q e W base ok v xs) (ht : e ≠ 57) : some g ≠ v.ownBlock := by
 obtain ⟨A0, c0, hb, hg, hr0⟩ := h
 exact Kd.Q_ne ho hb ht
theorem IsS57.apartS {w0 W : World} {g : Nat} {f0 : List Int} {f1 : Int} {f2 : Int} {α : Type} {d : Kd α} {e : Nat} {base : Nat} {ok : Nat → Prop} {v : Value} {xs : List α} (h : IsS57 w0 W g f0 f1 f2) (ho : d.S e W base ok v xs) (ht : ∀ q, q ∈ e :: d.E → q ≠ 57) : d.S e W base (fun k => ok k ∧ k ≠ g) v xs := by
 obtain ⟨A0, c0, hb, hg, hr0⟩ := h
 exact Kd.S_types ho hb ht
theorem IsS57.own_neS {w0 W : World} {g : Nat} {f0 : List Int} {f1 : Int} {f2 : Int} {α : Type} {d : Kd α} {e : Nat} {base : Nat} {ok : Nat → Prop} {v : Value} {xs : List α} (h : IsS57 w0 W g f0 f1 f2) (ho : d.S e W base ok v xs) (ht : e ≠ 57) : some g ≠ v.ownBlock := by
 obtain ⟨A0, c0, hb, hg, hr0⟩ := h
 exact Kd.S_ne ho hb ht
theorem IsS57.lt {w0 W : World} {g : Nat} {f0 : List Int} {f1 : Int} {f2 : Int} (h : IsS57 w0 W g f0 f1 f2) : g < W.heap.size := by
 obtain ⟨A0, c0, hb, hg, hr0⟩ := h
 exact blk_lt hb
theorem IsS57.ge {w0 W : World} {g : Nat} {f0 : List Int} {f1 : Int} {f2 : Int} (h : IsS57 w0 W g f0 f1 f2) : w0.heap.size ≤ g := by
 obtain ⟨A0, c0, hb, hg, hr0⟩ := h
 exact hg
theorem IsS57.ne_blk {w0 W : World} {g : Nat} {f0 : List Int} {f1 : Int} {f2 : Int} {a : Nat} {cs : Array Value} {t : TypeId} {fr : Nat × Nat} (h : IsS57 w0 W g f0 f1 f2) (hb2 : W.heap[a]? = some (.cells cs t fr)) (ht : t ≠ 57) : g ≠ a := by
 obtain ⟨A0, c0, hb, hg, hr0⟩ := h
 rintro rfl
 rw [hb] at hb2
 injection hb2 with hb2
 injection hb2 with _ ht2
 exact ht ht2.symm
theorem IsS57.far {w0 W : World} {g : Nat} {f0 : List Int} {f1 : Int} {f2 : Int} {p : Addr} (h : IsS57 w0 W g f0 f1 f2) (hne : g ≠ p.block) (u : Value) : IsS57 w0 (W.setCell p u) g f0 f1 f2 := by
 obtain ⟨A0, c0, hb, hg, hr0⟩ := h
 exact ⟨A0, c0, blk_far hb hne u, hg, hr0⟩
theorem cellS57_0 {W : World} {g : Nat} {A0 : Option Addr} {c0 : Nat} {f0 : List Int} {f1 : Int} {f2 : Int} (h : W.heap[g]? = some (.cells #[.slice A0 f0.length c0, .int .i64 f1, .int .i64 f2] 57 (0, 0))) : W.cell? ⟨g, 0, none⟩ = some (.slice A0 f0.length c0) := (blk_cell h 0).trans rfl
theorem cellS57_1 {W : World} {g : Nat} {A0 : Option Addr} {c0 : Nat} {f0 : List Int} {f1 : Int} {f2 : Int} (h : W.heap[g]? = some (.cells #[.slice A0 f0.length c0, .int .i64 f1, .int .i64 f2] 57 (0, 0))) : W.cell? ⟨g, 1, none⟩ = some (.int .i64 f1) := (blk_cell h 1).trans rfl
theorem IsS57.set_1 {w0 W : World} {g : Nat} {f0 : List Int} {f1 : Int} {f2 : Int} (h : IsS57 w0 W g f0 f1 f2) (x : Int) : IsS57 w0 (W.setCell ⟨g, 1, none⟩ (.int .i64 x)) g f0 x f2 := by
 obtain ⟨A0, c0, hb, hg, hr0⟩ := h
 exact ⟨A0, c0, by simpa using blk_set hb 1 (.int .i64 x), hg, hr0⟩
theorem cellS57_2 {W : World} {g : Nat} {A0 : Option Addr} {c0 : Nat} {f0 : List Int} {f1 : Int} {f2 : Int} (h : W.heap[g]? = some (.cells #[.slice A0 f0.length c0, .int .i64 f1, .int .i64 f2] 57 (0, 0))) : W.cell? ⟨g, 2, none⟩ = some (.int .i64 f2) := (blk_cell h 2).trans rfl
theorem IsS57.set_2 {w0 W : World} {g : Nat} {f0 : List Int} {f1 : Int} {f2 : Int} (h : IsS57 w0 W g f0 f1 f2) (x : Int) : IsS57 w0 (W.setCell ⟨g, 2, none⟩ (.int .i64 x)) g f0 f1 x := by
 obtain ⟨A0, c0, hb, hg, hr0⟩ := h
 exact ⟨A0, c0, by simpa using blk_set hb 2 (.int .i64 x), hg, hr0⟩
theorem IsS57.new (w0 W : World) (A0 : Option Addr) (c0 : Nat) (f0 : List Int) (f1 : Int) (f2 : Int) (hB : Below w0.heap.size w0 W) (hr0 : Kd.C (Kd.int .u8) w0 A0 f0.length f0) : IsS57 w0 (W.alloc (.cells #[.slice A0 f0.length c0, .int .i64 f1, .int .i64 f2] 57)) W.heap.size f0 f1 f2 := ⟨A0, c0, by simpa using heap_alloc_new W _, hB.size, hr0⟩

/-! ### spec_l1New: function 18 -/
theorem u18HB {p : Prop} (h : p := by repeat (first | (with_reducible first | exact HB.out | apply below_alloc | apply pw_below_drewN | apply below_drew1 | refine below_set ?_ GE102.out | refine below_set ?_ GE103.out) | exact HB.out)) : p := h
theorem u18HBW {p : Prop} (h : p := by repeat (first | (with_reducible first | exact HBW.out | apply below_alloc | apply pw_below_drewN | apply below_drew1 | refine below_set ?_ GW102.out | refine below_set ?_ GW103.out) | exact HBW.out)) : p := h
def spec_l1New.l0 : Nat → List Int → Int → Int → Option (List Int × Int × Int)
 | 0, _, _, _ => none
 | k + 1, x0, x3, x4 => if x4 < (x0.length : Int) then (if x4 < 4000 then (if 0 ≤ x4 then (spec_l1New.l0 k x0 (Go.bits .and .i64 (wrap64 ((wrap64 ((wrap64 (x3 * 131)) + (wrap64 (rd x0 x4)))) + 7)) 1073741823) (wrap64 (x4 + 1))) else (none)) else (some (x0, 0, x3))) else (some (x0, 0, x3))
def spec_l1New.f (k : Nat) (l0 : List Int) : Option (List Int × Int × Int) := spec_l1New.l0 k l0 (wrap64 (18850 + (l0.length : Int))) 0
theorem spec_l1New.mono_l : ∀ k, (∀ y0 y1 y2, LeO (spec_l1New.l0 k y0 y1 y2) (spec_l1New.l0 (k + 1) y0 y1 y2))
 | 0 => fun _ _ _ r h => by simp [spec_l1New.l0] at h
 | k + 1 => by
  have ih0 := spec_l1New.mono_l k
  ·intro y0 y1 y2
   unfold spec_l1New.l0
   exact mo
theorem spec_l1New.mono : ∀ a0 k, LeO (spec_l1New.f k a0) (spec_l1New.f (k + 1) a0) := by
 intro a0 k
 have ih0 := spec_l1New.mono_l k
 unfold spec_l1New.f
 exact mo
set_option maxHeartbeats 8000000 in
set_option maxRecDepth 100000 in
theorem spec_l1New.calls (k : Nat) (A0 : Option Addr) (c0 : Nat) (l0 : List Int) (r1 : List Int) (r2 : Int) (r3 : Int) (w0 w : World) (hB : Below w0.heap.size w0 w) (hr0 : Kd.C (Kd.int .u8) w0 A0 l0.length l0) (hc0 : l0.length ≤ c0) (h : spec_l1New.f k l0 = some (r1, r2, r3)) :
  Calls Tryd.prog 18 #[.slice A0 l0.length c0] w fun e w' => ∃ g_ : Nat, e = .returned (.pointer (some ⟨g_, 0, none⟩)) ∧ IsS57 w0 w' g_ r1 r2 r3 ∧ Below w0.heap.size w0 w' ∧ Below w.heap.size w w' := by
 have hu57 := Tryd.underlying57
 have HR0 := am hr0
 have HC0 := am hc0
 clear hr0 hc0
 have HBW := am (Below.refl w.heap.size w)
 have HW0 := am hB.size
 have HB := am hB
 clear hB
 unfold spec_l1New.f at h
 have H := h
 clear h
 have H' := am H
 clear H
 go_enter Tryd.func18, Tryd.ntmps18
 go_wp2
 (try simp only [Act.put, List.setIfInBounds_toArray, List.set_cons_zero, List.set_cons_succ])
 go_loopg [3, 4] k (fun kq v3 v4 w' => ∃ (x3_1 : Int) (x4_1 : Int), v3 = .int .i64 x3_1 ∧ v4 = .int .i64 x4_1 ∧ Aside0 (spec_l1New.l0 kq l0 x3_1 x4_1 = some (r1, r2, r3)) ∧ Aside0 (kq ≤ k) ∧ Aside0 (Below w0.heap.size w0 w') ∧ Aside0 (Below w.heap.size w w'))
 case atStart => exact ⟨(wrap64 (18850 + (l0.length : Int))), (0), rs, rs, H', ⟨Nat.le_refl _⟩, ⟨u18HB⟩, ⟨u18HBW⟩⟩
 case round =>
  clear H'
  try clear c1
  obtain ⟨x3_1, x4_1, rfl, rfl, HA, HK1, HB, HBW⟩ := hrel
  cases gk with
  | zero => exact absurd HA.out (by simp [spec_l1New.l0])
  | succ k1 =>
   have H := HA.out
   clear HA
   simp only [spec_l1New.l0] at H
   by_cases c2 : x4_1 < (l0.length : Int)
   rotate_left
   ·rw [if_neg c2] at H
    have c2b0 := decide_eq_false c2
    clear c2
    simp only [Option.some.injEq, Prod.mk.injEq] at H
    obtain ⟨rfl, rfl, rfl⟩ := H
    go_wp2_with ((with_reducible refine gw ?_); first | (refine bx 31 #[.slice A0 l0.length c0, .int .i64 0, .int .i64 x3_1] 57 ?_; intro gb103 hg w6 hbox hb; have n0_ := am (below_step HBW.out hb); have n1_ := am (below_step bl hb); have n2_ := am (hbox); have n3_ := am ((by rw [hg]; exact (below_size u18HBW) : w.heap.size ≤ gb103)); have n4_ := am ((Nat.le_trans HW0.out (by rw [hg]; exact (below_size u18HBW) : w.heap.size ≤ gb103) : w0.heap.size ≤ gb103)); clear HBW; clear HB; have HBW := n0_; have HB := n1_; have BK103 := n2_; have GW103 := n3_; have GE103 := n4_; clear n0_ n1_ n2_ n3_ n4_; clear hb hbox hg))
    go_ret
    exact ⟨_, rfl, (show IsS57 w0 _ gb103 l0 0 x3_1 from ⟨_, _, by (with_reducible repeat (first | refine blk_drewN ?_ _ | refine blk_drew ?_ | refine blk_alloc ?_ _)); exact BK103.out, GE103.out, HR0.out⟩), u18HB, u18HBW⟩
   rw [if_pos c2] at H
   have c2b0 := decide_eq_true c2
   clear c2
   by_cases c3 : x4_1 < 4000
   ·rw [if_pos c3] at H
    have c3b0 := decide_eq_true c3
    clear c3
    revert H
    refine ifn fun c4 H => ?_
    have c4b0 := decide_eq_true c4
    clear c4
    have H' := am H
    clear H
    have p101 : 0 ≤ (x4_1 : Int) := od
    have q101 : x4_1 < (l0.length : Int) := od
    obtain ⟨ad101, e101, hx101_0⟩ := Kd.at_int HR0.out x4_1 p101 q101
    cases e101
    replace hx101_0 := pw_cell_below HB.out hx101_0
    replace p101 := eq_true p101
    replace q101 := eq_true q101
    go_wp2
    go_roundg k1
    case measure => have := HK1.out; omega
    case rel => exact ⟨(Go.bits .and .i64 (wrap64 ((wrap64 ((wrap64 (x3_1 * 131)) + (wrap64 (rd l0 x4_1)))) + 7)) 1073741823), (wrap64 (x4_1 + 1)), rs, rs, H', ⟨by have := HK1.out; omega⟩, ⟨u18HB⟩, ⟨u18HBW⟩⟩
   rw [if_neg c3] at H
   have c3b0 := decide_eq_false c3
   clear c3
   simp only [Option.some.injEq, Prod.mk.injEq] at H
   obtain ⟨rfl, rfl, rfl⟩ := H
   go_wp2_with ((with_reducible refine gw ?_); first | (refine bx 31 #[.slice A0 l0.length c0, .int .i64 0, .int .i64 x3_1] 57 ?_; intro gb102 hg w5 hbox hb; have n0_ := am (below_step HBW.out hb); have n1_ := am (below_step bl hb); have n2_ := am (hbox); have n3_ := am ((by rw [hg]; exact (below_size u18HBW) : w.heap.size ≤ gb102)); have n4_ := am ((Nat.le_trans HW0.out (by rw [hg]; exact (below_size u18HBW) : w.heap.size ≤ gb102) : w0.heap.size ≤ gb102)); clear HBW; clear HB; have HBW := n0_; have HB := n1_; have BK102 := n2_; have GW102 := n3_; have GE102 := n4_; clear n0_ n1_ n2_ n3_ n4_; clear hb hbox hg))
   go_ret
   exact ⟨_, rfl, (show IsS57 w0 _ gb102 l0 0 x3_1 from ⟨_, _, by (with_reducible repeat (first | refine blk_drewN ?_ _ | refine blk_drew ?_ | refine blk_alloc ?_ _)); exact BK102.out, GE102.out, HR0.out⟩), u18HB, u18HBW⟩

/-! ### spec_l1Byte: function 51 -/
theorem u51HI0 {p : Prop} (h : p := by repeat (first | (with_reducible first | exact HI0.out | apply IsS57.alloc | apply IsS57.drewN | apply IsS57.drew | apply IsS57.set_1 | apply IsS57.set_2) | exact HI0.out)) : p := h
theorem u51HB {p : Prop} (h : p := by repeat (first | (with_reducible first | exact HB.out | apply below_alloc | apply pw_below_drewN | apply below_drew1 | refine below_set ?_ (IsS57.ge HI0.out)) | exact HB.out)) : p := h
theorem u51HK {p : Prop} (h : p := by repeat (first | (with_reducible first | exact HK.out | apply KeepBut.set_ | apply keep_drewN | apply keep_drew | apply keep_alloc) | exact HK.out)) : p := h
def spec_l1Byte.f (s0_0 : List Int) (s0_1 : Int) (s0_2 : Int) : Option (Int × Int × Int) := if s0_1 < (s0_0.length : Int) then (if 0 ≤ s0_1 then (some (Go.bits .and .i64 (wrap64 ((Go.bits .and .i64 (Go.bits .xor .i64 ((wrap64 ((wrap64 (s0_2 * 6364136223846793005)) + 1442695040888963407)) / 8589934592) ((wrap64 ((wrap64 (s0_2 * 6364136223846793005)) + 1442695040888963407)) / 35184372088832)) 255) + (wrap64 (rd s0_0 s0_1)))) 255, wrap64 (s0_1 + 1), wrap64 ((wrap64 (s0_2 * 6364136223846793005)) + 1442695040888963407))) else (none)) else (some (Go.bits .and .i64 (Go.bits .xor .i64 ((wrap64 ((wrap64 (s0_2 * 6364136223846793005)) + 1442695040888963407)) / 8589934592) ((wrap64 ((wrap64 (s0_2 * 6364136223846793005)) + 1442695040888963407)) / 35184372088832)) 255, s0_1, wrap64 ((wrap64 (s0_2 * 6364136223846793005)) + 1442695040888963407)))
set_option maxHeartbeats 8000000 in
set_option maxRecDepth 100000 in
theorem spec_l1Byte.calls (g : Nat) (s0_0 : List Int) (s0_1 : Int) (s0_2 : Int) (r1 : Int) (r2 : Int) (r3 : Int) (w0 w : World) (hI : IsS57 w0 w g s0_0 s0_1 s0_2) (hB : Below w0.heap.size w0 w) (h : spec_l1Byte.f s0_0 s0_1 s0_2 = some (r1, r2, r3)) :
  Calls Tryd.prog 51 #[.pointer (some ⟨g, 0, none⟩)] w fun e w' => e = .returned (.int .i64 r1) ∧ IsS57 w0 w' g s0_0 r2 r3 ∧ Below w0.heap.size w0 w' ∧ KeepBut w w' g none := by
 have HI0 := am hI
 have HK := am (KeepBut.refl w g none)
 have HL := am hB.size
 clear hI
 have HW0 := am hB.size
 have HB := am hB
 clear hB
 unfold spec_l1Byte.f at h
 have H := h
 clear h
 by_cases c2 : s0_1 < (s0_0.length : Int)
 rotate_left
 ·rw [if_neg c2] at H
  have c2b0 := decide_eq_false c2
  clear c2
  simp only [Option.some.injEq, Prod.mk.injEq] at H
  obtain ⟨rfl, rfl, rfl⟩ := H
  obtain ⟨ASz5_0, cSz5_0, HGz5, hgz5, HSz5_0⟩ := HI0.out
  have z5_0 := cellS57_0 HGz5
  have z5_1 := cellS57_1 HGz5
  have z5_2 := cellS57_2 HGz5
  have y5_1 := blk_frozen HGz5 1
  have y5_2 := blk_frozen HGz5 2
  clear HGz5 hgz5
  go_enter Tryd.func51, Tryd.ntmps51
  go_wp2
  repeat (go_quiet (fail); try go_wp2)
  go_ret
  exact ⟨rf, u51HI0, u51HB, u51HK⟩
 rw [if_pos c2] at H
 have c2b0 := decide_eq_true c2
 clear c2
 revert H
 refine ifn fun c3 H => ?_
 have c3b0 := decide_eq_true c3
 clear c3
 simp only [Option.some.injEq, Prod.mk.injEq] at H
 obtain ⟨rfl, rfl, rfl⟩ := H
 obtain ⟨ASz4_0, cSz4_0, HGz4, hgz4, HSz4_0⟩ := HI0.out
 have z4_0 := cellS57_0 HGz4
 have z4_1 := cellS57_1 HGz4
 have z4_2 := cellS57_2 HGz4
 have y4_1 := blk_frozen HGz4 1
 have y4_2 := blk_frozen HGz4 2
 clear HGz4 hgz4
 have p104 : 0 ≤ (s0_1 : Int) := od
 have q104 : s0_1 < (s0_0.length : Int) := od
 obtain ⟨ad104, e104, hx104_0⟩ := Kd.at_int HSz4_0 s0_1 p104 q104
 cases e104
 have hn104_0 : ad104.block ≠ g := Nat.ne_of_lt (Nat.lt_of_lt_of_le (by have := World.block_lt_of_cell? _ _ hx104_0; first | rwa [add_block] at this | exact this) (IsS57.ge HI0.out))
 replace hx104_0 := pw_cell_below HB.out hx104_0
 replace hx104_0 := (cell_far (p := ⟨g, 2, none⟩) (by first | (rw [add_block]; exact hn104_0) | (show (Addr.add _ _).block ≠ _; rw [add_block]; exact hn104_0) | exact hn104_0) (.int .i64 (wrap64 ((wrap64 (s0_2 * 6364136223846793005)) + 1442695040888963407)))).trans hx104_0
 (try have hy104_0 := fun (n_ : Nat) => (show (((w.drewN n_).setCell ⟨g, 2, none⟩ (.int .i64 (wrap64 ((wrap64 (s0_2 * 6364136223846793005)) + 1442695040888963407))))).cell? _ = some _ from hx104_0))
 clear hn104_0
 replace p104 := eq_true p104
 replace q104 := eq_true q104
 go_enter Tryd.func51, Tryd.ntmps51
 go_wp2
 repeat (go_quiet (fail); try go_wp2)
 go_ret
 exact ⟨rf, u51HI0, u51HB, u51HK⟩

/-! ### spec_l1Below: function 34 -/
theorem u34HI0 {p : Prop} (h : p := by repeat (first | (with_reducible first | exact HI0.out | apply IsS57.alloc | apply IsS57.drewN | apply IsS57.drew | apply IsS57.set_1 | apply IsS57.set_2) | exact HI0.out)) : p := h
theorem u34HB {p : Prop} (h : p := by repeat (first | (with_reducible first | exact HB.out | apply below_alloc | apply pw_below_drewN | apply below_drew1 | refine below_set ?_ (IsS57.ge HI0.out)) | exact HB.out)) : p := h
theorem u34HK {p : Prop} (h : p := by repeat (first | (with_reducible first | exact HK.out | apply KeepBut.set_ | apply keep_drewN | apply keep_drew | apply keep_alloc) | exact HK.out)) : p := h
def spec_l1Below.f (s0_0 : List Int) (s0_1 : Int) (s0_2 : Int) (a1 : Int) : Option (Int × Int × Int) := if a1 ≤ 0 then (some (0, s0_1, s0_2)) else (if a1 ≤ 256 then ((spec_l1Byte.f s0_0 s0_1 s0_2).bind fun bt105 => (if a1 = 0 then (none) else (some (Int.tmod bt105.1 a1, bt105.2.1, bt105.2.2)))) else ((spec_l1Byte.f s0_0 s0_1 s0_2).bind fun bt108 => ((spec_l1Byte.f s0_0 bt108.2.1 bt108.2.2).bind fun bt111 => ((spec_l1Byte.f s0_0 bt111.2.1 bt111.2.2).bind fun bt114 => ((spec_l1Byte.f s0_0 bt114.2.1 bt114.2.2).bind fun bt117 => (if a1 = 0 then (none) else (some (Int.tmod (wrap64 ((wrap64 ((wrap64 ((wrap64 (bt108.1 * 16777216)) + (wrap64 (bt111.1 * 65536)))) + (wrap64 (bt114.1 * 256)))) + bt117.1)) a1, bt117.2.1, bt117.2.2))))))))
set_option maxHeartbeats 8000000 in
set_option maxRecDepth 100000 in
theorem spec_l1Below.calls (g : Nat) (s0_0 : List Int) (s0_1 : Int) (s0_2 : Int) (a1 : Int) (r1 : Int) (r2 : Int) (r3 : Int) (w0 w : World) (hI : IsS57 w0 w g s0_0 s0_1 s0_2) (hB : Below w0.heap.size w0 w) (h : spec_l1Below.f s0_0 s0_1 s0_2 a1 = some (r1, r2, r3)) :
  Calls Tryd.prog 34 #[.pointer (some ⟨g, 0, none⟩), .int .i64 a1] w fun e w' => e = .returned (.int .i64 r1) ∧ IsS57 w0 w' g s0_0 r2 r3 ∧ Below w0.heap.size w0 w' ∧ KeepBut w w' g none := by
 have HI0 := am hI
 have HK := am (KeepBut.refl w g none)
 have HL := am hB.size
 clear hI
 have HW0 := am hB.size
 have HB := am hB
 clear hB
 unfold spec_l1Below.f at h
 have H := h
 clear h
 by_cases c3 : a1 ≤ 0
 ·rw [if_pos c3] at H
  have c3b0 := decide_eq_true c3
  clear c3
  simp only [Option.some.injEq, Prod.mk.injEq] at H
  obtain ⟨rfl, rfl, rfl⟩ := H
  go_enter Tryd.func34, Tryd.ntmps34
  go_wp2
  go_ret
  exact ⟨rf, u34HI0, u34HB, u34HK⟩
 rw [if_neg c3] at H
 have c3b0 := decide_eq_false c3
 clear c3
 by_cases c4 : a1 ≤ 256
 ·rw [if_pos c4] at H
  have c4b0 := decide_eq_true c4
  clear c4
  revert H
  refine ok3 fun t105 t106 t107 A5 H => ?_
  (try dsimp only at H)
  by_cases c6 : a1 = 0
  ·rw [if_pos c6] at H
   exact absurd H (by simp)
  rw [if_neg c6] at H
  have c6b0 : (a1 == 0) = false := beq_eq_false_iff_ne.mpr c6
  have c6b1 : (a1 != 0) = true := bne_iff_ne.mpr c6
  simp only [Option.some.injEq, Prod.mk.injEq] at H
  obtain ⟨rfl, rfl, rfl⟩ := H
  go_enter Tryd.func34, Tryd.ntmps34
  go_wp2_with ((with_reducible refine gw ?_); first | (refine gl 14 Tryd.func51 #[.pointer (some ⟨g, 0, none⟩)] ?_; (with_reducible refine (spec_l1Byte.calls g s0_0 s0_1 s0_2 t105 t106 t107 w0 _ ?side1 ?side2 A5.out).mono ?_); (case side1 => exact u34HI0); (case side2 => exact u34HB); rintro e w7 ⟨rfl, hi, hb, hk⟩; refine ⟨_, rfl, ?_⟩; replace HK := am (KeepBut.trans u34HK hk (.inl rfl)); replace HB := am (hb); replace HI0 := am (hi); clear hb hk hi))
  go_ret
  exact ⟨rf, u34HI0, u34HB, u34HK⟩
 rw [if_neg c4] at H
 have c4b0 := decide_eq_false c4
 clear c4
 revert H
 refine ok3 fun t108 t109 t110 A8 H => ?_
 (try dsimp only at H)
 revert H
 refine ok3 fun t111 t112 t113 A9 H => ?_
 (try dsimp only at H)
 revert H
 refine ok3 fun t114 t115 t116 A10 H => ?_
 (try dsimp only at H)
 revert H
 refine ok3 fun t117 t118 t119 A11 H => ?_
 (try dsimp only at H)
 by_cases c12 : a1 = 0
 ·rw [if_pos c12] at H
  exact absurd H (by simp)
 rw [if_neg c12] at H
 have c12b0 : (a1 == 0) = false := beq_eq_false_iff_ne.mpr c12
 have c12b1 : (a1 != 0) = true := bne_iff_ne.mpr c12
 simp only [Option.some.injEq, Prod.mk.injEq] at H
 obtain ⟨rfl, rfl, rfl⟩ := H
 go_enter Tryd.func34, Tryd.ntmps34
 go_wp2_with ((with_reducible refine gw ?_); first | (refine gl 18 Tryd.func51 #[.pointer (some ⟨g, 0, none⟩)] ?_; (with_reducible refine (spec_l1Byte.calls g s0_0 s0_1 s0_2 t108 t109 t110 w0 _ ?side1 ?side2 A8.out).mono ?_); (case side1 => exact u34HI0); (case side2 => exact u34HB); rintro e w13 ⟨rfl, hi, hb, hk⟩; refine ⟨_, rfl, ?_⟩; replace HK := am (KeepBut.trans u34HK hk (.inl rfl)); replace HB := am (hb); replace HI0 := am (hi); clear hb hk hi) | (refine gl 20 Tryd.func51 #[.pointer (some ⟨g, 0, none⟩)] ?_; (with_reducible refine (spec_l1Byte.calls g s0_0 t109 t110 t111 t112 t113 w0 _ ?side1 ?side2 A9.out).mono ?_); (case side1 => exact u34HI0); (case side2 => exact u34HB); rintro e w14 ⟨rfl, hi, hb, hk⟩; refine ⟨_, rfl, ?_⟩; replace HK := am (KeepBut.trans u34HK hk (.inl rfl)); replace HB := am (hb); replace HI0 := am (hi); clear hb hk hi) | (refine gl 22 Tryd.func51 #[.pointer (some ⟨g, 0, none⟩)] ?_; (with_reducible refine (spec_l1Byte.calls g s0_0 t112 t113 t114 t115 t116 w0 _ ?side1 ?side2 A10.out).mono ?_); (case side1 => exact u34HI0); (case side2 => exact u34HB); rintro e w15 ⟨rfl, hi, hb, hk⟩; refine ⟨_, rfl, ?_⟩; replace HK := am (KeepBut.trans u34HK hk (.inl rfl)); replace HB := am (hb); replace HI0 := am (hi); clear hb hk hi) | (refine gl 24 Tryd.func51 #[.pointer (some ⟨g, 0, none⟩)] ?_; (with_reducible refine (spec_l1Byte.calls g s0_0 t115 t116 t117 t118 t119 w0 _ ?side1 ?side2 A11.out).mono ?_); (case side1 => exact u34HI0); (case side2 => exact u34HB); rintro e w16 ⟨rfl, hi, hb, hk⟩; refine ⟨_, rfl, ?_⟩; replace HK := am (KeepBut.trans u34HK hk (.inl rfl)); replace HB := am (hb); replace HI0 := am (hi); clear hb hk hi))
 go_ret
 exact ⟨rf, u34HI0, u34HB, u34HK⟩

/-! ### spec_l1Once: function 19 -/
theorem u19HI0 {p : Prop} (h : p := by repeat (first | (with_reducible first | exact HI0.out | apply IsS57.alloc | apply IsS57.drewN | apply IsS57.drew | apply IsS57.set_1 | apply IsS57.set_2) | exact HI0.out)) : p := h
theorem u19HB {p : Prop} (h : p := by repeat (first | (with_reducible first | exact HB.out | apply below_alloc | apply pw_below_drewN | apply below_drew1 | refine below_set ?_ (IsS57.ge HI0.out)) | exact HB.out)) : p := h
theorem u19HK {p : Prop} (h : p := by repeat (first | (with_reducible first | exact HK.out | apply KeepBut.set_ | apply keep_drewN | apply keep_drew | apply keep_alloc) | exact HK.out)) : p := h
def spec_l1Once.f (s0_0 : List Int) (s0_1 : Int) (s0_2 : Int) (a1 : Int) : Option (Bool × Int × Int) := (spec_l1Below.f s0_0 s0_1 s0_2 a1).bind fun bt120 => (some ((bt120.1 == 0), bt120.2.1, bt120.2.2))
set_option maxHeartbeats 8000000 in
set_option maxRecDepth 100000 in
theorem spec_l1Once.calls (g : Nat) (s0_0 : List Int) (s0_1 : Int) (s0_2 : Int) (a1 : Int) (r1 : Bool) (r2 : Int) (r3 : Int) (w0 w : World) (hI : IsS57 w0 w g s0_0 s0_1 s0_2) (hB : Below w0.heap.size w0 w) (h : spec_l1Once.f s0_0 s0_1 s0_2 a1 = some (r1, r2, r3)) :
  Calls Tryd.prog 19 #[.pointer (some ⟨g, 0, none⟩), .int .i64 a1] w fun e w' => e = .returned (.bool r1) ∧ IsS57 w0 w' g s0_0 r2 r3 ∧ Below w0.heap.size w0 w' ∧ KeepBut w w' g none := by
 have HI0 := am hI
 have HK := am (KeepBut.refl w g none)
 have HL := am hB.size
 clear hI
 have HW0 := am hB.size
 have HB := am hB
 clear hB
 unfold spec_l1Once.f at h
 have H := h
 clear h
 revert H
 refine ok3 fun t120 t121 t122 A3 H => ?_
 (try dsimp only at H)
 simp only [Option.some.injEq, Prod.mk.injEq] at H
 obtain ⟨rfl, rfl, rfl⟩ := H
 go_enter Tryd.func19, Tryd.ntmps19
 go_wp2_with ((with_reducible refine gw ?_); first | (refine gl 7 Tryd.func34 #[.pointer (some ⟨g, 0, none⟩), .int .i64 a1] ?_; (with_reducible refine (spec_l1Below.calls g s0_0 s0_1 s0_2 a1 t120 t121 t122 w0 _ ?side1 ?side2 A3.out).mono ?_); (case side1 => exact u19HI0); (case side2 => exact u19HB); rintro e w4 ⟨rfl, hi, hb, hk⟩; refine ⟨_, rfl, ?_⟩; replace HK := am (KeepBut.trans u19HK hk (.inl rfl)); replace HB := am (hb); replace HI0 := am (hi); clear hb hk hi))
 go_ret
 exact ⟨rf, u19HI0, u19HB, u19HK⟩

/-! ### spec_l2At: function 36 -/
def spec_l2At.l0 : Nat → List (S46) → ByteArray → Int → Option (Int)
 | 0, _, _, _ => none
 | k + 1, x0, x1, x5 => if x5 < (x0.length : Int) then (if 0 ≤ x5 then (if ((rd_T46 x0 x5).f0).toList = x1.toList then (some x5) else (spec_l2At.l0 k x0 x1 (wrap64 (x5 + 1)))) else (none)) else (some (-1))
def spec_l2At.f (k : Nat) (l0 : List (S46)) (a1 : ByteArray) : Option (Int) := spec_l2At.l0 k l0 a1 0
theorem spec_l2At.mono_l : ∀ k, (∀ y0 y1 y2, LeO (spec_l2At.l0 k y0 y1 y2) (spec_l2At.l0 (k + 1) y0 y1 y2))
 | 0 => fun _ _ _ r h => by simp [spec_l2At.l0] at h
 | k + 1 => by
  have ih0 := spec_l2At.mono_l k
  ·intro y0 y1 y2
   unfold spec_l2At.l0
   exact mo
theorem spec_l2At.mono : ∀ a0 a1 k, LeO (spec_l2At.f k a0 a1) (spec_l2At.f (k + 1) a0 a1) := by
 intro a0 a1 k
 have ih0 := spec_l2At.mono_l k
 unfold spec_l2At.f
 exact mo
set_option maxHeartbeats 8000000 in
set_option maxRecDepth 100000 in
theorem spec_l2At.calls (k : Nat) (A0 : Option Addr) (c0 : Nat) (l0 : List (S46)) (a1 : ByteArray) (r : Int) (w : World) (hr0 : Kd.C k46 w A0 l0.length l0) (hc0 : l0.length ≤ c0) (h : spec_l2At.f k l0 a1 = some r) :
  Calls Tryd.prog 36 #[.slice A0 l0.length c0, .string a1] w fun e w' => e = .returned (.int .i64 r) ∧ Drawn0 w w' := by
 have HR0 := am hr0
 have HC0 := am hc0
 clear hr0 hc0
 unfold spec_l2At.f at h
 have H := h
 clear h
 have H' := am H
 clear H
 go_enter Tryd.func36, Tryd.ntmps36
 go_wp2
 (try simp only [Act.put, List.setIfInBounds_toArray, List.set_cons_zero, List.set_cons_succ])
 go_loopg [5] k (fun kq v5 w' => ∃ (x5_1 : Int), v5 = .int .i64 x5_1 ∧ Aside0 (spec_l2At.l0 kq l0 a1 x5_1 = some r) ∧ Aside0 (kq ≤ k) ∧ Drawn0 w w')
 case atStart => exact ⟨(0), rs, H', ⟨Nat.le_refl _⟩, dr⟩
 case round =>
  clear H'
  try clear p2
  obtain ⟨x5_1, rfl, HA, HK1, ⟨m1, rfl⟩⟩ := hrel
  cases gk with
  | zero => exact absurd HA.out (by simp [spec_l2At.l0])
  | succ k1 =>
   have H := HA.out
   clear HA
   simp only [spec_l2At.l0] at H
   by_cases c3 : x5_1 < (l0.length : Int)
   rotate_left
   ·rw [if_neg c3] at H
    have c3b0 := decide_eq_false c3
    clear c3
    obtain rfl := Option.some.inj H
    go_wp2
    go_ret
    exact ⟨rs, dr⟩
   rw [if_pos c3] at H
   have c3b0 := decide_eq_true c3
   clear c3
   revert H
   refine ifn fun c4 H => ?_
   have c4b0 := decide_eq_true c4
   clear c4
   by_cases c5 : ((rd_T46 l0 x5_1).f0).toList = a1.toList
   ·rw [if_pos c5] at H
    have c5b0 : (((rd_T46 l0 x5_1).f0).toList == a1.toList) = true := beq_iff_eq.mpr c5
    have c5b1 : (((rd_T46 l0 x5_1).f0).toList != a1.toList) = false := bne_eq_false_iff_eq.mpr c5
    clear c5
    obtain rfl := Option.some.inj H
    have p123 : 0 ≤ (x5_1 : Int) := od
    have q123 : x5_1 < (l0.length : Int) := od
    obtain ⟨ad123, e123, hx123_0, hx123_1⟩ := at_T46 HR0.out x5_1 p123 q123
    cases e123
    replace p123 := eq_true p123
    replace q123 := eq_true q123
    go_wp2
    go_ret
    exact ⟨rs, dr⟩
   rw [if_neg c5] at H
   have c5b0 : (((rd_T46 l0 x5_1).f0).toList == a1.toList) = false := beq_eq_false_iff_ne.mpr c5
   have c5b1 : (((rd_T46 l0 x5_1).f0).toList != a1.toList) = true := bne_iff_ne.mpr c5
   have H' := am H
   clear H
   have p123 : 0 ≤ (x5_1 : Int) := od
   have q123 : x5_1 < (l0.length : Int) := od
   obtain ⟨ad123, e123, hx123_0, hx123_1⟩ := at_T46 HR0.out x5_1 p123 q123
   cases e123
   replace p123 := eq_true p123
   replace q123 := eq_true q123
   go_wp2
   go_roundg k1
   case measure => have := HK1.out; omega
   case rel => exact ⟨(wrap64 (x5_1 + 1)), rs, H', ⟨by have := HK1.out; omega⟩, dr⟩

/-! ### spec_Put: function 26 -/
def spec_Put.f (k : Nat) (l0 : List (S46)) (a1 : ByteArray) (a2 : ByteArray) : Option ((List (S46))) := (some (([] : List (S46)) : List (S46))).bind fun y124 => (if y124.length + l0.length < 4398046511104 then ((some (y124 ++ l0 : List (S46))).bind fun y127 => ((spec_l2At.f k l0 a1).bind fun t130 => (if t130 < 0 then (if y127.length < 4398046511104 then (some (y127 ++ [(⟨a1, a2⟩ : S46)])) else (none)) else (if 0 ≤ t130 then (if t130 < (y127.length : Int) then (some (y127.set (t130 : Int).toNat (⟨(rd_T46 y127 t130).f0, a2⟩ : S46))) else (none)) else (none))))) else (none))
theorem spec_Put.mono : ∀ a0 a1 a2 k, LeO (spec_Put.f k a0 a1 a2) (spec_Put.f (k + 1) a0 a1 a2) := by
 intro a0 a1 a2 k
 unfold spec_Put.f
 have m0 := @spec_l2At.mono
 exact mo
set_option maxHeartbeats 8000000 in
set_option maxRecDepth 100000 in
theorem spec_Put.calls (k : Nat) (A0 : Option Addr) (c0 : Nat) (l0 : List (S46)) (a1 : ByteArray) (a2 : ByteArray) (r : List (S46)) (w : World) (hr0 : Kd.C k46 w A0 l0.length l0) (hc0 : l0.length ≤ c0) (h : spec_Put.f k l0 a1 a2 = some r) :
  Calls Tryd.prog 26 #[.slice A0 l0.length c0, .string a1, .string a2] w fun e w' => ∃ v0_ : Value, e = .returned (v0_) ∧ Kd.R k46 46 w' w.heap.size (fun _ => True) v0_ r ∧ Below w.heap.size w w' := by
 have hu46 := Tryd.underlying46
 have HR0 := am hr0
 have HC0 := am hc0
 clear hr0 hc0
 have HB := am (Below.refl w.heap.size w)
 unfold spec_Put.f at h
 have H := h
 clear h
 obtain ⟨y124, hy124⟩ : ∃ y_ : List (S46), y_ = (([] : List (S46))) := ⟨_, rfl⟩
 replace H : (if y124.length + l0.length < 4398046511104 then ((some (y124 ++ l0 : List (S46))).bind fun y127 => ((spec_l2At.f k l0 a1).bind fun t130 => (if t130 < 0 then (if y127.length < 4398046511104 then (some (y127 ++ [(⟨a1, a2⟩ : S46)])) else (none)) else (if 0 ≤ t130 then (if t130 < (y127.length : Int) then (some (y127.set (t130 : Int).toNat (⟨(rd_T46 y127 t130).f0, a2⟩ : S46))) else (none)) else (none))))) else (none)) = some r := by first | (rw [hy124]; with_reducible exact H) | (have H2_ := (Option.bind_some _ _).symm.trans H; rw [hy124]; with_reducible exact H2_) | (have H2_ := (Option.bind_some _ _).symm.trans H; with_reducible exact H2_) | with_reducible exact H | (rw [hy124]; exact H) | exact H
 have Ny124 := am hy124
 clear hy124
 revert H
 refine ifn fun c4 H => ?_
 have LMc4 := am c4
 clear c4
 obtain ⟨y127, hy127⟩ : ∃ y_ : List (S46), y_ = (y124 ++ l0) := ⟨_, rfl⟩
 replace H : ((spec_l2At.f k l0 a1).bind fun t130 => (if t130 < 0 then (if y127.length < 4398046511104 then (some (y127 ++ [(⟨a1, a2⟩ : S46)])) else (none)) else (if 0 ≤ t130 then (if t130 < (y127.length : Int) then (some (y127.set (t130 : Int).toNat (⟨(rd_T46 y127 t130).f0, a2⟩ : S46))) else (none)) else (none)))) = some r := by first | (rw [hy127]; with_reducible exact H) | (have H2_ := (Option.bind_some _ _).symm.trans H; rw [hy127]; with_reducible exact H2_) | (have H2_ := (Option.bind_some _ _).symm.trans H; with_reducible exact H2_) | with_reducible exact H | (rw [hy127]; exact H) | exact H
 have Ny127 := am hy127
 clear hy127
 revert H
 refine ok1 fun t130 A5 H => ?_
 by_cases c6 : t130 < 0
 ·rw [if_pos c6] at H
  have c6b0 := decide_eq_true c6
  clear c6
  revert H
  refine ifn fun c7 H => ?_
  have LMc7 := am c7
  clear c7
  obtain ⟨y131, hy131⟩ : ∃ y_ : List (S46), y_ = (y127 ++ [(⟨a1, a2⟩ : S46)]) := ⟨_, rfl⟩
  replace H : (some y131) = some r := by first | (rw [hy131]; with_reducible exact H) | (have H2_ := (Option.bind_some _ _).symm.trans H; rw [hy131]; with_reducible exact H2_) | (have H2_ := (Option.bind_some _ _).symm.trans H; with_reducible exact H2_) | with_reducible exact H | (rw [hy131]; exact H) | exact H
  have Ny131 := am hy131
  clear hy131
  obtain rfl := Option.some.inj H
  go_enter Tryd.func26, Tryd.ntmps26
  go_wp2_with (first | ((with_reducible refine gate_dst (N := 9) rfl ?_); refine Kd.R_lit k46 _ 46 ?hg (N := 9) ?hd (xs := ([] : List (S46))) (inner := []) (ok := fun _ => True) (okp := fun _ => True) ?hr ?hp (fun _ hk => hk) trivial (Below.refl _ _) (Nat.le_refl _) (by simp) ?_; (case hd => rfl); (case hg => rfl); (case hr => first | (go_simp; done) | (go_simp; rfl)); (case hp => exact (Reps.none _ _)); intro v125 w8 ho9 hb hg_ hnew_; clear hg_ hnew_; (first | rw [← Ny124.out] at ho9 | (simp only [Int.reduceToNat] at ho9; rw [← Ny124.out] at ho9)); have HO126 := am (Kd.R_lower ho9 (below_size bl)); replace HB := am (below_step bl hb); clear hb ho9) | ((with_reducible refine gate_builtin (b := .append) (xs := #[.tmp 9, .tmp 10]) rfl ?_); at_builtin; refine Kd.R_append_rows k46 (w0 := w) w.heap.size rfl (.tmp 9) (.tmp 10) 24 46 (.agg #[(.string ⟨#[]⟩), (.string ⟨#[]⟩)]) 32 rfl Tryd.underlying24 info46 rfl (by decide) (by omega) v125 y124 l0 _ _ _ (fun _ => True) (fun _ => False) rfl rfl ?aO ?aR (fun _ _ h => h) (fun _ h => h.elim) ?aF ?aB ?aS ?aL ?_; (case aR => exact cb HR0); (case aB => exact bl); (case aF => exact (fun _ _ => trivial)); (case aO => exact (ro HO126)); (case aS => exact (below_size bl)); (case aL => have := LMc4.out; omega); intro v128 w10 ho hb hg hat; rw [← Ny127.out] at ho; have n0_ := am (hb); have n1_ := am (ho); clear HB; clear HO126; have HB := n0_; have HO129 := n1_; clear n0_ n1_; clear ho hb hg hat) | ((with_reducible refine gw ?_); first | (refine gl 14 Tryd.func36 #[.slice A0 l0.length c0, .string a1] ?_; (with_reducible refine (spec_l2At.calls k _ _ l0 a1 t130 _ ?side1 ?side2 A5.out).mono ?_); (case side1 => exact cb HR0); (case side2 => exact HC0.out); rintro e w' ⟨rfl, ⟨nd, rfl⟩⟩; refine ⟨_, rfl, ?_⟩)) | ((with_reducible refine gate_builtin (b := .append) (xs := #[.tmp 17, .tmp 21]) rfl ?_); at_builtin; refine Kd.R_append k46 (w0 := w) w.heap.size rfl (.tmp 17) (.tmp 21) 24 46 (.agg #[(.string ⟨#[]⟩), (.string ⟨#[]⟩)]) 32 rfl Tryd.underlying24 info46 rfl (by decide) (by omega) v128 y127 (⟨a1, a2⟩ : S46) [.string a1, .string a2] (fun _ => True) (fun _ => False) rfl rfl ?aP (fun _ hk => hk.elim) ?aF ?aO ?aB ?aS ?aL ?_; (case aP => exact k46_mkM _ _ _ (⟨a1, a2⟩ : S46)); (case aB => exact bl); (case aF => exact (fun _ _ => trivial)); (case aO => exact (ro HO129)); (case aS => exact (below_size bl)); (case aL => have := LMc7.out; omega); intro v132 w11 ho hb hg hat; rw [← Ny131.out] at ho; have n0_ := am (hb); have n1_ := am (ho); clear HB; clear HO129; have HB := n0_; have HO133 := n1_; clear n0_ n1_; clear ho hb hg hat))
  go_ret
  exact ⟨_, rf, by (with_reducible repeat (first | apply Kd.R_alloc | apply Kd.R_drewN | apply Kd.R_drew)); exact HO133.out, bl⟩
 rw [if_neg c6] at H
 have c6b0 := decide_eq_false c6
 clear c6
 revert H
 refine ifn fun c12 H => ?_
 have c12b0 := decide_eq_true c12
 clear c12
 revert H
 refine ifn fun c13 H => ?_
 have c13b0 := decide_eq_true c13
 clear c13
 obtain ⟨y134, hy134⟩ : ∃ y_ : List (S46), y_ = (y127.set (t130 : Int).toNat (⟨(rd_T46 y127 t130).f0, a2⟩ : S46)) := ⟨_, rfl⟩
 replace H : (some y134) = some r := by first | (rw [hy134]; with_reducible exact H) | (have H2_ := (Option.bind_some _ _).symm.trans H; rw [hy134]; with_reducible exact H2_) | (have H2_ := (Option.bind_some _ _).symm.trans H; with_reducible exact H2_) | with_reducible exact H | (rw [hy134]; exact H) | exact H
 have Ny134 := am hy134
 clear hy134
 obtain rfl := Option.some.inj H
 go_enter Tryd.func26, Tryd.ntmps26
 go_wp2_with (first | ((with_reducible refine gate_dst (N := 9) rfl ?_); refine Kd.R_lit k46 _ 46 ?hg (N := 9) ?hd (xs := ([] : List (S46))) (inner := []) (ok := fun _ => True) (okp := fun _ => True) ?hr ?hp (fun _ hk => hk) trivial (Below.refl _ _) (Nat.le_refl _) (by simp) ?_; (case hd => rfl); (case hg => rfl); (case hr => first | (go_simp; done) | (go_simp; rfl)); (case hp => exact (Reps.none _ _)); intro v125 w15 ho16 hb hg_ hnew_; clear hg_ hnew_; (first | rw [← Ny124.out] at ho16 | (simp only [Int.reduceToNat] at ho16; rw [← Ny124.out] at ho16)); have HO126 := am (Kd.R_lower ho16 (below_size bl)); replace HB := am (below_step bl hb); clear hb ho16) | ((with_reducible refine gate_builtin (b := .append) (xs := #[.tmp 9, .tmp 10]) rfl ?_); at_builtin; refine Kd.R_append_rows k46 (w0 := w) w.heap.size rfl (.tmp 9) (.tmp 10) 24 46 (.agg #[(.string ⟨#[]⟩), (.string ⟨#[]⟩)]) 32 rfl Tryd.underlying24 info46 rfl (by decide) (by omega) v125 y124 l0 _ _ _ (fun _ => True) (fun _ => False) rfl rfl ?aO ?aR (fun _ _ h => h) (fun _ h => h.elim) ?aF ?aB ?aS ?aL ?_; (case aR => exact cb HR0); (case aB => exact bl); (case aF => exact (fun _ _ => trivial)); (case aO => exact (ro HO126)); (case aS => exact (below_size bl)); (case aL => have := LMc4.out; omega); intro v128 w17 ho hb hg hat; rw [← Ny127.out] at ho; have n0_ := am (hb); have n1_ := am (ho); clear HB; clear HO126; have HB := n0_; have HO129 := n1_; clear n0_ n1_; clear ho hb hg hat) | ((with_reducible refine gw ?_); first | (refine gl 14 Tryd.func36 #[.slice A0 l0.length c0, .string a1] ?_; (with_reducible refine (spec_l2At.calls k _ _ l0 a1 t130 _ ?side1 ?side2 A5.out).mono ?_); (case side1 => exact cb HR0); (case side2 => exact HC0.out); rintro e w' ⟨rfl, ⟨nd, rfl⟩⟩; refine ⟨_, rfl, ?_⟩; (try (rw [drewN_self w17]; generalize hq_ : World.drewN w17 _ = w17; have n0_ : Aside0 (Kd.R k46 46 w17 w.heap.size (fun _ => True) v128 y127) := ⟨by rw [← hq_]; exact (ro HO129)⟩; have n1_ : Aside0 (Below w.heap.size w w17) := ⟨by rw [← hq_]; exact bl⟩; clear HO129 HB hq_; have HO129 := n0_; have HB := n1_; clear n0_ n1_)); have p14 : 0 ≤ (t130 : Int) := od; have q14 : (t130 : Int) < ((y127.length : Int) : Int) := od; obtain ⟨go14, co14, eo14, gb14, gl14, cl14, HG14⟩ := Kd.R_form HO129.out (by omega); (first | cases eo14 | (injection eo14 with ea_ en_ ec_; (first | subst ea_ | (injection ea_ with ea_; subst ea_)); subst ec_; clear en_)); have GB14 := am gb14; have GG14 := am HG14; clear gb14 gl14 HG14; obtain ⟨ce14, hcl14, hM14, hcc14, hfr14⟩ := Kd.R_elem HO129.out z46 (t130 : Int) p14 q14; obtain rfl := k46_openM hM14; have hx14_0 : w17.cell? ⟨go14, (t130 : Int).toNat * 2, none⟩ = some (.string ((rd_T46 y127 t130).f0)) := hcc14 0 _ rfl; have hx14_1 : w17.cell? ⟨go14, (t130 : Int).toNat * 2 + 1, none⟩ = some (.string ((rd_T46 y127 t130).f1)) := hcc14 1 _ rfl; have hf14_0 : w17.frozen? ⟨go14, (t130 : Int).toNat * 2, none⟩ = false := hfr14 0; have hf14_1 : w17.frozen? ⟨go14, (t130 : Int).toNat * 2 + 1, none⟩ = false := hfr14 1; clear hcl14 hcc14 hfr14 hM14; replace p14 := eq_true p14; replace q14 := eq_true q14; have HX18 := am (show Kd.R k46 46 w17 w.heap.size (fun _ => True) (.slice (some ⟨go14, 0, none⟩) y127.length co14) y127 from (ro HO129)); obtain ⟨ce18, hcl18, hM18, hcc18, hfr18⟩ := Kd.R_elem HX18.out z46 (t130 : Int) (od) (by have h_ : (t130 : Int) < ((y127.length : Int) : Int) := od; first | exact h_ | (have e_ := (Kd.R_reads' HO129.out).1; omega) | simpa using h_); obtain rfl := k46_openM hM18; have HP18 := Kd.R_seg HX18.out (t130 : Int) (od) (by have h_ : (t130 : Int) < ((y127.length : Int) : Int) := od; first | exact h_ | (have e_ := (Kd.R_reads' HO129.out).1; omega) | simpa using h_) (seg := [.string a2]) (j := 1) hcl18 hcc18 (show 2 ≤ 2 from by decide) (x' := (⟨(rd_T46 y127 t130).f0, a2⟩ : S46)) (k46_mkM _ _ _ (⟨(rd_T46 y127 t130).f0, a2⟩ : S46) ) (fun _ hk => hk); have hx18_1 := hcc18 1 _ rfl; (try simp only [show (k46).sz = 2 from rfl, Nat.mul_one, Nat.add_zero] at hx18_1); have hf18_1 := hfr18 1; (try simp only [show (k46).sz = 2 from rfl, Nat.mul_one, Nat.add_zero] at hf18_1); clear hcl18 hcc18 hfr18 hM18)) | ((with_reducible refine gate_store (t := 9) (p := 27) rfl ?_); refine store_event (t := 9) (p := 27) (v := ?vo_w19) (w1 := (w17.setCell ⟨go14, (t130 : Int).toNat * 2 + 1, none⟩ (.string a2))) ?hg ?ho ?hn ?hr ?_; (case ho => rfl); (case hg => rfl); (case hn => rfl); (case hr => first | (go_simp; done) | (go_simp; rfl)); intro w19 hw; have hg : w17.grownBy w19 (some go14) := (by rw [hw]; exact HP18.2); have hp_ : Kd.R k46 46 w19 w.heap.size (fun _ => True) (.slice (some ⟨go14, 0, none⟩) y127.length co14) y134 := (by rw [hw, Ny134.out]; exact HP18.1); clear HP18; have n0_ := am (hp_); have n1_ := am ((by rw [hw]; exact below_set (HB.out) GB14.out : Below w.heap.size w w19)); clear HO129; clear HB; have HO129 := n0_; have HB := n1_; clear n0_ n1_; clear hg hw hp_))
 go_ret
 exact ⟨_, rf, by (with_reducible repeat (first | apply Kd.R_alloc | apply Kd.R_drewN | apply Kd.R_drew)); exact HO129.out, bl⟩

/-! ### spec_l1PickInt: function 42 -/
theorem u42HI0 {p : Prop} (h : p := by repeat (first | (with_reducible first | exact HI0.out | apply IsS57.alloc | apply IsS57.drewN | apply IsS57.drew | apply IsS57.set_1 | apply IsS57.set_2) | exact HI0.out)) : p := h
theorem u42HB {p : Prop} (h : p := by repeat (first | (with_reducible first | exact HB.out | apply below_alloc | apply pw_below_drewN | apply below_drew1 | refine below_set ?_ (IsS57.ge HI0.out)) | exact HB.out)) : p := h
theorem u42HK {p : Prop} (h : p := by repeat (first | (with_reducible first | exact HK.out | apply KeepBut.set_ | apply keep_drewN | apply keep_drew | apply keep_alloc) | exact HK.out)) : p := h
def spec_l1PickInt.f (s0_0 : List Int) (s0_1 : Int) (s0_2 : Int) (l1 : List Int) : Option (Int × Int × Int) := (spec_l1Below.f s0_0 s0_1 s0_2 (l1.length : Int)).bind fun bt135 => (if 0 ≤ bt135.1 then (if bt135.1 < (l1.length : Int) then (some (rd l1 bt135.1, bt135.2.1, bt135.2.2)) else (none)) else (none))
set_option maxHeartbeats 8000000 in
set_option maxRecDepth 100000 in
theorem spec_l1PickInt.calls (g : Nat) (s0_0 : List Int) (s0_1 : Int) (s0_2 : Int) (A1 : Option Addr) (c1 : Nat) (l1 : List Int) (r1 : Int) (r2 : Int) (r3 : Int) (w0 w : World) (hI : IsS57 w0 w g s0_0 s0_1 s0_2) (hB : Below w0.heap.size w0 w) (hr1 : Kd.C (Kd.int .i64) w A1 l1.length l1) (hc1 : l1.length ≤ c1) (hf1 : ∀ ad, A1 = some ad → 0 < l1.length → ad.block ≠ g) (h : spec_l1PickInt.f s0_0 s0_1 s0_2 l1 = some (r1, r2, r3)) :
  Calls Tryd.prog 42 #[.pointer (some ⟨g, 0, none⟩), .slice A1 l1.length c1] w fun e w' => e = .returned (.int .i64 r1) ∧ IsS57 w0 w' g s0_0 r2 r3 ∧ Below w0.heap.size w0 w' ∧ KeepBut w w' g none := by
 have HR1 := am hr1
 have HC1 := am hc1
 clear hr1 hc1
 have HI0 := am hI
 have HK := am (KeepBut.refl w g none)
 have HL := am hB.size
 clear hI
 have HW0 := am hB.size
 have HB := am hB
 clear hB
 unfold spec_l1PickInt.f at h
 have H := h
 clear h
 revert H
 refine ok3 fun t135 t136 t137 A3 H => ?_
 (try dsimp only at H)
 revert H
 refine ifn fun c4 H => ?_
 have c4b0 := decide_eq_true c4
 clear c4
 revert H
 refine ifn fun c5 H => ?_
 have c5b0 := decide_eq_true c5
 clear c5
 simp only [Option.some.injEq, Prod.mk.injEq] at H
 obtain ⟨rfl, rfl, rfl⟩ := H
 go_enter Tryd.func42, Tryd.ntmps42
 go_wp2_with ((with_reducible refine gw ?_); first | (refine gl 9 Tryd.func34 #[.pointer (some ⟨g, 0, none⟩), .int .i64 (l1.length : Int)] ?_; (with_reducible refine (spec_l1Below.calls g s0_0 s0_1 s0_2 (l1.length : Int) t135 t136 t137 w0 _ ?side1 ?side2 A3.out).mono ?_); (case side1 => exact u42HI0); (case side2 => exact u42HB); rintro e w6 ⟨rfl, hi, hb, hk⟩; refine ⟨_, rfl, ?_⟩; replace HK := am (KeepBut.trans u42HK hk (.inl rfl)); replace HB := am (hb); replace HI0 := am (hi); clear hb hk hi; have p138 : 0 ≤ (t135 : Int) := od; have q138 : t135 < (l1.length : Int) := od; obtain ⟨ad138, e138, hx138_0⟩ := Kd.at_int HR1.out t135 p138 q138; cases e138; replace hx138_0 := keep_cell HK.out hx138_0 (by first | (rw [add_block]; exact hf1 _ rfl (by omega)) | exact hf1 _ rfl (by omega) | exact hf1 ad138 rfl (by omega)); replace p138 := eq_true p138; replace q138 := eq_true q138))
 go_ret
 exact ⟨rf, u42HI0, u42HB, u42HK⟩

/-! ### spec_l1Pick: function 50 -/
theorem u50HI0 {p : Prop} (h : p := by repeat (first | (with_reducible first | exact HI0.out | apply IsS57.alloc | apply IsS57.drewN | apply IsS57.drew | apply IsS57.set_1 | apply IsS57.set_2) | exact HI0.out)) : p := h
theorem u50HB {p : Prop} (h : p := by repeat (first | (with_reducible first | exact HB.out | apply below_alloc | apply pw_below_drewN | apply below_drew1 | refine below_set ?_ (IsS57.ge HI0.out)) | exact HB.out)) : p := h
theorem u50HK {p : Prop} (h : p := by repeat (first | (with_reducible first | exact HK.out | apply KeepBut.set_ | apply keep_drewN | apply keep_drew | apply keep_alloc) | exact HK.out)) : p := h
def spec_l1Pick.f (s0_0 : List Int) (s0_1 : Int) (s0_2 : Int) (l1 : List ByteArray) : Option (ByteArray × Int × Int) := (spec_l1Below.f s0_0 s0_1 s0_2 (l1.length : Int)).bind fun bt139 => (if 0 ≤ bt139.1 then (if bt139.1 < (l1.length : Int) then (some (rdOf ByteArray.empty l1 bt139.1, bt139.2.1, bt139.2.2)) else (none)) else (none))
set_option maxHeartbeats 8000000 in
set_option maxRecDepth 100000 in
theorem spec_l1Pick.calls (g : Nat) (s0_0 : List Int) (s0_1 : Int) (s0_2 : Int) (A1 : Option Addr) (c1 : Nat) (l1 : List ByteArray) (r1 : ByteArray) (r2 : Int) (r3 : Int) (w0 w : World) (hI : IsS57 w0 w g s0_0 s0_1 s0_2) (hB : Below w0.heap.size w0 w) (hr1 : Kd.C Kd.string w A1 l1.length l1) (hc1 : l1.length ≤ c1) (hf1 : ∀ ad, A1 = some ad → 0 < l1.length → ad.block ≠ g) (h : spec_l1Pick.f s0_0 s0_1 s0_2 l1 = some (r1, r2, r3)) :
  Calls Tryd.prog 50 #[.pointer (some ⟨g, 0, none⟩), .slice A1 l1.length c1] w fun e w' => e = .returned (.string r1) ∧ IsS57 w0 w' g s0_0 r2 r3 ∧ Below w0.heap.size w0 w' ∧ KeepBut w w' g none := by
 have HR1 := am hr1
 have HC1 := am hc1
 clear hr1 hc1
 have HI0 := am hI
 have HK := am (KeepBut.refl w g none)
 have HL := am hB.size
 clear hI
 have HW0 := am hB.size
 have HB := am hB
 clear hB
 unfold spec_l1Pick.f at h
 have H := h
 clear h
 revert H
 refine ok3 fun t139 t140 t141 A3 H => ?_
 (try dsimp only at H)
 revert H
 refine ifn fun c4 H => ?_
 have c4b0 := decide_eq_true c4
 clear c4
 revert H
 refine ifn fun c5 H => ?_
 have c5b0 := decide_eq_true c5
 clear c5
 simp only [Option.some.injEq, Prod.mk.injEq] at H
 obtain ⟨rfl, rfl, rfl⟩ := H
 go_enter Tryd.func50, Tryd.ntmps50
 go_wp2_with ((with_reducible refine gw ?_); first | (refine gl 9 Tryd.func34 #[.pointer (some ⟨g, 0, none⟩), .int .i64 (l1.length : Int)] ?_; (with_reducible refine (spec_l1Below.calls g s0_0 s0_1 s0_2 (l1.length : Int) t139 t140 t141 w0 _ ?side1 ?side2 A3.out).mono ?_); (case side1 => exact u50HI0); (case side2 => exact u50HB); rintro e w6 ⟨rfl, hi, hb, hk⟩; refine ⟨_, rfl, ?_⟩; replace HK := am (KeepBut.trans u50HK hk (.inl rfl)); replace HB := am (hb); replace HI0 := am (hi); clear hb hk hi; have p142 : 0 ≤ (t139 : Int) := od; have q142 : t139 < (l1.length : Int) := od; obtain ⟨ad142, e142, hx142_0⟩ := Kd.at_string HR1.out t139 p142 q142; cases e142; replace hx142_0 := keep_cell HK.out hx142_0 (by first | (rw [add_block]; exact hf1 _ rfl (by omega)) | exact hf1 _ rfl (by omega) | exact hf1 ad142 rfl (by omega)); replace p142 := eq_true p142; replace q142 := eq_true q142))
 go_ret
 exact ⟨rf, u50HI0, u50HB, u50HK⟩

/-! ### spec_l2DrawField: function 56 -/
theorem u56HI0 {p : Prop} (h : p := by repeat (first | (with_reducible first | exact HI0.out | apply IsS57.alloc | apply IsS57.drewN | apply IsS57.drew | apply IsS57.set_1 | apply IsS57.set_2 | apply IsS57.far (p := ⟨gb143, _, none⟩) (hne := NB0_143.out)) | exact HI0.out)) : p := h
theorem u56HK {p : Prop} (h : p := by repeat (first | (with_reducible first | exact HK.out | apply KeepBut.set_ | apply keep_drewN | apply keep_drew | apply keep_alloc | refine keep_far ?_ GW143.out _) | exact HK.out)) : p := h
theorem u56HB {p : Prop} (h : p := by repeat (first | (with_reducible first | exact HB.out | apply below_alloc | apply pw_below_drewN | apply below_drew1 | refine below_set ?_ (IsS57.ge HI0.out) | refine below_set ?_ GE143.out) | exact HB.out)) : p := h
def spec_l2DrawField.f (s0_0 : List Int) (s0_1 : Int) (s0_2 : Int) : Option (ByteArray × ByteArray × Int × Int) := (spec_l1Below.f s0_0 s0_1 s0_2 9).bind fun bt144 => (if bt144.1 = 0 then ((spec_l1Pick.f s0_0 bt144.2.1 bt144.2.2 (([(⟨#[109, 97, 120, 45, 97, 103, 101, 61, 53]⟩ : ByteArray), (⟨#[109, 97, 120, 45, 97, 103, 101, 61, 50, 48]⟩ : ByteArray), (⟨#[110, 111, 45, 115, 116, 111, 114, 101]⟩ : ByteArray), (⟨#[110, 111, 45, 99, 97, 99, 104, 101]⟩ : ByteArray), (⟨#[112, 114, 105, 118, 97, 116, 101]⟩ : ByteArray), (⟨#[109, 97, 120, 45, 97, 103, 101, 61, 57, 44, 32, 109, 117, 115, 116, 45, 114, 101, 118, 97, 108, 105, 100, 97, 116, 101]⟩ : ByteArray), (⟨#[109, 97, 120, 45, 97, 103, 101, 61, 120]⟩ : ByteArray), (⟨#[77, 65, 88, 45, 65, 71, 69, 61, 51]⟩ : ByteArray)] : List ByteArray))).bind fun bt150 => (some ((⟨#[99, 97, 99, 104, 101, 45, 99, 111, 110, 116, 114, 111, 108]⟩ : ByteArray), bt150.1, bt150.2.1, bt150.2.2))) else (if bt144.1 = 1 then ((spec_l1Pick.f s0_0 bt144.2.1 bt144.2.2 (([(⟨#[97]⟩ : ByteArray), (⟨#[98]⟩ : ByteArray)] : List ByteArray))).bind fun bt156 => (some ((⟨#[101, 116, 97, 103]⟩ : ByteArray), bt156.1, bt156.2.1, bt156.2.2))) else (if bt144.1 = 2 then ((spec_l1Pick.f s0_0 bt144.2.1 bt144.2.2 (([(⟨#[108, 97, 110, 103]⟩ : ByteArray), (⟨#[108, 97, 110, 103, 44, 32, 107, 105, 110, 100]⟩ : ByteArray), (⟨#[42]⟩ : ByteArray)] : List ByteArray))).bind fun bt162 => (some ((⟨#[118, 97, 114, 121]⟩ : ByteArray), bt162.1, bt162.2.1, bt162.2.2))) else (if bt144.1 = 3 then ((spec_l1Pick.f s0_0 bt144.2.1 bt144.2.2 (([(⟨#[100, 101]⟩ : ByteArray), (⟨#[101, 110]⟩ : ByteArray)] : List ByteArray))).bind fun bt168 => (some ((⟨#[108, 97, 110, 103]⟩ : ByteArray), bt168.1, bt168.2.1, bt168.2.2))) else (if bt144.1 = 4 then ((spec_l1Pick.f s0_0 bt144.2.1 bt144.2.2 (([(⟨#[120]⟩ : ByteArray), (⟨#[121]⟩ : ByteArray)] : List ByteArray))).bind fun bt174 => (some ((⟨#[107, 105, 110, 100]⟩ : ByteArray), bt174.1, bt174.2.1, bt174.2.2))) else (if bt144.1 = 5 then ((spec_l1Pick.f s0_0 bt144.2.1 bt144.2.2 (([(⟨#[48]⟩ : ByteArray), (⟨#[51]⟩ : ByteArray), (⟨#[57, 48]⟩ : ByteArray), (⟨#[120]⟩ : ByteArray)] : List ByteArray))).bind fun bt180 => (some ((⟨#[97, 103, 101]⟩ : ByteArray), bt180.1, bt180.2.1, bt180.2.2))) else (if bt144.1 = 6 then ((spec_l1Pick.f s0_0 bt144.2.1 bt144.2.2 (([(⟨#[97]⟩ : ByteArray), (⟨#[98]⟩ : ByteArray)] : List ByteArray))).bind fun bt186 => (some ((⟨#[105, 102, 45, 110, 111, 110, 101, 45, 109, 97, 116, 99, 104]⟩ : ByteArray), bt186.1, bt186.2.1, bt186.2.2))) else ((spec_l1Pick.f s0_0 bt144.2.1 bt144.2.2 (([(⟨#[120, 45, 97]⟩ : ByteArray), (⟨#[120, 45, 98]⟩ : ByteArray), (⟨#[100, 97, 116, 101]⟩ : ByteArray)] : List ByteArray))).bind fun bt192 => ((spec_l1Pick.f s0_0 bt192.2.1 bt192.2.2 (([(⟨#[49]⟩ : ByteArray), (⟨#[116, 119, 111, 32, 119, 111, 114, 100, 115]⟩ : ByteArray), (⟨#[113]⟩ : ByteArray)] : List ByteArray))).bind fun bt198 => (some (bt192.1, bt198.1, bt198.2.1, bt198.2.2)))))))))))
set_option maxHeartbeats 8000000 in
set_option maxRecDepth 100000 in
theorem spec_l2DrawField.calls (g : Nat) (s0_0 : List Int) (s0_1 : Int) (s0_2 : Int) (r1 : ByteArray) (r2 : ByteArray) (r3 : Int) (r4 : Int) (w0 w : World) (hI : IsS57 w0 w g s0_0 s0_1 s0_2) (hB : Below w0.heap.size w0 w) (h : spec_l2DrawField.f s0_0 s0_1 s0_2 = some (r1, r2, r3, r4)) :
  Calls Tryd.prog 56 #[.pointer (some ⟨g, 0, none⟩)] w fun e w' => e = .returned (.agg #[.string r1, .string r2]) ∧ IsS57 w0 w' g s0_0 r3 r4 ∧ Below w0.heap.size w0 w' ∧ KeepBut w w' g none := by
 have hu46 := Tryd.underlying46
 have HI0 := am hI
 have HK := am (KeepBut.refl w g none)
 have HL := am hB.size
 clear hI
 have HW0 := am hB.size
 have HB := am hB
 clear hB
 unfold spec_l2DrawField.f at h
 have H := h
 clear h
 revert H
 refine ok3 fun t144 t145 t146 A2 H => ?_
 (try dsimp only at H)
 have HH3 := am H
 clear H
 go_enter Tryd.func56, Tryd.ntmps56
 go_upto_if 5 with ((with_reducible refine gw ?_); first | (refine bx 2 #[.string (⟨#[]⟩ : ByteArray), .string (⟨#[]⟩ : ByteArray)] 46 ?_; intro gb143 hg w4 hbox hb; have n0_ := am (IsS57.below u56HI0 hb); have n1_ := am (KeepBut.trans u56HK (KeepBut.of_below hb g none) (.inl rfl)); have n2_ := am (below_step u56HB hb); have n3_ := am (hbox); have n4_ := am ((by rw [hg]; exact (keep_size (w := w) (g := g) (row := none) u56HK) : w.heap.size ≤ gb143)); have n5_ := am ((Nat.le_trans HW0.out (by rw [hg]; exact (keep_size (w := w) (g := g) (row := none) u56HK) : w.heap.size ≤ gb143) : w0.heap.size ≤ gb143)); have n6_ := am ((by rw [hg]; exact Nat.ne_of_lt (IsS57.lt (show IsS57 w0 _ g s0_0 s0_1 s0_2 from u56HI0)) : g ≠ gb143)); have n7_ := am ((by rw [hg]; exact Nat.ne_of_gt (IsS57.lt (show IsS57 w0 _ g s0_0 s0_1 s0_2 from u56HI0)) : gb143 ≠ g)); clear HI0; clear HK; clear HB; have HI0 := n0_; have HK := n1_; have HB := n2_; have BK143 := n3_; have GW143 := n4_; have GE143 := n5_; have NB0_143 := n6_; have NB143_0 := n7_; clear n0_ n1_ n2_ n3_ n4_ n5_ n6_ n7_; clear hb hbox hg) | (refine gl 4 Tryd.func34 #[.pointer (some ⟨g, 0, none⟩), .int .i64 9] ?_; (with_reducible refine (spec_l1Below.calls g s0_0 s0_1 s0_2 9 t144 t145 t146 w0 _ ?side1 ?side2 A2.out).mono ?_); (case side1 => exact u56HI0); (case side2 => exact u56HB); rintro e w5 ⟨rfl, hi, hb, hk⟩; refine ⟨_, rfl, ?_⟩; replace BK143 := kp BK143 hk NB143_0; replace HK := am (KeepBut.trans u56HK hk (.inl rfl)); replace HB := am (hb); replace HI0 := am (hi); clear hb hk hi))
 have H := HH3.out
 clear HH3
 by_cases c6 : t144 = 0
 ·rw [if_pos c6] at H
  have c6b0 : (t144 == 0) = true := beq_iff_eq.mpr c6
  have c6b1 : (t144 != 0) = false := bne_eq_false_iff_eq.mpr c6
  clear c6
  (first | rw [c6b0] | (simp only [i64_w, i32_w]; rw [c6b0]) | skip)
  obtain ⟨y147, hy147⟩ : ∃ y_ : List ByteArray, y_ = (([(⟨#[109, 97, 120, 45, 97, 103, 101, 61, 53]⟩ : ByteArray), (⟨#[109, 97, 120, 45, 97, 103, 101, 61, 50, 48]⟩ : ByteArray), (⟨#[110, 111, 45, 115, 116, 111, 114, 101]⟩ : ByteArray), (⟨#[110, 111, 45, 99, 97, 99, 104, 101]⟩ : ByteArray), (⟨#[112, 114, 105, 118, 97, 116, 101]⟩ : ByteArray), (⟨#[109, 97, 120, 45, 97, 103, 101, 61, 57, 44, 32, 109, 117, 115, 116, 45, 114, 101, 118, 97, 108, 105, 100, 97, 116, 101]⟩ : ByteArray), (⟨#[109, 97, 120, 45, 97, 103, 101, 61, 120]⟩ : ByteArray), (⟨#[77, 65, 88, 45, 65, 71, 69, 61, 51]⟩ : ByteArray)] : List ByteArray)) := ⟨_, rfl⟩
  replace H : ((spec_l1Pick.f s0_0 t145 t146 y147).bind fun bt150 => (some ((⟨#[99, 97, 99, 104, 101, 45, 99, 111, 110, 116, 114, 111, 108]⟩ : ByteArray), bt150.1, bt150.2.1, bt150.2.2))) = some (r1, r2, r3, r4) := by first | (rw [hy147]; with_reducible exact H) | (have H2_ := (Option.bind_some _ _).symm.trans H; rw [hy147]; with_reducible exact H2_) | (have H2_ := (Option.bind_some _ _).symm.trans H; with_reducible exact H2_) | with_reducible exact H | (rw [hy147]; exact H) | exact H
  have Ny147 := am hy147
  clear hy147
  revert H
  refine ok3 fun t150 t151 t152 A7 H => ?_
  (try dsimp only at H)
  simp only [Option.some.injEq, Prod.mk.injEq] at H
  obtain ⟨rfl, rfl, rfl, rfl⟩ := H
  go_wp2_with (first | ((with_reducible refine gate_dst (N := 8) rfl ?_); refine Kd.R_lit Kd.string _ 9 ?hg (N := 8) ?hd (xs := ([(⟨#[109, 97, 120, 45, 97, 103, 101, 61, 53]⟩ : ByteArray), (⟨#[109, 97, 120, 45, 97, 103, 101, 61, 50, 48]⟩ : ByteArray), (⟨#[110, 111, 45, 115, 116, 111, 114, 101]⟩ : ByteArray), (⟨#[110, 111, 45, 99, 97, 99, 104, 101]⟩ : ByteArray), (⟨#[112, 114, 105, 118, 97, 116, 101]⟩ : ByteArray), (⟨#[109, 97, 120, 45, 97, 103, 101, 61, 57, 44, 32, 109, 117, 115, 116, 45, 114, 101, 118, 97, 108, 105, 100, 97, 116, 101]⟩ : ByteArray), (⟨#[109, 97, 120, 45, 97, 103, 101, 61, 120]⟩ : ByteArray), (⟨#[77, 65, 88, 45, 65, 71, 69, 61, 51]⟩ : ByteArray)] : List ByteArray)) (inner := [.string (⟨#[109, 97, 120, 45, 97, 103, 101, 61, 53]⟩ : ByteArray), .string (⟨#[109, 97, 120, 45, 97, 103, 101, 61, 50, 48]⟩ : ByteArray), .string (⟨#[110, 111, 45, 115, 116, 111, 114, 101]⟩ : ByteArray), .string (⟨#[110, 111, 45, 99, 97, 99, 104, 101]⟩ : ByteArray), .string (⟨#[112, 114, 105, 118, 97, 116, 101]⟩ : ByteArray), .string (⟨#[109, 97, 120, 45, 97, 103, 101, 61, 57, 44, 32, 109, 117, 115, 116, 45, 114, 101, 118, 97, 108, 105, 100, 97, 116, 101]⟩ : ByteArray), .string (⟨#[109, 97, 120, 45, 97, 103, 101, 61, 120]⟩ : ByteArray), .string (⟨#[77, 65, 88, 45, 65, 71, 69, 61, 51]⟩ : ByteArray)]) (ok := fun _ => True) (okp := fun _ => True) ?hr ?hp (fun _ hk => hk) trivial (Below.refl _ _) (Nat.le_refl _) (by simp) ?_; (case hd => rfl); (case hg => rfl); (case hr => first | (go_simp; done) | (go_simp; rfl)); (case hp => exact rp); intro v148 w8 ho9 hb hg_ hnew_; clear hg_ hnew_; (first | rw [← Ny147.out] at ho9 | (simp only [Int.reduceToNat] at ho9; rw [← Ny147.out] at ho9)); have HO149 := am (Kd.R_lower ho9 (keep_size (w := w) (g := g) (row := none) u56HK)); replace BK143 := kb BK143 hb; replace HK := am (KeepBut.trans u56HK (KeepBut.of_below hb g none) (.inl rfl)); replace HB := am (below_step u56HB hb); replace HI0 := am (IsS57.below u56HI0 hb); clear hb ho9; obtain ⟨Ao10, co10, eo10⟩ := Kd.R_slice HO149.out; subst eo10) | ((with_reducible refine gw ?_); first | (refine gl 9 Tryd.func50 #[.pointer (some ⟨g, 0, none⟩), .slice Ao10 y147.length co10] ?_; (with_reducible refine (spec_l1Pick.calls g s0_0 t145 t146 _ _ y147 t150 t151 t152 w0 _ ?side1 ?side2 ?side3 ?side4 ?side5 A7.out).mono ?_); (case side1 => exact u56HI0); (case side2 => exact u56HB); (case side3 => exact rc HO149); (case side4 => exact (Kd.R_reads' HO149.out).2.1); (case side5 => exact far_slice (IsS57.own_ne HI0.out HO149.out (by decide))); rintro e w11 ⟨rfl, hi, hb, hk⟩; refine ⟨_, rfl, ?_⟩; replace BK143 := kp BK143 hk NB143_0; replace HO149 := am (Kd.R_mono (Kd.R_keep (IsS57.apart (show IsS57 w0 _ g s0_0 t145 t146 from u56HI0) (ro HO149) (by decide)) hk (fun _ h => h.2)) (fun _ h => h.1)); replace HK := am (KeepBut.trans u56HK hk (.inl rfl)); replace HB := am (hb); replace HI0 := am (hi); clear hb hk hi; have hnb12 := NB143_0.out; have hnc12 := NB0_143.out; obtain ⟨z13_0, y13_0, z13_1, y13_1⟩ := cl2 BK143)))
  refine bodyPost_ret (results_cell_row rfl _ _ gb143 46 #[.string (⟨#[99, 97, 99, 104, 101, 45, 99, 111, 110, 116, 114, 111, 108]⟩ : ByteArray), .string t150] (0, 0) _ rfl (pt0 BK143) Tryd.underlying46 rfl (by kernel_rfl)) rfl ?_
  exact ⟨rf, u56HI0, u56HB, u56HK⟩
 rw [if_neg c6] at H
 have c6b0 : (t144 == 0) = false := beq_eq_false_iff_ne.mpr c6
 have c6b1 : (t144 != 0) = true := bne_iff_ne.mpr c6
 (first | rw [c6b0] | (simp only [i64_w, i32_w]; rw [c6b0]) | skip)
 by_cases c14 : t144 = 1
 ·rw [if_pos c14] at H
  have c14b0 : (t144 == 1) = true := beq_iff_eq.mpr c14
  have c14b1 : (t144 != 1) = false := bne_eq_false_iff_eq.mpr c14
  clear c14
  obtain ⟨y153, hy153⟩ : ∃ y_ : List ByteArray, y_ = (([(⟨#[97]⟩ : ByteArray), (⟨#[98]⟩ : ByteArray)] : List ByteArray)) := ⟨_, rfl⟩
  replace H : ((spec_l1Pick.f s0_0 t145 t146 y153).bind fun bt156 => (some ((⟨#[101, 116, 97, 103]⟩ : ByteArray), bt156.1, bt156.2.1, bt156.2.2))) = some (r1, r2, r3, r4) := by first | (rw [hy153]; with_reducible exact H) | (have H2_ := (Option.bind_some _ _).symm.trans H; rw [hy153]; with_reducible exact H2_) | (have H2_ := (Option.bind_some _ _).symm.trans H; with_reducible exact H2_) | with_reducible exact H | (rw [hy153]; exact H) | exact H
  have Ny153 := am hy153
  clear hy153
  revert H
  refine ok3 fun t156 t157 t158 A15 H => ?_
  (try dsimp only at H)
  simp only [Option.some.injEq, Prod.mk.injEq] at H
  obtain ⟨rfl, rfl, rfl, rfl⟩ := H
  go_wp2_with (first | ((with_reducible refine gate_dst (N := 14) rfl ?_); refine Kd.R_lit Kd.string _ 9 ?hg (N := 14) ?hd (xs := ([(⟨#[97]⟩ : ByteArray), (⟨#[98]⟩ : ByteArray)] : List ByteArray)) (inner := [.string (⟨#[97]⟩ : ByteArray), .string (⟨#[98]⟩ : ByteArray)]) (ok := fun _ => True) (okp := fun _ => True) ?hr ?hp (fun _ hk => hk) trivial (Below.refl _ _) (Nat.le_refl _) (by simp) ?_; (case hd => rfl); (case hg => rfl); (case hr => first | (go_simp; done) | (go_simp; rfl)); (case hp => exact rp); intro v154 w16 ho17 hb hg_ hnew_; clear hg_ hnew_; (first | rw [← Ny153.out] at ho17 | (simp only [Int.reduceToNat] at ho17; rw [← Ny153.out] at ho17)); have HO155 := am (Kd.R_lower ho17 (keep_size (w := w) (g := g) (row := none) u56HK)); replace BK143 := kb BK143 hb; replace HK := am (KeepBut.trans u56HK (KeepBut.of_below hb g none) (.inl rfl)); replace HB := am (below_step u56HB hb); replace HI0 := am (IsS57.below u56HI0 hb); clear hb ho17; obtain ⟨Ao18, co18, eo18⟩ := Kd.R_slice HO155.out; subst eo18) | ((with_reducible refine gw ?_); first | (refine gl 15 Tryd.func50 #[.pointer (some ⟨g, 0, none⟩), .slice Ao18 y153.length co18] ?_; (with_reducible refine (spec_l1Pick.calls g s0_0 t145 t146 _ _ y153 t156 t157 t158 w0 _ ?side1 ?side2 ?side3 ?side4 ?side5 A15.out).mono ?_); (case side1 => exact u56HI0); (case side2 => exact u56HB); (case side3 => exact rc HO155); (case side4 => exact (Kd.R_reads' HO155.out).2.1); (case side5 => exact far_slice (IsS57.own_ne HI0.out HO155.out (by decide))); rintro e w19 ⟨rfl, hi, hb, hk⟩; refine ⟨_, rfl, ?_⟩; replace BK143 := kp BK143 hk NB143_0; replace HO155 := am (Kd.R_mono (Kd.R_keep (IsS57.apart (show IsS57 w0 _ g s0_0 t145 t146 from u56HI0) (ro HO155) (by decide)) hk (fun _ h => h.2)) (fun _ h => h.1)); replace HK := am (KeepBut.trans u56HK hk (.inl rfl)); replace HB := am (hb); replace HI0 := am (hi); clear hb hk hi; have hnb20 := NB143_0.out; have hnc20 := NB0_143.out; obtain ⟨z21_0, y21_0, z21_1, y21_1⟩ := cl2 BK143)))
  refine bodyPost_ret (results_cell_row rfl _ _ gb143 46 #[.string (⟨#[101, 116, 97, 103]⟩ : ByteArray), .string t156] (0, 0) _ rfl (pt0 BK143) Tryd.underlying46 rfl (by kernel_rfl)) rfl ?_
  exact ⟨rf, u56HI0, u56HB, u56HK⟩
 rw [if_neg c14] at H
 have c14b0 : (t144 == 1) = false := beq_eq_false_iff_ne.mpr c14
 have c14b1 : (t144 != 1) = true := bne_iff_ne.mpr c14
 by_cases c22 : t144 = 2
 ·rw [if_pos c22] at H
  have c22b0 : (t144 == 2) = true := beq_iff_eq.mpr c22
  have c22b1 : (t144 != 2) = false := bne_eq_false_iff_eq.mpr c22
  clear c22
  obtain ⟨y159, hy159⟩ : ∃ y_ : List ByteArray, y_ = (([(⟨#[108, 97, 110, 103]⟩ : ByteArray), (⟨#[108, 97, 110, 103, 44, 32, 107, 105, 110, 100]⟩ : ByteArray), (⟨#[42]⟩ : ByteArray)] : List ByteArray)) := ⟨_, rfl⟩
  replace H : ((spec_l1Pick.f s0_0 t145 t146 y159).bind fun bt162 => (some ((⟨#[118, 97, 114, 121]⟩ : ByteArray), bt162.1, bt162.2.1, bt162.2.2))) = some (r1, r2, r3, r4) := by first | (rw [hy159]; with_reducible exact H) | (have H2_ := (Option.bind_some _ _).symm.trans H; rw [hy159]; with_reducible exact H2_) | (have H2_ := (Option.bind_some _ _).symm.trans H; with_reducible exact H2_) | with_reducible exact H | (rw [hy159]; exact H) | exact H
  have Ny159 := am hy159
  clear hy159
  revert H
  refine ok3 fun t162 t163 t164 A23 H => ?_
  (try dsimp only at H)
  simp only [Option.some.injEq, Prod.mk.injEq] at H
  obtain ⟨rfl, rfl, rfl, rfl⟩ := H
  go_wp2_with (first | ((with_reducible refine gate_dst (N := 20) rfl ?_); refine Kd.R_lit Kd.string _ 9 ?hg (N := 20) ?hd (xs := ([(⟨#[108, 97, 110, 103]⟩ : ByteArray), (⟨#[108, 97, 110, 103, 44, 32, 107, 105, 110, 100]⟩ : ByteArray), (⟨#[42]⟩ : ByteArray)] : List ByteArray)) (inner := [.string (⟨#[108, 97, 110, 103]⟩ : ByteArray), .string (⟨#[108, 97, 110, 103, 44, 32, 107, 105, 110, 100]⟩ : ByteArray), .string (⟨#[42]⟩ : ByteArray)]) (ok := fun _ => True) (okp := fun _ => True) ?hr ?hp (fun _ hk => hk) trivial (Below.refl _ _) (Nat.le_refl _) (by simp) ?_; (case hd => rfl); (case hg => rfl); (case hr => first | (go_simp; done) | (go_simp; rfl)); (case hp => exact rp); intro v160 w24 ho25 hb hg_ hnew_; clear hg_ hnew_; (first | rw [← Ny159.out] at ho25 | (simp only [Int.reduceToNat] at ho25; rw [← Ny159.out] at ho25)); have HO161 := am (Kd.R_lower ho25 (keep_size (w := w) (g := g) (row := none) u56HK)); replace BK143 := kb BK143 hb; replace HK := am (KeepBut.trans u56HK (KeepBut.of_below hb g none) (.inl rfl)); replace HB := am (below_step u56HB hb); replace HI0 := am (IsS57.below u56HI0 hb); clear hb ho25; obtain ⟨Ao26, co26, eo26⟩ := Kd.R_slice HO161.out; subst eo26) | ((with_reducible refine gw ?_); first | (refine gl 21 Tryd.func50 #[.pointer (some ⟨g, 0, none⟩), .slice Ao26 y159.length co26] ?_; (with_reducible refine (spec_l1Pick.calls g s0_0 t145 t146 _ _ y159 t162 t163 t164 w0 _ ?side1 ?side2 ?side3 ?side4 ?side5 A23.out).mono ?_); (case side1 => exact u56HI0); (case side2 => exact u56HB); (case side3 => exact rc HO161); (case side4 => exact (Kd.R_reads' HO161.out).2.1); (case side5 => exact far_slice (IsS57.own_ne HI0.out HO161.out (by decide))); rintro e w27 ⟨rfl, hi, hb, hk⟩; refine ⟨_, rfl, ?_⟩; replace BK143 := kp BK143 hk NB143_0; replace HO161 := am (Kd.R_mono (Kd.R_keep (IsS57.apart (show IsS57 w0 _ g s0_0 t145 t146 from u56HI0) (ro HO161) (by decide)) hk (fun _ h => h.2)) (fun _ h => h.1)); replace HK := am (KeepBut.trans u56HK hk (.inl rfl)); replace HB := am (hb); replace HI0 := am (hi); clear hb hk hi; have hnb28 := NB143_0.out; have hnc28 := NB0_143.out; obtain ⟨z29_0, y29_0, z29_1, y29_1⟩ := cl2 BK143)))
  refine bodyPost_ret (results_cell_row rfl _ _ gb143 46 #[.string (⟨#[118, 97, 114, 121]⟩ : ByteArray), .string t162] (0, 0) _ rfl (pt0 BK143) Tryd.underlying46 rfl (by kernel_rfl)) rfl ?_
  exact ⟨rf, u56HI0, u56HB, u56HK⟩
 rw [if_neg c22] at H
 have c22b0 : (t144 == 2) = false := beq_eq_false_iff_ne.mpr c22
 have c22b1 : (t144 != 2) = true := bne_iff_ne.mpr c22
 by_cases c30 : t144 = 3
 ·rw [if_pos c30] at H
  have c30b0 : (t144 == 3) = true := beq_iff_eq.mpr c30
  have c30b1 : (t144 != 3) = false := bne_eq_false_iff_eq.mpr c30
  clear c30
  obtain ⟨y165, hy165⟩ : ∃ y_ : List ByteArray, y_ = (([(⟨#[100, 101]⟩ : ByteArray), (⟨#[101, 110]⟩ : ByteArray)] : List ByteArray)) := ⟨_, rfl⟩
  replace H : ((spec_l1Pick.f s0_0 t145 t146 y165).bind fun bt168 => (some ((⟨#[108, 97, 110, 103]⟩ : ByteArray), bt168.1, bt168.2.1, bt168.2.2))) = some (r1, r2, r3, r4) := by first | (rw [hy165]; with_reducible exact H) | (have H2_ := (Option.bind_some _ _).symm.trans H; rw [hy165]; with_reducible exact H2_) | (have H2_ := (Option.bind_some _ _).symm.trans H; with_reducible exact H2_) | with_reducible exact H | (rw [hy165]; exact H) | exact H
  have Ny165 := am hy165
  clear hy165
  revert H
  refine ok3 fun t168 t169 t170 A31 H => ?_
  (try dsimp only at H)
  simp only [Option.some.injEq, Prod.mk.injEq] at H
  obtain ⟨rfl, rfl, rfl, rfl⟩ := H
  go_wp2_with (first | ((with_reducible refine gate_dst (N := 26) rfl ?_); refine Kd.R_lit Kd.string _ 9 ?hg (N := 26) ?hd (xs := ([(⟨#[100, 101]⟩ : ByteArray), (⟨#[101, 110]⟩ : ByteArray)] : List ByteArray)) (inner := [.string (⟨#[100, 101]⟩ : ByteArray), .string (⟨#[101, 110]⟩ : ByteArray)]) (ok := fun _ => True) (okp := fun _ => True) ?hr ?hp (fun _ hk => hk) trivial (Below.refl _ _) (Nat.le_refl _) (by simp) ?_; (case hd => rfl); (case hg => rfl); (case hr => first | (go_simp; done) | (go_simp; rfl)); (case hp => exact rp); intro v166 w32 ho33 hb hg_ hnew_; clear hg_ hnew_; (first | rw [← Ny165.out] at ho33 | (simp only [Int.reduceToNat] at ho33; rw [← Ny165.out] at ho33)); have HO167 := am (Kd.R_lower ho33 (keep_size (w := w) (g := g) (row := none) u56HK)); replace BK143 := kb BK143 hb; replace HK := am (KeepBut.trans u56HK (KeepBut.of_below hb g none) (.inl rfl)); replace HB := am (below_step u56HB hb); replace HI0 := am (IsS57.below u56HI0 hb); clear hb ho33; obtain ⟨Ao34, co34, eo34⟩ := Kd.R_slice HO167.out; subst eo34) | ((with_reducible refine gw ?_); first | (refine gl 27 Tryd.func50 #[.pointer (some ⟨g, 0, none⟩), .slice Ao34 y165.length co34] ?_; (with_reducible refine (spec_l1Pick.calls g s0_0 t145 t146 _ _ y165 t168 t169 t170 w0 _ ?side1 ?side2 ?side3 ?side4 ?side5 A31.out).mono ?_); (case side1 => exact u56HI0); (case side2 => exact u56HB); (case side3 => exact rc HO167); (case side4 => exact (Kd.R_reads' HO167.out).2.1); (case side5 => exact far_slice (IsS57.own_ne HI0.out HO167.out (by decide))); rintro e w35 ⟨rfl, hi, hb, hk⟩; refine ⟨_, rfl, ?_⟩; replace BK143 := kp BK143 hk NB143_0; replace HO167 := am (Kd.R_mono (Kd.R_keep (IsS57.apart (show IsS57 w0 _ g s0_0 t145 t146 from u56HI0) (ro HO167) (by decide)) hk (fun _ h => h.2)) (fun _ h => h.1)); replace HK := am (KeepBut.trans u56HK hk (.inl rfl)); replace HB := am (hb); replace HI0 := am (hi); clear hb hk hi; have hnb36 := NB143_0.out; have hnc36 := NB0_143.out; obtain ⟨z37_0, y37_0, z37_1, y37_1⟩ := cl2 BK143)))
  refine bodyPost_ret (results_cell_row rfl _ _ gb143 46 #[.string (⟨#[108, 97, 110, 103]⟩ : ByteArray), .string t168] (0, 0) _ rfl (pt0 BK143) Tryd.underlying46 rfl (by kernel_rfl)) rfl ?_
  exact ⟨rf, u56HI0, u56HB, u56HK⟩
 rw [if_neg c30] at H
 have c30b0 : (t144 == 3) = false := beq_eq_false_iff_ne.mpr c30
 have c30b1 : (t144 != 3) = true := bne_iff_ne.mpr c30
 by_cases c38 : t144 = 4
 ·rw [if_pos c38] at H
  have c38b0 : (t144 == 4) = true := beq_iff_eq.mpr c38
  have c38b1 : (t144 != 4) = false := bne_eq_false_iff_eq.mpr c38
  clear c38
  obtain ⟨y171, hy171⟩ : ∃ y_ : List ByteArray, y_ = (([(⟨#[120]⟩ : ByteArray), (⟨#[121]⟩ : ByteArray)] : List ByteArray)) := ⟨_, rfl⟩
  replace H : ((spec_l1Pick.f s0_0 t145 t146 y171).bind fun bt174 => (some ((⟨#[107, 105, 110, 100]⟩ : ByteArray), bt174.1, bt174.2.1, bt174.2.2))) = some (r1, r2, r3, r4) := by first | (rw [hy171]; with_reducible exact H) | (have H2_ := (Option.bind_some _ _).symm.trans H; rw [hy171]; with_reducible exact H2_) | (have H2_ := (Option.bind_some _ _).symm.trans H; with_reducible exact H2_) | with_reducible exact H | (rw [hy171]; exact H) | exact H
  have Ny171 := am hy171
  clear hy171
  revert H
  refine ok3 fun t174 t175 t176 A39 H => ?_
  (try dsimp only at H)
  simp only [Option.some.injEq, Prod.mk.injEq] at H
  obtain ⟨rfl, rfl, rfl, rfl⟩ := H
  go_wp2_with (first | ((with_reducible refine gate_dst (N := 32) rfl ?_); refine Kd.R_lit Kd.string _ 9 ?hg (N := 32) ?hd (xs := ([(⟨#[120]⟩ : ByteArray), (⟨#[121]⟩ : ByteArray)] : List ByteArray)) (inner := [.string (⟨#[120]⟩ : ByteArray), .string (⟨#[121]⟩ : ByteArray)]) (ok := fun _ => True) (okp := fun _ => True) ?hr ?hp (fun _ hk => hk) trivial (Below.refl _ _) (Nat.le_refl _) (by simp) ?_; (case hd => rfl); (case hg => rfl); (case hr => first | (go_simp; done) | (go_simp; rfl)); (case hp => exact rp); intro v172 w40 ho41 hb hg_ hnew_; clear hg_ hnew_; (first | rw [← Ny171.out] at ho41 | (simp only [Int.reduceToNat] at ho41; rw [← Ny171.out] at ho41)); have HO173 := am (Kd.R_lower ho41 (keep_size (w := w) (g := g) (row := none) u56HK)); replace BK143 := kb BK143 hb; replace HK := am (KeepBut.trans u56HK (KeepBut.of_below hb g none) (.inl rfl)); replace HB := am (below_step u56HB hb); replace HI0 := am (IsS57.below u56HI0 hb); clear hb ho41; obtain ⟨Ao42, co42, eo42⟩ := Kd.R_slice HO173.out; subst eo42) | ((with_reducible refine gw ?_); first | (refine gl 33 Tryd.func50 #[.pointer (some ⟨g, 0, none⟩), .slice Ao42 y171.length co42] ?_; (with_reducible refine (spec_l1Pick.calls g s0_0 t145 t146 _ _ y171 t174 t175 t176 w0 _ ?side1 ?side2 ?side3 ?side4 ?side5 A39.out).mono ?_); (case side1 => exact u56HI0); (case side2 => exact u56HB); (case side3 => exact rc HO173); (case side4 => exact (Kd.R_reads' HO173.out).2.1); (case side5 => exact far_slice (IsS57.own_ne HI0.out HO173.out (by decide))); rintro e w43 ⟨rfl, hi, hb, hk⟩; refine ⟨_, rfl, ?_⟩; replace BK143 := kp BK143 hk NB143_0; replace HO173 := am (Kd.R_mono (Kd.R_keep (IsS57.apart (show IsS57 w0 _ g s0_0 t145 t146 from u56HI0) (ro HO173) (by decide)) hk (fun _ h => h.2)) (fun _ h => h.1)); replace HK := am (KeepBut.trans u56HK hk (.inl rfl)); replace HB := am (hb); replace HI0 := am (hi); clear hb hk hi; have hnb44 := NB143_0.out; have hnc44 := NB0_143.out; obtain ⟨z45_0, y45_0, z45_1, y45_1⟩ := cl2 BK143)))
  refine bodyPost_ret (results_cell_row rfl _ _ gb143 46 #[.string (⟨#[107, 105, 110, 100]⟩ : ByteArray), .string t174] (0, 0) _ rfl (pt0 BK143) Tryd.underlying46 rfl (by kernel_rfl)) rfl ?_
  exact ⟨rf, u56HI0, u56HB, u56HK⟩
 rw [if_neg c38] at H
 have c38b0 : (t144 == 4) = false := beq_eq_false_iff_ne.mpr c38
 have c38b1 : (t144 != 4) = true := bne_iff_ne.mpr c38
 by_cases c46 : t144 = 5
 ·rw [if_pos c46] at H
  have c46b0 : (t144 == 5) = true := beq_iff_eq.mpr c46
  have c46b1 : (t144 != 5) = false := bne_eq_false_iff_eq.mpr c46
  clear c46
  obtain ⟨y177, hy177⟩ : ∃ y_ : List ByteArray, y_ = (([(⟨#[48]⟩ : ByteArray), (⟨#[51]⟩ : ByteArray), (⟨#[57, 48]⟩ : ByteArray), (⟨#[120]⟩ : ByteArray)] : List ByteArray)) := ⟨_, rfl⟩
  replace H : ((spec_l1Pick.f s0_0 t145 t146 y177).bind fun bt180 => (some ((⟨#[97, 103, 101]⟩ : ByteArray), bt180.1, bt180.2.1, bt180.2.2))) = some (r1, r2, r3, r4) := by first | (rw [hy177]; with_reducible exact H) | (have H2_ := (Option.bind_some _ _).symm.trans H; rw [hy177]; with_reducible exact H2_) | (have H2_ := (Option.bind_some _ _).symm.trans H; with_reducible exact H2_) | with_reducible exact H | (rw [hy177]; exact H) | exact H
  have Ny177 := am hy177
  clear hy177
  revert H
  refine ok3 fun t180 t181 t182 A47 H => ?_
  (try dsimp only at H)
  simp only [Option.some.injEq, Prod.mk.injEq] at H
  obtain ⟨rfl, rfl, rfl, rfl⟩ := H
  go_wp2_with (first | ((with_reducible refine gate_dst (N := 38) rfl ?_); refine Kd.R_lit Kd.string _ 9 ?hg (N := 38) ?hd (xs := ([(⟨#[48]⟩ : ByteArray), (⟨#[51]⟩ : ByteArray), (⟨#[57, 48]⟩ : ByteArray), (⟨#[120]⟩ : ByteArray)] : List ByteArray)) (inner := [.string (⟨#[48]⟩ : ByteArray), .string (⟨#[51]⟩ : ByteArray), .string (⟨#[57, 48]⟩ : ByteArray), .string (⟨#[120]⟩ : ByteArray)]) (ok := fun _ => True) (okp := fun _ => True) ?hr ?hp (fun _ hk => hk) trivial (Below.refl _ _) (Nat.le_refl _) (by simp) ?_; (case hd => rfl); (case hg => rfl); (case hr => first | (go_simp; done) | (go_simp; rfl)); (case hp => exact rp); intro v178 w48 ho49 hb hg_ hnew_; clear hg_ hnew_; (first | rw [← Ny177.out] at ho49 | (simp only [Int.reduceToNat] at ho49; rw [← Ny177.out] at ho49)); have HO179 := am (Kd.R_lower ho49 (keep_size (w := w) (g := g) (row := none) u56HK)); replace BK143 := kb BK143 hb; replace HK := am (KeepBut.trans u56HK (KeepBut.of_below hb g none) (.inl rfl)); replace HB := am (below_step u56HB hb); replace HI0 := am (IsS57.below u56HI0 hb); clear hb ho49; obtain ⟨Ao50, co50, eo50⟩ := Kd.R_slice HO179.out; subst eo50) | ((with_reducible refine gw ?_); first | (refine gl 39 Tryd.func50 #[.pointer (some ⟨g, 0, none⟩), .slice Ao50 y177.length co50] ?_; (with_reducible refine (spec_l1Pick.calls g s0_0 t145 t146 _ _ y177 t180 t181 t182 w0 _ ?side1 ?side2 ?side3 ?side4 ?side5 A47.out).mono ?_); (case side1 => exact u56HI0); (case side2 => exact u56HB); (case side3 => exact rc HO179); (case side4 => exact (Kd.R_reads' HO179.out).2.1); (case side5 => exact far_slice (IsS57.own_ne HI0.out HO179.out (by decide))); rintro e w51 ⟨rfl, hi, hb, hk⟩; refine ⟨_, rfl, ?_⟩; replace BK143 := kp BK143 hk NB143_0; replace HO179 := am (Kd.R_mono (Kd.R_keep (IsS57.apart (show IsS57 w0 _ g s0_0 t145 t146 from u56HI0) (ro HO179) (by decide)) hk (fun _ h => h.2)) (fun _ h => h.1)); replace HK := am (KeepBut.trans u56HK hk (.inl rfl)); replace HB := am (hb); replace HI0 := am (hi); clear hb hk hi; have hnb52 := NB143_0.out; have hnc52 := NB0_143.out; obtain ⟨z53_0, y53_0, z53_1, y53_1⟩ := cl2 BK143)))
  refine bodyPost_ret (results_cell_row rfl _ _ gb143 46 #[.string (⟨#[97, 103, 101]⟩ : ByteArray), .string t180] (0, 0) _ rfl (pt0 BK143) Tryd.underlying46 rfl (by kernel_rfl)) rfl ?_
  exact ⟨rf, u56HI0, u56HB, u56HK⟩
 rw [if_neg c46] at H
 have c46b0 : (t144 == 5) = false := beq_eq_false_iff_ne.mpr c46
 have c46b1 : (t144 != 5) = true := bne_iff_ne.mpr c46
 by_cases c54 : t144 = 6
 ·rw [if_pos c54] at H
  have c54b0 : (t144 == 6) = true := beq_iff_eq.mpr c54
  have c54b1 : (t144 != 6) = false := bne_eq_false_iff_eq.mpr c54
  clear c54
  obtain ⟨y183, hy183⟩ : ∃ y_ : List ByteArray, y_ = (([(⟨#[97]⟩ : ByteArray), (⟨#[98]⟩ : ByteArray)] : List ByteArray)) := ⟨_, rfl⟩
  replace H : ((spec_l1Pick.f s0_0 t145 t146 y183).bind fun bt186 => (some ((⟨#[105, 102, 45, 110, 111, 110, 101, 45, 109, 97, 116, 99, 104]⟩ : ByteArray), bt186.1, bt186.2.1, bt186.2.2))) = some (r1, r2, r3, r4) := by first | (rw [hy183]; with_reducible exact H) | (have H2_ := (Option.bind_some _ _).symm.trans H; rw [hy183]; with_reducible exact H2_) | (have H2_ := (Option.bind_some _ _).symm.trans H; with_reducible exact H2_) | with_reducible exact H | (rw [hy183]; exact H) | exact H
  have Ny183 := am hy183
  clear hy183
  revert H
  refine ok3 fun t186 t187 t188 A55 H => ?_
  (try dsimp only at H)
  simp only [Option.some.injEq, Prod.mk.injEq] at H
  obtain ⟨rfl, rfl, rfl, rfl⟩ := H
  go_wp2_with (first | ((with_reducible refine gate_dst (N := 44) rfl ?_); refine Kd.R_lit Kd.string _ 9 ?hg (N := 44) ?hd (xs := ([(⟨#[97]⟩ : ByteArray), (⟨#[98]⟩ : ByteArray)] : List ByteArray)) (inner := [.string (⟨#[97]⟩ : ByteArray), .string (⟨#[98]⟩ : ByteArray)]) (ok := fun _ => True) (okp := fun _ => True) ?hr ?hp (fun _ hk => hk) trivial (Below.refl _ _) (Nat.le_refl _) (by simp) ?_; (case hd => rfl); (case hg => rfl); (case hr => first | (go_simp; done) | (go_simp; rfl)); (case hp => exact rp); intro v184 w56 ho57 hb hg_ hnew_; clear hg_ hnew_; (first | rw [← Ny183.out] at ho57 | (simp only [Int.reduceToNat] at ho57; rw [← Ny183.out] at ho57)); have HO185 := am (Kd.R_lower ho57 (keep_size (w := w) (g := g) (row := none) u56HK)); replace BK143 := kb BK143 hb; replace HK := am (KeepBut.trans u56HK (KeepBut.of_below hb g none) (.inl rfl)); replace HB := am (below_step u56HB hb); replace HI0 := am (IsS57.below u56HI0 hb); clear hb ho57; obtain ⟨Ao58, co58, eo58⟩ := Kd.R_slice HO185.out; subst eo58) | ((with_reducible refine gw ?_); first | (refine gl 45 Tryd.func50 #[.pointer (some ⟨g, 0, none⟩), .slice Ao58 y183.length co58] ?_; (with_reducible refine (spec_l1Pick.calls g s0_0 t145 t146 _ _ y183 t186 t187 t188 w0 _ ?side1 ?side2 ?side3 ?side4 ?side5 A55.out).mono ?_); (case side1 => exact u56HI0); (case side2 => exact u56HB); (case side3 => exact rc HO185); (case side4 => exact (Kd.R_reads' HO185.out).2.1); (case side5 => exact far_slice (IsS57.own_ne HI0.out HO185.out (by decide))); rintro e w59 ⟨rfl, hi, hb, hk⟩; refine ⟨_, rfl, ?_⟩; replace BK143 := kp BK143 hk NB143_0; replace HO185 := am (Kd.R_mono (Kd.R_keep (IsS57.apart (show IsS57 w0 _ g s0_0 t145 t146 from u56HI0) (ro HO185) (by decide)) hk (fun _ h => h.2)) (fun _ h => h.1)); replace HK := am (KeepBut.trans u56HK hk (.inl rfl)); replace HB := am (hb); replace HI0 := am (hi); clear hb hk hi; have hnb60 := NB143_0.out; have hnc60 := NB0_143.out; obtain ⟨z61_0, y61_0, z61_1, y61_1⟩ := cl2 BK143)))
  refine bodyPost_ret (results_cell_row rfl _ _ gb143 46 #[.string (⟨#[105, 102, 45, 110, 111, 110, 101, 45, 109, 97, 116, 99, 104]⟩ : ByteArray), .string t186] (0, 0) _ rfl (pt0 BK143) Tryd.underlying46 rfl (by kernel_rfl)) rfl ?_
  exact ⟨rf, u56HI0, u56HB, u56HK⟩
 rw [if_neg c54] at H
 have c54b0 : (t144 == 6) = false := beq_eq_false_iff_ne.mpr c54
 have c54b1 : (t144 != 6) = true := bne_iff_ne.mpr c54
 obtain ⟨y189, hy189⟩ : ∃ y_ : List ByteArray, y_ = (([(⟨#[120, 45, 97]⟩ : ByteArray), (⟨#[120, 45, 98]⟩ : ByteArray), (⟨#[100, 97, 116, 101]⟩ : ByteArray)] : List ByteArray)) := ⟨_, rfl⟩
 replace H : ((spec_l1Pick.f s0_0 t145 t146 y189).bind fun bt192 => ((spec_l1Pick.f s0_0 bt192.2.1 bt192.2.2 (([(⟨#[49]⟩ : ByteArray), (⟨#[116, 119, 111, 32, 119, 111, 114, 100, 115]⟩ : ByteArray), (⟨#[113]⟩ : ByteArray)] : List ByteArray))).bind fun bt198 => (some (bt192.1, bt198.1, bt198.2.1, bt198.2.2)))) = some (r1, r2, r3, r4) := by first | (rw [hy189]; with_reducible exact H) | (have H2_ := (Option.bind_some _ _).symm.trans H; rw [hy189]; with_reducible exact H2_) | (have H2_ := (Option.bind_some _ _).symm.trans H; with_reducible exact H2_) | with_reducible exact H | (rw [hy189]; exact H) | exact H
 have Ny189 := am hy189
 clear hy189
 revert H
 refine ok3 fun t192 t193 t194 A62 H => ?_
 (try dsimp only at H)
 obtain ⟨y195, hy195⟩ : ∃ y_ : List ByteArray, y_ = (([(⟨#[49]⟩ : ByteArray), (⟨#[116, 119, 111, 32, 119, 111, 114, 100, 115]⟩ : ByteArray), (⟨#[113]⟩ : ByteArray)] : List ByteArray)) := ⟨_, rfl⟩
 replace H : ((spec_l1Pick.f s0_0 t193 t194 y195).bind fun bt198 => (some (t192, bt198.1, bt198.2.1, bt198.2.2))) = some (r1, r2, r3, r4) := by first | (rw [hy195]; with_reducible exact H) | (have H2_ := (Option.bind_some _ _).symm.trans H; rw [hy195]; with_reducible exact H2_) | (have H2_ := (Option.bind_some _ _).symm.trans H; with_reducible exact H2_) | with_reducible exact H | (rw [hy195]; exact H) | exact H
 have Ny195 := am hy195
 clear hy195
 revert H
 refine ok3 fun t198 t199 t200 A63 H => ?_
 (try dsimp only at H)
 simp only [Option.some.injEq, Prod.mk.injEq] at H
 obtain ⟨rfl, rfl, rfl, rfl⟩ := H
 go_wp2_with (first | ((with_reducible refine gate_dst (N := 48) rfl ?_); refine Kd.R_lit Kd.string _ 9 ?hg (N := 48) ?hd (xs := ([(⟨#[120, 45, 97]⟩ : ByteArray), (⟨#[120, 45, 98]⟩ : ByteArray), (⟨#[100, 97, 116, 101]⟩ : ByteArray)] : List ByteArray)) (inner := [.string (⟨#[120, 45, 97]⟩ : ByteArray), .string (⟨#[120, 45, 98]⟩ : ByteArray), .string (⟨#[100, 97, 116, 101]⟩ : ByteArray)]) (ok := fun _ => True) (okp := fun _ => True) ?hr ?hp (fun _ hk => hk) trivial (Below.refl _ _) (Nat.le_refl _) (by simp) ?_; (case hd => rfl); (case hg => rfl); (case hr => first | (go_simp; done) | (go_simp; rfl)); (case hp => exact rp); intro v190 w64 ho65 hb hg_ hnew_; clear hg_ hnew_; (first | rw [← Ny189.out] at ho65 | (simp only [Int.reduceToNat] at ho65; rw [← Ny189.out] at ho65)); have HO191 := am (Kd.R_lower ho65 (keep_size (w := w) (g := g) (row := none) u56HK)); replace BK143 := kb BK143 hb; replace HK := am (KeepBut.trans u56HK (KeepBut.of_below hb g none) (.inl rfl)); replace HB := am (below_step u56HB hb); replace HI0 := am (IsS57.below u56HI0 hb); clear hb ho65; obtain ⟨Ao66, co66, eo66⟩ := Kd.R_slice HO191.out; subst eo66) | ((with_reducible refine gw ?_); refine gl 49 Tryd.func50 #[.pointer (some ⟨g, 0, none⟩), .slice Ao66 y189.length co66] ?_; (with_reducible refine (spec_l1Pick.calls g s0_0 t145 t146 _ _ y189 t192 t193 t194 w0 _ ?side1 ?side2 ?side3 ?side4 ?side5 A62.out).mono ?_); (case side1 => exact u56HI0); (case side2 => exact u56HB); (case side3 => exact rc HO191); (case side4 => exact (Kd.R_reads' HO191.out).2.1); (case side5 => exact far_slice (IsS57.own_ne HI0.out HO191.out (by decide))); rintro e w67 ⟨rfl, hi, hb, hk⟩; refine ⟨_, rfl, ?_⟩; replace BK143 := kp BK143 hk NB143_0; replace HO191 := am (Kd.R_mono (Kd.R_keep (IsS57.apart (show IsS57 w0 _ g s0_0 t145 t146 from u56HI0) (ro HO191) (by decide)) hk (fun _ h => h.2)) (fun _ h => h.1)); replace HK := am (KeepBut.trans u56HK hk (.inl rfl)); replace HB := am (hb); replace HI0 := am (hi); clear hb hk hi) | ((with_reducible refine gate_dst (N := 51) rfl ?_); refine Kd.R_lit Kd.string _ 9 ?hg (N := 51) ?hd (xs := ([(⟨#[49]⟩ : ByteArray), (⟨#[116, 119, 111, 32, 119, 111, 114, 100, 115]⟩ : ByteArray), (⟨#[113]⟩ : ByteArray)] : List ByteArray)) (inner := [.string (⟨#[49]⟩ : ByteArray), .string (⟨#[116, 119, 111, 32, 119, 111, 114, 100, 115]⟩ : ByteArray), .string (⟨#[113]⟩ : ByteArray)]) (ok := fun _ => True) (okp := fun _ => True) ?hr ?hp (fun _ hk => hk) trivial (Below.refl _ _) (Nat.le_refl _) (by simp) ?_; (case hd => rfl); (case hg => rfl); (case hr => first | (go_simp; done) | (go_simp; rfl)); (case hp => exact rp); intro v196 w68 ho69 hb hg_ hnew_; clear hg_ hnew_; (first | rw [← Ny195.out] at ho69 | (simp only [Int.reduceToNat] at ho69; rw [← Ny195.out] at ho69)); have HO197 := am (Kd.R_lower (Kd.R_new' ho69 (Kd.R_lt (ro HO191))) (keep_size (w := w) (g := g) (row := none) u56HK)); replace HO191 := am (Kd.R_elder' (ro HO191) (Kd.R_base ho69) hb); replace BK143 := kb BK143 hb; replace HK := am (KeepBut.trans u56HK (KeepBut.of_below hb g none) (.inl rfl)); replace HB := am (below_step u56HB hb); replace HI0 := am (IsS57.below u56HI0 hb); clear hb ho69; obtain ⟨Ao70, co70, eo70⟩ := Kd.R_slice HO197.out; subst eo70) | ((with_reducible refine gw ?_); refine gl 52 Tryd.func50 #[.pointer (some ⟨g, 0, none⟩), .slice Ao70 y195.length co70] ?_; (with_reducible refine (spec_l1Pick.calls g s0_0 t193 t194 _ _ y195 t198 t199 t200 w0 _ ?side1 ?side2 ?side3 ?side4 ?side5 A63.out).mono ?_); (case side1 => exact u56HI0); (case side2 => exact u56HB); (case side3 => exact rc HO197); (case side4 => exact (Kd.R_reads' HO197.out).2.1); (case side5 => exact far_slice (IsS57.own_ne HI0.out HO197.out (by decide))); rintro e w71 ⟨rfl, hi, hb, hk⟩; refine ⟨_, rfl, ?_⟩; replace BK143 := kp BK143 hk NB143_0; replace HO191 := am (Kd.R_mono (Kd.R_keep (IsS57.apart (show IsS57 w0 _ g s0_0 t193 t194 from u56HI0) (ro HO191) (by decide)) hk (fun _ h => h.2)) (fun _ h => h.1)); replace HO197 := am (Kd.R_mono (Kd.R_keep (IsS57.apart (show IsS57 w0 _ g s0_0 t193 t194 from u56HI0) (ro HO197) (by decide)) hk (fun _ h => h.2)) (fun _ h => h.1)); replace HK := am (KeepBut.trans u56HK hk (.inl rfl)); replace HB := am (hb); replace HI0 := am (hi); clear hb hk hi; have hnb72 := NB143_0.out; have hnc72 := NB0_143.out; obtain ⟨z73_0, y73_0, z73_1, y73_1⟩ := cl2 BK143))
 refine bodyPost_ret (results_cell_row rfl _ _ gb143 46 #[.string t192, .string t198] (0, 0) _ rfl (pt0 BK143) Tryd.underlying46 rfl (by kernel_rfl)) rfl ?_
 exact ⟨rf, u56HI0, u56HB, u56HK⟩

end Go.Proofs.YtjlpjbkpmmpojaaDoor.All
