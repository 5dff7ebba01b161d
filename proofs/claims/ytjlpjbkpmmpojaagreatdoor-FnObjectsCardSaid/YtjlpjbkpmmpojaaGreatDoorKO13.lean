import Derived.Test.YtjlpjbkpmmpojaaGreatDoorKO12
namespace Go.Proofs.YtjlpjbkpmmpojaaGreatDoor.All
open Go.RowKit Go.Proofs.YtjlpjbkpmmpojaaGreatDoorW.PrintWords Go.Proofs.YtjlpjbkpmmpojaaGreatDoorW.PrintLast Go.Proofs.YtjlpjbkpmmpojaaGreatDoorW.PrintMore
set_option maxHeartbeats 8000000
set_option maxRecDepth 100000
attribute [local go_sem] min2_int min_two
set_option linter.unusedVariables false
set_option linter.unusedSimpArgs false
def laws_big.f (l0 : List Int) : Option (Bool) := some (decide ((l0.length : Int) > 1048576))
theorem laws_big.calls (A0 : Option Addr) (c0 : Nat) (l0 : List Int) (r : Bool) (w : World) (hr0 : Kd.C (Kd.int .u8) w A0 l0.length l0) (hc0 : l0.length ≤ c0) (h : laws_big.f l0 = some r) :
  Calls Tryz.prog 10 #[.slice A0 l0.length c0] w fun e w' => e = .returned (.bool r) ∧ Drawn0 w w' := by
 have HR0 := am hr0
 have HC0 := am hc0
 clear hr0 hc0
 unfold laws_big.f at h
 have H := h
 clear h
 obtain rfl := si_ H
 go_enter Tryz.func10, Tryz.ntmps10
 go_wp2
 go_ret
 exact ⟨rs, dr⟩
def IsS139 (w0 W : World) (g : Nat) (f0 : List Int) (f1 : Int) (f2 : Int) : Prop := ∃ A0 c0, W.heap[g]? = some (.cells #[.slice A0 f0.length c0, .int .i64 f1, .int .i64 f2] 139 (0, 0)) ∧ w0.heap.size ≤ g ∧ Kd.C (Kd.int .u8) w0 A0 f0.length f0
theorem IsS139.grown {w0 W : World} {g : Nat} {f0 : List Int} {f1 : Int} {f2 : Int} {W1 : World} {row : Option Nat} (h : IsS139 w0 W g f0 f1 f2) (hw : W.grownBy W1 row) (hne : some g ≠ row) : IsS139 w0 W1 g f0 f1 f2 := by
 obtain ⟨A0, c0, hb, hg, hr0⟩ := h
 exact ⟨A0, c0, blk_grown hb hw hne, hg, hr0⟩
theorem IsS139.fresh {w0 W : World} {g : Nat} {f0 : List Int} {f1 : Int} {f2 : Int} (h : IsS139 w0 W g f0 f1 f2) : ∀ k, W.heap.size ≤ k → k ≠ g := by
 obtain ⟨A0, c0, hb, hg, hr0⟩ := h
 exact Kd.freshB hb
theorem IsS139.kept {w0 W : World} {g : Nat} {f0 : List Int} {f1 : Int} {f2 : Int} {W1 : World} {S : Nat → Prop} (h : IsS139 w0 W g f0 f1 f2) (hk : Kept W W1 S) (hne : ¬ S g) : IsS139 w0 W1 g f0 f1 f2 := by
 obtain ⟨A0, c0, hb, hg, hr0⟩ := h
 exact ⟨A0, c0, blk_kept hb hk hne, hg, hr0⟩
theorem IsS139.below {w0 W : World} {g : Nat} {f0 : List Int} {f1 : Int} {f2 : Int} {W1 : World} (h : IsS139 w0 W g f0 f1 f2) (hw : Below W.heap.size W W1) : IsS139 w0 W1 g f0 f1 f2 := h.grown (grown_of_below hw none) (by simp)
theorem IsS139.alloc {w0 W : World} {g : Nat} {f0 : List Int} {f1 : Int} {f2 : Int} (h : IsS139 w0 W g f0 f1 f2) (o : Obj) : IsS139 w0 (W.alloc o) g f0 f1 f2 := h.below (below_alloc (Below.refl _ _) o)
theorem IsS139.drewN {w0 W : World} {g : Nat} {f0 : List Int} {f1 : Int} {f2 : Int} (h : IsS139 w0 W g f0 f1 f2) (m : Nat) : IsS139 w0 (W.drewN m) g f0 f1 f2 := h
theorem IsS139.drew {w0 W : World} {g : Nat} {f0 : List Int} {f1 : Int} {f2 : Int} (h : IsS139 w0 W g f0 f1 f2) : IsS139 w0 W.drew g f0 f1 f2 := h
theorem IsS139.at_ {w0 W : World} {g : Nat} {f0 : List Int} {f1 : Int} {f2 : Int} {w' : World} {m : Nat} (hq : W.drewN m = w') (h : IsS139 w0 W g f0 f1 f2) : IsS139 w0 w' g f0 f1 f2 := by subst hq; exact IsS139.drewN h m
theorem IsS139.apart {w0 W : World} {g : Nat} {f0 : List Int} {f1 : Int} {f2 : Int} {α : Type} {d : Kd α} {e : Nat} {base : Nat} {ok : Nat → Prop} {v : Value} {xs : List α} (h : IsS139 w0 W g f0 f1 f2) (ho : d.R e W base ok v xs) (ht : ∀ q, q ∈ e :: d.E → q ≠ 139) : d.R e W base (fun k => ok k ∧ k ≠ g) v xs := by
 obtain ⟨A0, c0, hb, hg, hr0⟩ := h
 exact Kd.R_types ho hb ht
theorem IsS139.own_ne {w0 W : World} {g : Nat} {f0 : List Int} {f1 : Int} {f2 : Int} {α : Type} {d : Kd α} {e : Nat} {base : Nat} {ok : Nat → Prop} {v : Value} {xs : List α} (h : IsS139 w0 W g f0 f1 f2) (ho : d.R e W base ok v xs) (ht : e ≠ 139) : some g ≠ v.ownBlock := by
 obtain ⟨A0, c0, hb, hg, hr0⟩ := h
 exact Kd.R_ne ho hb ht
theorem IsS139.lt {w0 W : World} {g : Nat} {f0 : List Int} {f1 : Int} {f2 : Int} (h : IsS139 w0 W g f0 f1 f2) : g < W.heap.size := by
 obtain ⟨A0, c0, hb, hg, hr0⟩ := h
 exact blk_lt hb
theorem IsS139.ge {w0 W : World} {g : Nat} {f0 : List Int} {f1 : Int} {f2 : Int} (h : IsS139 w0 W g f0 f1 f2) : w0.heap.size ≤ g := by
 obtain ⟨A0, c0, hb, hg, hr0⟩ := h
 exact hg
theorem IsS139.ne_blk {w0 W : World} {g : Nat} {f0 : List Int} {f1 : Int} {f2 : Int} {a : Nat} {cs : Array Value} {t : TypeId} {fr : Nat × Nat} (h : IsS139 w0 W g f0 f1 f2) (hb2 : W.heap[a]? = some (.cells cs t fr)) (ht : t ≠ 139) : g ≠ a := by
 obtain ⟨A0, c0, hb, hg, hr0⟩ := h
 rintro rfl
 rw [hb] at hb2
 injection hb2 with hb2
 injection hb2 with _ ht2
 exact ht ht2.symm
theorem IsS139.far {w0 W : World} {g : Nat} {f0 : List Int} {f1 : Int} {f2 : Int} {p : Addr} (h : IsS139 w0 W g f0 f1 f2) (hne : g ≠ p.block) (u : Value) : IsS139 w0 (W.setCell p u) g f0 f1 f2 := by
 obtain ⟨A0, c0, hb, hg, hr0⟩ := h
 exact ⟨A0, c0, blk_far hb hne u, hg, hr0⟩
theorem cellS139_0 {W : World} {g : Nat} {A0 : Option Addr} {c0 : Nat} {f0 : List Int} {f1 : Int} {f2 : Int} (h : W.heap[g]? = some (.cells #[.slice A0 f0.length c0, .int .i64 f1, .int .i64 f2] 139 (0, 0))) : W.cell? ⟨g, 0, none⟩ = some (.slice A0 f0.length c0) := (blk_cell h 0).trans rfl
theorem cellS139_1 {W : World} {g : Nat} {A0 : Option Addr} {c0 : Nat} {f0 : List Int} {f1 : Int} {f2 : Int} (h : W.heap[g]? = some (.cells #[.slice A0 f0.length c0, .int .i64 f1, .int .i64 f2] 139 (0, 0))) : W.cell? ⟨g, 1, none⟩ = some (.int .i64 f1) := (blk_cell h 1).trans rfl
theorem IsS139.set_1 {w0 W : World} {g : Nat} {f0 : List Int} {f1 : Int} {f2 : Int} (h : IsS139 w0 W g f0 f1 f2) (x : Int) : IsS139 w0 (W.setCell ⟨g, 1, none⟩ (.int .i64 x)) g f0 x f2 := by
 obtain ⟨A0, c0, hb, hg, hr0⟩ := h
 exact ⟨A0, c0, by simpa using blk_set hb 1 (.int .i64 x), hg, hr0⟩
theorem cellS139_2 {W : World} {g : Nat} {A0 : Option Addr} {c0 : Nat} {f0 : List Int} {f1 : Int} {f2 : Int} (h : W.heap[g]? = some (.cells #[.slice A0 f0.length c0, .int .i64 f1, .int .i64 f2] 139 (0, 0))) : W.cell? ⟨g, 2, none⟩ = some (.int .i64 f2) := (blk_cell h 2).trans rfl
theorem IsS139.set_2 {w0 W : World} {g : Nat} {f0 : List Int} {f1 : Int} {f2 : Int} (h : IsS139 w0 W g f0 f1 f2) (x : Int) : IsS139 w0 (W.setCell ⟨g, 2, none⟩ (.int .i64 x)) g f0 f1 x := by
 obtain ⟨A0, c0, hb, hg, hr0⟩ := h
 exact ⟨A0, c0, by simpa using blk_set hb 2 (.int .i64 x), hg, hr0⟩
theorem IsS139.new (w0 W : World) (A0 : Option Addr) (c0 : Nat) (f0 : List Int) (f1 : Int) (f2 : Int) (hB : Below w0.heap.size w0 W) (hr0 : Kd.C (Kd.int .u8) w0 A0 f0.length f0) : IsS139 w0 (W.alloc (.cells #[.slice A0 f0.length c0, .int .i64 f1, .int .i64 f2] 139)) W.heap.size f0 f1 f2 := ⟨A0, c0, by simpa using heap_alloc_new W _, hB.size, hr0⟩
theorem u59HB {p : Prop} (h : p := by repeat (first | (with_reducible first | exact HB.out | apply below_alloc | apply pw_below_drewN | apply below_drew1 | refine below_set ?_ GE9.out | refine below_set ?_ GE10.out) | exact HB.out)) : p := h
theorem u59HBW {p : Prop} (h : p := by repeat (first | (with_reducible first | exact HBW.out | apply below_alloc | apply pw_below_drewN | apply below_drew1 | refine below_set ?_ GW9.out | refine below_set ?_ GW10.out) | exact HBW.out)) : p := h
def spec_l1New.l0 : Nat → List Int → Int → Int → Option (List Int × Int × Int)
 | 0, _, _, _ => none
 | k + 1, x0, x3, x4 => if x4 < (x0.length : Int) then (if x4 < 4000 then (if 0 ≤ x4 then (spec_l1New.l0 k x0 (Go.bits .and .i64 (wrap64 ((wrap64 ((wrap64 (x3 * 131)) + (wrap64 (rd x0 x4)))) + 7)) 1073741823) (wrap64 (x4 + 1))) else (none)) else (some (x0, 0, x3))) else (some (x0, 0, x3))
def spec_l1New.f (k : Nat) (l0 : List Int) : Option (List Int × Int × Int) := spec_l1New.l0 k l0 (wrap64 (18850 + (l0.length : Int))) 0
theorem spec_l1New.calls (k : Nat) (A0 : Option Addr) (c0 : Nat) (l0 : List Int) (r1 : List Int) (r2 : Int) (r3 : Int) (w0 w : World) (hB : Below w0.heap.size w0 w) (hr0 : Kd.C (Kd.int .u8) w0 A0 l0.length l0) (hc0 : l0.length ≤ c0) (h : spec_l1New.f k l0 = some (r1, r2, r3)) :
  Calls Tryz.prog 59 #[.slice A0 l0.length c0] w fun e w' => ∃ g_ : Nat, e = .returned (.pointer (some ⟨g_, 0, none⟩)) ∧ IsS139 w0 w' g_ r1 r2 r3 ∧ Below w0.heap.size w0 w' ∧ Below w.heap.size w w' := by
 have hu139 := Tryz.underlying139
 have HR0 := am hr0
 have HC0 := am hc0
 clear hr0 hc0
 have HBW := am (Below.refl w.heap.size w)
 have HW0 := am hB.size
 have HB := am hB
 clear hB
 unfold spec_l1New.f at h
 have H := h
 clear h
 have H' := am H
 clear H
 go_enter Tryz.func59, Tryz.ntmps59
 go_wp2
 (try simp only [Act.put, List.setIfInBounds_toArray, List.set_cons_zero, List.set_cons_succ])
 go_loopg [3, 4] k (fun kq v3 v4 w' => ∃ (x3_1 : Int) (x4_1 : Int), v3 = .int .i64 x3_1 ∧ v4 = .int .i64 x4_1 ∧ Aside0 (spec_l1New.l0 kq l0 x3_1 x4_1 = some (r1, r2, r3)) ∧ Aside0 (kq ≤ k) ∧ Aside0 (Below w0.heap.size w0 w') ∧ Aside0 (Below w.heap.size w w'))
 case atStart => exact ⟨(wrap64 (18850 + (l0.length : Int))), (0), rs, rs, H', ⟨Nat.le_refl _⟩, ⟨u59HB⟩, ⟨u59HBW⟩⟩
 case round =>
  clear H'
  obtain ⟨x3_1, x4_1, rfl, rfl, HA, HK1, HB, HBW⟩ := hrel
  cases gk with
  | zero => exact absurd HA.out (by simp [spec_l1New.l0])
  | succ k1 =>
   have H := HA.out
   clear HA
   simp only [spec_l1New.l0] at H
   by_cases c2 : x4_1 < (l0.length : Int)
   rotate_left
   ·rw [if_neg c2] at H
    have c2b0 := decide_eq_false c2
    clear c2
    simp only [Option.some.injEq, Prod.mk.injEq] at H
    obtain ⟨rfl, rfl, rfl⟩ := H
    go_wp2_with ((with_reducible refine gw ?_); first | (refine bx 31 #[.slice A0 l0.length c0, .int .i64 0, .int .i64 x3_1] 139 ?_; intro gb10 hg w6 hbox hb; replace HB := am (below_step bl hb); have BK10 := am (hbox); have GW10 := am (hs hg (below_size u59HBW)); have GE10 := am (Nat.le_trans HW0.out (hs hg (below_size u59HBW))); replace HBW := am (below_step HBW.out hb); clear hb hbox hg))
    go_ret
    exact ⟨_, rfl, (show IsS139 w0 _ gb10 l0 0 x3_1 from ⟨_, _, by (with_reducible repeat (first | refine blk_drewN ?_ _ | refine blk_drew ?_ | refine blk_alloc ?_ _)); exact BK10.out, GE10.out, HR0.out⟩), u59HB, u59HBW⟩
   rw [if_pos c2] at H
   have c2b0 := decide_eq_true c2
   clear c2
   by_cases c3 : x4_1 < 4000
   rotate_left
   ·rw [if_neg c3] at H
    have c3b0 := decide_eq_false c3
    clear c3
    simp only [Option.some.injEq, Prod.mk.injEq] at H
    obtain ⟨rfl, rfl, rfl⟩ := H
    go_wp2_with ((with_reducible refine gw ?_); first | (refine bx 31 #[.slice A0 l0.length c0, .int .i64 0, .int .i64 x3_1] 139 ?_; intro gb9 hg w5 hbox hb; replace HB := am (below_step bl hb); have BK9 := am (hbox); have GW9 := am (hs hg (below_size u59HBW)); have GE9 := am (Nat.le_trans HW0.out (hs hg (below_size u59HBW))); replace HBW := am (below_step HBW.out hb); clear hb hbox hg))
    go_ret
    exact ⟨_, rfl, (show IsS139 w0 _ gb9 l0 0 x3_1 from ⟨_, _, by (with_reducible repeat (first | refine blk_drewN ?_ _ | refine blk_drew ?_ | refine blk_alloc ?_ _)); exact BK9.out, GE9.out, HR0.out⟩), u59HB, u59HBW⟩
   rw [if_pos c3] at H
   have c3b0 := decide_eq_true c3
   clear c3
   revert H
   refine ifn fun c4 H => ?_
   have c4b0 := decide_eq_true c4
   clear c4
   have H' := am H
   clear H
   have p7 : 0 ≤ (x4_1 : Int) := od
   have q7 : x4_1 < (l0.length : Int) := od
   obtain ⟨ad7, e7, hx7_0⟩ := Kd.at_int HR0.out x4_1 p7 q7
   cases e7
   replace hx7_0 := pw_cell_below HB.out hx7_0
   replace p7 := eq_true p7
   replace q7 := eq_true q7
   go_wp2
   go_roundg k1
   case measure => have := HK1.out; omega
   case rel => exact ⟨(Go.bits .and .i64 (wrap64 ((wrap64 ((wrap64 (x3_1 * 131)) + (wrap64 (rd l0 x4_1)))) + 7)) 1073741823), (wrap64 (x4_1 + 1)), rs, rs, H', ⟨by have := HK1.out; omega⟩, ⟨u59HB⟩, ⟨u59HBW⟩⟩
theorem u140HI0 {p : Prop} (h : p := by repeat (first | (with_reducible first | exact HI0.out | apply IsS139.alloc | apply IsS139.drewN | apply IsS139.drew | apply IsS139.set_1 | apply IsS139.set_2) | exact HI0.out)) : p := h
theorem u140HB {p : Prop} (h : p := by repeat (first | (with_reducible first | exact HB.out | apply below_alloc | apply pw_below_drewN | apply below_drew1 | refine below_set ?_ (IsS139.ge HI0.out)) | exact HB.out)) : p := h
theorem u140HK {p : Prop} (h : p := by repeat (first | (with_reducible first | exact HK.out | apply KeepBut.set_ | apply keep_drewN | apply keep_drew | apply keep_alloc) | exact HK.out)) : p := h
def spec_l1Byte.f (s0_0 : List Int) (s0_1 : Int) (s0_2 : Int) : Option (Int × Int × Int) := if s0_1 < (s0_0.length : Int) then (if 0 ≤ s0_1 then (some (Go.bits .and .i64 (wrap64 ((Go.bits .and .i64 (Go.bits .xor .i64 ((wrap64 ((wrap64 (s0_2 * 6364136223846793005)) + 1442695040888963407)) / 8589934592) ((wrap64 ((wrap64 (s0_2 * 6364136223846793005)) + 1442695040888963407)) / 35184372088832)) 255) + (wrap64 (rd s0_0 s0_1)))) 255, wrap64 (s0_1 + 1), wrap64 ((wrap64 (s0_2 * 6364136223846793005)) + 1442695040888963407))) else (none)) else (some (Go.bits .and .i64 (Go.bits .xor .i64 ((wrap64 ((wrap64 (s0_2 * 6364136223846793005)) + 1442695040888963407)) / 8589934592) ((wrap64 ((wrap64 (s0_2 * 6364136223846793005)) + 1442695040888963407)) / 35184372088832)) 255, s0_1, wrap64 ((wrap64 (s0_2 * 6364136223846793005)) + 1442695040888963407)))
theorem spec_l1Byte.calls (g : Nat) (s0_0 : List Int) (s0_1 : Int) (s0_2 : Int) (r1 : Int) (r2 : Int) (r3 : Int) (w0 w : World) (hI : IsS139 w0 w g s0_0 s0_1 s0_2) (hB : Below w0.heap.size w0 w) (h : spec_l1Byte.f s0_0 s0_1 s0_2 = some (r1, r2, r3)) :
  Calls Tryz.prog 140 #[.pointer (some ⟨g, 0, none⟩)] w fun e w' => e = .returned (.int .i64 r1) ∧ IsS139 w0 w' g s0_0 r2 r3 ∧ Below w0.heap.size w0 w' ∧ KeepBut w w' g none := by
 have HI0 := am hI
 have HK := am (KeepBut.refl w g none)
 have HL := am hB.size
 clear hI
 have HW0 := am hB.size
 have HB := am hB
 clear hB
 unfold spec_l1Byte.f at h
 have H := h
 clear h
 by_cases c2 : s0_1 < (s0_0.length : Int)
 rotate_left
 ·rw [if_neg c2] at H
  have c2b0 := decide_eq_false c2
  clear c2
  simp only [Option.some.injEq, Prod.mk.injEq] at H
  obtain ⟨rfl, rfl, rfl⟩ := H
  obtain ⟨ASz5_0, cSz5_0, HGz5, hgz5, HSz5_0⟩ := HI0.out
  have z5_0 := cellS139_0 HGz5
  have z5_1 := cellS139_1 HGz5
  have z5_2 := cellS139_2 HGz5
  have y5_1 := blk_frozen HGz5 1
  have y5_2 := blk_frozen HGz5 2
  clear HGz5 hgz5
  go_enter Tryz.func140, Tryz.ntmps140
  go_wp2
  repeat (go_quiet (fail); try go_wp2)
  go_ret
  exact ⟨rf, u140HI0, u140HB, u140HK⟩
 rw [if_pos c2] at H
 have c2b0 := decide_eq_true c2
 clear c2
 revert H
 refine ifn fun c3 H => ?_
 have c3b0 := decide_eq_true c3
 clear c3
 simp only [Option.some.injEq, Prod.mk.injEq] at H
 obtain ⟨rfl, rfl, rfl⟩ := H
 obtain ⟨ASz4_0, cSz4_0, HGz4, hgz4, HSz4_0⟩ := HI0.out
 have z4_0 := cellS139_0 HGz4
 have z4_1 := cellS139_1 HGz4
 have z4_2 := cellS139_2 HGz4
 have y4_1 := blk_frozen HGz4 1
 have y4_2 := blk_frozen HGz4 2
 clear HGz4 hgz4
 have p6 : 0 ≤ (s0_1 : Int) := od
 have q6 : s0_1 < (s0_0.length : Int) := od
 obtain ⟨ad6, e6, hx6_0⟩ := Kd.at_int HSz4_0 s0_1 p6 q6
 cases e6
 have hn6_0 : ad6.block ≠ g := Nat.ne_of_lt (Nat.lt_of_lt_of_le (by have := World.block_lt_of_cell? _ _ hx6_0; first | rwa [add_block] at this | exact this) (IsS139.ge HI0.out))
 replace hx6_0 := pw_cell_below HB.out hx6_0
 replace hx6_0 := (cell_far (p := ⟨g, 2, none⟩) (by first | (rw [add_block]; exact hn6_0) | (show (Addr.add _ _).block ≠ _; rw [add_block]; exact hn6_0) | exact hn6_0) (.int .i64 (wrap64 ((wrap64 (s0_2 * 6364136223846793005)) + 1442695040888963407)))).trans hx6_0
 (try have hy6_0 := fun (n_ : Nat) => (show (((w.drewN n_).setCell ⟨g, 2, none⟩ (.int .i64 (wrap64 ((wrap64 (s0_2 * 6364136223846793005)) + 1442695040888963407))))).cell? _ = some _ from hx6_0))
 clear hn6_0
 replace p6 := eq_true p6
 replace q6 := eq_true q6
 go_enter Tryz.func140, Tryz.ntmps140
 go_wp2
 repeat (go_quiet (fail); try go_wp2)
 go_ret
 exact ⟨rf, u140HI0, u140HB, u140HK⟩
theorem u74HI0 {p : Prop} (h : p := by repeat (first | (with_reducible first | exact HI0.out | apply IsS139.alloc | apply IsS139.drewN | apply IsS139.drew | apply IsS139.set_1 | apply IsS139.set_2) | exact HI0.out)) : p := h
theorem u74HB {p : Prop} (h : p := by repeat (first | (with_reducible first | exact HB.out | apply below_alloc | apply pw_below_drewN | apply below_drew1 | refine below_set ?_ (IsS139.ge HI0.out)) | exact HB.out)) : p := h
theorem u74HK {p : Prop} (h : p := by repeat (first | (with_reducible first | exact HK.out | apply KeepBut.set_ | apply keep_drewN | apply keep_drew | apply keep_alloc) | exact HK.out)) : p := h
def spec_l1Below.f (s0_0 : List Int) (s0_1 : Int) (s0_2 : Int) (a1 : Int) : Option (Int × Int × Int) := if a1 ≤ 0 then (some (0, s0_1, s0_2)) else (if a1 ≤ 256 then ((spec_l1Byte.f s0_0 s0_1 s0_2).bind fun bt17 => (if a1 = 0 then (none) else (some (Int.tmod bt17.1 a1, bt17.2.1, bt17.2.2)))) else ((spec_l1Byte.f s0_0 s0_1 s0_2).bind fun bt18 => ((spec_l1Byte.f s0_0 bt18.2.1 bt18.2.2).bind fun bt19 => ((spec_l1Byte.f s0_0 bt19.2.1 bt19.2.2).bind fun bt20 => ((spec_l1Byte.f s0_0 bt20.2.1 bt20.2.2).bind fun bt21 => (if a1 = 0 then (none) else (some (Int.tmod (wrap64 ((wrap64 ((wrap64 ((wrap64 (bt18.1 * 16777216)) + (wrap64 (bt19.1 * 65536)))) + (wrap64 (bt20.1 * 256)))) + bt21.1)) a1, bt21.2.1, bt21.2.2))))))))
theorem spec_l1Below.calls (g : Nat) (s0_0 : List Int) (s0_1 : Int) (s0_2 : Int) (a1 : Int) (r1 : Int) (r2 : Int) (r3 : Int) (w0 w : World) (hI : IsS139 w0 w g s0_0 s0_1 s0_2) (hB : Below w0.heap.size w0 w) (h : spec_l1Below.f s0_0 s0_1 s0_2 a1 = some (r1, r2, r3)) :
  Calls Tryz.prog 74 #[.pointer (some ⟨g, 0, none⟩), .int .i64 a1] w fun e w' => e = .returned (.int .i64 r1) ∧ IsS139 w0 w' g s0_0 r2 r3 ∧ Below w0.heap.size w0 w' ∧ KeepBut w w' g none := by
 have HI0 := am hI
 have HK := am (KeepBut.refl w g none)
 have HL := am hB.size
 clear hI
 have HW0 := am hB.size
 have HB := am hB
 clear hB
 unfold spec_l1Below.f at h
 have H := h
 clear h
 by_cases c3 : a1 ≤ 0
 ·rw [if_pos c3] at H
  have c3b0 := decide_eq_true c3
  clear c3
  simp only [Option.some.injEq, Prod.mk.injEq] at H
  obtain ⟨rfl, rfl, rfl⟩ := H
  go_enter Tryz.func74, Tryz.ntmps74
  go_wp2
  go_ret
  exact ⟨rf, u74HI0, u74HB, u74HK⟩
 rw [if_neg c3] at H
 have c3b0 := decide_eq_false c3
 clear c3
 by_cases c4 : a1 ≤ 256
 ·rw [if_pos c4] at H
  have c4b0 := decide_eq_true c4
  clear c4
  revert H
  refine ok3 fun t17 t28 t29 A5 H => ?_
  (try dsimp only at H)
  by_cases c6 : a1 = 0
  ·rw [if_pos c6] at H
   exact absurd H (by simp)
  rw [if_neg c6] at H
  have c6b0 := eqf c6
  have c6b1 := net c6
  simp only [Option.some.injEq, Prod.mk.injEq] at H
  obtain ⟨rfl, rfl, rfl⟩ := H
  go_enter Tryz.func74, Tryz.ntmps74
  go_wp2_with ((with_reducible refine gw ?_); first | (refine gl 14 Tryz.func140 #[.pointer (some ⟨g, 0, none⟩)] ?_; refine (spec_l1Byte.calls g s0_0 s0_1 s0_2 t17 t28 t29 w0 _ u74HI0 u74HB A5.out).mono ?_; rintro e w7 ⟨rfl, hi, hb, hk⟩; refine ⟨_, rfl, ?_⟩; replace HK := am (KeepBut.trans u74HK hk (.inl rfl)); replace HB := am (hb); replace HI0 := am (hi); clear hb hk hi))
  go_ret
  exact ⟨rf, u74HI0, u74HB, u74HK⟩
 rw [if_neg c4] at H
 have c4b0 := decide_eq_false c4
 clear c4
 revert H
 refine ok3 fun t18 t22 t23 A8 H => ?_
 (try dsimp only at H)
 revert H
 refine ok3 fun t19 t24 t25 A9 H => ?_
 (try dsimp only at H)
 revert H
 refine ok3 fun t20 t26 t27 A10 H => ?_
 (try dsimp only at H)
 revert H
 refine ok3 fun t21 t30 t31 A11 H => ?_
 (try dsimp only at H)
 by_cases c12 : a1 = 0
 ·rw [if_pos c12] at H
  exact absurd H (by simp)
 rw [if_neg c12] at H
 have c12b0 := eqf c12
 have c12b1 := net c12
 simp only [Option.some.injEq, Prod.mk.injEq] at H
 obtain ⟨rfl, rfl, rfl⟩ := H
 go_enter Tryz.func74, Tryz.ntmps74
 go_wp2_with ((with_reducible refine gw ?_); first | (refine gl 18 Tryz.func140 #[.pointer (some ⟨g, 0, none⟩)] ?_; refine (spec_l1Byte.calls g s0_0 s0_1 s0_2 t18 t22 t23 w0 _ u74HI0 u74HB A8.out).mono ?_; rintro e w13 ⟨rfl, hi, hb, hk⟩; refine ⟨_, rfl, ?_⟩; replace HK := am (KeepBut.trans u74HK hk (.inl rfl)); replace HB := am (hb); replace HI0 := am (hi); clear hb hk hi) | (refine gl 20 Tryz.func140 #[.pointer (some ⟨g, 0, none⟩)] ?_; refine (spec_l1Byte.calls g s0_0 t22 t23 t19 t24 t25 w0 _ u74HI0 u74HB A9.out).mono ?_; rintro e w14 ⟨rfl, hi, hb, hk⟩; refine ⟨_, rfl, ?_⟩; replace HK := am (KeepBut.trans u74HK hk (.inl rfl)); replace HB := am (hb); replace HI0 := am (hi); clear hb hk hi) | (refine gl 22 Tryz.func140 #[.pointer (some ⟨g, 0, none⟩)] ?_; refine (spec_l1Byte.calls g s0_0 t24 t25 t20 t26 t27 w0 _ u74HI0 u74HB A10.out).mono ?_; rintro e w15 ⟨rfl, hi, hb, hk⟩; refine ⟨_, rfl, ?_⟩; replace HK := am (KeepBut.trans u74HK hk (.inl rfl)); replace HB := am (hb); replace HI0 := am (hi); clear hb hk hi) | (refine gl 24 Tryz.func140 #[.pointer (some ⟨g, 0, none⟩)] ?_; refine (spec_l1Byte.calls g s0_0 t26 t27 t21 t30 t31 w0 _ u74HI0 u74HB A11.out).mono ?_; rintro e w16 ⟨rfl, hi, hb, hk⟩; refine ⟨_, rfl, ?_⟩; replace HK := am (KeepBut.trans u74HK hk (.inl rfl)); replace HB := am (hb); replace HI0 := am (hi); clear hb hk hi))
 go_ret
 exact ⟨rf, u74HI0, u74HB, u74HK⟩
theorem u84HI0 {p : Prop} (h : p := by repeat (first | (with_reducible first | exact HI0.out | apply IsS139.alloc | apply IsS139.drewN | apply IsS139.drew | apply IsS139.set_1 | apply IsS139.set_2) | exact HI0.out)) : p := h
theorem u84HB {p : Prop} (h : p := by repeat (first | (with_reducible first | exact HB.out | apply below_alloc | apply pw_below_drewN | apply below_drew1 | refine below_set ?_ (IsS139.ge HI0.out)) | exact HB.out)) : p := h
theorem u84HK {p : Prop} (h : p := by repeat (first | (with_reducible first | exact HK.out | apply KeepBut.set_ | apply keep_drewN | apply keep_drew | apply keep_alloc) | exact HK.out)) : p := h
def spec_l1Pick.f (s0_0 : List Int) (s0_1 : Int) (s0_2 : Int) (l1 : List ByteArray) : Option (ByteArray × Int × Int) := (spec_l1Below.f s0_0 s0_1 s0_2 (l1.length : Int)).bind fun bt8 => (if 0 ≤ bt8.1 then (if bt8.1 < (l1.length : Int) then (some (rdOf ByteArray.empty l1 bt8.1, bt8.2.1, bt8.2.2)) else (none)) else (none))
theorem spec_l1Pick.calls (g : Nat) (s0_0 : List Int) (s0_1 : Int) (s0_2 : Int) (A1 : Option Addr) (c1 : Nat) (l1 : List ByteArray) (r1 : ByteArray) (r2 : Int) (r3 : Int) (w0 w : World) (hI : IsS139 w0 w g s0_0 s0_1 s0_2) (hB : Below w0.heap.size w0 w) (hr1 : Kd.C Kd.string w A1 l1.length l1) (hc1 : l1.length ≤ c1) (hf1 : ∀ ad, A1 = some ad → 0 < l1.length → ad.block ≠ g) (h : spec_l1Pick.f s0_0 s0_1 s0_2 l1 = some (r1, r2, r3)) :
  Calls Tryz.prog 84 #[.pointer (some ⟨g, 0, none⟩), .slice A1 l1.length c1] w fun e w' => e = .returned (.string r1) ∧ IsS139 w0 w' g s0_0 r2 r3 ∧ Below w0.heap.size w0 w' ∧ KeepBut w w' g none := by
 have HR1 := am hr1
 have HC1 := am hc1
 clear hr1 hc1
 have HI0 := am hI
 have HK := am (KeepBut.refl w g none)
 have HL := am hB.size
 clear hI
 have HW0 := am hB.size
 have HB := am hB
 clear hB
 unfold spec_l1Pick.f at h
 have H := h
 clear h
 revert H
 refine ok3 fun t8 t9 t10 A3 H => ?_
 (try dsimp only at H)
 revert H
 refine ifn fun c4 H => ?_
 have c4b0 := decide_eq_true c4
 clear c4
 revert H
 refine ifn fun c5 H => ?_
 have c5b0 := decide_eq_true c5
 clear c5
 simp only [Option.some.injEq, Prod.mk.injEq] at H
 obtain ⟨rfl, rfl, rfl⟩ := H
 go_enter Tryz.func84, Tryz.ntmps84
 go_wp2_with ((with_reducible refine gw ?_); first | (refine gl 9 Tryz.func74 #[.pointer (some ⟨g, 0, none⟩), .int .i64 (l1.length : Int)] ?_; refine (spec_l1Below.calls g s0_0 s0_1 s0_2 (l1.length : Int) t8 t9 t10 w0 _ u84HI0 u84HB A3.out).mono ?_; rintro e w6 ⟨rfl, hi, hb, hk⟩; refine ⟨_, rfl, ?_⟩; replace HK := am (KeepBut.trans u84HK hk (.inl rfl)); replace HB := am (hb); replace HI0 := am (hi); clear hb hk hi; have p7 : 0 ≤ (t8 : Int) := od; have q7 : t8 < (l1.length : Int) := od; obtain ⟨ad7, e7, hx7_0⟩ := Kd.at_string HR1.out t8 p7 q7; cases e7; replace hx7_0 := keep_cell HK.out hx7_0 (by first | (rw [add_block]; exact hf1 _ rfl (by omega)) | exact hf1 _ rfl (by omega) | exact hf1 ad7 rfl (by omega)); replace p7 := eq_true p7; replace q7 := eq_true q7))
 go_ret
 exact ⟨rf, u84HI0, u84HB, u84HK⟩
theorem u75HI0 {p : Prop} (h : p := by repeat (first | (with_reducible first | exact HI0.out | apply IsS139.alloc | apply IsS139.drewN | apply IsS139.drew | apply IsS139.set_1 | apply IsS139.set_2) | exact HI0.out)) : p := h
theorem u75HB {p : Prop} (h : p := by repeat (first | (with_reducible first | exact HB.out | apply below_alloc | apply pw_below_drewN | apply below_drew1 | refine below_set ?_ (IsS139.ge HI0.out)) | exact HB.out)) : p := h
theorem u75HK {p : Prop} (h : p := by repeat (first | (with_reducible first | exact HK.out | apply KeepBut.set_ | apply keep_drewN | apply keep_drew | apply keep_alloc) | exact HK.out)) : p := h
def spec_l1PickInt.f (s0_0 : List Int) (s0_1 : Int) (s0_2 : Int) (l1 : List Int) : Option (Int × Int × Int) := (spec_l1Below.f s0_0 s0_1 s0_2 (l1.length : Int)).bind fun bt8 => (if 0 ≤ bt8.1 then (if bt8.1 < (l1.length : Int) then (some (rd l1 bt8.1, bt8.2.1, bt8.2.2)) else (none)) else (none))
theorem spec_l1PickInt.calls (g : Nat) (s0_0 : List Int) (s0_1 : Int) (s0_2 : Int) (A1 : Option Addr) (c1 : Nat) (l1 : List Int) (r1 : Int) (r2 : Int) (r3 : Int) (w0 w : World) (hI : IsS139 w0 w g s0_0 s0_1 s0_2) (hB : Below w0.heap.size w0 w) (hr1 : Kd.C (Kd.int .i64) w A1 l1.length l1) (hc1 : l1.length ≤ c1) (hf1 : ∀ ad, A1 = some ad → 0 < l1.length → ad.block ≠ g) (h : spec_l1PickInt.f s0_0 s0_1 s0_2 l1 = some (r1, r2, r3)) :
  Calls Tryz.prog 75 #[.pointer (some ⟨g, 0, none⟩), .slice A1 l1.length c1] w fun e w' => e = .returned (.int .i64 r1) ∧ IsS139 w0 w' g s0_0 r2 r3 ∧ Below w0.heap.size w0 w' ∧ KeepBut w w' g none := by
 have HR1 := am hr1
 have HC1 := am hc1
 clear hr1 hc1
 have HI0 := am hI
 have HK := am (KeepBut.refl w g none)
 have HL := am hB.size
 clear hI
 have HW0 := am hB.size
 have HB := am hB
 clear hB
 unfold spec_l1PickInt.f at h
 have H := h
 clear h
 revert H
 refine ok3 fun t8 t9 t10 A3 H => ?_
 (try dsimp only at H)
 revert H
 refine ifn fun c4 H => ?_
 have c4b0 := decide_eq_true c4
 clear c4
 revert H
 refine ifn fun c5 H => ?_
 have c5b0 := decide_eq_true c5
 clear c5
 simp only [Option.some.injEq, Prod.mk.injEq] at H
 obtain ⟨rfl, rfl, rfl⟩ := H
 go_enter Tryz.func75, Tryz.ntmps75
 go_wp2_with ((with_reducible refine gw ?_); first | (refine gl 9 Tryz.func74 #[.pointer (some ⟨g, 0, none⟩), .int .i64 (l1.length : Int)] ?_; refine (spec_l1Below.calls g s0_0 s0_1 s0_2 (l1.length : Int) t8 t9 t10 w0 _ u75HI0 u75HB A3.out).mono ?_; rintro e w6 ⟨rfl, hi, hb, hk⟩; refine ⟨_, rfl, ?_⟩; replace HK := am (KeepBut.trans u75HK hk (.inl rfl)); replace HB := am (hb); replace HI0 := am (hi); clear hb hk hi; have p7 : 0 ≤ (t8 : Int) := od; have q7 : t8 < (l1.length : Int) := od; obtain ⟨ad7, e7, hx7_0⟩ := Kd.at_int HR1.out t8 p7 q7; cases e7; replace hx7_0 := keep_cell HK.out hx7_0 (by first | (rw [add_block]; exact hf1 _ rfl (by omega)) | exact hf1 _ rfl (by omega) | exact hf1 ad7 rfl (by omega)); replace p7 := eq_true p7; replace q7 := eq_true q7))
 go_ret
 exact ⟨rf, u75HI0, u75HB, u75HK⟩
theorem u146HI0 {p : Prop} (h : p := by repeat (first | (with_reducible first | exact HI0.out | apply IsS139.alloc | apply IsS139.drewN | apply IsS139.drew | apply IsS139.set_1 | apply IsS139.set_2 | apply IsS139.far (p := ⟨gb13, _, none⟩) (hne := NB0_13.out)) | exact HI0.out)) : p := h
theorem u146HK {p : Prop} (h : p := by repeat (first | (with_reducible first | exact HK.out | apply KeepBut.set_ | apply keep_drewN | apply keep_drew | apply keep_alloc | refine keep_far ?_ GW13.out _) | exact HK.out)) : p := h
theorem u146HB {p : Prop} (h : p := by repeat (first | (with_reducible first | exact HB.out | apply below_alloc | apply pw_below_drewN | apply below_drew1 | refine below_set ?_ (IsS139.ge HI0.out) | refine below_set ?_ GE13.out) | exact HB.out)) : p := h
def spec_l2DrawField.f (s0_0 : List Int) (s0_1 : Int) (s0_2 : Int) : Option (ByteArray × ByteArray × Int × Int) := (spec_l1Below.f s0_0 s0_1 s0_2 9).bind fun bt21 => (if bt21.1 = 0 then ((spec_l1Pick.f s0_0 bt21.2.1 bt21.2.2 (([(⟨#[109, 97, 120, 45, 97, 103, 101, 61, 53]⟩ : ByteArray), (⟨#[109, 97, 120, 45, 97, 103, 101, 61, 50, 48]⟩ : ByteArray), (⟨#[110, 111, 45, 115, 116, 111, 114, 101]⟩ : ByteArray), (⟨#[110, 111, 45, 99, 97, 99, 104, 101]⟩ : ByteArray), (⟨#[112, 114, 105, 118, 97, 116, 101]⟩ : ByteArray), (⟨#[109, 97, 120, 45, 97, 103, 101, 61, 57, 44, 32, 109, 117, 115, 116, 45, 114, 101, 118, 97, 108, 105, 100, 97, 116, 101]⟩ : ByteArray), (⟨#[109, 97, 120, 45, 97, 103, 101, 61, 120]⟩ : ByteArray), (⟨#[77, 65, 88, 45, 65, 71, 69, 61, 51]⟩ : ByteArray)] : List ByteArray))).bind fun bt81 => (some ((⟨#[99, 97, 99, 104, 101, 45, 99, 111, 110, 116, 114, 111, 108]⟩ : ByteArray), bt81.1, bt81.2.1, bt81.2.2))) else (if bt21.1 = 1 then ((spec_l1Pick.f s0_0 bt21.2.1 bt21.2.2 (([(⟨#[97]⟩ : ByteArray), (⟨#[98]⟩ : ByteArray)] : List ByteArray))).bind fun bt82 => (some ((⟨#[101, 116, 97, 103]⟩ : ByteArray), bt82.1, bt82.2.1, bt82.2.2))) else (if bt21.1 = 2 then ((spec_l1Pick.f s0_0 bt21.2.1 bt21.2.2 (([(⟨#[108, 97, 110, 103]⟩ : ByteArray), (⟨#[108, 97, 110, 103, 44, 32, 107, 105, 110, 100]⟩ : ByteArray), (⟨#[42]⟩ : ByteArray)] : List ByteArray))).bind fun bt83 => (some ((⟨#[118, 97, 114, 121]⟩ : ByteArray), bt83.1, bt83.2.1, bt83.2.2))) else (if bt21.1 = 3 then ((spec_l1Pick.f s0_0 bt21.2.1 bt21.2.2 (([(⟨#[100, 101]⟩ : ByteArray), (⟨#[101, 110]⟩ : ByteArray)] : List ByteArray))).bind fun bt85 => (some ((⟨#[108, 97, 110, 103]⟩ : ByteArray), bt85.1, bt85.2.1, bt85.2.2))) else (if bt21.1 = 4 then ((spec_l1Pick.f s0_0 bt21.2.1 bt21.2.2 (([(⟨#[120]⟩ : ByteArray), (⟨#[121]⟩ : ByteArray)] : List ByteArray))).bind fun bt86 => (some ((⟨#[107, 105, 110, 100]⟩ : ByteArray), bt86.1, bt86.2.1, bt86.2.2))) else (if bt21.1 = 5 then ((spec_l1Pick.f s0_0 bt21.2.1 bt21.2.2 (([(⟨#[48]⟩ : ByteArray), (⟨#[51]⟩ : ByteArray), (⟨#[57, 48]⟩ : ByteArray), (⟨#[120]⟩ : ByteArray)] : List ByteArray))).bind fun bt87 => (some ((⟨#[97, 103, 101]⟩ : ByteArray), bt87.1, bt87.2.1, bt87.2.2))) else (if bt21.1 = 6 then ((spec_l1Pick.f s0_0 bt21.2.1 bt21.2.2 (([(⟨#[97]⟩ : ByteArray), (⟨#[98]⟩ : ByteArray)] : List ByteArray))).bind fun bt88 => (some ((⟨#[105, 102, 45, 110, 111, 110, 101, 45, 109, 97, 116, 99, 104]⟩ : ByteArray), bt88.1, bt88.2.1, bt88.2.2))) else ((spec_l1Pick.f s0_0 bt21.2.1 bt21.2.2 (([(⟨#[120, 45, 97]⟩ : ByteArray), (⟨#[120, 45, 98]⟩ : ByteArray), (⟨#[100, 97, 116, 101]⟩ : ByteArray)] : List ByteArray))).bind fun bt89 => ((spec_l1Pick.f s0_0 bt89.2.1 bt89.2.2 (([(⟨#[49]⟩ : ByteArray), (⟨#[116, 119, 111, 32, 119, 111, 114, 100, 115]⟩ : ByteArray), (⟨#[113]⟩ : ByteArray)] : List ByteArray))).bind fun bt90 => (some (bt89.1, bt90.1, bt90.2.1, bt90.2.2)))))))))))
theorem spec_l2DrawField.calls (g : Nat) (s0_0 : List Int) (s0_1 : Int) (s0_2 : Int) (r1 : ByteArray) (r2 : ByteArray) (r3 : Int) (r4 : Int) (w0 w : World) (hI : IsS139 w0 w g s0_0 s0_1 s0_2) (hB : Below w0.heap.size w0 w) (h : spec_l2DrawField.f s0_0 s0_1 s0_2 = some (r1, r2, r3, r4)) :
  Calls Tryz.prog 146 #[.pointer (some ⟨g, 0, none⟩)] w fun e w' => e = .returned (.agg #[.string r1, .string r2]) ∧ IsS139 w0 w' g s0_0 r3 r4 ∧ Below w0.heap.size w0 w' ∧ KeepBut w w' g none := by
 have hu116 := Tryz.underlying116
 have HI0 := am hI
 have HK := am (KeepBut.refl w g none)
 have HL := am hB.size
 clear hI
 have HW0 := am hB.size
 have HB := am hB
 clear hB
 unfold spec_l2DrawField.f at h
 have H := h
 clear h
 revert H
 refine ok3 fun t21 t29 t37 A2 H => ?_
 (try dsimp only at H)
 have HH3 := am H
 clear H
 go_enter Tryz.func146, Tryz.ntmps146
 go_upto_if 5 with ((with_reducible refine gw ?_); first | (refine bx 2 #[.string (⟨#[]⟩ : ByteArray), .string (⟨#[]⟩ : ByteArray)] 116 ?_; intro gb13 hg w4 hbox hb; replace HB := am (below_step u146HB hb); have BK13 := am (hbox); have GW13 := am (hs hg (keep_size (w := w) (g := g) (row := none) u146HK)); have GE13 := am (Nat.le_trans HW0.out (hs hg (keep_size (w := w) (g := g) (row := none) u146HK))); replace HK := am (KeepBut.trans u146HK (KeepBut.of_below hb g none) (.inl rfl)); have NB0_13 := am (hl hg (IsS139.lt (show IsS139 w0 _ g s0_0 s0_1 s0_2 from u146HI0))); have NB13_0 := am (hh hg (IsS139.lt (show IsS139 w0 _ g s0_0 s0_1 s0_2 from u146HI0))); replace HI0 := am (IsS139.below u146HI0 hb); clear hb hbox hg) | (refine gl 4 Tryz.func74 #[.pointer (some ⟨g, 0, none⟩), .int .i64 9] ?_; refine (spec_l1Below.calls g s0_0 s0_1 s0_2 9 t21 t29 t37 w0 _ u146HI0 u146HB A2.out).mono ?_; rintro e w5 ⟨rfl, hi, hb, hk⟩; refine ⟨_, rfl, ?_⟩; replace BK13 := kp BK13 hk NB13_0; replace HK := am (KeepBut.trans u146HK hk (.inl rfl)); replace HB := am (hb); replace HI0 := am (hi); clear hb hk hi))
 have H := HH3.out
 clear HH3
 by_cases c6 : t21 = 0
 ·rw [if_pos c6] at H
  have c6b0 := eqt c6
  have c6b1 := nef c6
  clear c6
  (first | rw [c6b0] | (simp only [i64_w, i32_w]; rw [c6b0]) | skip)
  obtain ⟨y53, hy53⟩ : ∃ y_, y_ = (([(⟨#[109, 97, 120, 45, 97, 103, 101, 61, 53]⟩ : ByteArray), (⟨#[109, 97, 120, 45, 97, 103, 101, 61, 50, 48]⟩ : ByteArray), (⟨#[110, 111, 45, 115, 116, 111, 114, 101]⟩ : ByteArray), (⟨#[110, 111, 45, 99, 97, 99, 104, 101]⟩ : ByteArray), (⟨#[112, 114, 105, 118, 97, 116, 101]⟩ : ByteArray), (⟨#[109, 97, 120, 45, 97, 103, 101, 61, 57, 44, 32, 109, 117, 115, 116, 45, 114, 101, 118, 97, 108, 105, 100, 97, 116, 101]⟩ : ByteArray), (⟨#[109, 97, 120, 45, 97, 103, 101, 61, 120]⟩ : ByteArray), (⟨#[77, 65, 88, 45, 65, 71, 69, 61, 51]⟩ : ByteArray)] : List ByteArray)) := ⟨_, rfl⟩
  (try with_reducible replace H := bs_ H)
  rw [← hy53] at H
  have Ny53 := am hy53
  clear hy53
  revert H
  refine ok3 fun t81 t216 t217 A7 H => ?_
  (try dsimp only at H)
  simp only [Option.some.injEq, Prod.mk.injEq] at H
  obtain ⟨rfl, rfl, rfl, rfl⟩ := H
  go_wp2_with (first | ((with_reducible refine gate_dst (N := 8) rfl ?_); refine rl Kd.string 9 8 ([(⟨#[109, 97, 120, 45, 97, 103, 101, 61, 53]⟩ : ByteArray), (⟨#[109, 97, 120, 45, 97, 103, 101, 61, 50, 48]⟩ : ByteArray), (⟨#[110, 111, 45, 115, 116, 111, 114, 101]⟩ : ByteArray), (⟨#[110, 111, 45, 99, 97, 99, 104, 101]⟩ : ByteArray), (⟨#[112, 114, 105, 118, 97, 116, 101]⟩ : ByteArray), (⟨#[109, 97, 120, 45, 97, 103, 101, 61, 57, 44, 32, 109, 117, 115, 116, 45, 114, 101, 118, 97, 108, 105, 100, 97, 116, 101]⟩ : ByteArray), (⟨#[109, 97, 120, 45, 97, 103, 101, 61, 120]⟩ : ByteArray), (⟨#[77, 65, 88, 45, 65, 71, 69, 61, 51]⟩ : ByteArray)] : List ByteArray) [.string (⟨#[109, 97, 120, 45, 97, 103, 101, 61, 53]⟩ : ByteArray), .string (⟨#[109, 97, 120, 45, 97, 103, 101, 61, 50, 48]⟩ : ByteArray), .string (⟨#[110, 111, 45, 115, 116, 111, 114, 101]⟩ : ByteArray), .string (⟨#[110, 111, 45, 99, 97, 99, 104, 101]⟩ : ByteArray), .string (⟨#[112, 114, 105, 118, 97, 116, 101]⟩ : ByteArray), .string (⟨#[109, 97, 120, 45, 97, 103, 101, 61, 57, 44, 32, 109, 117, 115, 116, 45, 114, 101, 118, 97, 108, 105, 100, 97, 116, 101]⟩ : ByteArray), .string (⟨#[109, 97, 120, 45, 97, 103, 101, 61, 120]⟩ : ByteArray), .string (⟨#[77, 65, 88, 45, 65, 71, 69, 61, 51]⟩ : ByteArray)] ?_; intro v213 w8 ho9 hb; (first | rw [← Ny53.out] at ho9 | (simp only [Int.reduceToNat] at ho9; rw [← Ny53.out] at ho9)); have HO91 := am (Kd.R_lower ho9 (keep_size (w := w) (g := g) (row := none) u146HK)); replace BK13 := kb BK13 hb; replace HK := am (KeepBut.trans u146HK (KeepBut.of_below hb g none) (.inl rfl)); replace HB := am (below_step u146HB hb); replace HI0 := am (IsS139.below u146HI0 hb); clear hb ho9; obtain ⟨Ao10, co10, eo10⟩ := Kd.R_slice HO91.out; subst eo10) | ((with_reducible refine gw ?_); first | (refine gl 9 Tryz.func84 #[.pointer (some ⟨g, 0, none⟩), .slice Ao10 y53.length co10] ?_; refine (spec_l1Pick.calls g s0_0 t29 t37 _ _ y53 t81 t216 t217 w0 _ u146HI0 u146HB (rc HO91) ((Kd.R_reads' HO91.out).2.1) (far_slice (IsS139.own_ne HI0.out HO91.out (by decide))) A7.out).mono ?_; rintro e w11 ⟨rfl, hi, hb, hk⟩; refine ⟨_, rfl, ?_⟩; replace BK13 := kp BK13 hk NB13_0; replace HO91 := am (Kd.R_mono (Kd.R_keep (IsS139.apart (show IsS139 w0 _ g s0_0 t29 t37 from u146HI0) (ro HO91) (by decide)) hk (fun _ h => h.2)) (fun _ h => h.1)); replace HK := am (KeepBut.trans u146HK hk (.inl rfl)); replace HB := am (hb); replace HI0 := am (hi); clear hb hk hi; have hnb12 := NB13_0.out; have hnc12 := NB0_13.out; obtain ⟨_, _, _, _⟩ := cl2 BK13)))
  refine bodyPost_ret (results_cell_row rfl _ _ gb13 116 #[.string (⟨#[99, 97, 99, 104, 101, 45, 99, 111, 110, 116, 114, 111, 108]⟩ : ByteArray), .string t81] (0, 0) _ rfl (pt0 BK13) Tryz.underlying116 rfl (by kernel_rfl)) rfl ?_
  exact ⟨rf, u146HI0, u146HB, u146HK⟩
 rw [if_neg c6] at H
 have c6b0 := eqf c6
 have c6b1 := net c6
 (first | rw [c6b0] | (simp only [i64_w, i32_w]; rw [c6b0]) | skip)
 by_cases c14 : t21 = 1
 ·rw [if_pos c14] at H
  have c14b0 := eqt c14
  have c14b1 := nef c14
  clear c14
  obtain ⟨y61, hy61⟩ : ∃ y_, y_ = (([(⟨#[97]⟩ : ByteArray), (⟨#[98]⟩ : ByteArray)] : List ByteArray)) := ⟨_, rfl⟩
  (try with_reducible replace H := bs_ H)
  rw [← hy61] at H
  have Ny61 := am hy61
  clear hy61
  revert H
  refine ok3 fun t82 t222 t223 A15 H => ?_
  (try dsimp only at H)
  simp only [Option.some.injEq, Prod.mk.injEq] at H
  obtain ⟨rfl, rfl, rfl, rfl⟩ := H
  go_wp2_with (first | ((with_reducible refine gate_dst (N := 14) rfl ?_); refine rl Kd.string 9 14 ([(⟨#[97]⟩ : ByteArray), (⟨#[98]⟩ : ByteArray)] : List ByteArray) [.string (⟨#[97]⟩ : ByteArray), .string (⟨#[98]⟩ : ByteArray)] ?_; intro v219 w16 ho17 hb; (first | rw [← Ny61.out] at ho17 | (simp only [Int.reduceToNat] at ho17; rw [← Ny61.out] at ho17)); have HO92 := am (Kd.R_lower ho17 (keep_size (w := w) (g := g) (row := none) u146HK)); replace BK13 := kb BK13 hb; replace HK := am (KeepBut.trans u146HK (KeepBut.of_below hb g none) (.inl rfl)); replace HB := am (below_step u146HB hb); replace HI0 := am (IsS139.below u146HI0 hb); clear hb ho17; obtain ⟨Ao18, co18, eo18⟩ := Kd.R_slice HO92.out; subst eo18) | ((with_reducible refine gw ?_); first | (refine gl 15 Tryz.func84 #[.pointer (some ⟨g, 0, none⟩), .slice Ao18 y61.length co18] ?_; refine (spec_l1Pick.calls g s0_0 t29 t37 _ _ y61 t82 t222 t223 w0 _ u146HI0 u146HB (rc HO92) ((Kd.R_reads' HO92.out).2.1) (far_slice (IsS139.own_ne HI0.out HO92.out (by decide))) A15.out).mono ?_; rintro e w19 ⟨rfl, hi, hb, hk⟩; refine ⟨_, rfl, ?_⟩; replace BK13 := kp BK13 hk NB13_0; replace HO92 := am (Kd.R_mono (Kd.R_keep (IsS139.apart (show IsS139 w0 _ g s0_0 t29 t37 from u146HI0) (ro HO92) (by decide)) hk (fun _ h => h.2)) (fun _ h => h.1)); replace HK := am (KeepBut.trans u146HK hk (.inl rfl)); replace HB := am (hb); replace HI0 := am (hi); clear hb hk hi; have hnb20 := NB13_0.out; have hnc20 := NB0_13.out; obtain ⟨_, _, _, _⟩ := cl2 BK13)))
  refine bodyPost_ret (results_cell_row rfl _ _ gb13 116 #[.string (⟨#[101, 116, 97, 103]⟩ : ByteArray), .string t82] (0, 0) _ rfl (pt0 BK13) Tryz.underlying116 rfl (by kernel_rfl)) rfl ?_
  exact ⟨rf, u146HI0, u146HB, u146HK⟩
 rw [if_neg c14] at H
 have c14b0 := eqf c14
 have c14b1 := net c14
 by_cases c22 : t21 = 2
 ·rw [if_pos c22] at H
  have c22b0 := eqt c22
  have c22b1 := nef c22
  clear c22
  obtain ⟨y73, hy73⟩ : ∃ y_, y_ = (([(⟨#[108, 97, 110, 103]⟩ : ByteArray), (⟨#[108, 97, 110, 103, 44, 32, 107, 105, 110, 100]⟩ : ByteArray), (⟨#[42]⟩ : ByteArray)] : List ByteArray)) := ⟨_, rfl⟩
  (try with_reducible replace H := bs_ H)
  rw [← hy73] at H
  have Ny73 := am hy73
  clear hy73
  revert H
  refine ok3 fun t83 t228 t229 A23 H => ?_
  (try dsimp only at H)
  simp only [Option.some.injEq, Prod.mk.injEq] at H
  obtain ⟨rfl, rfl, rfl, rfl⟩ := H
  go_wp2_with (first | ((with_reducible refine gate_dst (N := 20) rfl ?_); refine rl Kd.string 9 20 ([(⟨#[108, 97, 110, 103]⟩ : ByteArray), (⟨#[108, 97, 110, 103, 44, 32, 107, 105, 110, 100]⟩ : ByteArray), (⟨#[42]⟩ : ByteArray)] : List ByteArray) [.string (⟨#[108, 97, 110, 103]⟩ : ByteArray), .string (⟨#[108, 97, 110, 103, 44, 32, 107, 105, 110, 100]⟩ : ByteArray), .string (⟨#[42]⟩ : ByteArray)] ?_; intro v225 w24 ho25 hb; (first | rw [← Ny73.out] at ho25 | (simp only [Int.reduceToNat] at ho25; rw [← Ny73.out] at ho25)); have HO93 := am (Kd.R_lower ho25 (keep_size (w := w) (g := g) (row := none) u146HK)); replace BK13 := kb BK13 hb; replace HK := am (KeepBut.trans u146HK (KeepBut.of_below hb g none) (.inl rfl)); replace HB := am (below_step u146HB hb); replace HI0 := am (IsS139.below u146HI0 hb); clear hb ho25; obtain ⟨Ao26, co26, eo26⟩ := Kd.R_slice HO93.out; subst eo26) | ((with_reducible refine gw ?_); first | (refine gl 21 Tryz.func84 #[.pointer (some ⟨g, 0, none⟩), .slice Ao26 y73.length co26] ?_; refine (spec_l1Pick.calls g s0_0 t29 t37 _ _ y73 t83 t228 t229 w0 _ u146HI0 u146HB (rc HO93) ((Kd.R_reads' HO93.out).2.1) (far_slice (IsS139.own_ne HI0.out HO93.out (by decide))) A23.out).mono ?_; rintro e w27 ⟨rfl, hi, hb, hk⟩; refine ⟨_, rfl, ?_⟩; replace BK13 := kp BK13 hk NB13_0; replace HO93 := am (Kd.R_mono (Kd.R_keep (IsS139.apart (show IsS139 w0 _ g s0_0 t29 t37 from u146HI0) (ro HO93) (by decide)) hk (fun _ h => h.2)) (fun _ h => h.1)); replace HK := am (KeepBut.trans u146HK hk (.inl rfl)); replace HB := am (hb); replace HI0 := am (hi); clear hb hk hi; have hnb28 := NB13_0.out; have hnc28 := NB0_13.out; obtain ⟨_, _, _, _⟩ := cl2 BK13)))
  refine bodyPost_ret (results_cell_row rfl _ _ gb13 116 #[.string (⟨#[118, 97, 114, 121]⟩ : ByteArray), .string t83] (0, 0) _ rfl (pt0 BK13) Tryz.underlying116 rfl (by kernel_rfl)) rfl ?_
  exact ⟨rf, u146HI0, u146HB, u146HK⟩
 rw [if_neg c22] at H
 have c22b0 := eqf c22
 have c22b1 := net c22
 by_cases c30 : t21 = 3
 ·rw [if_pos c30] at H
  have c30b0 := eqt c30
  have c30b1 := nef c30
  clear c30
  obtain ⟨y75, hy75⟩ : ∃ y_, y_ = (([(⟨#[100, 101]⟩ : ByteArray), (⟨#[101, 110]⟩ : ByteArray)] : List ByteArray)) := ⟨_, rfl⟩
  (try with_reducible replace H := bs_ H)
  rw [← hy75] at H
  have Ny75 := am hy75
  clear hy75
  revert H
  refine ok3 fun t85 t234 t235 A31 H => ?_
  (try dsimp only at H)
  simp only [Option.some.injEq, Prod.mk.injEq] at H
  obtain ⟨rfl, rfl, rfl, rfl⟩ := H
  go_wp2_with (first | ((with_reducible refine gate_dst (N := 26) rfl ?_); refine rl Kd.string 9 26 ([(⟨#[100, 101]⟩ : ByteArray), (⟨#[101, 110]⟩ : ByteArray)] : List ByteArray) [.string (⟨#[100, 101]⟩ : ByteArray), .string (⟨#[101, 110]⟩ : ByteArray)] ?_; intro v231 w32 ho33 hb; (first | rw [← Ny75.out] at ho33 | (simp only [Int.reduceToNat] at ho33; rw [← Ny75.out] at ho33)); have HO94 := am (Kd.R_lower ho33 (keep_size (w := w) (g := g) (row := none) u146HK)); replace BK13 := kb BK13 hb; replace HK := am (KeepBut.trans u146HK (KeepBut.of_below hb g none) (.inl rfl)); replace HB := am (below_step u146HB hb); replace HI0 := am (IsS139.below u146HI0 hb); clear hb ho33; obtain ⟨Ao34, co34, eo34⟩ := Kd.R_slice HO94.out; subst eo34) | ((with_reducible refine gw ?_); first | (refine gl 27 Tryz.func84 #[.pointer (some ⟨g, 0, none⟩), .slice Ao34 y75.length co34] ?_; refine (spec_l1Pick.calls g s0_0 t29 t37 _ _ y75 t85 t234 t235 w0 _ u146HI0 u146HB (rc HO94) ((Kd.R_reads' HO94.out).2.1) (far_slice (IsS139.own_ne HI0.out HO94.out (by decide))) A31.out).mono ?_; rintro e w35 ⟨rfl, hi, hb, hk⟩; refine ⟨_, rfl, ?_⟩; replace BK13 := kp BK13 hk NB13_0; replace HO94 := am (Kd.R_mono (Kd.R_keep (IsS139.apart (show IsS139 w0 _ g s0_0 t29 t37 from u146HI0) (ro HO94) (by decide)) hk (fun _ h => h.2)) (fun _ h => h.1)); replace HK := am (KeepBut.trans u146HK hk (.inl rfl)); replace HB := am (hb); replace HI0 := am (hi); clear hb hk hi; have hnb36 := NB13_0.out; have hnc36 := NB0_13.out; obtain ⟨_, _, _, _⟩ := cl2 BK13)))
  refine bodyPost_ret (results_cell_row rfl _ _ gb13 116 #[.string (⟨#[108, 97, 110, 103]⟩ : ByteArray), .string t85] (0, 0) _ rfl (pt0 BK13) Tryz.underlying116 rfl (by kernel_rfl)) rfl ?_
  exact ⟨rf, u146HI0, u146HB, u146HK⟩
 rw [if_neg c30] at H
 have c30b0 := eqf c30
 have c30b1 := net c30
 by_cases c38 : t21 = 4
 ·rw [if_pos c38] at H
  have c38b0 := eqt c38
  have c38b1 := nef c38
  clear c38
  obtain ⟨y76, hy76⟩ : ∃ y_, y_ = (([(⟨#[120]⟩ : ByteArray), (⟨#[121]⟩ : ByteArray)] : List ByteArray)) := ⟨_, rfl⟩
  (try with_reducible replace H := bs_ H)
  rw [← hy76] at H
  have Ny76 := am hy76
  clear hy76
  revert H
  refine ok3 fun t86 t240 t241 A39 H => ?_
  (try dsimp only at H)
  simp only [Option.some.injEq, Prod.mk.injEq] at H
  obtain ⟨rfl, rfl, rfl, rfl⟩ := H
  go_wp2_with (first | ((with_reducible refine gate_dst (N := 32) rfl ?_); refine rl Kd.string 9 32 ([(⟨#[120]⟩ : ByteArray), (⟨#[121]⟩ : ByteArray)] : List ByteArray) [.string (⟨#[120]⟩ : ByteArray), .string (⟨#[121]⟩ : ByteArray)] ?_; intro v237 w40 ho41 hb; (first | rw [← Ny76.out] at ho41 | (simp only [Int.reduceToNat] at ho41; rw [← Ny76.out] at ho41)); have HO95 := am (Kd.R_lower ho41 (keep_size (w := w) (g := g) (row := none) u146HK)); replace BK13 := kb BK13 hb; replace HK := am (KeepBut.trans u146HK (KeepBut.of_below hb g none) (.inl rfl)); replace HB := am (below_step u146HB hb); replace HI0 := am (IsS139.below u146HI0 hb); clear hb ho41; obtain ⟨Ao42, co42, eo42⟩ := Kd.R_slice HO95.out; subst eo42) | ((with_reducible refine gw ?_); first | (refine gl 33 Tryz.func84 #[.pointer (some ⟨g, 0, none⟩), .slice Ao42 y76.length co42] ?_; refine (spec_l1Pick.calls g s0_0 t29 t37 _ _ y76 t86 t240 t241 w0 _ u146HI0 u146HB (rc HO95) ((Kd.R_reads' HO95.out).2.1) (far_slice (IsS139.own_ne HI0.out HO95.out (by decide))) A39.out).mono ?_; rintro e w43 ⟨rfl, hi, hb, hk⟩; refine ⟨_, rfl, ?_⟩; replace BK13 := kp BK13 hk NB13_0; replace HO95 := am (Kd.R_mono (Kd.R_keep (IsS139.apart (show IsS139 w0 _ g s0_0 t29 t37 from u146HI0) (ro HO95) (by decide)) hk (fun _ h => h.2)) (fun _ h => h.1)); replace HK := am (KeepBut.trans u146HK hk (.inl rfl)); replace HB := am (hb); replace HI0 := am (hi); clear hb hk hi; have hnb44 := NB13_0.out; have hnc44 := NB0_13.out; obtain ⟨_, _, _, _⟩ := cl2 BK13)))
  refine bodyPost_ret (results_cell_row rfl _ _ gb13 116 #[.string (⟨#[107, 105, 110, 100]⟩ : ByteArray), .string t86] (0, 0) _ rfl (pt0 BK13) Tryz.underlying116 rfl (by kernel_rfl)) rfl ?_
  exact ⟨rf, u146HI0, u146HB, u146HK⟩
 rw [if_neg c38] at H
 have c38b0 := eqf c38
 have c38b1 := net c38
 by_cases c46 : t21 = 5
 ·rw [if_pos c46] at H
  have c46b0 := eqt c46
  have c46b1 := nef c46
  clear c46
  obtain ⟨y77, hy77⟩ : ∃ y_, y_ = (([(⟨#[48]⟩ : ByteArray), (⟨#[51]⟩ : ByteArray), (⟨#[57, 48]⟩ : ByteArray), (⟨#[120]⟩ : ByteArray)] : List ByteArray)) := ⟨_, rfl⟩
  (try with_reducible replace H := bs_ H)
  rw [← hy77] at H
  have Ny77 := am hy77
  clear hy77
  revert H
  refine ok3 fun t87 t246 t247 A47 H => ?_
  (try dsimp only at H)
  simp only [Option.some.injEq, Prod.mk.injEq] at H
  obtain ⟨rfl, rfl, rfl, rfl⟩ := H
  go_wp2_with (first | ((with_reducible refine gate_dst (N := 38) rfl ?_); refine rl Kd.string 9 38 ([(⟨#[48]⟩ : ByteArray), (⟨#[51]⟩ : ByteArray), (⟨#[57, 48]⟩ : ByteArray), (⟨#[120]⟩ : ByteArray)] : List ByteArray) [.string (⟨#[48]⟩ : ByteArray), .string (⟨#[51]⟩ : ByteArray), .string (⟨#[57, 48]⟩ : ByteArray), .string (⟨#[120]⟩ : ByteArray)] ?_; intro v243 w48 ho49 hb; (first | rw [← Ny77.out] at ho49 | (simp only [Int.reduceToNat] at ho49; rw [← Ny77.out] at ho49)); have HO96 := am (Kd.R_lower ho49 (keep_size (w := w) (g := g) (row := none) u146HK)); replace BK13 := kb BK13 hb; replace HK := am (KeepBut.trans u146HK (KeepBut.of_below hb g none) (.inl rfl)); replace HB := am (below_step u146HB hb); replace HI0 := am (IsS139.below u146HI0 hb); clear hb ho49; obtain ⟨Ao50, co50, eo50⟩ := Kd.R_slice HO96.out; subst eo50) | ((with_reducible refine gw ?_); first | (refine gl 39 Tryz.func84 #[.pointer (some ⟨g, 0, none⟩), .slice Ao50 y77.length co50] ?_; refine (spec_l1Pick.calls g s0_0 t29 t37 _ _ y77 t87 t246 t247 w0 _ u146HI0 u146HB (rc HO96) ((Kd.R_reads' HO96.out).2.1) (far_slice (IsS139.own_ne HI0.out HO96.out (by decide))) A47.out).mono ?_; rintro e w51 ⟨rfl, hi, hb, hk⟩; refine ⟨_, rfl, ?_⟩; replace BK13 := kp BK13 hk NB13_0; replace HO96 := am (Kd.R_mono (Kd.R_keep (IsS139.apart (show IsS139 w0 _ g s0_0 t29 t37 from u146HI0) (ro HO96) (by decide)) hk (fun _ h => h.2)) (fun _ h => h.1)); replace HK := am (KeepBut.trans u146HK hk (.inl rfl)); replace HB := am (hb); replace HI0 := am (hi); clear hb hk hi; have hnb52 := NB13_0.out; have hnc52 := NB0_13.out; obtain ⟨_, _, _, _⟩ := cl2 BK13)))
  refine bodyPost_ret (results_cell_row rfl _ _ gb13 116 #[.string (⟨#[97, 103, 101]⟩ : ByteArray), .string t87] (0, 0) _ rfl (pt0 BK13) Tryz.underlying116 rfl (by kernel_rfl)) rfl ?_
  exact ⟨rf, u146HI0, u146HB, u146HK⟩
 rw [if_neg c46] at H
 have c46b0 := eqf c46
 have c46b1 := net c46
 by_cases c54 : t21 = 6
 ·rw [if_pos c54] at H
  have c54b0 := eqt c54
  have c54b1 := nef c54
  clear c54
  obtain ⟨y78, hy78⟩ : ∃ y_, y_ = (([(⟨#[97]⟩ : ByteArray), (⟨#[98]⟩ : ByteArray)] : List ByteArray)) := ⟨_, rfl⟩
  (try with_reducible replace H := bs_ H)
  rw [← hy78] at H
  have Ny78 := am hy78
  clear hy78
  revert H
  refine ok3 fun t88 t252 t253 A55 H => ?_
  (try dsimp only at H)
  simp only [Option.some.injEq, Prod.mk.injEq] at H
  obtain ⟨rfl, rfl, rfl, rfl⟩ := H
  go_wp2_with (first | ((with_reducible refine gate_dst (N := 44) rfl ?_); refine rl Kd.string 9 44 ([(⟨#[97]⟩ : ByteArray), (⟨#[98]⟩ : ByteArray)] : List ByteArray) [.string (⟨#[97]⟩ : ByteArray), .string (⟨#[98]⟩ : ByteArray)] ?_; intro v249 w56 ho57 hb; (first | rw [← Ny78.out] at ho57 | (simp only [Int.reduceToNat] at ho57; rw [← Ny78.out] at ho57)); have HO97 := am (Kd.R_lower ho57 (keep_size (w := w) (g := g) (row := none) u146HK)); replace BK13 := kb BK13 hb; replace HK := am (KeepBut.trans u146HK (KeepBut.of_below hb g none) (.inl rfl)); replace HB := am (below_step u146HB hb); replace HI0 := am (IsS139.below u146HI0 hb); clear hb ho57; obtain ⟨Ao58, co58, eo58⟩ := Kd.R_slice HO97.out; subst eo58) | ((with_reducible refine gw ?_); first | (refine gl 45 Tryz.func84 #[.pointer (some ⟨g, 0, none⟩), .slice Ao58 y78.length co58] ?_; refine (spec_l1Pick.calls g s0_0 t29 t37 _ _ y78 t88 t252 t253 w0 _ u146HI0 u146HB (rc HO97) ((Kd.R_reads' HO97.out).2.1) (far_slice (IsS139.own_ne HI0.out HO97.out (by decide))) A55.out).mono ?_; rintro e w59 ⟨rfl, hi, hb, hk⟩; refine ⟨_, rfl, ?_⟩; replace BK13 := kp BK13 hk NB13_0; replace HO97 := am (Kd.R_mono (Kd.R_keep (IsS139.apart (show IsS139 w0 _ g s0_0 t29 t37 from u146HI0) (ro HO97) (by decide)) hk (fun _ h => h.2)) (fun _ h => h.1)); replace HK := am (KeepBut.trans u146HK hk (.inl rfl)); replace HB := am (hb); replace HI0 := am (hi); clear hb hk hi; have hnb60 := NB13_0.out; have hnc60 := NB0_13.out; obtain ⟨_, _, _, _⟩ := cl2 BK13)))
  refine bodyPost_ret (results_cell_row rfl _ _ gb13 116 #[.string (⟨#[105, 102, 45, 110, 111, 110, 101, 45, 109, 97, 116, 99, 104]⟩ : ByteArray), .string t88] (0, 0) _ rfl (pt0 BK13) Tryz.underlying116 rfl (by kernel_rfl)) rfl ?_
  exact ⟨rf, u146HI0, u146HB, u146HK⟩
 rw [if_neg c54] at H
 have c54b0 := eqf c54
 have c54b1 := net c54
 obtain ⟨y79, hy79⟩ : ∃ y_, y_ = (([(⟨#[120, 45, 97]⟩ : ByteArray), (⟨#[120, 45, 98]⟩ : ByteArray), (⟨#[100, 97, 116, 101]⟩ : ByteArray)] : List ByteArray)) := ⟨_, rfl⟩
 (try with_reducible replace H := bs_ H)
 rw [← hy79] at H
 have Ny79 := am hy79
 clear hy79
 revert H
 refine ok3 fun t89 t99 t259 A62 H => ?_
 (try dsimp only at H)
 obtain ⟨y80, hy80⟩ : ∃ y_, y_ = (([(⟨#[49]⟩ : ByteArray), (⟨#[116, 119, 111, 32, 119, 111, 114, 100, 115]⟩ : ByteArray), (⟨#[113]⟩ : ByteArray)] : List ByteArray)) := ⟨_, rfl⟩
 (try with_reducible replace H := bs_ H)
 rw [← hy80] at H
 have Ny80 := am hy80
 clear hy80
 revert H
 refine ok3 fun t90 t264 t265 A63 H => ?_
 (try dsimp only at H)
 simp only [Option.some.injEq, Prod.mk.injEq] at H
 obtain ⟨rfl, rfl, rfl, rfl⟩ := H
 go_wp2_with (first | ((with_reducible refine gate_dst (N := 48) rfl ?_); refine rl Kd.string 9 48 ([(⟨#[120, 45, 97]⟩ : ByteArray), (⟨#[120, 45, 98]⟩ : ByteArray), (⟨#[100, 97, 116, 101]⟩ : ByteArray)] : List ByteArray) [.string (⟨#[120, 45, 97]⟩ : ByteArray), .string (⟨#[120, 45, 98]⟩ : ByteArray), .string (⟨#[100, 97, 116, 101]⟩ : ByteArray)] ?_; intro v255 w64 ho65 hb; (first | rw [← Ny79.out] at ho65 | (simp only [Int.reduceToNat] at ho65; rw [← Ny79.out] at ho65)); have HO45 := am (Kd.R_lower ho65 (keep_size (w := w) (g := g) (row := none) u146HK)); replace BK13 := kb BK13 hb; replace HK := am (KeepBut.trans u146HK (KeepBut.of_below hb g none) (.inl rfl)); replace HB := am (below_step u146HB hb); replace HI0 := am (IsS139.below u146HI0 hb); clear hb ho65; obtain ⟨Ao66, co66, eo66⟩ := Kd.R_slice HO45.out; subst eo66) | ((with_reducible refine gw ?_); refine gl 49 Tryz.func84 #[.pointer (some ⟨g, 0, none⟩), .slice Ao66 y79.length co66] ?_; refine (spec_l1Pick.calls g s0_0 t29 t37 _ _ y79 t89 t99 t259 w0 _ u146HI0 u146HB (rc HO45) ((Kd.R_reads' HO45.out).2.1) (far_slice (IsS139.own_ne HI0.out HO45.out (by decide))) A62.out).mono ?_; rintro e w67 ⟨rfl, hi, hb, hk⟩; refine ⟨_, rfl, ?_⟩; replace BK13 := kp BK13 hk NB13_0; replace HO45 := am (Kd.R_mono (Kd.R_keep (IsS139.apart (show IsS139 w0 _ g s0_0 t29 t37 from u146HI0) (ro HO45) (by decide)) hk (fun _ h => h.2)) (fun _ h => h.1)); replace HK := am (KeepBut.trans u146HK hk (.inl rfl)); replace HB := am (hb); replace HI0 := am (hi); clear hb hk hi) | ((with_reducible refine gate_dst (N := 51) rfl ?_); refine rl Kd.string 9 51 ([(⟨#[49]⟩ : ByteArray), (⟨#[116, 119, 111, 32, 119, 111, 114, 100, 115]⟩ : ByteArray), (⟨#[113]⟩ : ByteArray)] : List ByteArray) [.string (⟨#[49]⟩ : ByteArray), .string (⟨#[116, 119, 111, 32, 119, 111, 114, 100, 115]⟩ : ByteArray), .string (⟨#[113]⟩ : ByteArray)] ?_; intro v261 w68 ho69 hb; (first | rw [← Ny80.out] at ho69 | (simp only [Int.reduceToNat] at ho69; rw [← Ny80.out] at ho69)); have HO98 := am (Kd.R_lower (Kd.R_new' ho69 (Kd.R_lt (ro HO45))) (keep_size (w := w) (g := g) (row := none) u146HK)); replace HO45 := am (Kd.R_elder' (ro HO45) (Kd.R_base ho69) hb); replace BK13 := kb BK13 hb; replace HK := am (KeepBut.trans u146HK (KeepBut.of_below hb g none) (.inl rfl)); replace HB := am (below_step u146HB hb); replace HI0 := am (IsS139.below u146HI0 hb); clear hb ho69; obtain ⟨Ao70, co70, eo70⟩ := Kd.R_slice HO98.out; subst eo70) | ((with_reducible refine gw ?_); refine gl 52 Tryz.func84 #[.pointer (some ⟨g, 0, none⟩), .slice Ao70 y80.length co70] ?_; refine (spec_l1Pick.calls g s0_0 t99 t259 _ _ y80 t90 t264 t265 w0 _ u146HI0 u146HB (rc HO98) ((Kd.R_reads' HO98.out).2.1) (far_slice (IsS139.own_ne HI0.out HO98.out (by decide))) A63.out).mono ?_; rintro e w71 ⟨rfl, hi, hb, hk⟩; refine ⟨_, rfl, ?_⟩; replace BK13 := kp BK13 hk NB13_0; replace HO45 := am (Kd.R_mono (Kd.R_keep (IsS139.apart (show IsS139 w0 _ g s0_0 t99 t259 from u146HI0) (ro HO45) (by decide)) hk (fun _ h => h.2)) (fun _ h => h.1)); replace HO98 := am (Kd.R_mono (Kd.R_keep (IsS139.apart (show IsS139 w0 _ g s0_0 t99 t259 from u146HI0) (ro HO98) (by decide)) hk (fun _ h => h.2)) (fun _ h => h.1)); replace HK := am (KeepBut.trans u146HK hk (.inl rfl)); replace HB := am (hb); replace HI0 := am (hi); clear hb hk hi; have hnb72 := NB13_0.out; have hnc72 := NB0_13.out; obtain ⟨_, _, _, _⟩ := cl2 BK13))
 refine bodyPost_ret (results_cell_row rfl _ _ gb13 116 #[.string t89, .string t90] (0, 0) _ rfl (pt0 BK13) Tryz.underlying116 rfl (by kernel_rfl)) rfl ?_
 exact ⟨rf, u146HI0, u146HB, u146HK⟩
theorem u145HK {p : Prop} (h : p := by repeat (first | (with_reducible first | exact HK.out | apply KeepBut.set_ | apply keep_drewN | apply keep_drew | apply keep_alloc | refine keep_far ?_ GW14.out _) | exact HK.out)) : p := h
theorem u145HB {p : Prop} (h : p := by repeat (first | (with_reducible first | exact HB.out | apply below_alloc | apply pw_below_drewN | apply below_drew1 | refine below_set ?_ (IsS139.ge HI0.out) | refine below_set ?_ GE14.out) | exact HB.out)) : p := h
theorem u145HI0 {p : Prop} (h : p := by repeat (first | (with_reducible first | exact HI0.out | apply IsS139.alloc | apply IsS139.drewN | apply IsS139.drew | apply IsS139.set_1 | apply IsS139.set_2 | apply IsS139.far (p := ⟨gb14, _, none⟩) (hne := NB0_14.out)) | exact HI0.out)) : p := h
def spec_l2DrawRight.l0 : Nat → List (S116) → Int → List Int → Int → Int → Option ((List (S116)) × Int × Int)
 | 0, _, _, _, _, _ => none
 | k + 1, x3, x4, x30, x25, x26 => (spec_l1Below.f x30 x25 x26 5).bind fun bt23 => (if x4 < bt23.1 then ((spec_l2DrawField.f x30 bt23.2.1 bt23.2.2).bind fun bt19 => ((spec_l2At.f k x3 bt19.1).bind fun t31 => (if t31 < 0 then (if x3.length < 4398046511104 then (spec_l2DrawRight.l0 k (x3 ++ [(⟨bt19.1, bt19.2.1⟩ : S116)]) (wrap64 (x4 + 1)) x30 bt19.2.2.1 bt19.2.2.2) else (none)) else (spec_l2DrawRight.l0 k x3 (wrap64 (x4 + 1)) x30 bt19.2.2.1 bt19.2.2.2)))) else (some (x3, bt23.2.1, bt23.2.2)))
def spec_l2DrawRight.f (k : Nat) (s0_0 : List Int) (s0_1 : Int) (s0_2 : Int) : Option ((List (S116)) × Int × Int) := spec_l2DrawRight.l0 k (([] : List (S116))) 0 s0_0 s0_1 s0_2
theorem spec_l2DrawRight.calls (k : Nat) (g : Nat) (s0_0 : List Int) (s0_1 : Int) (s0_2 : Int) (r1 : List (S116)) (r2 : Int) (r3 : Int) (w0 w : World) (hI : IsS139 w0 w g s0_0 s0_1 s0_2) (hB : Below w0.heap.size w0 w) (h : spec_l2DrawRight.f k s0_0 s0_1 s0_2 = some (r1, r2, r3)) :
  Calls Tryz.prog 145 #[.pointer (some ⟨g, 0, none⟩)] w fun e w' => ∃ v0_ : Value, e = .returned (v0_) ∧ Kd.R k116 116 w' w.heap.size (fun _ => True) v0_ r1 ∧ IsS139 w0 w' g s0_0 r2 r3 ∧ Below w0.heap.size w0 w' ∧ KeepBut w w' g none := by
 have hu116 := Tryz.underlying116
 have HI0 := am hI
 have HK := am (KeepBut.refl w g none)
 have HL := am hB.size
 clear hI
 have HW0 := am hB.size
 have HB := am hB
 clear hB
 unfold spec_l2DrawRight.f at h
 have H := h
 clear h
 obtain ⟨y24, hy24⟩ : ∃ y_, y_ = (([] : List (S116))) := ⟨_, rfl⟩
 (try with_reducible replace H := bs_ H)
 rw [← hy24] at H
 have Ny24 := am hy24
 clear hy24
 have H' := am H
 clear H
 go_enter Tryz.func145, Tryz.ntmps145
 go_wp2_with (first | ((with_reducible refine gate_dst (N := 6) rfl ?_); refine Kd.R_lit k116 _ 116 ?hg (N := 6) ?hd (xs := ([] : List (S116))) (inner := []) (ok := fun _ => True) (okp := fun _ => True) ?hr ?hp (fun _ hk => hk) trivial (Below.refl _ _) (Nat.le_refl _) (by simp) ?_; (case hd => rfl); (case hg => rfl); (case hr => first | (go_simp; done) | (go_simp; rfl)); (case hp => exact (Reps.none _ _)); intro v37 w2 ho3 hb hg_ hnew_; clear hg_ hnew_; (first | rw [← Ny24.out] at ho3 | (simp only [Int.reduceToNat] at ho3; rw [← Ny24.out] at ho3)); have HO35 := am (Kd.R_lower ho3 (keep_size (w := w) (g := g) (row := none) u145HK)); replace HK := am (KeepBut.trans u145HK (KeepBut.of_below hb g none) (.inl rfl)); replace HB := am (below_step u145HB hb); replace HI0 := am (IsS139.below u145HI0 hb); clear hb ho3))
 (try simp only [Act.put, List.setIfInBounds_toArray, List.set_cons_zero, List.set_cons_succ])
 go_loopg [3, 4] k (fun kq v3 v4 w' => ∃ (x3_1 : List (S116)) (x4_1 : Int) (x25_1 : Int) (x26_1 : Int), v4 = .int .i64 x4_1 ∧ Aside0 (spec_l2DrawRight.l0 kq x3_1 x4_1 s0_0 x25_1 x26_1 = some (r1, r2, r3)) ∧ Aside0 (kq ≤ k) ∧ Aside0 (Kd.R k116 116 w' w.heap.size (fun _ => True) v3 x3_1) ∧ Aside0 (IsS139 w0 w' g s0_0 x25_1 x26_1) ∧ Aside0 (KeepBut w w' g none) ∧ Aside0 (Below w0.heap.size w0 w'))
 case atStart => exact ⟨(y24), (0), (s0_1), (s0_2), rs, H', ⟨Nat.le_refl _⟩, ⟨ro HO35⟩, ⟨u145HI0⟩, ⟨u145HK⟩, ⟨u145HB⟩⟩
 case round =>
  clear H'
  obtain ⟨x3_1, x4_1, x25_1, x26_1, rfl, HA, HK1, HO_3, HI0, HK, HB⟩ := hrel
  cases gk with
  | zero => exact absurd HA.out (by simp [spec_l2DrawRight.l0])
  | succ k1 =>
   have H := HA.out
   clear HA
   simp only [spec_l2DrawRight.l0] at H
   revert H
   refine ok3 fun t23 t33 t34 A4 H => ?_
   (try dsimp only at H)
   have HH5 := am H
   clear H
   go_upto_if 10 with ((with_reducible refine gw ?_); first | (refine gl 9 Tryz.func74 #[.pointer (some ⟨g, 0, none⟩), .int .i64 5] ?_; refine (spec_l1Below.calls g s0_0 x25_1 x26_1 5 t23 t33 t34 w0 _ u145HI0 u145HB A4.out).mono ?_; rintro e w6 ⟨rfl, hi, hb, hk⟩; refine ⟨_, rfl, ?_⟩; replace HO_3 := am (Kd.R_mono (Kd.R_keep (IsS139.apart (show IsS139 w0 _ g s0_0 x25_1 x26_1 from u145HI0) (ro HO_3) (by decide)) hk (fun _ h => h.2)) (fun _ h => h.1)); replace HK := am (KeepBut.trans u145HK hk (.inl rfl)); replace HB := am (hb); replace HI0 := am (hi); clear hb hk hi))
   have H := HH5.out
   clear HH5
   by_cases c7 : x4_1 < t23
   rotate_left
   ·rw [if_neg c7] at H
    have c7b0 := decide_eq_false c7
    clear c7
    (first | rw [c7b0] | (simp only [i64_w, i32_w]; rw [c7b0]) | skip)
    simp only [Option.some.injEq, Prod.mk.injEq] at H
    obtain ⟨rfl, rfl, rfl⟩ := H
    go_wp2
    go_ret
    exact ⟨_, rf, by (with_reducible repeat (first | apply Kd.R_alloc | apply Kd.R_drewN | apply Kd.R_drew)); exact HO_3.out, u145HI0, u145HB, u145HK⟩
   rw [if_pos c7] at H
   have c7b0 := decide_eq_true c7
   clear c7
   (first | rw [c7b0] | (simp only [i64_w, i32_w]; rw [c7b0]) | skip)
   revert H
   refine ok4 fun t19 t21 t28 t29 A8 H => ?_
   (try dsimp only at H)
   revert H
   refine ok1 fun t31 A9 H => ?_
   have HH10 := am H
   clear H
   go_upto_if 19 with ((with_reducible refine gw ?_); first | (refine gl 14 Tryz.func146 #[.pointer (some ⟨g, 0, none⟩)] ?_; refine (spec_l2DrawField.calls g s0_0 t33 t34 t19 t21 t28 t29 w0 _ u145HI0 u145HB A8.out).mono ?_; rintro e w11 ⟨rfl, hi, hb, hk⟩; refine ⟨_, rfl, ?_⟩; replace HO_3 := am (Kd.R_mono (Kd.R_keep (IsS139.apart (show IsS139 w0 _ g s0_0 t33 t34 from u145HI0) (ro HO_3) (by decide)) hk (fun _ h => h.2)) (fun _ h => h.1)); replace HK := am (KeepBut.trans u145HK hk (.inl rfl)); replace HB := am (hb); replace HI0 := am (hi); clear hb hk hi) | (refine bx 5 #[.string (⟨#[]⟩ : ByteArray), .string (⟨#[]⟩ : ByteArray)] 116 ?_; intro gb14 hg w12 hbox hb; replace HO_3 := am (Kd.R_below (Kd.R_elderB (ro HO_3) gb14 (Nat.le_of_eq hg.symm)) hb); replace HB := am (below_step u145HB hb); have BK14 := am (hbox); have GW14 := am (hs hg (keep_size (w := w) (g := g) (row := none) u145HK)); have GE14 := am (Nat.le_trans HW0.out (hs hg (keep_size (w := w) (g := g) (row := none) u145HK))); replace HK := am (KeepBut.trans u145HK (KeepBut.of_below hb g none) (.inl rfl)); have NB0_14 := am (hl hg (IsS139.lt (show IsS139 w0 _ g s0_0 t28 t29 from u145HI0))); have NB14_0 := am (hh hg (IsS139.lt (show IsS139 w0 _ g s0_0 t28 t29 from u145HI0))); replace HI0 := am (IsS139.below u145HI0 hb); clear hb hbox hg; have hnb13 := NB14_0.out; have hnc13 := NB0_14.out; obtain ⟨_, _, _, _⟩ := cl2 BK14; obtain ⟨Ao15, co15, eo15⟩ := Kd.R_slice HO_3.out; subst eo15) | (refine gl 18 Tryz.func137 #[.slice Ao15 x3_1.length co15, .string t19] ?_; (with_reducible refine (spec_l2At.calls k1 _ _ x3_1 t19 t31 _ ?side1 ?side2 A9.out).mono ?_); (case side1 => refine (Kd.R_reads' (e := 116) (base := w.heap.size) (ok := fun k_ => (True ∧ k_ ≠ gb14)) (n := x3_1.length) (c := co15) ?_).2.2; exact (by (with_reducible repeat (first | apply Kd.R_alloc | apply Kd.R_drewN | apply Kd.R_drew)); exact (Kd.R_mono (Kd.R_far (p := ⟨gb14, 1, none⟩) (Kd.R_far (p := ⟨gb14, 0, none⟩) (Kd.R_mono HO_3.out (fun k_ hk => (⟨hk, hk.2⟩ : _ ∧ k_ ≠ gb14))) (fun _ hk => hk.2) (.string t19)) (fun _ hk => hk.2) (.string t21)) (fun _ h_ => h_.1)))); (case side2 => exact (Kd.R_reads' HO_3.out).2.1); rintro e w' ⟨rfl, ⟨nd, rfl⟩⟩; refine ⟨_, rfl, ?_⟩))
   have H := HH10.out
   clear HH10
   by_cases c16 : t31 < 0
   rotate_left
   ·rw [if_neg c16] at H
    have c16b0 := decide_eq_false c16
    clear c16
    (first | rw [c16b0] | (simp only [i64_w, i32_w]; rw [c16b0]) | skip)
    have H' := am H
    clear H
    go_wp2
    go_roundg k1
    case measure => have := HK1.out; omega
    case rel => exact ⟨(x3_1), (wrap64 (x4_1 + 1)), (t28), (t29), rs, H', ⟨by have := HK1.out; omega⟩, ⟨by (with_reducible repeat (first | apply Kd.R_alloc | apply Kd.R_drewN | apply Kd.R_drew)); exact Kd.R_mono (Kd.R_far (p := ⟨gb14, 1, none⟩) (Kd.R_far (p := ⟨gb14, 0, none⟩) (Kd.R_mono HO_3.out (fun k_ hk => (⟨hk, hk.2⟩ : _ ∧ k_ ≠ gb14))) (fun _ hk => hk.2) (.string t19)) (fun _ hk => hk.2) (.string t21)) (fun _ hk => trivial)⟩, ⟨u145HI0⟩, ⟨u145HK⟩, ⟨u145HB⟩⟩
   rw [if_pos c16] at H
   have c16b0 := decide_eq_true c16
   clear c16
   (first | rw [c16b0] | (simp only [i64_w, i32_w]; rw [c16b0]) | skip)
   revert H
   refine ifn fun c17 H => ?_
   have LMc17 := am c17
   clear c17
   obtain ⟨y22, hy22⟩ : ∃ y_ : List (S116), y_ = (x3_1 ++ [(⟨t19, t21⟩ : S116)]) := ⟨_, rfl⟩
   replace H : (spec_l2DrawRight.l0 k1 y22 (wrap64 (x4_1 + 1)) s0_0 t28 t29) = some (r1, r2, r3) := by first | (rw [hy22]; with_reducible exact H) | (have H2_ := (Option.bind_some _ _).symm.trans H; rw [hy22]; with_reducible exact H2_) | (have H2_ := (Option.bind_some _ _).symm.trans H; with_reducible exact H2_) | with_reducible exact H | (rw [hy22]; exact H) | exact H
   have Ny22 := am hy22
   clear hy22
   have H' := am H
   clear H
   have hnb18 := NB14_0.out
   have hnc18 := NB0_14.out
   obtain ⟨_, _, _, _⟩ := cl2 BK14
   go_wp2_with (first | ((with_reducible refine gate_builtin (b := .append) (xs := #[.tmp 20, .tmp 22]) rfl ?_); at_builtin; refine Kd.R_append k116 w.heap.size rfl (.tmp 20) (.tmp 22) 27 116 (.agg #[(.string ⟨#[]⟩), (.string ⟨#[]⟩)]) 32 rfl Tryz.underlying27 info116 rfl (by decide) (by omega) (.slice Ao15 x3_1.length co15) x3_1 (⟨t19, t21⟩ : S116) [.string t19, .string t21] (fun k_ => k_ ≠ gb14) (fun _ => False) rfl (by first | (go_simp; done) | (go_simp; rfl)) ?aP (fun _ hk => hk.elim) ?aF ?aO (Below.refl _ _) ?aS ?aL ?_; (case aP => exact k116_mkM _ _ _ (⟨t19, t21⟩ : S116)); (case aF => exact (fun k_ hk => Kd.freshB (g := gb14) (o := .cells #[.string t19, .string t21] 116 (0, 0)) (pt0 BK14) k_ hk)); (case aO => exact (by (with_reducible repeat (first | apply Kd.R_alloc | apply Kd.R_drewN | apply Kd.R_drew)); exact Kd.R_mono (Kd.R_far (p := ⟨gb14, 1, none⟩) (Kd.R_far (p := ⟨gb14, 0, none⟩) (Kd.R_mono HO_3.out (fun k_ hk => (⟨hk, hk.2⟩ : _ ∧ k_ ≠ gb14))) (fun _ hk => hk.2) (.string t19)) (fun _ hk => hk.2) (.string t21)) (fun _ hk => hk.1.2))); (case aS => exact (keep_size (w := w) (g := g) (row := none) u145HK)); (case aL => have := LMc17.out; omega); intro v38 w20 ho hb hg hat; rw [← Ny22.out] at ho; have n0_ := am (IsS139.grown u145HI0 hg (IsS139.own_ne HI0.out HO_3.out (by decide))); have n1_ := am (blk_grown (g := gb14) (o := .cells #[.string t19, .string t21] 116 (0, 0)) (pt0 BK14) hg (Kd.R_away HO_3.out (fun _ hk => hk.2))); have n2_ := am (below_weaken u145HB HL.out hb); have n3_ := am (KeepBut.trans u145HK (KeepBut.of_grown hg g) (Kd.R_base2 HO_3.out)); have n4_ := am (ho); clear HI0; clear BK14; clear HB; clear HK; clear HO_3; have HI0 := n0_; have BK14 := n1_; have HB := n2_; have HK := n3_; have HO36 := n4_; clear n0_ n1_ n2_ n3_ n4_; clear ho hb hg hat))
   go_roundg k1
   case measure => have := HK1.out; omega
   case rel => exact ⟨(y22), (wrap64 (x4_1 + 1)), (t28), (t29), rs, H', ⟨by have := HK1.out; omega⟩, ⟨rm HO36 (fun _ hk => trivial)⟩, ⟨u145HI0⟩, ⟨u145HK⟩, ⟨u145HB⟩⟩
end Go.Proofs.YtjlpjbkpmmpojaaGreatDoor.All
