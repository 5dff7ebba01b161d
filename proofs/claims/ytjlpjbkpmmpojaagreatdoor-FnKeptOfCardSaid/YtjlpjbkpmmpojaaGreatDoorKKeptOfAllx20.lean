-- Written by a program of this session (wip/tools/hprint.py) out of the translation. Lean checks it.
import Derived.Test.YtjlpjbkpmmpojaaGreatDoorKKeptOfAllx0
import Derived.Test.YtjlpjbkpmmpojaaGreatDoorKKeptOfAllx1
import Derived.Test.YtjlpjbkpmmpojaaGreatDoorKKeptOfAllx7
import Derived.Test.YtjlpjbkpmmpojaaGreatDoorKKeptOfAllx19
namespace Go.Proofs.YtjlpjbkpmmpojaaGreatDoor.All
open Go.RowKit Go.Proofs.YtjlpjbkpmmpojaaGreatDoorW.PrintWords Go.Proofs.YtjlpjbkpmmpojaaGreatDoorW.PrintLast Go.Proofs.YtjlpjbkpmmpojaaGreatDoorW.PrintMore
attribute [local go_sem] max2_int min2_int max_two min_two max_three min_three max_four min_four  -- for this text's walks alone
set_option linter.unusedVariables false
set_option linter.unusedSimpArgs false

/-! ### stringslite_CutPrefix: function 173 -/
def stringslite_CutPrefix.f (a0 : ByteArray) (a1 : ByteArray) : Option (ByteArray × Bool) := (stringslite_HasPrefix.f a0 a1).bind fun t988 => (if t988 = true then (if 0 ≤ (a1.size : Int) then (if (a1.size : Int) ≤ (a0.size : Int) then (some (a0.extract ((a1.size : Int) : Int).toNat a0.size, true)) else (none)) else (none)) else (some (a0, false)))
set_option maxHeartbeats 8000000 in
set_option maxRecDepth 100000 in
theorem stringslite_CutPrefix.calls (a0 : ByteArray) (a1 : ByteArray) (r1 : ByteArray) (r2 : Bool) (w : World) (h : stringslite_CutPrefix.f a0 a1 = some (r1, r2)) :
  Calls Tryz.prog 173 #[.string a0, .string a1] w fun e w' => e = .returned (.tuple #[.string r1, .bool r2]) ∧ Drawn0 w w' := by
 unfold stringslite_CutPrefix.f at h
 have H := h
 clear h
 revert H
 refine ok1 fun t988 A3 H => ?_
 by_cases c4 : t988 = true
 rotate_left
 ·replace c4 := Bool.eq_false_iff.mpr c4
  subst c4
  rw [if_neg (show ¬ (false = true) by decide)] at H
  simp only [Option.some.injEq, Prod.mk.injEq] at H
  obtain ⟨rfl, rfl⟩ := H
  go_enter Tryz.func173, Tryz.ntmps173
  go_wp2_with ((with_reducible refine gw ?_); first | (refine gl 8 Tryz.func131 #[.string a0, .string a1] ?_; (with_reducible refine (stringslite_HasPrefix.calls a0 a1 false _ A3.out).mono ?_); rintro e w' ⟨rfl, ⟨nd, rfl⟩⟩; refine ⟨_, rfl, ?_⟩))
  go_ret2
  exact ⟨rs, dr⟩
 subst c4
 rw [if_pos rfl] at H
 revert H
 refine ifn fun c5 H => ?_
 have c5b0 := eq_true c5
 have c5b1 := decide_eq_true c5
 clear c5
 revert H
 refine ifn fun c6 H => ?_
 have c6b0 := eq_true c6
 have c6b1 := decide_eq_true c6
 clear c6
 simp only [Option.some.injEq, Prod.mk.injEq] at H
 obtain ⟨rfl, rfl⟩ := H
 go_enter Tryz.func173, Tryz.ntmps173
 go_wp2_with ((with_reducible refine gw ?_); first | (refine gl 8 Tryz.func131 #[.string a0, .string a1] ?_; (with_reducible refine (stringslite_HasPrefix.calls a0 a1 true _ A3.out).mono ?_); rintro e w' ⟨rfl, ⟨nd, rfl⟩⟩; refine ⟨_, rfl, ?_⟩))
 go_ret2
 exact ⟨rs, dr⟩

/-! ### strings_CutPrefix: function 144 -/
def strings_CutPrefix.f (a0 : ByteArray) (a1 : ByteArray) : Option (ByteArray × Bool) := (stringslite_CutPrefix.f a0 a1).bind fun bt989 => (some (bt989.1, bt989.2))
set_option maxHeartbeats 8000000 in
set_option maxRecDepth 100000 in
theorem strings_CutPrefix.calls (a0 : ByteArray) (a1 : ByteArray) (r1 : ByteArray) (r2 : Bool) (w : World) (h : strings_CutPrefix.f a0 a1 = some (r1, r2)) :
  Calls Tryz.prog 144 #[.string a0, .string a1] w fun e w' => e = .returned (.tuple #[.string r1, .bool r2]) ∧ Drawn0 w w' := by
 unfold strings_CutPrefix.f at h
 have H := h
 clear h
 revert H
 refine ok2 fun t989 t990 A3 H => ?_
 (try dsimp only at H)
 simp only [Option.some.injEq, Prod.mk.injEq] at H
 obtain ⟨rfl, rfl⟩ := H
 go_enter Tryz.func144, Tryz.ntmps144
 go_wp2_with ((with_reducible refine gw ?_); first | (refine gl 8 Tryz.func173 #[.string a0, .string a1] ?_; (with_reducible refine (stringslite_CutPrefix.calls a0 a1 t989 t990 _ A3.out).mono ?_); rintro e w' ⟨rfl, ⟨nd, rfl⟩⟩; refine ⟨_, rfl, ?_⟩))
 go_ret2
 exact ⟨rs, dr⟩

/-- A state of type 42 at block g of W; what its slices lead to came in by w0. -/
def IsS42 (w0 W : World) (g : Nat) (f0 : Bool) (f1 : Bool) (f2 : Bool) (f3 : Bool) (f4 : Bool) (f5 : Int) : Prop := W.heap[g]? = some (.cells #[.bool f0, .bool f1, .bool f2, .bool f3, .bool f4, .int .i64 f5] 42 (0, 0)) ∧ w0.heap.size ≤ g
theorem IsS42.grown {w0 W : World} {g : Nat} {f0 : Bool} {f1 : Bool} {f2 : Bool} {f3 : Bool} {f4 : Bool} {f5 : Int} {W1 : World} {row : Option Nat} (h : IsS42 w0 W g f0 f1 f2 f3 f4 f5) (hw : W.grownBy W1 row) (hne : some g ≠ row) : IsS42 w0 W1 g f0 f1 f2 f3 f4 f5 := by
 obtain ⟨hb, hg⟩ := h
 exact ⟨blk_grown hb hw hne, hg⟩
theorem IsS42.fresh {w0 W : World} {g : Nat} {f0 : Bool} {f1 : Bool} {f2 : Bool} {f3 : Bool} {f4 : Bool} {f5 : Int} (h : IsS42 w0 W g f0 f1 f2 f3 f4 f5) : ∀ k, W.heap.size ≤ k → k ≠ g := by
 obtain ⟨hb, hg⟩ := h
 exact Kd.freshB hb
theorem IsS42.kept {w0 W : World} {g : Nat} {f0 : Bool} {f1 : Bool} {f2 : Bool} {f3 : Bool} {f4 : Bool} {f5 : Int} {W1 : World} {S : Nat → Prop} (h : IsS42 w0 W g f0 f1 f2 f3 f4 f5) (hk : Kept W W1 S) (hne : ¬ S g) : IsS42 w0 W1 g f0 f1 f2 f3 f4 f5 := by
 obtain ⟨hb, hg⟩ := h
 exact ⟨blk_kept hb hk hne, hg⟩
theorem IsS42.below {w0 W : World} {g : Nat} {f0 : Bool} {f1 : Bool} {f2 : Bool} {f3 : Bool} {f4 : Bool} {f5 : Int} {W1 : World} (h : IsS42 w0 W g f0 f1 f2 f3 f4 f5) (hw : Below W.heap.size W W1) : IsS42 w0 W1 g f0 f1 f2 f3 f4 f5 := h.grown (grown_of_below hw none) (by simp)
theorem IsS42.alloc {w0 W : World} {g : Nat} {f0 : Bool} {f1 : Bool} {f2 : Bool} {f3 : Bool} {f4 : Bool} {f5 : Int} (h : IsS42 w0 W g f0 f1 f2 f3 f4 f5) (o : Obj) : IsS42 w0 (W.alloc o) g f0 f1 f2 f3 f4 f5 := h.below (below_alloc (Below.refl _ _) o)
theorem IsS42.drewN {w0 W : World} {g : Nat} {f0 : Bool} {f1 : Bool} {f2 : Bool} {f3 : Bool} {f4 : Bool} {f5 : Int} (h : IsS42 w0 W g f0 f1 f2 f3 f4 f5) (m : Nat) : IsS42 w0 (W.drewN m) g f0 f1 f2 f3 f4 f5 := h
theorem IsS42.drew {w0 W : World} {g : Nat} {f0 : Bool} {f1 : Bool} {f2 : Bool} {f3 : Bool} {f4 : Bool} {f5 : Int} (h : IsS42 w0 W g f0 f1 f2 f3 f4 f5) : IsS42 w0 W.drew g f0 f1 f2 f3 f4 f5 := h
theorem IsS42.at_ {w0 W : World} {g : Nat} {f0 : Bool} {f1 : Bool} {f2 : Bool} {f3 : Bool} {f4 : Bool} {f5 : Int} {w' : World} {m : Nat} (hq : W.drewN m = w') (h : IsS42 w0 W g f0 f1 f2 f3 f4 f5) : IsS42 w0 w' g f0 f1 f2 f3 f4 f5 := by subst hq; exact IsS42.drewN h m
theorem IsS42.apart {w0 W : World} {g : Nat} {f0 : Bool} {f1 : Bool} {f2 : Bool} {f3 : Bool} {f4 : Bool} {f5 : Int} {α : Type} {d : Kd α} {e : Nat} {base : Nat} {ok : Nat → Prop} {v : Value} {xs : List α} (h : IsS42 w0 W g f0 f1 f2 f3 f4 f5) (ho : d.R e W base ok v xs) (ht : ∀ q, q ∈ e :: d.E → q ≠ 42) : d.R e W base (fun k => ok k ∧ k ≠ g) v xs := by
 obtain ⟨hb, hg⟩ := h
 exact Kd.R_types ho hb ht
theorem IsS42.own_ne {w0 W : World} {g : Nat} {f0 : Bool} {f1 : Bool} {f2 : Bool} {f3 : Bool} {f4 : Bool} {f5 : Int} {α : Type} {d : Kd α} {e : Nat} {base : Nat} {ok : Nat → Prop} {v : Value} {xs : List α} (h : IsS42 w0 W g f0 f1 f2 f3 f4 f5) (ho : d.R e W base ok v xs) (ht : e ≠ 42) : some g ≠ v.ownBlock := by
 obtain ⟨hb, hg⟩ := h
 exact Kd.R_ne ho hb ht
theorem IsS42.lt {w0 W : World} {g : Nat} {f0 : Bool} {f1 : Bool} {f2 : Bool} {f3 : Bool} {f4 : Bool} {f5 : Int} (h : IsS42 w0 W g f0 f1 f2 f3 f4 f5) : g < W.heap.size := by
 obtain ⟨hb, hg⟩ := h
 exact blk_lt hb
theorem IsS42.ge {w0 W : World} {g : Nat} {f0 : Bool} {f1 : Bool} {f2 : Bool} {f3 : Bool} {f4 : Bool} {f5 : Int} (h : IsS42 w0 W g f0 f1 f2 f3 f4 f5) : w0.heap.size ≤ g := by
 obtain ⟨hb, hg⟩ := h
 exact hg
theorem IsS42.ne_blk {w0 W : World} {g : Nat} {f0 : Bool} {f1 : Bool} {f2 : Bool} {f3 : Bool} {f4 : Bool} {f5 : Int} {a : Nat} {cs : Array Value} {t : TypeId} {fr : Nat × Nat} (h : IsS42 w0 W g f0 f1 f2 f3 f4 f5) (hb2 : W.heap[a]? = some (.cells cs t fr)) (ht : t ≠ 42) : g ≠ a := by
 obtain ⟨hb, hg⟩ := h
 rintro rfl
 rw [hb] at hb2
 injection hb2 with hb2
 injection hb2 with _ ht2
 exact ht ht2.symm
theorem IsS42.far {w0 W : World} {g : Nat} {f0 : Bool} {f1 : Bool} {f2 : Bool} {f3 : Bool} {f4 : Bool} {f5 : Int} {p : Addr} (h : IsS42 w0 W g f0 f1 f2 f3 f4 f5) (hne : g ≠ p.block) (u : Value) : IsS42 w0 (W.setCell p u) g f0 f1 f2 f3 f4 f5 := by
 obtain ⟨hb, hg⟩ := h
 exact ⟨blk_far hb hne u, hg⟩
theorem cellS42_0 {W : World} {g : Nat} {f0 : Bool} {f1 : Bool} {f2 : Bool} {f3 : Bool} {f4 : Bool} {f5 : Int} (h : W.heap[g]? = some (.cells #[.bool f0, .bool f1, .bool f2, .bool f3, .bool f4, .int .i64 f5] 42 (0, 0))) : W.cell? ⟨g, 0, none⟩ = some (.bool f0) := (blk_cell h 0).trans rfl
theorem IsS42.set_0 {w0 W : World} {g : Nat} {f0 : Bool} {f1 : Bool} {f2 : Bool} {f3 : Bool} {f4 : Bool} {f5 : Int} (h : IsS42 w0 W g f0 f1 f2 f3 f4 f5) (x : Bool) : IsS42 w0 (W.setCell ⟨g, 0, none⟩ (.bool x)) g x f1 f2 f3 f4 f5 := by
 obtain ⟨hb, hg⟩ := h
 exact ⟨by simpa using blk_set hb 0 (.bool x), hg⟩
theorem cellS42_1 {W : World} {g : Nat} {f0 : Bool} {f1 : Bool} {f2 : Bool} {f3 : Bool} {f4 : Bool} {f5 : Int} (h : W.heap[g]? = some (.cells #[.bool f0, .bool f1, .bool f2, .bool f3, .bool f4, .int .i64 f5] 42 (0, 0))) : W.cell? ⟨g, 1, none⟩ = some (.bool f1) := (blk_cell h 1).trans rfl
theorem IsS42.set_1 {w0 W : World} {g : Nat} {f0 : Bool} {f1 : Bool} {f2 : Bool} {f3 : Bool} {f4 : Bool} {f5 : Int} (h : IsS42 w0 W g f0 f1 f2 f3 f4 f5) (x : Bool) : IsS42 w0 (W.setCell ⟨g, 1, none⟩ (.bool x)) g f0 x f2 f3 f4 f5 := by
 obtain ⟨hb, hg⟩ := h
 exact ⟨by simpa using blk_set hb 1 (.bool x), hg⟩
theorem cellS42_2 {W : World} {g : Nat} {f0 : Bool} {f1 : Bool} {f2 : Bool} {f3 : Bool} {f4 : Bool} {f5 : Int} (h : W.heap[g]? = some (.cells #[.bool f0, .bool f1, .bool f2, .bool f3, .bool f4, .int .i64 f5] 42 (0, 0))) : W.cell? ⟨g, 2, none⟩ = some (.bool f2) := (blk_cell h 2).trans rfl
theorem IsS42.set_2 {w0 W : World} {g : Nat} {f0 : Bool} {f1 : Bool} {f2 : Bool} {f3 : Bool} {f4 : Bool} {f5 : Int} (h : IsS42 w0 W g f0 f1 f2 f3 f4 f5) (x : Bool) : IsS42 w0 (W.setCell ⟨g, 2, none⟩ (.bool x)) g f0 f1 x f3 f4 f5 := by
 obtain ⟨hb, hg⟩ := h
 exact ⟨by simpa using blk_set hb 2 (.bool x), hg⟩
theorem cellS42_3 {W : World} {g : Nat} {f0 : Bool} {f1 : Bool} {f2 : Bool} {f3 : Bool} {f4 : Bool} {f5 : Int} (h : W.heap[g]? = some (.cells #[.bool f0, .bool f1, .bool f2, .bool f3, .bool f4, .int .i64 f5] 42 (0, 0))) : W.cell? ⟨g, 3, none⟩ = some (.bool f3) := (blk_cell h 3).trans rfl
theorem IsS42.set_3 {w0 W : World} {g : Nat} {f0 : Bool} {f1 : Bool} {f2 : Bool} {f3 : Bool} {f4 : Bool} {f5 : Int} (h : IsS42 w0 W g f0 f1 f2 f3 f4 f5) (x : Bool) : IsS42 w0 (W.setCell ⟨g, 3, none⟩ (.bool x)) g f0 f1 f2 x f4 f5 := by
 obtain ⟨hb, hg⟩ := h
 exact ⟨by simpa using blk_set hb 3 (.bool x), hg⟩
theorem cellS42_4 {W : World} {g : Nat} {f0 : Bool} {f1 : Bool} {f2 : Bool} {f3 : Bool} {f4 : Bool} {f5 : Int} (h : W.heap[g]? = some (.cells #[.bool f0, .bool f1, .bool f2, .bool f3, .bool f4, .int .i64 f5] 42 (0, 0))) : W.cell? ⟨g, 4, none⟩ = some (.bool f4) := (blk_cell h 4).trans rfl
theorem IsS42.set_4 {w0 W : World} {g : Nat} {f0 : Bool} {f1 : Bool} {f2 : Bool} {f3 : Bool} {f4 : Bool} {f5 : Int} (h : IsS42 w0 W g f0 f1 f2 f3 f4 f5) (x : Bool) : IsS42 w0 (W.setCell ⟨g, 4, none⟩ (.bool x)) g f0 f1 f2 f3 x f5 := by
 obtain ⟨hb, hg⟩ := h
 exact ⟨by simpa using blk_set hb 4 (.bool x), hg⟩
theorem cellS42_5 {W : World} {g : Nat} {f0 : Bool} {f1 : Bool} {f2 : Bool} {f3 : Bool} {f4 : Bool} {f5 : Int} (h : W.heap[g]? = some (.cells #[.bool f0, .bool f1, .bool f2, .bool f3, .bool f4, .int .i64 f5] 42 (0, 0))) : W.cell? ⟨g, 5, none⟩ = some (.int .i64 f5) := (blk_cell h 5).trans rfl
theorem IsS42.set_5 {w0 W : World} {g : Nat} {f0 : Bool} {f1 : Bool} {f2 : Bool} {f3 : Bool} {f4 : Bool} {f5 : Int} (h : IsS42 w0 W g f0 f1 f2 f3 f4 f5) (x : Int) : IsS42 w0 (W.setCell ⟨g, 5, none⟩ (.int .i64 x)) g f0 f1 f2 f3 f4 x := by
 obtain ⟨hb, hg⟩ := h
 exact ⟨by simpa using blk_set hb 5 (.int .i64 x), hg⟩
theorem IsS42.new (w0 W : World) (f0 : Bool) (f1 : Bool) (f2 : Bool) (f3 : Bool) (f4 : Bool) (f5 : Int) (hB : Below w0.heap.size w0 W) : IsS42 w0 (W.alloc (.cells #[.bool f0, .bool f1, .bool f2, .bool f3, .bool f4, .int .i64 f5] 42)) W.heap.size f0 f1 f2 f3 f4 f5 := ⟨by simpa using heap_alloc_new W _, hB.size⟩

/-! ### impl_Cc_word: function 82 -/
theorem u82HI0 {p : Prop} (h : p := by repeat (first | (with_reducible first | exact HI0.out | apply IsS42.alloc | apply IsS42.drewN | apply IsS42.drew | apply IsS42.set_0 | apply IsS42.set_1 | apply IsS42.set_2 | apply IsS42.set_3 | apply IsS42.set_4 | apply IsS42.set_5) | exact HI0.out)) : p := h
theorem u82HK {p : Prop} (h : p := by repeat (first | (with_reducible first | exact HK.out | apply KeepBut.set_ | apply keep_drewN | apply keep_drew | apply keep_alloc) | exact HK.out)) : p := h
theorem u82HB {p : Prop} (h : p := by repeat (first | (with_reducible first | exact HB.out | apply below_alloc | apply pw_below_drewN | apply below_drew1 | refine below_set ?_ (IsS42.ge HI0.out)) | exact HB.out)) : p := h
def impl_Cc_word.j0 : Nat → ByteArray → Bool → Bool → Bool → Bool → Bool → Int → Option (Bool × Bool × Bool × Bool × Bool × Int)
 | 0, _, _, _, _, _, _, _ => none
 | k + 1, x1, x1000, x1001, x1002, x1003, x1004, x1005 => (strings_CutPrefix.f x1 (⟨#[109, 97, 120, 45, 97, 103, 101, 61]⟩ : ByteArray)).bind fun bt991 => (if bt991.2 = true then ((impl_NumRead.f bt991.1).bind fun bt993 => (if x1004 = true then (some (x1000, x1001, x1002, x1003, true, mn bt993.1 x1005)) else (some (x1000, x1001, x1002, x1003, true, bt993.1)))) else (some (x1000, x1001, x1002, x1003, x1004, x1005)))
def impl_Cc_word.f (k : Nat) (s0_0 : Bool) (s0_1 : Bool) (s0_2 : Bool) (s0_3 : Bool) (s0_4 : Bool) (s0_5 : Int) (a1 : ByteArray) : Option (Bool × Bool × Bool × Bool × Bool × Int) := if a1.toList = ([110, 111, 45, 115, 116, 111, 114, 101] : List UInt8) then (impl_Cc_word.j0 k a1 true s0_1 s0_2 s0_3 s0_4 s0_5) else (if a1.toList = ([110, 111, 45, 99, 97, 99, 104, 101] : List UInt8) then (impl_Cc_word.j0 k a1 s0_0 true s0_2 s0_3 s0_4 s0_5) else (if a1.toList = ([112, 114, 105, 118, 97, 116, 101] : List UInt8) then (impl_Cc_word.j0 k a1 s0_0 s0_1 true s0_3 s0_4 s0_5) else (if a1.toList = ([109, 117, 115, 116, 45, 114, 101, 118, 97, 108, 105, 100, 97, 116, 101] : List UInt8) then (impl_Cc_word.j0 k a1 s0_0 s0_1 s0_2 true s0_4 s0_5) else (impl_Cc_word.j0 k a1 s0_0 s0_1 s0_2 s0_3 s0_4 s0_5))))
set_option maxHeartbeats 8000000 in
set_option maxRecDepth 100000 in
theorem impl_Cc_word.calls (k : Nat) (g : Nat) (s0_0 : Bool) (s0_1 : Bool) (s0_2 : Bool) (s0_3 : Bool) (s0_4 : Bool) (s0_5 : Int) (a1 : ByteArray) (r1 : Bool) (r2 : Bool) (r3 : Bool) (r4 : Bool) (r5 : Bool) (r6 : Int) (w0 w : World) (hGE : GLOBE w0) (hGT : GLOBT w0) (hI : IsS42 w0 w g s0_0 s0_1 s0_2 s0_3 s0_4 s0_5) (hB : Below w0.heap.size w0 w) (h : impl_Cc_word.f k s0_0 s0_1 s0_2 s0_3 s0_4 s0_5 a1 = some (r1, r2, r3, r4, r5, r6)) :
  Calls Tryz.prog 82 #[.pointer (some ⟨g, 0, none⟩), .string a1] w fun e w' => e = .returned (.tuple #[]) ∧ IsS42 w0 w' g r1 r2 r3 r4 r5 r6 ∧ Below w0.heap.size w0 w' ∧ KeepBut w w' g none := by
 have HGE := am hGE
 clear hGE
 have HGT := am hGT
 clear hGT
 have HI0 := am hI
 have HK := am (KeepBut.refl w g none)
 have HL := am hB.size
 clear hI
 have HW0 := am hB.size
 have HB := am hB
 clear hB
 unfold impl_Cc_word.f at h
 have H := h
 clear h
 have HC3 := am H
 clear H
 go_enter Tryz.func82, Tryz.ntmps82
 go_upto_block 0 with (fail)
 go_cut [] (fun wc => ∃ (kq : Nat) (x1000_2 : Bool) (x1001_2 : Bool) (x1002_2 : Bool) (x1003_2 : Bool), Aside0 (impl_Cc_word.j0 kq a1 x1000_2 x1001_2 x1002_2 x1003_2 s0_4 s0_5 = some (r1, r2, r3, r4, r5, r6)) ∧ Aside0 (kq ≤ k) ∧ Aside0 (IsS42 w0 wc g x1000_2 x1001_2 x1002_2 x1003_2 s0_4 s0_5) ∧ Aside0 (KeepBut w wc g none) ∧ Aside0 (Below w0.heap.size w0 wc))
 case first =>
  have H := HC3.out
  clear HC3
  by_cases c4 : a1.toList = ([110, 111, 45, 115, 116, 111, 114, 101] : List UInt8)
  ·rw [if_pos c4] at H
   have c4b0 : (a1.toList == ([110, 111, 45, 115, 116, 111, 114, 101] : List UInt8)) = true := beq_iff_eq.mpr c4
   have c4b1 : (a1.toList != ([110, 111, 45, 115, 116, 111, 114, 101] : List UInt8)) = false := bne_eq_false_iff_eq.mpr c4
   clear c4
   (first | rw [c4b0] | (simp only [i64_w, i32_w]; rw [c4b0]) | skip)
   have H' := am H
   clear H
   obtain ⟨HGz5, hgz5⟩ := HI0.out
   have z5_0 := cellS42_0 HGz5
   have z5_1 := cellS42_1 HGz5
   have z5_2 := cellS42_2 HGz5
   have z5_3 := cellS42_3 HGz5
   have z5_4 := cellS42_4 HGz5
   have z5_5 := cellS42_5 HGz5
   have y5_0 := blk_frozen HGz5 0
   have y5_1 := blk_frozen HGz5 1
   have y5_2 := blk_frozen HGz5 2
   have y5_3 := blk_frozen HGz5 3
   have y5_4 := blk_frozen HGz5 4
   have y5_5 := blk_frozen HGz5 5
   clear HGz5 hgz5
   go_wp2
   go_meet
   case rel => exact ⟨_, (true), (s0_1), (s0_2), (s0_3), H', ⟨by first | omega | exact Nat.le_refl _⟩, ⟨u82HI0⟩, ⟨u82HK⟩, ⟨u82HB⟩⟩
  rw [if_neg c4] at H
  have c4b0 : (a1.toList == ([110, 111, 45, 115, 116, 111, 114, 101] : List UInt8)) = false := beq_eq_false_iff_ne.mpr c4
  have c4b1 : (a1.toList != ([110, 111, 45, 115, 116, 111, 114, 101] : List UInt8)) = true := bne_iff_ne.mpr c4
  (first | rw [c4b0] | (simp only [i64_w, i32_w]; rw [c4b0]) | skip)
  by_cases c6 : a1.toList = ([110, 111, 45, 99, 97, 99, 104, 101] : List UInt8)
  ·rw [if_pos c6] at H
   have c6b0 : (a1.toList == ([110, 111, 45, 99, 97, 99, 104, 101] : List UInt8)) = true := beq_iff_eq.mpr c6
   have c6b1 : (a1.toList != ([110, 111, 45, 99, 97, 99, 104, 101] : List UInt8)) = false := bne_eq_false_iff_eq.mpr c6
   clear c6
   have H' := am H
   clear H
   obtain ⟨HGz7, hgz7⟩ := HI0.out
   have z7_0 := cellS42_0 HGz7
   have z7_1 := cellS42_1 HGz7
   have z7_2 := cellS42_2 HGz7
   have z7_3 := cellS42_3 HGz7
   have z7_4 := cellS42_4 HGz7
   have z7_5 := cellS42_5 HGz7
   have y7_0 := blk_frozen HGz7 0
   have y7_1 := blk_frozen HGz7 1
   have y7_2 := blk_frozen HGz7 2
   have y7_3 := blk_frozen HGz7 3
   have y7_4 := blk_frozen HGz7 4
   have y7_5 := blk_frozen HGz7 5
   clear HGz7 hgz7
   go_wp2
   go_meet
   case rel => exact ⟨_, (s0_0), (true), (s0_2), (s0_3), H', ⟨by first | omega | exact Nat.le_refl _⟩, ⟨u82HI0⟩, ⟨u82HK⟩, ⟨u82HB⟩⟩
  rw [if_neg c6] at H
  have c6b0 : (a1.toList == ([110, 111, 45, 99, 97, 99, 104, 101] : List UInt8)) = false := beq_eq_false_iff_ne.mpr c6
  have c6b1 : (a1.toList != ([110, 111, 45, 99, 97, 99, 104, 101] : List UInt8)) = true := bne_iff_ne.mpr c6
  by_cases c8 : a1.toList = ([112, 114, 105, 118, 97, 116, 101] : List UInt8)
  ·rw [if_pos c8] at H
   have c8b0 : (a1.toList == ([112, 114, 105, 118, 97, 116, 101] : List UInt8)) = true := beq_iff_eq.mpr c8
   have c8b1 : (a1.toList != ([112, 114, 105, 118, 97, 116, 101] : List UInt8)) = false := bne_eq_false_iff_eq.mpr c8
   clear c8
   have H' := am H
   clear H
   obtain ⟨HGz9, hgz9⟩ := HI0.out
   have z9_0 := cellS42_0 HGz9
   have z9_1 := cellS42_1 HGz9
   have z9_2 := cellS42_2 HGz9
   have z9_3 := cellS42_3 HGz9
   have z9_4 := cellS42_4 HGz9
   have z9_5 := cellS42_5 HGz9
   have y9_0 := blk_frozen HGz9 0
   have y9_1 := blk_frozen HGz9 1
   have y9_2 := blk_frozen HGz9 2
   have y9_3 := blk_frozen HGz9 3
   have y9_4 := blk_frozen HGz9 4
   have y9_5 := blk_frozen HGz9 5
   clear HGz9 hgz9
   go_wp2
   go_meet
   case rel => exact ⟨_, (s0_0), (s0_1), (true), (s0_3), H', ⟨by first | omega | exact Nat.le_refl _⟩, ⟨u82HI0⟩, ⟨u82HK⟩, ⟨u82HB⟩⟩
  rw [if_neg c8] at H
  have c8b0 : (a1.toList == ([112, 114, 105, 118, 97, 116, 101] : List UInt8)) = false := beq_eq_false_iff_ne.mpr c8
  have c8b1 : (a1.toList != ([112, 114, 105, 118, 97, 116, 101] : List UInt8)) = true := bne_iff_ne.mpr c8
  by_cases c10 : a1.toList = ([109, 117, 115, 116, 45, 114, 101, 118, 97, 108, 105, 100, 97, 116, 101] : List UInt8)
  rotate_left
  ·rw [if_neg c10] at H
   have c10b0 : (a1.toList == ([109, 117, 115, 116, 45, 114, 101, 118, 97, 108, 105, 100, 97, 116, 101] : List UInt8)) = false := beq_eq_false_iff_ne.mpr c10
   have c10b1 : (a1.toList != ([109, 117, 115, 116, 45, 114, 101, 118, 97, 108, 105, 100, 97, 116, 101] : List UInt8)) = true := bne_iff_ne.mpr c10
   have H' := am H
   clear H
   go_wp2
   go_meet
   case rel => exact ⟨_, (s0_0), (s0_1), (s0_2), (s0_3), H', ⟨by first | omega | exact Nat.le_refl _⟩, ⟨u82HI0⟩, ⟨u82HK⟩, ⟨u82HB⟩⟩
  rw [if_pos c10] at H
  have c10b0 : (a1.toList == ([109, 117, 115, 116, 45, 114, 101, 118, 97, 108, 105, 100, 97, 116, 101] : List UInt8)) = true := beq_iff_eq.mpr c10
  have c10b1 : (a1.toList != ([109, 117, 115, 116, 45, 114, 101, 118, 97, 108, 105, 100, 97, 116, 101] : List UInt8)) = false := bne_eq_false_iff_eq.mpr c10
  clear c10
  have H' := am H
  clear H
  obtain ⟨HGz11, hgz11⟩ := HI0.out
  have z11_0 := cellS42_0 HGz11
  have z11_1 := cellS42_1 HGz11
  have z11_2 := cellS42_2 HGz11
  have z11_3 := cellS42_3 HGz11
  have z11_4 := cellS42_4 HGz11
  have z11_5 := cellS42_5 HGz11
  have y11_0 := blk_frozen HGz11 0
  have y11_1 := blk_frozen HGz11 1
  have y11_2 := blk_frozen HGz11 2
  have y11_3 := blk_frozen HGz11 3
  have y11_4 := blk_frozen HGz11 4
  have y11_5 := blk_frozen HGz11 5
  clear HGz11 hgz11
  go_wp2
  go_meet
  case rel => exact ⟨_, (s0_0), (s0_1), (s0_2), (true), H', ⟨by first | omega | exact Nat.le_refl _⟩, ⟨u82HI0⟩, ⟨u82HK⟩, ⟨u82HB⟩⟩
 case rest =>
  clear HC3
  try clear c1
  try clear p2
  try clear c4
  try clear c4b0
  try clear c4b1
  try clear c6
  try clear c6b0
  try clear c6b1
  try clear c8
  try clear c8b0
  try clear c8b1
  try clear c10
  try clear c10b0
  try clear c10b1
  try clear z11_0
  try clear z11_1
  try clear z11_2
  try clear z11_3
  try clear z11_4
  try clear z11_5
  try clear z5_0
  try clear z5_1
  try clear z5_2
  try clear z5_3
  try clear z5_4
  try clear z5_5
  try clear z7_0
  try clear z7_1
  try clear z7_2
  try clear z7_3
  try clear z7_4
  try clear z7_5
  try clear z9_0
  try clear z9_1
  try clear z9_2
  try clear z9_3
  try clear z9_4
  try clear z9_5
  try clear y11_0
  try clear y11_1
  try clear y11_2
  try clear y11_3
  try clear y11_4
  try clear y11_5
  try clear y5_0
  try clear y5_1
  try clear y5_2
  try clear y5_3
  try clear y5_4
  try clear y5_5
  try clear y7_0
  try clear y7_1
  try clear y7_2
  try clear y7_3
  try clear y7_4
  try clear y7_5
  try clear y9_0
  try clear y9_1
  try clear y9_2
  try clear y9_3
  try clear y9_4
  try clear y9_5
  obtain ⟨kq, x1000_2, x1001_2, x1002_2, x1003_2, HA, HJ2, HI0, HK, HB⟩ := hcut
  cases kq with
  | zero => exact absurd HA.out (by simp [impl_Cc_word.j0])
  | succ kj2 =>
   have H := HA.out
   clear HA
   simp only [impl_Cc_word.j0] at H
   revert H
   refine ok2 fun t991 t992 A12 H => ?_
   (try dsimp only at H)
   have HH13 := am H
   clear H
   go_upto_if 35 with ((with_reducible refine gw ?_); first | (refine gl 31 Tryz.func144 #[.string a1, .string (⟨#[109, 97, 120, 45, 97, 103, 101, 61]⟩ : ByteArray)] ?_; (with_reducible refine (strings_CutPrefix.calls a1 (⟨#[109, 97, 120, 45, 97, 103, 101, 61]⟩ : ByteArray) t991 t992 _ A12.out).mono ?_); rintro e w' ⟨rfl, ⟨nd, rfl⟩⟩; refine ⟨_, rfl, ?_⟩))
   have H := HH13.out
   clear HH13
   by_cases c14 : t992 = true
   rotate_left
   ·replace c14 := Bool.eq_false_iff.mpr c14
    subst c14
    rw [if_neg (show ¬ (false = true) by decide)] at H
    simp only [Option.some.injEq, Prod.mk.injEq] at H
    obtain ⟨rfl, rfl, rfl, rfl, rfl, rfl⟩ := H
    go_wp2
    first | go_end0 | ((try simp only [Exit.inBlock, Exit.then]); refine bodyPost_ret (results_none rfl _ _ _) rfl ?_)
    exact ⟨rf, u82HI0, u82HB, u82HK⟩
   subst c14
   rw [if_pos rfl] at H
   revert H
   refine ok2 fun t993 t994 A15 H => ?_
   (try dsimp only at H)
   by_cases c16 : s0_4 = true
   rotate_left
   ·replace c16 := Bool.eq_false_iff.mpr c16
    subst c16
    rw [if_neg (show ¬ (false = true) by decide)] at H
    simp only [Option.some.injEq, Prod.mk.injEq] at H
    obtain ⟨rfl, rfl, rfl, rfl, rfl, rfl⟩ := H
    go_wp2_with ((with_reducible refine gw ?_); first | (refine gl 38 Tryz.func110 #[.string t991] ?_; (with_reducible refine (impl_NumRead.calls t991 t993 t994 _ ?side1 ?side2 A15.out).mono ?_); (case side1 => exact GLOBE.below HGE.out u82HB); (case side2 => exact GLOBT.below HGT.out u82HB); rintro e w20 ⟨rfl, hb⟩; refine ⟨_, rfl, ?_⟩; replace HK := am (KeepBut.trans u82HK (KeepBut.of_below hb g none) (.inl rfl)); replace HB := am (below_step u82HB hb); replace HI0 := am (IsS42.below u82HI0 hb); clear hb; obtain ⟨HGz21, hgz21⟩ := HI0.out; have z21_0 := cellS42_0 HGz21; have z21_1 := cellS42_1 HGz21; have z21_2 := cellS42_2 HGz21; have z21_3 := cellS42_3 HGz21; have z21_4 := cellS42_4 HGz21; have z21_5 := cellS42_5 HGz21; have y21_0 := blk_frozen HGz21 0; have y21_1 := blk_frozen HGz21 1; have y21_2 := blk_frozen HGz21 2; have y21_3 := blk_frozen HGz21 3; have y21_4 := blk_frozen HGz21 4; have y21_5 := blk_frozen HGz21 5; clear HGz21 hgz21))
    first | go_end0 | ((try simp only [Exit.inBlock, Exit.then]); refine bodyPost_ret (results_none rfl _ _ _) rfl ?_)
    exact ⟨rf, u82HI0, u82HB, u82HK⟩
   subst c16
   rw [if_pos rfl] at H
   obtain ⟨ji17, hji17⟩ : ∃ j_ : Int, (mn t993 s0_5) = j_ := ⟨_, rfl⟩
   replace H : (some (x1000_2, x1001_2, x1002_2, x1003_2, true, ji17)) = some (r1, r2, r3, r4, r5, r6) := by first | (rw [hji17] at H; exact H) | (simp only [hji17] at H ⊢; exact H)
   (try rw [hji17] at A15)
   have hji17_ : (if s0_5 < t993 then s0_5 else t993) = ji17 := hji17
   simp only [Option.some.injEq, Prod.mk.injEq] at H
   obtain ⟨rfl, rfl, rfl, rfl, rfl, rfl⟩ := H
   go_wp2_with ((with_reducible refine gw ?_); first | (refine gl 38 Tryz.func110 #[.string t991] ?_; (with_reducible refine (impl_NumRead.calls t991 t993 t994 _ ?side1 ?side2 A15.out).mono ?_); (case side1 => exact GLOBE.below HGE.out u82HB); (case side2 => exact GLOBT.below HGT.out u82HB); rintro e w18 ⟨rfl, hb⟩; refine ⟨_, rfl, ?_⟩; replace HK := am (KeepBut.trans u82HK (KeepBut.of_below hb g none) (.inl rfl)); replace HB := am (below_step u82HB hb); replace HI0 := am (IsS42.below u82HI0 hb); clear hb; obtain ⟨HGz19, hgz19⟩ := HI0.out; have z19_0 := cellS42_0 HGz19; have z19_1 := cellS42_1 HGz19; have z19_2 := cellS42_2 HGz19; have z19_3 := cellS42_3 HGz19; have z19_4 := cellS42_4 HGz19; have z19_5 := cellS42_5 HGz19; have y19_0 := blk_frozen HGz19 0; have y19_1 := blk_frozen HGz19 1; have y19_2 := blk_frozen HGz19 2; have y19_3 := blk_frozen HGz19 3; have y19_4 := blk_frozen HGz19 4; have y19_5 := blk_frozen HGz19 5; clear HGz19 hgz19))
   first | go_end0 | ((try simp only [Exit.inBlock, Exit.then]); refine bodyPost_ret (results_none rfl _ _ _) rfl ?_)
   exact ⟨by first | rfl | (simp [errW_none, errW_some] <;> rfl) | (simp only [← hji17]; first | rfl | (simp [errW_none, errW_some] <;> rfl)) | (simp [*, errW_none, errW_some] <;> rfl), u82HI0, u82HB, u82HK⟩

/-! ### impl.CcRead: word behind word -/
def ccFold (k : Nat) : List ByteArray → Bool → Bool → Bool → Bool → Bool → Int → Option (Bool × Bool × Bool × Bool × Bool × Int)
 | [], f0, f1, f2, f3, f4, f5 => some (f0, f1, f2, f3, f4, f5)
 | x :: r, f0, f1, f2, f3, f4, f5 => (impl_Lower.f x).bind fun t => (impl_Cc_word.f k f0 f1 f2 f3 f4 f5 t).bind fun s => ccFold k r s.1 s.2.1 s.2.2.1 s.2.2.2.1 s.2.2.2.2.1 s.2.2.2.2.2
def impl_CcRead.f (k : Nat) (a0 : ByteArray) : Option (Bool × Bool × Bool × Bool × Bool × Int) := (impl_Split.f k a0).bind fun xs => if xs.length ≤ 4294967296 then ccFold k xs false false false false false 0 else none
set_option maxHeartbeats 8000000 in
set_option maxRecDepth 100000 in
theorem impl_CcRead.calls (k : Nat) (a0 : ByteArray) (r1 : Bool) (r2 : Bool) (r3 : Bool) (r4 : Bool) (r5 : Bool) (r6 : Int) (w : World) (hGE : GLOBE w) (hGM : GLOBM w) (hGT : GLOBT w) (h : impl_CcRead.f k a0 = some (r1, r2, r3, r4, r5, r6)) :
  Calls Tryz.prog 22 #[.string a0] w fun e w' => e = .returned (.agg #[.bool r1, .bool r2, .bool r3, .bool r4, .bool r5, .int .i64 r6]) ∧ Below w.heap.size w w' := by
 unfold impl_CcRead.f at h
 obtain ⟨xs, hxs, h⟩ := Option.bind_eq_some_iff.mp h
 split at h
 case isFalse => cases h
 rename_i hlen
 have HXS := am hxs
 have HLEN := am hlen
 have HH := am h
 have HGE := am hGE
 have HGM := am hGM
 have HGT := am hGT
 clear hxs hlen h hGE hGM hGT
 have HB := am (Below.refl w.heap.size w)
 go_enter Tryz.func22, Tryz.ntmps22
 go_wp2_with (first | ((with_reducible refine gw ?_); first | (refine bx 2 #[.bool false, .bool false, .bool false, .bool false, .bool false, .int .i64 0] 42 ?_; intro gr hgr w2 hbr hb; have HBR := am hbr; have GR := am ((by rw [hgr]; exact (below_size bl) : w.heap.size ≤ gr)); replace HB := am (below_step bl hb); clear hbr hb hgr) | (refine bx 3 #[.bool false, .bool false, .bool false, .bool false, .bool false, .int .i64 0] 42 ?_; intro gc hgc w3 hbc hb; have NE := am ((by rw [hgc]; exact Nat.ne_of_lt (blk_lt (bk HBR)) : gr ≠ gc)); have GC := am ((by rw [hgc]; exact (below_size bl) : w.heap.size ≤ gc)); have HI := am (show IsS42 w w3 gc false false false false false 0 from ⟨hbc, GC.out⟩); replace HBR := kb HBR hb; replace HB := am (below_step bl hb); clear hbc hb hgc)) | (go_at_call 81; refine (impl_Split.calls k a0 xs _ (GLOBM.below HGM.out bl) HXS.out).mono ?_; rintro e w4 ⟨v7, rfl, ho, hb⟩; have HO := am (show Kd.R Kd.string 9 w4 w.heap.size (fun q_ => q_ ≠ gc) v7 xs from Kd.R_lower (Kd.R_mono (Kd.R_bound ho) (fun q_ hq => fun e_ => by have h1 := IsS42.lt HI.out; have h2 : w3.heap.size ≤ q_ := hq.2.1; omega)) (below_size bl)); replace HI := am (IsS42.below HI.out hb); replace HBR := kb HBR hb; replace HB := am (below_step bl hb); clear ho hb; obtain ⟨A7, c7, e7⟩ := Kd.R_slice HO.out; subst e7))
 have HL := am (show (xs.length : Int) ≤ 4294967296 by have := HLEN.out; omega)
 go_loopw [9] (fun v9 wr => ∃ (n : Nat) (f0 f1 f2 f3 f4 : Bool) (f5 : Int), n ≤ xs.length ∧ v9 = .int .i64 n ∧ Aside0 (ccFold k (xs.drop n) f0 f1 f2 f3 f4 f5 = some (r1, r2, r3, r4, r5, r6)) ∧ Aside0 (Kd.R Kd.string 9 wr w.heap.size (fun q_ => q_ ≠ gc) (.slice A7 xs.length c7) xs) ∧ Aside0 (wr.heap[gr]? = some (.cells #[.bool false, .bool false, .bool false, .bool false, .bool false, .int .i64 0] 42 (0, 0))) ∧ Aside0 (IsS42 w wr gc f0 f1 f2 f3 f4 f5) ∧ Aside0 (Below w.heap.size w wr)) (fun v9 _ => xs.length - (intOf v9).toNat)
 case atStart => exact ⟨0, false, false, false, false, false, 0, Nat.zero_le _, rfl, ⟨by rw [List.drop_zero]; exact HH.out⟩, HO, HBR, HI, HB⟩
 case round =>
  clear HO HBR HI HB
  obtain ⟨n, f0, f1, f2, f3, f4, f5, hn, rfl, HF, HO, HBR, HI, HB⟩ := hrel
  have hn2 : (n : Int) ≤ 4294967296 := by have := HL.out; omega
  by_cases hlt : n < xs.length
  ·obtain ⟨ad, e1, hx0⟩ := Kd.at_string (Kd.R_reads' HO.out).2.2 (n : Int) (by omega) (by omega)
   cases e1
   have hrd : rdOf ByteArray.empty xs (n : Int) = xs[n] := by simp [rdOf, List.getD, hlt]
   rw [hrd, Int.toNat_natCast] at hx0
   have hF := HF.out
   rw [List.drop_eq_getElem_cons hlt, ccFold] at hF
   obtain ⟨x, hx⟩ : ∃ x, x = xs[n] := ⟨_, rfl⟩
   rw [← hx] at hx0 hF
   obtain ⟨t, ht, hF⟩ := Option.bind_eq_some_iff.mp hF
   obtain ⟨⟨g0, g1, g2, g3, g4, g5⟩, hw, hF⟩ := Option.bind_eq_some_iff.mp hF
   have HT := am ht
   have HW := am hw
   have HF2 := am hF
   clear hrd hx ht hw hF HF hn
   go_wp2_with (first | (go_at_call 83; refine (impl_Lower.calls x t _ HT.out).mono ?_; rintro e w5 ⟨rfl, hb⟩; replace HO := kr HO hb; replace HBR := kb HBR hb; replace HI := am (IsS42.below (by repeat (first | (with_reducible first | exact HI.out | apply IsS42.alloc | apply IsS42.drewN | apply IsS42.drew) | exact HI.out)) hb); replace HB := am (below_step bl hb); clear hb) | (go_at_call 82; refine (impl_Cc_word.calls k gc f0 f1 f2 f3 f4 f5 t g0 g1 g2 g3 g4 g5 w _ HGE.out HGT.out (by repeat (first | (with_reducible first | exact HI.out | apply IsS42.alloc | apply IsS42.drewN | apply IsS42.drew) | exact HI.out)) bl HW.out).mono ?_; rintro e w6 ⟨rfl, hi, hb, hk⟩; replace HO := am (Kd.R_keep (ro HO) hk (fun _ hq => hq)); replace HBR := am (KeepBut.blk hk (bk HBR) NE.out (by simp)); replace HI := am hi; replace HB := am hb; clear hi hb hk))
   go_roundw
   case rel => exact ⟨n + 1, g0, g1, g2, g3, g4, g5, by omega, by go_num, HF2, ⟨ro HO⟩, ⟨bk HBR⟩, ⟨by repeat (first | (with_reducible first | exact HI.out | apply IsS42.alloc | apply IsS42.drewN | apply IsS42.drew) | exact HI.out)⟩, ⟨bl⟩⟩
   case measure => simp [intOf]; omega
  ·have hnn : n = xs.length := by omega
   have hF := HF.out
   rw [hnn, List.drop_length, ccFold] at hF
   simp only [Option.some.injEq, Prod.mk.injEq] at hF
   obtain ⟨rfl, rfl, rfl, rfl, rfl, rfl⟩ := hF
   have hi := HI.out.1
   have c0 := (blk_cell hi 0).trans (show _ = some (.bool f0) from rfl)
   have c1 := (blk_cell hi 1).trans (show _ = some (.bool f1) from rfl)
   have c2 := (blk_cell hi 2).trans (show _ = some (.bool f2) from rfl)
   have c3 := (blk_cell hi 3).trans (show _ = some (.bool f3) from rfl)
   have c4 := (blk_cell hi 4).trans (show _ = some (.bool f4) from rfl)
   have c5 := (blk_cell hi 5).trans (show _ = some (.int .i64 f5) from rfl)
   have d0 := (blk_cell HBR.out 0).trans (show _ = some (.bool false) from rfl)
   have d1 := (blk_cell HBR.out 1).trans (show _ = some (.bool false) from rfl)
   have d2 := (blk_cell HBR.out 2).trans (show _ = some (.bool false) from rfl)
   have d3 := (blk_cell HBR.out 3).trans (show _ = some (.bool false) from rfl)
   have d4 := (blk_cell HBR.out 4).trans (show _ = some (.bool false) from rfl)
   have d5 := (blk_cell HBR.out 5).trans (show _ = some (.int .i64 0) from rfl)
   have z0 := blk_frozen HBR.out 0
   have z1 := blk_frozen HBR.out 1
   have z2 := blk_frozen HBR.out 2
   have z3 := blk_frozen HBR.out 3
   have z4 := blk_frozen HBR.out 4
   have z5 := blk_frozen HBR.out 5
   have ne1 := NE.out
   have ne2 := Ne.symm NE.out
   clear hi HF hn hnn
   go_wp2
   refine bodyPost_ret (results_cell_row rfl _ _ gr 42 #[.bool f0, .bool f1, .bool f2, .bool f3, .bool f4, .int .i64 f5] (0, 0) _ rfl (by (with_reducible repeat (first | refine blk_drewN ?_ _ | refine blk_drew ?_ | refine blk_alloc ?_ _)); refine blk_put (cs := #[.bool f0, .bool f1, .bool f2, .bool f3, .bool f4, .int .i64 0]) ?_ 5 _ rfl; refine blk_put (cs := #[.bool f0, .bool f1, .bool f2, .bool f3, .bool false, .int .i64 0]) ?_ 4 _ rfl; refine blk_put (cs := #[.bool f0, .bool f1, .bool f2, .bool false, .bool false, .int .i64 0]) ?_ 3 _ rfl; refine blk_put (cs := #[.bool f0, .bool f1, .bool false, .bool false, .bool false, .int .i64 0]) ?_ 2 _ rfl; refine blk_put (cs := #[.bool f0, .bool false, .bool false, .bool false, .bool false, .int .i64 0]) ?_ 1 _ rfl; refine blk_put (cs := #[.bool false, .bool false, .bool false, .bool false, .bool false, .int .i64 0]) ?_ 0 _ rfl; exact bk HBR) Tryz.underlying42 rfl (by kernel_rfl)) rfl ?_
   exact ⟨rf, by repeat (first | (with_reducible first | exact HB.out | apply below_alloc | apply pw_below_drewN | apply below_drew1 | refine below_set ?_ GR.out) | exact HB.out)⟩

/-! ### impl_CcOf: function 26 -/
def impl_CcOf.f (k : Nat) (l0 : List (S116)) : Option (Bool × Bool × Bool × Bool × Bool × Int) := (impl_Get.f l0 (⟨#[99, 97, 99, 104, 101, 45, 99, 111, 110, 116, 114, 111, 108]⟩ : ByteArray)).bind fun bt1005 => ((impl_CcRead.f k bt1005.1).bind fun bt1007 => (some (bt1007.1, bt1007.2.1, bt1007.2.2.1, bt1007.2.2.2.1, bt1007.2.2.2.2.1, bt1007.2.2.2.2.2)))
set_option maxHeartbeats 8000000 in
set_option maxRecDepth 100000 in
theorem impl_CcOf.calls (k : Nat) (A0 : Option Addr) (c0 : Nat) (l0 : List (S116)) (r1 : Bool) (r2 : Bool) (r3 : Bool) (r4 : Bool) (r5 : Bool) (r6 : Int) (w : World) (hGE : GLOBE w) (hGM : GLOBM w) (hGT : GLOBT w) (hr0 : Kd.C k116 w A0 l0.length l0) (hc0 : l0.length ≤ c0) (h : impl_CcOf.f k l0 = some (r1, r2, r3, r4, r5, r6)) :
  Calls Tryz.prog 26 #[.slice A0 l0.length c0] w fun e w' => e = .returned (.agg #[.bool r1, .bool r2, .bool r3, .bool r4, .bool r5, .int .i64 r6]) ∧ Below w.heap.size w w' := by
 have hu42 := Tryz.underlying42
 have HR0 := am hr0
 have HC0 := am hc0
 clear hr0 hc0
 have HGE := am hGE
 clear hGE
 have HGM := am hGM
 clear hGM
 have HGT := am hGT
 clear hGT
 have HB := am (Below.refl w.heap.size w)
 unfold impl_CcOf.f at h
 have H := h
 clear h
 revert H
 refine ok2 fun t1005 t1006 A2 H => ?_
 (try dsimp only at H)
 revert H
 refine ok6 fun t1007 t1008 t1009 t1010 t1011 t1012 A3 H => ?_
 (try dsimp only at H)
 simp only [Option.some.injEq, Prod.mk.injEq] at H
 obtain ⟨rfl, rfl, rfl, rfl, rfl, rfl⟩ := H
 go_enter Tryz.func26, Tryz.ntmps26
 go_wp2_with ((with_reducible refine gw ?_); first | (refine bx 2 #[.bool false, .bool false, .bool false, .bool false, .bool false, .int .i64 0] 42 ?_; intro gb1004 hg w4 hbox hb; have BK1004 := am (hbox); have GW1004 := am (sz hg : w.heap.size ≤ gb1004); have GE1004 := am (sz hg : w.heap.size ≤ gb1004); replace HB := am (below_step bl hb); clear hb hbox hg) | (refine gl 7 Tryz.func63 #[.slice A0 l0.length c0, .string (⟨#[99, 97, 99, 104, 101, 45, 99, 111, 110, 116, 114, 111, 108]⟩ : ByteArray)] ?_; (with_reducible refine (impl_Get.calls _ _ l0 (⟨#[99, 97, 99, 104, 101, 45, 99, 111, 110, 116, 114, 111, 108]⟩ : ByteArray) t1005 t1006 _ ?side1 ?side2 A2.out).mono ?_); (case side1 => exact cb HR0); (case side2 => exact HC0.out); rintro e w5 ⟨rfl, hb⟩; refine ⟨_, rfl, ?_⟩; replace BK1004 := kb BK1004 hb; replace HB := am (below_step bl hb); clear hb) | (refine gl 11 Tryz.func22 #[.string t1005] ?_; (with_reducible refine (impl_CcRead.calls k t1005 t1007 t1008 t1009 t1010 t1011 t1012 _ ?side1 ?side2 ?side3 A3.out).mono ?_); (case side1 => exact GLOBE.below HGE.out bl); (case side2 => exact GLOBM.below HGM.out bl); (case side3 => exact GLOBT.below HGT.out bl); rintro e w6 ⟨rfl, hb⟩; refine ⟨_, rfl, ?_⟩; replace BK1004 := kb BK1004 hb; replace HB := am (below_step bl hb); clear hb; obtain ⟨z7_0, y7_0, z7_1, y7_1, z7_2, y7_2, z7_3, y7_3, z7_4, y7_4, z7_5, y7_5⟩ := cl6 BK1004))
 refine bodyPost_ret (results_cell_row rfl _ _ gb1004 42 #[.bool t1007, .bool t1008, .bool t1009, .bool t1010, .bool t1011, .int .i64 t1012] (0, 0) _ rfl (pt0 BK1004) Tryz.underlying42 rfl (by kernel_rfl)) rfl ?_
 exact ⟨rf, bl⟩

end Go.Proofs.YtjlpjbkpmmpojaaGreatDoor.All
