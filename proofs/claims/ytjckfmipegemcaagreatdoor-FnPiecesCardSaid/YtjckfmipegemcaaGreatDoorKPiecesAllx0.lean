-- Written by a program of this session (wip/tools/hprint.py) out of the translation. Lean checks it.
import Derived.Test.YtjckfmipegemcaaGreatDoorKPiecesShelf
import Derived.Test.YtjckfmipegemcaaGreatDoorKPiecesWWords
import Derived.Test.YtjckfmipegemcaaGreatDoorKPiecesWLast
import Derived.Test.YtjckfmipegemcaaGreatDoorKPiecesWTab
import Derived.Test.YtjckfmipegemcaaGreatDoorKPiecesWApart
import Derived.Test.YtjckfmipegemcaaGreatDoorKPiecesWArr
import Derived.Test.YtjckfmipegemcaaGreatDoorKPiecesWZeros
import Derived.Test.YtjckfmipegemcaaGreatDoorKPiecesWFoot
import Derived.Test.YtjckfmipegemcaaGreatDoorKPiecesWKept
import Derived.Test.YtjckfmipegemcaaGreatDoorKPiecesWShare
import Derived.Test.YtjckfmipegemcaaGreatDoorKPiecesWN
import Derived.Test.YtjckfmipegemcaaGreatDoorKPiecesWEqStruct
import Derived.Test.YtjckfmipegemcaaGreatDoorKPiecesWRepsOne
import Derived.Test.YtjckfmipegemcaaGreatDoorKPiecesWInv
import Derived.Test.YtjckfmipegemcaaGreatDoorKPiecesWGuard
import Derived.Test.YtjckfmipegemcaaGreatDoorKPiecesWMore
import Derived.Test.YtjckfmipegemcaaGreatDoorProg
import Derived.Below
import Derived.Deep.Draws
import Derived.Deep.AppendLies
import Derived.Maps.AppendAt
import Derived.OwnWalk
import Derived.Laws.BytesArg
import Derived.Laws.MakeOwn
import Derived.Laws.OwnMore
import Derived.Deep.OwnRows
import Derived.Tactics
import Derived.Lib.ConvBytes
import Derived.Laws.Slices
import Derived.WalkKit
import Derived.KernelRfl
import Derived.RowKit3
import Derived.Deep.LoopGhost
import Derived.Deep.QuietTactic
import Derived.BigQuiet
import Derived.WideLaws
import Derived.Deep.DeepCutAuto
import Derived.Deep.CutBlock
import Derived.Deep.RegionHeld3
import Derived.Laws.Rows
import Derived.Lib.AppendStr
import Derived.ArgAppend
import Derived.Laws.IdiomCopy
import Derived.OrdersHeld
import Derived.Laws.BitsLemmas
import Derived.RowKit
import Derived.Lib.SliceRun
import Derived.Laws.IdiomStrings
import Derived.Lib.Builder
import Derived.Lib.Strings
import Derived.Laws.Externs
import Derived.Deep.RegionLaw
import Derived.WalkSmall
import Derived.Lib.LaidTab
import Derived.Stop.LaidErr
import Derived.FnData
import Derived.Lib.AppendIntMem
import Derived.ChangeKeysEq
import Derived.Laws.Bits64b
import Derived.Lib.TrailingZeros
namespace Go.Proofs.YtjckfmipegemcaaGreatDoor.All
open Go.RowKit Go.Proofs.YtjckfmipegemcaaGreatDoorW.PrintWords Go.Proofs.YtjckfmipegemcaaGreatDoorW.PrintLast Go.Proofs.YtjckfmipegemcaaGreatDoorW.PrintMore
attribute [local go_sem] max2_int min2_int max_two min_two max_three min_three max_four min_four  -- for this text's walks alone
set_option linter.unusedVariables false
set_option linter.unusedSimpArgs false

def errW : Option Int → Value
  | none => .nilIface
  | some c => .iface 0 (.int .i64 c)
theorem errW_none : errW none = .nilIface := rfl
theorem errW_some (c : Int) : errW (some c) = .iface 0 (.int .i64 c) := rfl

theorem info3 : (Tryz.prog.info? 3).map (fun i => (i.zero, i.size, i.bytes)) = some (some (.int .i64 0), 1, 8) := by kernel_rfl
theorem info5 : (Tryz.prog.info? 5).map (fun i => (i.zero, i.size, i.bytes)) = some (some (.int .u8 0), 1, 1) := by kernel_rfl
theorem info9 : (Tryz.prog.info? 9).map (fun i => (i.zero, i.size, i.bytes)) = some (some (.string ⟨#[]⟩), 1, 16) := by kernel_rfl
theorem info40 : (Tryz.prog.info? 40).map (fun i => (i.zero, i.size, i.bytes)) = some (some (.agg #[(.int .i64 0), (.string ⟨#[]⟩), (.slice none 0 0), (.string ⟨#[]⟩)]), 4, 64) := by kernel_rfl
theorem info81 : (Tryz.prog.info? 81).map (fun i => (i.zero, i.size, i.bytes)) = some (some (.agg #[(.string ⟨#[]⟩), (.string ⟨#[]⟩)]), 2, 32) := by kernel_rfl
-- the values' own types
structure S81 where
  f0 : ByteArray
  f1 : ByteArray
def z81 : S81 := ⟨(⟨#[]⟩ : ByteArray), (⟨#[]⟩ : ByteArray)⟩
def k81 : Kd S81 := Kd.iso (Kd.pair Kd.string Kd.string) (fun x : S81 => (x.f0, x.f1))
theorem k81_open {w : World} {x : S81} {cs : List Value} (h : k81.K w x cs) : cs = [.string x.f0, .string x.f1] := by
  obtain ⟨_, _, rfl, rfl, rfl⟩ := h
  exact rfl
theorem k81_mkM (w : World) (base : Nat) (ok : Nat → Prop) (x : S81)  : k81.M w base ok x [.string x.f0, .string x.f1] := ⟨[.string x.f0], [.string x.f1], rfl, rfl, rfl⟩
def rd_T81 (xs : List S81) (i : Int) : S81 := xs.getD i.toNat z81
theorem at_T81 {w : World} {A : Option Addr} {n : Nat} {xs : List S81} (h : Kd.C k81 w A n xs) (i : Int) (h0 : 0 ≤ i) (h1 : i < n) : ∃ ad , A = some ad ∧ w.cell? (ad.add (i.toNat * 2)) = some (.string (rd_T81 xs i).f0) ∧ w.cell? ⟨(ad.add (i.toNat * 2)).block, (ad.add (i.toNat * 2)).off + 1, none⟩ = some (.string (rd_T81 xs i).f1) := by
  obtain ⟨ad, c, e, _, hK, hc0⟩ := Kd.C_get h z81 i h0 h1
  have hc : ∀ j u, c[j]? = some u → w.cell? (ad.add (i.toNat * 2 + j)) = some u := hc0
  obtain rfl := k81_open hK
  exact ⟨ad, e, hc 0 _ rfl, by rw [← add_field _ _ 1 (by omega)]; exact hc 1 _ rfl⟩

structure S40 where
  f0 : Int
  f1 : ByteArray
  f2 : (List S81)
  f3 : ByteArray
def z40 : S40 := ⟨(0 : Int), (⟨#[]⟩ : ByteArray), ([] : List S81), (⟨#[]⟩ : ByteArray)⟩
def k40 : Kd S40 := Kd.iso (Kd.pair (Kd.int .i64) (Kd.pair Kd.string (Kd.pair (Kd.slice 81 k81) Kd.string))) (fun x : S40 => (x.f0, x.f1, x.f2, x.f3))
theorem k40_open {w : World} {x : S40} {cs : List Value} (h : k40.K w x cs) : ∃ A2 c2, cs = [.int .i64 x.f0, .string x.f1, .slice A2 x.f2.length c2, .string x.f3] ∧ x.f2.length ≤ c2 ∧ k81.C w A2 x.f2.length x.f2 := by
  obtain ⟨_, _, rfl, rfl, ⟨_, _, rfl, rfl, ⟨_, _, rfl, ⟨A2, c2, rfl, l2, g2⟩, rfl⟩⟩⟩ := h
  exact ⟨A2, c2, rfl, l2, g2⟩
theorem k40_openM {w : World} {base : Nat} {ok : Nat → Prop} {x : S40} {cs : List Value} (h : k40.M w base ok x cs) : ∃ v2, cs = [.int .i64 x.f0, .string x.f1, v2, .string x.f3] ∧ k81.R 81 w base ok v2 x.f2 := by
  obtain ⟨_, _, rfl, rfl, ⟨_, _, rfl, rfl, ⟨_, _, rfl, ⟨v2, rfl, g2⟩, rfl⟩⟩⟩ := h
  exact ⟨v2, rfl, g2⟩
theorem k40_mkM (w : World) (base : Nat) (ok : Nat → Prop) (x : S40) {v2 : Value} (g2 : k81.R 81 w base ok v2 x.f2) : k40.M w base ok x [.int .i64 x.f0, .string x.f1, v2, .string x.f3] := ⟨[.int .i64 x.f0], [.string x.f1, v2, .string x.f3], rfl, rfl, ⟨[.string x.f1], [v2, .string x.f3], rfl, rfl, ⟨[v2], [.string x.f3], rfl, ⟨v2, rfl, g2⟩, rfl⟩⟩⟩
def rd_T40 (xs : List S40) (i : Int) : S40 := xs.getD i.toNat z40
theorem at_T40 {w : World} {A : Option Addr} {n : Nat} {xs : List S40} (h : Kd.C k40 w A n xs) (i : Int) (h0 : 0 ≤ i) (h1 : i < n) : ∃ ad A2 c2, A = some ad ∧ w.cell? (ad.add (i.toNat * 4)) = some (.int .i64 (rd_T40 xs i).f0) ∧ w.cell? ⟨(ad.add (i.toNat * 4)).block, (ad.add (i.toNat * 4)).off + 1, none⟩ = some (.string (rd_T40 xs i).f1) ∧ w.cell? ⟨(ad.add (i.toNat * 4)).block, (ad.add (i.toNat * 4)).off + 2, none⟩ = some (.slice A2 (rd_T40 xs i).f2.length c2) ∧ w.cell? ⟨(ad.add (i.toNat * 4)).block, (ad.add (i.toNat * 4)).off + 3, none⟩ = some (.string (rd_T40 xs i).f3) ∧ (rd_T40 xs i).f2.length ≤ c2 ∧ k81.C w A2 (rd_T40 xs i).f2.length (rd_T40 xs i).f2 := by
  obtain ⟨ad, c, e, _, hK, hc0⟩ := Kd.C_get h z40 i h0 h1
  have hc : ∀ j u, c[j]? = some u → w.cell? (ad.add (i.toNat * 4 + j)) = some u := hc0
  obtain ⟨A2, c2, rfl, l2, g2⟩ := k40_open hK
  exact ⟨ad, A2, c2, e, hc 0 _ rfl, by rw [← add_field _ _ 1 (by omega)]; exact hc 1 _ rfl, by rw [← add_field _ _ 2 (by omega)]; exact hc 2 _ rfl, by rw [← add_field _ _ 3 (by omega)]; exact hc 3 _ rfl, l2, g2⟩

-- words with an automatic argument: they stand for tactic fragments that the printed proofs use again and again
theorem bl {p : Prop} (h : p := by repeat (first | (with_reducible first | exact HB.out | apply below_alloc | apply pw_below_drewN | apply below_drew1 | refine below_set ?_ (Aside0.out (by assumption))) | exact HB.out)) : p := h
theorem ro {p q : Prop} (h : Aside0 q) (g : q → p := by intro h_; (with_reducible repeat (first | apply Kd.R_alloc | apply Kd.R_drewN | apply Kd.R_drew)); exact h_) : p := g h.out
theorem bk {p q : Prop} (h : Aside0 q) (g : q → p := by intro h_; (with_reducible repeat (first | refine blk_drewN ?_ _ | refine blk_drew ?_ | refine blk_alloc ?_ _)); exact h_) : p := g h.out
theorem ma {p : Prop} (h : p := by (try simp only [List.map_toArray, List.map_cons, List.map_nil]); first | done | rfl | (simp only [List.length_drop, List.length_take]; rfl)) : p := h
theorem rf {p : Prop} (h : p := by first | rfl | (simp [errW_none, errW_some] <;> rfl) | (simp [*, errW_none, errW_some] <;> rfl)) : p := h
theorem kr {α : Type} {d : Kd α} {e : Nat} {w0 w1 w2 : World} {base : Nat} {ok : Nat → Prop} {v : Value} {xs : List α} (h : Aside0 (d.R e w0 base ok v xs)) (hb : Below w1.heap.size w1 w2) (st : d.R e w0 base ok v xs → d.R e w1 base ok v xs := by intro h_; (with_reducible repeat (first | apply Kd.R_alloc | apply Kd.R_drewN | apply Kd.R_drew)); exact h_) : Aside0 (d.R e w2 base ok v xs) := Aside0.mk (Kd.R_below (st h.out) hb)
theorem kb {w0 w1 w2 : World} {g : Nat} {o : Obj} (h : Aside0 (w0.heap[g]? = some o)) (hb : Below w1.heap.size w1 w2) (st : w0.heap[g]? = some o → w1.heap[g]? = some o := by intro h_; (with_reducible repeat (first | refine blk_drewN ?_ _ | refine blk_drew ?_ | refine blk_alloc ?_ _)); exact h_) : Aside0 (w2.heap[g]? = some o) := Aside0.mk (blk_below (st h.out) hb)
-- a block behind stores into others, told by their names
theorem bg1 {w0 w1 : World} {g g1 : Nat} {t : TypeId} {cs : Array Value} (h : Aside0 (w0.heap[g]? = some (.cells cs t (0, 0)))) (n1 : Aside0 (g ≠ g1)) (st : g ≠ g1 → w0.heap[g]? = some (.cells cs t (0, 0)) → w1.heap[g]? = some (.cells cs t (0, 0)) := by intro n1_ h_; (repeat (with_reducible first | exact h_ | refine blk_drewN ?_ _ | refine blk_drew ?_ | refine blk_alloc ?_ _ | refine blk_far ?_ n1_ _)); first | done | exact h_) : w1.heap[g]? = some (.cells cs t (0, 0)) := st n1.out h.out
theorem kg1 {w0 w1 w2 : World} {g g1 : Nat} {t : TypeId} {cs : Array Value} (h : Aside0 (w0.heap[g]? = some (.cells cs t (0, 0)))) (n1 : Aside0 (g ≠ g1)) (hb : Below w1.heap.size w1 w2) (st : g ≠ g1 → w0.heap[g]? = some (.cells cs t (0, 0)) → w1.heap[g]? = some (.cells cs t (0, 0)) := by intro n1_ h_; (repeat (with_reducible first | exact h_ | refine blk_drewN ?_ _ | refine blk_drew ?_ | refine blk_alloc ?_ _ | refine blk_far ?_ n1_ _)); first | done | exact h_) : Aside0 (w2.heap[g]? = some (.cells cs t (0, 0))) := Aside0.mk (blk_below (st n1.out h.out) hb)
-- words that slim.py lays in the place of longer fragments
theorem od {p : Prop} [Decidable p] (h : decide p = true := by first | (with_reducible assumption) | assumption) : p := of_decide_eq_true h
theorem am {p : Prop} (h : p) : Aside0 p := ⟨h⟩
theorem nl {g g' : Nat} {W0 W : World} {o : Obj} (hg : g' = W.heap.size) (h : Aside0 (W0.heap[g]? = some o)) (st : W0.heap[g]? = some o → W.heap[g]? = some o := by intro h_; (with_reducible repeat (first | refine blk_drewN ?_ _ | refine blk_drew ?_ | refine blk_alloc ?_ _)); exact h_) : g ≠ g' := by rw [hg]; exact Nat.ne_of_lt (blk_lt (st h.out))
theorem ng {g g' : Nat} {W0 W : World} {o : Obj} (hg : g' = W.heap.size) (h : Aside0 (W0.heap[g]? = some o)) (st : W0.heap[g]? = some o → W.heap[g]? = some o := by intro h_; (with_reducible repeat (first | refine blk_drewN ?_ _ | refine blk_drew ?_ | refine blk_alloc ?_ _)); exact h_) : g' ≠ g := (nl hg h st).symm
theorem sz {w W : World} {g : Nat} (hg : g = W.heap.size) (h : Below w.heap.size w W := by repeat (first | (with_reducible first | exact HB.out | apply below_alloc | apply pw_below_drewN | apply below_drew1 | refine below_set ?_ (Aside0.out (by assumption))) | exact HB.out)) : w.heap.size ≤ g := by rw [hg]; exact below_size h
theorem cb {p q : Prop} (h : Aside0 q) (g : q → p := by intro h_; repeat (first | exact (Kd.C_below h_ HB.out) | (with_reducible refine Kd.C_alloc ?_ _) | (with_reducible refine Kd.C_drewN ?_ _) | (with_reducible refine Kd.C_drew ?_))) : p := g h.out
theorem rc {p q : Prop} (h : Aside0 q) (g : q → p := by intro h_; repeat (first | exact (Kd.R_reads' h_).2.2 | (with_reducible refine Kd.C_alloc ?_ _) | (with_reducible refine Kd.C_drewN ?_ _) | (with_reducible refine Kd.C_drew ?_))) : p := g h.out
theorem cc {p q : Prop} (h : Aside0 q) (g : q → p := by intro h_; repeat (first | exact h_ | (with_reducible refine Kd.C_alloc ?_ _) | (with_reducible refine Kd.C_drewN ?_ _) | (with_reducible refine Kd.C_drew ?_))) : p := g h.out
theorem bc {W : World} {g : Nat} {t : TypeId} {cs : Array Value} {i : Nat} {v : Value} (h : Aside0 (W.heap[g]? = some (.cells cs t (0, 0)))) (e : cs[i]? = some v := by rfl) : W.cell? ⟨g, i, none⟩ = some v := (blk_cell h.out i).trans e
theorem rs {p : Prop} (h : p := by first | rfl | (simp; done) | (simp [*]; done)) : p := h
theorem dr {p : Prop} (h : p := by repeat (first | exact Drawn0.refl _ | apply Drawn0.step)) : p := h
theorem hcw {w W : World} {p : Addr} {v : Value} (h : w.cell? p = some v) (hB : Below w.heap.size w W := by exact HB.out) : W.cell? p = some v := (hB.cell (World.block_lt_of_cell? w _ h)).trans h
theorem ob {α β : Type} {o : Option α} {f : α → Option β} {b : β} (h : o.bind f = some b) : ∃ a, o = some a ∧ f a = some b := Option.bind_eq_some_iff.mp h
-- words of slim2.py: steps of a region, facts of a block's cells, unrolled binds
section
open Go.Proofs.YtjckfmipegemcaaGreatDoorW.PrintLast
def br : Bool → List Nat → List Bool
 | _, [] => []
 | b, n :: r => List.replicate n b ++ br (!b) r
variable {P : Program} {ops : Array Oper} {Q : Exit → Act → World → Prop} {md : Region.Mode} {S : World → Prop} {ds : List Nat} {fuel : Nat} {l : Array Bool} {a a' : Act} {w : World} {oi : Oper} {v : Value}
theorem pu (i n : Nat) (r : List Nat) (h : wpAnyLast P md ops Q S ds fuel ⟨br true r⟩ a' w)
  (hi : ops[i]? = some oi := by rfl) (hN : oi.dst = some n := by rfl) (hc : anyB md ops l ⟨br true r⟩ i = true := by first | exact any_of HT_.out (by kernel_rfl) | kernel_rfl)
  (hQ : ∀ c a w, Q (.panic c) (a.put oi.dst v) w → Q (.panic c) a w := by exact fun _ _ _ h => h) (h1 : Region.wanted oi (yielded ops a.tmps) = true := by rfl) (h2 : ∀ w, (execOp a.eval oi).run P w = .ok (.value v) w := by (intro w'; go_simp; with_reducible rfl))
  (ha : a.put (some n) v = a' := by (simp only [Act.put, List.setIfInBounds_toArray, List.set_cons_zero, List.set_cons_succ, i64_w, i32_w]; rfl)) : wpAnyLast P md ops Q S ds (fuel + 1) l a w :=
  pure_ ⟨br true r⟩ hi hN hc hQ (Or.inl ⟨h1, h2⟩) ha h
theorem tk (i n : Nat) (r : List Nat) (h : wpAnyLast P md ops Q S ds fuel ⟨br true r⟩ a' w)
  (hi : ops[i]? = some oi := by rfl) (hN : oi.dst = some n := by rfl) (hc : takeB md ops ds l ⟨br true r⟩ i = true := by first | exact take_ofW HT_.out HW_.out (by kernel_rfl) | kernel_rfl)
  (hQ : ∀ c a w, Q (.panic c) (a.put oi.dst v) w → Q (.panic c) a w := by exact fun _ _ _ h => h) (h1 : Region.wanted oi (yielded ops a.tmps) = true := by rfl) (hS : S w := by exact hHeld)
  (h2 : ∀ w, S w → (execOp a.eval oi).run P w = .ok (.value v) w := by (intro w' s_; repeat (obtain ⟨s1_, s_⟩ := s_); go_simp; with_reducible rfl))
  (ha : a.put (some n) v = a' := by (simp only [Act.put, List.setIfInBounds_toArray, List.set_cons_zero, List.set_cons_succ, i64_w, i32_w]; rfl)) : wpAnyLast P md ops Q S ds (fuel + 1) l a w :=
  take_ ⟨br true r⟩ hi hN hc hQ (Or.inl ⟨h1, h2⟩) hS ha h
theorem og (i n : Nat) (r : List Nat) {f : FuncId} {fn : Func} {xs : Array Operand} {ts : Array TypeId} (hf : P.funcs[f]? = some fn) (args : Array Value)
  (h : ∀ K : Act → World → Prop, Shut (∀ a' w', S w' → (S w' → wpAnyLast P md ops Q S ds fuel ⟨br true r⟩ a' w') → K a' w') → Calls P f args w fun e w' => ∃ v, e = .returned v ∧ K (a.put (some n) v) w')
  (hi : ops[i]? = some oi := by rfl) (hN : oi.dst = some n := by rfl) (hc : readyB md ops l ⟨br true r⟩ i = true := by first | exact one_of HT_.out (by kernel_rfl) | kernel_rfl) (hd : i ∉ ds := by decide)
  (hname : (fn.name == "runtime.NumGoroutine") = false := by kernel_rfl) (hb : fn.body.isSome = true := by rfl)
  (hw : Region.wanted oi (yielded ops a.tmps) = true := by rfl) (hop : oi.op = .call { callee := .value (.func f), args := xs, argTypes := ts } := by rfl)
  (hargs : xs.map a.eval = args := by (try simp only [List.map_toArray, List.map_cons, List.map_nil]); first | done | rfl | (simp only [List.length_drop, List.length_take]; rfl)) :
  wpAnyLast P md ops Q S ds (fuel + 1) l a w :=
  one_ ⟨br true r⟩ hi hN hc hd (fun K hK => goes_ hf hname hb args hw hN hop hargs (h K hK))
theorem nm (n : Nat) (h : wpAnyLast P md ops Q S ds fuel l a' w) (ha : a.put (some n) v = a' := by (simp only [Act.put, List.setIfInBounds_toArray, List.set_cons_zero, List.set_cons_succ, i64_w, i32_w]; rfl)) : wpAnyLast P md ops Q S ds fuel l (a.put (some n) v) w := norm_ ha h
theorem gw {rest : List Oper} (h : wpList P ops Q (oi :: rest) a w) : wpList P ops Q (oi :: rest) a w := h
theorem gl {rest : List Oper} (n : Nat) {f : FuncId} {fn : Func} {xs : Array Operand} {ts : Array TypeId} (hf : P.funcs[f]? = some fn) (args : Array Value)
  (h : Calls P f args w fun e w' => ∃ v, e = .returned v ∧ wpList P ops Q rest (a.put (some n) v) w')
  (hop : oi.op = .call { callee := .value (.func f), args := xs, argTypes := ts } := by with_reducible rfl) (hd : oi.dst = some n := by rfl) (hg : oi.guard = none := by rfl) (hname : (fn.name == "runtime.NumGoroutine") = false := by kernel_rfl) (hb : fn.body.isSome = true := by rfl)
  (hargs : xs.map a.eval = args := by (try simp only [List.map_toArray, List.map_cons, List.map_nil]); first | done | rfl | (simp only [List.length_drop, List.length_take]; rfl)) : wpList P ops Q (oi :: rest) a w :=
  goesL_ (some n) hd hg hf hname hb args hop hargs h
theorem bx {rest : List Oper} (N : Nat) (cs : Array Value) (t : TypeId) (h : ∀ g, g = w.heap.size → ∀ w1, w1.heap[g]? = some (.cells cs t (0, 0)) → Below w.heap.size w w1 → wpList P ops Q rest (a.put oi.dst (.pointer (some ⟨g, 0, none⟩))) w1)
  (hd : oi.dst = some N := by with_reducible rfl) (hg : oi.guard = none := by rfl)
  (hr : (execOp a.eval oi).run P w = .ok (.value (.pointer (some ⟨w.heap.size, 0, none⟩))) (w.alloc (.cells cs t (0, 0))) := by first | (go_simp; done) | (go_simp; rfl)) : wpList P ops Q (oi :: rest) a w :=
  box_event hg hd hr h
end
theorem ok1 {α β : Type} {o : Option α} {f : α → Option β} {b : β} {G : Prop} (k : ∀ a, Aside0 (o = some a) → f a = some b → G) (h : o.bind f = some b) : G := by
  obtain ⟨a, h1, h2⟩ := Option.bind_eq_some_iff.mp h; exact k a ⟨h1⟩ h2
theorem ok2 {α γ β : Type} {o : Option (α × γ)} {f : α × γ → Option β} {b : β} {G : Prop} (k : ∀ a c, Aside0 (o = some (a, c)) → f (a, c) = some b → G) (h : o.bind f = some b) : G := ok1 (fun ⟨a, c⟩ => k a c) h
theorem ok3 {α γ δ β : Type} {o : Option (α × γ × δ)} {f : α × γ × δ → Option β} {b : β} {G : Prop} (k : ∀ a c d, Aside0 (o = some (a, c, d)) → f (a, c, d) = some b → G) (h : o.bind f = some b) : G := ok1 (fun ⟨a, c, d⟩ => k a c d) h
theorem ok4 {α γ δ ε β : Type} {o : Option (α × γ × δ × ε)} {f : α × γ × δ × ε → Option β} {b : β} {G : Prop} (k : ∀ a c d e, Aside0 (o = some (a, c, d, e)) → f (a, c, d, e) = some b → G) (h : o.bind f = some b) : G := ok1 (fun ⟨a, c, d, e⟩ => k a c d e) h
theorem ok5 {α γ δ ε ζ β : Type} {o : Option (α × γ × δ × ε × ζ)} {f : α × γ × δ × ε × ζ → Option β} {b : β} {G : Prop} (k : ∀ a c d e g, Aside0 (o = some (a, c, d, e, g)) → f (a, c, d, e, g) = some b → G) (h : o.bind f = some b) : G := ok1 (fun ⟨a, c, d, e, g⟩ => k a c d e g) h
theorem ok6 {α γ δ ε ζ η β : Type} {o : Option (α × γ × δ × ε × ζ × η)} {f : α × γ × δ × ε × ζ × η → Option β} {b : β} {G : Prop} (k : ∀ a c d e g i, Aside0 (o = some (a, c, d, e, g, i)) → f (a, c, d, e, g, i) = some b → G) (h : o.bind f = some b) : G := ok1 (fun ⟨a, c, d, e, g, i⟩ => k a c d e g i) h
section
variable {W : World} {g t : Nat} {cs : Array Value} {x0 x1 x2 x3 x4 x5 x6 : Value}
theorem fz {g i : Nat} {t : TypeId} {cs : Array Value} (h : Aside0 (W.heap[g]? = some (.cells cs t (0, 0)))) : W.frozen? ⟨g, i, none⟩ = false := blk_frozen h.out i
theorem cl2 {t : TypeId} (h : Aside0 (W.heap[g]? = some (.cells #[x0, x1] t (0, 0)))) : W.cell? ⟨g, 0, none⟩ = some x0 ∧ W.frozen? ⟨g, 0, none⟩ = false ∧ W.cell? ⟨g, 1, none⟩ = some x1 ∧ W.frozen? ⟨g, 1, none⟩ = false := ⟨bc h, fz h, bc h, fz h⟩
theorem cl4 {t : TypeId} (h : Aside0 (W.heap[g]? = some (.cells #[x0, x1, x2, x3] t (0, 0)))) : W.cell? ⟨g, 0, none⟩ = some x0 ∧ W.frozen? ⟨g, 0, none⟩ = false ∧ W.cell? ⟨g, 1, none⟩ = some x1 ∧ W.frozen? ⟨g, 1, none⟩ = false ∧ W.cell? ⟨g, 2, none⟩ = some x2 ∧ W.frozen? ⟨g, 2, none⟩ = false ∧ W.cell? ⟨g, 3, none⟩ = some x3 ∧ W.frozen? ⟨g, 3, none⟩ = false := ⟨bc h, fz h, bc h, fz h, bc h, fz h, bc h, fz h⟩
end
theorem ifn {α : Type} {p : Prop} [Decidable p] {a : Option α} {r : α} {G : Prop} (k : p → a = some r → G) (h : (if p then a else none) = some r) : G := by
  by_cases c : p
  · rw [if_pos c] at h; exact k c h
  · rw [if_neg c] at h; cases h
theorem b3 {n m : Nat} {q : Prop} (h : q) (g : q → m ≤ n := by intro h_; simp only [ByteArray.size_append] at h_; first | exact h_ | (simp only [ByteArray.size_extract] at h_; rw [Nat.min_eq_left (by omega)] at h_; exact h_)) : (n < m) = False := eq_false (Nat.not_lt.2 (g h))
-- chains of stores, told by what stands at their end
theorem bpt {w : World} {g : Nat} {t : TypeId} {cs : Array Value} (h : w.heap[g]? = some (.cells cs t (0, 0))) (i : Nat) (u : Value) : (w.setCell ⟨g, i, none⟩ u).heap[g]? = some (.cells (cs.setIfInBounds i u) t (0, 0)) := blk_set h i u
theorem pty {w : World} {g : Nat} {t : TypeId} {cs cs1 : Array Value} (h : w.heap[g]? = some (.cells cs t (0, 0))) (e : cs = cs1) : w.heap[g]? = some (.cells cs1 t (0, 0)) := e ▸ h
theorem pt0 {w0 w1 : World} {g  : Nat} {t : TypeId} {cs cs1 : Array Value} (h : Aside0 (w0.heap[g]? = some (.cells cs t (0, 0))))  (st : w0.heap[g]? = some (.cells cs t (0, 0)) → w1.heap[g]? = some (.cells cs1 t (0, 0)) := by intro  h_; apply pty; (repeat (with_reducible first | exact h_ | refine blk_drewN ?_ _ | refine blk_drew ?_ | refine blk_alloc ?_ _ | apply bpt)); all_goals first | exact h_ | rfl) : w1.heap[g]? = some (.cells cs1 t (0, 0)) := st  h.out
theorem pt1 {w0 w1 : World} {g g1 : Nat} {t : TypeId} {cs cs1 : Array Value} (h : Aside0 (w0.heap[g]? = some (.cells cs t (0, 0)))) (n1 : Aside0 (g ≠ g1)) (st : g ≠ g1 → w0.heap[g]? = some (.cells cs t (0, 0)) → w1.heap[g]? = some (.cells cs1 t (0, 0)) := by intro n1_ h_; apply pty; (repeat (with_reducible first | exact h_ | refine blk_drewN ?_ _ | refine blk_drew ?_ | refine blk_alloc ?_ _ | apply bpt | apply blk_far (hp := n1_))); all_goals first | exact h_ | rfl) : w1.heap[g]? = some (.cells cs1 t (0, 0)) := st n1.out h.out
theorem pt2 {w0 w1 : World} {g g1 g2 : Nat} {t : TypeId} {cs cs1 : Array Value} (h : Aside0 (w0.heap[g]? = some (.cells cs t (0, 0)))) (n1 : Aside0 (g ≠ g1)) (n2 : Aside0 (g ≠ g2)) (st : g ≠ g1 → g ≠ g2 → w0.heap[g]? = some (.cells cs t (0, 0)) → w1.heap[g]? = some (.cells cs1 t (0, 0)) := by intro n1_ n2_ h_; apply pty; (repeat (with_reducible first | exact h_ | refine blk_drewN ?_ _ | refine blk_drew ?_ | refine blk_alloc ?_ _ | apply bpt | apply blk_far (hp := n1_) | apply blk_far (hp := n2_))); all_goals first | exact h_ | rfl) : w1.heap[g]? = some (.cells cs1 t (0, 0)) := st n1.out n2.out h.out
theorem rj {α : Type} {d : Kd α} {e : Nat} {w0 w1 : World} {base : Nat} {ok0 ok : Nat → Prop} {v : Value} {xs : List α} (h : d.R e w0 base ok0 v xs) (m : ∀ k, ok0 k → ok k) (st : d.R e w0 base ok0 v xs → d.R e w1 base ok0 v xs := by intro h_; (with_reducible repeat (first | apply Kd.R_alloc | apply Kd.R_drewN | apply Kd.R_drew)); (repeat (with_reducible first | exact h_ | apply Kd.R_far | refine Kd.R_alloc ?_ _ | refine Kd.R_drewN ?_ _ | refine Kd.R_drew ?_)); all_goals first | exact h_ | exact fun _ hk => hk.2 | exact fun _ hk => hk.1.2 | exact fun _ hk => hk.1.1.2 | exact fun _ hk => hk.1.1.1.2 | exact fun _ hk => hk.1.1.1.1.2 | exact fun _ hk => hk.1.1.1.1.1.2) : d.R e w1 base ok v xs := Kd.R_mono (st h) m
theorem kp {w0 w1 w2 : World} {g g' : Nat} {row : Option Nat} {o : Obj} (h : Aside0 (w0.heap[g']? = some o)) (hk : KeepBut w1 w2 g row) (n : Aside0 (g' ≠ g)) (hr : some g' ≠ row := by simp) (st : w0.heap[g']? = some o → w1.heap[g']? = some o := by intro h_; (with_reducible repeat (first | refine blk_drewN ?_ _ | refine blk_drew ?_ | refine blk_alloc ?_ _)); exact h_) : Aside0 (w2.heap[g']? = some o) := Aside0.mk (KeepBut.blk hk (st h.out) n.out hr)
theorem rp {p : Prop} (h : p := by repeat (first | exact Reps.none _ _ | refine Reps.one rfl ?_)) : p := h
-- a field of a struct that a call has answered (impl.Cc)
-- shared words of this session's own contracts
theorem ret_int {k : IntKind} {a b : Int} (h : a = b) : Ending.returned (.int k a) = .returned (.int k b) := by rw [h]
def GLOBT (w : World) : Prop := Lib.TabIs Tryz.prog w "internal/strconv.uint64pow10" .u64 Lib.pow10Tab
theorem GLOBT.below {w w' : World} (h : GLOBT w) (hb : Below w.heap.size w w') : GLOBT w' := by
  have hg : Tryz.prog.globalNamed "internal/strconv.uint64pow10" = some 1 := by kernel_rfl
  have hc := World.var?_cell hg h 0
  exact var?_below hb hg (World.block_lt_of_cell? w _ (hc.trans rfl)) h
theorem GLOBT.of {rest : List (String × DataW Unit)} {w : World} (h : laidMet Tryz.prog (("internal/strconv.uint64pow10", Lib.tabData .u64 Lib.pow10Tab) :: rest) w) : GLOBT w :=
  Lib.tabIs_of_head (g := 1) (t := 153) (e := 132) (n := 20) (by kernel_rfl) (by kernel_rfl) Tryz.underlying153 Tryz.underlying132 (by kernel_rfl) (by kernel_rfl) h
def GLOBM (w : World) : Prop := ∃ m, w.cell? ⟨0, 0, none⟩ = some (.int .i64 m)
theorem GLOBM.below {w w' : World} (h : GLOBM w) (hb : Below w.heap.size w w') : GLOBM w' := let ⟨m, e⟩ := h; ⟨m, pw_cell_below hb e⟩
theorem GLOBM.of {w : World} (h : w.ShapedOpen Tryz.prog) : GLOBM w := Tryz.laysM143.s1_3 w h
def GLOBE (w : World) : Prop := (∃ tp p, w.var? Tryz.prog "strconv.ErrSyntax" = some #[.iface tp p]) ∧ ∃ tp p, w.var? Tryz.prog "strconv.ErrRange" = some #[.iface tp p]
theorem GLOBE.one {n : String} {g : Nat} {w w' : World} (hg : Tryz.prog.globalNamed n = some g) (hb : Below w.heap.size w w') (h : ∃ tp p, w.var? Tryz.prog n = some #[.iface tp p]) : ∃ tp p, w'.var? Tryz.prog n = some #[.iface tp p] := by
  obtain ⟨tp, p, e⟩ := h
  have hc := World.var?_cell hg e 0
  exact ⟨tp, p, var?_below hb hg (World.block_lt_of_cell? w _ (hc.trans rfl)) e⟩
theorem GLOBE.below {w w' : World} (h : GLOBE w) (hb : Below w.heap.size w w') : GLOBE w' :=
  ⟨GLOBE.one (g := 2) (by kernel_rfl) hb h.1, GLOBE.one (g := 3) (by kernel_rfl) hb h.2⟩
theorem GLOBE.head {n nm : String} {d : DataW Unit} {rest : List (String × DataW Unit)} {w : World} {g : Nat} {ti : TypeId} {ms : Array (String × TypeId)} (h : laidMet Tryz.prog ((n, .iface nm d) :: rest) w)
    (hg : Tryz.prog.globalNamed n = some g) (ht : (Tryz.prog.globals[g]?).map (·.type) = some ti) (hi : Tryz.prog.underlying ti = some (.interface ms)) : ∃ tp p, w.var? Tryz.prog n = some #[.iface tp p] := by
  obtain ⟨ps, ⟨g0, t0, cs0, f0, p0, q0, hg0, ht0, hv0, hd0, _, e0⟩, _⟩ := h
  obtain rfl := Option.some.inj (hg.symm.trans hg0)
  obtain rfl := Option.some.inj (ht.symm.trans ht0)
  obtain ⟨l0⟩ := cs0
  obtain ⟨f1, u, v, e, _⟩ := iface_of_trod hi hd0
  obtain rfl : l0 = [.iface u v] := e
  exact ⟨u, v, hv0⟩
theorem GLOBE.of {r1 r2 : List (String × DataW Unit)} {n1 n2 : String} {d1 d2 : DataW Unit} {w : World} (h1 : laidMet Tryz.prog (("strconv.ErrSyntax", .iface n1 d1) :: r1) w) (h2 : laidMet Tryz.prog (("strconv.ErrRange", .iface n2 d2) :: r2) w) : GLOBE w :=
  ⟨GLOBE.head (g := 2) (ti := 100) h1 (by kernel_rfl) (by kernel_rfl) Tryz.underlying100, GLOBE.head (g := 3) (ti := 100) h2 (by kernel_rfl) (by kernel_rfl) Tryz.underlying100⟩
def GLOBD (w : World) : Prop := w.cell? ⟨7, 15, none⟩ = some (.int .u8 4)
theorem GLOBD.below {w w' : World} (h : GLOBD w) (hb : Below w.heap.size w w') : GLOBD w' := pw_cell_below hb h
theorem GLOBD.of {rest : List (String × DataW Unit)} {w : World} (h : laidMet Tryz.prog (("math/bits.deBruijn64tab", Lib.tabData .u8 (Lib.deBruijn64tab.map fun (n : Nat) => (n : Int))) :: rest) w) : GLOBD w := by
  have h1 : Lib.TabIs Tryz.prog w "math/bits.deBruijn64tab" .u8 (Lib.deBruijn64tab.map fun (n : Nat) => (n : Int)) := Lib.tabIs_of_head (g := 7) (t := 175) (e := 5) (n := 64) (by kernel_rfl) (by kernel_rfl) Tryz.underlying175 Tryz.underlying5 (by kernel_rfl) (by kernel_rfl) h
  have hg : Tryz.prog.globalNamed "math/bits.deBruijn64tab" = some 7 := by kernel_rfl
  have := World.var?_cell hg h1 15
  exact this.trans rfl

end Go.Proofs.YtjckfmipegemcaaGreatDoor.All
