import Derived.Test.YtjlpjbkpmmpojaaGreatDoorKO1
import Derived.Lib.SliceRun
import Derived.Laws.IdiomStrings
import Derived.Lib.Builder
import Derived.Lib.Strings
import Derived.Laws.Externs
import Derived.Deep.RegionLaw
import Derived.WalkSmall
import Derived.Lib.LaidTab
import Derived.Stop.LaidErr
import Derived.FnData
import Derived.Lib.AppendIntMem
import Derived.ChangeKeysEq
import Derived.Laws.Bits64b
import Derived.Lib.TrailingZeros
namespace Go.Proofs.YtjlpjbkpmmpojaaGreatDoor.All
open Go.RowKit Go.Proofs.YtjlpjbkpmmpojaaGreatDoorW.PrintWords Go.Proofs.YtjlpjbkpmmpojaaGreatDoorW.PrintLast Go.Proofs.YtjlpjbkpmmpojaaGreatDoorW.PrintMore
attribute [local go_sem] min2_int min_two
set_option linter.unusedVariables false
set_option linter.unusedSimpArgs false
theorem info5 : (Tryz.prog.info? 5).map (fun i => (i.zero, i.size, i.bytes)) = some (some (.int .u8 0), 1, 1) := by kernel_rfl
theorem info9 : (Tryz.prog.info? 9).map (fun i => (i.zero, i.size, i.bytes)) = some (some (.string ⟨#[]⟩), 1, 16) := by kernel_rfl
theorem info116 : (Tryz.prog.info? 116).map (fun i => (i.zero, i.size, i.bytes)) = some (some (.agg #[(.string ⟨#[]⟩), (.string ⟨#[]⟩)]), 2, 32) := by kernel_rfl
structure S116 where
  f0 : ByteArray
  f1 : ByteArray
def z116 : S116 := ⟨(⟨#[]⟩ : ByteArray), (⟨#[]⟩ : ByteArray)⟩
def k116 : Kd S116 := Kd.iso (Kd.pair Kd.string Kd.string) (fun x : S116 => (x.f0, x.f1))
theorem k116_open {w : World} {x : S116} {cs : List Value} (h : k116.K w x cs) : cs = [.string x.f0, .string x.f1] := by
  obtain ⟨_, _, rfl, rfl, rfl⟩ := h
  exact rfl
theorem k116_openM {w : World} {base : Nat} {ok : Nat → Prop} {x : S116} {cs : List Value} (h : k116.M w base ok x cs) : cs = [.string x.f0, .string x.f1] := by
  obtain ⟨_, _, rfl, rfl, rfl⟩ := h
  exact rfl
theorem k116_mkM (w : World) (base : Nat) (ok : Nat → Prop) (x : S116)  : k116.M w base ok x [.string x.f0, .string x.f1] := ⟨[.string x.f0], [.string x.f1], rfl, rfl, rfl⟩
def rd_T116 (xs : List S116) (i : Int) : S116 := xs.getD i.toNat z116
theorem at_T116 {w : World} {A : Option Addr} {n : Nat} {xs : List S116} (h : Kd.C k116 w A n xs) (i : Int) (h0 : 0 ≤ i) (h1 : i < n) : ∃ ad , A = some ad ∧ w.cell? (ad.add (i.toNat * 2)) = some (.string (rd_T116 xs i).f0) ∧ w.cell? ⟨(ad.add (i.toNat * 2)).block, (ad.add (i.toNat * 2)).off + 1, none⟩ = some (.string (rd_T116 xs i).f1) := by
  obtain ⟨ad, c, e, _, hK, hc0⟩ := Kd.C_get h z116 i h0 h1
  have hc : ∀ j u, c[j]? = some u → w.cell? (ad.add (i.toNat * 2 + j)) = some u := hc0
  obtain rfl := k116_open hK
  exact ⟨ad, e, hc 0 _ rfl, by rw [← add_field _ _ 1 (by omega)]; exact hc 1 _ rfl⟩
theorem bl {p : Prop} (h : p := by repeat (first | (with_reducible first | exact HB.out | apply below_alloc | apply pw_below_drewN | apply below_drew1 | refine below_set ?_ (Aside0.out (by assumption))) | exact HB.out)) : p := h
theorem ro {p q : Prop} (h : Aside0 q) (g : q → p := by intro h_; (with_reducible repeat (first | apply Kd.R_alloc | apply Kd.R_drewN | apply Kd.R_drew)); exact h_) : p := g h.out
theorem bk {p q : Prop} (h : Aside0 q) (g : q → p := by intro h_; (with_reducible repeat (first | refine blk_drewN ?_ _ | refine blk_drew ?_ | refine blk_alloc ?_ _)); exact h_) : p := g h.out
theorem ma {p : Prop} (h : p := by (try simp only [List.map_toArray, List.map_cons, List.map_nil]); first | done | rfl | (simp only [List.length_drop, List.length_take]; rfl)) : p := h
theorem rf {p : Prop} (h : p := by first | rfl | (simp [errW_none, errW_some] <;> rfl) | (simp [*, errW_none, errW_some] <;> rfl)) : p := h
theorem kr {α : Type} {d : Kd α} {e : Nat} {w0 w1 w2 : World} {base : Nat} {ok : Nat → Prop} {v : Value} {xs : List α} (h : Aside0 (d.R e w0 base ok v xs)) (hb : Below w1.heap.size w1 w2) (st : d.R e w0 base ok v xs → d.R e w1 base ok v xs := by intro h_; (with_reducible repeat (first | apply Kd.R_alloc | apply Kd.R_drewN | apply Kd.R_drew)); exact h_) : Aside0 (d.R e w2 base ok v xs) := Aside0.mk (Kd.R_below (st h.out) hb)
theorem kb {w0 w1 w2 : World} {g : Nat} {o : Obj} (h : Aside0 (w0.heap[g]? = some o)) (hb : Below w1.heap.size w1 w2) (st : w0.heap[g]? = some o → w1.heap[g]? = some o := by intro h_; (with_reducible repeat (first | refine blk_drewN ?_ _ | refine blk_drew ?_ | refine blk_alloc ?_ _)); exact h_) : Aside0 (w2.heap[g]? = some o) := Aside0.mk (blk_below (st h.out) hb)
theorem bg1 {w0 w1 : World} {g g1 : Nat} {t : TypeId} {cs : Array Value} (h : Aside0 (w0.heap[g]? = some (.cells cs t (0, 0)))) (n1 : Aside0 (g ≠ g1)) (st : g ≠ g1 → w0.heap[g]? = some (.cells cs t (0, 0)) → w1.heap[g]? = some (.cells cs t (0, 0)) := by intro n1_ h_; (repeat (with_reducible first | exact h_ | refine blk_drewN ?_ _ | refine blk_drew ?_ | refine blk_alloc ?_ _ | refine blk_far ?_ n1_ _)); first | done | exact h_) : w1.heap[g]? = some (.cells cs t (0, 0)) := st n1.out h.out
theorem kg1 {w0 w1 w2 : World} {g g1 : Nat} {t : TypeId} {cs : Array Value} (h : Aside0 (w0.heap[g]? = some (.cells cs t (0, 0)))) (n1 : Aside0 (g ≠ g1)) (hb : Below w1.heap.size w1 w2) (st : g ≠ g1 → w0.heap[g]? = some (.cells cs t (0, 0)) → w1.heap[g]? = some (.cells cs t (0, 0)) := by intro n1_ h_; (repeat (with_reducible first | exact h_ | refine blk_drewN ?_ _ | refine blk_drew ?_ | refine blk_alloc ?_ _ | refine blk_far ?_ n1_ _)); first | done | exact h_) : Aside0 (w2.heap[g]? = some (.cells cs t (0, 0))) := Aside0.mk (blk_below (st n1.out h.out) hb)
theorem kg2 {w0 w1 w2 : World} {g g1 g2 : Nat} {t : TypeId} {cs : Array Value} (h : Aside0 (w0.heap[g]? = some (.cells cs t (0, 0)))) (n1 : Aside0 (g ≠ g1)) (n2 : Aside0 (g ≠ g2)) (hb : Below w1.heap.size w1 w2) (st : g ≠ g1 → g ≠ g2 → w0.heap[g]? = some (.cells cs t (0, 0)) → w1.heap[g]? = some (.cells cs t (0, 0)) := by intro n1_ n2_ h_; (repeat (with_reducible first | exact h_ | refine blk_drewN ?_ _ | refine blk_drew ?_ | refine blk_alloc ?_ _ | refine blk_far ?_ n1_ _ | refine blk_far ?_ n2_ _)); first | done | exact h_) : Aside0 (w2.heap[g]? = some (.cells cs t (0, 0))) := Aside0.mk (blk_below (st n1.out n2.out h.out) hb)
theorem od {p : Prop} [Decidable p] (h : decide p = true := by first | (with_reducible assumption) | assumption) : p := of_decide_eq_true h
theorem am {p : Prop} (h : p) : Aside0 p := ⟨h⟩
theorem nl {g g' : Nat} {W0 W : World} {o : Obj} (hg : g' = W.heap.size) (h : Aside0 (W0.heap[g]? = some o)) (st : W0.heap[g]? = some o → W.heap[g]? = some o := by intro h_; (with_reducible repeat (first | refine blk_drewN ?_ _ | refine blk_drew ?_ | refine blk_alloc ?_ _)); exact h_) : g ≠ g' := by rw [hg]; exact Nat.ne_of_lt (blk_lt (st h.out))
theorem ng {g g' : Nat} {W0 W : World} {o : Obj} (hg : g' = W.heap.size) (h : Aside0 (W0.heap[g]? = some o)) (st : W0.heap[g]? = some o → W.heap[g]? = some o := by intro h_; (with_reducible repeat (first | refine blk_drewN ?_ _ | refine blk_drew ?_ | refine blk_alloc ?_ _)); exact h_) : g' ≠ g := (nl hg h st).symm
theorem sz {w W : World} {g : Nat} (hg : g = W.heap.size) (h : Below w.heap.size w W := by repeat (first | (with_reducible first | exact HB.out | apply below_alloc | apply pw_below_drewN | apply below_drew1 | refine below_set ?_ (Aside0.out (by assumption))) | exact HB.out)) : w.heap.size ≤ g := by rw [hg]; exact below_size h
theorem cb {p q : Prop} (h : Aside0 q) (g : q → p := by intro h_; repeat (first | exact (Kd.C_below h_ HB.out) | (with_reducible refine Kd.C_alloc ?_ _) | (with_reducible refine Kd.C_drewN ?_ _) | (with_reducible refine Kd.C_drew ?_))) : p := g h.out
theorem rc {p q : Prop} (h : Aside0 q) (g : q → p := by intro h_; repeat (first | exact (Kd.R_reads' h_).2.2 | (with_reducible refine Kd.C_alloc ?_ _) | (with_reducible refine Kd.C_drewN ?_ _) | (with_reducible refine Kd.C_drew ?_))) : p := g h.out
theorem cc {p q : Prop} (h : Aside0 q) (g : q → p := by intro h_; repeat (first | exact h_ | (with_reducible refine Kd.C_alloc ?_ _) | (with_reducible refine Kd.C_drewN ?_ _) | (with_reducible refine Kd.C_drew ?_))) : p := g h.out
theorem bc {W : World} {g : Nat} {t : TypeId} {cs : Array Value} {i : Nat} {v : Value} (h : Aside0 (W.heap[g]? = some (.cells cs t (0, 0)))) (e : cs[i]? = some v := by rfl) : W.cell? ⟨g, i, none⟩ = some v := (blk_cell h.out i).trans e
theorem rs {p : Prop} (h : p := by first | rfl | (simp; done) | (simp [*]; done)) : p := h
theorem dr {p : Prop} (h : p := by repeat (first | exact Drawn0.refl _ | apply Drawn0.step)) : p := h
theorem hcw {w W : World} {p : Addr} {v : Value} (h : w.cell? p = some v) (hB : Below w.heap.size w W := by exact HB.out) : W.cell? p = some v := (hB.cell (World.block_lt_of_cell? w _ h)).trans h
theorem ob {α β : Type} {o : Option α} {f : α → Option β} {b : β} (h : o.bind f = some b) : ∃ a, o = some a ∧ f a = some b := Option.bind_eq_some_iff.mp h
section
open Go.Proofs.YtjlpjbkpmmpojaaGreatDoorW.PrintLast
def br : Bool → List Nat → List Bool
 | _, [] => []
 | b, n :: r => List.replicate n b ++ br (!b) r
variable {P : Program} {ops : Array Oper} {Q : Exit → Act → World → Prop} {md : Region.Mode} {S : World → Prop} {ds : List Nat} {fuel : Nat} {l : Array Bool} {a a' : Act} {w : World} {oi : Oper} {v : Value}
theorem pu (i n : Nat) (r : List Nat) (h : wpAnyLast P md ops Q S ds fuel ⟨br true r⟩ a' w)
  (hi : ops[i]? = some oi := by rfl) (hN : oi.dst = some n := by rfl) (hc : anyB md ops l ⟨br true r⟩ i = true := by first | exact any_of HT_.out (by kernel_rfl) | kernel_rfl)
  (hQ : ∀ c a w, Q (.panic c) (a.put oi.dst v) w → Q (.panic c) a w := by exact fun _ _ _ h => h) (h1 : Region.wanted oi (yielded ops a.tmps) = true := by rfl) (h2 : ∀ w, (execOp a.eval oi).run P w = .ok (.value v) w := by (intro w'; go_simp; with_reducible rfl))
  (ha : a.put (some n) v = a' := by (simp only [Act.put, List.setIfInBounds_toArray, List.set_cons_zero, List.set_cons_succ, i64_w, i32_w]; rfl)) : wpAnyLast P md ops Q S ds (fuel + 1) l a w :=
  pure_ ⟨br true r⟩ hi hN hc hQ (Or.inl ⟨h1, h2⟩) ha h
theorem pd (i n : Nat) (r : List Nat) (h : wpAnyLast P md ops Q S ds fuel ⟨br true r⟩ a' w)
  (hi : ops[i]? = some oi := by rfl) (hN : oi.dst = some n := by rfl) (hc : anyB md ops l ⟨br true r⟩ i = true := by first | exact any_of HT_.out (by kernel_rfl) | kernel_rfl)
  (hQ : ∀ c a w, Q (.panic c) (a.put oi.dst undef) w → Q (.panic c) a w := by exact fun _ _ _ h => h) (h1 : Region.wanted oi (yielded ops a.tmps) = false := by rfl)
  (ha : a.put (some n) undef = a' := by (simp only [Act.put, List.setIfInBounds_toArray, List.set_cons_zero, List.set_cons_succ, i64_w, i32_w]; rfl)) : wpAnyLast P md ops Q S ds (fuel + 1) l a w :=
  pure_ ⟨br true r⟩ hi hN hc hQ (Or.inr ⟨h1, rfl⟩) ha h
theorem tk (i n : Nat) (r : List Nat) (h : wpAnyLast P md ops Q S ds fuel ⟨br true r⟩ a' w)
  (hi : ops[i]? = some oi := by rfl) (hN : oi.dst = some n := by rfl) (hc : takeB md ops ds l ⟨br true r⟩ i = true := by first | exact take_ofW HT_.out HW_.out (by kernel_rfl) | kernel_rfl)
  (hQ : ∀ c a w, Q (.panic c) (a.put oi.dst v) w → Q (.panic c) a w := by exact fun _ _ _ h => h) (h1 : Region.wanted oi (yielded ops a.tmps) = true := by rfl) (hS : S w := by exact hHeld)
  (h2 : ∀ w, S w → (execOp a.eval oi).run P w = .ok (.value v) w := by (intro w' s_; repeat (obtain ⟨s1_, s_⟩ := s_); go_simp; with_reducible rfl))
  (ha : a.put (some n) v = a' := by (simp only [Act.put, List.setIfInBounds_toArray, List.set_cons_zero, List.set_cons_succ, i64_w, i32_w]; rfl)) : wpAnyLast P md ops Q S ds (fuel + 1) l a w :=
  take_ ⟨br true r⟩ hi hN hc hQ (Or.inl ⟨h1, h2⟩) hS ha h
theorem og (i n : Nat) (r : List Nat) {f : FuncId} {fn : Func} {xs : Array Operand} {ts : Array TypeId} (hf : P.funcs[f]? = some fn) (args : Array Value)
  (h : ∀ K : Act → World → Prop, Shut (∀ a' w', S w' → (S w' → wpAnyLast P md ops Q S ds fuel ⟨br true r⟩ a' w') → K a' w') → Calls P f args w fun e w' => ∃ v, e = .returned v ∧ K (a.put (some n) v) w')
  (hi : ops[i]? = some oi := by rfl) (hN : oi.dst = some n := by rfl) (hc : readyB md ops l ⟨br true r⟩ i = true := by first | exact one_of HT_.out (by kernel_rfl) | kernel_rfl) (hd : i ∉ ds := by decide)
  (hname : (fn.name == "runtime.NumGoroutine") = false := by kernel_rfl) (hb : fn.body.isSome = true := by rfl)
  (hw : Region.wanted oi (yielded ops a.tmps) = true := by rfl) (hop : oi.op = .call { callee := .value (.func f), args := xs, argTypes := ts } := by rfl)
  (hargs : xs.map a.eval = args := by (try simp only [List.map_toArray, List.map_cons, List.map_nil]); first | done | rfl | (simp only [List.length_drop, List.length_take]; rfl)) :
  wpAnyLast P md ops Q S ds (fuel + 1) l a w :=
  one_ ⟨br true r⟩ hi hN hc hd (fun K hK => goes_ hf hname hb args hw hN hop hargs (h K hK))
theorem nm (n : Nat) (h : wpAnyLast P md ops Q S ds fuel l a' w) (ha : a.put (some n) v = a' := by (simp only [Act.put, List.setIfInBounds_toArray, List.set_cons_zero, List.set_cons_succ, i64_w, i32_w]; rfl)) : wpAnyLast P md ops Q S ds fuel l (a.put (some n) v) w := norm_ ha h
theorem gw {rest : List Oper} (h : wpList P ops Q (oi :: rest) a w) : wpList P ops Q (oi :: rest) a w := h
theorem gl {rest : List Oper} (n : Nat) {f : FuncId} {fn : Func} {xs : Array Operand} {ts : Array TypeId} (hf : P.funcs[f]? = some fn) (args : Array Value)
  (h : Calls P f args w fun e w' => ∃ v, e = .returned v ∧ wpList P ops Q rest (a.put (some n) v) w')
  (hop : oi.op = .call { callee := .value (.func f), args := xs, argTypes := ts } := by with_reducible rfl) (hd : oi.dst = some n := by rfl) (hg : oi.guard = none := by rfl) (hname : (fn.name == "runtime.NumGoroutine") = false := by kernel_rfl) (hb : fn.body.isSome = true := by rfl)
  (hargs : xs.map a.eval = args := by (try simp only [List.map_toArray, List.map_cons, List.map_nil]); first | done | rfl | (simp only [List.length_drop, List.length_take]; rfl)) : wpList P ops Q (oi :: rest) a w :=
  goesL_ (some n) hd hg hf hname hb args hop hargs h
theorem bx {rest : List Oper} (N : Nat) (cs : Array Value) (t : TypeId) (h : ∀ g, g = w.heap.size → ∀ w1, w1.heap[g]? = some (.cells cs t (0, 0)) → Below w.heap.size w w1 → wpList P ops Q rest (a.put oi.dst (.pointer (some ⟨g, 0, none⟩))) w1)
  (hd : oi.dst = some N := by with_reducible rfl) (hg : oi.guard = none := by rfl)
  (hr : (execOp a.eval oi).run P w = .ok (.value (.pointer (some ⟨w.heap.size, 0, none⟩))) (w.alloc (.cells cs t (0, 0))) := by first | (go_simp; done) | (go_simp; rfl)) : wpList P ops Q (oi :: rest) a w :=
  box_event hg hd hr h
end
theorem ok1 {α β : Type} {o : Option α} {f : α → Option β} {b : β} {G : Prop} (k : ∀ a, Aside0 (o = some a) → f a = some b → G) (h : o.bind f = some b) : G := by
  obtain ⟨a, h1, h2⟩ := Option.bind_eq_some_iff.mp h; exact k a ⟨h1⟩ h2
theorem ok2 {α γ β : Type} {o : Option (α × γ)} {f : α × γ → Option β} {b : β} {G : Prop} (k : ∀ a c, Aside0 (o = some (a, c)) → f (a, c) = some b → G) (h : o.bind f = some b) : G := ok1 (fun ⟨a, c⟩ => k a c) h
theorem ok3 {α γ δ β : Type} {o : Option (α × γ × δ)} {f : α × γ × δ → Option β} {b : β} {G : Prop} (k : ∀ a c d, Aside0 (o = some (a, c, d)) → f (a, c, d) = some b → G) (h : o.bind f = some b) : G := ok1 (fun ⟨a, c, d⟩ => k a c d) h
theorem ok4 {α γ δ ε β : Type} {o : Option (α × γ × δ × ε)} {f : α × γ × δ × ε → Option β} {b : β} {G : Prop} (k : ∀ a c d e, Aside0 (o = some (a, c, d, e)) → f (a, c, d, e) = some b → G) (h : o.bind f = some b) : G := ok1 (fun ⟨a, c, d, e⟩ => k a c d e) h
theorem ok5 {α γ δ ε ζ β : Type} {o : Option (α × γ × δ × ε × ζ)} {f : α × γ × δ × ε × ζ → Option β} {b : β} {G : Prop} (k : ∀ a c d e g, Aside0 (o = some (a, c, d, e, g)) → f (a, c, d, e, g) = some b → G) (h : o.bind f = some b) : G := ok1 (fun ⟨a, c, d, e, g⟩ => k a c d e g) h
theorem ok6 {α γ δ ε ζ η β : Type} {o : Option (α × γ × δ × ε × ζ × η)} {f : α × γ × δ × ε × ζ × η → Option β} {b : β} {G : Prop} (k : ∀ a c d e g i, Aside0 (o = some (a, c, d, e, g, i)) → f (a, c, d, e, g, i) = some b → G) (h : o.bind f = some b) : G := ok1 (fun ⟨a, c, d, e, g, i⟩ => k a c d e g i) h
theorem ok7 {α γ δ ε ζ η θ β : Type} {o : Option (α × γ × δ × ε × ζ × η × θ)} {f : α × γ × δ × ε × ζ × η × θ → Option β} {b : β} {G : Prop} (k : ∀ a c d e g i j, Aside0 (o = some (a, c, d, e, g, i, j)) → f (a, c, d, e, g, i, j) = some b → G) (h : o.bind f = some b) : G := ok1 (fun ⟨a, c, d, e, g, i, j⟩ => k a c d e g i j) h
theorem ok8 {α γ δ ε ζ η θ κ β : Type} {o : Option (α × γ × δ × ε × ζ × η × θ × κ)} {f : α × γ × δ × ε × ζ × η × θ × κ → Option β} {b : β} {G : Prop} (k : ∀ a c d e g i j m, Aside0 (o = some (a, c, d, e, g, i, j, m)) → f (a, c, d, e, g, i, j, m) = some b → G) (h : o.bind f = some b) : G := ok1 (fun ⟨a, c, d, e, g, i, j, m⟩ => k a c d e g i j m) h
section
variable {W : World} {g t : Nat} {cs : Array Value} {x0 x1 x2 x3 x4 x5 x6 : Value}
theorem fz {g i : Nat} {t : TypeId} {cs : Array Value} (h : Aside0 (W.heap[g]? = some (.cells cs t (0, 0)))) : W.frozen? ⟨g, i, none⟩ = false := blk_frozen h.out i
theorem cl2 {t : TypeId} (h : Aside0 (W.heap[g]? = some (.cells #[x0, x1] t (0, 0)))) : W.cell? ⟨g, 0, none⟩ = some x0 ∧ W.frozen? ⟨g, 0, none⟩ = false ∧ W.cell? ⟨g, 1, none⟩ = some x1 ∧ W.frozen? ⟨g, 1, none⟩ = false := ⟨bc h, fz h, bc h, fz h⟩
theorem cl3 {t : TypeId} (h : Aside0 (W.heap[g]? = some (.cells #[x0, x1, x2] t (0, 0)))) : W.cell? ⟨g, 0, none⟩ = some x0 ∧ W.frozen? ⟨g, 0, none⟩ = false ∧ W.cell? ⟨g, 1, none⟩ = some x1 ∧ W.frozen? ⟨g, 1, none⟩ = false ∧ W.cell? ⟨g, 2, none⟩ = some x2 ∧ W.frozen? ⟨g, 2, none⟩ = false := ⟨bc h, fz h, bc h, fz h, bc h, fz h⟩
theorem cl4 {t : TypeId} (h : Aside0 (W.heap[g]? = some (.cells #[x0, x1, x2, x3] t (0, 0)))) : W.cell? ⟨g, 0, none⟩ = some x0 ∧ W.frozen? ⟨g, 0, none⟩ = false ∧ W.cell? ⟨g, 1, none⟩ = some x1 ∧ W.frozen? ⟨g, 1, none⟩ = false ∧ W.cell? ⟨g, 2, none⟩ = some x2 ∧ W.frozen? ⟨g, 2, none⟩ = false ∧ W.cell? ⟨g, 3, none⟩ = some x3 ∧ W.frozen? ⟨g, 3, none⟩ = false := ⟨bc h, fz h, bc h, fz h, bc h, fz h, bc h, fz h⟩
theorem cl6 {t : TypeId} (h : Aside0 (W.heap[g]? = some (.cells #[x0, x1, x2, x3, x4, x5] t (0, 0)))) : W.cell? ⟨g, 0, none⟩ = some x0 ∧ W.frozen? ⟨g, 0, none⟩ = false ∧ W.cell? ⟨g, 1, none⟩ = some x1 ∧ W.frozen? ⟨g, 1, none⟩ = false ∧ W.cell? ⟨g, 2, none⟩ = some x2 ∧ W.frozen? ⟨g, 2, none⟩ = false ∧ W.cell? ⟨g, 3, none⟩ = some x3 ∧ W.frozen? ⟨g, 3, none⟩ = false ∧ W.cell? ⟨g, 4, none⟩ = some x4 ∧ W.frozen? ⟨g, 4, none⟩ = false ∧ W.cell? ⟨g, 5, none⟩ = some x5 ∧ W.frozen? ⟨g, 5, none⟩ = false := ⟨bc h, fz h, bc h, fz h, bc h, fz h, bc h, fz h, bc h, fz h, bc h, fz h⟩
theorem cl7 {t : TypeId} (h : Aside0 (W.heap[g]? = some (.cells #[x0, x1, x2, x3, x4, x5, x6] t (0, 0)))) : W.cell? ⟨g, 0, none⟩ = some x0 ∧ W.frozen? ⟨g, 0, none⟩ = false ∧ W.cell? ⟨g, 1, none⟩ = some x1 ∧ W.frozen? ⟨g, 1, none⟩ = false ∧ W.cell? ⟨g, 2, none⟩ = some x2 ∧ W.frozen? ⟨g, 2, none⟩ = false ∧ W.cell? ⟨g, 3, none⟩ = some x3 ∧ W.frozen? ⟨g, 3, none⟩ = false ∧ W.cell? ⟨g, 4, none⟩ = some x4 ∧ W.frozen? ⟨g, 4, none⟩ = false ∧ W.cell? ⟨g, 5, none⟩ = some x5 ∧ W.frozen? ⟨g, 5, none⟩ = false ∧ W.cell? ⟨g, 6, none⟩ = some x6 ∧ W.frozen? ⟨g, 6, none⟩ = false := ⟨bc h, fz h, bc h, fz h, bc h, fz h, bc h, fz h, bc h, fz h, bc h, fz h, bc h, fz h⟩
end
theorem ifn {α : Type} {p : Prop} [Decidable p] {a : Option α} {r : α} {G : Prop} (k : p → a = some r → G) (h : (if p then a else none) = some r) : G := by
  by_cases c : p
  · rw [if_pos c] at h; exact k c h
  · rw [if_neg c] at h; cases h
theorem b3 {n m : Nat} {q : Prop} (h : q) (g : q → m ≤ n := by intro h_; simp only [ByteArray.size_append] at h_; first | exact h_ | (simp only [ByteArray.size_extract] at h_; rw [Nat.min_eq_left (by omega)] at h_; exact h_)) : (n < m) = False := eq_false (Nat.not_lt.2 (g h))
theorem bpt {w : World} {g : Nat} {t : TypeId} {cs : Array Value} (h : w.heap[g]? = some (.cells cs t (0, 0))) (i : Nat) (u : Value) : (w.setCell ⟨g, i, none⟩ u).heap[g]? = some (.cells (cs.setIfInBounds i u) t (0, 0)) := blk_set h i u
theorem pty {w : World} {g : Nat} {t : TypeId} {cs cs1 : Array Value} (h : w.heap[g]? = some (.cells cs t (0, 0))) (e : cs = cs1) : w.heap[g]? = some (.cells cs1 t (0, 0)) := e ▸ h
theorem pt0 {w0 w1 : World} {g  : Nat} {t : TypeId} {cs cs1 : Array Value} (h : Aside0 (w0.heap[g]? = some (.cells cs t (0, 0))))  (st : w0.heap[g]? = some (.cells cs t (0, 0)) → w1.heap[g]? = some (.cells cs1 t (0, 0)) := by intro  h_; apply pty; (repeat (with_reducible first | exact h_ | refine blk_drewN ?_ _ | refine blk_drew ?_ | refine blk_alloc ?_ _ | apply bpt)); all_goals first | exact h_ | rfl) : w1.heap[g]? = some (.cells cs1 t (0, 0)) := st  h.out
theorem pt1 {w0 w1 : World} {g g1 : Nat} {t : TypeId} {cs cs1 : Array Value} (h : Aside0 (w0.heap[g]? = some (.cells cs t (0, 0)))) (n1 : Aside0 (g ≠ g1)) (st : g ≠ g1 → w0.heap[g]? = some (.cells cs t (0, 0)) → w1.heap[g]? = some (.cells cs1 t (0, 0)) := by intro n1_ h_; apply pty; (repeat (with_reducible first | exact h_ | refine blk_drewN ?_ _ | refine blk_drew ?_ | refine blk_alloc ?_ _ | apply bpt | apply blk_far (hp := n1_))); all_goals first | exact h_ | rfl) : w1.heap[g]? = some (.cells cs1 t (0, 0)) := st n1.out h.out
theorem rj {α : Type} {d : Kd α} {e : Nat} {w0 w1 : World} {base : Nat} {ok0 ok : Nat → Prop} {v : Value} {xs : List α} (h : d.R e w0 base ok0 v xs) (m : ∀ k, ok0 k → ok k) (st : d.R e w0 base ok0 v xs → d.R e w1 base ok0 v xs := by intro h_; (with_reducible repeat (first | apply Kd.R_alloc | apply Kd.R_drewN | apply Kd.R_drew)); (repeat (with_reducible first | exact h_ | apply Kd.R_far | refine Kd.R_alloc ?_ _ | refine Kd.R_drewN ?_ _ | refine Kd.R_drew ?_)); all_goals first | exact h_ | exact fun _ hk => hk.2 | exact fun _ hk => hk.1.2 | exact fun _ hk => hk.1.1.2 | exact fun _ hk => hk.1.1.1.2 | exact fun _ hk => hk.1.1.1.1.2 | exact fun _ hk => hk.1.1.1.1.1.2) : d.R e w1 base ok v xs := Kd.R_mono (st h) m
theorem kp {w0 w1 w2 : World} {g g' : Nat} {row : Option Nat} {o : Obj} (h : Aside0 (w0.heap[g']? = some o)) (hk : KeepBut w1 w2 g row) (n : Aside0 (g' ≠ g)) (hr : some g' ≠ row := by simp) (st : w0.heap[g']? = some o → w1.heap[g']? = some o := by intro h_; (with_reducible repeat (first | refine blk_drewN ?_ _ | refine blk_drew ?_ | refine blk_alloc ?_ _)); exact h_) : Aside0 (w2.heap[g']? = some o) := Aside0.mk (KeepBut.blk hk (st h.out) n.out hr)
theorem rp {p : Prop} (h : p := by repeat (first | exact Reps.none _ _ | refine Reps.one rfl ?_)) : p := h
theorem ccf0 (b0 b1 b2 b3 b4 : Bool) (n : Int) (w : World) : (Instr.field 42 (.agg #[.bool b0, .bool b1, .bool b2, .bool b3, .bool b4, .int .i64 n]) 0).run Tryz.prog w = .ok (.bool b0) w := by have hu_ := Tryz.underlying42; simp [Instr.field, hu_, asAgg, part]
theorem ret_int {k : IntKind} {a b : Int} (h : a = b) : Ending.returned (.int k a) = .returned (.int k b) := by rw [h]
def low1 (c : UInt8) : UInt8 := if 65 ≤ c.toNat ∧ c.toNat ≤ 90 then UInt8.ofNat (c.toNat + 32) else c
def LowRow (B k m : Nat) (L : List UInt8) (wr : World) : Prop :=
  ∃ C : Array Value, wr.heap[B]? = some (.cells C 5 (m, m + 1)) ∧ L.length ≤ m ∧ ∀ j (h : j < L.length), C[j]? = some (.int .u8 ((if j < k then low1 L[j] else L[j]).toNat : Int))
theorem low_cell {B k m : Nat} {L : List UInt8} {wr : World} (h : LowRow B k m L wr) (j : Nat) (hj : j < L.length) : wr.cell? ⟨B, j, none⟩ = some (.int .u8 ((if j < k then low1 L[j] else L[j]).toNat : Int)) := by
  obtain ⟨C, h1, _, h2⟩ := h
  simp [World.cell?, h1, h2 j hj]
theorem low_free {B k m : Nat} {L : List UInt8} {wr : World} (h : LowRow B k m L wr) (j : Nat) (hj : j < L.length) : wr.frozen? ⟨B, j, none⟩ = false := by
  obtain ⟨C, h1, h0, h2⟩ := h
  simp [World.frozen?, h1]; omega
theorem low_keep {B k m : Nat} {L : List UInt8} {wr : World} (h : LowRow B k m L wr) (hk : k < L.length) (he : low1 L[k] = L[k]) : LowRow B (k + 1) m L wr := by
  obtain ⟨C, h1, h0, h2⟩ := h
  refine ⟨C, h1, h0, fun j hj => ?_⟩
  rw [h2 j hj]
  by_cases e : j = k
  · subst e; simp [he]
  · have : (j < k + 1) ↔ j < k := by omega
    simp [this]
theorem low_set {B k m : Nat} {L : List UInt8} {wr : World} (h : LowRow B k m L wr) (hk : k < L.length) {z : Int} (hz : z = ((low1 L[k]).toNat : Int)) : LowRow B (k + 1) m L (wr.setCell ⟨B, k, none⟩ (.int .u8 z)) := by
  obtain ⟨C, h1, h0, h2⟩ := h
  refine ⟨C.setIfInBounds k (.int .u8 z), by simp [World.setCell, Array.getElem?_modify, h1], h0, fun j hj => ?_⟩
  have hkC : k < C.size := by
    have := h2 k hk
    exact (Array.getElem?_eq_some_iff.1 this).1
  rw [Array.getElem?_setIfInBounds]
  by_cases e : k = j
  · subst e; simp [hkC, hz]
  · rw [if_neg e, h2 j hj]
    have : (j < k + 1) ↔ j < k := by omega
    simp [this]
theorem low_start (w : World) (s : ByteArray) : ∃ m, LowRow w.heap.size 0 m s.data.toList (Lib.bytesWorld w 5 s) := by
  refine ⟨_, _, Lib.bytesWorld_at_new w 5 s, ?_, fun j hj => ?_⟩
  · simp [Lib.bytesCells, grownCap]
  · have hj' : j < s.size := by simpa using hj
    have := Lib.bytesWorld_cell w 5 s j hj'
    simp only [World.cell?, Lib.bytesWorld_at_new] at this
    simp at this
    rw [this]
    simp [List.getD, hj']
theorem eqt {α : Type} [BEq α] [LawfulBEq α] {a b : α} (h : a = b) : (a == b) = true := beq_iff_eq.mpr h
theorem nef {α : Type} [BEq α] [LawfulBEq α] {a b : α} (h : a = b) : (a != b) = false := bne_eq_false_iff_eq.mpr h
theorem eqf {α : Type} [BEq α] [LawfulBEq α] {a b : α} (h : ¬ a = b) : (a == b) = false := beq_eq_false_iff_ne.mpr h
theorem net {α : Type} [BEq α] [LawfulBEq α] {a b : α} (h : ¬ a = b) : (a != b) = true := bne_iff_ne.mpr h
theorem hs {a b c : Nat} (hg : b = c) (h : a ≤ c) : a ≤ b := by rw [hg]; exact h
theorem hl {a b c : Nat} (hg : b = c) (h : a < c) : a ≠ b := by rw [hg]; exact Nat.ne_of_lt h
theorem hh {a b c : Nat} (hg : b = c) (h : a < c) : b ≠ a := (hl hg h).symm
theorem rm {α : Type} {d : Kd α} {e : Nat} {w0 w1 : World} {base : Nat} {ok0 ok : Nat → Prop} {v : Value} {xs : List α} (h : Aside0 (d.R e w0 base ok0 v xs)) (m : ∀ k, ok0 k → ok k) (st : d.R e w0 base ok v xs → d.R e w1 base ok v xs := by intro h_; (with_reducible repeat (first | apply Kd.R_alloc | apply Kd.R_drewN | apply Kd.R_drew)); exact h_) : d.R e w1 base ok v xs := st (Kd.R_mono h.out m)
theorem rl {P : Program} {ops : Array Oper} {oi : Oper} {a : Act} {w : World} {Q : Exit → Act → World → Prop} {rest : List Oper} {α : Type} (d : Kd α) (e N : Nat) (xs : List α) (inner : List Value)
  (h : ∀ v1 w1, d.R e w1 w.heap.size (fun _ => True) v1 xs → Below w.heap.size w w1 → wpList P ops Q rest (a.put oi.dst v1) w1) (hd : oi.dst = some N := by with_reducible rfl) (hg : oi.guard = none := by rfl)
  (hr : (execOp a.eval oi).run P w = .ok (.value (.slice (some ⟨w.heap.size, 0, none⟩) xs.length xs.length)) (w.alloc (.cells inner.toArray e)) := by first | (go_simp; done) | (go_simp; rfl))
  (hp : Reps (d.M w w.heap.size (fun _ => True)) d.sz xs inner := by repeat (first | exact Reps.none _ _ | refine Reps.one rfl ?_)) (hm : xs.length ≤ 9223372036854775807 := by simp) : wpList P ops Q (oi :: rest) a w :=
  Kd.R_lit d w.heap.size e hg hd hr hp (fun _ hk => hk) trivial (Below.refl _ _) (Nat.le_refl _) hm (fun v1 w1 h1 h2 _ _ => h v1 w1 h1 h2)
theorem ff_ : ¬ (false = true) := by decide
theorem si_ {α : Type} {a b : α} (h : some a = some b) : a = b := Option.some.inj h
theorem nb_ {b : Bool} (h : ¬ b = true) : b = false := Bool.eq_false_iff.mpr h
theorem bs_ {α β : Type} {a : α} {f : α → Option β} {b : Option β} (h : (some a).bind f = b) : f a = b := h
def GLOBT (w : World) : Prop := Lib.TabIs Tryz.prog w "internal/strconv.uint64pow10" .u64 Lib.pow10Tab
theorem GLOBT.below {w w' : World} (h : GLOBT w) (hb : Below w.heap.size w w') : GLOBT w' := by
  have hg : Tryz.prog.globalNamed "internal/strconv.uint64pow10" = some 1 := by kernel_rfl
  have hc := World.var?_cell hg h 0
  exact var?_below hb hg (World.block_lt_of_cell? w _ (hc.trans rfl)) h
theorem GLOBT.of {rest : List (String × DataW Unit)} {w : World} (h : laidMet Tryz.prog (("internal/strconv.uint64pow10", Lib.tabData .u64 Lib.pow10Tab) :: rest) w) : GLOBT w :=
  Lib.tabIs_of_head (g := 1) (t := 208) (e := 189) (n := 20) (by kernel_rfl) (by kernel_rfl) Tryz.underlying208 Tryz.underlying189 (by kernel_rfl) (by kernel_rfl) h
def GLOBM (w : World) : Prop := ∃ m, w.cell? ⟨0, 0, none⟩ = some (.int .i64 m)
theorem GLOBM.below {w w' : World} (h : GLOBM w) (hb : Below w.heap.size w w') : GLOBM w' := let ⟨m, e⟩ := h; ⟨m, pw_cell_below hb e⟩
theorem GLOBM.of {w : World} (h : w.ShapedOpen Tryz.prog) : GLOBM w := Tryz.laysM143.s1_3 w h
def GLOBE (w : World) : Prop := (∃ tp p, w.var? Tryz.prog "strconv.ErrSyntax" = some #[.iface tp p]) ∧ ∃ tp p, w.var? Tryz.prog "strconv.ErrRange" = some #[.iface tp p]
theorem GLOBE.one {n : String} {g : Nat} {w w' : World} (hg : Tryz.prog.globalNamed n = some g) (hb : Below w.heap.size w w') (h : ∃ tp p, w.var? Tryz.prog n = some #[.iface tp p]) : ∃ tp p, w'.var? Tryz.prog n = some #[.iface tp p] := by
  obtain ⟨tp, p, e⟩ := h
  have hc := World.var?_cell hg e 0
  exact ⟨tp, p, var?_below hb hg (World.block_lt_of_cell? w _ (hc.trans rfl)) e⟩
theorem GLOBE.below {w w' : World} (h : GLOBE w) (hb : Below w.heap.size w w') : GLOBE w' :=
  ⟨GLOBE.one (g := 2) (by kernel_rfl) hb h.1, GLOBE.one (g := 3) (by kernel_rfl) hb h.2⟩
theorem GLOBE.head {n nm : String} {d : DataW Unit} {rest : List (String × DataW Unit)} {w : World} {g : Nat} {ti : TypeId} {ms : Array (String × TypeId)} (h : laidMet Tryz.prog ((n, .iface nm d) :: rest) w)
    (hg : Tryz.prog.globalNamed n = some g) (ht : (Tryz.prog.globals[g]?).map (·.type) = some ti) (hi : Tryz.prog.underlying ti = some (.interface ms)) : ∃ tp p, w.var? Tryz.prog n = some #[.iface tp p] := by
  obtain ⟨ps, ⟨g0, t0, cs0, f0, p0, q0, hg0, ht0, hv0, hd0, _, e0⟩, _⟩ := h
  obtain rfl := Option.some.inj (hg.symm.trans hg0)
  obtain rfl := Option.some.inj (ht.symm.trans ht0)
  obtain ⟨l0⟩ := cs0
  obtain ⟨f1, u, v, e, _⟩ := iface_of_trod hi hd0
  obtain rfl : l0 = [.iface u v] := e
  exact ⟨u, v, hv0⟩
theorem GLOBE.of {r1 r2 : List (String × DataW Unit)} {n1 n2 : String} {d1 d2 : DataW Unit} {w : World} (h1 : laidMet Tryz.prog (("strconv.ErrSyntax", .iface n1 d1) :: r1) w) (h2 : laidMet Tryz.prog (("strconv.ErrRange", .iface n2 d2) :: r2) w) : GLOBE w :=
  ⟨GLOBE.head (g := 2) (ti := 148) h1 (by kernel_rfl) (by kernel_rfl) Tryz.underlying148, GLOBE.head (g := 3) (ti := 148) h2 (by kernel_rfl) (by kernel_rfl) Tryz.underlying148⟩
def GLOBD (w : World) : Prop := w.cell? ⟨7, 15, none⟩ = some (.int .u8 4)
theorem GLOBD.below {w w' : World} (h : GLOBD w) (hb : Below w.heap.size w w') : GLOBD w' := pw_cell_below hb h
theorem GLOBD.of {rest : List (String × DataW Unit)} {w : World} (h : laidMet Tryz.prog (("math/bits.deBruijn64tab", Lib.tabData .u8 (Lib.deBruijn64tab.map fun (n : Nat) => (n : Int))) :: rest) w) : GLOBD w := by
  have h1 : Lib.TabIs Tryz.prog w "math/bits.deBruijn64tab" .u8 (Lib.deBruijn64tab.map fun (n : Nat) => (n : Int)) := Lib.tabIs_of_head (g := 7) (t := 231) (e := 5) (n := 64) (by kernel_rfl) (by kernel_rfl) Tryz.underlying231 Tryz.underlying5 (by kernel_rfl) (by kernel_rfl) h
  have hg : Tryz.prog.globalNamed "math/bits.deBruijn64tab" = some 7 := by kernel_rfl
  have := World.var?_cell hg h1 15
  exact this.trans rfl
end Go.Proofs.YtjlpjbkpmmpojaaGreatDoor.All
