/- What the printed functions answer, in plain words: part g_valuesOf of this session's lemmas. No condition of a statement lies here. -/
import Derived.Test.YtdlgjhckmkmjhaaAllx0
import Derived.Test.YtdlgjhckmkmjhaaAllx14
import Derived.Test.YtdlgjhckmkmjhaaQabase
import Derived.Test.YtdlgjhckmkmjhaaQdfieldfn
namespace Go.Proofs.Ytdlgjhckmkmjhaa.Pure
open Go.RowKit Go.Proofs.Ytdlgjhckmkmjhaa.All Go.Proofs.YtdlgjhckmkmjhaaW.PrintWords Go.Proofs.YtdlgjhckmkmjhaaW.PrintLast
set_option linter.unusedVariables false
set_option linter.unusedSimpArgs false

def valuesF (l : List S81) (ns : List ByteArray) : List ByteArray := ns.map fun n => (getF n l).getD ⟨#[45]⟩
theorem ValuesOf_l0 (ns : List ByteArray) (l : List S81) (hn : ns.length ≤ 1048576) (hl : l.length < 4398046511104) : ∀ (d k i : Nat) (acc : List ByteArray), ns.length - i = d → i ≤ ns.length → acc.length ≤ i → d + l.length < k →
    impl_ValuesOf.l0 k l acc ns (ns.length : Int) i = some (acc ++ valuesF l (ns.drop i)) ∧ spec_ValuesOf.l0 k ns l acc i = some (acc ++ valuesF l (ns.drop i)) := by
  intro d
  induction d with
  | zero =>
    intro k i acc hd hi ha hk
    obtain ⟨k, rfl⟩ := succ_of (show 0 < k by omega)
    simp only [spec_ValuesOf.l0, impl_ValuesOf.l0]
    rw [if_neg (by omega), if_neg (by omega), List.drop_eq_nil_of_le (by omega), valuesF, List.map_nil, List.append_nil]
    exact ⟨rfl, rfl⟩
  | succ d ih =>
    intro k i acc hd hi ha hk
    obtain ⟨k, rfl⟩ := succ_of (show 0 < k by omega)
    have hlt : i < ns.length := by omega
    have ha' : acc.length < 8796093022208 := by omega
    have st : ∀ x : ByteArray, x = (getF ns[i] l).getD ⟨#[45]⟩ → impl_ValuesOf.l0 k l (acc ++ [x]) ns (ns.length : Int) ((i + 1 : Nat) : Int) = some (acc ++ valuesF l (ns.drop i)) ∧ spec_ValuesOf.l0 k ns l (acc ++ [x]) ((i + 1 : Nat) : Int) = some (acc ++ valuesF l (ns.drop i)) := fun x hx => by
      obtain ⟨i1, i2⟩ := ih k (i + 1) (acc ++ [x]) (by omega) (by omega) (by simp; omega) (by omega)
      rw [i1, i2, drop_at hlt, valuesF, valuesF, List.map_cons, List.append_assoc, hx]
      exact ⟨rfl, rfl⟩
    simp only [spec_ValuesOf.l0, impl_ValuesOf.l0]
    refine ⟨?_, ?_⟩
    · rw [if_pos (by omega), if_pos (by omega), if_pos (by omega), rd_B ns i hlt, nat_round (n := ns.length) hlt (by omega), impl_Get_f hl, Option.bind_some]
      cases h : getF ns[i] l with
      | none => simp only [Option.isSome_none, Bool.false_eq_true, if_false]; rw [if_pos ha']; exact (st ⟨#[45]⟩ (by simp [h])).1
      | some v => simp only [Option.isSome_some, if_true, Option.getD_some]; rw [if_pos ha']; exact (st v (by simp [h])).1
    · rw [if_pos (by omega), if_pos (by omega), rd_B ns i hlt, nat_round (n := ns.length) hlt (by omega), spec_Get_f (by omega) (by omega), Option.bind_some]
      cases h : getF ns[i] l with
      | none => simp only [Option.isSome_none, Bool.false_eq_true, if_false]; rw [if_pos ha']; exact (st ⟨#[45]⟩ (by simp [h])).2
      | some v => simp only [Option.isSome_some, if_true, Option.getD_some]; rw [if_pos ha']; exact (st v (by simp [h])).2
theorem impl_ValuesOf_f {k : Nat} {ns : List ByteArray} {l : List S81} (hn : ns.length ≤ 1048576) (hl : l.length < 4398046511104) (hk : ns.length + l.length < k) : impl_ValuesOf.f k ns l = some (valuesF l ns) := by
  have := (ValuesOf_l0 ns l hn hl ns.length k 0 [] (by omega) (by omega) (by simp) hk).1
  simpa [impl_ValuesOf.f] using this
theorem spec_ValuesOf_f {k : Nat} {ns : List ByteArray} {l : List S81} (hn : ns.length ≤ 1048576) (hl : l.length < 4398046511104) (hk : ns.length + l.length < k) : spec_ValuesOf.f k ns l = some (valuesF l ns) := by
  have := (ValuesOf_l0 ns l hn hl ns.length k 0 [] (by omega) (by omega) (by simp) hk).2
  simpa [spec_ValuesOf.f] using this

end Go.Proofs.Ytdlgjhckmkmjhaa.Pure
