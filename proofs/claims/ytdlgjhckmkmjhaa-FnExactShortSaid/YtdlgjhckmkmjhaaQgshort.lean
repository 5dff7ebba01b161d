/- What the printed functions answer, in plain words: part g_short of this session's lemmas. No condition of a statement lies here. -/
import Derived.Test.YtdlgjhckmkmjhaaAllx0
import Derived.Test.YtdlgjhckmkmjhaaAllx10
import Derived.Test.YtdlgjhckmkmjhaaAllx11
import Derived.Test.YtdlgjhckmkmjhaaQabase
import Derived.Test.YtdlgjhckmkmjhaaQdfieldfn
namespace Go.Proofs.Ytdlgjhckmkmjhaa.Pure
open Go.RowKit Go.Proofs.Ytdlgjhckmkmjhaa.All Go.Proofs.YtdlgjhckmkmjhaaW.PrintWords Go.Proofs.YtdlgjhckmkmjhaaW.PrintLast
set_option linter.unusedVariables false
set_option linter.unusedSimpArgs false

def keptF (x : S81) : Bool := decide (x.f0.toList = [101, 116, 97, 103] ∨ x.f0.toList = [118, 97, 114, 121] ∨ x.f0.toList = [99, 97, 99, 104, 101, 45, 99, 111, 110, 116, 114, 111, 108])
theorem Short_l0 (l : List S81) (hl : l.length < 4398046511104) (s : Int) (b : ByteArray) : ∀ (d k i : Nat) (acc : List S81), l.length - i = d → i ≤ l.length → acc.length ≤ i → d < k →
    impl_Short.l0 k l (l.length : Int) i s acc b = some (s, acc ++ (l.drop i).filter keptF, b) ∧ ∀ s0 b0, spec_Short.l0 k i s0 l b0 s acc b = some (s, acc ++ (l.drop i).filter keptF, b) := by
  intro d
  induction d with
  | zero =>
    intro k i acc hd hi ha hk
    obtain ⟨k, rfl⟩ := succ_of hk
    simp only [spec_Short.l0, impl_Short.l0]
    rw [List.drop_eq_nil_of_le (by omega), List.filter_nil, List.append_nil]
    exact ⟨by rw [if_neg (by omega)], fun _ _ => by rw [if_neg (by omega)]⟩
  | succ d ih =>
    intro k i acc hd hi ha hk
    obtain ⟨k, rfl⟩ := succ_of hk
    have hlt : i < l.length := by omega
    obtain ⟨y1, y2⟩ := ih k (i + 1) (acc ++ [l[i]]) (by omega) (by omega) (by simp; omega) (by omega)
    obtain ⟨n1, n2⟩ := ih k (i + 1) acc (by omega) (by omega) (by omega) (by omega)
    simp only [spec_Short.l0, impl_Short.l0]
    rw [rd_F l i hlt, nat_round (n := l.length) hlt (by omega), drop_at hlt, List.filter_cons]
    rw [List.append_assoc] at y1
    simp only [List.append_assoc] at y2
    have ha' : acc.length < 4398046511104 := by omega
    by_cases h : keptF l[i] = true
    · rw [if_pos h]
      have h' := h
      unfold keptF at h'
      rw [decide_eq_true_eq] at h'
      have e : (⟨l[i].f0, l[i].f1⟩ : S81) = l[i] := rfl
      refine ⟨?_, fun s0 b0 => ?_⟩
      · rw [if_pos (by omega), if_pos (by omega), if_pos (by omega), e, if_pos ha']
        rcases h' with h' | h' | h'
        · rw [if_pos h']; exact y1
        · rw [h', if_neg (by decide), if_pos rfl]; exact y1
        · rw [h', if_neg (by decide), if_neg (by decide), if_pos rfl]; exact y1
      · rw [if_pos (by omega), if_pos (by omega), e, if_pos ha']
        rcases h' with h' | h' | h'
        · rw [if_pos h']; exact y2 s0 b0
        · rw [h', if_neg (by decide), if_pos rfl]; exact y2 s0 b0
        · rw [h', if_neg (by decide), if_neg (by decide), if_pos rfl]; exact y2 s0 b0
    · rw [if_neg h]
      have h' := h
      unfold keptF at h'
      rw [decide_eq_true_eq] at h'
      have h1 : ¬ l[i].f0.toList = [101, 116, 97, 103] := fun e => h' (.inl e)
      have h2 : ¬ l[i].f0.toList = [118, 97, 114, 121] := fun e => h' (.inr (.inl e))
      have h3 : ¬ l[i].f0.toList = [99, 97, 99, 104, 101, 45, 99, 111, 110, 116, 114, 111, 108] := fun e => h' (.inr (.inr e))
      refine ⟨?_, fun s0 b0 => ?_⟩
      · rw [if_pos (by omega), if_pos (by omega), if_pos (by omega), if_neg h1, if_neg h2, if_neg h3]; exact n1
      · rw [if_pos (by omega), if_pos (by omega), if_neg h1, if_neg h2, if_neg h3]; exact n2 s0 b0
theorem impl_Short_f {k : Nat} {l : List S81} {s : Int} {b : ByteArray} (hl : l.length < 4398046511104) (hk : l.length < k) : impl_Short.f k s l b = some (304, l.filter keptF, ⟨#[]⟩) := by
  have := (Short_l0 l hl 304 ⟨#[]⟩ l.length k 0 [] (by omega) (by omega) (by simp) hk).1
  simpa [impl_Short.f] using this
theorem spec_Short_f {k : Nat} {l : List S81} {s : Int} {b : ByteArray} (hl : l.length < 4398046511104) (hk : l.length < k) : spec_Short.f k s l b = some (304, l.filter keptF, ⟨#[]⟩) := by
  have := (Short_l0 l hl 304 ⟨#[]⟩ l.length k 0 [] (by omega) (by omega) (by simp) hk).2 s b
  simpa [spec_Short.f] using this

end Go.Proofs.Ytdlgjhckmkmjhaa.Pure
