/- The law FnWords over plain values: with enough rounds it answers true, at every input within the bounds that any machine has. -/
import Derived.Test.YtiinmfjbildclaaDoorAllx0
import Derived.Test.YtiinmfjbildclaaDoorAllx14
import Derived.Test.YtiinmfjbildclaaDoorAllx16
import Derived.Test.YtiinmfjbildclaaDoorAllx65
import Derived.Test.YtiinmfjbildclaaDoorQWh08789223
namespace Go.Proofs.YtiinmfjbildclaaDoor.Pure
open Go.RowKit Go.Proofs.YtiinmfjbildclaaDoor.All Go.Proofs.YtiinmfjbildclaaDoorW.PrintWords Go.Proofs.YtiinmfjbildclaaDoorW.PrintLast
set_option linter.unusedVariables false
set_option linter.unusedSimpArgs false

theorem FnWords_l0 (l : List ByteArray) (hl : l.length ≤ 1000) (h : ∀ x ∈ l, x.toList ≠ [] ∧ trimT x = x ∧ splitT x = [x] ∧ x.size ≤ 100) : ∀ (d k i : Nat), l.length = i + d → d + 10000 < k → laws_FnWords.l0 k l i = some true := by
  intro d
  induction d with
  | zero =>
    intro k i hd hk
    obtain ⟨k, rfl⟩ := succ_of (show 0 < k by omega)
    simp only [laws_FnWords.l0]
    rw [if_neg (by omega)]
  | succ d ih =>
    intro k i hd hk
    obtain ⟨k, rfl⟩ := succ_of (show 0 < k by omega)
    have hlt : i < l.length := by omega
    obtain ⟨h1, h2, h3, h4⟩ := h _ (List.getElem_mem hlt)
    simp only [laws_FnWords.l0]
    rw [if_pos (by omega), if_pos (by omega), rd_B l i hlt, if_neg h1, impl_Trim_f (by omega), Option.bind_some, if_pos (by rw [h2]), impl_Split_f (by omega) (by omega), Option.bind_some, h3, if_pos (by simp), nat_round (n := l.length) hlt (by omega)]
    exact ih k (i + 1) (by omega) (by omega)
theorem FnWords_j1 (x : List Int) (hx : (x.length : Int) ≤ 1048576) {k : Nat} (hk : 2000000 < k) : laws_FnWords.j1 k x false = some true := by
  obtain ⟨k, rfl⟩ := succ_of (show 0 < k by omega)
  simp only [laws_FnWords.j1]
  obtain ⟨s, e, hs⟩ := spec_DrawSplit_f (k := k) (l := x) (by omega) (by omega)
  have hl := splitT_len s
  rw [if_neg (by simp), e, Option.bind_some, impl_Split_f (by omega) (by omega), Option.bind_some, spec_Split_f (by omega) (by omega), Option.bind_some, laws_sameTexts_f (by omega) (by omega), Option.bind_some, if_pos rfl]
  exact FnWords_l0 (splitT s) (by omega) (fun y hy => by obtain ⟨h1, h2, h3, h4⟩ := splitT_word hy; exact ⟨h1, h2, h3, by omega⟩) (splitT s).length k 0 (by omega) (by omega)
theorem FnWords_j0 (x : List Int) (hx : (x.length : Int) ≤ 1048576) {k : Nat} (hk : 2000010 < k) : laws_FnWords.j0 k x = some true := by
  obtain ⟨k, rfl⟩ := succ_of (show 0 < k by omega)
  simp only [laws_FnWords.j0]
  obtain ⟨t, e, ht⟩ := spec_DrawNumRead_f (k := k) (l := x) (by omega) (by omega)
  obtain ⟨s, e2, hs⟩ := spec_DrawTrim_f (k := k) (l := x) (by omega) (by omega)
  have hsz := trimT_le s
  have hj1 := FnWords_j1 x hx (show 2000000 < k by omega)
  have hd : decide (((trimT s).size : Int) > (s.size : Int)) = false := decide_eq_false (by omega)
  rw [e, Option.bind_some, impl_NumRead_f, Option.bind_some, spec_NumRead_f (by omega), Option.bind_some, e2, Option.bind_some, impl_Trim_f (by omega), Option.bind_some, if_neg (by simp)]
  by_cases hb : (numRead t).2 = true
  · rw [if_pos hb, impl_NumText_f, Option.bind_some, if_pos (by rw [numT_numRead hb]), spec_Trim_f (by omega) (by omega), Option.bind_some, if_pos rfl, impl_Trim_f (by omega), Option.bind_some, if_pos (by rw [trimT_idem]), hd]; exact hj1
  · rw [if_neg hb, spec_Trim_f (by omega) (by omega), Option.bind_some, if_pos rfl, impl_Trim_f (by omega), Option.bind_some, if_pos (by rw [trimT_idem]), hd]; exact hj1
theorem FnWords : ∀ (a0 : List (Int)), (a0.length ≤ maxLen ∧ ∀ x_ ∈ a0, (Lit.int .u8 x_).wf = true) → ∃ k, laws_FnWords.f k a0 = some true := by
  intro x _
  obtain ⟨k, hk⟩ : ∃ k, 3000000 < k := ⟨_, Nat.lt_succ_self _⟩
  refine ⟨k, ?_⟩
  unfold laws_FnWords.f laws_big.f
  rw [Option.bind_some]
  by_cases hb : (x.length : Int) > 1048576
  · rw [if_pos (decide_eq_true hb)]
  rw [if_neg (by simpa using hb)]
  obtain ⟨n, e⟩ := spec_DrawNumText_f (k := k) (l := x) (by omega) (by omega)
  have hj0 := FnWords_j0 x (by omega) (show 2000010 < k by omega)
  rw [e, Option.bind_some, impl_NumText_f, Option.bind_some, spec_NumText_f (by omega), Option.bind_some, if_pos rfl]
  by_cases hn : (numT n).toList = ([] : List UInt8)
  · rw [if_pos hn]; exact hj0
  · rw [if_neg hn, impl_NumRead_f, Option.bind_some, numRead_back hn]
    dsimp only
    rw [if_pos rfl, if_pos rfl]; exact hj0

end Go.Proofs.YtiinmfjbildclaaDoor.Pure
