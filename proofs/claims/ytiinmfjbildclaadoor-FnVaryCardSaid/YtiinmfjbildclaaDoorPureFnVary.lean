/- The law FnVary over plain values: with enough rounds it answers true, at every input within the bounds that any machine has. -/
import Derived.Test.YtiinmfjbildclaaDoorAllx0
import Derived.Test.YtiinmfjbildclaaDoorAllx16
import Derived.Test.YtiinmfjbildclaaDoorAllx43
import Derived.Test.YtiinmfjbildclaaDoorQVhcc2b00a6
namespace Go.Proofs.YtiinmfjbildclaaDoor.Pure
open Go.RowKit Go.Proofs.YtiinmfjbildclaaDoor.All Go.Proofs.YtiinmfjbildclaaDoorW.PrintWords Go.Proofs.YtiinmfjbildclaaDoorW.PrintLast
set_option linter.unusedVariables false
set_option linter.unusedSimpArgs false

theorem star_is (a : ByteArray) : (a.toList == ([42] : List UInt8)) = decide (a = ⟨#[42]⟩) := by
  have h : (⟨#[42]⟩ : ByteArray).toList = [42] := by rw [toList_B]; rfl
  by_cases e : a = ⟨#[42]⟩
  · rw [decide_eq_true e, e, h]; rfl
  · rw [decide_eq_false e]
    exact beq_eq_false_iff_ne.2 (fun e2 => e (toList_inj (e2.trans h.symm)))
theorem star_take (ns : List ByteArray) (s : ByteArray) (i : Nat) (h : i < ns.length) : hasB s (ns.take (i + 1)) = (hasB s (ns.take i) || decide (ns[i] = s)) := by
  unfold hasB
  rw [List.take_succ_eq_append_getElem h, List.any_append]; simp
theorem valuesF_len (l : List S114) (ns : List ByteArray) : (valuesF l ns).length = ns.length := by unfold valuesF; simp
theorem FnVary_l0 (x : List Int) (hx : (x.length : Int) ≤ 1048576) (ns vs : List ByteArray) (l : List S114) (hn : ns.length ≤ 3) (hl : SmallF 26 l) : ∀ (d k i : Nat), ns.length = i + d → d + 9000000 < k →
    laws_FnVary.l0 k x ns vs l (suitsF ns vs l) (valuesF l ns) (hasB ⟨#[42]⟩ (ns.take i)) i = some true := by
  have hll := hl.1
  intro d
  induction d with
  | zero =>
    intro k i hd hk
    obtain ⟨k, rfl⟩ := succ_of (show 0 < k by omega)
    obtain ⟨k, rfl⟩ := succ_of (show 0 < k by omega)
    obtain ⟨ns1, l1, e1, hn1, hl1⟩ := spec_DrawValuesOf_f (k := k + 1) (l := x) (by omega) (by omega)
    obtain ⟨l2, e2, hl2⟩ := spec_DrawVaryOf_f (k := k + 1) (l := x) (by omega) (by omega)
    have hll1 := hl1.1
    have hv1 := valuesF_len l1 ns1
    have hv := valuesF_len l ns
    have hvl := varyF_len hl2.2
    simp only [laws_FnVary.l0]
    rw [if_neg (by omega), e1, Option.bind_some, e2, Option.bind_some]
    dsimp only
    rw [impl_ValuesOf_f (by omega) (by omega) (by omega), Option.bind_some, spec_ValuesOf_f (by omega) (by omega) (by omega), Option.bind_some, laws_sameTexts_f (by omega) (by omega), Option.bind_some, if_pos rfl, impl_VaryOf_f (K := 27) (by omega) hl2 (by omega), Option.bind_some, spec_VaryOf_f (K := 27) (by omega) hl2 (by omega), Option.bind_some, laws_sameTexts_f (by omega) (by omega), Option.bind_some, List.take_of_length_le (by omega)]
    simp only [laws_FnVary.j1]
    rw [if_neg (by simp), impl_Suits_f (by omega) (by omega) (by omega), Option.bind_some]
    cases hs : hasB ⟨#[42]⟩ ns with
    | true =>
      rw [show suitsF ns (valuesF l ns) l = false by unfold suitsF; rw [if_pos hs], show suitsF ns vs l = false by unfold suitsF; rw [if_pos hs], if_pos (by decide), if_neg (by simp), hv]; simp
    | false =>
      rw [show suitsF ns (valuesF l ns) l = true by unfold suitsF; rw [if_neg (by simp [hs])]; simp, if_pos (by decide)]
      by_cases ev : valuesF l ns = vs
      · rw [show suitsF ns vs l = true by unfold suitsF; rw [if_neg (by simp [hs])]; exact decide_eq_true ev, if_pos rfl, ← ev, laws_sameTexts_f (by omega) (by omega), Option.bind_some, if_pos rfl, if_neg (by simp), hv]; simp
      · rw [show suitsF ns vs l = false by unfold suitsF; rw [if_neg (by simp [hs])]; exact decide_eq_false ev, if_neg (by simp), hv]; simp
  | succ d ih =>
    intro k i hd hk
    obtain ⟨k, rfl⟩ := succ_of (show 0 < k by omega)
    have hlt : i < ns.length := by omega
    have h1 := ih k (i + 1) (by omega) (by omega)
    rw [star_take ns _ i hlt] at h1
    simp only [laws_FnVary.l0]
    rw [if_pos (by omega), nat_round (n := ns.length) hlt (by omega)]
    by_cases hb : hasB ⟨#[42]⟩ (ns.take i) = true
    · rw [if_pos hb]
      rw [hb, Bool.true_or] at h1
      exact h1
    · rw [if_neg hb, if_pos (by omega), rd_B ns i hlt, star_is]
      rw [Bool.not_eq_true] at hb
      rw [hb, Bool.false_or] at h1
      exact h1
theorem FnVary : ∀ (a0 : List (Int)), (a0.length ≤ maxLen ∧ ∀ x_ ∈ a0, (Lit.int .u8 x_).wf = true) → ∃ k, laws_FnVary.f k a0 = some true := by
  intro x _
  obtain ⟨k, hk⟩ : ∃ k, 10000000 < k := ⟨_, Nat.lt_succ_self _⟩
  refine ⟨k, ?_⟩
  unfold laws_FnVary.f laws_big.f
  rw [Option.bind_some]
  by_cases hb : (x.length : Int) > 1048576
  · rw [if_pos (decide_eq_true hb)]
  rw [if_neg (by simpa using hb)]
  obtain ⟨ns, vs, l, e, hn, hl⟩ := spec_DrawSuits_f (k := k) (l := x) (by omega) (by omega)
  have hll := hl.1
  rw [e, Option.bind_some]
  dsimp only
  rw [impl_Suits_f (by omega) (by omega) (by omega), Option.bind_some, spec_Suits_f (by omega) (by omega) (by omega), Option.bind_some, if_neg (by simp), impl_ValuesOf_f (by omega) (by omega) (by omega), Option.bind_some]
  exact FnVary_l0 x (by omega) ns vs l hn hl ns.length k 0 (by omega) (by omega)

end Go.Proofs.YtiinmfjbildclaaDoor.Pure
