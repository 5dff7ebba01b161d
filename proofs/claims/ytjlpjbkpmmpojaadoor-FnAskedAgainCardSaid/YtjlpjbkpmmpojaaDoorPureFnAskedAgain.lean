/- The law FnAskedAgain over plain values: with enough rounds it answers true, at every input within the bounds that any machine has. -/
import Derived.Test.YtjlpjbkpmmpojaaDoorAllx0
import Derived.Test.YtjlpjbkpmmpojaaDoorAllx1
import Derived.Test.YtjlpjbkpmmpojaaDoorAllx9
import Derived.Test.YtjlpjbkpmmpojaaDoorQh030454e0
namespace Go.Proofs.YtjlpjbkpmmpojaaDoor.Pure
open Go.RowKit Go.Proofs.YtjlpjbkpmmpojaaDoor.All Go.Proofs.YtjlpjbkpmmpojaaDoorW.PrintWords Go.Proofs.YtjlpjbkpmmpojaaDoorW.PrintLast
set_option linter.unusedVariables false
set_option linter.unusedSimpArgs false

theorem askF_small {K : Nat} {m : Int} {p b : ByteArray} {q l : List S46} (hq : SmallF K q) (hl : SmallF K l) : SmallF (K + 13) (askF m p q b l) := by
  have hd : SmallF (K + 13) (dropF askN q) := ⟨Nat.le_trans (dropF_SmallF (n := askN) hq).1 (by omega), fun x hx => by have := (dropF_SmallF (n := askN) hq).2 x hx; omega⟩
  unfold askF
  split
  · rename_i t ht
    split
    · exact hq.put (by have := askN_size; omega) (getF_le hl.2 ht)
    · exact hd
  · exact hd
theorem FnAskedAgain_j1 {k K : Nat} {m : Int} {p b : ByteArray} {q l : List S46} (hK : K ≤ 1048576) (hp : p.size ≤ K) (hq : SmallF K q) (hl : SmallF K l) (hk : 5 * K + 100 < k) : laws_FnAskedAgain.j1 k l false m p q b m p (askF m p q b l) b = some true := by
  obtain ⟨k, rfl⟩ := succ_of (show 0 < k by omega)
  have hA := askF_small (m := m) (p := p) (b := b) hq hl
  have hA1 := hA.1
  have hq1 := hq.1
  have hl1 := hl.1
  simp only [laws_FnAskedAgain.j1]
  rw [if_neg (by simp), impl_Get_f (by omega), Option.bind_some, impl_Get_f (by omega), Option.bind_some, impl_ReqOk_f (K := K) (by omega) hp hq (by omega), Option.bind_some, impl_ReqOk_f (K := K + 13) (by omega) (by omega) hA (by omega), Option.bind_some, impl_Same_f (by omega) (by omega), Option.bind_some]
  dsimp only
  by_cases hr : reqB m p q b = true
  · rw [if_pos hr]
    have hn := fieldsB_nodup (reqB_facts hr).2.2.2
    have hd := getF_dropF askN hn
    cases ht : getF (⟨#[101, 116, 97, 103]⟩ : ByteArray) l with
    | none =>
      have ht' : getF tagN l = none := ht
      have e : askF m p q b l = dropF askN q := by unfold askF; rw [ht']
      have hd' : getF (⟨#[105, 102, 45, 110, 111, 110, 101, 45, 109, 97, 116, 99, 104]⟩ : ByteArray) (dropF askN q) = none := hd
      rw [e, if_pos (reqB_drop askN hr), hd', if_neg (by simp), if_neg (by simp)]
    | some t =>
      have ht' : getF tagN l = some t := ht
      by_cases h2 : reqB m p (putF askN t q) b = true
      · have e : askF m p q b l = putF askN t q := by unfold askF; rw [ht']; dsimp only; rw [if_pos h2]
        have hg : getF (⟨#[105, 102, 45, 110, 111, 110, 101, 45, 109, 97, 116, 99, 104]⟩ : ByteArray) (putF askN t q) = some t := getF_putF askN t q
        rw [e, if_pos h2, hg, if_pos (by simp), if_pos (by simp), if_pos (by simp)]
        unfold sameF
        rw [hg, ht]
        simp
      · have e : askF m p q b l = dropF askN q := by unfold askF; rw [ht']; dsimp only; rw [if_neg h2]
        have hd' : getF (⟨#[105, 102, 45, 110, 111, 110, 101, 45, 109, 97, 116, 99, 104]⟩ : ByteArray) (dropF askN q) = none := hd
        rw [e, if_pos (reqB_drop askN hr), hd', if_neg (by simp), if_pos (by simp)]
  · rw [if_neg hr]
theorem FnAskedAgain : ∀ (a0 : List (Int)), (a0.length ≤ maxLen ∧ ∀ x_ ∈ a0, (Lit.int .u8 x_).wf = true) → ∃ k, laws_FnAskedAgain.f k a0 = some true := by
  intro x _
  obtain ⟨k, hk⟩ : ∃ k, 5000000 < k := ⟨_, Nat.lt_succ_self _⟩
  refine ⟨k + 1, ?_⟩
  unfold laws_FnAskedAgain.f laws_big.f
  rw [Option.bind_some]
  by_cases hb : (x.length : Int) > 1048576
  · rw [if_pos (decide_eq_true hb)]
  rw [if_neg (by simpa using hb)]
  obtain ⟨m, p, q, b, l, e, hp, hq, hl⟩ := spec_DrawAsk_f (k := k + 1) (l := x) (by omega) (by omega)
  have hp' : p.size ≤ 61 := hp
  have hq' : SmallF 61 q := ⟨by have := hq.1; omega, fun y hy => by have := hq.2 y hy; omega⟩
  have hl' : SmallF 61 l := ⟨by have := hl.1; omega, fun y hy => by have := hl.2 y hy; omega⟩
  have hA := askF_small (m := m) (p := p) (b := b) hq' hl'
  have hA1 := hA.1
  rw [e, Option.bind_some]
  dsimp only
  rw [impl_Ask_f (K := 61) (by omega) hp' hq' hl' (by omega), Option.bind_some, spec_Ask_f (K := 61) (by omega) hp' hq' hl' (by omega), Option.bind_some]
  dsimp only
  rw [laws_sameFields_f (by omega) (by omega), Option.bind_some, if_pos rfl, if_pos rfl, show (m != m) = false by simp]
  simp only [laws_FnAskedAgain.j0]
  obtain ⟨m2, p2, q2, b2, l2, e2, hq2, hl2⟩ := spec_DrawSame_f (k := k) (l := x) (by omega) (by omega)
  obtain ⟨m3, r3, b3, e3, hr3⟩ := spec_DrawShort_f (k := k) (l := x) (by omega) (by omega)
  have h21 := hq2.1
  have h22 := hl2.1
  have h31 := hr3.1
  have h32 := List.length_filter_le keptF r3
  rw [if_neg (by simp), e2, Option.bind_some, e3, Option.bind_some]
  dsimp only
  rw [impl_Short_f (by omega) (by omega), Option.bind_some, impl_Same_f (by omega) (by omega), Option.bind_some, spec_Same_f (by omega) (by omega) (by omega), Option.bind_some, if_neg (by simp), spec_Short_f (by omega) (by omega), Option.bind_some]
  dsimp only
  rw [laws_sameFields_f (by omega) (by omega), Option.bind_some, if_pos rfl, if_pos (by first | rfl | (rw [toList_B]; rfl) | (show (⟨#[]⟩ : ByteArray).toList = []; rw [toList_B]; rfl)), show ((304 : Int) != 304) = false by decide]
  exact FnAskedAgain_j1 (K := 61) (by omega) hp' hq' hl' (by omega)

end Go.Proofs.YtjlpjbkpmmpojaaDoor.Pure
