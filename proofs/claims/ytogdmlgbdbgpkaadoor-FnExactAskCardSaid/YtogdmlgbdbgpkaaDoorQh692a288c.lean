/- What the printed functions answer, in plain words: lemmas of this session. No condition of a statement lies here. -/
import Derived.Test.YtogdmlgbdbgpkaaDoorAllx0
import Derived.Test.YtogdmlgbdbgpkaaDoorAllx20
import Derived.Test.YtogdmlgbdbgpkaaDoorQh5b1878b7
namespace Go.Proofs.YtogdmlgbdbgpkaaDoor.Pure
open Go.RowKit Go.Proofs.YtogdmlgbdbgpkaaDoor.All Go.Proofs.YtogdmlgbdbgpkaaDoorW.PrintWords Go.Proofs.YtogdmlgbdbgpkaaDoorW.PrintLast
set_option linter.unusedVariables false
set_option linter.unusedSimpArgs false

/-! ### marks -/
theorem laws_markText_l0 : ∀ (d k : Nat) (n : Int) (acc : ByteArray), n < 10 ^ d → acc.size + d ≤ 1000 → d < k → ∃ t, laws_markText.l0 k n acc = some t := by
  intro d
  induction d with
  | zero =>
    intro k n acc hn ha hk
    obtain ⟨k, rfl⟩ := succ_of hk
    simp only [laws_markText.l0]
    rw [if_neg (by simp at hn; omega), if_pos (by omega)]
    exact ⟨_, rfl⟩
  | succ d ih =>
    intro k n acc hn ha hk
    obtain ⟨k, rfl⟩ := succ_of hk
    simp only [laws_markText.l0, Option.bind_some]
    split
    · rename_i h
      rw [if_pos (by rw [strOfNums_size]; simp; omega)]
      refine ih k _ _ ?_ ?_ (by omega)
      · rw [Int.tdiv_eq_ediv_of_nonneg (by omega)]
        have : (10 : Int) ^ (d + 1) = 10 ^ d * 10 := rfl
        have hdiv : n / 10 < 10 ^ d := by omega
        unfold wrap64
        have : n / 10 ≤ n := by omega
        have h3 : 0 ≤ n / 10 := by omega
        by_cases hb : n / 10 ≤ 9223372036854775807
        · omega
        · have : (0 : Int) < 10 ^ d := by omega
          omega
      · rw [ByteArray.size_append, strOfNums_size]; simp; omega
    · rw [if_pos (by omega)]
      exact ⟨_, rfl⟩
def markT (n : Int) : ByteArray := (laws_markText.f 100 n).getD ⟨#[]⟩
theorem laws_markText_f {k : Nat} {n : Int} (hn : n ≤ 9223372036854775807) (hk : 100 ≤ k) : laws_markText.f k n = some (markT n) := by
  obtain ⟨t, ht⟩ : ∃ t, laws_markText.f 100 n = some t := by
    unfold laws_markText.f
    split
    · exact ⟨_, rfl⟩
    · exact laws_markText_l0 20 100 n _ (by omega) (by decide) (by omega)
  rw [at_rounds (g := fun k => laws_markText.f k n) (fun k => laws_markText.mono n k) hk ht]
  unfold markT; rw [ht]; rfl

end Go.Proofs.YtogdmlgbdbgpkaaDoor.Pure
