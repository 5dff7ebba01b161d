/- The law FnCut over plain values: with enough rounds it answers true, at every input within the bounds that any machine has. -/
import Derived.Test.YtjckfmipegemcaaGreatDoorAllx0
import Derived.Test.YtjckfmipegemcaaGreatDoorAllx16
import Derived.Test.YtjckfmipegemcaaGreatDoorAllx7
import Derived.Test.YtjckfmipegemcaaGreatDoorQh61e7d32f
import Derived.Test.YtjckfmipegemcaaGreatDoorQh9403bd91
import Derived.Test.YtjckfmipegemcaaGreatDoorQhd8bf4730
namespace Go.Proofs.YtjckfmipegemcaaGreatDoor.Pure
open Go.RowKit Go.Proofs.YtjckfmipegemcaaGreatDoor.All Go.Proofs.YtjckfmipegemcaaGreatDoorW.PrintWords Go.Proofs.YtjckfmipegemcaaGreatDoorW.PrintLast
set_option linter.unusedVariables false
set_option linter.unusedSimpArgs false

theorem FnCut_l0 {x : List Int} (hx : x.length ≤ 1048576) (t : ByteArray) (ht : t.size ≤ 4000) (l : List ByteArray) (hl : l.length ≤ 100) : ∀ (d k i : Nat) (acc : ByteArray), i + d = l.length → acc ++ catB (l.drop i) = t → 8796142000010 + d < k → laws_FnCut.l0 k x t l acc (i : Int) = some true := by
  intro d
  induction d with
  | zero =>
    intro k i acc hd ha hk
    obtain ⟨k, rfl⟩ := succ_of (show 8796141999999 < k by omega)
    rw [List.drop_eq_nil_of_le (by omega), catB, app_nil] at ha
    obtain ⟨s, b, u, e, hs, hu, hn⟩ := spec_DrawFeedAll_f (k := k) (l := x) (by omega) (by omega)
    simp only [laws_FnCut.l0]
    rw [if_neg (by omega), e, Option.bind_some]
    dsimp only
    rw [impl_FeedAll_f (by omega) (by omega) (by omega), Option.bind_some, spec_FeedAll_f (by omega) (by omega) (by omega), Option.bind_some, if_pos (by rw [ha])]
    dsimp only
    rw [if_pos (by simp)]
    simp
  | succ d ih =>
    intro k i acc hd ha hk
    obtain ⟨k, rfl⟩ := succ_of (show 8796141999999 < k by omega)
    have hlt : i < l.length := by omega
    rw [drop_at hlt, catB, ← app_assoc] at ha
    have hz : (acc ++ l[i] ++ catB (l.drop (i + 1))).size = acc.size + l[i].size + (catB (l.drop (i + 1))).size := by rw [ByteArray.size_append, ByteArray.size_append]
    rw [ha] at hz
    simp only [laws_FnCut.l0]
    rw [if_pos (by omega), if_pos (by omega), rd_B l i hlt, if_pos (by omega), nat_round (n := l.length) hlt (by omega)]
    exact ih k (i + 1) _ (by omega) ha (by omega)
theorem FnCut : ∀ (a0 : List (Int)), (a0.length ≤ maxLen ∧ ∀ x_ ∈ a0, (Lit.int .u8 x_).wf = true) → ∃ k, laws_FnCut.f k a0 = some true := by
  intro x _
  obtain ⟨k, hk⟩ : ∃ k, 8796142000200 < k := ⟨_, Nat.lt_succ_self _⟩
  refine ⟨k, ?_⟩
  unfold laws_FnCut.f laws_big.f
  rw [Option.bind_some]
  by_cases hb : (x.length : Int) > 1048576
  · rw [if_pos (decide_eq_true hb)]
  rw [if_neg (by simpa using hb)]
  obtain ⟨t, r, e, ht, hr⟩ := spec_DrawPieces_f (k := k) (l := x) (by omega) (by omega)
  have hp := pieces_length r t
  rw [e, Option.bind_some]
  dsimp only
  rw [impl_Pieces_f (by omega) (by omega) (by omega), Option.bind_some, spec_Pieces_f (by omega) (by omega) (by omega), Option.bind_some, laws_sameTexts_f (by omega) (by omega), Option.bind_some, if_pos rfl]
  exact FnCut_l0 (by omega) t (by omega) (pieces r t) (by omega) (pieces r t).length k 0 ⟨#[]⟩ (by omega) (by rw [List.drop_zero, catB_pieces]; exact B_ext (by rw [B_append, B_empty, List.nil_append])) (by omega)

end Go.Proofs.YtjckfmipegemcaaGreatDoor.Pure
