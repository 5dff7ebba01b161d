/- The law FnPieces over plain values: with enough rounds it answers true, at every input within the bounds that any machine has. -/
import Derived.Test.YtjckfmipegemcaaGreatDoorKPiecesAllx0
import Derived.Test.YtjckfmipegemcaaGreatDoorKPiecesAllx11
import Derived.Test.YtjckfmipegemcaaGreatDoorKPiecesAllx7
import Derived.Test.YtjckfmipegemcaaGreatDoorKPiecesQh61e7d32f
import Derived.Test.YtjckfmipegemcaaGreatDoorKPiecesQh6fc61ffa
import Derived.Test.YtjckfmipegemcaaGreatDoorKPiecesQh9403bd91
import Derived.Test.YtjckfmipegemcaaGreatDoorKPiecesQhd8bf4730
namespace Go.Proofs.YtjckfmipegemcaaGreatDoor.Pure
open Go.RowKit Go.Proofs.YtjckfmipegemcaaGreatDoor.All Go.Proofs.YtjckfmipegemcaaGreatDoorW.PrintWords Go.Proofs.YtjckfmipegemcaaGreatDoorW.PrintLast
set_option linter.unusedVariables false
set_option linter.unusedSimpArgs false

theorem FnPieces_l0 (l : List S40) (hl : l.length ≤ 10000) (hs : SmallQ l) : ∀ (d k i : Nat), l.length - i = d → i ≤ l.length → d + 1000 < k → laws_FnPieces.l0 k l l (i : Int) = some true := by
  intro d
  induction d with
  | zero =>
    intro k i hd hi hk
    obtain ⟨k, rfl⟩ := succ_of (show 0 < k by omega)
    simp only [laws_FnPieces.l0]
    rw [if_neg (by omega)]
  | succ d ih =>
    intro k i hd hi hk
    obtain ⟨k, rfl⟩ := succ_of (show 0 < k by omega)
    have hlt : i < l.length := by omega
    obtain ⟨h1, h2⟩ := hs _ (List.getElem_mem hlt)
    simp only [laws_FnPieces.l0]
    rw [if_pos (by omega), if_pos (by omega), rd_Q l i hlt, impl_ReqText_f (K := 100) (by omega) h1 h2 (by omega), Option.bind_some, if_pos (by omega), Option.bind_some, if_pos rfl, nat_round (n := l.length) hlt (by omega)]
    exact ih k (i + 1) (by omega) (by omega) (by omega)
theorem FnPieces_one {w u : ByteArray} {b : Bool} (r : List Int) (hz : w.size + u.size ≤ 1200) : feedAllP (pieces r u ++ [⟨#[]⟩]) w b = feed1 w b u := by
  cases b with
  | true => rw [feedAllP_bad _ _ (by simp)]; rfl
  | false =>
    have hc : catB (pieces r u ++ [⟨#[]⟩]) = u := by rw [catB_app, catB_pieces, catB, catB, app_nil, app_nil]
    rw [feedAllP_cat _ _ (by simp) (by rw [hc, ByteArray.size_append]; exact hz), hc]
theorem FnPieces : ∀ (a0 : List (Int)), (a0.length ≤ maxLen ∧ ∀ x_ ∈ a0, (Lit.int .u8 x_).wf = true) → ∃ k, laws_FnPieces.f k a0 = some true := by
  intro x _
  obtain ⟨k, hk⟩ : ∃ k, 8796142000200 < k := ⟨_, Nat.lt_succ_self _⟩
  refine ⟨k + 1 + 1, ?_⟩
  unfold laws_FnPieces.f laws_big.f
  rw [Option.bind_some]
  by_cases hb : (x.length : Int) > 1048576
  · rw [if_pos (decide_eq_true hb)]
  rw [if_neg (by simpa using hb)]
  obtain ⟨w, b, u, e, hw, hu⟩ := spec_DrawFeed_f (k := k + 1 + 1) (l := x) (by omega) (by omega)
  rw [e, Option.bind_some]
  dsimp only
  have hs : w.size + u.size ≤ 2097152 := by omega
  have hq := feed1_small (b := b) hs
  have hc := feed1_sum w u b
  rw [impl_Feed_f hs (by omega), Option.bind_some, spec_Feed_f hs (by omega), Option.bind_some]
  dsimp only
  rw [if_neg (by simp)]
  simp only [bne_self_eq_false]
  simp only [laws_FnPieces.j0]
  rw [if_neg (by simp)]
  have hz : wrap64 ((w.size : Int) + (u.size : Int)) = (w.size : Int) + (u.size : Int) := w64 (by omega)
  rw [hz]
  clear hz
  by_cases h12 : (w.size : Int) + (u.size : Int) > 1200
  · rw [if_pos h12]
    rw [decide_eq_true (by omega)]
  rw [if_neg h12]
  obtain ⟨t, r, e1, ht, hr⟩ := spec_DrawPieces_f (k := k + 1) (l := x) (by omega) (by omega)
  have hp := pieces_length r u
  have hn : szN (pieces r u ++ [⟨#[]⟩]) = u.size := by rw [← szN_catB, catB_app, catB_pieces, catB, catB, app_nil, app_nil]
  have hn2 : (pieces r u ++ [(⟨#[]⟩ : ByteArray)]).length = (pieces r u).length + 1 := by simp
  rw [e1, Option.bind_some]
  dsimp only
  rw [impl_Pieces_f (by omega) (by omega) (by omega), Option.bind_some, Option.bind_some, if_pos (by simp; omega), impl_FeedAll_f (by omega) (by omega) (by omega), Option.bind_some, FnPieces_one r (by omega)]
  dsimp only
  rw [if_neg (by simp)]
  simp only [bne_self_eq_false]
  simp only [laws_FnPieces.j1]
  rw [if_neg (by simp)]
  exact FnPieces_l0 (feed1 w b u).1 (by omega) hq _ k 0 rfl (by omega) (by omega)

end Go.Proofs.YtjckfmipegemcaaGreatDoor.Pure
