/- What the printed functions answer, in plain words: part f_resp of this session's lemmas. No condition of a statement lies here. -/
import Derived.Test.YtdlgjhckmkmjhaaAllx0
import Derived.Test.YtdlgjhckmkmjhaaAllx10
import Derived.Test.YtdlgjhckmkmjhaaAllx11
import Derived.Test.YtdlgjhckmkmjhaaAllx9
import Derived.Test.YtdlgjhckmkmjhaaQabase
import Derived.Test.YtdlgjhckmkmjhaaQcfield
namespace Go.Proofs.Ytdlgjhckmkmjhaa.Pure
open Go.RowKit Go.Proofs.Ytdlgjhckmkmjhaa.All Go.Proofs.YtdlgjhckmkmjhaaW.PrintWords Go.Proofs.YtdlgjhckmkmjhaaW.PrintLast
set_option linter.unusedVariables false
set_option linter.unusedSimpArgs false

theorem laws_szResp_f {k : Nat} {m : Int} {b : ByteArray} {l : List S79} {n : Int} (hl : l.length ≤ maxLen ∧ ∀ x ∈ l, x.f0.size ≤ maxLen ∧ x.f1.size ≤ maxLen) (hb : b.size ≤ maxLen) (h0 : 0 ≤ n) (h1 : n ≤ 1048576) (hk : 1048577 < k) :
    ∃ r, laws_szResp.f k m l b n = some r ∧ (r < 0 ∨ r ≤ n ∧ r ≤ 1048576 ∧ b.size ≤ 1048576 ∧ l.length ≤ 1048576 ∧ (∀ x ∈ l, x.f0.size ≤ 1048576 ∧ x.f1.size ≤ 1048576) ∧ r + b.size + l.length + szFS l = n) := by
  unfold maxLen at hb
  unfold laws_szResp.f
  rw [laws_szFieldS_f hl (by omega) (by omega) hk, Option.bind_some]
  split
  · exact ⟨_, rfl, .inl (by omega)⟩
  · rename_i h2
    obtain ⟨g1, g2, g3, g4⟩ := leftFS_nonneg h2 (by omega)
    have hr := szFS_nonneg l
    have g5 : leftFS n l ≤ n ∧ leftFS n l + l.length + szFS l = n := by
      unfold leftFS at h2 g1 ⊢; split
      · rename_i c; rw [if_pos c] at h2; omega
      · omega
    rw [w64 (by omega)]
    split
    · exact ⟨_, rfl, .inl (by omega)⟩
    · exact ⟨_, rfl, .inr ⟨by omega, by omega, by omega, g3, g4, by omega⟩⟩
theorem laws_toResp_f {k : Nat} {m : Int} {b : ByteArray} {l : List S79} (hl : l.length ≤ 1048576) (hk : l.length < k) : laws_toResp.f k m l b = some (m, l.map toF, b) := by
  unfold laws_toResp.f
  rw [laws_toFieldS_f hl hk, Option.bind_some]
theorem laws_eqResp_f {k : Nat} {m : Int} {b : ByteArray} {l : List S81} (hl : l.length ≤ 4398046511104) (hk : l.length < k) : laws_eqResp.f k m l b m l b = some true := by
  unfold laws_eqResp.f
  rw [if_pos rfl, laws_eqFieldS_f hl hk, Option.bind_some, if_pos rfl, if_pos rfl]
theorem laws_markResp_f {k : Nat} {m : Int} {b : ByteArray} {l : List S81} {n : Int} (hl : (l.length : Int) ≤ 4398046511104) (h0 : 0 ≤ n) (hm : n ≤ 281474976710656) (hk : l.length + 100 < k) : laws_markResp.f k m l b n = some (n + 2 * l.length, markedF l.length n) := by
  unfold laws_markResp.f
  rw [laws_markFieldS_f hl h0 hm hk, Option.bind_some]
theorem laws_heldResp_f {k c : Nat} {m : Int} {b : ByteArray} {n : Int} (hl : (c : Int) ≤ 4398046511104) (h0 : 0 ≤ n) (hm : n ≤ 281474976710656) (hk : c + 100 < k) : laws_heldResp.f k m (markedF c n) b n = some (n + 2 * c) := by
  unfold laws_heldResp.f
  rw [laws_heldFieldS_f hl h0 hm hk, Option.bind_some, if_neg (by omega)]

end Go.Proofs.Ytdlgjhckmkmjhaa.Pure
