/- What the printed functions answer, in plain words: part f_req of this session's lemmas. No condition of a statement lies here. -/
import Derived.Test.YtdlgjhckmkmjhaaAllx0
import Derived.Test.YtdlgjhckmkmjhaaAllx8
import Derived.Test.YtdlgjhckmkmjhaaQabase
import Derived.Test.YtdlgjhckmkmjhaaQcfield
namespace Go.Proofs.Ytdlgjhckmkmjhaa.Pure
open Go.RowKit Go.Proofs.Ytdlgjhckmkmjhaa.All Go.Proofs.YtdlgjhckmkmjhaaW.PrintWords Go.Proofs.YtdlgjhckmkmjhaaW.PrintLast
set_option linter.unusedVariables false
set_option linter.unusedSimpArgs false

theorem laws_szReq_f {k : Nat} {m : Int} {p b : ByteArray} {l : List S79} {n : Int} (hp : p.size ≤ maxLen) (hl : l.length ≤ maxLen ∧ ∀ x ∈ l, x.f0.size ≤ maxLen ∧ x.f1.size ≤ maxLen) (hb : b.size ≤ maxLen) (h0 : 0 ≤ n) (h1 : n ≤ 1048576) (hk : 1048577 < k) :
    ∃ r, laws_szReq.f k m p l b n = some r ∧ (r < 0 ∨ r ≤ n ∧ r ≤ 1048576 ∧ p.size ≤ 1048576 ∧ b.size ≤ 1048576 ∧ l.length ≤ 1048576 ∧ (∀ x ∈ l, x.f0.size ≤ 1048576 ∧ x.f1.size ≤ 1048576) ∧ r + p.size + b.size + l.length + szFS l = n) := by
  unfold maxLen at hp hb
  unfold laws_szReq.f
  rw [w64 (n := n - p.size) (by omega)]
  split
  · exact ⟨_, rfl, .inl (by omega)⟩
  · rename_i h
    rw [laws_szFieldS_f hl (by omega) (by omega) hk, Option.bind_some]
    split
    · exact ⟨_, rfl, .inl (by omega)⟩
    · rename_i h2
      obtain ⟨g1, g2, g3, g4⟩ := leftFS_nonneg h2 (by omega)
      have hr := szFS_nonneg l
      have g5 : leftFS (n - p.size) l ≤ n - p.size ∧ leftFS (n - p.size) l + l.length + szFS l = n - p.size := by
        unfold leftFS at h2 g1 ⊢; split
        · rename_i c; rw [if_pos c] at h2; omega
        · omega
      rw [w64 (by omega)]
      split
      · exact ⟨_, rfl, .inl (by omega)⟩
      · exact ⟨_, rfl, .inr ⟨by omega, by omega, by omega, by omega, g3, g4, by omega⟩⟩
theorem laws_toReq_f {k : Nat} {m : Int} {p b : ByteArray} {l : List S79} (hl : l.length ≤ 1048576) (hk : l.length < k) : laws_toReq.f k m p l b = some (m, p, l.map toF, b) := by
  unfold laws_toReq.f
  rw [laws_toFieldS_f hl hk, Option.bind_some]
theorem laws_eqReq_f {k : Nat} {m : Int} {p b : ByteArray} {l : List S81} (hl : l.length ≤ 4398046511104) (hk : l.length < k) : laws_eqReq.f k m p l b m p l b = some true := by
  unfold laws_eqReq.f
  rw [if_pos rfl, if_pos rfl, laws_eqFieldS_f hl hk, Option.bind_some, if_pos rfl, if_pos rfl]

end Go.Proofs.Ytdlgjhckmkmjhaa.Pure
