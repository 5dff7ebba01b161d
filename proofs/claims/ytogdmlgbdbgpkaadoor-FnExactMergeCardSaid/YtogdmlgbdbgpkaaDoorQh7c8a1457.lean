/- What the printed functions answer, in plain words: lemmas of this session. No condition of a statement lies here. -/
import Derived.Test.YtogdmlgbdbgpkaaDoorAllx0
import Derived.Test.YtogdmlgbdbgpkaaDoorAllx15
import Derived.Test.YtogdmlgbdbgpkaaDoorQh5b1878b7
import Derived.Test.YtogdmlgbdbgpkaaDoorQhae073cff
namespace Go.Proofs.YtogdmlgbdbgpkaaDoor.Pure
open Go.RowKit Go.Proofs.YtogdmlgbdbgpkaaDoor.All Go.Proofs.YtogdmlgbdbgpkaaDoorW.PrintWords Go.Proofs.YtogdmlgbdbgpkaaDoorW.PrintLast
set_option linter.unusedVariables false
set_option linter.unusedSimpArgs false

theorem laws_szResp_f {k : Nat} {m : Int} {b : ByteArray} {l : List S118} {n : Int} (hl : l.length ≤ maxLen ∧ ∀ x ∈ l, x.f0.size ≤ maxLen ∧ x.f1.size ≤ maxLen) (hb : b.size ≤ maxLen) (h0 : 0 ≤ n) (h1 : n ≤ 1048576) (hk : 1048577 < k) :
    ∃ r, laws_szResp.f k m l b n = some r ∧ (r < 0 ∨ r ≤ n ∧ r ≤ 1048576 ∧ b.size ≤ 1048576 ∧ l.length ≤ 1048576 ∧ (∀ x ∈ l, x.f0.size ≤ 1048576 ∧ x.f1.size ≤ 1048576) ∧ r + b.size + l.length + szFS l = n) := by
  unfold maxLen at hb
  unfold laws_szResp.f
  rw [laws_szFieldS_f hl (by omega) (by omega) hk, Option.bind_some]
  split
  · exact ⟨_, rfl, .inl (by omega)⟩
  · rename_i h2
    obtain ⟨g1, g2, g3, g4⟩ := leftFS_nonneg h2 (by omega)
    have hr := szFS_nonneg l
    have g5 : leftFS n l ≤ n ∧ leftFS n l + l.length + szFS l = n := by
      unfold leftFS at h2 g1 ⊢; split
      · rename_i c; rw [if_pos c] at h2; omega
      · omega
    rw [w64 (by omega)]
    split
    · exact ⟨_, rfl, .inl (by omega)⟩
    · exact ⟨_, rfl, .inr ⟨by omega, by omega, by omega, g3, g4, by omega⟩⟩
theorem laws_toResp_f {k : Nat} {m : Int} {b : ByteArray} {l : List S118} (hl : l.length ≤ 1048576) (hk : l.length < k) : laws_toResp.f k m l b = some (m, l.map toF, b) := by
  unfold laws_toResp.f
  rw [laws_toFieldS_f hl hk, Option.bind_some]
theorem laws_eqResp_f {k : Nat} {m : Int} {b : ByteArray} {l : List S78} (hl : l.length ≤ 4398046511104) (hk : l.length < k) : laws_eqResp.f k m l b m l b = some true := by
  unfold laws_eqResp.f
  rw [if_pos rfl, laws_eqFieldS_f hl hk, Option.bind_some, if_pos rfl, if_pos rfl]

end Go.Proofs.YtogdmlgbdbgpkaaDoor.Pure
