/- The law FnExactRespRead over plain values: with enough rounds it answers true, at every input within the bounds that any machine has. -/
import Derived.Test.YtnmanegjgidgcaaGreatDoorAllx0
import Derived.Test.YtnmanegjgidgcaaGreatDoorAllx14
import Derived.Test.YtnmanegjgidgcaaGreatDoorAllx15
import Derived.Test.YtnmanegjgidgcaaGreatDoorAllx17
import Derived.Test.YtnmanegjgidgcaaGreatDoorQhd8297ede
import Derived.Test.YtnmanegjgidgcaaGreatDoorQhf69ae8e5
namespace Go.Proofs.YtnmanegjgidgcaaGreatDoor.Pure
open Go.RowKit Go.Proofs.YtnmanegjgidgcaaGreatDoor.All Go.Proofs.YtnmanegjgidgcaaGreatDoorW.PrintWords Go.Proofs.YtnmanegjgidgcaaGreatDoorW.PrintLast
set_option linter.unusedVariables false
set_option linter.unusedSimpArgs false

theorem FnExactRespRead : ∀ (a0 : ByteArray), (a0.size ≤ maxLen) → ∃ k, laws_FnExactRespRead.f k a0 = some true := by
  intro s _
  obtain ⟨k, hk⟩ : ∃ k, 2199042130100 < k := ⟨_, Nat.lt_succ_self _⟩
  refine ⟨k + 1 + 1, ?_⟩
  unfold laws_FnExactRespRead.f
  split
  · rfl
  rename_i h0
  have hs : s.size ≤ 1048576 := by omega
  obtain ⟨r, e, e', h1, _⟩ := RespRead_same (k1 := k + 1) (k2 := k + 1) hs (by omega) (by omega)
  have e2 := spec_RespRead.mono _ _ _ e
  have e2' := impl_RespRead.mono _ _ _ e'
  obtain ⟨m, l, b, ok⟩ := r
  have hl : l.length ≤ 1048576 := by
    rcases h1 with h1 | ⟨m', l', b', h1, _, _, h4⟩
    · injection h1 with _ h1
      injection h1 with h1 _
      rw [h1]; exact Nat.zero_le _
    · injection h1 with _ h1
      injection h1 with h1 _
      rw [h1]; exact h4
  rw [e2, Option.bind_some]
  dsimp only
  rw [e2', Option.bind_some]
  dsimp only
  rw [laws_eqResp_f (by omega) (by omega), Option.bind_some, if_pos rfl]
  simp only [laws_FnExactRespRead.j0]
  rw [if_neg (by simp), laws_markResp_f (by omega) (by omega) (by omega) (by omega), Option.bind_some]
  dsimp only
  rw [laws_heldResp_f (by omega) (by omega) (by omega) (by omega), Option.bind_some, if_neg (by omega), if_pos rfl, e', Option.bind_some]
  dsimp only
  rw [laws_eqResp_f (by omega) (by omega), Option.bind_some, if_pos rfl]
  simp only [laws_FnExactRespRead.j1]
  rw [if_neg (by simp), laws_heldResp_f (by omega) (by omega) (by omega) (by omega), Option.bind_some, if_neg (by omega), if_pos rfl]

end Go.Proofs.YtnmanegjgidgcaaGreatDoor.Pure
