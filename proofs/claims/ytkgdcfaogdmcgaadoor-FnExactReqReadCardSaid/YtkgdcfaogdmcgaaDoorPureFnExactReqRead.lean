/- The law FnExactReqRead over plain values: with enough rounds it answers true, at every input within the bounds that any machine has. -/
import Derived.Test.YtkgdcfaogdmcgaaDoorAllx0
import Derived.Test.YtkgdcfaogdmcgaaDoorAllx21
import Derived.Test.YtkgdcfaogdmcgaaDoorAllx22
import Derived.Test.YtkgdcfaogdmcgaaDoorAllx23
import Derived.Test.YtkgdcfaogdmcgaaDoorQh1a027a6e
namespace Go.Proofs.YtkgdcfaogdmcgaaDoor.Pure
open Go.RowKit Go.Proofs.YtkgdcfaogdmcgaaDoor.All Go.Proofs.YtkgdcfaogdmcgaaDoorW.PrintWords Go.Proofs.YtkgdcfaogdmcgaaDoorW.PrintLast
set_option linter.unusedVariables false
set_option linter.unusedSimpArgs false

theorem FnExactReqRead : ∀ (a0 : ByteArray), (a0.size ≤ maxLen) → ∃ k, laws_FnExactReqRead.f k a0 = some true := by
  intro s _
  obtain ⟨k, hk⟩ : ∃ k, 2199042130100 < k := ⟨_, Nat.lt_succ_self _⟩
  refine ⟨k + 1 + 1, ?_⟩
  unfold laws_FnExactReqRead.f
  split
  · rfl
  rename_i h0
  have hs : s.size ≤ 1048576 := by omega
  obtain ⟨r, e, e', h1, _⟩ := ReqRead_same (k1 := k + 1) (k2 := k + 1) hs (by omega) (by omega)
  have e2 := spec_ReqRead.mono _ _ _ e
  have e2' := impl_ReqRead.mono _ _ _ e'
  obtain ⟨m, p, l, b, ok⟩ := r
  have hl : l.length ≤ 1048576 := by
    rcases h1 with h1 | ⟨m', p', l', b', h1, _, _, h4⟩
    · injection h1 with _ h1
      injection h1 with _ h1
      injection h1 with h1 _
      rw [h1]; exact Nat.zero_le _
    · injection h1 with _ h1
      injection h1 with _ h1
      injection h1 with h1 _
      rw [h1]; exact h4
  rw [e2, Option.bind_some]
  dsimp only
  rw [e2', Option.bind_some]
  dsimp only
  rw [laws_eqReq_f (by omega) (by omega), Option.bind_some, if_pos rfl]
  simp only [laws_FnExactReqRead.j0]
  rw [if_neg (by simp), laws_markReq_f (by omega) (by omega) (by omega) (by omega), Option.bind_some]
  dsimp only
  rw [laws_heldReq_f (by omega) (by omega) (by omega) (by omega), Option.bind_some, if_neg (by omega), if_pos rfl, e', Option.bind_some]
  dsimp only
  rw [laws_eqReq_f (by omega) (by omega), Option.bind_some, if_pos rfl]
  simp only [laws_FnExactReqRead.j1]
  rw [if_neg (by simp), laws_heldReq_f (by omega) (by omega) (by omega) (by omega), Option.bind_some, if_neg (by omega), if_pos rfl]

end Go.Proofs.YtkgdcfaogdmcgaaDoor.Pure
