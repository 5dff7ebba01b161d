/- The law FnExactFresh over plain values: with enough rounds it answers true, at every input within the bounds that any machine has. -/
import Derived.Test.YtdbgkookjpgnnaaGreatDoorAllx0
import Derived.Test.YtdbgkookjpgnnaaGreatDoorAllx25
import Derived.Test.YtdbgkookjpgnnaaGreatDoorQh6ed553bc
import Derived.Test.YtdbgkookjpgnnaaGreatDoorQh811bf2d5
import Derived.Test.YtdbgkookjpgnnaaGreatDoorQhc08794a4
namespace Go.Proofs.YtdbgkookjpgnnaaGreatDoor.Pure
open Go.RowKit Go.Proofs.YtdbgkookjpgnnaaGreatDoor.All Go.Proofs.YtdbgkookjpgnnaaGreatDoorW.PrintWords Go.Proofs.YtdbgkookjpgnnaaGreatDoorW.PrintLast
set_option linter.unusedVariables false
set_option linter.unusedSimpArgs false

theorem FnExactFresh : ∀ (a0 : List (S115)) (a1 : Int) (a2 : Int), (a0.length ≤ maxLen ∧ ∀ x_ ∈ a0, (x_.f0.size ≤ maxLen) ∧ (x_.f1.size ≤ maxLen)) → ((Lit.int .i64 a1).wf = true) → ((Lit.int .i64 a2).wf = true) → ∃ k, laws_FnExactFresh.f k a0 a1 a2 = some true := by
  intro l t now hl h1_ h2_
  have ht : -9223372036854775808 ≤ t ∧ t ≤ 9223372036854775807 := i64_wf h1_
  have hn : -9223372036854775808 ≤ now ∧ now ≤ 9223372036854775807 := i64_wf h2_
  obtain ⟨k, hk⟩ : ∃ k, 4300000 < k := ⟨_, Nat.lt_succ_self _⟩
  refine ⟨k, ?_⟩
  unfold laws_FnExactFresh.f
  rw [laws_szFieldS_f hl (by omega) (by omega) (by omega), Option.bind_some]
  split
  · rfl
  rename_i h
  obtain ⟨_, _, h1, h2⟩ := leftFS_nonneg h (by omega)
  have hs := SmallF.toF h1 h2
  rw [laws_toFieldS_f h1 (by omega), Option.bind_some, spec_Fresh_f (by omega) hs ht hn hk, Option.bind_some, Option.bind_some, impl_Fresh_f (by omega) hs ht hn hk, Option.bind_some, if_neg (by simp), Option.bind_some, laws_eqFieldS_f (by simp; omega) (by simp; omega), Option.bind_some, if_pos rfl]

end Go.Proofs.YtdbgkookjpgnnaaGreatDoor.Pure
