/- The law FnExactObjText over plain values: with enough rounds it answers true, at every input within the bounds that any machine has. -/
import Derived.Test.YtdbgkookjpgnnaaGreatDoorAllx0
import Derived.Test.YtdbgkookjpgnnaaGreatDoorAllx41
import Derived.Test.YtdbgkookjpgnnaaGreatDoorQh6ed553bc
import Derived.Test.YtdbgkookjpgnnaaGreatDoorQh839f10eb
import Derived.Test.YtdbgkookjpgnnaaGreatDoorQhe16f25b0
import Derived.Test.YtdbgkookjpgnnaaGreatDoorXKinds
namespace Go.Proofs.YtdbgkookjpgnnaaGreatDoor.Pure
open Go.RowKit Go.Proofs.YtdbgkookjpgnnaaGreatDoor.All Go.Proofs.YtdbgkookjpgnnaaGreatDoorW.PrintWords Go.Proofs.YtdbgkookjpgnnaaGreatDoorW.PrintLast
set_option linter.unusedVariables false
set_option linter.unusedSimpArgs false

theorem FnExactObjText : ∀ (a0 : S85), ((a0.f0.size ≤ maxLen) ∧ (a0.f1.length ≤ maxLen ∧ ∀ x_ ∈ a0.f1, x_.size ≤ maxLen) ∧ (a0.f2.length ≤ maxLen ∧ ∀ x_ ∈ a0.f2, x_.size ≤ maxLen) ∧ (((Lit.int .i64 a0.f3.f0).wf = true) ∧ (a0.f3.f1.length ≤ maxLen ∧ ∀ x_ ∈ a0.f3.f1, (x_.f0.size ≤ maxLen) ∧ (x_.f1.size ≤ maxLen)) ∧ (a0.f3.f2.size ≤ maxLen)) ∧ ((Lit.int .i64 a0.f4).wf = true)) → ∃ k, laws_FnExactObjText.f k a0.f0 a0.f1 a0.f2 a0.f3.f0 a0.f3.f1 a0.f3.f2 a0.f4 = some true := by
  rintro ⟨p, ns, vs, ⟨m, l, b⟩, t⟩ ⟨hp, hns, hvs, ⟨_, hl, hb⟩, _⟩
  dsimp only at hp hns hvs hl hb
  obtain ⟨k, hk⟩ : ∃ k, 9300000 < k := ⟨_, Nat.lt_succ_self _⟩
  refine ⟨k, ?_⟩
  unfold laws_FnExactObjText.f
  obtain ⟨r, e, hr⟩ := laws_szObj_f (k := k) (m := m) (t := t) hp hns hvs hl hb (n := 1048576) (by omega) (by omega) (by omega)
  dsimp only at e ⊢
  rw [e, Option.bind_some]
  split
  · rfl
  rename_i h0
  rcases hr with hr | ⟨_, _, hp, hb, hn, hv, h1, h2⟩
  · omega
  have hs := SmallF.toF h1 h2
  rw [laws_toObj_f hn.1 hv.1 h1 (by omega), Option.bind_some]
  dsimp only
  rw [spec_ObjText_f (K := 1048576) (by omega) hp hn hv hs (by omega), Option.bind_some, Option.bind_some]
  dsimp only
  rw [impl_ObjText_f (K := 1048576) (by omega) hp hn hv hs (by omega), Option.bind_some, if_pos rfl, Option.bind_some]
  dsimp only
  rw [laws_eqObj_f (by omega) (by omega) (by simp; omega) (by omega), Option.bind_some, if_pos rfl]

end Go.Proofs.YtdbgkookjpgnnaaGreatDoor.Pure
