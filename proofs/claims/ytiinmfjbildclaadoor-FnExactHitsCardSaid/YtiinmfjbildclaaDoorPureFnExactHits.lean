/- The law FnExactHits over plain values: with enough rounds it answers true, at every input within the bounds that any machine has. -/
import Derived.Test.YtiinmfjbildclaaDoorAllx0
import Derived.Test.YtiinmfjbildclaaDoorAllx55
import Derived.Test.YtiinmfjbildclaaDoorQHitsh3a1bf35b
import Derived.Test.YtiinmfjbildclaaDoorXKinds
namespace Go.Proofs.YtiinmfjbildclaaDoor.Pure
open Go.RowKit Go.Proofs.YtiinmfjbildclaaDoor.All Go.Proofs.YtiinmfjbildclaaDoorW.PrintWords Go.Proofs.YtiinmfjbildclaaDoorW.PrintLast
set_option linter.unusedVariables false
set_option linter.unusedSimpArgs false

theorem FnExactHits : ∀ (a0 : S81) (a1 : S72), (((Lit.int .i64 a0.f0).wf = true) ∧ (a0.f1.size ≤ maxLen) ∧ (a0.f2.size ≤ maxLen) ∧ ((Lit.int .i64 a0.f3).wf = true)) → ((a1.f0.size ≤ maxLen) ∧ (a1.f1.length ≤ maxLen ∧ ∀ x_ ∈ a1.f1, x_.size ≤ maxLen) ∧ (a1.f2.length ≤ maxLen ∧ ∀ x_ ∈ a1.f2, x_.size ≤ maxLen) ∧ (((Lit.int .i64 a1.f3.f0).wf = true) ∧ (a1.f3.f1.length ≤ maxLen ∧ ∀ x_ ∈ a1.f3.f1, (x_.f0.size ≤ maxLen) ∧ (x_.f1.size ≤ maxLen)) ∧ (a1.f3.f2.size ≤ maxLen)) ∧ ((Lit.int .i64 a1.f4).wf = true)) → ∃ k, laws_FnExactHits.f k a0.f0 a0.f1 a0.f2 a0.f3 a1.f0 a1.f1 a1.f2 a1.f3.f0 a1.f3.f1 a1.f3.f2 a1.f4 = some true := by
  rintro ⟨kd, a, c, u⟩ ⟨p, ns, vs, ⟨m, l, b⟩, t⟩ ⟨_, ha, hc, _⟩ ⟨hp, hns, hvs, ⟨_, hl, hb⟩, _⟩
  dsimp only at ha hc hp hns hvs hl hb
  obtain ⟨k, hk⟩ : ∃ k, 9400000 < k := ⟨_, Nat.lt_succ_self _⟩
  refine ⟨k, ?_⟩
  unfold laws_FnExactHits.f
  obtain ⟨n, en, hn0⟩ := laws_szBan_f (kd := kd) (u := u) ha hc (n := 1048576) (by omega) (by omega)
  dsimp only
  rw [en, Option.bind_some]
  split
  · rfl
  rename_i hh
  rcases hn0 with hn0 | ⟨n0, n1, ha, hc⟩
  · omega
  obtain ⟨r, e, hr⟩ := laws_szObj_f (k := k) (m := m) (t := t) hp hns hvs hl hb (n := n) (by omega) (by omega) (by omega)
  rw [e, Option.bind_some]
  split
  · rfl
  rename_i h0
  rcases hr with hr | ⟨_, _, hp, hb, hn, hv, h1, h2⟩
  · omega
  have hs := SmallF.toF h1 h2
  rw [laws_toBan_f, Option.bind_some, laws_toObj_f hn.1 hv.1 h1 (by omega), Option.bind_some]
  dsimp only
  rw [spec_Hits_f (K := 1048576) (by omega) ha hc hp hn hv hs (by omega), Option.bind_some, Option.bind_some, Option.bind_some]
  dsimp only
  rw [impl_Hits_f (K := 1048576) (by omega) ha hc hp hn hv hs (by omega), Option.bind_some, if_neg (by simp), Option.bind_some]
  dsimp only
  rw [laws_eqObj_f (by omega) (by omega) (by simp; omega) (by omega), Option.bind_some, if_pos rfl]

end Go.Proofs.YtiinmfjbildclaaDoor.Pure
