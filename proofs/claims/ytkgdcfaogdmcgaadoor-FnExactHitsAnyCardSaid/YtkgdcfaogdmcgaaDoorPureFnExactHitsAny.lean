/- The law FnExactHitsAny over plain values: with enough rounds it answers true, at every input within the bounds that any machine has. -/
import Derived.Test.YtkgdcfaogdmcgaaDoorAllx0
import Derived.Test.YtkgdcfaogdmcgaaDoorAllx33
import Derived.Test.YtkgdcfaogdmcgaaDoorAllx34
import Derived.Test.YtkgdcfaogdmcgaaDoorQh485634e3
import Derived.Test.YtkgdcfaogdmcgaaDoorQh7abdbcf7
import Derived.Test.YtkgdcfaogdmcgaaDoorQhde652fc2
import Derived.Test.YtkgdcfaogdmcgaaDoorXKinds
namespace Go.Proofs.YtkgdcfaogdmcgaaDoor.Pure
open Go.RowKit Go.Proofs.YtkgdcfaogdmcgaaDoor.All Go.Proofs.YtkgdcfaogdmcgaaDoorW.PrintWords Go.Proofs.YtkgdcfaogdmcgaaDoorW.PrintLast
set_option linter.unusedVariables false
set_option linter.unusedSimpArgs false

theorem FnExactHitsAny : ∀ (a0 : List (S107)) (a1 : S51), (a0.length ≤ maxLen ∧ ∀ x_ ∈ a0, ((Lit.int .i64 x_.f0).wf = true) ∧ (x_.f1.size ≤ maxLen) ∧ (x_.f2.size ≤ maxLen) ∧ ((Lit.int .i64 x_.f3).wf = true)) → ((a1.f0.size ≤ maxLen) ∧ (a1.f1.length ≤ maxLen ∧ ∀ x_ ∈ a1.f1, x_.size ≤ maxLen) ∧ (a1.f2.length ≤ maxLen ∧ ∀ x_ ∈ a1.f2, x_.size ≤ maxLen) ∧ (((Lit.int .i64 a1.f3.f0).wf = true) ∧ (a1.f3.f1.length ≤ maxLen ∧ ∀ x_ ∈ a1.f3.f1, (x_.f0.size ≤ maxLen) ∧ (x_.f1.size ≤ maxLen)) ∧ (a1.f3.f2.size ≤ maxLen)) ∧ ((Lit.int .i64 a1.f4).wf = true)) → ∃ k, laws_FnExactHitsAny.f k a0 a1.f0 a1.f1 a1.f2 a1.f3.f0 a1.f3.f1 a1.f3.f2 a1.f4 = some true := by
  rintro bs ⟨p, ns, vs, ⟨m, l, b⟩, t⟩ ⟨hb1, hb2⟩ ⟨hp, hns, hvs, ⟨_, hl, hb⟩, _⟩
  dsimp only at hp hns hvs hl hb
  obtain ⟨k, hk⟩ : ∃ k, 10400000 < k := ⟨_, Nat.lt_succ_self _⟩
  refine ⟨k, ?_⟩
  unfold laws_FnExactHitsAny.f
  obtain ⟨n, en, hn0⟩ := laws_szBanS_f (k := k) hb1 (fun x hx => ⟨(hb2 x hx).2.1, (hb2 x hx).2.2.1⟩) (n := 1048576) (by omega) (by omega) (by omega)
  dsimp only
  rw [en, Option.bind_some]
  split
  · rfl
  rename_i hh
  rcases hn0 with hn0 | ⟨n0, n1, hbl, hbx⟩
  · omega
  obtain ⟨r, e, hr⟩ := laws_szObj_f (k := k) (m := m) (t := t) hp hns hvs hl hb (n := n) (by omega) (by omega) (by omega)
  rw [e, Option.bind_some]
  split
  · rfl
  rename_i h0
  rcases hr with hr | ⟨_, _, hp, hb, hn, hv, h1, h2⟩
  · omega
  have hs := SmallF.toF h1 h2
  have hx : ∀ x ∈ bs.map toBn, x.f1.size ≤ 1048576 ∧ x.f2.size ≤ 1048576 := fun x hx => by
    obtain ⟨y, hy, rfl⟩ := List.mem_map.1 hx; exact hbx y hy
  obtain ⟨i1, i2⟩ := HitsAny_l0 1048576 (by omega) (bs.map toBn) (by simp; omega) hx p ns vs m (l.map toF) b t hp hn hv hs (bs.map toBn).length k 0 (by omega) (by simp; omega)
  rw [List.drop_zero] at i1 i2
  rw [laws_toBanS_f hbl (by omega), Option.bind_some, laws_toObj_f hn.1 hv.1 h1 (by omega), Option.bind_some]
  dsimp only
  unfold spec_HitsAny.f impl_HitsAny.f
  rw [show (0 : Int) = ((0 : Nat) : Int) from rfl, i1, Option.bind_some, Option.bind_some, Option.bind_some]
  dsimp only
  rw [i2, Option.bind_some, if_neg (by simp), Option.bind_some, laws_eqBanS_f (by simp; omega) (by simp; omega), Option.bind_some, if_pos rfl, Option.bind_some]
  dsimp only
  rw [laws_eqObj_f (by omega) (by omega) (by simp; omega) (by omega), Option.bind_some, if_pos rfl]

end Go.Proofs.YtkgdcfaogdmcgaaDoor.Pure
