/- The law FnAges over plain values: with enough rounds it answers true, at every input within the bounds that any machine has. -/
import Derived.Test.YtdbgkookjpgnnaaGreatDoorAllx0
import Derived.Test.YtdbgkookjpgnnaaGreatDoorAllx2
import Derived.Test.YtdbgkookjpgnnaaGreatDoorAllx26
import Derived.Test.YtdbgkookjpgnnaaGreatDoorQh6ed553bc
import Derived.Test.YtdbgkookjpgnnaaGreatDoorQh811bf2d5
import Derived.Test.YtdbgkookjpgnnaaGreatDoorQhf36ce53b
namespace Go.Proofs.YtdbgkookjpgnnaaGreatDoor.Pure
open Go.RowKit Go.Proofs.YtdbgkookjpgnnaaGreatDoor.All Go.Proofs.YtdbgkookjpgnnaaGreatDoorW.PrintWords Go.Proofs.YtdbgkookjpgnnaaGreatDoorW.PrintLast
set_option linter.unusedVariables false
set_option linter.unusedSimpArgs false

theorem plusI_range (a b : Int) : 0 ≤ plusI a b ∧ plusI a b ≤ 1000000 := by unfold plusI; omega
theorem plusI_comm (a b : Int) : plusI a b = plusI b a := by unfold plusI; omega
theorem plusI_mono {a b c : Int} (h : b ≤ c) : plusI a b ≤ plusI a c := by unfold plusI; omega
theorem sinceI_mono (t now : Int) : sinceI t (now - 1) ≤ sinceI t now := by
  unfold sinceI
  split <;> split <;> omega
theorem ageF_mono (l : List S116) (t now : Int) : ageF l t (now - 1) ≤ ageF l t now := by
  unfold ageF; exact plusI_mono (sinceI_mono t now)
theorem ageF_range (l : List S116) (t now : Int) : 0 ≤ ageF l t now ∧ ageF l t now ≤ 1000000 := by unfold ageF; exact plusI_range _ _
theorem fresh_back {l : List S116} {t now : Int} (h : freshF l t now = true) : freshF l t (now - 1) = true ∧ ageF l t now < lifeF l := by
  unfold freshF at h ⊢
  rw [Bool.and_eq_true] at h ⊢
  have h1 := of_decide_eq_true h.1
  have h2 := ageF_mono l t now
  exact ⟨⟨decide_eq_true (by omega), h.2⟩, h1⟩
theorem FnAges_j2 {k K : Nat} {l : List S116} {t now : Int} (x : Bool) (hK : K ≤ 1048576) (hl : SmallF K l) (ht : -9223372036854775808 ≤ t ∧ t ≤ 9223372036854775807) (hn : x = true ∨ -1000000000 ≤ now ∧ now ≤ 1000000000) (hk : 4300001 < k) : laws_FnAges.j2 k l t now (freshF l t now) (ageF l t now) x = some true := by
  obtain ⟨k, rfl⟩ := succ_of (show 0 < k by omega)
  have h1 := hl.1
  simp only [laws_FnAges.j2]
  by_cases hx : x = true
  · rw [if_pos hx]
  · have hn := hn.resolve_left hx
    rw [if_neg hx, w64 (by omega), impl_AgeAt_f (by omega) ht (by omega), Option.bind_some, if_pos (ageF_mono l t now)]
    by_cases hf : freshF l t now = true
    · obtain ⟨f1, f2⟩ := fresh_back hf
      rw [if_pos hf, impl_Fresh_f hK hl ht (by omega) (by omega), Option.bind_some, if_pos f1, impl_Life_f hK hl (by omega), Option.bind_some, decide_eq_true f2]
    · rw [if_neg hf]
theorem FnAges : ∀ (a0 : List (Int)), (a0.length ≤ maxLen ∧ ∀ x_ ∈ a0, (Lit.int .u8 x_).wf = true) → ∃ k, laws_FnAges.f k a0 = some true := by
  intro x _
  obtain ⟨k, hk⟩ : ∃ k, 5000000 < k := ⟨_, Nat.lt_succ_self _⟩
  refine ⟨k + 1 + 1, ?_⟩
  unfold laws_FnAges.f laws_big.f
  rw [Option.bind_some]
  by_cases hb : (x.length : Int) > 1048576
  · rw [if_pos (decide_eq_true hb)]
  rw [if_neg (by simpa using hb)]
  obtain ⟨l, t, now, e, hs, ht, hn⟩ := spec_DrawFresh_f (k := k + 1 + 1) (l := x) (by omega) (by omega)
  have h1 := hs.1
  have hr := ageF_range l t now
  rw [e, Option.bind_some]
  dsimp only
  rw [impl_Fresh_f (K := 27) (by omega) hs ht hn (by omega), Option.bind_some, impl_AgeAt_f (by omega) ht hn, Option.bind_some, spec_Fresh_f (K := 27) (by omega) hs ht hn (by omega), Option.bind_some, if_neg (by simp), spec_AgeAt_f (by omega) ht hn (by omega), Option.bind_some, if_pos rfl, if_neg (by omega), if_neg (by omega),
    impl_Life_f (K := 27) (by omega) hs (by omega), Option.bind_some, spec_Life_f (K := 27) (by omega) hs (by omega), Option.bind_some, show (lifeF l != lifeF l) = false by simp]
  simp only [laws_FnAges.j0]
  obtain ⟨a, b, e2⟩ := spec_DrawPlus_f (k := k + 1) (l := x) (by omega) (by omega)
  have hp := plusI_range a b
  rw [if_neg (by simp), e2, Option.bind_some]
  dsimp only
  rw [impl_Plus_f, Option.bind_some, spec_Plus_f, Option.bind_some, if_pos rfl, impl_Plus_f, Option.bind_some, if_pos (plusI_comm a b), if_neg (by omega), decide_eq_false (by omega)]
  simp only [laws_FnAges.j1]
  rw [if_neg (by simp)]
  by_cases c : now < -1000000000
  · rw [if_pos c]; exact FnAges_j2 (K := 27) true (by omega) hs ht (.inl rfl) (by omega)
  · rw [if_neg c]
    refine FnAges_j2 (K := 27) _ (by omega) hs ht ?_ (by omega)
    by_cases c2 : now > 1000000000
    · exact .inl (decide_eq_true c2)
    · exact .inr ⟨by omega, by omega⟩

end Go.Proofs.YtdbgkookjpgnnaaGreatDoor.Pure
