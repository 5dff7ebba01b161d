/- What the printed functions answer, in plain words: lemmas of this session. No condition of a statement lies here. -/
import Derived.Test.YtdbgkookjpgnnaaGreatDoorAllx0
import Derived.Test.YtdbgkookjpgnnaaGreatDoorAllx23
import Derived.Test.YtdbgkookjpgnnaaGreatDoorAllx24
import Derived.Test.YtdbgkookjpgnnaaGreatDoorQh4b6505aa
import Derived.Test.YtdbgkookjpgnnaaGreatDoorQh6ed553bc
namespace Go.Proofs.YtdbgkookjpgnnaaGreatDoor.Pure
open Go.RowKit Go.Proofs.YtdbgkookjpgnnaaGreatDoor.All Go.Proofs.YtdbgkookjpgnnaaGreatDoorW.PrintWords Go.Proofs.YtdbgkookjpgnnaaGreatDoorW.PrintLast
set_option linter.unusedVariables false
set_option linter.unusedSimpArgs false

theorem spec_l1Max_f (a b : Int) : spec_l1Max.f a b = some (max a b) := by
  unfold spec_l1Max.f
  split <;> (congr 1; omega)
/-! ### Plus -/
def plusI (a b : Int) : Int := min (min (max a 0) 1000000 + min (max b 0) 1000000) 1000000
theorem impl_within_f (a : Int) : impl_within.f a = some (min (max a 0) 1000000) := by
  unfold impl_within.f mx mn
  congr 1
  split <;> split <;> omega
theorem spec_Plus_f (a b : Int) : spec_Plus.f a b = some (plusI a b) := by
  unfold spec_Plus.f plusI
  simp only [spec_l1Min_f, spec_l1Max_f, Option.bind_some]
  rw [w64 (by omega)]
theorem impl_Plus_f (a b : Int) : impl_Plus.f a b = some (plusI a b) := by
  unfold impl_Plus.f plusI
  simp only [impl_within_f, Option.bind_some]
  rw [w64 (by omega)]
  congr 1; omega
theorem i64_wf {n : Int} (h : (Lit.int .i64 n).wf = true) : -9223372036854775808 ≤ n ∧ n ≤ 9223372036854775807 := by
  simp only [Lit.wf, Bool.and_eq_true, decide_eq_true_eq] at h
  exact ⟨h.1, h.2⟩
/-! ### AgeAt -/
def sinceI (t now : Int) : Int := if now ≤ t then 0 else min (now - t) 1000000
theorem spec_l7Since_f {t now : Int} (ht : -9223372036854775808 ≤ t ∧ t ≤ 9223372036854775807) (hn : -9223372036854775808 ≤ now ∧ now ≤ 9223372036854775807) : spec_l7Since.f t now = some (sinceI t now) := by
  unfold spec_l7Since.f sinceI
  split
  · rfl
  split
  · rw [w64 (n := t + 1000000) (by omega)]
    split
    · congr 1; omega
    · rw [w64 (by omega), spec_l1Min_f, Option.bind_some]
  · rw [w64 (by omega), spec_l1Min_f, Option.bind_some]
theorem impl_since_f {t now : Int} (ht : -9223372036854775808 ≤ t ∧ t ≤ 9223372036854775807) (hn : -9223372036854775808 ≤ now ∧ now ≤ 9223372036854775807) : impl_since.f t now = some (sinceI t now) := by
  unfold impl_since.f sinceI
  split
  · rfl
  by_cases h : now - t ≤ 9223372036854775807
  · rw [w64 (by omega), if_neg (by omega), impl_within_f, Option.bind_some]
    congr 1; omega
  · rw [if_pos (by unfold wrap64; omega)]
    congr 1; omega
def ageF (l : List S116) (t now : Int) : Int :=
  plusI (match getF ⟨#[97, 103, 101]⟩ l with | some v => if (numRead v).2 = true then (numRead v).1 else 1000000 | none => 0) (sinceI t now)
theorem impl_AgeAt_f {l : List S116} {t now : Int} (hl : l.length < 4398046511104) (ht : -9223372036854775808 ≤ t ∧ t ≤ 9223372036854775807) (hn : -9223372036854775808 ≤ now ∧ now ≤ 9223372036854775807) : impl_AgeAt.f l t now = some (ageF l t now) := by
  unfold impl_AgeAt.f ageF
  rw [impl_Get_f hl, Option.bind_some]
  cases h : getF ⟨#[97, 103, 101]⟩ l with
  | none => simp only [Option.isSome_none, Bool.false_eq_true, if_false]; rw [impl_since_f ht hn, Option.bind_some, impl_Plus_f, Option.bind_some]
  | some v =>
    simp only [Option.isSome_some, if_true, Option.getD_some]
    rw [impl_NumRead_f, Option.bind_some]
    by_cases h2 : (numRead v).2 = true
    · rw [if_pos h2, if_pos h2, impl_since_f ht hn, Option.bind_some, impl_Plus_f, Option.bind_some]
    · rw [if_neg h2, if_neg h2, impl_since_f ht hn, Option.bind_some, impl_Plus_f, Option.bind_some]
theorem spec_AgeAt_f {k : Nat} {l : List S116} {t now : Int} (hl : l.length < 4398046511104) (ht : -9223372036854775808 ≤ t ∧ t ≤ 9223372036854775807) (hn : -9223372036854775808 ≤ now ∧ now ≤ 9223372036854775807) (hk : l.length + 70 < k) : spec_AgeAt.f k l t now = some (ageF l t now) := by
  unfold spec_AgeAt.f ageF
  rw [spec_Get_f (by omega) (by omega), Option.bind_some]
  simp only
  rw [spec_NumRead_f (by omega), Option.bind_some]
  obtain ⟨k, rfl⟩ := succ_of (show 0 < k by omega)
  have j : ∀ (n : Int) (b : Bool), spec_AgeAt.j0 (k + 1) t now n b = some (plusI (if b = true then 1000000 else n) (sinceI t now)) := fun n b => by
    simp only [spec_AgeAt.j0]
    cases b
    · rw [if_neg (by simp), if_neg (by simp), spec_l7Since_f ht hn, Option.bind_some, spec_Plus_f, Option.bind_some]
    · rw [if_pos rfl, if_pos rfl, spec_l7Since_f ht hn, Option.bind_some, spec_Plus_f, Option.bind_some]
  cases h : getF ⟨#[97, 103, 101]⟩ l with
  | none =>
    have h0 : numRead ⟨#[]⟩ = (0, false) := numRead_no (fun n _ e => (dec_facts n).2.2 (e.symm.trans B_empty))
    simp only [Option.isSome_none, Bool.false_eq_true, if_false, Option.getD_none]
    rw [j, if_neg (by simp), h0]
  | some v =>
    simp only [Option.isSome_some, if_true, Option.getD_some]
    rw [j]
    cases h2 : (numRead v).2 <;> simp
/-! ### Fresh -/
def lifeF (l : List S116) : Int := (ccOfF l).2.2.2.2.2
def freshF (l : List S116) (t now : Int) : Bool := decide (ageF l t now < lifeF l) && !(ccOfF l).2.1
theorem spec_Life_f {k K : Nat} {l : List S116} (hK : K ≤ 1048576) (hl : SmallF K l) (hk : 4300000 < k) : spec_Life.f k l = some (lifeF l) := by
  unfold spec_Life.f lifeF
  rw [spec_CcOf_f hK hl hk, Option.bind_some]
theorem impl_Life_f {k K : Nat} {l : List S116} (hK : K ≤ 1048576) (hl : SmallF K l) (hk : 4300000 < k) : impl_Life.f k l = some (lifeF l) := by
  unfold impl_Life.f lifeF
  rw [impl_CcOf_f hK hl hk, Option.bind_some]
theorem spec_Fresh_f {k K : Nat} {l : List S116} {t now : Int} (hK : K ≤ 1048576) (hl : SmallF K l) (ht : -9223372036854775808 ≤ t ∧ t ≤ 9223372036854775807) (hn : -9223372036854775808 ≤ now ∧ now ≤ 9223372036854775807) (hk : 4300000 < k) : spec_Fresh.f k l t now = some (freshF l t now) := by
  have h1 := hl.1
  unfold spec_Fresh.f freshF
  rw [spec_AgeAt_f (by omega) ht hn (by omega), Option.bind_some, spec_Life_f hK hl hk, Option.bind_some, spec_CcOf_f hK hl hk, Option.bind_some]
  by_cases c : ageF l t now < lifeF l
  · rw [if_pos c, decide_eq_true c, Bool.true_and]
  · rw [if_neg c, decide_eq_false c, Bool.false_and]
theorem impl_Fresh_f {k K : Nat} {l : List S116} {t now : Int} (hK : K ≤ 1048576) (hl : SmallF K l) (ht : -9223372036854775808 ≤ t ∧ t ≤ 9223372036854775807) (hn : -9223372036854775808 ≤ now ∧ now ≤ 9223372036854775807) (hk : 4300000 < k) : impl_Fresh.f k l t now = some (freshF l t now) := by
  have h1 := hl.1
  unfold impl_Fresh.f freshF
  rw [impl_AgeAt_f (by omega) ht hn, Option.bind_some, impl_Life_f hK hl hk, Option.bind_some, impl_CcOf_f hK hl hk, Option.bind_some]
  by_cases c : ageF l t now < lifeF l
  · rw [if_pos c, decide_eq_true c, Bool.true_and]
  · rw [if_neg c, decide_eq_false c, Bool.false_and]

end Go.Proofs.YtdbgkookjpgnnaaGreatDoor.Pure
