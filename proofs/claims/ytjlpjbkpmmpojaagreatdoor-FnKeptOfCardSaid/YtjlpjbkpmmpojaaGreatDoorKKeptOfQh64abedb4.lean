/- What the printed functions answer, in plain words: lemmas of this session. No condition of a statement lies here. -/
import Derived.Test.YtjlpjbkpmmpojaaGreatDoorKKeptOfAllx0
import Derived.Test.YtjlpjbkpmmpojaaGreatDoorKKeptOfAllx24
import Derived.Test.YtjlpjbkpmmpojaaGreatDoorKKeptOfQh738eabfc
import Derived.Test.YtjlpjbkpmmpojaaGreatDoorKKeptOfQh9b113787
import Derived.Test.YtjlpjbkpmmpojaaGreatDoorKKeptOfQhd4f6af10
namespace Go.Proofs.YtjlpjbkpmmpojaaGreatDoor.Pure
open Go.RowKit Go.Proofs.YtjlpjbkpmmpojaaGreatDoor.All Go.Proofs.YtjlpjbkpmmpojaaGreatDoorW.PrintWords Go.Proofs.YtjlpjbkpmmpojaaGreatDoorW.PrintLast
set_option linter.unusedVariables false
set_option linter.unusedSimpArgs false

theorem spec_l3DrawBadReq_l0 (l : List Int) (hl : (l.length : Int) ≤ 4611686018427387904) (m : Int) (p : ByteArray) (r : List S116) : ∀ (d k : Nat) (b : ByteArray) (i h : Int), b.size + d = 200 → 0 ≤ i → i ≤ l.length → d < k → ∃ b' i' h', spec_l3DrawBadReq.l0 k l i h m p r b = some (m, p, r, b', i', h') ∧ b'.size ≤ 200 ∧ 0 ≤ i' ∧ i' ≤ l.length := by
  intro d
  induction d with
  | zero =>
    intro k b i h hd h0 hi hk
    obtain ⟨k, rfl⟩ := succ_of hk
    obtain ⟨v, i1, h1, e, v0, v1, _, i10, i11⟩ := spec_l1Below_f l i h 2 h0 hl hi
    have v2 := v1 (by omega)
    simp only [spec_l3DrawBadReq.l0]
    rw [e, Option.bind_some]
    dsimp only
    rw [w64 (by omega), if_neg (by omega)]
    exact ⟨_, _, _, rfl, by omega, i10, i11⟩
  | succ d ih =>
    intro k b i h hd h0 hi hk
    obtain ⟨k, rfl⟩ := succ_of hk
    obtain ⟨v, i1, h1, e, v0, v1, _, i10, i11⟩ := spec_l1Below_f l i h 2 h0 hl hi
    have v2 := v1 (by omega)
    simp only [spec_l3DrawBadReq.l0]
    rw [e, Option.bind_some]
    dsimp only
    rw [w64 (by omega)]
    split
    · rw [if_pos (by omega)]
      exact ih k _ i1 h1 (by rw [ByteArray.size_append]; show b.size + 1 + d = 200; omega) i10 i11 (by omega)
    · exact ⟨_, _, _, rfl, by omega, i10, i11⟩
theorem spec_l3DrawBadReq_f {k : Nat} {l : List Int} {i h : Int} (hl : (l.length : Int) ≤ 4611686018427387904) (h0 : 0 ≤ i) (hi : i ≤ l.length) (hk : 300 < k) : ∃ m p r b i' h', spec_l3DrawBadReq.f k l i h = some (m, p, r, b, i', h') ∧ p.size ≤ 61 ∧ SmallF 27 r ∧ b.size ≤ 200 ∧ 0 ≤ i' ∧ i' ≤ l.length := by
  unfold spec_l3DrawBadReq.f
  obtain ⟨m, p, r, b, i1, h1, e, _, hp, hr, _, hb, i10, i11⟩ := spec_l3DrawReq_f (k := k) (h := h) hl h0 hi (by omega)
  have hr' : SmallF 27 r := ⟨by have := hr.1; omega, fun x hx => by have := hr.2 x hx; omega⟩
  rw [e, Option.bind_some]
  dsimp only
  obtain ⟨v, i2, h2, e2, _, _, _, i20, i21⟩ := spec_l1Below_f l i1 h1 20 i10 hl i11
  rw [e2, Option.bind_some]
  dsimp only
  split
  · obtain ⟨t, i3, h3, e3, _, _, _, i30, i31⟩ := spec_l1Below_f l i2 h2 7 i20 hl i21
    rw [e3, Option.bind_some]
    exact ⟨_, _, _, _, _, _, rfl, by omega, hr', by omega, i30, i31⟩
  · split
    · obtain ⟨t, i3, h3, e3, ht, i30, i31⟩ := spec_l1Pick_le l i2 h2 61 [(⟨#[]⟩ : ByteArray), (⟨#[97]⟩ : ByteArray), (⟨#[47, 32, 98]⟩ : ByteArray), (⟨#[47, 127]⟩ : ByteArray), (⟨#[47, 48, 49, 50, 51, 52, 53, 54, 55, 56, 57, 48, 49, 50, 51, 52, 53, 54, 55, 56, 57, 48, 49, 50, 51, 52, 53, 54, 55, 56, 57, 48, 49, 50, 51, 52, 53, 54, 55, 56, 57, 48, 49, 50, 51, 52, 53, 54, 55, 56, 57, 48, 49, 50, 51, 52, 53, 54, 55, 56, 57]⟩ : ByteArray)] i20 hl i21 (by decide) (by rfl)
      rw [e3, Option.bind_some]
      exact ⟨_, _, _, _, _, _, rfl, ht, hr', by omega, i30, i31⟩
    · split
      · obtain ⟨fs, i3, h3, e3, hf, i30, i31⟩ := spec_l2Draw_f (k := k) (h := h2) hl i20 i21 (by omega)
        rw [e3, Option.bind_some]
        exact ⟨_, _, _, _, _, _, rfl, by omega, ⟨by have := hf.1; dsimp only; omega, fun x hx => by have := hf.2 x hx; omega⟩, by omega, i30, i31⟩
      · split
        · obtain ⟨b', i3, h3, e3, hb', i30, i31⟩ := spec_l3DrawBadReq_l0 l hl m p r (200 - b.size) k b i2 h2 (by omega) i20 i21 (by omega)
          exact ⟨m, p, r, b', i3, h3, e3, by omega, hr', hb', i30, i31⟩
        · exact ⟨_, _, _, _, _, _, rfl, by omega, hr', by omega, i20, i21⟩
theorem spec_l9Draw_f {k : Nat} {l : List Int} (hl : (l.length : Int) ≤ 4611686018427387904) (hk : l.length + 300 < k) : ∃ m p q b st r rb, spec_l9Draw.f k l = some (m, p, q, b, st, r, rb) ∧ p.size ≤ 61 ∧ SmallF 27 q ∧ b.size ≤ 200 ∧ SmallF 27 r ∧ rb.size ≤ 200 := by
  unfold spec_l9Draw.f
  obtain ⟨h, e⟩ := spec_l1New_f (k := k) hl (by omega)
  rw [e, Option.bind_some]
  dsimp only
  obtain ⟨m, p, q, b, i1, h1, e1, hp, hq, hb, i10, i11⟩ := spec_l3DrawBadReq_f (k := k) (i := 0) (h := h) hl (by omega) (by omega) (by omega)
  rw [e1, Option.bind_some]
  dsimp only
  obtain ⟨st, r, rb, i2, h2, e2, hr, hrb, _⟩ := spec_l3DrawBadResp_f (k := k) (h := h1) hl i10 i11 (by omega)
  rw [e2, Option.bind_some]
  exact ⟨_, _, _, _, _, _, _, rfl, hp, hq, hb, hr, hrb⟩

end Go.Proofs.YtjlpjbkpmmpojaaGreatDoor.Pure
