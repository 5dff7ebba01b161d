/- What the printed functions answer, in plain words: lemmas of this session. No condition of a statement lies here. -/
import Derived.Test.YtnmanegjgidgcaaGreatDoorAllx0
import Derived.Test.YtnmanegjgidgcaaGreatDoorAllx18
import Derived.Test.YtnmanegjgidgcaaGreatDoorAllx19
import Derived.Test.YtnmanegjgidgcaaGreatDoorQhd8297ede
import Derived.Test.YtnmanegjgidgcaaGreatDoorQhe0a6f4eb
import Derived.Test.YtnmanegjgidgcaaGreatDoorQhf78647d4
namespace Go.Proofs.YtnmanegjgidgcaaGreatDoor.Pure
open Go.RowKit Go.Proofs.YtnmanegjgidgcaaGreatDoor.All Go.Proofs.YtnmanegjgidgcaaGreatDoorW.PrintWords Go.Proofs.YtnmanegjgidgcaaGreatDoorW.PrintLast
set_option linter.unusedVariables false
set_option linter.unusedSimpArgs false

theorem spec_Put_f {k : Nat} {l : List S100} {n v : ByteArray} (hl : l.length < 4398046511104) (hk : l.length < k) : spec_Put.f k l n v = some (putF n v l) := by
  unfold spec_Put.f
  rw [Option.bind_some, if_pos (by simpa using hl), Option.bind_some, spec_l2At_f (by omega) hk, Option.bind_some, List.nil_append]
  rcases at_cases n v l 0 with ⟨h1, _, h3, _⟩ | ⟨j, hj, h1, _, _, h3, _⟩
  · rw [h1, h3, if_pos (by omega), if_pos hl]
  · rw [h1, h3, if_neg (by omega), if_pos (by omega), if_pos (by omega), Nat.zero_add, rd_F l j hj, Int.toNat_natCast]
theorem putF_small {K : Nat} {n v : ByteArray} (hn : n.size ≤ K) (hv : v.size ≤ K) : ∀ {l : List S100}, (∀ x ∈ l, x.f0.size ≤ K ∧ x.f1.size ≤ K) → ∀ x ∈ putF n v l, x.f0.size ≤ K ∧ x.f1.size ≤ K
  | [], _, x, hx => by simp only [putF, List.mem_singleton] at hx; rw [hx]; exact ⟨hn, hv⟩
  | y :: r, h, x, hx => by
    have hy := h y (by simp)
    have hr : ∀ x ∈ r, x.f0.size ≤ K ∧ x.f1.size ≤ K := fun x hx => h x (by simp [hx])
    simp only [putF] at hx
    split at hx
    · rcases List.mem_cons.1 hx with rfl | hx
      · exact ⟨hy.1, hv⟩
      · exact hr x hx
    · rcases List.mem_cons.1 hx with rfl | hx
      · exact hy
      · exact putF_small hn hv hr x hx
theorem respText_ne (m : Int) (l : List S100) (b : ByteArray) : ((respText m l b).toList != ([] : List UInt8)) = respB m l b := by
  by_cases h : respB m l b = true
  · rw [respText_lines h, h, toList_B, B_Tx]
    simp
  · unfold respText
    rw [if_neg h]
    rw [Bool.not_eq_true] at h
    rw [h, toList_B]; rfl
theorem respText_size (m : Int) (l : List S100) (b : ByteArray) : (respText m l b).size ≤ 2000 := by
  unfold respText
  split
  · rename_i h
    obtain ⟨h1, h2, h3⟩ := respB_facts h
    obtain ⟨h4, h5⟩ := fieldsB_lines h3
    have n1 := numT_size m
    have n2 := numT_size b.size
    have n3 := linesT_size l
    have s1 : (⟨#[72, 84, 84, 80, 47, 49, 46, 49, 32]⟩ : ByteArray).size = 9 := rfl
    have s2 : (⟨#[32, 46, 13, 10]⟩ : ByteArray).size = 4 := rfl
    have s3 : (⟨#[99, 111, 110, 116, 101, 110, 116, 45, 108, 101, 110, 103, 116, 104, 58, 32]⟩ : ByteArray).size = 16 := rfl
    have s4 : (⟨#[13, 10, 13, 10]⟩ : ByteArray).size = 4 := rfl
    simp only [ByteArray.size_append, s1, s2, s3, s4]; omega
  · exact Nat.zero_le _
theorem spec_l3DrawResp_f {k : Nat} {l : List Int} {i h : Int} (hl : (l.length : Int) ≤ 4611686018427387904) (h0 : 0 ≤ i) (hi : i ≤ l.length) (hk : 60 < k) : ∃ m r b i' h', spec_l3DrawResp.f k l i h = some (m, r, b, i', h') ∧ SmallF 27 r ∧ r.length ≤ 6 ∧ b.size ≤ 14 ∧ 0 ≤ i' ∧ i' ≤ l.length := by
  unfold spec_l3DrawResp.f
  obtain ⟨m, i1, h1, e, hm, i10, i11⟩ := spec_l1PickInt_f l i h [200, 200, 200, 200, 404, 500, 304] h0 hl hi (by decide)
  rw [e, Option.bind_some]
  dsimp only
  obtain ⟨r, i2, h2, e2, hr, hr5, i20, i21⟩ := spec_l2DrawRight_f (k := k) (h := h1) hl i10 i11 (by omega)
  have hw : ∀ x ∈ r, x.f0.size ≤ 27 ∧ x.f1.size ≤ 27 := fun x hx => by have := hr.2 x hx; omega
  rw [e2, Option.bind_some]
  dsimp only
  obtain ⟨b, i3, h3, e3, hb, i30, i31⟩ := spec_l3DrawBody_f (k := k) (h := h2) hl i20 i21 (by omega)
  rw [e3, Option.bind_some]
  dsimp only
  obtain ⟨v, i4, h4, e4, i40, i41⟩ := spec_l1Once_f l i3 h3 2 i30 hl i31
  rw [e4, Option.bind_some]
  dsimp only
  split
  · obtain ⟨t, i5, h5, e5, ht, i50, i51⟩ := spec_l1Pick_le l i4 h4 27 [(⟨#[109, 97, 120, 45, 97, 103, 101, 61, 53]⟩ : ByteArray), (⟨#[109, 97, 120, 45, 97, 103, 101, 61, 50, 48]⟩ : ByteArray), (⟨#[109, 97, 120, 45, 97, 103, 101, 61, 57]⟩ : ByteArray)] i40 hl i41 (by decide) (by rfl)
    have hp := putF_length (⟨#[99, 97, 99, 104, 101, 45, 99, 111, 110, 116, 114, 111, 108]⟩ : ByteArray) t r
    rw [e5, Option.bind_some]
    dsimp only
    rw [spec_Put_f (by omega) (by omega), Option.bind_some]
    exact ⟨_, _, _, _, _, rfl, ⟨by omega, putF_small (by decide) (by omega) hw⟩, by omega, hb, i50, i51⟩
  · exact ⟨_, _, _, _, _, rfl, ⟨by omega, hw⟩, by omega, hb, i40, i41⟩
theorem spec_l3DrawBadResp_l0 (l : List Int) (hl : (l.length : Int) ≤ 4611686018427387904) (m : Int) (r : List S100) : ∀ (d k : Nat) (b : ByteArray) (i h : Int), b.size + d = 200 → 0 ≤ i → i ≤ l.length → d < k → ∃ b' i' h', spec_l3DrawBadResp.l0 k l i h m r b = some (m, r, b', i', h') ∧ b'.size ≤ 200 ∧ 0 ≤ i' ∧ i' ≤ l.length := by
  intro d
  induction d with
  | zero =>
    intro k b i h hd h0 hi hk
    obtain ⟨k, rfl⟩ := succ_of hk
    obtain ⟨v, i1, h1, e, v0, v1, _, i10, i11⟩ := spec_l1Below_f l i h 2 h0 hl hi
    have v2 := v1 (by omega)
    simp only [spec_l3DrawBadResp.l0]
    rw [e, Option.bind_some]
    dsimp only
    rw [w64 (by omega), if_neg (by omega)]
    exact ⟨_, _, _, rfl, by omega, i10, i11⟩
  | succ d ih =>
    intro k b i h hd h0 hi hk
    obtain ⟨k, rfl⟩ := succ_of hk
    obtain ⟨v, i1, h1, e, v0, v1, _, i10, i11⟩ := spec_l1Below_f l i h 2 h0 hl hi
    have v2 := v1 (by omega)
    simp only [spec_l3DrawBadResp.l0]
    rw [e, Option.bind_some]
    dsimp only
    rw [w64 (by omega)]
    split
    · rw [if_pos (by omega)]
      exact ih k _ i1 h1 (by rw [ByteArray.size_append]; show b.size + 1 + d = 200; omega) i10 i11 (by omega)
    · exact ⟨_, _, _, rfl, by omega, i10, i11⟩
theorem spec_l3DrawBadResp_f {k : Nat} {l : List Int} {i h : Int} (hl : (l.length : Int) ≤ 4611686018427387904) (h0 : 0 ≤ i) (hi : i ≤ l.length) (hk : 300 < k) : ∃ m r b i' h', spec_l3DrawBadResp.f k l i h = some (m, r, b, i', h') ∧ SmallF 27 r ∧ b.size ≤ 200 ∧ 0 ≤ i' ∧ i' ≤ l.length := by
  unfold spec_l3DrawBadResp.f
  obtain ⟨m, r, b, i1, h1, e, hr, _, hb, i10, i11⟩ := spec_l3DrawResp_f (k := k) (h := h) hl h0 hi (by omega)
  rw [e, Option.bind_some]
  dsimp only
  obtain ⟨v, i2, h2, e2, _, _, _, i20, i21⟩ := spec_l1Below_f l i1 h1 20 i10 hl i11
  rw [e2, Option.bind_some]
  dsimp only
  split
  · obtain ⟨t, i3, h3, e3, _, i30, i31⟩ := spec_l1PickInt_f l i2 h2 [99, 100, 599, 600, (-1)] i20 hl i21 (by decide)
    rw [e3, Option.bind_some]
    exact ⟨_, _, _, _, _, rfl, hr, by omega, i30, i31⟩
  · split
    · obtain ⟨fs, i3, h3, e3, hf, i30, i31⟩ := spec_l2Draw_f (k := k) (h := h2) hl i20 i21 (by omega)
      rw [e3, Option.bind_some]
      exact ⟨_, _, _, _, _, rfl, ⟨by have := hf.1; dsimp only; omega, fun x hx => by have := hf.2 x hx; omega⟩, by omega, i30, i31⟩
    · split
      · obtain ⟨b', i3, h3, e3, hb', i30, i31⟩ := spec_l3DrawBadResp_l0 l hl m r (200 - b.size) k b i2 h2 (by omega) i20 i21 (by omega)
        exact ⟨m, r, b', i3, h3, e3, hr, hb', i30, i31⟩
      · exact ⟨_, _, _, _, _, rfl, hr, by omega, i20, i21⟩
theorem spec_DrawRespText_f {k : Nat} {l : List Int} (hl : (l.length : Int) ≤ 4611686018427387904) (hk : l.length + 300 < k) : ∃ m q b, spec_DrawRespText.f k l = some (m, q, b) ∧ SmallF 27 q ∧ b.size ≤ 200 := by
  unfold spec_DrawRespText.f
  obtain ⟨h', e⟩ := spec_l1New_f (k := k) hl (by omega)
  rw [e, Option.bind_some]
  dsimp only
  obtain ⟨m, r, b, i1, h1, e1, hr, hb, _⟩ := spec_l3DrawBadResp_f (k := k) (l := l) (i := 0) (h := h') hl (by omega) (by omega) (by omega)
  rw [e1, Option.bind_some]
  exact ⟨_, _, _, rfl, hr, hb⟩
theorem spec_DrawRespRead_f {k : Nat} {l : List Int} (hl : (l.length : Int) ≤ 4611686018427387904) (hk : l.length + 300 < k) : ∃ t, spec_DrawRespRead.f k l = some t ∧ t.size ≤ 2020 := by
  unfold spec_DrawRespRead.f
  obtain ⟨h', e⟩ := spec_l1New_f (k := k) hl (by omega)
  rw [e, Option.bind_some]
  dsimp only
  obtain ⟨m, r, b, i1, h1, e1, hr, _, _, i10, i11⟩ := spec_l3DrawResp_f (k := k) (l := l) (i := 0) (h := h') hl (by omega) (by omega) (by omega)
  rw [e1, Option.bind_some]
  dsimp only
  have hz := respText_size m r b
  rw [spec_RespText_f (K := 27) (by omega) hr (by omega), Option.bind_some]
  obtain ⟨t, i2, h2, e2, ht⟩ := spec_l3Dent_f l i1 h1 (respText m r b) [⟨#[32]⟩, ⟨#[13, 10]⟩, ⟨#[97, 58, 32, 98, 13, 10]⟩, ⟨#[120]⟩, ⟨#[48]⟩, ⟨#[10]⟩] i10 hl i11 (by omega) (by decide) (by decide)
  rw [e2, Option.bind_some]
  exact ⟨_, rfl, by dsimp only; omega⟩

end Go.Proofs.YtnmanegjgidgcaaGreatDoor.Pure
