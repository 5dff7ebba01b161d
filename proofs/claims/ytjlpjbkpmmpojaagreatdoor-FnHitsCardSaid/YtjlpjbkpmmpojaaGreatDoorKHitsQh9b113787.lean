/- What the printed functions answer, in plain words: lemmas of this session. No condition of a statement lies here. -/
import Derived.Test.YtjlpjbkpmmpojaaGreatDoorKHitsAllx0
import Derived.Test.YtjlpjbkpmmpojaaGreatDoorKHitsAllx4
import Derived.Test.YtjlpjbkpmmpojaaGreatDoorKHitsAllx5
import Derived.Test.YtjlpjbkpmmpojaaGreatDoorKHitsQh738eabfc
import Derived.Test.YtjlpjbkpmmpojaaGreatDoorKHitsQhd4f6af10
namespace Go.Proofs.YtjlpjbkpmmpojaaGreatDoor.Pure
open Go.RowKit Go.Proofs.YtjlpjbkpmmpojaaGreatDoor.All Go.Proofs.YtjlpjbkpmmpojaaGreatDoorW.PrintWords Go.Proofs.YtjlpjbkpmmpojaaGreatDoorW.PrintLast
set_option linter.unusedVariables false
set_option linter.unusedSimpArgs false

theorem spec_Put_f {k : Nat} {l : List S116} {n v : ByteArray} (hl : l.length < 4398046511104) (hk : l.length < k) : spec_Put.f k l n v = some (putF n v l) := by
  unfold spec_Put.f
  rw [Option.bind_some, if_pos (by simpa using hl), Option.bind_some, spec_l2At_f (by omega) hk, Option.bind_some, List.nil_append]
  rcases at_cases n v l 0 with ⟨h1, _, h3, _⟩ | ⟨j, hj, h1, _, _, h3, _⟩
  · rw [h1, h3, if_pos (by omega), if_pos hl]
  · rw [h1, h3, if_neg (by omega), if_pos (by omega), if_pos (by omega), Nat.zero_add, rd_F l j hj, Int.toNat_natCast]
theorem putF_small {K : Nat} {n v : ByteArray} (hn : n.size ≤ K) (hv : v.size ≤ K) : ∀ {l : List S116}, (∀ x ∈ l, x.f0.size ≤ K ∧ x.f1.size ≤ K) → ∀ x ∈ putF n v l, x.f0.size ≤ K ∧ x.f1.size ≤ K
  | [], _, x, hx => by simp only [putF, List.mem_singleton] at hx; rw [hx]; exact ⟨hn, hv⟩
  | y :: r, h, x, hx => by
    have hy := h y (by simp)
    have hr : ∀ x ∈ r, x.f0.size ≤ K ∧ x.f1.size ≤ K := fun x hx => h x (by simp [hx])
    simp only [putF] at hx
    split at hx
    · rcases List.mem_cons.1 hx with rfl | hx
      · exact ⟨hy.1, hv⟩
      · exact hr x hx
    · rcases List.mem_cons.1 hx with rfl | hx
      · exact hy
      · exact putF_small hn hv hr x hx
theorem strOfNums_size' (l : List Int) : (strOfNums l).size = l.length := by rw [← B_len, B_strOf, List.length_map]
theorem spec_l1DrawText_l0 (l : List Int) (hl : (l.length : Int) ≤ 4611686018427387904) : ∀ (d k n : Nat) (acc : List Int) (i h : Int), n + d = 14 → acc.length = n → 0 ≤ i → i ≤ l.length → d < k → ∃ t i' h', spec_l1DrawText.l0 k acc (n : Int) l i h = some (t, i', h') ∧ t.size ≤ 14 ∧ 0 ≤ i' ∧ i' ≤ l.length := by
  intro d
  induction d with
  | zero =>
    intro k n acc i h hd ha h0 hi hk
    obtain ⟨k, rfl⟩ := succ_of hk
    obtain ⟨v, i', h', e, v0, v1, _, i0, i1⟩ := spec_l1Below_f l i h 14 h0 hl hi
    have v2 := v1 (by omega)
    simp only [spec_l1DrawText.l0]
    rw [e, Option.bind_some]
    simp only
    rw [if_neg (by omega)]
    exact ⟨_, _, _, rfl, by rw [strOfNums_size']; omega, i0, i1⟩
  | succ d ih =>
    intro k n acc i h hd ha h0 hi hk
    obtain ⟨k, rfl⟩ := succ_of hk
    obtain ⟨v, i', h', e, v0, v1, _, i0, i1⟩ := spec_l1Below_f l i h 14 h0 hl hi
    simp only [spec_l1DrawText.l0]
    rw [e, Option.bind_some]
    simp only
    split
    · obtain ⟨t, i2, h2, e2, ht, i20, i21⟩ := spec_l1Pick_f l i' h' [⟨#[32]⟩, ⟨#[44]⟩, ⟨#[97]⟩, ⟨#[90]⟩, ⟨#[55]⟩, ⟨#[45]⟩, ⟨#[61]⟩, ⟨#[120]⟩, ⟨#[58]⟩, ⟨#[1]⟩, ⟨#[64]⟩, ⟨#[91]⟩] i0 hl i1 (by simp)
      have hs : t.size = 1 := by
        simp only [List.mem_cons, List.mem_nil_iff, or_false] at ht
        rcases ht with rfl | rfl | rfl | rfl | rfl | rfl | rfl | rfl | rfl | rfl | rfl | rfl <;> rfl
      rw [e2, Option.bind_some]
      simp only
      rw [if_pos (by omega), if_pos (by omega), w64 (by omega), show (n : Int) + 1 = ((n + 1 : Nat) : Int) by omega]
      exact ih k (n + 1) _ i2 h2 (by omega) (by simp [ha]) i20 i21 (by omega)
    · exact ⟨_, _, _, rfl, by rw [strOfNums_size']; omega, i0, i1⟩
theorem spec_l1DrawText_f {k : Nat} {l : List Int} {i h : Int} (hl : (l.length : Int) ≤ 4611686018427387904) (h0 : 0 ≤ i) (hi : i ≤ l.length) (hk : 20 < k) : ∃ t i' h', spec_l1DrawText.f k l i h = some (t, i', h') ∧ t.size ≤ 14 ∧ 0 ≤ i' ∧ i' ≤ l.length :=
  spec_l1DrawText_l0 l hl 14 k 0 [] i h (by omega) rfl h0 hi (by omega)
theorem spec_l1Once_f (l : List Int) (i h n : Int) (h0 : 0 ≤ i) (hl : (l.length : Int) ≤ 4611686018427387904) (hi : i ≤ l.length) : ∃ v i' h', spec_l1Once.f l i h n = some (v, i', h') ∧ 0 ≤ i' ∧ i' ≤ l.length := by
  unfold spec_l1Once.f
  obtain ⟨v, i', h', e, _, _, _, i0, i1⟩ := spec_l1Below_f l i h n h0 hl hi
  rw [e, Option.bind_some]
  exact ⟨_, _, _, rfl, i0, i1⟩
/-! ### draws of messages: they end, and what they draw is small -/
theorem spec_l3DrawBody_f {k : Nat} {l : List Int} {i h : Int} (hl : (l.length : Int) ≤ 4611686018427387904) (h0 : 0 ≤ i) (hi : i ≤ l.length) (hk : 20 < k) : ∃ b i' h', spec_l3DrawBody.f k l i h = some (b, i', h') ∧ b.size ≤ 14 ∧ 0 ≤ i' ∧ i' ≤ l.length := by
  unfold spec_l3DrawBody.f
  obtain ⟨v, i1, h1, e, i10, i11⟩ := spec_l1Once_f l i h 2 h0 hl hi
  rw [e, Option.bind_some]
  dsimp only
  split
  · obtain ⟨t, i2, h2, e2, ht, i20, i21⟩ := spec_l1Pick_le l i1 h1 14 [(⟨#[]⟩ : ByteArray), (⟨#[104, 101, 108, 108, 111]⟩ : ByteArray), (⟨#[13, 10, 13, 10]⟩ : ByteArray), (⟨#[97, 0, 98]⟩ : ByteArray), (⟨#[111, 110, 101, 32, 116, 119, 111]⟩ : ByteArray)] i10 hl i11 (by decide) (by rfl)
    rw [e2, Option.bind_some]
    exact ⟨_, _, _, rfl, ht, i20, i21⟩
  · obtain ⟨t, i2, h2, e2, ht, i20, i21⟩ := spec_l1DrawText_f (k := k) (h := h1) hl i10 i11 hk
    rw [e2, Option.bind_some]
    exact ⟨_, _, _, rfl, ht, i20, i21⟩
theorem spec_l3DrawReq_l0 (l : List Int) (hl : (l.length : Int) ≤ 4611686018427387904) (m : Int) (p : ByteArray) : ∀ (d k n : Nat) (acc : List S116) (i h : Int), n + d = 3 → acc.length ≤ n → (∀ x ∈ acc, x.f0.size ≤ 26 ∧ x.f1.size ≤ 26) → 0 ≤ i → i ≤ l.length → d + 30 < k →
    ∃ r b i' h', spec_l3DrawReq.l0 k (n : Int) l i h m p acc (⟨#[]⟩ : ByteArray) = some (m, p, r, b, i', h') ∧ SmallF 26 r ∧ r.length ≤ 3 ∧ b.size ≤ 14 ∧ 0 ≤ i' ∧ i' ≤ l.length := by
  have fin : ∀ (k : Nat) (acc : List S116) (i h : Int), acc.length ≤ 3 → (∀ x ∈ acc, x.f0.size ≤ 26 ∧ x.f1.size ≤ 26) → 0 ≤ i → i ≤ l.length → 20 < k → ∃ r b i' h', (if m = 3 then ((spec_l3DrawBody.f k l i h).bind fun bt => (some (m, p, acc, bt.1, bt.2.1, bt.2.2))) else (some (m, p, acc, (⟨#[]⟩ : ByteArray), i, h))) = some (m, p, r, b, i', h') ∧ SmallF 26 r ∧ r.length ≤ 3 ∧ b.size ≤ 14 ∧ 0 ≤ i' ∧ i' ≤ l.length := by
    intro k acc i h ha hx h0 hi hk
    split
    · obtain ⟨b, i1, h1, e, hb, i10, i11⟩ := spec_l3DrawBody_f (k := k) (h := h) hl h0 hi hk
      rw [e, Option.bind_some]
      exact ⟨_, _, _, _, rfl, ⟨by omega, hx⟩, ha, hb, i10, i11⟩
    · exact ⟨_, _, _, _, rfl, ⟨by omega, hx⟩, ha, Nat.zero_le _, h0, hi⟩
  intro d
  induction d with
  | zero =>
    intro k n acc i h hd ha hx h0 hi hk
    obtain ⟨k, rfl⟩ := succ_of (show 0 < k by omega)
    obtain ⟨v, i1, h1, e, v0, v1, _, i10, i11⟩ := spec_l1Below_f l i h 4 h0 hl hi
    have v2 := v1 (by omega)
    simp only [spec_l3DrawReq.l0]
    rw [e, Option.bind_some]
    dsimp only
    rw [if_neg (by omega)]
    exact fin k acc i1 h1 (by omega) hx i10 i11 (by omega)
  | succ d ih =>
    intro k n acc i h hd ha hx h0 hi hk
    obtain ⟨k, rfl⟩ := succ_of (show 0 < k by omega)
    obtain ⟨v, i1, h1, e, v0, v1, _, i10, i11⟩ := spec_l1Below_f l i h 4 h0 hl hi
    have hr : wrap64 ((n : Int) + 1) = ((n + 1 : Nat) : Int) := by rw [w64 (by omega)]; omega
    have push : ∀ (f v : ByteArray) (i h : Int), f.size ≤ 26 → v.size ≤ 26 → 0 ≤ i → i ≤ l.length → ∃ r b i' h', spec_l3DrawReq.l0 k ((n + 1 : Nat) : Int) l i h m p (acc ++ [⟨f, v⟩]) (⟨#[]⟩ : ByteArray) = some (m, p, r, b, i', h') ∧ SmallF 26 r ∧ r.length ≤ 3 ∧ b.size ≤ 14 ∧ 0 ≤ i' ∧ i' ≤ l.length := fun f v i h hf hv h0 hi =>
      ih k (n + 1) _ i h (by omega) (by simp; omega) (fun x hx' => by
        rcases List.mem_append.1 hx' with hx' | hx'
        · exact hx x hx'
        · rw [List.mem_singleton.1 hx']; exact ⟨hf, hv⟩) h0 hi (by omega)
    simp only [spec_l3DrawReq.l0]
    rw [e, Option.bind_some]
    dsimp only
    split
    · obtain ⟨f, i2, h2, e2, hf, i20, i21⟩ := spec_l1Pick_le l i1 h1 26 [(⟨#[108, 97, 110, 103]⟩ : ByteArray), (⟨#[107, 105, 110, 100]⟩ : ByteArray), (⟨#[99, 97, 99, 104, 101, 45, 99, 111, 110, 116, 114, 111, 108]⟩ : ByteArray), (⟨#[105, 102, 45, 110, 111, 110, 101, 45, 109, 97, 116, 99, 104]⟩ : ByteArray), (⟨#[120, 45, 97]⟩ : ByteArray)] i10 hl i11 (by decide) (by rfl)
      rw [e2, Option.bind_some]
      dsimp only
      rw [spec_l2At_f (by omega) (by omega), Option.bind_some, hr]
      split
      · obtain ⟨w, i3, h3, e3, hw, i30, i31⟩ := spec_l1Pick_le l i2 h2 26 [(⟨#[100, 101]⟩ : ByteArray), (⟨#[101, 110]⟩ : ByteArray)] i20 hl i21 (by decide) (by rfl)
        rw [e3, Option.bind_some]
        dsimp only
        split
        · obtain ⟨w, i4, h4, e4, hw, i40, i41⟩ := spec_l1Pick_le l i3 h3 26 [(⟨#[120]⟩ : ByteArray), (⟨#[121]⟩ : ByteArray)] i30 hl i31 (by decide) (by rfl)
          rw [e4, Option.bind_some]
          dsimp only
          rw [if_pos (by omega)]
          exact push f w i4 h4 hf hw i40 i41
        · split
          · obtain ⟨w, i4, h4, e4, hw, i40, i41⟩ := spec_l1Pick_le l i3 h3 26 [(⟨#[110, 111, 45, 99, 97, 99, 104, 101]⟩ : ByteArray), (⟨#[110, 111, 45, 115, 116, 111, 114, 101]⟩ : ByteArray), (⟨#[109, 97, 120, 45, 97, 103, 101, 61, 51]⟩ : ByteArray)] i30 hl i31 (by decide) (by rfl)
            rw [e4, Option.bind_some]
            dsimp only
            rw [if_pos (by omega)]
            exact push f w i4 h4 hf hw i40 i41
          · split
            · obtain ⟨w, i4, h4, e4, hw, i40, i41⟩ := spec_l1Pick_le l i3 h3 26 [(⟨#[97]⟩ : ByteArray), (⟨#[98]⟩ : ByteArray)] i30 hl i31 (by decide) (by rfl)
              rw [e4, Option.bind_some]
              dsimp only
              rw [if_pos (by omega)]
              exact push f w i4 h4 hf hw i40 i41
            · rw [if_pos (by omega)]
              exact push f w i3 h3 hf hw i30 i31
      · exact ih k (n + 1) acc i2 h2 (by omega) (by omega) hx i20 i21 (by omega)
    · exact fin k acc i1 h1 (by omega) hx i10 i11 (by omega)
theorem spec_l3DrawReq_f {k : Nat} {l : List Int} {i h : Int} (hl : (l.length : Int) ≤ 4611686018427387904) (h0 : 0 ≤ i) (hi : i ≤ l.length) (hk : 40 < k) : ∃ m p r b i' h', spec_l3DrawReq.f k l i h = some (m, p, r, b, i', h') ∧ (1 ≤ m ∧ m ≤ 4) ∧ p.size ≤ 26 ∧ SmallF 26 r ∧ r.length ≤ 3 ∧ b.size ≤ 14 ∧ 0 ≤ i' ∧ i' ≤ l.length := by
  unfold spec_l3DrawReq.f
  obtain ⟨m, i1, h1, e, hm, i10, i11⟩ := spec_l1PickInt_f l i h [1, 1, 1, 1, 2, 3, 4] h0 hl hi (by decide)
  rw [e, Option.bind_some]
  dsimp only
  obtain ⟨p, i2, h2, e2, hp, i20, i21⟩ := spec_l1Pick_le l i1 h1 26 [(⟨#[47]⟩ : ByteArray), (⟨#[47, 97]⟩ : ByteArray), (⟨#[47, 97, 47, 98]⟩ : ByteArray), (⟨#[47, 98]⟩ : ByteArray)] i10 hl i11 (by decide) (by rfl)
  rw [e2, Option.bind_some]
  dsimp only
  obtain ⟨r, b, i3, h3, e3, hr, hr3, hb, i30, i31⟩ := spec_l3DrawReq_l0 l hl m p 3 k 0 [] i2 h2 (by omega) (by simp) (fun x hx => by cases hx) i20 i21 (by omega)
  refine ⟨m, p, r, b, i3, h3, e3, ?_, hp, hr, hr3, hb, i30, i31⟩
  simp only [List.mem_cons, List.mem_nil_iff, or_false] at hm
  omega
theorem spec_l3DrawResp_f {k : Nat} {l : List Int} {i h : Int} (hl : (l.length : Int) ≤ 4611686018427387904) (h0 : 0 ≤ i) (hi : i ≤ l.length) (hk : 60 < k) : ∃ m r b i' h', spec_l3DrawResp.f k l i h = some (m, r, b, i', h') ∧ SmallF 27 r ∧ r.length ≤ 6 ∧ b.size ≤ 14 ∧ 0 ≤ i' ∧ i' ≤ l.length := by
  unfold spec_l3DrawResp.f
  obtain ⟨m, i1, h1, e, hm, i10, i11⟩ := spec_l1PickInt_f l i h [200, 200, 200, 200, 404, 500, 304] h0 hl hi (by decide)
  rw [e, Option.bind_some]
  dsimp only
  obtain ⟨r, i2, h2, e2, hr, hr5, i20, i21⟩ := spec_l2DrawRight_f (k := k) (h := h1) hl i10 i11 (by omega)
  have hw : ∀ x ∈ r, x.f0.size ≤ 27 ∧ x.f1.size ≤ 27 := fun x hx => by have := hr.2 x hx; omega
  rw [e2, Option.bind_some]
  dsimp only
  obtain ⟨b, i3, h3, e3, hb, i30, i31⟩ := spec_l3DrawBody_f (k := k) (h := h2) hl i20 i21 (by omega)
  rw [e3, Option.bind_some]
  dsimp only
  obtain ⟨v, i4, h4, e4, i40, i41⟩ := spec_l1Once_f l i3 h3 2 i30 hl i31
  rw [e4, Option.bind_some]
  dsimp only
  split
  · obtain ⟨t, i5, h5, e5, ht, i50, i51⟩ := spec_l1Pick_le l i4 h4 27 [(⟨#[109, 97, 120, 45, 97, 103, 101, 61, 53]⟩ : ByteArray), (⟨#[109, 97, 120, 45, 97, 103, 101, 61, 50, 48]⟩ : ByteArray), (⟨#[109, 97, 120, 45, 97, 103, 101, 61, 57]⟩ : ByteArray)] i40 hl i41 (by decide) (by rfl)
    have hp := putF_length (⟨#[99, 97, 99, 104, 101, 45, 99, 111, 110, 116, 114, 111, 108]⟩ : ByteArray) t r
    rw [e5, Option.bind_some]
    dsimp only
    rw [spec_Put_f (by omega) (by omega), Option.bind_some]
    exact ⟨_, _, _, _, _, rfl, ⟨by omega, putF_small (by decide) (by omega) hw⟩, by omega, hb, i50, i51⟩
  · exact ⟨_, _, _, _, _, rfl, ⟨by omega, hw⟩, by omega, hb, i40, i41⟩
theorem spec_l3DrawBadResp_l0 (l : List Int) (hl : (l.length : Int) ≤ 4611686018427387904) (m : Int) (r : List S116) : ∀ (d k : Nat) (b : ByteArray) (i h : Int), b.size + d = 200 → 0 ≤ i → i ≤ l.length → d < k → ∃ b' i' h', spec_l3DrawBadResp.l0 k l i h m r b = some (m, r, b', i', h') ∧ b'.size ≤ 200 ∧ 0 ≤ i' ∧ i' ≤ l.length := by
  intro d
  induction d with
  | zero =>
    intro k b i h hd h0 hi hk
    obtain ⟨k, rfl⟩ := succ_of hk
    obtain ⟨v, i1, h1, e, v0, v1, _, i10, i11⟩ := spec_l1Below_f l i h 2 h0 hl hi
    have v2 := v1 (by omega)
    simp only [spec_l3DrawBadResp.l0]
    rw [e, Option.bind_some]
    dsimp only
    rw [w64 (by omega), if_neg (by omega)]
    exact ⟨_, _, _, rfl, by omega, i10, i11⟩
  | succ d ih =>
    intro k b i h hd h0 hi hk
    obtain ⟨k, rfl⟩ := succ_of hk
    obtain ⟨v, i1, h1, e, v0, v1, _, i10, i11⟩ := spec_l1Below_f l i h 2 h0 hl hi
    have v2 := v1 (by omega)
    simp only [spec_l3DrawBadResp.l0]
    rw [e, Option.bind_some]
    dsimp only
    rw [w64 (by omega)]
    split
    · rw [if_pos (by omega)]
      exact ih k _ i1 h1 (by rw [ByteArray.size_append]; show b.size + 1 + d = 200; omega) i10 i11 (by omega)
    · exact ⟨_, _, _, rfl, by omega, i10, i11⟩
theorem spec_l3DrawBadResp_f {k : Nat} {l : List Int} {i h : Int} (hl : (l.length : Int) ≤ 4611686018427387904) (h0 : 0 ≤ i) (hi : i ≤ l.length) (hk : 300 < k) : ∃ m r b i' h', spec_l3DrawBadResp.f k l i h = some (m, r, b, i', h') ∧ SmallF 27 r ∧ b.size ≤ 200 ∧ 0 ≤ i' ∧ i' ≤ l.length := by
  unfold spec_l3DrawBadResp.f
  obtain ⟨m, r, b, i1, h1, e, hr, _, hb, i10, i11⟩ := spec_l3DrawResp_f (k := k) (h := h) hl h0 hi (by omega)
  rw [e, Option.bind_some]
  dsimp only
  obtain ⟨v, i2, h2, e2, _, _, _, i20, i21⟩ := spec_l1Below_f l i1 h1 20 i10 hl i11
  rw [e2, Option.bind_some]
  dsimp only
  split
  · obtain ⟨t, i3, h3, e3, _, i30, i31⟩ := spec_l1PickInt_f l i2 h2 [99, 100, 599, 600, (-1)] i20 hl i21 (by decide)
    rw [e3, Option.bind_some]
    exact ⟨_, _, _, _, _, rfl, hr, by omega, i30, i31⟩
  · split
    · obtain ⟨fs, i3, h3, e3, hf, i30, i31⟩ := spec_l2Draw_f (k := k) (h := h2) hl i20 i21 (by omega)
      rw [e3, Option.bind_some]
      exact ⟨_, _, _, _, _, rfl, ⟨by have := hf.1; dsimp only; omega, fun x hx => by have := hf.2 x hx; omega⟩, by omega, i30, i31⟩
    · split
      · obtain ⟨b', i3, h3, e3, hb', i30, i31⟩ := spec_l3DrawBadResp_l0 l hl m r (200 - b.size) k b i2 h2 (by omega) i20 i21 (by omega)
        exact ⟨m, r, b', i3, h3, e3, hr, hb', i30, i31⟩
      · exact ⟨_, _, _, _, _, rfl, hr, by omega, i20, i21⟩

end Go.Proofs.YtjlpjbkpmmpojaaGreatDoor.Pure
