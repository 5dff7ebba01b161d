/- What the printed functions answer, in plain words: lemmas of this session. No condition of a statement lies here. -/
import Derived.Test.YtogdmlgbdbgpkaaDoorAllx0
import Derived.Test.YtogdmlgbdbgpkaaDoorAllx12
import Derived.Test.YtogdmlgbdbgpkaaDoorAllx9
import Derived.Test.YtogdmlgbdbgpkaaDoorQh52fc84b9
import Derived.Test.YtogdmlgbdbgpkaaDoorQhaad79cdb
import Derived.Test.YtogdmlgbdbgpkaaDoorQhbe6c4e1c
namespace Go.Proofs.YtogdmlgbdbgpkaaDoor.Pure
open Go.RowKit Go.Proofs.YtogdmlgbdbgpkaaDoor.All Go.Proofs.YtogdmlgbdbgpkaaDoorW.PrintWords Go.Proofs.YtogdmlgbdbgpkaaDoorW.PrintLast
set_option linter.unusedVariables false
set_option linter.unusedSimpArgs false

/-! ### Lower -/
theorem spec_Lower_l0 (s : ByteArray) (hs : (s.size : Int) ≤ 140737488355327) : ∀ (d k i : Nat) (acc : List Int), s.size - i = d → i ≤ s.size → acc.length ≤ i → d < k →
    spec_Lower.l0 k s acc i = some ⟨(acc.map oct ++ ((B s).drop i).map low1).toArray⟩ := by
  intro d
  induction d with
  | zero =>
    intro k i acc hd hi ha hk
    obtain ⟨k, rfl⟩ := succ_of hk
    simp only [spec_Lower.l0]
    rw [if_neg (by omega), List.drop_eq_nil_of_le (by rw [B_len]; omega), strOf]; simp
  | succ d ih =>
    intro k i acc hd hi ha hk
    obtain ⟨k, rfl⟩ := succ_of hk
    have hl : i < (B s).length := by rw [B_len]; omega
    have hlen : acc.length < 140737488355328 := by omega
    have step : ∀ x : Int, oct x = low1 (B s)[i] → spec_Lower.l0 k s (acc ++ [x]) ((i + 1 : Nat) : Int) = some ⟨(acc.map oct ++ ((B s).drop i).map low1).toArray⟩ := fun x hx => by
      rw [ih k (i + 1) (acc ++ [x]) (by omega) (by omega) (by simp; omega) (by omega), drop_at hl, List.map_append, List.append_assoc, List.map_cons, List.map_cons, hx]
      rfl
    have hw := nat_round (i := i) (n := s.size) (by omega) (by omega)
    have hc := ((B s)[i]).toNat_lt
    simp only [spec_Lower.l0]
    rw [if_pos (by omega), if_pos (by omega), bt_get s i hl, hw]
    split
    · split
      · try rw [if_pos hlen]
        refine step _ ?_
        unfold low1 oct
        rw [if_pos (by omega), show ((((B s)[i]).toNat : Int) + 32) % 256 = ((((B s)[i]).toNat + 32 : Nat) : Int) by omega, Int.toNat_natCast]
      · try rw [if_pos hlen]
        exact step _ (by rw [oct_nat]; unfold low1; rw [if_neg (by omega)])
    · try rw [if_pos hlen]
      exact step _ (by rw [oct_nat]; unfold low1; rw [if_neg (by omega)])
def lowB (s : ByteArray) : ByteArray := ⟨((B s).map low1).toArray⟩
theorem B_lowB (s : ByteArray) : B (lowB s) = (B s).map low1 := B_mk _
theorem spec_Lower_f {k : Nat} {s : ByteArray} (hs : (s.size : Int) ≤ 140737488355327) (hk : s.size < k) : spec_Lower.f k s = some (lowB s) := by
  unfold spec_Lower.f
  have := spec_Lower_l0 s hs s.size k 0 [] (by omega) (by omega) (by simp) hk
  simpa [lowB] using this
theorem impl_Lower_f {s : ByteArray} (hs : (s.size : Int) ≤ 140737488355327) : impl_Lower.f s = some (lowB s) := by
  unfold impl_Lower.f
  rw [if_pos (by omega)]; rfl
/-! ### draws: they end, and what they draw is small -/
theorem and255 (x : Int) : 0 ≤ Go.bits .and .i64 x 255 ∧ Go.bits .and .i64 x 255 ≤ 255 := by
  unfold Go.bits
  simp only
  have h : (BitVec.ofInt IntKind.i64.bits x &&& BitVec.ofInt IntKind.i64.bits 255).toNat ≤ 255 := by
    rw [BitVec.toNat_and]
    exact Nat.and_le_right
  rw [IntKind.wrap_i64]
  omega
theorem spec_l1Byte_f (l : List Int) (i h : Int) (h0 : 0 ≤ i) (hl : (l.length : Int) ≤ 4611686018427387904) (hi : i ≤ l.length) : ∃ v i' h', spec_l1Byte.f l i h = some (v, i', h') ∧ 0 ≤ v ∧ v ≤ 255 ∧ 0 ≤ i' ∧ i' ≤ l.length := by
  unfold spec_l1Byte.f
  split
  · try rw [if_pos h0]
    refine ⟨_, _, _, rfl, (and255 _).1, (and255 _).2, ?_, ?_⟩ <;> rw [w64 (by omega)] <;> omega
  · exact ⟨_, _, _, rfl, (and255 _).1, (and255 _).2, h0, hi⟩
theorem spec_l1Below_f (l : List Int) (i h n : Int) (h0 : 0 ≤ i) (hl : (l.length : Int) ≤ 4611686018427387904) (hi : i ≤ l.length) : ∃ v i' h', spec_l1Below.f l i h n = some (v, i', h') ∧ 0 ≤ v ∧ (0 < n → v < n) ∧ (n ≤ 0 → v = 0) ∧ 0 ≤ i' ∧ i' ≤ l.length := by
  unfold spec_l1Below.f
  split
  · exact ⟨_, _, _, rfl, by omega, by omega, by omega, h0, hi⟩
  split
  · obtain ⟨v, i', h', e, v0, v1, i0, i1⟩ := spec_l1Byte_f l i h h0 hl hi
    rw [e, Option.bind_some, if_neg (by omega)]
    refine ⟨_, _, _, rfl, ?_, fun _ => ?_, by omega, i0, i1⟩
    · exact Int.tmod_nonneg _ v0
    · exact Int.tmod_lt_of_pos _ (by omega)
  · obtain ⟨v, i', h', e, v0, v1, i0, i1⟩ := spec_l1Byte_f l i h h0 hl hi
    rw [e, Option.bind_some]
    obtain ⟨v2, i2, h2, e2, v20, v21, i20, i21⟩ := spec_l1Byte_f l i' h' i0 hl i1
    simp only
    rw [e2, Option.bind_some]
    obtain ⟨v3, i3, h3, e3, v30, v31, i30, i31⟩ := spec_l1Byte_f l i2 h2 i20 hl i21
    simp only
    rw [e3, Option.bind_some]
    obtain ⟨v4, i4, h4, e4, v40, v41, i40, i41⟩ := spec_l1Byte_f l i3 h3 i30 hl i31
    simp only
    rw [e4, Option.bind_some, if_neg (by omega)]
    simp only
    rw [w64 (n := v * 16777216) (by omega), w64 (n := v2 * 65536) (by omega), w64 (n := v3 * 256) (by omega), w64 (n := v * 16777216 + v2 * 65536) (by omega), w64 (n := v * 16777216 + v2 * 65536 + v3 * 256) (by omega), w64 (n := v * 16777216 + v2 * 65536 + v3 * 256 + v4) (by omega)]
    refine ⟨_, _, _, rfl, ?_, fun _ => ?_, by omega, i40, i41⟩
    · exact Int.tmod_nonneg _ (by omega)
    · exact Int.tmod_lt_of_pos _ (by omega)
theorem spec_l1Pick_f (l : List Int) (i h : Int) (ts : List ByteArray) (h0 : 0 ≤ i) (hl : (l.length : Int) ≤ 4611686018427387904) (hi : i ≤ l.length) (hts : 0 < ts.length) : ∃ t i' h', spec_l1Pick.f l i h ts = some (t, i', h') ∧ t ∈ ts ∧ 0 ≤ i' ∧ i' ≤ l.length := by
  unfold spec_l1Pick.f
  obtain ⟨v, i', h', e, v0, v1, _, i0, i1⟩ := spec_l1Below_f l i h ts.length h0 hl hi
  have v2 := v1 (by omega)
  rw [e, Option.bind_some, if_pos v0, if_pos v2]
  obtain ⟨j, rfl⟩ : ∃ j : Nat, v = j := ⟨v.toNat, by omega⟩
  exact ⟨_, _, _, rfl, by simp only; rw [rd_B ts j (by omega)]; exact List.getElem_mem _, i0, i1⟩
theorem spec_l1New_l0 (l : List Int) (hl : (l.length : Int) ≤ 4611686018427387904) : ∀ (d k i : Nat) (h : Int), l.length = i + d → d < k → ∃ h', spec_l1New.l0 k l h i = some (l, 0, h') := by
  intro d
  induction d with
  | zero =>
    intro k i h hd hk
    obtain ⟨k, rfl⟩ := succ_of hk
    simp only [spec_l1New.l0]
    rw [if_neg (by omega)]
    exact ⟨_, rfl⟩
  | succ d ih =>
    intro k i h hd hk
    obtain ⟨k, rfl⟩ := succ_of hk
    simp only [spec_l1New.l0]
    rw [if_pos (by omega)]
    split
    · rw [if_pos (by omega), nat_round (n := l.length) (by omega) (by omega)]
      exact ih k (i + 1) _ (by omega) (by omega)
    · exact ⟨_, rfl⟩
theorem spec_l1New_f {k : Nat} {l : List Int} (hl : (l.length : Int) ≤ 4611686018427387904) (hk : l.length < k) : ∃ h', spec_l1New.f k l = some (l, 0, h') :=
  spec_l1New_l0 l hl l.length k 0 _ (by omega) hk
theorem strOfNums_size' (l : List Int) : (strOfNums l).size = l.length := by rw [← B_len, B_strOf, List.length_map]
theorem spec_l1DrawText_l0 (l : List Int) (hl : (l.length : Int) ≤ 4611686018427387904) : ∀ (d k n : Nat) (acc : List Int) (i h : Int), n + d = 14 → acc.length = n → 0 ≤ i → i ≤ l.length → d < k → ∃ t i' h', spec_l1DrawText.l0 k acc (n : Int) l i h = some (t, i', h') ∧ t.size ≤ 14 ∧ 0 ≤ i' ∧ i' ≤ l.length := by
  intro d
  induction d with
  | zero =>
    intro k n acc i h hd ha h0 hi hk
    obtain ⟨k, rfl⟩ := succ_of hk
    obtain ⟨v, i', h', e, v0, v1, _, i0, i1⟩ := spec_l1Below_f l i h 14 h0 hl hi
    have v2 := v1 (by omega)
    simp only [spec_l1DrawText.l0]
    rw [e, Option.bind_some]
    simp only
    rw [if_neg (by omega)]
    exact ⟨_, _, _, rfl, by rw [strOfNums_size']; omega, i0, i1⟩
  | succ d ih =>
    intro k n acc i h hd ha h0 hi hk
    obtain ⟨k, rfl⟩ := succ_of hk
    obtain ⟨v, i', h', e, v0, v1, _, i0, i1⟩ := spec_l1Below_f l i h 14 h0 hl hi
    simp only [spec_l1DrawText.l0]
    rw [e, Option.bind_some]
    simp only
    split
    · obtain ⟨t, i2, h2, e2, ht, i20, i21⟩ := spec_l1Pick_f l i' h' [⟨#[32]⟩, ⟨#[44]⟩, ⟨#[97]⟩, ⟨#[90]⟩, ⟨#[55]⟩, ⟨#[45]⟩, ⟨#[61]⟩, ⟨#[120]⟩, ⟨#[58]⟩, ⟨#[1]⟩, ⟨#[64]⟩, ⟨#[91]⟩] i0 hl i1 (by simp)
      have hs : t.size = 1 := by
        simp only [List.mem_cons, List.mem_nil_iff, or_false] at ht
        rcases ht with rfl | rfl | rfl | rfl | rfl | rfl | rfl | rfl | rfl | rfl | rfl | rfl <;> rfl
      rw [e2, Option.bind_some]
      simp only
      rw [if_pos (by omega), if_pos (by omega), w64 (by omega), show (n : Int) + 1 = ((n + 1 : Nat) : Int) by omega]
      exact ih k (n + 1) _ i2 h2 (by omega) (by simp [ha]) i20 i21 (by omega)
    · exact ⟨_, _, _, rfl, by rw [strOfNums_size']; omega, i0, i1⟩
theorem spec_l1DrawText_f {k : Nat} {l : List Int} {i h : Int} (hl : (l.length : Int) ≤ 4611686018427387904) (h0 : 0 ≤ i) (hi : i ≤ l.length) (hk : 20 < k) : ∃ t i' h', spec_l1DrawText.f k l i h = some (t, i', h') ∧ t.size ≤ 14 ∧ 0 ≤ i' ∧ i' ≤ l.length :=
  spec_l1DrawText_l0 l hl 14 k 0 [] i h (by omega) rfl h0 hi (by omega)
theorem spec_l1Once_f (l : List Int) (i h n : Int) (h0 : 0 ≤ i) (hl : (l.length : Int) ≤ 4611686018427387904) (hi : i ≤ l.length) : ∃ v i' h', spec_l1Once.f l i h n = some (v, i', h') ∧ 0 ≤ i' ∧ i' ≤ l.length := by
  unfold spec_l1Once.f
  obtain ⟨v, i', h', e, _, _, _, i0, i1⟩ := spec_l1Below_f l i h n h0 hl hi
  rw [e, Option.bind_some]
  exact ⟨_, _, _, rfl, i0, i1⟩
theorem spec_DrawLower_f {k : Nat} {l : List Int} (hl : (l.length : Int) ≤ 4611686018427387904) (hk : l.length + 20 < k) : ∃ t, spec_DrawLower.f k l = some t ∧ t.size ≤ 14 := by
  unfold spec_DrawLower.f
  obtain ⟨h, e⟩ := spec_l1New_f (k := k) hl (by omega)
  rw [e, Option.bind_some]
  obtain ⟨t, i', h', e2, ht, _⟩ := spec_l1DrawText_f (k := k) (i := 0) (h := h) hl (by omega) (by omega) (by omega)
  simp only
  rw [e2, Option.bind_some]
  exact ⟨_, rfl, ht⟩
theorem spec_DrawTokenOk_f {k : Nat} {l : List Int} (hl : (l.length : Int) ≤ 4611686018427387904) (hk : l.length + 20 < k) : ∃ t, spec_DrawTokenOk.f k l = some t ∧ t.size ≤ 60 := by
  unfold spec_DrawTokenOk.f
  obtain ⟨h, e⟩ := spec_l1New_f (k := k) hl (by omega)
  rw [e, Option.bind_some]
  obtain ⟨t, i', h', e2, ht, i0, i1⟩ := spec_l1DrawText_f (k := k) (i := 0) (h := h) hl (by omega) (by omega) (by omega)
  simp only
  rw [e2, Option.bind_some]
  simp only
  obtain ⟨u, i2, h2, e3, hu, _⟩ := spec_l1Pick_f l i' h' [(⟨#[]⟩ : ByteArray), ⟨#[97]⟩, ⟨#[109, 97, 120, 45, 97, 103, 101]⟩, ⟨#[65]⟩, ⟨#[48, 49, 50, 51, 52, 53, 54, 55, 56, 57, 48, 49, 50, 51, 52, 53, 54, 55, 56, 57]⟩, ⟨#[48, 49, 50, 51, 52, 53, 54, 55, 56, 57, 48, 49, 50, 51, 52, 53, 54, 55, 56, 57, 48]⟩, ⟨#[97, 32, 98]⟩, t] i0 hl i1 (by simp)
  rw [e3, Option.bind_some]
  refine ⟨_, rfl, ?_⟩
  simp only [List.mem_cons, List.mem_nil_iff, or_false] at hu
  rcases hu with rfl | rfl | rfl | rfl | rfl | rfl | rfl | rfl
  · exact Nat.le_of_ble_eq_true rfl
  · exact Nat.le_of_ble_eq_true rfl
  · exact Nat.le_of_ble_eq_true rfl
  · exact Nat.le_of_ble_eq_true rfl
  · exact Nat.le_of_ble_eq_true rfl
  · exact Nat.le_of_ble_eq_true rfl
  · exact Nat.le_of_ble_eq_true rfl
  · simp only; omega
theorem spec_DrawValueOk_l0 (l : List Int) (hl : (l.length : Int) ≤ 4611686018427387904) : ∀ (d k : Nat) (t : ByteArray) (i h : Int), t.size + d = 61 → 0 ≤ i → i ≤ l.length → d < k → ∃ u, spec_DrawValueOk.l0 k t l i h = some u ∧ u.size ≤ 61 := by
  intro d
  induction d with
  | zero =>
    intro k t i h hd h0 hi hk
    obtain ⟨k, rfl⟩ := succ_of hk
    obtain ⟨v, i', h', e, v0, v1, _, i0, i1⟩ := spec_l1Below_f l i h 2 h0 hl hi
    have v2 := v1 (by omega)
    simp only [spec_DrawValueOk.l0]
    rw [e, Option.bind_some]
    simp only
    rw [w64 (by omega), if_neg (by omega)]
    exact ⟨_, rfl, by omega⟩
  | succ d ih =>
    intro k t i h hd h0 hi hk
    obtain ⟨k, rfl⟩ := succ_of hk
    obtain ⟨v, i', h', e, v0, v1, _, i0, i1⟩ := spec_l1Below_f l i h 2 h0 hl hi
    have v2 := v1 (by omega)
    simp only [spec_DrawValueOk.l0]
    rw [e, Option.bind_some]
    simp only
    rw [w64 (by omega)]
    split
    · rw [if_pos (by omega)]
      exact ih k _ i' h' (by rw [ByteArray.size_append]; show t.size + 1 + d = 61; omega) i0 i1 (by omega)
    · exact ⟨_, rfl, by omega⟩
theorem spec_DrawValueOk_f {k : Nat} {l : List Int} (hl : (l.length : Int) ≤ 4611686018427387904) (hk : l.length + 100 < k) : ∃ t, spec_DrawValueOk.f k l = some t ∧ t.size ≤ 61 := by
  unfold spec_DrawValueOk.f
  obtain ⟨h, e⟩ := spec_l1New_f (k := k) hl (by omega)
  rw [e, Option.bind_some]
  obtain ⟨t, i', h', e2, ht, i0, i1⟩ := spec_l1DrawText_f (k := k) (i := 0) (h := h) hl (by omega) (by omega) (by omega)
  simp only
  rw [e2, Option.bind_some]
  simp only
  obtain ⟨b, i2, h2, e3, i20, i21⟩ := spec_l1Once_f l i' h' 12 i0 hl i1
  rw [e3, Option.bind_some]
  simp only
  split
  · exact spec_DrawValueOk_l0 l hl (61 - t.size) k t i2 h2 (by omega) i20 i21 (by omega)
  · exact ⟨_, rfl, by omega⟩
theorem low1_low (c : UInt8) : low1 (low1 c) = low1 c := by
  unfold low1
  by_cases h : 65 ≤ c.toNat ∧ c.toNat ≤ 90
  · rw [if_pos h, if_neg]
    rw [UInt8.toNat_ofNat_of_lt' (show c.toNat + 32 < 256 by omega)]; omega
  · rw [if_neg h, if_neg h]
theorem lowB_low (s : ByteArray) : lowB (lowB s) = lowB s := by
  apply B_ext
  rw [B_lowB, B_lowB, List.map_map]
  exact List.map_congr_left (fun c _ => low1_low c)
theorem lowB_size (s : ByteArray) : (lowB s).size = s.size := by rw [← B_len, B_lowB, List.length_map, B_len]
theorem tok_all {s : ByteArray} (h : tokB s = true) : (∀ c ∈ B s, tok1 c = true) ∧ 1 ≤ s.size ∧ s.size ≤ 20 := by
  unfold tokB at h
  rw [Bool.and_eq_true, List.all_eq_true] at h
  exact ⟨h.1, of_decide_eq_true h.2⟩
theorem tok_low {s : ByteArray} (h : tokB s = true) : lowB s = s := by
  apply B_ext
  rw [B_lowB]
  have h1 := (tok_all h).1
  have : (B s).map low1 = (B s).map id := List.map_congr_left (fun c hc => by
    have := of_decide_eq_true (h1 c hc)
    unfold low1
    rw [if_neg (by omega)]; rfl)
  rw [this, List.map_id]
theorem tok_trim {s : ByteArray} (h : tokB s = true) : trimT s = s := by
  obtain ⟨h1, h2, h3⟩ := tok_all h
  have h32 : ∀ j (hj : j < (B s).length), (B s)[j] ≠ 32 := fun j hj e => by
    have := of_decide_eq_true (h1 _ (List.getElem_mem hj))
    rw [e] at this
    exact absurd this (by decide)
  have := trim_is s 0 s.size (by omega) (Nat.le_refl _) (fun j _ hj => by omega) (fun hj => h32 0 hj) (fun j hj hs => by rw [B_len] at hj; omega) (.inr fun hj => h32 _ hj)
  rw [← this, extract_all0]
theorem tok_val {s : ByteArray} (h : tokB s = true) : valB s = true := by
  obtain ⟨h1, h2, h3⟩ := tok_all h
  unfold valB fromB
  rw [decide_eq_true (show 1 ≤ s.size ∧ s.size ≤ 60 by omega), decide_eq_true (tok_trim h), Bool.true_and, Bool.and_true, List.all_eq_true]
  intro c hc
  have := of_decide_eq_true (h1 c hc)
  exact decide_eq_true (by omega)
theorem val_trim {s : ByteArray} (h : valB s = true) : trimT s = s := by
  unfold valB at h
  rw [Bool.and_eq_true] at h
  exact of_decide_eq_true h.2

end Go.Proofs.YtogdmlgbdbgpkaaDoor.Pure
