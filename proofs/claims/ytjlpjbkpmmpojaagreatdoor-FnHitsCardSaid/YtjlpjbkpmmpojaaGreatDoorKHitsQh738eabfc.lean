/- What the printed functions answer, in plain words: lemmas of this session. No condition of a statement lies here. -/
import Derived.Test.YtjlpjbkpmmpojaaGreatDoorKHitsAllx0
import Derived.Test.YtjlpjbkpmmpojaaGreatDoorKHitsAllx2
import Derived.Test.YtjlpjbkpmmpojaaGreatDoorKHitsAllx3
import Derived.Test.YtjlpjbkpmmpojaaGreatDoorKHitsQhd4f6af10
namespace Go.Proofs.YtjlpjbkpmmpojaaGreatDoor.Pure
open Go.RowKit Go.Proofs.YtjlpjbkpmmpojaaGreatDoor.All Go.Proofs.YtjlpjbkpmmpojaaGreatDoorW.PrintWords Go.Proofs.YtjlpjbkpmmpojaaGreatDoorW.PrintLast
set_option linter.unusedVariables false
set_option linter.unusedSimpArgs false

/-! ### draws: they end, and what they draw is small -/
theorem and255 (x : Int) : 0 ≤ Go.bits .and .i64 x 255 ∧ Go.bits .and .i64 x 255 ≤ 255 := by
  unfold Go.bits
  simp only
  have h : (BitVec.ofInt IntKind.i64.bits x &&& BitVec.ofInt IntKind.i64.bits 255).toNat ≤ 255 := by
    rw [BitVec.toNat_and]
    exact Nat.and_le_right
  rw [IntKind.wrap_i64]
  omega
theorem spec_l1Byte_f (l : List Int) (i h : Int) (h0 : 0 ≤ i) (hl : (l.length : Int) ≤ 4611686018427387904) (hi : i ≤ l.length) : ∃ v i' h', spec_l1Byte.f l i h = some (v, i', h') ∧ 0 ≤ v ∧ v ≤ 255 ∧ 0 ≤ i' ∧ i' ≤ l.length := by
  unfold spec_l1Byte.f
  split
  · try rw [if_pos h0]
    refine ⟨_, _, _, rfl, (and255 _).1, (and255 _).2, ?_, ?_⟩ <;> rw [w64 (by omega)] <;> omega
  · exact ⟨_, _, _, rfl, (and255 _).1, (and255 _).2, h0, hi⟩
theorem spec_l1Below_f (l : List Int) (i h n : Int) (h0 : 0 ≤ i) (hl : (l.length : Int) ≤ 4611686018427387904) (hi : i ≤ l.length) : ∃ v i' h', spec_l1Below.f l i h n = some (v, i', h') ∧ 0 ≤ v ∧ (0 < n → v < n) ∧ (n ≤ 0 → v = 0) ∧ 0 ≤ i' ∧ i' ≤ l.length := by
  unfold spec_l1Below.f
  split
  · exact ⟨_, _, _, rfl, by omega, by omega, by omega, h0, hi⟩
  split
  · obtain ⟨v, i', h', e, v0, v1, i0, i1⟩ := spec_l1Byte_f l i h h0 hl hi
    rw [e, Option.bind_some, if_neg (by omega)]
    refine ⟨_, _, _, rfl, ?_, fun _ => ?_, by omega, i0, i1⟩
    · exact Int.tmod_nonneg _ v0
    · exact Int.tmod_lt_of_pos _ (by omega)
  · obtain ⟨v, i', h', e, v0, v1, i0, i1⟩ := spec_l1Byte_f l i h h0 hl hi
    rw [e, Option.bind_some]
    obtain ⟨v2, i2, h2, e2, v20, v21, i20, i21⟩ := spec_l1Byte_f l i' h' i0 hl i1
    simp only
    rw [e2, Option.bind_some]
    obtain ⟨v3, i3, h3, e3, v30, v31, i30, i31⟩ := spec_l1Byte_f l i2 h2 i20 hl i21
    simp only
    rw [e3, Option.bind_some]
    obtain ⟨v4, i4, h4, e4, v40, v41, i40, i41⟩ := spec_l1Byte_f l i3 h3 i30 hl i31
    simp only
    rw [e4, Option.bind_some, if_neg (by omega)]
    simp only
    rw [w64 (n := v * 16777216) (by omega), w64 (n := v2 * 65536) (by omega), w64 (n := v3 * 256) (by omega), w64 (n := v * 16777216 + v2 * 65536) (by omega), w64 (n := v * 16777216 + v2 * 65536 + v3 * 256) (by omega), w64 (n := v * 16777216 + v2 * 65536 + v3 * 256 + v4) (by omega)]
    refine ⟨_, _, _, rfl, ?_, fun _ => ?_, by omega, i40, i41⟩
    · exact Int.tmod_nonneg _ (by omega)
    · exact Int.tmod_lt_of_pos _ (by omega)
theorem spec_l1Pick_f (l : List Int) (i h : Int) (ts : List ByteArray) (h0 : 0 ≤ i) (hl : (l.length : Int) ≤ 4611686018427387904) (hi : i ≤ l.length) (hts : 0 < ts.length) : ∃ t i' h', spec_l1Pick.f l i h ts = some (t, i', h') ∧ t ∈ ts ∧ 0 ≤ i' ∧ i' ≤ l.length := by
  unfold spec_l1Pick.f
  obtain ⟨v, i', h', e, v0, v1, _, i0, i1⟩ := spec_l1Below_f l i h ts.length h0 hl hi
  have v2 := v1 (by omega)
  rw [e, Option.bind_some, if_pos v0, if_pos v2]
  obtain ⟨j, rfl⟩ : ∃ j : Nat, v = j := ⟨v.toNat, by omega⟩
  exact ⟨_, _, _, rfl, by simp only; rw [rd_B ts j (by omega)]; exact List.getElem_mem _, i0, i1⟩
theorem spec_l1New_l0 (l : List Int) (hl : (l.length : Int) ≤ 4611686018427387904) : ∀ (d k i : Nat) (h : Int), l.length = i + d → d < k → ∃ h', spec_l1New.l0 k l h i = some (l, 0, h') := by
  intro d
  induction d with
  | zero =>
    intro k i h hd hk
    obtain ⟨k, rfl⟩ := succ_of hk
    simp only [spec_l1New.l0]
    rw [if_neg (by omega)]
    exact ⟨_, rfl⟩
  | succ d ih =>
    intro k i h hd hk
    obtain ⟨k, rfl⟩ := succ_of hk
    simp only [spec_l1New.l0]
    rw [if_pos (by omega)]
    split
    · rw [if_pos (by omega), nat_round (n := l.length) (by omega) (by omega)]
      exact ih k (i + 1) _ (by omega) (by omega)
    · exact ⟨_, rfl⟩
theorem spec_l1New_f {k : Nat} {l : List Int} (hl : (l.length : Int) ≤ 4611686018427387904) (hk : l.length < k) : ∃ h', spec_l1New.f k l = some (l, 0, h') :=
  spec_l1New_l0 l hl l.length k 0 _ (by omega) hk
/-- the texts of a list are of at most K bytes -/
def allLe (K : Nat) (ts : List ByteArray) : Bool := ts.all fun t => Nat.ble t.size K
theorem allLe_mem {K : Nat} {ts : List ByteArray} (h : allLe K ts = true) {t : ByteArray} (ht : t ∈ ts) : t.size ≤ K := by
  unfold allLe at h
  rw [List.all_eq_true] at h
  exact Nat.le_of_ble_eq_true (h t ht)
theorem spec_l1Pick_le (l : List Int) (i h : Int) (K : Nat) (ts : List ByteArray) (h0 : 0 ≤ i) (hl : (l.length : Int) ≤ 4611686018427387904) (hi : i ≤ l.length) (hts : 0 < ts.length) (hk : allLe K ts = true) : ∃ t i' h', spec_l1Pick.f l i h ts = some (t, i', h') ∧ t.size ≤ K ∧ 0 ≤ i' ∧ i' ≤ l.length := by
  obtain ⟨t, i', h', e, ht, r⟩ := spec_l1Pick_f l i h ts h0 hl hi hts
  exact ⟨t, i', h', e, allLe_mem hk ht, r⟩
theorem pick_bind {α : Type} {l : List Int} {i h : Int} {K : Nat} {ts : List ByteArray} {F : ByteArray × Int × Int → Option α} {P : α → Prop} (h0 : 0 ≤ i) (hl : (l.length : Int) ≤ 4611686018427387904) (hi : i ≤ l.length) (hts : 0 < ts.length) (hk : allLe K ts = true)
    (hF : ∀ t i' h', t.size ≤ K → 0 ≤ i' → i' ≤ (l.length : Int) → ∃ r, F (t, i', h') = some r ∧ P r) : ∃ r, (spec_l1Pick.f l i h ts).bind F = some r ∧ P r := by
  obtain ⟨t, i', h', e, ht, j0, j1⟩ := spec_l1Pick_le l i h K ts h0 hl hi hts hk
  rw [e, Option.bind_some]
  exact hF t i' h' ht j0 j1
theorem ex3 {α β γ : Type} {o : Option (α × β × γ)} {P : α × β × γ → Prop} (h : ∃ r, o = some r ∧ P r) : ∃ a b c, o = some (a, b, c) ∧ P (a, b, c) := by
  obtain ⟨⟨a, b, c⟩, e, p⟩ := h; exact ⟨a, b, c, e, p⟩
theorem ex4 {α β γ δ : Type} {o : Option (α × β × γ × δ)} {P : α × β × γ × δ → Prop} (h : ∃ r, o = some r ∧ P r) : ∃ a b c d, o = some (a, b, c, d) ∧ P (a, b, c, d) := by
  obtain ⟨⟨a, b, c, d⟩, e, p⟩ := h; exact ⟨a, b, c, d, e, p⟩
theorem spec_l2DrawField_f (l : List Int) (i h : Int) (h0 : 0 ≤ i) (hl : (l.length : Int) ≤ 4611686018427387904) (hi : i ≤ l.length) : ∃ n v i' h', spec_l2DrawField.f l i h = some (n, v, i', h') ∧ n.size ≤ 26 ∧ v.size ≤ 26 ∧ 0 ≤ i' ∧ i' ≤ l.length := by
  refine ex4 (P := fun r : ByteArray × ByteArray × Int × Int => r.1.size ≤ 26 ∧ r.2.1.size ≤ 26 ∧ 0 ≤ r.2.2.1 ∧ r.2.2.1 ≤ (l.length : Int)) ?_
  unfold spec_l2DrawField.f
  obtain ⟨d, i1, h1, e, _, _, _, i10, i11⟩ := spec_l1Below_f l i h 9 h0 hl hi
  rw [e, Option.bind_some]
  dsimp only
  repeat' split
  iterate 7
    · exact pick_bind (K := 26) i10 hl i11 (by simp) (by rfl) (fun t i' h' ht j0 j1 => ⟨_, rfl, Nat.le_of_ble_eq_true rfl, ht, j0, j1⟩)
  · refine pick_bind (K := 26) i10 hl i11 (by simp) (by rfl) (fun n i2 h2 hn i20 i21 => ?_)
    dsimp only
    exact pick_bind (K := 26) i20 hl i21 (by simp) (by rfl) (fun t i' h' ht j0 j1 => ⟨_, rfl, hn, ht, j0, j1⟩)
theorem spec_l2DrawRight_l0 (l : List Int) (hl : (l.length : Int) ≤ 4611686018427387904) : ∀ (d k n : Nat) (acc : List S116) (i h : Int), n + d = 5 → acc.length ≤ n → (∀ x ∈ acc, x.f0.size ≤ 26 ∧ x.f1.size ≤ 26) → 0 ≤ i → i ≤ l.length → d + 8 < k → ∃ r i' h', spec_l2DrawRight.l0 k acc (n : Int) l i h = some (r, i', h') ∧ SmallF 26 r ∧ r.length ≤ 5 ∧ 0 ≤ i' ∧ i' ≤ l.length := by
  intro d
  induction d with
  | zero =>
    intro k n acc i h hd ha hx h0 hi hk
    obtain ⟨k, rfl⟩ := succ_of (show 0 < k by omega)
    obtain ⟨v, i', h', e, v0, v1, _, i0, i1⟩ := spec_l1Below_f l i h 5 h0 hl hi
    have v2 := v1 (by omega)
    simp only [spec_l2DrawRight.l0]
    rw [e, Option.bind_some]
    dsimp only
    rw [if_neg (by omega)]
    exact ⟨_, _, _, rfl, ⟨by omega, hx⟩, by omega, i0, i1⟩
  | succ d ih =>
    intro k n acc i h hd ha hx h0 hi hk
    obtain ⟨k, rfl⟩ := succ_of (show 0 < k by omega)
    obtain ⟨v, i1, h1, e, v0, v1, _, i10, i11⟩ := spec_l1Below_f l i h 5 h0 hl hi
    simp only [spec_l2DrawRight.l0]
    rw [e, Option.bind_some]
    dsimp only
    split
    · obtain ⟨fn, fv, i2, h2, e2, hn, hv, i20, i21⟩ := spec_l2DrawField_f l i1 h1 i10 hl i11
      rw [e2, Option.bind_some]
      dsimp only
      rw [spec_l2At_f (by omega) (by omega), Option.bind_some, w64 (by omega), show (n : Int) + 1 = ((n + 1 : Nat) : Int) by omega]
      split
      · rw [if_pos (by omega)]
        refine ih k (n + 1) _ i2 h2 (by omega) (by simp; omega) (fun x hx' => ?_) i20 i21 (by omega)
        rcases List.mem_append.1 hx' with hx' | hx'
        · exact hx x hx'
        · rw [List.mem_singleton.1 hx']; exact ⟨hn, hv⟩
      · exact ih k (n + 1) acc i2 h2 (by omega) (by omega) hx i20 i21 (by omega)
    · exact ⟨_, _, _, rfl, ⟨by omega, hx⟩, by omega, i10, i11⟩
theorem spec_l2DrawRight_f {k : Nat} {l : List Int} {i h : Int} (hl : (l.length : Int) ≤ 4611686018427387904) (h0 : 0 ≤ i) (hi : i ≤ l.length) (hk : 20 < k) : ∃ r i' h', spec_l2DrawRight.f k l i h = some (r, i', h') ∧ SmallF 26 r ∧ r.length ≤ 5 ∧ 0 ≤ i' ∧ i' ≤ l.length :=
  spec_l2DrawRight_l0 l hl 5 k 0 [] i h (by omega) (by simp) (fun x hx => by cases hx) h0 hi (by omega)
theorem spec_l2Draw_l0 (l : List Int) (hl : (l.length : Int) ≤ 4611686018427387904) : ∀ (d k : Nat) (acc : List S116) (i h : Int), acc.length + d = 9 → (∀ x ∈ acc, x.f0.size ≤ 26 ∧ x.f1.size ≤ 26) → 0 ≤ i → i ≤ l.length → d + 40 < k → ∃ r i' h', spec_l2Draw.l0 k acc l i h = some (r, i', h') ∧ SmallF 26 r ∧ 0 ≤ i' ∧ i' ≤ l.length := by
  intro d
  induction d with
  | zero =>
    intro k acc i h hd hx h0 hi hk
    obtain ⟨k, rfl⟩ := succ_of (show 0 < k by omega)
    obtain ⟨v, i', h', e, v0, v1, _, i0, i1⟩ := spec_l1Below_f l i h 2 h0 hl hi
    have v2 := v1 (by omega)
    simp only [spec_l2Draw.l0]
    rw [e, Option.bind_some]
    dsimp only
    rw [w64 (by omega), if_neg (by omega)]
    exact ⟨_, _, _, rfl, ⟨by omega, hx⟩, i0, i1⟩
  | succ d ih =>
    intro k acc i h hd hx h0 hi hk
    obtain ⟨k, rfl⟩ := succ_of (show 0 < k by omega)
    obtain ⟨v, i1, h1, e, v0, v1, _, i10, i11⟩ := spec_l1Below_f l i h 2 h0 hl hi
    have v2 := v1 (by omega)
    have nt := numT_size (acc.length : Int)
    simp only [spec_l2Draw.l0]
    rw [e, Option.bind_some]
    dsimp only
    rw [w64 (by omega)]
    split
    · rw [spec_NumText_f (by omega), Option.bind_some, if_pos (by omega), if_pos (by omega)]
      refine ih k _ i1 h1 (by simp; omega) (fun x hx' => ?_) i10 i11 (by omega)
      rcases List.mem_append.1 hx' with hx' | hx'
      · exact hx x hx'
      · rw [List.mem_singleton.1 hx']
        refine ⟨?_, Nat.le_of_ble_eq_true rfl⟩
        dsimp only
        rw [ByteArray.size_append]
        show 1 + (numT (acc.length : Int)).size ≤ 26
        omega
    · exact ⟨_, _, _, rfl, ⟨by omega, hx⟩, i10, i11⟩
theorem SmallF.snoc {K : Nat} {l : List S116} {x : S116} (h : SmallF K l) (hl : l.length < K) (h0 : x.f0.size ≤ K) (h1 : x.f1.size ≤ K) : SmallF K (l ++ [x]) := by
  refine ⟨by simp; omega, fun y hy => ?_⟩
  rcases List.mem_append.1 hy with hy | hy
  · exact h.2 y hy
  · rw [List.mem_singleton.1 hy]; exact ⟨h0, h1⟩
theorem spec_l2Draw_f {k : Nat} {l : List Int} {i h : Int} (hl : (l.length : Int) ≤ 4611686018427387904) (h0 : 0 ≤ i) (hi : i ≤ l.length) (hk : 60 < k) : ∃ r i' h', spec_l2Draw.f k l i h = some (r, i', h') ∧ SmallF 26 r ∧ 0 ≤ i' ∧ i' ≤ l.length := by
  unfold spec_l2Draw.f
  obtain ⟨r, i1, h1, e, hr, hr5, i10, i11⟩ := spec_l2DrawRight_f (k := k) (h := h) hl h0 hi (by omega)
  rw [e, Option.bind_some]
  dsimp only
  obtain ⟨d, i2, h2, e2, _, _, _, i20, i21⟩ := spec_l1Below_f l i1 h1 15 i10 hl i11
  rw [e2, Option.bind_some]
  dsimp only
  split
  · obtain ⟨n1, v1, i3, h3, e3, hn1, hv1, i30, i31⟩ := spec_l2DrawField_f l i2 h2 i20 hl i21
    rw [e3, Option.bind_some]
    dsimp only
    obtain ⟨n2, v2, i4, h4, e4, hn2, hv2, i40, i41⟩ := spec_l2DrawField_f l i3 h3 i30 hl i31
    rw [e4, Option.bind_some]
    dsimp only
    rw [Option.bind_some, if_pos (by simp; omega)]
    refine ⟨_, _, _, rfl, ?_, i40, i41⟩
    have h5 := (hr.snoc (x := ⟨n1, v1⟩) (by omega) hn1 hv1).snoc (x := ⟨n2, v2⟩) (by simp; omega) hn2 hv2
    rw [List.append_assoc] at h5
    exact h5
  split
  · refine ex3 (P := fun r : List S116 × Int × Int => SmallF 26 r.1 ∧ 0 ≤ r.2.1 ∧ r.2.1 ≤ (l.length : Int)) ?_
    refine pick_bind (K := 26) i20 hl i21 (by simp) (by rfl) (fun n1 i3 h3 hn1 i30 i31 => ?_)
    dsimp only
    refine pick_bind (K := 26) i30 hl i31 (by simp) (by rfl) (fun v1 i4 h4 hv1 i40 i41 => ?_)
    dsimp only
    rw [if_pos (by omega)]
    exact ⟨_, rfl, hr.snoc (x := ⟨n1, v1⟩) (by omega) hn1 hv1, i40, i41⟩
  split
  · exact spec_l2Draw_l0 l hl (9 - r.length) k r i2 h2 (by omega) hr.2 i20 i21 (by omega)
  · exact ⟨_, _, _, rfl, hr, i20, i21⟩
theorem spec_l1PickInt_f (l : List Int) (i h : Int) (ts : List Int) (h0 : 0 ≤ i) (hl : (l.length : Int) ≤ 4611686018427387904) (hi : i ≤ l.length) (hts : 0 < ts.length) : ∃ t i' h', spec_l1PickInt.f l i h ts = some (t, i', h') ∧ t ∈ ts ∧ 0 ≤ i' ∧ i' ≤ l.length := by
  obtain ⟨v, i', h', e, v0, v1, _, i0, i1⟩ := spec_l1Below_f l i h ts.length h0 hl hi
  have v2 := v1 (by omega)
  unfold spec_l1PickInt.f
  rw [e, Option.bind_some]
  dsimp only
  rw [if_pos v0, if_pos v2]
  obtain ⟨u, rfl⟩ : ∃ u : Nat, v = u := ⟨v.toNat, by omega⟩
  rw [rd_I ts u (by omega)]
  exact ⟨_, _, _, rfl, List.getElem_mem (by omega), i0, i1⟩

end Go.Proofs.YtjlpjbkpmmpojaaGreatDoor.Pure
