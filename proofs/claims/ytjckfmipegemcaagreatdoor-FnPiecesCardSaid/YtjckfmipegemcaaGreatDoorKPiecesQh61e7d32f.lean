/- What the printed functions answer, in plain words: lemmas of this session. No condition of a statement lies here. -/
import Derived.Test.YtjckfmipegemcaaGreatDoorKPiecesAllx0
import Derived.Test.YtjckfmipegemcaaGreatDoorKPiecesAllx7
import Derived.Test.YtjckfmipegemcaaGreatDoorKPiecesAllx8
import Derived.Test.YtjckfmipegemcaaGreatDoorKPiecesAllx9
import Derived.Test.YtjckfmipegemcaaGreatDoorKPiecesAllx10
import Derived.Test.YtjckfmipegemcaaGreatDoorKPiecesAllx6
import Derived.Test.YtjckfmipegemcaaGreatDoorKPiecesQh9403bd91
namespace Go.Proofs.YtjckfmipegemcaaGreatDoor.Pure
open Go.RowKit Go.Proofs.YtjckfmipegemcaaGreatDoor.All Go.Proofs.YtjckfmipegemcaaGreatDoorW.PrintWords Go.Proofs.YtjckfmipegemcaaGreatDoorW.PrintLast
set_option linter.unusedVariables false
set_option linter.unusedSimpArgs false

def cutN (n : Int) (s : ByteArray) : Nat := (max 0 (min n s.size)).toNat
def pieces : List Int → ByteArray → List ByteArray
  | [], s => if s.size = 0 then [] else [s]
  | n :: r, s => s.extract 0 (cutN n s) :: pieces r (s.extract (cutN n s) s.size)
theorem cutN_le (n : Int) (s : ByteArray) : cutN n s ≤ s.size := by unfold cutN; omega
theorem pieces_length : ∀ (l : List Int) (s : ByteArray), (pieces l s).length ≤ l.length + 1
  | [], s => by rw [pieces]; split <;> simp
  | n :: r, s => by rw [pieces, List.length_cons, List.length_cons]; have := pieces_length r (s.extract (cutN n s) s.size); omega
theorem extract_all (s : ByteArray) : s.extract 0 s.size = s := ByteArray.extract_zero_size
theorem impl_Pieces_l0 (l : List Int) (hl : l.length ≤ 1048576) : ∀ (d k i : Nat) (s : ByteArray) (acc : List ByteArray), l.length - i = d → i ≤ l.length → acc.length ≤ i → s.size ≤ 1048576 → d < k →
    impl_Pieces.l0 k s acc l (l.length : Int) i = some (acc ++ pieces (l.drop i) s) := by
  intro d
  induction d with
  | zero =>
    intro k i s acc hd hi ha hs hk
    obtain ⟨k, rfl⟩ := succ_of (show 0 < k by omega)
    simp only [impl_Pieces.l0]
    rw [if_neg (by omega), List.drop_eq_nil_of_le (by omega), pieces, toList_B]
    by_cases h : s.size = 0
    · rw [if_pos (List.eq_nil_of_length_eq_zero (by rw [B_len, h])), if_pos h, List.append_nil]
    · rw [if_neg (fun e => h (by rw [← B_len, e]; rfl)), if_neg h, if_pos (by omega)]
  | succ d ih =>
    intro k i s acc hd hi ha hs hk
    obtain ⟨k, rfl⟩ := succ_of (show 0 < k by omega)
    have hlt : i < l.length := by omega
    have hc := cutN_le l[i] s
    have hm : mx 0 (mn l[i] (s.size : Int)) = (cutN l[i] s : Int) := by unfold mx mn cutN; split <;> split <;> omega
    simp only [impl_Pieces.l0]
    rw [if_pos (by omega), if_pos (by omega), if_pos (by omega), rd_I l i hlt, nat_round (n := l.length) hlt (by omega), hm, if_pos (by omega), if_pos (by omega), if_pos (by omega), Int.toNat_natCast,
      ih k (i + 1) _ _ (by omega) (by omega) (by simp; omega) (by rw [ByteArray.size_extract]; omega) (by omega), drop_at hlt, pieces, List.append_assoc]
    rfl
theorem impl_Pieces_f {k : Nat} {l : List Int} {s : ByteArray} (hl : l.length ≤ 1048576) (hs : s.size ≤ 1048576) (hk : l.length < k) : impl_Pieces.f k s l = some (pieces l s) := by
  have := impl_Pieces_l0 l hl l.length k 0 s [] (by omega) (by omega) (by simp) hs hk
  simpa [impl_Pieces.f] using this
/-! ### draws: they end, and what they draw is small -/
theorem and255 (x : Int) : 0 ≤ Go.bits .and .i64 x 255 ∧ Go.bits .and .i64 x 255 ≤ 255 := by
  unfold Go.bits
  simp only
  have h : (BitVec.ofInt IntKind.i64.bits x &&& BitVec.ofInt IntKind.i64.bits 255).toNat ≤ 255 := by
    rw [BitVec.toNat_and]
    exact Nat.and_le_right
  rw [IntKind.wrap_i64]
  omega
theorem spec_l1Byte_f (l : List Int) (i h : Int) (h0 : 0 ≤ i) (hl : (l.length : Int) ≤ 4611686018427387904) (hi : i ≤ l.length) : ∃ v i' h', spec_l1Byte.f l i h = some (v, i', h') ∧ 0 ≤ v ∧ v ≤ 255 ∧ 0 ≤ i' ∧ i' ≤ l.length := by
  unfold spec_l1Byte.f
  split
  · try rw [if_pos h0]
    refine ⟨_, _, _, rfl, (and255 _).1, (and255 _).2, ?_, ?_⟩ <;> rw [w64 (by omega)] <;> omega
  · exact ⟨_, _, _, rfl, (and255 _).1, (and255 _).2, h0, hi⟩
theorem spec_l1Below_f (l : List Int) (i h n : Int) (h0 : 0 ≤ i) (hl : (l.length : Int) ≤ 4611686018427387904) (hi : i ≤ l.length) : ∃ v i' h', spec_l1Below.f l i h n = some (v, i', h') ∧ 0 ≤ v ∧ (0 < n → v < n) ∧ (n ≤ 0 → v = 0) ∧ 0 ≤ i' ∧ i' ≤ l.length := by
  unfold spec_l1Below.f
  split
  · exact ⟨_, _, _, rfl, by omega, by omega, by omega, h0, hi⟩
  split
  · obtain ⟨v, i', h', e, v0, v1, i0, i1⟩ := spec_l1Byte_f l i h h0 hl hi
    rw [e, Option.bind_some, if_neg (by omega)]
    refine ⟨_, _, _, rfl, ?_, fun _ => ?_, by omega, i0, i1⟩
    · exact Int.tmod_nonneg _ v0
    · exact Int.tmod_lt_of_pos _ (by omega)
  · obtain ⟨v, i', h', e, v0, v1, i0, i1⟩ := spec_l1Byte_f l i h h0 hl hi
    rw [e, Option.bind_some]
    obtain ⟨v2, i2, h2, e2, v20, v21, i20, i21⟩ := spec_l1Byte_f l i' h' i0 hl i1
    simp only
    rw [e2, Option.bind_some]
    obtain ⟨v3, i3, h3, e3, v30, v31, i30, i31⟩ := spec_l1Byte_f l i2 h2 i20 hl i21
    simp only
    rw [e3, Option.bind_some]
    obtain ⟨v4, i4, h4, e4, v40, v41, i40, i41⟩ := spec_l1Byte_f l i3 h3 i30 hl i31
    simp only
    rw [e4, Option.bind_some, if_neg (by omega)]
    simp only
    rw [w64 (n := v * 16777216) (by omega), w64 (n := v2 * 65536) (by omega), w64 (n := v3 * 256) (by omega), w64 (n := v * 16777216 + v2 * 65536) (by omega), w64 (n := v * 16777216 + v2 * 65536 + v3 * 256) (by omega), w64 (n := v * 16777216 + v2 * 65536 + v3 * 256 + v4) (by omega)]
    refine ⟨_, _, _, rfl, ?_, fun _ => ?_, by omega, i40, i41⟩
    · exact Int.tmod_nonneg _ (by omega)
    · exact Int.tmod_lt_of_pos _ (by omega)
theorem spec_l1Pick_f (l : List Int) (i h : Int) (ts : List ByteArray) (h0 : 0 ≤ i) (hl : (l.length : Int) ≤ 4611686018427387904) (hi : i ≤ l.length) (hts : 0 < ts.length) : ∃ t i' h', spec_l1Pick.f l i h ts = some (t, i', h') ∧ t ∈ ts ∧ 0 ≤ i' ∧ i' ≤ l.length := by
  unfold spec_l1Pick.f
  obtain ⟨v, i', h', e, v0, v1, _, i0, i1⟩ := spec_l1Below_f l i h ts.length h0 hl hi
  have v2 := v1 (by omega)
  rw [e, Option.bind_some, if_pos v0, if_pos v2]
  obtain ⟨j, rfl⟩ : ∃ j : Nat, v = j := ⟨v.toNat, by omega⟩
  exact ⟨_, _, _, rfl, by simp only; rw [rd_B ts j (by omega)]; exact List.getElem_mem _, i0, i1⟩
theorem spec_l1New_l0 (l : List Int) (hl : (l.length : Int) ≤ 4611686018427387904) : ∀ (d k i : Nat) (h : Int), l.length = i + d → d < k → ∃ h', spec_l1New.l0 k l h i = some (l, 0, h') := by
  intro d
  induction d with
  | zero =>
    intro k i h hd hk
    obtain ⟨k, rfl⟩ := succ_of hk
    simp only [spec_l1New.l0]
    rw [if_neg (by omega)]
    exact ⟨_, rfl⟩
  | succ d ih =>
    intro k i h hd hk
    obtain ⟨k, rfl⟩ := succ_of hk
    simp only [spec_l1New.l0]
    rw [if_pos (by omega)]
    split
    · rw [if_pos (by omega), nat_round (n := l.length) (by omega) (by omega)]
      exact ih k (i + 1) _ (by omega) (by omega)
    · exact ⟨_, rfl⟩
theorem spec_l1New_f {k : Nat} {l : List Int} (hl : (l.length : Int) ≤ 4611686018427387904) (hk : l.length < k) : ∃ h', spec_l1New.f k l = some (l, 0, h') :=
  spec_l1New_l0 l hl l.length k 0 _ (by omega) hk
theorem strOfNums_size' (l : List Int) : (strOfNums l).size = l.length := by rw [← B_len, B_strOf, List.length_map]
theorem spec_l1DrawText_l0 (l : List Int) (hl : (l.length : Int) ≤ 4611686018427387904) : ∀ (d k n : Nat) (acc : List Int) (i h : Int), n + d = 14 → acc.length = n → 0 ≤ i → i ≤ l.length → d < k → ∃ t i' h', spec_l1DrawText.l0 k acc (n : Int) l i h = some (t, i', h') ∧ t.size ≤ 14 ∧ 0 ≤ i' ∧ i' ≤ l.length := by
  intro d
  induction d with
  | zero =>
    intro k n acc i h hd ha h0 hi hk
    obtain ⟨k, rfl⟩ := succ_of hk
    obtain ⟨v, i', h', e, v0, v1, _, i0, i1⟩ := spec_l1Below_f l i h 14 h0 hl hi
    have v2 := v1 (by omega)
    simp only [spec_l1DrawText.l0]
    rw [e, Option.bind_some]
    simp only
    rw [if_neg (by omega)]
    exact ⟨_, _, _, rfl, by rw [strOfNums_size']; omega, i0, i1⟩
  | succ d ih =>
    intro k n acc i h hd ha h0 hi hk
    obtain ⟨k, rfl⟩ := succ_of hk
    obtain ⟨v, i', h', e, v0, v1, _, i0, i1⟩ := spec_l1Below_f l i h 14 h0 hl hi
    simp only [spec_l1DrawText.l0]
    rw [e, Option.bind_some]
    simp only
    split
    · obtain ⟨t, i2, h2, e2, ht, i20, i21⟩ := spec_l1Pick_f l i' h' [⟨#[32]⟩, ⟨#[44]⟩, ⟨#[97]⟩, ⟨#[90]⟩, ⟨#[55]⟩, ⟨#[45]⟩, ⟨#[61]⟩, ⟨#[120]⟩, ⟨#[58]⟩, ⟨#[1]⟩, ⟨#[64]⟩, ⟨#[91]⟩] i0 hl i1 (by simp)
      have hs : t.size = 1 := by
        simp only [List.mem_cons, List.mem_nil_iff, or_false] at ht
        rcases ht with rfl | rfl | rfl | rfl | rfl | rfl | rfl | rfl | rfl | rfl | rfl | rfl <;> rfl
      rw [e2, Option.bind_some]
      simp only
      rw [if_pos (by omega), if_pos (by omega), w64 (by omega), show (n : Int) + 1 = ((n + 1 : Nat) : Int) by omega]
      exact ih k (n + 1) _ i2 h2 (by omega) (by simp [ha]) i20 i21 (by omega)
    · exact ⟨_, _, _, rfl, by rw [strOfNums_size']; omega, i0, i1⟩
theorem spec_l1DrawText_f {k : Nat} {l : List Int} {i h : Int} (hl : (l.length : Int) ≤ 4611686018427387904) (h0 : 0 ≤ i) (hi : i ≤ l.length) (hk : 20 < k) : ∃ t i' h', spec_l1DrawText.f k l i h = some (t, i', h') ∧ t.size ≤ 14 ∧ 0 ≤ i' ∧ i' ≤ l.length :=
  spec_l1DrawText_l0 l hl 14 k 0 [] i h (by omega) rfl h0 hi (by omega)
theorem spec_l1Once_f (l : List Int) (i h n : Int) (h0 : 0 ≤ i) (hl : (l.length : Int) ≤ 4611686018427387904) (hi : i ≤ l.length) : ∃ v i' h', spec_l1Once.f l i h n = some (v, i', h') ∧ 0 ≤ i' ∧ i' ≤ l.length := by
  unfold spec_l1Once.f
  obtain ⟨v, i', h', e, _, _, _, i0, i1⟩ := spec_l1Below_f l i h n h0 hl hi
  rw [e, Option.bind_some]
  exact ⟨_, _, _, rfl, i0, i1⟩
/-- the texts of a list are of at most K bytes -/
def allLe (K : Nat) (ts : List ByteArray) : Bool := ts.all fun t => Nat.ble t.size K
theorem allLe_mem {K : Nat} {ts : List ByteArray} (h : allLe K ts = true) {t : ByteArray} (ht : t ∈ ts) : t.size ≤ K := by
  unfold allLe at h
  rw [List.all_eq_true] at h
  exact Nat.le_of_ble_eq_true (h t ht)
theorem spec_l1Pick_le (l : List Int) (i h : Int) (K : Nat) (ts : List ByteArray) (h0 : 0 ≤ i) (hl : (l.length : Int) ≤ 4611686018427387904) (hi : i ≤ l.length) (hts : 0 < ts.length) (hk : allLe K ts = true) : ∃ t i' h', spec_l1Pick.f l i h ts = some (t, i', h') ∧ t.size ≤ K ∧ 0 ≤ i' ∧ i' ≤ l.length := by
  obtain ⟨t, i', h', e, ht, r⟩ := spec_l1Pick_f l i h ts h0 hl hi hts
  exact ⟨t, i', h', e, allLe_mem hk ht, r⟩
theorem reqText_size (m : Int) (p : ByteArray) (l : List S81) (b : ByteArray) : (reqText m p l b).size ≤ 1000 := by
  unfold reqText
  split
  · rename_i h
    obtain ⟨_, h2, h3, h6⟩ := reqB_facts h
    have h5 := (fieldsB_lines h6).2
    have n1 := methodT_size m
    have n2 := numT_size b.size
    have n4 := path_size h2
    rw [Tx_size]
    unfold reqBytes lenBytes lenWord
    split <;> simp only [List.length_append, List.length_cons, List.length_nil, B_len] <;> omega
  · exact Nat.zero_le _
theorem spec_l1PickInt_f (l : List Int) (i h : Int) (ts : List Int) (h0 : 0 ≤ i) (hl : (l.length : Int) ≤ 4611686018427387904) (hi : i ≤ l.length) (hts : 0 < ts.length) : ∃ t i' h', spec_l1PickInt.f l i h ts = some (t, i', h') ∧ t ∈ ts ∧ 0 ≤ i' ∧ i' ≤ l.length := by
  obtain ⟨v, i', h', e, v0, v1, _, i0, i1⟩ := spec_l1Below_f l i h ts.length h0 hl hi
  have v2 := v1 (by omega)
  unfold spec_l1PickInt.f
  rw [e, Option.bind_some]
  dsimp only
  rw [if_pos v0, if_pos v2]
  obtain ⟨u, rfl⟩ : ∃ u : Nat, v = u := ⟨v.toNat, by omega⟩
  rw [rd_I ts u (by omega)]
  exact ⟨_, _, _, rfl, List.getElem_mem (by omega), i0, i1⟩
/-! ### draws of messages: they end, and what they draw is small -/
theorem spec_l3DrawBody_f {k : Nat} {l : List Int} {i h : Int} (hl : (l.length : Int) ≤ 4611686018427387904) (h0 : 0 ≤ i) (hi : i ≤ l.length) (hk : 20 < k) : ∃ b i' h', spec_l3DrawBody.f k l i h = some (b, i', h') ∧ b.size ≤ 14 ∧ 0 ≤ i' ∧ i' ≤ l.length := by
  unfold spec_l3DrawBody.f
  obtain ⟨v, i1, h1, e, i10, i11⟩ := spec_l1Once_f l i h 2 h0 hl hi
  rw [e, Option.bind_some]
  dsimp only
  split
  · obtain ⟨t, i2, h2, e2, ht, i20, i21⟩ := spec_l1Pick_le l i1 h1 14 [(⟨#[]⟩ : ByteArray), (⟨#[104, 101, 108, 108, 111]⟩ : ByteArray), (⟨#[13, 10, 13, 10]⟩ : ByteArray), (⟨#[97, 0, 98]⟩ : ByteArray), (⟨#[111, 110, 101, 32, 116, 119, 111]⟩ : ByteArray)] i10 hl i11 (by decide) (by rfl)
    rw [e2, Option.bind_some]
    exact ⟨_, _, _, rfl, ht, i20, i21⟩
  · obtain ⟨t, i2, h2, e2, ht, i20, i21⟩ := spec_l1DrawText_f (k := k) (h := h1) hl i10 i11 hk
    rw [e2, Option.bind_some]
    exact ⟨_, _, _, rfl, ht, i20, i21⟩
theorem spec_l3DrawReq_l0 (l : List Int) (hl : (l.length : Int) ≤ 4611686018427387904) (m : Int) (p : ByteArray) : ∀ (d k n : Nat) (acc : List S81) (i h : Int), n + d = 3 → acc.length ≤ n → (∀ x ∈ acc, x.f0.size ≤ 26 ∧ x.f1.size ≤ 26) → 0 ≤ i → i ≤ l.length → d + 30 < k →
    ∃ r b i' h', spec_l3DrawReq.l0 k (n : Int) l i h m p acc (⟨#[]⟩ : ByteArray) = some (m, p, r, b, i', h') ∧ SmallF 26 r ∧ r.length ≤ 3 ∧ b.size ≤ 14 ∧ 0 ≤ i' ∧ i' ≤ l.length := by
  have fin : ∀ (k : Nat) (acc : List S81) (i h : Int), acc.length ≤ 3 → (∀ x ∈ acc, x.f0.size ≤ 26 ∧ x.f1.size ≤ 26) → 0 ≤ i → i ≤ l.length → 20 < k → ∃ r b i' h', (if m = 3 then ((spec_l3DrawBody.f k l i h).bind fun bt => (some (m, p, acc, bt.1, bt.2.1, bt.2.2))) else (some (m, p, acc, (⟨#[]⟩ : ByteArray), i, h))) = some (m, p, r, b, i', h') ∧ SmallF 26 r ∧ r.length ≤ 3 ∧ b.size ≤ 14 ∧ 0 ≤ i' ∧ i' ≤ l.length := by
    intro k acc i h ha hx h0 hi hk
    split
    · obtain ⟨b, i1, h1, e, hb, i10, i11⟩ := spec_l3DrawBody_f (k := k) (h := h) hl h0 hi hk
      rw [e, Option.bind_some]
      exact ⟨_, _, _, _, rfl, ⟨by omega, hx⟩, ha, hb, i10, i11⟩
    · exact ⟨_, _, _, _, rfl, ⟨by omega, hx⟩, ha, Nat.zero_le _, h0, hi⟩
  intro d
  induction d with
  | zero =>
    intro k n acc i h hd ha hx h0 hi hk
    obtain ⟨k, rfl⟩ := succ_of (show 0 < k by omega)
    obtain ⟨v, i1, h1, e, v0, v1, _, i10, i11⟩ := spec_l1Below_f l i h 4 h0 hl hi
    have v2 := v1 (by omega)
    simp only [spec_l3DrawReq.l0]
    rw [e, Option.bind_some]
    dsimp only
    rw [if_neg (by omega)]
    exact fin k acc i1 h1 (by omega) hx i10 i11 (by omega)
  | succ d ih =>
    intro k n acc i h hd ha hx h0 hi hk
    obtain ⟨k, rfl⟩ := succ_of (show 0 < k by omega)
    obtain ⟨v, i1, h1, e, v0, v1, _, i10, i11⟩ := spec_l1Below_f l i h 4 h0 hl hi
    have hr : wrap64 ((n : Int) + 1) = ((n + 1 : Nat) : Int) := by rw [w64 (by omega)]; omega
    have push : ∀ (f v : ByteArray) (i h : Int), f.size ≤ 26 → v.size ≤ 26 → 0 ≤ i → i ≤ l.length → ∃ r b i' h', spec_l3DrawReq.l0 k ((n + 1 : Nat) : Int) l i h m p (acc ++ [⟨f, v⟩]) (⟨#[]⟩ : ByteArray) = some (m, p, r, b, i', h') ∧ SmallF 26 r ∧ r.length ≤ 3 ∧ b.size ≤ 14 ∧ 0 ≤ i' ∧ i' ≤ l.length := fun f v i h hf hv h0 hi =>
      ih k (n + 1) _ i h (by omega) (by simp; omega) (fun x hx' => by
        rcases List.mem_append.1 hx' with hx' | hx'
        · exact hx x hx'
        · rw [List.mem_singleton.1 hx']; exact ⟨hf, hv⟩) h0 hi (by omega)
    simp only [spec_l3DrawReq.l0]
    rw [e, Option.bind_some]
    dsimp only
    split
    · obtain ⟨f, i2, h2, e2, hf, i20, i21⟩ := spec_l1Pick_le l i1 h1 26 [(⟨#[108, 97, 110, 103]⟩ : ByteArray), (⟨#[107, 105, 110, 100]⟩ : ByteArray), (⟨#[99, 97, 99, 104, 101, 45, 99, 111, 110, 116, 114, 111, 108]⟩ : ByteArray), (⟨#[105, 102, 45, 110, 111, 110, 101, 45, 109, 97, 116, 99, 104]⟩ : ByteArray), (⟨#[120, 45, 97]⟩ : ByteArray)] i10 hl i11 (by decide) (by rfl)
      rw [e2, Option.bind_some]
      dsimp only
      rw [spec_l2At_f (by omega) (by omega), Option.bind_some, hr]
      split
      · obtain ⟨w, i3, h3, e3, hw, i30, i31⟩ := spec_l1Pick_le l i2 h2 26 [(⟨#[100, 101]⟩ : ByteArray), (⟨#[101, 110]⟩ : ByteArray)] i20 hl i21 (by decide) (by rfl)
        rw [e3, Option.bind_some]
        dsimp only
        split
        · obtain ⟨w, i4, h4, e4, hw, i40, i41⟩ := spec_l1Pick_le l i3 h3 26 [(⟨#[120]⟩ : ByteArray), (⟨#[121]⟩ : ByteArray)] i30 hl i31 (by decide) (by rfl)
          rw [e4, Option.bind_some]
          dsimp only
          rw [if_pos (by omega)]
          exact push f w i4 h4 hf hw i40 i41
        · split
          · obtain ⟨w, i4, h4, e4, hw, i40, i41⟩ := spec_l1Pick_le l i3 h3 26 [(⟨#[110, 111, 45, 99, 97, 99, 104, 101]⟩ : ByteArray), (⟨#[110, 111, 45, 115, 116, 111, 114, 101]⟩ : ByteArray), (⟨#[109, 97, 120, 45, 97, 103, 101, 61, 51]⟩ : ByteArray)] i30 hl i31 (by decide) (by rfl)
            rw [e4, Option.bind_some]
            dsimp only
            rw [if_pos (by omega)]
            exact push f w i4 h4 hf hw i40 i41
          · split
            · obtain ⟨w, i4, h4, e4, hw, i40, i41⟩ := spec_l1Pick_le l i3 h3 26 [(⟨#[97]⟩ : ByteArray), (⟨#[98]⟩ : ByteArray)] i30 hl i31 (by decide) (by rfl)
              rw [e4, Option.bind_some]
              dsimp only
              rw [if_pos (by omega)]
              exact push f w i4 h4 hf hw i40 i41
            · rw [if_pos (by omega)]
              exact push f w i3 h3 hf hw i30 i31
      · exact ih k (n + 1) acc i2 h2 (by omega) (by omega) hx i20 i21 (by omega)
    · exact fin k acc i1 h1 (by omega) hx i10 i11 (by omega)
theorem spec_l3DrawReq_f {k : Nat} {l : List Int} {i h : Int} (hl : (l.length : Int) ≤ 4611686018427387904) (h0 : 0 ≤ i) (hi : i ≤ l.length) (hk : 40 < k) : ∃ m p r b i' h', spec_l3DrawReq.f k l i h = some (m, p, r, b, i', h') ∧ (1 ≤ m ∧ m ≤ 4) ∧ p.size ≤ 26 ∧ SmallF 26 r ∧ r.length ≤ 3 ∧ b.size ≤ 14 ∧ 0 ≤ i' ∧ i' ≤ l.length := by
  unfold spec_l3DrawReq.f
  obtain ⟨m, i1, h1, e, hm, i10, i11⟩ := spec_l1PickInt_f l i h [1, 1, 1, 1, 2, 3, 4] h0 hl hi (by decide)
  rw [e, Option.bind_some]
  dsimp only
  obtain ⟨p, i2, h2, e2, hp, i20, i21⟩ := spec_l1Pick_le l i1 h1 26 [(⟨#[47]⟩ : ByteArray), (⟨#[47, 97]⟩ : ByteArray), (⟨#[47, 97, 47, 98]⟩ : ByteArray), (⟨#[47, 98]⟩ : ByteArray)] i10 hl i11 (by decide) (by rfl)
  rw [e2, Option.bind_some]
  dsimp only
  obtain ⟨r, b, i3, h3, e3, hr, hr3, hb, i30, i31⟩ := spec_l3DrawReq_l0 l hl m p 3 k 0 [] i2 h2 (by omega) (by simp) (fun x hx => by cases hx) i20 i21 (by omega)
  refine ⟨m, p, r, b, i3, h3, e3, ?_, hp, hr, hr3, hb, i30, i31⟩
  simp only [List.mem_cons, List.mem_nil_iff, or_false] at hm
  omega
/-! ### draws -/
theorem spec_l4DrawSizes_l0 (l : List Int) (hl : (l.length : Int) ≤ 4611686018427387904) : ∀ (d k n : Nat) (acc : List Int) (i h : Int), n + d = 5 → acc.length = n → 0 ≤ i → i ≤ l.length → d < k → ∃ r i' h', spec_l4DrawSizes.l0 k acc (n : Int) l i h = some (r, i', h') ∧ r.length ≤ 5 := by
  intro d
  induction d with
  | zero =>
    intro k n acc i h hn ha h0 hi hk
    obtain ⟨k, rfl⟩ := succ_of hk
    obtain ⟨v, i1, h1, e, v0, v1, _, i10, i11⟩ := spec_l1Below_f l i h 6 h0 hl hi
    have v2 := v1 (by omega)
    simp only [spec_l4DrawSizes.l0]
    rw [e, Option.bind_some]
    dsimp only
    rw [if_neg (by omega)]
    exact ⟨_, _, _, rfl, by omega⟩
  | succ d ih =>
    intro k n acc i h hn ha h0 hi hk
    obtain ⟨k, rfl⟩ := succ_of (show 0 < k by omega)
    obtain ⟨v, i1, h1, e, v0, v1, _, i10, i11⟩ := spec_l1Below_f l i h 6 h0 hl hi
    have v2 := v1 (by omega)
    simp only [spec_l4DrawSizes.l0]
    rw [e, Option.bind_some]
    dsimp only
    by_cases c : (n : Int) < v
    · obtain ⟨t, i2, h2, e2, _, i20, i21⟩ := spec_l1PickInt_f l i1 h1 [0, 1, 2, 5, 7, 17, (-1), 100] i10 hl i11 (by decide)
      rw [if_pos c, e2, Option.bind_some]
      dsimp only
      rw [if_pos (by omega), w64 (by omega)]
      exact ih k (n + 1) (acc ++ [t]) i2 h2 (by omega) (by simp; omega) i20 i21 (by omega)
    · rw [if_neg c]
      exact ⟨_, _, _, rfl, by omega⟩
theorem spec_l4DrawSizes_f {k : Nat} {l : List Int} {i h : Int} (hl : (l.length : Int) ≤ 4611686018427387904) (h0 : 0 ≤ i) (hi : i ≤ l.length) (hk : 20 < k) : ∃ r i' h', spec_l4DrawSizes.f k l i h = some (r, i', h') ∧ r.length ≤ 5 :=
  spec_l4DrawSizes_l0 l hl 5 k 0 [] i h (by omega) rfl h0 hi (by omega)
theorem spec_DrawPieces_f {k : Nat} {l : List Int} (hl : (l.length : Int) ≤ 4611686018427387904) (hk : l.length + 20 < k) : ∃ t r, spec_DrawPieces.f k l = some (t, r) ∧ t.size ≤ 14 ∧ r.length ≤ 5 := by
  unfold spec_DrawPieces.f
  obtain ⟨h', e⟩ := spec_l1New_f (k := k) hl (by omega)
  rw [e, Option.bind_some]
  dsimp only
  obtain ⟨t, i1, h1, e1, ht, i10, i11⟩ := spec_l1DrawText_f (k := k) (l := l) (i := 0) (h := h') hl (by omega) (by omega) (by omega)
  rw [e1, Option.bind_some]
  dsimp only
  obtain ⟨r, i2, h2, e2, hr⟩ := spec_l4DrawSizes_f (k := k) (l := l) (i := i1) (h := h1) hl i10 i11 (by omega)
  rw [e2, Option.bind_some]
  exact ⟨_, _, rfl, ht, hr⟩
theorem spec_DrawFeed_l1 : ∀ (d k : Nat) (t s : ByteArray) (b : Bool), 1300 - t.size ≤ d → t.size ≤ 4000 → d < k → ∃ t', spec_DrawFeed.l1 k t s b = some (s, b, t') ∧ t'.size ≤ 4010 := by
  intro d
  induction d with
  | zero =>
    intro k t s b hd ht hk
    obtain ⟨k, rfl⟩ := succ_of hk
    refine ⟨t, ?_, by omega⟩
    unfold spec_DrawFeed.l1
    rw [if_neg (by omega)]
  | succ d ih =>
    intro k t s b hd ht hk
    obtain ⟨k, rfl⟩ := succ_of (show 0 < k by omega)
    unfold spec_DrawFeed.l1
    by_cases c : (t.size : Int) < 1300
    · have hz : (t ++ (⟨#[48, 49, 50, 51, 52, 53, 54, 55, 56, 57]⟩ : ByteArray)).size = t.size + 10 := ByteArray.size_append
      rw [if_pos c, if_pos (by omega)]
      exact ih k _ s b (by omega) (by omega) (by omega)
    · rw [if_neg c]
      exact ⟨t, rfl, by omega⟩
theorem spec_DrawFeed_l0 (l : List Int) (hl : (l.length : Int) ≤ 4611686018427387904) : ∀ (k n : Nat) (t : ByteArray) (i h : Int), n ≤ 3 → t.size ≤ 1000 * n → 0 ≤ i → i ≤ l.length → 2003 < k + n → ∃ s b u, spec_DrawFeed.l0 k t (n : Int) l i h = some (s, b, u) ∧ s.size ≤ 3000 ∧ u.size ≤ 4010 := by
  intro k
  induction k with
  | zero => intro n t i h hn _ _ _ hk; omega
  | succ k ih =>
    intro n t i h hn ht h0 hi hk
    obtain ⟨v, i1, h1, e, v0, v1, _, i10, i11⟩ := spec_l1Below_f l i h 4 h0 hl hi
    have v2 := v1 (by omega)
    unfold spec_DrawFeed.l0
    rw [e, Option.bind_some]
    dsimp only
    by_cases c : (n : Int) < v
    · obtain ⟨m, p, r, b, i2, h2, e2, _, hp, hr, _, _, i20, i21⟩ := spec_l3DrawReq_f (k := k) (i := i1) (h := h1) hl i10 i11 (by omega)
      have hz := reqText_size m p r b
      have hz2 : (t ++ reqText m p r b).size = t.size + (reqText m p r b).size := ByteArray.size_append
      rw [if_pos c, e2, Option.bind_some]
      dsimp only
      rw [spec_ReqText_f (K := 26) (by omega) hp hr (by omega), Option.bind_some, if_pos (by omega), w64 (by omega)]
      exact ih (n + 1) _ i2 h2 (by omega) (by omega) i20 i21 (by omega)
    · have hw : wrap64 ((t.size : Int) + 1) = (t.size : Int) + 1 := w64 (by omega)
      obtain ⟨a, i2, h2, e2, a0, a1, _, i20, i21⟩ := spec_l1Below_f l i1 h1 ((t.size : Int) + 1) i10 hl i11
      have a2 := a1 (by omega)
      clear a1 v1
      rw [if_neg c, hw, e2, Option.bind_some]
      clear hw
      dsimp only
      rw [if_pos a0, if_pos (by omega)]
      obtain ⟨q, i3, h3, e3, _, _, _, i30, i31⟩ := spec_l1Below_f l i2 h2 12 i20 hl i21
      have z1 : (t.extract 0 a.toNat).size ≤ 3000 := by rw [ByteArray.size_extract]; omega
      have z2 : (t.extract a.toNat t.size).size ≤ 3000 := by rw [ByteArray.size_extract]; omega
      rw [e3, Option.bind_some]
      dsimp only
      by_cases q0 : q = 0
      · rw [if_pos q0]
        exact ⟨_, _, _, rfl, z1, by omega⟩
      rw [if_neg q0]
      by_cases q1 : q = 1
      · rw [if_pos q1]
        obtain ⟨y, i4, h4, e4, hy, _⟩ := spec_l1Pick_le l i3 h3 26 [(⟨#[120, 13, 10, 13, 10]⟩ : ByteArray), (⟨#[13, 10, 13, 10]⟩ : ByteArray), (⟨#[71, 69, 84, 32, 47, 32, 72, 84, 84, 80, 47, 49, 46, 49, 13, 10]⟩ : ByteArray), (⟨#[99, 111, 110, 116, 101, 110, 116, 45, 108, 101, 110, 103, 116, 104, 58, 32, 49, 50, 49, 13, 10, 13, 10]⟩ : ByteArray)] i30 hl i31 (by decide) (by rfl)
        have hz2 : (t.extract a.toNat t.size ++ y).size = (t.extract a.toNat t.size).size + y.size := ByteArray.size_append
        rw [e4, Option.bind_some]
        dsimp only
        rw [if_pos (by omega)]
        exact ⟨_, _, _, rfl, z1, by omega⟩
      rw [if_neg q1]
      by_cases q2 : q = 2
      · rw [if_pos q2]
        obtain ⟨y, i4, h4, e4, _⟩ := spec_l1Once_f l i3 h3 3 i30 hl i31
        rw [e4, Option.bind_some]
        dsimp only
        by_cases y0 : y = true
        · rw [if_pos y0]
          obtain ⟨u, e5, hu⟩ := spec_DrawFeed_l1 1300 k (t.extract a.toNat t.size) (t.extract 0 a.toNat) false (by omega) (by omega) (by omega)
          exact ⟨_, _, _, e5, z1, hu⟩
        · rw [if_neg y0]
          exact ⟨_, _, _, rfl, z1, by omega⟩
      · rw [if_neg q2]
        exact ⟨_, _, _, rfl, z1, by omega⟩
theorem spec_DrawFeed_f {k : Nat} {l : List Int} (hl : (l.length : Int) ≤ 4611686018427387904) (hk : l.length + 2010 < k) : ∃ s b u, spec_DrawFeed.f k l = some (s, b, u) ∧ s.size ≤ 3000 ∧ u.size ≤ 4010 := by
  unfold spec_DrawFeed.f
  obtain ⟨h', e⟩ := spec_l1New_f (k := k) hl (by omega)
  rw [e, Option.bind_some]
  exact spec_DrawFeed_l0 l hl k 0 ⟨#[]⟩ 0 h' (by omega) (by show 0 ≤ _; omega) (by omega) (by omega) (by omega)
theorem catB_pieces : ∀ (l : List Int) (s : ByteArray), catB (pieces l s) = s
  | [], s => by
    rw [pieces]
    split
    · rename_i h
      refine B_ext ?_
      rw [catB, B_empty]
      exact (List.eq_nil_of_length_eq_zero (by rw [B_len]; exact h)).symm
    · rw [catB, catB, app_nil]
  | n :: r, s => by
    rw [pieces, catB, catB_pieces r, ByteArray.extract_append_extract]
    have := cutN_le n s
    rw [show min 0 (cutN n s) = 0 by omega, show max (cutN n s) s.size = s.size by omega]
    exact extract_all s
theorem catB_app : ∀ (l r : List ByteArray), catB (l ++ r) = catB l ++ catB r
  | [], r => B_ext (by rw [List.nil_append, catB, B_append, B_empty, List.nil_append])
  | x :: l, r => by rw [List.cons_append, catB, catB, catB_app l r, app_assoc]
end Go.Proofs.YtjckfmipegemcaaGreatDoor.Pure
