/- What the printed functions answer, in plain words: lemmas of this session. No condition of a statement lies here. -/
import Derived.Test.YtkgdcfaogdmcgaaDoorAllx0
import Derived.Test.YtkgdcfaogdmcgaaDoorAllx21
import Derived.Test.YtkgdcfaogdmcgaaDoorAllx28
import Derived.Test.YtkgdcfaogdmcgaaDoorAllx29
import Derived.Test.YtkgdcfaogdmcgaaDoorAllx30
import Derived.Test.YtkgdcfaogdmcgaaDoorQh7abdbcf7
namespace Go.Proofs.YtkgdcfaogdmcgaaDoor.Pure
open Go.RowKit Go.Proofs.YtkgdcfaogdmcgaaDoor.All Go.Proofs.YtkgdcfaogdmcgaaDoorW.PrintWords Go.Proofs.YtkgdcfaogdmcgaaDoorW.PrintLast
set_option linter.unusedVariables false
set_option linter.unusedSimpArgs false

/-! ### Lower -/
theorem spec_Lower_l0 (s : ByteArray) (hs : (s.size : Int) ≤ 140737488355327) : ∀ (d k i : Nat) (acc : List Int), s.size - i = d → i ≤ s.size → acc.length ≤ i → d < k →
    spec_Lower.l0 k s acc i = some ⟨(acc.map oct ++ ((B s).drop i).map low1).toArray⟩ := by
  intro d
  induction d with
  | zero =>
    intro k i acc hd hi ha hk
    obtain ⟨k, rfl⟩ := succ_of hk
    simp only [spec_Lower.l0]
    rw [if_neg (by omega), List.drop_eq_nil_of_le (by rw [B_len]; omega), strOf]; simp
  | succ d ih =>
    intro k i acc hd hi ha hk
    obtain ⟨k, rfl⟩ := succ_of hk
    have hl : i < (B s).length := by rw [B_len]; omega
    have hlen : acc.length < 140737488355328 := by omega
    have step : ∀ x : Int, oct x = low1 (B s)[i] → spec_Lower.l0 k s (acc ++ [x]) ((i + 1 : Nat) : Int) = some ⟨(acc.map oct ++ ((B s).drop i).map low1).toArray⟩ := fun x hx => by
      rw [ih k (i + 1) (acc ++ [x]) (by omega) (by omega) (by simp; omega) (by omega), drop_at hl, List.map_append, List.append_assoc, List.map_cons, List.map_cons, hx]
      rfl
    have hw := nat_round (i := i) (n := s.size) (by omega) (by omega)
    have hc := ((B s)[i]).toNat_lt
    simp only [spec_Lower.l0]
    rw [if_pos (by omega), if_pos (by omega), bt_get s i hl, hw]
    split
    · split
      · try rw [if_pos hlen]
        refine step _ ?_
        unfold low1 oct
        rw [if_pos (by omega), show ((((B s)[i]).toNat : Int) + 32) % 256 = ((((B s)[i]).toNat + 32 : Nat) : Int) by omega, Int.toNat_natCast]
      · try rw [if_pos hlen]
        exact step _ (by rw [oct_nat]; unfold low1; rw [if_neg (by omega)])
    · try rw [if_pos hlen]
      exact step _ (by rw [oct_nat]; unfold low1; rw [if_neg (by omega)])
def lowB (s : ByteArray) : ByteArray := ⟨((B s).map low1).toArray⟩
theorem B_lowB (s : ByteArray) : B (lowB s) = (B s).map low1 := B_mk _
theorem spec_Lower_f {k : Nat} {s : ByteArray} (hs : (s.size : Int) ≤ 140737488355327) (hk : s.size < k) : spec_Lower.f k s = some (lowB s) := by
  unfold spec_Lower.f
  have := spec_Lower_l0 s hs s.size k 0 [] (by omega) (by omega) (by simp) hk
  simpa [lowB] using this
theorem impl_Lower_f {s : ByteArray} (hs : (s.size : Int) ≤ 140737488355327) : impl_Lower.f s = some (lowB s) := by
  unfold impl_Lower.f
  rw [if_pos (by omega)]; rfl
/-! ### strings.Split in plain words -/
theorem splitBs_none (s sep : ByteArray) (h : ∀ j, j ≤ (B s).length → Lib.occAt (B s) (B sep) j = false) : splitBs s sep = [s] := by
  have hi : Lib.indexB s sep = -1 := Lib.index_none h
  unfold splitBs
  exact Lib.splitB_miss sep 0 _ s hi
theorem splitBs_at (s sep : ByteArray) (i : Nat) (h1 : 1 ≤ sep.size) (hi : i ≤ (B s).length) (ho : Lib.occAt (B s) (B sep) i = true) (hn : ∀ j, j < i → Lib.occAt (B s) (B sep) j = false) :
    splitBs s sep = s.extract 0 i :: splitBs (s.extract (i + sep.size) s.size) sep := by
  have hx : Lib.indexB s sep = (i : Int) := Lib.index_first hi ho hn
  unfold splitBs
  rw [Lib.countB_hit s sep i h1 hx, Nat.add_comm 1, Lib.splitB_hit sep 0 _ s i hx, Nat.add_zero]
theorem occ_one (l : List UInt8) (c : UInt8) (j : Nat) : Lib.occAt l [c] j = (match l[j]? with | some x => c == x | none => false) := by
  unfold Lib.occAt
  by_cases h : j < l.length
  · rw [drop_at h, List.getElem?_eq_getElem h]; simp [List.isPrefixOf]
  · rw [List.drop_eq_nil_of_le (by omega), List.getElem?_eq_none (by omega)]; rfl
theorem split1_none (s : ByteArray) (c : UInt8) (h : ∀ j (h : j < (B s).length), (B s)[j] ≠ c) : splitBs s ⟨#[c]⟩ = [s] := by
  refine splitBs_none s _ (fun j hj => ?_)
  show Lib.occAt (B s) [c] j = false
  rw [occ_one]
  by_cases hl : j < (B s).length
  · rw [List.getElem?_eq_getElem hl]; simp only; rw [beq_eq_false_iff_ne]; exact fun e => h j hl e.symm
  · rw [List.getElem?_eq_none (by omega)]
theorem split1_at (s : ByteArray) (c : UInt8) (i : Nat) (hi : i < (B s).length) (h1 : (B s)[i] = c) (h2 : ∀ j (h : j < (B s).length), j < i → (B s)[j] ≠ c) : splitBs s ⟨#[c]⟩ = s.extract 0 i :: splitBs (s.extract (i + 1) s.size) ⟨#[c]⟩ := by
  refine splitBs_at s ⟨#[c]⟩ i (by show 1 ≤ 1; omega) (by omega) ?_ (fun j hj => ?_)
  · show Lib.occAt (B s) [c] i = true
    rw [occ_one, List.getElem?_eq_getElem hi, h1]; simp
  · show Lib.occAt (B s) [c] j = false
    rw [occ_one, List.getElem?_eq_getElem (by omega)]; simp only; rw [beq_eq_false_iff_ne]; exact fun e => h2 j (by omega) hj e.symm
theorem B_get_extract (s : ByteArray) (a b j : Nat) (hj : j < (B (s.extract a b)).length) : ∃ h : a + j < (B s).length, (B (s.extract a b))[j] = (B s)[a + j] ∧ a + j < b := by
  have e := B_extract s a b
  have hl : j < (((B s).take b).drop a).length := by rw [← e]; exact hj
  simp only [List.length_drop, List.length_take] at hl
  refine ⟨by omega, ?_, by omega⟩
  simp only [e, List.getElem_drop, List.getElem_take]
theorem splitBs_len (s sep : ByteArray) (h1 : 1 ≤ sep.size) : (splitBs s sep).length ≤ s.size + 1 := by
  have h := Lib.splitB_length_le sep 0 (Lib.countB s sep) s
  have h2 := Lib.countB_le sep h1 _ s (Nat.le_refl _)
  unfold splitBs; omega
/-! ### Split -/
def wordsOf (l : List ByteArray) : List ByteArray := (l.map trimT).filter fun t => !decide (t.toList = [])
theorem wordsOf_cons (x : ByteArray) (r : List ByteArray) : wordsOf (x :: r) = if (trimT x).toList = [] then wordsOf r else trimT x :: wordsOf r := by
  unfold wordsOf
  rw [List.map_cons, List.filter_cons]
  by_cases h : (trimT x).toList = [] <;> simp [h]
def splitT (s : ByteArray) : List ByteArray := wordsOf (splitBs s ⟨#[44]⟩)
theorem impl_Split_l0 (l : List ByteArray) (hl : l.length ≤ 4294967296) (hx : ∀ x ∈ l, x.size ≤ 4294967296) : ∀ (d k i : Nat) (acc : List ByteArray), l.length - i = d → i ≤ l.length → acc.length ≤ i → d < k →
    impl_Split.l0 k acc l (l.length : Int) i = some (acc ++ wordsOf (l.drop i)) := by
  intro d
  induction d with
  | zero =>
    intro k i acc hd hi ha hk
    obtain ⟨k, rfl⟩ := succ_of hk
    simp only [impl_Split.l0]
    rw [if_neg (by omega), List.drop_eq_nil_of_le (by omega)]; simp [wordsOf]
  | succ d ih =>
    intro k i acc hd hi ha hk
    obtain ⟨k, rfl⟩ := succ_of hk
    have hlt : i < l.length := by omega
    have hs := hx _ (List.getElem_mem hlt)
    simp only [impl_Split.l0]
    rw [if_pos (by omega), if_pos (by omega), if_pos (by omega), rd_B l i hlt, impl_Trim_f (by omega), Option.bind_some, nat_round (n := l.length) hlt (by omega), drop_at hlt, wordsOf_cons]
    by_cases h : (trimT l[i]).toList = []
    · rw [if_pos h, if_pos h, ih k (i + 1) acc (by omega) (by omega) (by omega) (by omega)]
    · rw [if_neg h, if_neg h, if_pos (by omega), ih k (i + 1) _ (by omega) (by omega) (by simp; omega) (by omega), List.append_assoc]; rfl
theorem splitBs_small : ∀ (n : Nat) (s sep : ByteArray), s.size ≤ n → 1 ≤ sep.size → ∀ x ∈ splitBs s sep, x.size ≤ s.size := by
  intro n s sep _ h1
  unfold splitBs
  generalize Lib.countB s sep = c
  induction c generalizing s n with
  | zero => intro x hx; simp only [Lib.splitB, List.mem_singleton] at hx; rw [hx]; exact Nat.le_refl _
  | succ c ih =>
    intro x hx
    unfold Lib.splitB at hx
    split at hx
    · simp only [List.mem_singleton] at hx; rw [hx]; exact Nat.le_refl _
    · rcases List.mem_cons.1 hx with rfl | hx
      · rw [ByteArray.size_extract]; omega
      · have := ih s.size _ (by rw [ByteArray.size_extract]; omega) x hx
        rw [ByteArray.size_extract] at this; omega
theorem impl_Split_f {k : Nat} {s : ByteArray} (hs : s.size ≤ 1048576) (hk : s.size + 1 < k) : impl_Split.f k s = some (splitT s) := by
  unfold impl_Split.f strings_Split.f
  have hn := splitBs_len s ⟨#[44]⟩ (by show 1 ≤ 1; omega)
  rw [if_pos ⟨by omega, by show 1 ≤ 1; omega⟩, Option.bind_some]
  have := impl_Split_l0 (splitBs s ⟨#[44]⟩) (by omega) (fun x hx => by have := splitBs_small s.size s ⟨#[44]⟩ (Nat.le_refl _) (by show 1 ≤ 1; omega) x hx; omega) (splitBs s ⟨#[44]⟩).length k 0 [] (by omega) (by omega) (by simp) (by omega)
  rw [List.drop_zero, List.nil_append] at this
  exact this
theorem spec_Split_l0 (s : ByteArray) (hs : s.size ≤ 1048576) : ∀ (d k f i : Nat) (acc : List ByteArray), s.size - i = d → i ≤ s.size → f ≤ i → acc.length ≤ i → (∀ j (h : j < (B s).length), f ≤ j → j < i → (B s)[j] ≠ 44) → 2 * d + 2 * s.size + 9 < k →
    spec_Split.l0 k s acc f i = some (acc ++ wordsOf (splitBs (s.extract f s.size) ⟨#[44]⟩)) := by
  intro d
  induction d with
  | zero =>
    intro k f i acc hd hi hf ha hno hk
    obtain ⟨k, rfl⟩ := succ_of (show 5 < k by omega)
    obtain ⟨k, rfl⟩ := succ_of (show 4 < k by omega)
    have hiz : i = s.size := by omega
    have hz : (s.extract f s.size).size = s.size - f := by rw [ByteArray.size_extract]; omega
    have hsp : splitBs (s.extract f s.size) ⟨#[44]⟩ = [s.extract f s.size] := split1_none _ _ (fun j hj => by
      obtain ⟨h1, h2, h3⟩ := B_get_extract s f s.size j hj
      rw [h2]; exact hno (f + j) h1 (by omega) (by omega))
    simp only [spec_Split.l0]
    rw [if_pos (by omega), if_neg (by omega)]
    simp only [spec_Split.j1]
    rw [if_neg (by simp), if_pos (by omega), if_pos (by omega), if_pos (by omega), Int.toNat_natCast, Int.toNat_natCast, hiz, spec_Trim_f (by omega) (by omega), Option.bind_some, hsp, wordsOf_cons, w64 (by omega)]
    obtain ⟨k, rfl⟩ := succ_of (show 0 < k by omega)
    have fin : ∀ acc', spec_Split.l0 (k + 1) s acc' ((s.size : Int) + 1) ((s.size : Int) + 1) = some acc' := fun acc' => by
      simp only [spec_Split.l0]; rw [if_neg (by omega)]
    by_cases h : (trimT (s.extract f s.size)).toList = []
    · rw [if_pos h, if_pos h, fin]; simp [wordsOf]
    · rw [if_neg h, if_neg h, if_pos (by omega), fin]; simp [wordsOf]
  | succ d ih =>
    intro k f i acc hd hi hf ha hno hk
    obtain ⟨k, rfl⟩ := succ_of (show 5 < k by omega)
    obtain ⟨k, rfl⟩ := succ_of (show 4 < k by omega)
    have hl : i < (B s).length := by rw [B_len]; omega
    simp only [spec_Split.l0]
    rw [if_pos (by omega), if_pos (by omega), if_pos (by omega), bt_get s i hl]
    simp only [spec_Split.j1]
    have h44 : ((B s)[i].toNat : Int) = 44 ↔ (B s)[i] = 44 := by
      constructor
      · intro h
        have : (B s)[i].toNat = (44 : UInt8).toNat := by show (B s)[i].toNat = 44; omega
        exact UInt8.toNat_inj.1 this
      · intro h; rw [h]; rfl
    have hr : wrap64 ((i : Int) + 1) = ((i + 1 : Nat) : Int) := nat_round (n := s.size) (by omega) (by omega)
    by_cases c : (B s)[i] = 44
    · have hsp : splitBs (s.extract f s.size) ⟨#[44]⟩ = s.extract f i :: splitBs (s.extract (i + 1) s.size) ⟨#[44]⟩ := by
        have hz : (s.extract f s.size).size = s.size - f := by rw [ByteArray.size_extract]; omega
        have hlt : i - f < (B (s.extract f s.size)).length := by rw [B_len, hz]; omega
        obtain ⟨g1, g2, _⟩ := B_get_extract s f s.size (i - f) hlt
        rw [split1_at (s.extract f s.size) 44 (i - f) hlt (by rw [g2]; simp only [show f + (i - f) = i by omega]; exact c) (fun j hj hji => by
          obtain ⟨h1, h2, h3⟩ := B_get_extract s f s.size j hj
          rw [h2]; exact hno (f + j) h1 (by omega) (by omega)), ByteArray.extract_extract, hz, ByteArray.extract_extract]
        rw [show min (f + (i - f)) s.size = i by omega, show min (f + (s.size - f)) s.size = s.size by omega, show f + (i - f + 1) = i + 1 by omega, Nat.add_zero]
      rw [if_neg (by simpa using h44.2 c), if_pos (by omega), if_pos (by omega), if_pos (by omega), Int.toNat_natCast, Int.toNat_natCast, spec_Trim_f (by rw [ByteArray.size_extract]; omega) (by rw [ByteArray.size_extract]; omega), Option.bind_some, hsp, wordsOf_cons, hr]
      by_cases h : (trimT (s.extract f i)).toList = []
      · rw [if_pos h, if_pos h, ih k (i + 1) (i + 1) acc (by omega) (by omega) (by omega) (by omega) (fun j _ h1 h2 => by omega) (by omega)]
      · rw [if_neg h, if_neg h, if_pos (by omega), ih k (i + 1) (i + 1) _ (by omega) (by omega) (by omega) (by simp; omega) (fun j _ h1 h2 => by omega) (by omega), List.append_assoc]; rfl
    · rw [if_pos (by simpa using fun e => c (h44.1 e)), hr]
      refine ih k f (i + 1) acc (by omega) (by omega) (by omega) (by omega) (fun j h h1 h2 => ?_) (by omega)
      by_cases e : j = i
      · subst e; exact c
      · exact hno j h h1 (by omega)
theorem spec_Split_f {k : Nat} {s : ByteArray} (hs : s.size ≤ 1048576) (hk : 4 * s.size + 9 < k) : spec_Split.f k s = some (splitT s) := by
  have := spec_Split_l0 s hs s.size k 0 0 [] (by omega) (by omega) (by omega) (by simp) (fun j _ _ h => by omega) (by omega)
  rw [List.nil_append, extract_all0] at this
  exact this
theorem wordsOf_len (l : List ByteArray) : (wordsOf l).length ≤ l.length := by
  unfold wordsOf
  have := List.length_filter_le (fun t : ByteArray => !decide (t.toList = [])) (l.map trimT)
  simpa using this
theorem splitT_len (s : ByteArray) : (splitT s).length ≤ s.size + 1 := by
  have h1 := wordsOf_len (splitBs s ⟨#[44]⟩)
  have h2 := splitBs_len s ⟨#[44]⟩ (by show 1 ≤ 1; omega)
  unfold splitT; omega
/-! ### VaryOf -/
def varyF (l : List S84) : List ByteArray := (splitT ((getF ⟨#[118, 97, 114, 121]⟩ l).getD ⟨#[]⟩)).map lowB
theorem spec_VaryOf_l0 (l : List ByteArray) (hl : l.length ≤ 4294967296) (hx : ∀ x ∈ l, x.size ≤ 1048576) : ∀ (d k : Nat) (pre rest : List ByteArray), rest.length = d → pre.length + d = l.length → (∀ x ∈ rest, x.size ≤ 1048576) → d + 1048577 < k →
    spec_VaryOf.l0 k (pre ++ rest) (pre.length : Int) = some (pre ++ rest.map lowB) := by
  intro d
  induction d with
  | zero =>
    intro k pre rest hr hp hs hk
    obtain ⟨k, rfl⟩ := succ_of (show 0 < k by omega)
    rw [List.eq_nil_of_length_eq_zero hr]
    simp only [spec_VaryOf.l0]
    rw [if_neg (by simp)]; simp
  | succ d ih =>
    intro k pre rest hr hp hs hk
    obtain ⟨k, rfl⟩ := succ_of (show 0 < k by omega)
    obtain ⟨y, rest, rfl⟩ : ∃ y r, rest = y :: r := by cases rest with | nil => simp at hr | cons y r => exact ⟨y, r, rfl⟩
    have hy := hs y (by simp)
    have hrd : rdOf ByteArray.empty (pre ++ y :: rest) (pre.length : Int) = y := by rw [rd_B _ _ (by simp)]; simp
    simp only [spec_VaryOf.l0]
    rw [if_pos (by simp; omega), if_pos (by omega), hrd, spec_Lower_f (by omega) (by omega), Option.bind_some, set_at, w64 (by omega), show (pre.length : Int) + 1 = ((pre ++ [lowB y]).length : Int) by simp]
    have := ih k (pre ++ [lowB y]) rest (by simpa using hr) (by simp at hr ⊢; omega) (fun x hx => hs x (by simp [hx])) (by omega)
    rw [List.append_assoc, List.append_assoc] at this
    exact this
theorem impl_VaryOf_l0 (l : List ByteArray) (hl : l.length ≤ 4294967296) (hx : ∀ x ∈ l, x.size ≤ 1048576) : ∀ (d k i : Nat) (acc : List ByteArray), l.length - i = d → i ≤ l.length → acc.length ≤ i → d < k →
    impl_VaryOf.l0 k acc l (l.length : Int) i = some (acc ++ (l.drop i).map lowB) := by
  intro d
  induction d with
  | zero =>
    intro k i acc hd hi ha hk
    obtain ⟨k, rfl⟩ := succ_of hk
    simp only [impl_VaryOf.l0]
    rw [if_neg (by omega), List.drop_eq_nil_of_le (by omega)]; simp
  | succ d ih =>
    intro k i acc hd hi ha hk
    obtain ⟨k, rfl⟩ := succ_of hk
    have hlt : i < l.length := by omega
    have hs := hx _ (List.getElem_mem hlt)
    simp only [impl_VaryOf.l0]
    rw [if_pos (by omega), if_pos (by omega), if_pos (by omega), rd_B l i hlt, impl_Lower_f (by omega), Option.bind_some, if_pos (by omega), nat_round (n := l.length) hlt (by omega), ih k (i + 1) _ (by omega) (by omega) (by simp; omega) (by omega), drop_at hlt, List.map_cons, List.append_assoc]
    rfl
theorem trimT_size (s : ByteArray) : (trimT s).size ≤ s.size := by
  have h : ∀ l : List UInt8, (Lib.trimB l 32).length ≤ l.length := fun l => by
    unfold Lib.trimB Lib.trimLeftB Lib.trimRightB
    have h1 := (List.dropWhile_sublist (· == (32 : UInt8)) (l := (l.reverse.dropWhile (· == (32 : UInt8))).reverse)).length_le
    have h2 := (List.dropWhile_sublist (· == (32 : UInt8)) (l := l.reverse)).length_le
    simp only [List.length_reverse] at h1 h2
    omega
  have := h (B s)
  rw [B_len] at this
  rw [← B_len (trimT s)]
  unfold trimT
  rw [B_mk (Lib.trimB (B s) 32)]
  exact this
theorem splitT_small (s : ByteArray) : ∀ x ∈ splitT s, x.size ≤ s.size := by
  intro x hx
  unfold splitT wordsOf at hx
  obtain ⟨y, hy, rfl⟩ := List.mem_map.1 (List.mem_filter.1 hx).1
  have h1 := trimT_size y
  have h2 := splitBs_small s.size s ⟨#[44]⟩ (Nat.le_refl _) (by show 1 ≤ 1; omega) y hy
  omega
theorem getF_small {K : Nat} {n : ByteArray} : ∀ {l : List S84}, (∀ x ∈ l, x.f0.size ≤ K ∧ x.f1.size ≤ K) → ((getF n l).getD ⟨#[]⟩).size ≤ K
  | [], _ => by simp [getF, ByteArray.size]
  | y :: r, h => by
    simp only [getF]
    split
    · exact (h y (by simp)).2
    · exact getF_small (fun x hx => h x (by simp [hx]))
theorem varyF_len {K : Nat} {l : List S84} (hl : ∀ x ∈ l, x.f0.size ≤ K ∧ x.f1.size ≤ K) : (varyF l).length ≤ K + 1 := by
  unfold varyF
  rw [List.length_map]
  have h1 := splitT_len ((getF ⟨#[118, 97, 114, 121]⟩ l).getD ⟨#[]⟩)
  have h2 : ((getF ⟨#[118, 97, 114, 121]⟩ l).getD ⟨#[]⟩).size ≤ K := getF_small hl
  omega
theorem impl_VaryOf_f {k K : Nat} {l : List S84} (hK : K ≤ 1048576) (hl : SmallF K l) (hk : K + 2 < k) : impl_VaryOf.f k l = some (varyF l) := by
  have h2 : ((getF ⟨#[118, 97, 114, 121]⟩ l).getD ⟨#[]⟩).size ≤ K := getF_small hl.2
  have h1 := splitT_len ((getF ⟨#[118, 97, 114, 121]⟩ l).getD ⟨#[]⟩)
  have h3 := splitT_small ((getF ⟨#[118, 97, 114, 121]⟩ l).getD ⟨#[]⟩)
  have hn := hl.1
  unfold impl_VaryOf.f varyF
  rw [impl_Get_f (by omega), Option.bind_some]
  simp only
  rw [impl_Split_f (by omega) (by omega), Option.bind_some]
  have := impl_VaryOf_l0 (splitT ((getF ⟨#[118, 97, 114, 121]⟩ l).getD ⟨#[]⟩)) (by omega) (fun x hx => by have := h3 x hx; omega) (splitT ((getF ⟨#[118, 97, 114, 121]⟩ l).getD ⟨#[]⟩)).length k 0 [] (by rw [Nat.sub_zero]) (Nat.zero_le _) (Nat.le_refl _) (by omega)
  rw [List.drop_zero, List.nil_append] at this
  exact this
theorem spec_VaryOf_f {k K : Nat} {l : List S84} (hK : K ≤ 1048576) (hl : SmallF K l) (hk : 8388608 < k) : spec_VaryOf.f k l = some (varyF l) := by
  have h2 : ((getF ⟨#[118, 97, 114, 121]⟩ l).getD ⟨#[]⟩).size ≤ K := getF_small hl.2
  have h1 := splitT_len ((getF ⟨#[118, 97, 114, 121]⟩ l).getD ⟨#[]⟩)
  have h3 := splitT_small ((getF ⟨#[118, 97, 114, 121]⟩ l).getD ⟨#[]⟩)
  have hn := hl.1
  unfold spec_VaryOf.f varyF
  rw [spec_Get_f (by omega) (by omega), Option.bind_some]
  simp only
  rw [spec_Split_f (by omega) (by omega), Option.bind_some]
  have := spec_VaryOf_l0 (splitT ((getF ⟨#[118, 97, 114, 121]⟩ l).getD ⟨#[]⟩)) (by omega) (fun x hx => by have := h3 x hx; omega) (splitT ((getF ⟨#[118, 97, 114, 121]⟩ l).getD ⟨#[]⟩)).length k [] (splitT ((getF ⟨#[118, 97, 114, 121]⟩ l).getD ⟨#[]⟩)) rfl (by simp) (fun x hx => by have := h3 x hx; omega) (by omega)
  rw [List.nil_append, List.nil_append] at this
  exact this

end Go.Proofs.YtkgdcfaogdmcgaaDoor.Pure
