/- What the printed functions answer, in plain words: lemmas of this session. No condition of a statement lies here. -/
import Derived.Test.YtogdmlgbdbgpkaaDoorAllx0
import Derived.Test.YtogdmlgbdbgpkaaDoorAllx19
import Derived.Test.YtogdmlgbdbgpkaaDoorQh96c9cf4e
import Derived.Test.YtogdmlgbdbgpkaaDoorQhc29383b2
import Derived.Test.YtogdmlgbdbgpkaaDoorQhc3bbb1b5
namespace Go.Proofs.YtogdmlgbdbgpkaaDoor.Pure
open Go.RowKit Go.Proofs.YtogdmlgbdbgpkaaDoor.All Go.Proofs.YtogdmlgbdbgpkaaDoorW.PrintWords Go.Proofs.YtogdmlgbdbgpkaaDoorW.PrintLast
set_option linter.unusedVariables false
set_option linter.unusedSimpArgs false

theorem laws_eqStringS_l0 (l : List ByteArray) (hl : l.length ≤ 8796093022208) : ∀ (d k i : Nat), l.length - i = d → i ≤ l.length → d < k → laws_eqStringS.l0 k l l i = some true := by
  intro d
  induction d with
  | zero =>
    intro k i hd hi hk
    obtain ⟨k, rfl⟩ := succ_of hk
    simp only [laws_eqStringS.l0]
    rw [if_neg (by omega)]
  | succ d ih =>
    intro k i hd hi hk
    obtain ⟨k, rfl⟩ := succ_of hk
    simp only [laws_eqStringS.l0]
    rw [if_pos (by omega), if_pos (by omega), if_pos (by omega)]
    simp only [if_true]
    rw [nat_round (n := l.length) (by omega) (by omega)]
    exact ih k (i + 1) (by omega) (by omega) (by omega)
theorem laws_eqStringS_f {k : Nat} {l : List ByteArray} (hl : l.length ≤ 8796093022208) (hk : l.length < k) : laws_eqStringS.f k l l = some true := by
  unfold laws_eqStringS.f
  rw [if_pos rfl]
  exact laws_eqStringS_l0 l hl l.length k 0 (by omega) (by omega) hk
def markedB : Nat → Int → List ByteArray
  | 0, _ => []
  | n + 1, m => markT m :: markedB n (m + 1)
theorem markedB_length : ∀ n m, (markedB n m).length = n
  | 0, _ => rfl
  | n + 1, m => by simp [markedB, markedB_length n]
theorem laws_markStringS_l0 (rest : List ByteArray) : ∀ (k : Nat) (pre : List ByteArray) (m : Int), (pre.length : Int) + rest.length ≤ 8796093022208 → 0 ≤ m → m + rest.length ≤ 4611686018427387904 → rest.length + 100 < k →
    laws_markStringS.l0 k (pre ++ rest) m pre.length = some (m + rest.length, pre ++ markedB rest.length m) := by
  induction rest with
  | nil =>
    intro k pre m hl h0 hm hk
    obtain ⟨k, rfl⟩ := succ_of hk
    simp only [laws_markStringS.l0]
    rw [if_neg (by simp)]
    simp [markedB]
  | cons x rest ih =>
    intro k pre m hl h0 hm hk
    obtain ⟨k, rfl⟩ := succ_of hk
    simp only [List.length_cons] at hl hm hk
    have ih := ih k (pre ++ [markT m]) (m + 1) (by simp; omega) (by omega) (by omega) (by omega)
    simp only [laws_markStringS.l0]
    rw [if_pos (by simp; omega), laws_markText_f (by omega) (by omega), Option.bind_some, if_pos (by omega), set_at, w64 (n := m + 1) (by omega), w64 (by omega), show (pre.length : Int) + 1 = ((pre ++ [markT m]).length : Int) by simp]
    rw [List.append_assoc, List.append_assoc] at ih
    refine Eq.trans ih ?_
    simp only [List.length_cons, markedB]
    refine congrArg some (Prod.ext ?_ rfl)
    show m + 1 + (rest.length : Int) = m + ((rest.length + 1 : Nat) : Int)
    omega
theorem laws_markStringS_f {k : Nat} {l : List ByteArray} {m : Int} (hl : (l.length : Int) ≤ 8796093022208) (h0 : 0 ≤ m) (hm : m ≤ 281474976710656) (hk : l.length + 100 < k) : laws_markStringS.f k l m = some (m + l.length, markedB l.length m) := by
  have := laws_markStringS_l0 l k [] m (by simpa using hl) h0 (by omega) hk
  simpa [laws_markStringS.f] using this
theorem laws_heldStringS_l0 (l : List ByteArray) (hl : (l.length : Int) ≤ 8796093022208) : ∀ (d k i : Nat) (m : Int), l.drop i = markedB d m → i + d = l.length → 0 ≤ m → m + d ≤ 4611686018427387904 → d + 100 < k →
    laws_heldStringS.l0 k l m i = some (m + d) := by
  intro d
  induction d with
  | zero =>
    intro k i m hd hi h0 hm hk
    obtain ⟨k, rfl⟩ := succ_of hk
    simp only [laws_heldStringS.l0]
    rw [if_neg (by omega)]; simp
  | succ d ih =>
    intro k i m hd hi h0 hm hk
    obtain ⟨k, rfl⟩ := succ_of hk
    have hlt : i < l.length := by omega
    rw [drop_at hlt] at hd
    simp only [markedB, List.cons.injEq] at hd
    obtain ⟨h1, h2⟩ := hd
    simp only [laws_heldStringS.l0]
    rw [if_pos (by omega), if_pos (by omega), rd_B l i hlt, h1, laws_markText_f (by omega) (by omega), Option.bind_some, if_pos rfl, w64 (n := m + 1) (by omega), nat_round (n := l.length) hlt (by omega),
      ih k (i + 1) (m + 1) h2 (by omega) (by omega) (by omega) (by omega)]
    congr 1; omega
theorem laws_heldStringS_f {k n : Nat} {m : Int} (hl : (n : Int) ≤ 8796093022208) (h0 : 0 ≤ m) (hm : m ≤ 281474976710656) (hk : n + 100 < k) : laws_heldStringS.f k (markedB n m) m = some (m + n) := by
  unfold laws_heldStringS.f
  exact laws_heldStringS_l0 _ (by rw [markedB_length]; exact hl) n k 0 m (by simp) (by rw [markedB_length]; omega) h0 (by omega) hk
/-! ### strings.Split in plain words -/
theorem splitBs_none (s sep : ByteArray) (h : ∀ j, j ≤ (B s).length → Lib.occAt (B s) (B sep) j = false) : splitBs s sep = [s] := by
  have hi : Lib.indexB s sep = -1 := Lib.index_none h
  unfold splitBs
  exact Lib.splitB_miss sep 0 _ s hi
theorem splitBs_at (s sep : ByteArray) (i : Nat) (h1 : 1 ≤ sep.size) (hi : i ≤ (B s).length) (ho : Lib.occAt (B s) (B sep) i = true) (hn : ∀ j, j < i → Lib.occAt (B s) (B sep) j = false) :
    splitBs s sep = s.extract 0 i :: splitBs (s.extract (i + sep.size) s.size) sep := by
  have hx : Lib.indexB s sep = (i : Int) := Lib.index_first hi ho hn
  unfold splitBs
  rw [Lib.countB_hit s sep i h1 hx, Nat.add_comm 1, Lib.splitB_hit sep 0 _ s i hx, Nat.add_zero]
theorem occ_one (l : List UInt8) (c : UInt8) (j : Nat) : Lib.occAt l [c] j = (match l[j]? with | some x => c == x | none => false) := by
  unfold Lib.occAt
  by_cases h : j < l.length
  · rw [drop_at h, List.getElem?_eq_getElem h]; simp [List.isPrefixOf]
  · rw [List.drop_eq_nil_of_le (by omega), List.getElem?_eq_none (by omega)]; rfl
theorem split1_none (s : ByteArray) (c : UInt8) (h : ∀ j (h : j < (B s).length), (B s)[j] ≠ c) : splitBs s ⟨#[c]⟩ = [s] := by
  refine splitBs_none s _ (fun j hj => ?_)
  show Lib.occAt (B s) [c] j = false
  rw [occ_one]
  by_cases hl : j < (B s).length
  · rw [List.getElem?_eq_getElem hl]; simp only; rw [beq_eq_false_iff_ne]; exact fun e => h j hl e.symm
  · rw [List.getElem?_eq_none (by omega)]
theorem split1_at (s : ByteArray) (c : UInt8) (i : Nat) (hi : i < (B s).length) (h1 : (B s)[i] = c) (h2 : ∀ j (h : j < (B s).length), j < i → (B s)[j] ≠ c) : splitBs s ⟨#[c]⟩ = s.extract 0 i :: splitBs (s.extract (i + 1) s.size) ⟨#[c]⟩ := by
  refine splitBs_at s ⟨#[c]⟩ i (by show 1 ≤ 1; omega) (by omega) ?_ (fun j hj => ?_)
  · show Lib.occAt (B s) [c] i = true
    rw [occ_one, List.getElem?_eq_getElem hi, h1]; simp
  · show Lib.occAt (B s) [c] j = false
    rw [occ_one, List.getElem?_eq_getElem (by omega)]; simp only; rw [beq_eq_false_iff_ne]; exact fun e => h2 j (by omega) hj e.symm
theorem B_get_extract (s : ByteArray) (a b j : Nat) (hj : j < (B (s.extract a b)).length) : ∃ h : a + j < (B s).length, (B (s.extract a b))[j] = (B s)[a + j] ∧ a + j < b := by
  have e := B_extract s a b
  have hl : j < (((B s).take b).drop a).length := by rw [← e]; exact hj
  simp only [List.length_drop, List.length_take] at hl
  refine ⟨by omega, ?_, by omega⟩
  simp only [e, List.getElem_drop, List.getElem_take]
theorem splitBs_len (s sep : ByteArray) (h1 : 1 ≤ sep.size) : (splitBs s sep).length ≤ s.size + 1 := by
  have h := Lib.splitB_length_le sep 0 (Lib.countB s sep) s
  have h2 := Lib.countB_le sep h1 _ s (Nat.le_refl _)
  unfold splitBs; omega
/-! ### Split -/
def wordsOf (l : List ByteArray) : List ByteArray := (l.map trimT).filter fun t => !decide (t.toList = [])
theorem wordsOf_cons (x : ByteArray) (r : List ByteArray) : wordsOf (x :: r) = if (trimT x).toList = [] then wordsOf r else trimT x :: wordsOf r := by
  unfold wordsOf
  rw [List.map_cons, List.filter_cons]
  by_cases h : (trimT x).toList = [] <;> simp [h]
def splitT (s : ByteArray) : List ByteArray := wordsOf (splitBs s ⟨#[44]⟩)
theorem impl_Split_l0 (l : List ByteArray) (hl : l.length ≤ 4294967296) (hx : ∀ x ∈ l, x.size ≤ 4294967296) : ∀ (d k i : Nat) (acc : List ByteArray), l.length - i = d → i ≤ l.length → acc.length ≤ i → d < k →
    impl_Split.l0 k acc l (l.length : Int) i = some (acc ++ wordsOf (l.drop i)) := by
  intro d
  induction d with
  | zero =>
    intro k i acc hd hi ha hk
    obtain ⟨k, rfl⟩ := succ_of hk
    simp only [impl_Split.l0]
    rw [if_neg (by omega), List.drop_eq_nil_of_le (by omega)]; simp [wordsOf]
  | succ d ih =>
    intro k i acc hd hi ha hk
    obtain ⟨k, rfl⟩ := succ_of hk
    have hlt : i < l.length := by omega
    have hs := hx _ (List.getElem_mem hlt)
    simp only [impl_Split.l0]
    rw [if_pos (by omega), if_pos (by omega), if_pos (by omega), rd_B l i hlt, impl_Trim_f (by omega), Option.bind_some, nat_round (n := l.length) hlt (by omega), drop_at hlt, wordsOf_cons]
    by_cases h : (trimT l[i]).toList = []
    · rw [if_pos h, if_pos h, ih k (i + 1) acc (by omega) (by omega) (by omega) (by omega)]
    · rw [if_neg h, if_neg h, if_pos (by omega), ih k (i + 1) _ (by omega) (by omega) (by simp; omega) (by omega), List.append_assoc]; rfl
theorem splitBs_small : ∀ (n : Nat) (s sep : ByteArray), s.size ≤ n → 1 ≤ sep.size → ∀ x ∈ splitBs s sep, x.size ≤ s.size := by
  intro n s sep _ h1
  unfold splitBs
  generalize Lib.countB s sep = c
  induction c generalizing s n with
  | zero => intro x hx; simp only [Lib.splitB, List.mem_singleton] at hx; rw [hx]; exact Nat.le_refl _
  | succ c ih =>
    intro x hx
    unfold Lib.splitB at hx
    split at hx
    · simp only [List.mem_singleton] at hx; rw [hx]; exact Nat.le_refl _
    · rcases List.mem_cons.1 hx with rfl | hx
      · rw [ByteArray.size_extract]; omega
      · have := ih s.size _ (by rw [ByteArray.size_extract]; omega) x hx
        rw [ByteArray.size_extract] at this; omega
theorem impl_Split_f {k : Nat} {s : ByteArray} (hs : s.size ≤ 1048576) (hk : s.size + 1 < k) : impl_Split.f k s = some (splitT s) := by
  unfold impl_Split.f strings_Split.f
  have hn := splitBs_len s ⟨#[44]⟩ (by show 1 ≤ 1; omega)
  rw [if_pos ⟨by omega, by show 1 ≤ 1; omega⟩, Option.bind_some]
  have := impl_Split_l0 (splitBs s ⟨#[44]⟩) (by omega) (fun x hx => by have := splitBs_small s.size s ⟨#[44]⟩ (Nat.le_refl _) (by show 1 ≤ 1; omega) x hx; omega) (splitBs s ⟨#[44]⟩).length k 0 [] (by omega) (by omega) (by simp) (by omega)
  rw [List.drop_zero, List.nil_append] at this
  exact this
theorem spec_Split_l0 (s : ByteArray) (hs : s.size ≤ 1048576) : ∀ (d k f i : Nat) (acc : List ByteArray), s.size - i = d → i ≤ s.size → f ≤ i → acc.length ≤ i → (∀ j (h : j < (B s).length), f ≤ j → j < i → (B s)[j] ≠ 44) → 2 * d + 2 * s.size + 9 < k →
    spec_Split.l0 k s acc f i = some (acc ++ wordsOf (splitBs (s.extract f s.size) ⟨#[44]⟩)) := by
  intro d
  induction d with
  | zero =>
    intro k f i acc hd hi hf ha hno hk
    obtain ⟨k, rfl⟩ := succ_of (show 5 < k by omega)
    obtain ⟨k, rfl⟩ := succ_of (show 4 < k by omega)
    have hiz : i = s.size := by omega
    have hz : (s.extract f s.size).size = s.size - f := by rw [ByteArray.size_extract]; omega
    have hsp : splitBs (s.extract f s.size) ⟨#[44]⟩ = [s.extract f s.size] := split1_none _ _ (fun j hj => by
      obtain ⟨h1, h2, h3⟩ := B_get_extract s f s.size j hj
      rw [h2]; exact hno (f + j) h1 (by omega) (by omega))
    simp only [spec_Split.l0]
    rw [if_pos (by omega), if_neg (by omega)]
    simp only [spec_Split.j1]
    rw [if_neg (by simp), if_pos (by omega), if_pos (by omega), if_pos (by omega), Int.toNat_natCast, Int.toNat_natCast, hiz, spec_Trim_f (by omega) (by omega), Option.bind_some, hsp, wordsOf_cons, w64 (by omega)]
    obtain ⟨k, rfl⟩ := succ_of (show 0 < k by omega)
    have fin : ∀ acc', spec_Split.l0 (k + 1) s acc' ((s.size : Int) + 1) ((s.size : Int) + 1) = some acc' := fun acc' => by
      simp only [spec_Split.l0]; rw [if_neg (by omega)]
    by_cases h : (trimT (s.extract f s.size)).toList = []
    · rw [if_pos h, if_pos h, fin]; simp [wordsOf]
    · rw [if_neg h, if_neg h, if_pos (by omega), fin]; simp [wordsOf]
  | succ d ih =>
    intro k f i acc hd hi hf ha hno hk
    obtain ⟨k, rfl⟩ := succ_of (show 5 < k by omega)
    obtain ⟨k, rfl⟩ := succ_of (show 4 < k by omega)
    have hl : i < (B s).length := by rw [B_len]; omega
    simp only [spec_Split.l0]
    rw [if_pos (by omega), if_pos (by omega), if_pos (by omega), bt_get s i hl]
    simp only [spec_Split.j1]
    have h44 : ((B s)[i].toNat : Int) = 44 ↔ (B s)[i] = 44 := by
      constructor
      · intro h
        have : (B s)[i].toNat = (44 : UInt8).toNat := by show (B s)[i].toNat = 44; omega
        exact UInt8.toNat_inj.1 this
      · intro h; rw [h]; rfl
    have hr : wrap64 ((i : Int) + 1) = ((i + 1 : Nat) : Int) := nat_round (n := s.size) (by omega) (by omega)
    by_cases c : (B s)[i] = 44
    · have hsp : splitBs (s.extract f s.size) ⟨#[44]⟩ = s.extract f i :: splitBs (s.extract (i + 1) s.size) ⟨#[44]⟩ := by
        have hz : (s.extract f s.size).size = s.size - f := by rw [ByteArray.size_extract]; omega
        have hlt : i - f < (B (s.extract f s.size)).length := by rw [B_len, hz]; omega
        obtain ⟨g1, g2, _⟩ := B_get_extract s f s.size (i - f) hlt
        rw [split1_at (s.extract f s.size) 44 (i - f) hlt (by rw [g2]; simp only [show f + (i - f) = i by omega]; exact c) (fun j hj hji => by
          obtain ⟨h1, h2, h3⟩ := B_get_extract s f s.size j hj
          rw [h2]; exact hno (f + j) h1 (by omega) (by omega)), ByteArray.extract_extract, hz, ByteArray.extract_extract]
        rw [show min (f + (i - f)) s.size = i by omega, show min (f + (s.size - f)) s.size = s.size by omega, show f + (i - f + 1) = i + 1 by omega, Nat.add_zero]
      rw [if_neg (by simpa using h44.2 c), if_pos (by omega), if_pos (by omega), if_pos (by omega), Int.toNat_natCast, Int.toNat_natCast, spec_Trim_f (by rw [ByteArray.size_extract]; omega) (by rw [ByteArray.size_extract]; omega), Option.bind_some, hsp, wordsOf_cons, hr]
      by_cases h : (trimT (s.extract f i)).toList = []
      · rw [if_pos h, if_pos h, ih k (i + 1) (i + 1) acc (by omega) (by omega) (by omega) (by omega) (fun j _ h1 h2 => by omega) (by omega)]
      · rw [if_neg h, if_neg h, if_pos (by omega), ih k (i + 1) (i + 1) _ (by omega) (by omega) (by omega) (by simp; omega) (fun j _ h1 h2 => by omega) (by omega), List.append_assoc]; rfl
    · rw [if_pos (by simpa using fun e => c (h44.1 e)), hr]
      refine ih k f (i + 1) acc (by omega) (by omega) (by omega) (by omega) (fun j h h1 h2 => ?_) (by omega)
      by_cases e : j = i
      · subst e; exact c
      · exact hno j h h1 (by omega)
theorem spec_Split_f {k : Nat} {s : ByteArray} (hs : s.size ≤ 1048576) (hk : 4 * s.size + 9 < k) : spec_Split.f k s = some (splitT s) := by
  have := spec_Split_l0 s hs s.size k 0 0 [] (by omega) (by omega) (by omega) (by simp) (fun j _ _ h => by omega) (by omega)
  rw [List.nil_append, extract_all0] at this
  exact this
theorem wordsOf_len (l : List ByteArray) : (wordsOf l).length ≤ l.length := by
  unfold wordsOf
  have := List.length_filter_le (fun t : ByteArray => !decide (t.toList = [])) (l.map trimT)
  simpa using this
theorem splitT_len (s : ByteArray) : (splitT s).length ≤ s.size + 1 := by
  have h1 := wordsOf_len (splitBs s ⟨#[44]⟩)
  have h2 := splitBs_len s ⟨#[44]⟩ (by show 1 ≤ 1; omega)
  unfold splitT; omega

end Go.Proofs.YtogdmlgbdbgpkaaDoor.Pure
