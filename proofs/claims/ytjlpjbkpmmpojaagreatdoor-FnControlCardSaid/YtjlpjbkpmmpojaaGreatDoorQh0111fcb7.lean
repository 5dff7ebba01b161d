/- What the printed functions answer, in plain words: lemmas of this session. No condition of a statement lies here. -/
import Derived.Test.YtjlpjbkpmmpojaaGreatDoorAllx0
import Derived.Test.YtjlpjbkpmmpojaaGreatDoorAllx1
import Derived.Test.YtjlpjbkpmmpojaaGreatDoorAllx19
import Derived.Test.YtjlpjbkpmmpojaaGreatDoorAllx21
import Derived.Test.YtjlpjbkpmmpojaaGreatDoorAllx22
import Derived.Test.YtjlpjbkpmmpojaaGreatDoorQh157cdd32
import Derived.Test.YtjlpjbkpmmpojaaGreatDoorQh2f4b85a3
import Derived.Test.YtjlpjbkpmmpojaaGreatDoorQhb74c7d17
import Derived.Test.YtjlpjbkpmmpojaaGreatDoorQhe8f9b8cd
namespace Go.Proofs.YtjlpjbkpmmpojaaGreatDoor.Pure
open Go.RowKit Go.Proofs.YtjlpjbkpmmpojaaGreatDoor.All Go.Proofs.YtjlpjbkpmmpojaaGreatDoorW.PrintWords Go.Proofs.YtjlpjbkpmmpojaaGreatDoorW.PrintLast
set_option linter.unusedVariables false
set_option linter.unusedSimpArgs false

/-! ### CcText -/
def ccSep : List UInt8 := [44, 32]
def ccT (f0 f1 f2 f3 f4 : Bool) (n : Int) : ByteArray :=
  if f4 = true then if 0 ≤ n ∧ n ≤ 1000000 then joinB (ccTake f0 f1 f2 f3 4 ++ [(⟨#[109, 97, 120, 45, 97, 103, 101, 61]⟩ : ByteArray) ++ numT n]) ⟨#[44, 32]⟩ else ⟨#[]⟩ else joinB (ccTake f0 f1 f2 f3 4) ⟨#[44, 32]⟩
theorem joinTail_nil (sep : List UInt8) : Lib.joinTail sep [] = [] := rfl
theorem joinTail_cons (sep x : List UInt8) (r : List (List UInt8)) : Lib.joinTail sep (x :: r) = sep ++ (x ++ Lib.joinTail sep r) := by
  unfold Lib.joinTail; simp
theorem spec_CcText_l0 (xs : List ByteArray) (hx : ∀ x ∈ xs, x.size ≤ 1100) (hn : xs.length ≤ 100) : ∀ (d k i : Nat) (acc : ByteArray), xs.length = i + d → 1 ≤ i → acc.size + 1200 * d ≤ 1000000 → d < k →
    spec_CcText.l0 k xs acc i = some (Tx (B acc ++ Lib.joinTail ccSep ((xs.drop i).map (·.data.toList)))) := by
  intro d
  induction d with
  | zero =>
    intro k i acc hd hi ha hk
    obtain ⟨k, rfl⟩ := succ_of hk
    simp only [spec_CcText.l0]
    rw [if_neg (by omega), List.drop_eq_nil_of_le (by omega), List.map_nil, joinTail_nil, List.append_nil, Tx_B]
  | succ d ih =>
    intro k i acc hd hi ha hk
    obtain ⟨k, rfl⟩ := succ_of hk
    have hlt : i < xs.length := by omega
    have hs := hx _ (List.getElem_mem hlt)
    have s2 : (⟨#[44, 32]⟩ : ByteArray).size = 2 := rfl
    simp only [spec_CcText.l0]
    rw [if_pos (by omega), if_pos (by omega), if_pos (by omega), if_pos (by omega), rd_B xs i hlt, if_pos (by rw [ByteArray.size_append, s2]; omega), nat_round (n := xs.length) hlt (by omega),
      ih k (i + 1) _ (by omega) (by omega) (by rw [ByteArray.size_append, ByteArray.size_append, s2]; omega) (by omega), drop_at hlt, List.map_cons, joinTail_cons, B_append, B_append, List.append_assoc, List.append_assoc]
    rfl
theorem spec_CcText_j5 {k : Nat} (xs : List ByteArray) (hx : ∀ x ∈ xs, x.size ≤ 1100) (hn : xs.length ≤ 100) (hk : 110 < k) : spec_CcText.j5 k xs = some (joinB xs ⟨#[44, 32]⟩) := by
  obtain ⟨k, rfl⟩ := succ_of (show 0 < k by omega)
  obtain ⟨k, rfl⟩ := succ_of (show 0 < k by omega)
  simp only [spec_CcText.j5, spec_CcText.l0]
  cases xs with
  | nil => rw [if_neg (by simp)]; rfl
  | cons x r =>
    have hs := hx x (by simp)
    have hr : rdOf ByteArray.empty (x :: r) 0 = x := rfl
    have s0 : (⟨#[]⟩ : ByteArray).size = 0 := rfl
    simp only [List.length_cons] at hn
    rw [if_pos (by simp only [List.length_cons]; omega), if_neg (by omega), if_pos (by omega), hr, if_pos (by rw [s0]; omega), w64 (by omega)]
    have := spec_CcText_l0 (x :: r) hx (by simp; omega) r.length k 1 (⟨#[]⟩ ++ x) (by simp; omega) (by omega) (by rw [ByteArray.size_append, s0]; omega) (by omega)
    refine Eq.trans this (congrArg some ?_)
    unfold joinB Tx
    rw [List.map_cons, Lib.join_cons, B_append, B_empty, List.nil_append]
    rfl
theorem ccTake_of (f0 f1 f2 f3 : Bool) : ((((([] : List ByteArray) ++ (if f0 = true then [(⟨#[110, 111, 45, 115, 116, 111, 114, 101]⟩ : ByteArray)] else [])) ++ (if f1 = true then [(⟨#[110, 111, 45, 99, 97, 99, 104, 101]⟩ : ByteArray)] else [])) ++ (if f2 = true then [(⟨#[112, 114, 105, 118, 97, 116, 101]⟩ : ByteArray)] else [])) ++ (if f3 = true then [(⟨#[109, 117, 115, 116, 45, 114, 101, 118, 97, 108, 105, 100, 97, 116, 101]⟩ : ByteArray)] else [])) = ccTake f0 f1 f2 f3 4 := by
  cases f0 <;> cases f1 <;> cases f2 <;> cases f3 <;> rfl
theorem ccTake_le (f0 f1 f2 f3 : Bool) (x : ByteArray) (h : x ∈ ccTake f0 f1 f2 f3 4) : x.size ≤ 1100 := by
  have := ccTake_small f0 f1 f2 f3 4 x.data.toList (List.mem_map.2 ⟨x, h, rfl⟩)
  rw [data_length] at this
  exact this
theorem spec_CcText_j0 {k : Nat} (f0 f1 f2 f3 f4 : Bool) (n : Int) (hr : f4 = true → 0 ≤ n ∧ n ≤ 1000000) (hk : 200 < k) : spec_CcText.j0 k false f0 f1 f2 f3 f4 n = some (ccT f0 f1 f2 f3 f4 n) := by
  obtain ⟨k, rfl⟩ := succ_of (show 0 < k by omega)
  obtain ⟨k, rfl⟩ := succ_of (show 0 < k by omega)
  obtain ⟨k, rfl⟩ := succ_of (show 0 < k by omega)
  obtain ⟨k, rfl⟩ := succ_of (show 0 < k by omega)
  obtain ⟨k, rfl⟩ := succ_of (show 0 < k by omega)
  have j4 : spec_CcText.j4 (k + 1) (ccTake f0 f1 f2 f3 4) f0 f1 f2 f3 f4 n = some (ccT f0 f1 f2 f3 f4 n) := by
    have hl := ccTake_len f0 f1 f2 f3 4
    have hs := ccTake_le f0 f1 f2 f3
    simp only [spec_CcText.j4]
    unfold ccT
    by_cases h4 : f4 = true
    · have hn := numT_size n
      rw [if_pos h4, if_pos h4, if_pos (hr h4), spec_NumText_f (by omega), Option.bind_some, if_pos (by omega), if_pos (by omega)]
      refine spec_CcText_j5 _ (fun x hx => ?_) (by simp; omega) (by omega)
      rcases List.mem_append.1 hx with hx | hx
      · exact hs x hx
      · rw [List.mem_singleton.1 hx, ByteArray.size_append]
        show 8 + (numT n).size ≤ 1100
        omega
    · rw [if_neg h4, if_neg h4]
      exact spec_CcText_j5 _ hs (by omega) (by omega)
  have e := ccTake_of f0 f1 f2 f3
  simp only [spec_CcText.j0]
  rw [if_neg (by simp), Option.bind_some]
  have st : ∀ (b : Bool) (L : List ByteArray) (w : ByteArray) (F : List ByteArray → Option ByteArray), L.length ≤ 100 → (if b = true then (if L.length < 8796093022208 then F (L ++ [w]) else none) else F L) = F (L ++ (if b = true then [w] else [])) := fun b L w F h => by
    cases b
    · rw [if_neg (by simp), if_neg (by simp), List.append_nil]
    · rw [if_pos rfl, if_pos rfl, if_pos (by omega)]
  have l1 : ∀ (b : Bool) (w : ByteArray), (if b = true then [w] else []).length ≤ 1 := fun b w => by cases b <;> simp
  rw [st f0 [] _ (fun L => spec_CcText.j1 (k + 1 + 1 + 1 + 1) L f0 f1 f2 f3 f4 n) (by simp)]
  simp only [spec_CcText.j1]
  rw [st f1 _ _ (fun L => spec_CcText.j2 (k + 1 + 1 + 1) L f0 f1 f2 f3 f4 n) (by have := l1 f0 ⟨#[110, 111, 45, 115, 116, 111, 114, 101]⟩; simp only [List.length_append, List.length_nil]; omega)]
  simp only [spec_CcText.j2]
  rw [st f2 _ _ (fun L => spec_CcText.j3 (k + 1 + 1) L f0 f1 f2 f3 f4 n) (by have := l1 f0 ⟨#[110, 111, 45, 115, 116, 111, 114, 101]⟩; have := l1 f1 ⟨#[110, 111, 45, 99, 97, 99, 104, 101]⟩; simp only [List.length_append, List.length_nil]; omega)]
  simp only [spec_CcText.j3]
  rw [st f3 _ _ (fun L => spec_CcText.j4 (k + 1) L f0 f1 f2 f3 f4 n) (by have := l1 f0 ⟨#[110, 111, 45, 115, 116, 111, 114, 101]⟩; have := l1 f1 ⟨#[110, 111, 45, 99, 97, 99, 104, 101]⟩; have := l1 f2 ⟨#[112, 114, 105, 118, 97, 116, 101]⟩; simp only [List.length_append, List.length_nil]; omega), e]
  exact j4
theorem spec_CcText_f {k : Nat} (f0 f1 f2 f3 f4 : Bool) (n : Int) (hk : 200 < k) : spec_CcText.f k f0 f1 f2 f3 f4 n = some (ccT f0 f1 f2 f3 f4 n) := by
  unfold spec_CcText.f
  by_cases h4 : f4 = true
  · rw [if_pos h4, spec_l1In_f, Option.bind_some]
    by_cases h : 0 ≤ n ∧ n ≤ 1000000
    · rw [decide_eq_true h]
      exact spec_CcText_j0 f0 f1 f2 f3 f4 n (fun _ => h) hk
    · rw [decide_eq_false h]
      obtain ⟨k, rfl⟩ := succ_of (show 0 < k by omega)
      simp only [spec_CcText.j0]
      rw [if_pos (by simp)]
      unfold ccT
      rw [if_pos h4, if_neg h]
  · rw [if_neg h4]
    exact spec_CcText_j0 f0 f1 f2 f3 f4 n (fun e => absurd e h4) hk
theorem impl_CcText_f (f0 f1 f2 f3 f4 : Bool) (n : Int) : impl_CcText.f f0 f1 f2 f3 f4 n = some (ccT f0 f1 f2 f3 f4 n) := by
  unfold impl_CcText.f ccT
  by_cases h4 : f4 = true
  · rw [if_pos h4, if_pos h4, impl_inRange_f, Option.bind_some]
    by_cases h : 0 ≤ n ∧ n ≤ 1000000
    · have hn := numT_size n
      rw [if_pos (decide_eq_true h), if_pos h, impl_NumText_f, Option.bind_some, if_pos (by omega)]
    · rw [if_neg (by simpa using h), if_neg h]
  · rw [if_neg h4, if_neg h4]
theorem numRead_back {n : Int} (h : (numT n).toList ≠ []) : numRead (numT n) = (n, true) := by
  by_cases hn : 0 ≤ n ∧ n ≤ 1000000
  · obtain ⟨u, rfl⟩ : ∃ u : Nat, n = u := ⟨n.toNat, by omega⟩
    refine numRead_yes (by omega) ?_
    unfold numT
    rw [if_pos hn, B_mk, itoa_nat]
  · refine absurd ?_ h
    unfold numT
    rw [if_neg hn, toList_B]; rfl
theorem numT_numRead {t : ByteArray} (h : (numRead t).2 = true) : numT (numRead t).1 = t := by
  by_cases e : ∃ n : Nat, n ≤ 1000000 ∧ B t = Lib.decDigits n
  · obtain ⟨n, hn, e⟩ := e
    rw [numRead_yes hn e]
    unfold numT
    rw [if_pos ⟨by dsimp only; omega, by dsimp only; omega⟩]
    exact B_ext (by rw [B_mk, itoa_nat, e])
  · rw [numRead_no (fun n hn h' => e ⟨n, hn, h'⟩)] at h; cases h
/-! ### lists of words put together, and taken apart again -/
theorem wordsOf_append (a b : List ByteArray) : wordsOf (a ++ b) = wordsOf a ++ wordsOf b := by unfold wordsOf; rw [List.map_append, List.filter_append]
theorem mem_cut {c : UInt8} : ∀ {l : List UInt8}, c ∈ l → ∃ a b, l = a ++ c :: b ∧ c ∉ a
  | x :: r, h => by
    by_cases e : x = c
    · exact ⟨[], r, by rw [e]; rfl, by simp⟩
    · have hr : c ∈ r := by
        rcases List.mem_cons.1 h with h | h
        · exact absurd h.symm e
        · exact h
      obtain ⟨a, b, h1, h2⟩ := mem_cut hr
      refine ⟨x :: a, b, by rw [h1]; rfl, fun hm => ?_⟩
      rcases List.mem_cons.1 hm with hm | hm
      · exact e hm.symm
      · exact h2 hm
theorem split1_append (c : UInt8) : ∀ (n : Nat) (v rest : ByteArray), v.size ≤ n → splitBs (v ++ ((⟨#[c]⟩ : ByteArray) ++ rest)) ⟨#[c]⟩ = splitBs v ⟨#[c]⟩ ++ splitBs rest ⟨#[c]⟩ := by
  intro n
  induction n with
  | zero =>
    intro v rest hv
    have h0 : c ∉ B v := by
      have : B v = [] := List.eq_nil_of_length_eq_zero (by rw [B_len]; omega)
      rw [this]; simp
    rw [splitBs_app (c := c) (r := []) rfl h0, splitBs_free (c := c) (r := []) rfl h0]; rfl
  | succ n ih =>
    intro v rest hv
    by_cases h : c ∈ B v
    · obtain ⟨a, b, h1, h2⟩ := mem_cut h
      have e : v = Tx a ++ ((⟨#[c]⟩ : ByteArray) ++ Tx b) := B_ext (by rw [B_append, B_append, B_Tx, B_Tx, h1]; rfl)
      have hz : (Tx b).size ≤ n := by
        have := congrArg List.length h1
        rw [B_len, List.length_append, List.length_cons] at this
        rw [Tx_size]; omega
      have e2 : v ++ ((⟨#[c]⟩ : ByteArray) ++ rest) = Tx a ++ ((⟨#[c]⟩ : ByteArray) ++ (Tx b ++ ((⟨#[c]⟩ : ByteArray) ++ rest))) := by
        rw [e]; exact B_ext (by simp only [B_append, List.append_assoc])
      have ha : c ∉ B (Tx a) := by rw [B_Tx]; exact h2
      rw [e2, splitBs_app (c := c) (r := []) rfl ha, ih (Tx b) rest hz, e, splitBs_app (c := c) (r := []) rfl ha]; rfl
    · rw [splitBs_app (c := c) (r := []) rfl h, splitBs_free (c := c) (r := []) rfl h]; rfl
theorem dw_none {p : UInt8 → Bool} : ∀ {l : List UInt8}, (∀ x ∈ l, p x = false) → l.dropWhile p = l
  | [], _ => rfl
  | x :: r, h => by rw [List.dropWhile_cons, h x (by simp)]; rfl
/-- a word without blanks, as it stands and behind a blank -/
theorem trim_word {w : List UInt8} (h : (32 : UInt8) ∉ w) : trimT (Tx w) = Tx w ∧ trimT (Tx (32 :: w)) = Tx w := by
  have hp : ∀ x ∈ w, (x == (32 : UInt8)) = false := fun x hx => beq_eq_false_iff_ne.2 (fun e => h (e ▸ hx))
  have hr : ∀ x ∈ w.reverse, (x == (32 : UInt8)) = false := fun x hx => hp x (List.mem_reverse.1 hx)
  have d1 := dw_none hp
  have d2 := dw_none hr
  unfold trimT Lib.trimB Lib.trimLeftB Lib.trimRightB
  rw [B_Tx, B_Tx]
  refine ⟨?_, ?_⟩
  · show Tx _ = Tx w
    congr 1
    rw [d2, List.reverse_reverse, d1]
  · show Tx _ = Tx w
    congr 1
    cases w with
    | nil => rfl
    | cons x r =>
      have e : ((32 :: x :: r).reverse.dropWhile (· == (32 : UInt8))).reverse = 32 :: x :: r := by
        rw [List.reverse_cons]
        have hne : ((x :: r).reverse ++ [32]).dropWhile (· == (32 : UInt8)) = (x :: r).reverse ++ [32] := by
          cases hh : (x :: r).reverse with
          | nil => have := congrArg List.length hh; simp at this
          | cons y t =>
            have hy : (y == (32 : UInt8)) = false := hr y (by rw [hh]; simp)
            rw [List.cons_append, List.dropWhile_cons, hy]; rfl
        rw [hne, List.reverse_append, List.reverse_reverse]; rfl
      rw [e, List.dropWhile_cons]
      rw [if_pos (by rfl)]
      exact d1
/-- words that stand: no comma, no blank, not empty -/
def goodW (w : List UInt8) : Prop := (44 : UInt8) ∉ w ∧ (32 : UInt8) ∉ w ∧ w ≠ []
theorem split_words : ∀ (r : List (List UInt8)) (x : List UInt8), (44 : UInt8) ∉ x → (∀ y ∈ r, goodW y) → splitBs (Tx (x ++ Lib.joinTail [44, 32] r)) ⟨#[44]⟩ = Tx x :: r.map (fun y => Tx (32 :: y))
  | [], x, hx, _ => by
    have e : Lib.joinTail [44, 32] [] = [] := rfl
    rw [e, List.append_nil, splitBs_free (c := 44) (r := []) rfl (by rw [B_Tx]; exact hx)]; rfl
  | y :: r, x, hx, hr => by
    have hy := hr y (by simp)
    have e : Tx (x ++ Lib.joinTail [44, 32] (y :: r)) = Tx x ++ ((⟨#[44]⟩ : ByteArray) ++ Tx ((32 :: y) ++ Lib.joinTail [44, 32] r)) := B_ext (by
      have : Lib.joinTail [44, 32] (y :: r) = [44, 32] ++ (y ++ Lib.joinTail [44, 32] r) := by unfold Lib.joinTail; simp
      rw [this]; simp only [B_append, B_Tx]; rfl)
    have h32 : (44 : UInt8) ∉ 32 :: y := fun hm => by
      rcases List.mem_cons.1 hm with hm | hm
      · exact absurd hm (by decide)
      · exact hy.1 hm
    rw [e, splitBs_app (c := 44) (r := []) rfl (by rw [B_Tx]; exact hx), split_words r (32 :: y) h32 (fun z hz => hr z (by simp [hz]))]; rfl
theorem tx_ne {w : List UInt8} (h : w ≠ []) : (Tx w).toList ≠ [] := by rw [toList_B, B_Tx]; exact h
theorem wordsOf_back : ∀ (r : List (List UInt8)), (∀ y ∈ r, goodW y) → wordsOf (r.map (fun y => Tx (32 :: y))) = r.map Tx
  | [], _ => rfl
  | y :: r, h => by
    have hy := h y (by simp)
    have ht := (trim_word hy.2.1).2
    rw [List.map_cons, wordsOf_cons, ht, if_neg (tx_ne hy.2.2), wordsOf_back r (fun z hz => h z (by simp [hz]))]; rfl
theorem splitT_words (x : List UInt8) (r : List (List UInt8)) (h : ∀ y ∈ x :: r, goodW y) : splitT (Tx (x ++ Lib.joinTail [44, 32] r)) = (x :: r).map Tx := by
  have hx := h x (by simp)
  unfold splitT
  rw [split_words r x hx.1 (fun y hy => h y (by simp [hy])), wordsOf_cons, (trim_word hx.2.1).1, if_neg (tx_ne hx.2.2), wordsOf_back r (fun y hy => h y (by simp [hy]))]; rfl
theorem low_same {w : List UInt8} (h : ∀ c ∈ w, ¬ (65 ≤ c.toNat ∧ c.toNat ≤ 90)) : lowB (Tx w) = Tx w := by
  apply B_ext
  rw [B_lowB, B_Tx]
  have : w.map low1 = w.map id := List.map_congr_left (fun c hc => by unfold low1; rw [if_neg (h c hc)]; rfl)
  rw [this, List.map_id]
theorem ccGo_append : ∀ (a b : List ByteArray) (s : Bool × Bool × Bool × Bool × Bool × Int), ccGo (a ++ b) s = ccGo b (ccGo a s)
  | [], _, _ => rfl
  | x :: a, b, s => by rw [List.cons_append, ccGo, ccGo, ccGo_append a b]
/-! ### what is said of keeping, said and read -/
def ageW : List UInt8 := [109, 97, 120, 45, 97, 103, 101, 61]
theorem low_of {w : List UInt8} (h : (w.all fun c => decide (¬ (65 ≤ c.toNat ∧ c.toNat ≤ 90))) = true) : ∀ c ∈ w, ¬ (65 ≤ c.toNat ∧ c.toNat ≤ 90) := fun c hc => by
  rw [List.all_eq_true] at h; exact of_decide_eq_true (h c hc)
theorem ageW_digs {d : List UInt8} (h : digs d = true) : (∀ c ∈ ageW ++ d, ¬ (65 ≤ c.toNat ∧ c.toNat ≤ 90)) ∧ goodW (ageW ++ d) := by
  unfold digs at h
  rw [List.all_eq_true] at h
  have hd : ∀ c ∈ d, 48 ≤ c.toNat ∧ c.toNat ≤ 57 := fun c hc => of_decide_eq_true (h c hc)
  have h1 := low_of (w := ageW) (by decide)
  refine ⟨fun c hc => ?_, fun hm => ?_, fun hm => ?_, by unfold ageW; simp⟩
  · rcases List.mem_append.1 hc with hc | hc
    · exact h1 c hc
    · have := hd c hc; omega
  · rcases List.mem_append.1 hm with hm | hm
    · exact absurd hm (by decide)
    · exact absurd (hd _ hm).1 (by decide)
  · rcases List.mem_append.1 hm with hm | hm
    · exact absurd hm (by decide)
    · exact absurd (hd _ hm).1 (by decide)
theorem ccW_age (f0 f1 f2 f3 f4 : Bool) (f5 : Int) (d : List UInt8) : ccW f0 f1 f2 f3 f4 f5 (Tx (ageW ++ d)) = (f0, f1, f2, f3, true, if f4 = true then min f5 (numRead (Tx d)).1 else (numRead (Tx d)).1) := by
  have ht : (Tx (ageW ++ d)).toList = 109 :: 97 :: 120 :: 45 :: 97 :: 103 :: 101 :: 61 :: d := by rw [toList_B, B_Tx]; rfl
  have hz : (Tx (ageW ++ d)).size = 8 + d.length := by rw [Tx_size, List.length_append]; rfl
  have hx : (Tx (ageW ++ d)).extract 8 (Tx (ageW ++ d)).size = Tx d := B_ext (by
    rw [B_extract, List.take_of_length_le (by rw [B_len]; omega), B_Tx, B_Tx]; rfl)
  have ha : isAge (Tx (ageW ++ d)) = true := by
    rw [isAge_B, decide_eq_true (by omega), B_Tx, Bool.true_and]; rfl
  unfold ccW ageN
  rw [ht, hx, ha]
  rw [if_neg (fun h => by injection h with h1 _; exact absurd h1 (by decide)), if_neg (fun h => by injection h with h1 _; exact absurd h1 (by decide)), if_neg (fun h => by injection h with h1 _; exact absurd h1 (by decide)),
    if_neg (fun h => by injection h with _ h; injection h with h1 _; exact absurd h1 (by decide)), if_pos rfl]
theorem ccW_k0 (f0 f1 f2 f3 f4 : Bool) (f5 : Int) : ccW f0 f1 f2 f3 f4 f5 (lowB (⟨#[110, 111, 45, 115, 116, 111, 114, 101]⟩ : ByteArray)) = (true, f1, f2, f3, f4, f5) := by
  rw [show (⟨#[110, 111, 45, 115, 116, 111, 114, 101]⟩ : ByteArray) = Tx [110, 111, 45, 115, 116, 111, 114, 101] from rfl, low_same (low_of (by decide))]
  unfold ccW
  rw [if_pos (by rw [toList_B, B_Tx])]
theorem ccW_k1 (f0 f1 f2 f3 f4 : Bool) (f5 : Int) : ccW f0 f1 f2 f3 f4 f5 (lowB (⟨#[110, 111, 45, 99, 97, 99, 104, 101]⟩ : ByteArray)) = (f0, true, f2, f3, f4, f5) := by
  rw [show (⟨#[110, 111, 45, 99, 97, 99, 104, 101]⟩ : ByteArray) = Tx [110, 111, 45, 99, 97, 99, 104, 101] from rfl, low_same (low_of (by decide))]
  unfold ccW
  rw [if_neg (by rw [toList_B, B_Tx]; decide), if_pos (by rw [toList_B, B_Tx])]
theorem ccW_k2 (f0 f1 f2 f3 f4 : Bool) (f5 : Int) : ccW f0 f1 f2 f3 f4 f5 (lowB (⟨#[112, 114, 105, 118, 97, 116, 101]⟩ : ByteArray)) = (f0, f1, true, f3, f4, f5) := by
  rw [show (⟨#[112, 114, 105, 118, 97, 116, 101]⟩ : ByteArray) = Tx [112, 114, 105, 118, 97, 116, 101] from rfl, low_same (low_of (by decide))]
  unfold ccW
  rw [if_neg (by rw [toList_B, B_Tx]; decide), if_neg (by rw [toList_B, B_Tx]; decide), if_pos (by rw [toList_B, B_Tx])]
theorem ccW_k3 (f0 f1 f2 f3 f4 : Bool) (f5 : Int) : ccW f0 f1 f2 f3 f4 f5 (lowB (⟨#[109, 117, 115, 116, 45, 114, 101, 118, 97, 108, 105, 100, 97, 116, 101]⟩ : ByteArray)) = (f0, f1, f2, true, f4, f5) := by
  rw [show (⟨#[109, 117, 115, 116, 45, 114, 101, 118, 97, 108, 105, 100, 97, 116, 101]⟩ : ByteArray) = Tx [109, 117, 115, 116, 45, 114, 101, 118, 97, 108, 105, 100, 97, 116, 101] from rfl, low_same (low_of (by decide))]
  unfold ccW
  rw [if_neg (by rw [toList_B, B_Tx]; decide), if_neg (by rw [toList_B, B_Tx]; decide), if_neg (by rw [toList_B, B_Tx]; decide), if_pos (by rw [toList_B, B_Tx])]
theorem ccGo_take (f0 f1 f2 f3 : Bool) (r : List ByteArray) : ccGo (ccTake f0 f1 f2 f3 4 ++ r) (false, false, false, false, false, 0) = ccGo r (f0, f1, f2, f3, false, 0) := by
  rw [← ccTake_of]
  cases f0 <;> cases f1 <;> cases f2 <;> cases f3 <;> simp [ccGo, ccW_k0, ccW_k1, ccW_k2, ccW_k3]
theorem ccTake_good (f0 f1 f2 f3 : Bool) : ∀ y ∈ (ccTake f0 f1 f2 f3 4).map B, goodW y := by
  rw [← ccTake_of]
  cases f0 <;> cases f1 <;> cases f2 <;> cases f3 <;> simp [goodW, B]
theorem splitT_join (ws : List ByteArray) (h : ∀ y ∈ ws.map B, goodW y) : ws ≠ [] → splitT (joinB ws ⟨#[44, 32]⟩) = ws := by
  intro hne
  cases ws with
  | nil => exact absurd rfl hne
  | cons x r =>
    have e : joinB (x :: r) ⟨#[44, 32]⟩ = Tx (B x ++ Lib.joinTail [44, 32] (r.map B)) := by
      unfold joinB Tx
      rw [List.map_cons, Lib.join_cons]
      rfl
    rw [e, splitT_words (B x) (r.map B) (by rw [List.map_cons] at h; exact h)]
    rw [List.map_cons, Tx_B, List.map_map]
    congr 1
    have : r.map (Tx ∘ B) = r.map id := List.map_congr_left (fun y _ => Tx_B y)
    rw [this, List.map_id]
theorem joinB_nil : joinB [] ⟨#[44, 32]⟩ = ⟨#[]⟩ := rfl
theorem ccText_size (f0 f1 f2 f3 f4 : Bool) (n : Int) : (ccT f0 f1 f2 f3 f4 n).size ≤ 100000 := by
  have hn := numT_size n
  have e : ∀ ws : List ByteArray, ws.length ≤ 5 → (∀ x ∈ ws, x.size ≤ 1100) → (joinB ws ⟨#[44, 32]⟩).size ≤ 100000 := fun ws hl hx => by
    have hb := join_bound ((⟨#[44, 32]⟩ : ByteArray).data.toList) 1100 (ws.map (·.data.toList)) (fun y hy => by obtain ⟨z, hz, rfl⟩ := List.mem_map.1 hy; rw [data_length]; exact hx z hz)
    rw [List.length_map, data_length] at hb
    have h2 : (⟨#[44, 32]⟩ : ByteArray).size = 2 := rfl
    rw [h2] at hb
    have hsz : (joinB ws ⟨#[44, 32]⟩).size = (Lib.join (ws.map (·.data.toList)) (⟨#[44, 32]⟩ : ByteArray).data.toList).length := by rw [← B_len]; unfold joinB; rw [B_mk]
    have := Nat.mul_le_mul_right (1100 + 2) hl
    omega
  have h4 := ccTake_len f0 f1 f2 f3 4
  have s8 : (⟨#[109, 97, 120, 45, 97, 103, 101, 61]⟩ : ByteArray).size = 8 := rfl
  unfold ccT
  split
  · split
    · refine e _ (by rw [List.length_append]; simp only [List.length_cons, List.length_nil]; omega) (fun x hx => ?_)
      rcases List.mem_append.1 hx with hx | hx
      · exact ccTake_le _ _ _ _ x hx
      · rw [List.mem_singleton.1 hx, ByteArray.size_append, s8]; omega
    · exact Nat.zero_le _
  · exact e _ (by omega) (fun x hx => ccTake_le _ _ _ _ x hx)
/-- what is said is read as it was -/
theorem cc_back (f0 f1 f2 f3 f4 : Bool) (n : Int) (h : (ccT f0 f1 f2 f3 f4 n).toList ≠ []) : ccReadT (ccT f0 f1 f2 f3 f4 n) = (f0, f1, f2, f3, f4, if f4 = true then n else 0) := by
  unfold ccReadT
  unfold ccT at h ⊢
  cases f4 with
  | false =>
    rw [if_neg (by simp)] at h ⊢
    have hne : ccTake f0 f1 f2 f3 4 ≠ [] := fun e => by rw [e, joinB_nil] at h; exact h (by rw [toList_B]; rfl)
    rw [splitT_join _ (ccTake_good f0 f1 f2 f3) hne]
    have := ccGo_take f0 f1 f2 f3 []
    rw [List.append_nil] at this
    rw [this]; rfl
  | true =>
    rw [if_pos rfl] at h ⊢
    by_cases hn : 0 ≤ n ∧ n ≤ 1000000
    · rw [if_pos hn]
      have hb : numRead (numT n) = (n, true) := by
        refine numRead_back ?_
        obtain ⟨u, rfl⟩ : ∃ u : Nat, n = u := ⟨n.toNat, by omega⟩
        unfold numT
        rw [if_pos hn, toList_B, B_mk (Lib.itoa (u : Int)), itoa_nat]
        exact (dec_facts u).2.2
      have hd : digs (B (numT n)) = true := by
        obtain ⟨u, rfl⟩ : ∃ u : Nat, n = u := ⟨n.toNat, by omega⟩
        unfold numT
        rw [if_pos hn, B_mk (Lib.itoa (u : Int)), itoa_nat]
        exact (dec_facts u).2.1
      have ew : (⟨#[109, 97, 120, 45, 97, 103, 101, 61]⟩ : ByteArray) ++ numT n = Tx (ageW ++ B (numT n)) := B_ext (by rw [B_append, B_Tx]; rfl)
      obtain ⟨w1, w2⟩ := ageW_digs hd
      rw [ew, splitT_join _ (fun y hy => by
        rw [List.map_append] at hy
        rcases List.mem_append.1 hy with hy | hy
        · exact ccTake_good f0 f1 f2 f3 y hy
        · rw [List.map_cons, List.map_nil, B_Tx] at hy
          rw [List.mem_singleton.1 hy]; exact w2) (by simp), ccGo_take]
      simp only [ccGo]
      rw [low_same w1, ccW_age, Tx_B, hb]
      simp
    · rw [if_neg hn] at h
      exact absurd (by rw [toList_B]; rfl) h
/-- one more life: the least counts -/
theorem cc_more (v : ByteArray) : ccReadT (v ++ (⟨#[44, 32, 109, 97, 120, 45, 97, 103, 101, 61, 51]⟩ : ByteArray)) = ((ccReadT v).1, (ccReadT v).2.1, (ccReadT v).2.2.1, (ccReadT v).2.2.2.1, true, if (ccReadT v).2.2.2.2.1 = true then min (ccReadT v).2.2.2.2.2 3 else 3) := by
  have e : v ++ (⟨#[44, 32, 109, 97, 120, 45, 97, 103, 101, 61, 51]⟩ : ByteArray) = v ++ ((⟨#[44]⟩ : ByteArray) ++ Tx (32 :: (ageW ++ [51]))) := B_ext (by simp only [B_append, B_Tx]; rfl)
  obtain ⟨w1, w2⟩ := ageW_digs (d := [51]) (by decide)
  have hs : wordsOf (splitBs (Tx (32 :: (ageW ++ [51]))) ⟨#[44]⟩) = [Tx (ageW ++ [51])] := by
    rw [splitBs_free (c := 44) (r := []) rfl (by rw [B_Tx]; decide), wordsOf_cons, (trim_word w2.2.1).2, if_neg (tx_ne w2.2.2)]; rfl
  have hn : numRead (Tx [51]) = (3, true) := by
    refine numRead_yes (n := 3) (by omega) ?_
    rw [B_Tx]
    unfold Lib.decDigits
    rfl
  unfold ccReadT
  have e2 : splitT (v ++ ((⟨#[44]⟩ : ByteArray) ++ Tx (32 :: (ageW ++ [51])))) = splitT v ++ [Tx (ageW ++ [51])] := by
    unfold splitT
    rw [split1_append 44 v.size v _ (Nat.le_refl _), wordsOf_append, hs]
  rw [e, e2, ccGo_append]
  simp only [ccGo]
  rw [low_same w1, ccW_age, hn]
theorem spec_DrawCcRead_l0 (l : List Int) (hl : (l.length : Int) ≤ 4611686018427387904) : ∀ (d k n : Nat) (t : ByteArray) (i h : Int), n + d = 4 → t.size ≤ 20 * n → 0 ≤ i → i ≤ l.length → d < k → ∃ u, spec_DrawCcRead.l0 k t (n : Int) l i h = some u ∧ u.size ≤ 100 := by
  intro d
  induction d with
  | zero =>
    intro k n t i h hd ht h0 hi hk
    obtain ⟨k, rfl⟩ := succ_of hk
    obtain ⟨v, i1, h1, e, v0, v1, _, i10, i11⟩ := spec_l1Below_f l i h 5 h0 hl hi
    have v2 := v1 (by omega)
    simp only [spec_DrawCcRead.l0]
    rw [e, Option.bind_some]
    dsimp only
    rw [if_neg (by omega)]
    exact ⟨_, rfl, by omega⟩
  | succ d ih =>
    intro k n t i h hd ht h0 hi hk
    obtain ⟨k, rfl⟩ := succ_of hk
    obtain ⟨v, i1, h1, e, v0, v1, _, i10, i11⟩ := spec_l1Below_f l i h 5 h0 hl hi
    simp only [spec_DrawCcRead.l0]
    rw [e, Option.bind_some]
    dsimp only
    split
    · obtain ⟨a, i2, h2, e2, ha, i20, i21⟩ := spec_l1Pick_le l i1 h1 15 [(⟨#[110, 111, 45, 115, 116, 111, 114, 101]⟩ : ByteArray), (⟨#[78, 111, 45, 67, 97, 99, 104, 101]⟩ : ByteArray), (⟨#[112, 114, 105, 118, 97, 116, 101]⟩ : ByteArray), (⟨#[109, 117, 115, 116, 45, 114, 101, 118, 97, 108, 105, 100, 97, 116, 101]⟩ : ByteArray), (⟨#[109, 97, 120, 45, 97, 103, 101, 61, 53]⟩ : ByteArray), (⟨#[109, 97, 120, 45, 97, 103, 101, 61]⟩ : ByteArray), (⟨#[77, 65, 88, 45, 65, 71, 69, 61, 55, 48]⟩ : ByteArray), (⟨#[109, 97, 120, 45, 97, 103, 101, 61, 48, 53]⟩ : ByteArray), (⟨#[120]⟩ : ByteArray), (⟨#[32]⟩ : ByteArray)] i10 hl i11 (by decide) (by rfl)
      rw [e2, Option.bind_some]
      dsimp only
      obtain ⟨b, i3, h3, e3, hb, i30, i31⟩ := spec_l1Pick_le l i2 h2 2 [(⟨#[44]⟩ : ByteArray), (⟨#[44, 32]⟩ : ByteArray), (⟨#[32, 44]⟩ : ByteArray), (⟨#[32]⟩ : ByteArray)] i20 hl i21 (by decide) (by rfl)
      rw [if_pos (by omega), e3, Option.bind_some]
      dsimp only
      rw [if_pos (by rw [ByteArray.size_append]; omega), w64 (by omega), show (n : Int) + 1 = ((n + 1 : Nat) : Int) by omega]
      exact ih k (n + 1) _ i3 h3 (by omega) (by rw [ByteArray.size_append, ByteArray.size_append]; omega) i30 i31 (by omega)
    · exact ⟨_, rfl, by omega⟩
theorem spec_DrawCcRead_f {k : Nat} {l : List Int} (hl : (l.length : Int) ≤ 4611686018427387904) (hk : l.length + 20 < k) : ∃ t, spec_DrawCcRead.f k l = some t ∧ t.size ≤ 100 := by
  unfold spec_DrawCcRead.f
  obtain ⟨h, e⟩ := spec_l1New_f (k := k) hl (by omega)
  rw [e, Option.bind_some]
  exact spec_DrawCcRead_l0 l hl 4 k 0 _ 0 h (by omega) (Nat.zero_le _) (by omega) (by omega) (by omega)
theorem spec_DrawCcText_f {k : Nat} {l : List Int} (hl : (l.length : Int) ≤ 1048576) (hk : 6000000 < k) : ∃ f0 f1 f2 f3 f4 n, spec_DrawCcText.f k l = some (f0, f1, f2, f3, f4, n) := by
  unfold spec_DrawCcText.f
  obtain ⟨h, e⟩ := spec_l1New_f (k := k) (l := l) (by omega) (by omega)
  obtain ⟨t, e1, ht⟩ := spec_DrawCcRead_f (k := k) (l := l) (by omega) (by omega)
  rw [e, Option.bind_some, e1, Option.bind_some, spec_CcRead_f (by omega) (by omega), Option.bind_some]
  dsimp only
  obtain ⟨v, i2, h2, e2, _, _, _, i20, i21⟩ := spec_l1Below_f l 0 h 9 (by omega) (by omega) (by omega)
  rw [e2, Option.bind_some]
  dsimp only
  split
  · obtain ⟨u, i3, h3, e3, _⟩ := spec_l1PickInt_f l i2 h2 [(-1), 5, 1000001] i20 (by omega) i21 (by decide)
    rw [e3, Option.bind_some]
    exact ⟨_, _, _, _, _, _, rfl⟩
  · split
    · exact ⟨_, _, _, _, _, _, rfl⟩
    · exact ⟨_, _, _, _, _, _, rfl⟩
theorem spec_DrawCcOf_f {k : Nat} {l : List Int} (hl : (l.length : Int) ≤ 4611686018427387904) (hk : l.length + 80 < k) : ∃ r, spec_DrawCcOf.f k l = some r ∧ SmallF 26 r := by
  unfold spec_DrawCcOf.f
  obtain ⟨h, e⟩ := spec_l1New_f (k := k) hl (by omega)
  rw [e, Option.bind_some]
  dsimp only
  obtain ⟨r, i1, h1, e1, hr, _⟩ := spec_l2Draw_f (k := k) (i := 0) (h := h) hl (by omega) (by omega) (by omega)
  rw [e1, Option.bind_some]
  exact ⟨_, rfl, hr⟩

end Go.Proofs.YtjlpjbkpmmpojaaGreatDoor.Pure
