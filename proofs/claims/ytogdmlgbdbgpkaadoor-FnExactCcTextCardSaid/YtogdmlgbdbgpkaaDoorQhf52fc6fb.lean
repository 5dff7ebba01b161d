/- What the printed functions answer, in plain words: lemmas of this session. No condition of a statement lies here. -/
import Derived.Test.YtogdmlgbdbgpkaaDoorAllx0
import Derived.Test.YtogdmlgbdbgpkaaDoorAllx7
import Derived.Test.YtogdmlgbdbgpkaaDoorAllx8
import Derived.Test.YtogdmlgbdbgpkaaDoorQh52fc84b9
import Derived.Test.YtogdmlgbdbgpkaaDoorQhcbe26a6f
import Derived.Test.YtogdmlgbdbgpkaaDoorQhdcac6cf0
namespace Go.Proofs.YtogdmlgbdbgpkaaDoor.Pure
open Go.RowKit Go.Proofs.YtogdmlgbdbgpkaaDoor.All Go.Proofs.YtogdmlgbdbgpkaaDoorW.PrintWords Go.Proofs.YtogdmlgbdbgpkaaDoorW.PrintLast
set_option linter.unusedVariables false
set_option linter.unusedSimpArgs false

/-! ### CcText -/
def ccSep : List UInt8 := [44, 32]
def ccT (f0 f1 f2 f3 f4 : Bool) (n : Int) : ByteArray :=
  if f4 = true then if 0 ≤ n ∧ n ≤ 1000000 then joinB (ccTake f0 f1 f2 f3 4 ++ [(⟨#[109, 97, 120, 45, 97, 103, 101, 61]⟩ : ByteArray) ++ numT n]) ⟨#[44, 32]⟩ else ⟨#[]⟩ else joinB (ccTake f0 f1 f2 f3 4) ⟨#[44, 32]⟩
theorem joinTail_nil (sep : List UInt8) : Lib.joinTail sep [] = [] := rfl
theorem joinTail_cons (sep x : List UInt8) (r : List (List UInt8)) : Lib.joinTail sep (x :: r) = sep ++ (x ++ Lib.joinTail sep r) := by
  unfold Lib.joinTail; simp
theorem spec_CcText_l0 (xs : List ByteArray) (hx : ∀ x ∈ xs, x.size ≤ 1100) (hn : xs.length ≤ 100) : ∀ (d k i : Nat) (acc : ByteArray), xs.length = i + d → 1 ≤ i → acc.size + 1200 * d ≤ 1000000 → d < k →
    spec_CcText.l0 k xs acc i = some (Tx (B acc ++ Lib.joinTail ccSep ((xs.drop i).map (·.data.toList)))) := by
  intro d
  induction d with
  | zero =>
    intro k i acc hd hi ha hk
    obtain ⟨k, rfl⟩ := succ_of hk
    simp only [spec_CcText.l0]
    rw [if_neg (by omega), List.drop_eq_nil_of_le (by omega), List.map_nil, joinTail_nil, List.append_nil, Tx_B]
  | succ d ih =>
    intro k i acc hd hi ha hk
    obtain ⟨k, rfl⟩ := succ_of hk
    have hlt : i < xs.length := by omega
    have hs := hx _ (List.getElem_mem hlt)
    have s2 : (⟨#[44, 32]⟩ : ByteArray).size = 2 := rfl
    simp only [spec_CcText.l0]
    rw [if_pos (by omega), if_pos (by omega), if_pos (by omega), if_pos (by omega), rd_B xs i hlt, if_pos (by rw [ByteArray.size_append, s2]; omega), nat_round (n := xs.length) hlt (by omega),
      ih k (i + 1) _ (by omega) (by omega) (by rw [ByteArray.size_append, ByteArray.size_append, s2]; omega) (by omega), drop_at hlt, List.map_cons, joinTail_cons, B_append, B_append, List.append_assoc, List.append_assoc]
    rfl
theorem spec_CcText_j5 {k : Nat} (xs : List ByteArray) (hx : ∀ x ∈ xs, x.size ≤ 1100) (hn : xs.length ≤ 100) (hk : 110 < k) : spec_CcText.j5 k xs = some (joinB xs ⟨#[44, 32]⟩) := by
  obtain ⟨k, rfl⟩ := succ_of (show 0 < k by omega)
  obtain ⟨k, rfl⟩ := succ_of (show 0 < k by omega)
  simp only [spec_CcText.j5, spec_CcText.l0]
  cases xs with
  | nil => rw [if_neg (by simp)]; rfl
  | cons x r =>
    have hs := hx x (by simp)
    have hr : rdOf ByteArray.empty (x :: r) 0 = x := rfl
    have s0 : (⟨#[]⟩ : ByteArray).size = 0 := rfl
    simp only [List.length_cons] at hn
    rw [if_pos (by simp only [List.length_cons]; omega), if_neg (by omega), if_pos (by omega), hr, if_pos (by rw [s0]; omega), w64 (by omega)]
    have := spec_CcText_l0 (x :: r) hx (by simp; omega) r.length k 1 (⟨#[]⟩ ++ x) (by simp; omega) (by omega) (by rw [ByteArray.size_append, s0]; omega) (by omega)
    refine Eq.trans this (congrArg some ?_)
    unfold joinB Tx
    rw [List.map_cons, Lib.join_cons, B_append, B_empty, List.nil_append]
    rfl
theorem ccTake_of (f0 f1 f2 f3 : Bool) : ((((([] : List ByteArray) ++ (if f0 = true then [(⟨#[110, 111, 45, 115, 116, 111, 114, 101]⟩ : ByteArray)] else [])) ++ (if f1 = true then [(⟨#[110, 111, 45, 99, 97, 99, 104, 101]⟩ : ByteArray)] else [])) ++ (if f2 = true then [(⟨#[112, 114, 105, 118, 97, 116, 101]⟩ : ByteArray)] else [])) ++ (if f3 = true then [(⟨#[109, 117, 115, 116, 45, 114, 101, 118, 97, 108, 105, 100, 97, 116, 101]⟩ : ByteArray)] else [])) = ccTake f0 f1 f2 f3 4 := by
  cases f0 <;> cases f1 <;> cases f2 <;> cases f3 <;> rfl
theorem ccTake_le (f0 f1 f2 f3 : Bool) (x : ByteArray) (h : x ∈ ccTake f0 f1 f2 f3 4) : x.size ≤ 1100 := by
  have := ccTake_small f0 f1 f2 f3 4 x.data.toList (List.mem_map.2 ⟨x, h, rfl⟩)
  rw [data_length] at this
  exact this
theorem spec_CcText_j0 {k : Nat} (f0 f1 f2 f3 f4 : Bool) (n : Int) (hr : f4 = true → 0 ≤ n ∧ n ≤ 1000000) (hk : 200 < k) : spec_CcText.j0 k false f0 f1 f2 f3 f4 n = some (ccT f0 f1 f2 f3 f4 n) := by
  obtain ⟨k, rfl⟩ := succ_of (show 0 < k by omega)
  obtain ⟨k, rfl⟩ := succ_of (show 0 < k by omega)
  obtain ⟨k, rfl⟩ := succ_of (show 0 < k by omega)
  obtain ⟨k, rfl⟩ := succ_of (show 0 < k by omega)
  obtain ⟨k, rfl⟩ := succ_of (show 0 < k by omega)
  have j4 : spec_CcText.j4 (k + 1) (ccTake f0 f1 f2 f3 4) f0 f1 f2 f3 f4 n = some (ccT f0 f1 f2 f3 f4 n) := by
    have hl := ccTake_len f0 f1 f2 f3 4
    have hs := ccTake_le f0 f1 f2 f3
    simp only [spec_CcText.j4]
    unfold ccT
    by_cases h4 : f4 = true
    · have hn := numT_size n
      rw [if_pos h4, if_pos h4, if_pos (hr h4), spec_NumText_f (by omega), Option.bind_some, if_pos (by omega), if_pos (by omega)]
      refine spec_CcText_j5 _ (fun x hx => ?_) (by simp; omega) (by omega)
      rcases List.mem_append.1 hx with hx | hx
      · exact hs x hx
      · rw [List.mem_singleton.1 hx, ByteArray.size_append]
        show 8 + (numT n).size ≤ 1100
        omega
    · rw [if_neg h4, if_neg h4]
      exact spec_CcText_j5 _ hs (by omega) (by omega)
  have e := ccTake_of f0 f1 f2 f3
  simp only [spec_CcText.j0]
  rw [if_neg (by simp), Option.bind_some]
  have st : ∀ (b : Bool) (L : List ByteArray) (w : ByteArray) (F : List ByteArray → Option ByteArray), L.length ≤ 100 → (if b = true then (if L.length < 8796093022208 then F (L ++ [w]) else none) else F L) = F (L ++ (if b = true then [w] else [])) := fun b L w F h => by
    cases b
    · rw [if_neg (by simp), if_neg (by simp), List.append_nil]
    · rw [if_pos rfl, if_pos rfl, if_pos (by omega)]
  have l1 : ∀ (b : Bool) (w : ByteArray), (if b = true then [w] else []).length ≤ 1 := fun b w => by cases b <;> simp
  rw [st f0 [] _ (fun L => spec_CcText.j1 (k + 1 + 1 + 1 + 1) L f0 f1 f2 f3 f4 n) (by simp)]
  simp only [spec_CcText.j1]
  rw [st f1 _ _ (fun L => spec_CcText.j2 (k + 1 + 1 + 1) L f0 f1 f2 f3 f4 n) (by have := l1 f0 ⟨#[110, 111, 45, 115, 116, 111, 114, 101]⟩; simp only [List.length_append, List.length_nil]; omega)]
  simp only [spec_CcText.j2]
  rw [st f2 _ _ (fun L => spec_CcText.j3 (k + 1 + 1) L f0 f1 f2 f3 f4 n) (by have := l1 f0 ⟨#[110, 111, 45, 115, 116, 111, 114, 101]⟩; have := l1 f1 ⟨#[110, 111, 45, 99, 97, 99, 104, 101]⟩; simp only [List.length_append, List.length_nil]; omega)]
  simp only [spec_CcText.j3]
  rw [st f3 _ _ (fun L => spec_CcText.j4 (k + 1) L f0 f1 f2 f3 f4 n) (by have := l1 f0 ⟨#[110, 111, 45, 115, 116, 111, 114, 101]⟩; have := l1 f1 ⟨#[110, 111, 45, 99, 97, 99, 104, 101]⟩; have := l1 f2 ⟨#[112, 114, 105, 118, 97, 116, 101]⟩; simp only [List.length_append, List.length_nil]; omega), e]
  exact j4
theorem spec_CcText_f {k : Nat} (f0 f1 f2 f3 f4 : Bool) (n : Int) (hk : 200 < k) : spec_CcText.f k f0 f1 f2 f3 f4 n = some (ccT f0 f1 f2 f3 f4 n) := by
  unfold spec_CcText.f
  by_cases h4 : f4 = true
  · rw [if_pos h4, spec_l1In_f, Option.bind_some]
    by_cases h : 0 ≤ n ∧ n ≤ 1000000
    · rw [decide_eq_true h]
      exact spec_CcText_j0 f0 f1 f2 f3 f4 n (fun _ => h) hk
    · rw [decide_eq_false h]
      obtain ⟨k, rfl⟩ := succ_of (show 0 < k by omega)
      simp only [spec_CcText.j0]
      rw [if_pos (by simp)]
      unfold ccT
      rw [if_pos h4, if_neg h]
  · rw [if_neg h4]
    exact spec_CcText_j0 f0 f1 f2 f3 f4 n (fun e => absurd e h4) hk
theorem impl_CcText_f (f0 f1 f2 f3 f4 : Bool) (n : Int) : impl_CcText.f f0 f1 f2 f3 f4 n = some (ccT f0 f1 f2 f3 f4 n) := by
  unfold impl_CcText.f ccT
  by_cases h4 : f4 = true
  · rw [if_pos h4, if_pos h4, impl_inRange_f, Option.bind_some]
    by_cases h : 0 ≤ n ∧ n ≤ 1000000
    · have hn := numT_size n
      rw [if_pos (decide_eq_true h), if_pos h, impl_NumText_f, Option.bind_some, if_pos (by omega)]
    · rw [if_neg (by simpa using h), if_neg h]
  · rw [if_neg h4, if_neg h4]

end Go.Proofs.YtogdmlgbdbgpkaaDoor.Pure
