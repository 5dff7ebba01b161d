/- What the printed functions answer, in plain words: part e_sizes of this session's lemmas. No condition of a statement lies here. -/
import Derived.Test.YtdlgjhckmkmjhaaAllx14
import Derived.Test.YtdlgjhckmkmjhaaQabase
namespace Go.Proofs.Ytdlgjhckmkmjhaa.Pure
open Go.RowKit Go.Proofs.Ytdlgjhckmkmjhaa.All Go.Proofs.YtdlgjhckmkmjhaaW.PrintWords Go.Proofs.YtdlgjhckmkmjhaaW.PrintLast
set_option linter.unusedVariables false
set_option linter.unusedSimpArgs false

def szBS : List ByteArray → Int
  | [] => 0
  | x :: r => (x.size : Int) + szBS r
theorem szBS_nonneg : ∀ l, 0 ≤ szBS l
  | [] => by simp [szBS]
  | x :: r => by have := szBS_nonneg r; simp only [szBS]; omega
theorem laws_szStringS_l0 (l : List ByteArray) (hl : l.length ≤ 1048576) (hf : ∀ x ∈ l, x.size ≤ maxLen) : ∀ (d k i : Nat) (n : Int), l.length - i = d → i ≤ l.length → 0 ≤ n → n ≤ 1048576 → d < k →
    laws_szStringS.l0 k l n i = some (if n < szBS (l.drop i) then -1 else n - szBS (l.drop i)) := by
  intro d
  induction d with
  | zero =>
    intro k i n hd hi h0 h1 hk
    obtain ⟨k, rfl⟩ := succ_of hk
    simp only [laws_szStringS.l0]
    rw [if_neg (by omega), List.drop_eq_nil_of_le (by omega), szBS, if_neg (by omega)]; simp
  | succ d ih =>
    intro k i n hd hi h0 h1 hk
    obtain ⟨k, rfl⟩ := succ_of hk
    have hlt : i < l.length := by omega
    have hm := hf _ (List.getElem_mem hlt)
    unfold maxLen at hm
    have hr := szBS_nonneg (l.drop (i + 1))
    simp only [laws_szStringS.l0]
    rw [if_pos (by omega), if_pos (by omega), rd_B l i hlt, w64 (by omega), nat_round (n := l.length) hlt (by omega), drop_at hlt, szBS]
    by_cases c : n < (l[i].size : Int)
    · rw [if_pos (by omega), if_pos (by omega)]
    · rw [if_neg (by omega), ih k (i + 1) _ (by omega) (by omega) (by omega) (by omega) (by omega)]
      by_cases c2 : n - (l[i].size : Int) < szBS (l.drop (i + 1))
      · rw [if_pos c2, if_pos (by omega)]
      · rw [if_neg c2, if_neg (by omega)]; congr 1; omega
def leftBS (n : Int) (l : List ByteArray) : Int := if n < (l.length : Int) + szBS l then -1 else n - (l.length : Int) - szBS l
theorem laws_szStringS_f {k : Nat} {l : List ByteArray} {n : Int} (hl : l.length ≤ maxLen ∧ ∀ x ∈ l, x.size ≤ maxLen) (h0 : 0 ≤ n) (h1 : n ≤ 1048576) (hk : 1048577 < k) : laws_szStringS.f k l n = some (leftBS n l) := by
  obtain ⟨h2, h3⟩ := hl
  unfold maxLen at h2
  have hr := szBS_nonneg l
  unfold laws_szStringS.f leftBS
  rw [w64 (by omega)]
  split
  · rw [if_pos (by omega)]
  · have := laws_szStringS_l0 l (by omega) h3 l.length k 0 (n - l.length) (by omega) (by omega) (by omega) (by omega) (by omega)
    rw [show ((0 : Nat) : Int) = 0 from rfl, List.drop_zero] at this
    rw [this]
    by_cases c : n - (l.length : Int) < szBS l
    · rw [if_pos c, if_pos (by omega)]
    · rw [if_neg c, if_neg (by omega)]
theorem szBS_mem : ∀ {l : List ByteArray} {x}, x ∈ l → (x.size : Int) ≤ szBS l
  | y :: r, x, h => by
    simp only [szBS]
    have := szBS_nonneg r
    rcases List.mem_cons.1 h with rfl | h
    · omega
    · have := szBS_mem h; omega
theorem leftBS_nonneg {n : Int} {l : List ByteArray} (h : ¬ leftBS n l < 0) (hn : n ≤ 1048576) : 0 ≤ leftBS n l ∧ leftBS n l ≤ 1048576 ∧ l.length ≤ 1048576 ∧ ∀ x ∈ l, x.size ≤ 1048576 := by
  have hr := szBS_nonneg l
  unfold leftBS at h ⊢
  split at h
  · omega
  · rename_i c
    rw [if_neg c]
    refine ⟨by omega, by omega, by omega, fun x hx => ?_⟩
    have h1 := szBS_mem hx
    omega
theorem laws_toStringS_l0 (l : List ByteArray) (hl : l.length ≤ 1048576) : ∀ (d k i : Nat) (pre rest : List ByteArray), l.length - i = d → i ≤ l.length → pre.length = i → rest.length = d → d < k →
    laws_toStringS.l0 k l (pre ++ rest) i = some (pre ++ l.drop i) := by
  intro d
  induction d with
  | zero =>
    intro k i pre rest hd hi hp hr hk
    obtain ⟨k, rfl⟩ := succ_of hk
    simp only [laws_toStringS.l0]
    rw [if_neg (by omega), List.drop_eq_nil_of_le (by omega), List.eq_nil_of_length_eq_zero hr]
  | succ d ih =>
    intro k i pre rest hd hi hp hr hk
    obtain ⟨k, rfl⟩ := succ_of hk
    have hlt : i < l.length := by omega
    obtain ⟨y, rest, rfl⟩ : ∃ y r, rest = y :: r := by cases rest with | nil => simp at hr | cons y r => exact ⟨y, r, rfl⟩
    simp only [laws_toStringS.l0]
    rw [if_pos (by omega), if_pos (by omega), rd_B l i hlt, if_pos (by simp only [List.length_append, List.length_cons]; omega), nat_round (n := l.length) hlt (by omega), set_at' _ _ _ _ hp, drop_at hlt]
    have := ih k (i + 1) (pre ++ [l[i]]) rest (by omega) (by omega) (by simp [hp]) (by simpa using hr) (by omega)
    rw [List.append_assoc, List.append_assoc] at this
    exact this
theorem laws_toStringS_f {k : Nat} {l : List ByteArray} (hl : l.length ≤ 1048576) (hk : l.length < k) : laws_toStringS.f k l = some l := by
  unfold laws_toStringS.f
  rw [if_pos (by omega), Int.toNat_natCast, if_pos (by omega)]
  have := laws_toStringS_l0 l hl l.length k 0 [] (List.replicate l.length ⟨#[]⟩) (by omega) (by omega) rfl (by simp) hk
  simpa using this

end Go.Proofs.Ytdlgjhckmkmjhaa.Pure
