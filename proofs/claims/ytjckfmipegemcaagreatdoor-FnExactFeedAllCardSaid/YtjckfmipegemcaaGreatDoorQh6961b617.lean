/- What the printed functions answer, in plain words: lemmas of this session. No condition of a statement lies here. -/
import Derived.Test.YtjckfmipegemcaaGreatDoorAllx0
import Derived.Test.YtjckfmipegemcaaGreatDoorAllx17
import Derived.Test.YtjckfmipegemcaaGreatDoorQh333c0ef0
import Derived.Test.YtjckfmipegemcaaGreatDoorQh9403bd91
namespace Go.Proofs.YtjckfmipegemcaaGreatDoor.Pure
open Go.RowKit Go.Proofs.YtjckfmipegemcaaGreatDoor.All Go.Proofs.YtjckfmipegemcaaGreatDoorW.PrintWords Go.Proofs.YtjckfmipegemcaaGreatDoorW.PrintLast
set_option linter.unusedVariables false
set_option linter.unusedSimpArgs false

def szBS : List ByteArray → Int
  | [] => 0
  | x :: r => (x.size : Int) + szBS r
theorem szBS_nonneg : ∀ l, 0 ≤ szBS l
  | [] => by simp [szBS]
  | x :: r => by have := szBS_nonneg r; simp only [szBS]; omega
theorem laws_szStringS_l0 (l : List ByteArray) (hl : l.length ≤ 1048576) (hf : ∀ x ∈ l, x.size ≤ maxLen) : ∀ (d k i : Nat) (n : Int), l.length - i = d → i ≤ l.length → 0 ≤ n → n ≤ 1048576 → d < k →
    laws_szStringS.l0 k l n i = some (if n < szBS (l.drop i) then -1 else n - szBS (l.drop i)) := by
  intro d
  induction d with
  | zero =>
    intro k i n hd hi h0 h1 hk
    obtain ⟨k, rfl⟩ := succ_of hk
    simp only [laws_szStringS.l0]
    rw [if_neg (by omega), List.drop_eq_nil_of_le (by omega), szBS, if_neg (by omega)]; simp
  | succ d ih =>
    intro k i n hd hi h0 h1 hk
    obtain ⟨k, rfl⟩ := succ_of hk
    have hlt : i < l.length := by omega
    have hm := hf _ (List.getElem_mem hlt)
    unfold maxLen at hm
    have hr := szBS_nonneg (l.drop (i + 1))
    simp only [laws_szStringS.l0]
    rw [if_pos (by omega), if_pos (by omega), rd_B l i hlt, w64 (by omega), nat_round (n := l.length) hlt (by omega), drop_at hlt, szBS]
    by_cases c : n < (l[i].size : Int)
    · rw [if_pos (by omega), if_pos (by omega)]
    · rw [if_neg (by omega), ih k (i + 1) _ (by omega) (by omega) (by omega) (by omega) (by omega)]
      by_cases c2 : n - (l[i].size : Int) < szBS (l.drop (i + 1))
      · rw [if_pos c2, if_pos (by omega)]
      · rw [if_neg c2, if_neg (by omega)]; congr 1; omega
def leftBS (n : Int) (l : List ByteArray) : Int := if n < (l.length : Int) + szBS l then -1 else n - (l.length : Int) - szBS l
theorem laws_szStringS_f {k : Nat} {l : List ByteArray} {n : Int} (hl : l.length ≤ maxLen ∧ ∀ x ∈ l, x.size ≤ maxLen) (h0 : 0 ≤ n) (h1 : n ≤ 1048576) (hk : 1048577 < k) : laws_szStringS.f k l n = some (leftBS n l) := by
  obtain ⟨h2, h3⟩ := hl
  unfold maxLen at h2
  have hr := szBS_nonneg l
  unfold laws_szStringS.f leftBS
  rw [w64 (by omega)]
  split
  · rw [if_pos (by omega)]
  · have := laws_szStringS_l0 l (by omega) h3 l.length k 0 (n - l.length) (by omega) (by omega) (by omega) (by omega) (by omega)
    rw [show ((0 : Nat) : Int) = 0 from rfl, List.drop_zero] at this
    rw [this]
    by_cases c : n - (l.length : Int) < szBS l
    · rw [if_pos c, if_pos (by omega)]
    · rw [if_neg c, if_neg (by omega)]
theorem szBS_mem : ∀ {l : List ByteArray} {x}, x ∈ l → (x.size : Int) ≤ szBS l
  | y :: r, x, h => by
    simp only [szBS]
    have := szBS_nonneg r
    rcases List.mem_cons.1 h with rfl | h
    · omega
    · have := szBS_mem h; omega
theorem leftBS_nonneg {n : Int} {l : List ByteArray} (h : ¬ leftBS n l < 0) (hn : n ≤ 1048576) : 0 ≤ leftBS n l ∧ leftBS n l ≤ 1048576 ∧ l.length ≤ 1048576 ∧ ∀ x ∈ l, x.size ≤ 1048576 := by
  have hr := szBS_nonneg l
  unfold leftBS at h ⊢
  split at h
  · omega
  · rename_i c
    rw [if_neg c]
    refine ⟨by omega, by omega, by omega, fun x hx => ?_⟩
    have h1 := szBS_mem hx
    omega
theorem laws_toStringS_l0 (l : List ByteArray) (hl : l.length ≤ 1048576) : ∀ (d k i : Nat) (pre rest : List ByteArray), l.length - i = d → i ≤ l.length → pre.length = i → rest.length = d → d < k →
    laws_toStringS.l0 k l (pre ++ rest) i = some (pre ++ l.drop i) := by
  intro d
  induction d with
  | zero =>
    intro k i pre rest hd hi hp hr hk
    obtain ⟨k, rfl⟩ := succ_of hk
    simp only [laws_toStringS.l0]
    rw [if_neg (by omega), List.drop_eq_nil_of_le (by omega), List.eq_nil_of_length_eq_zero hr]
  | succ d ih =>
    intro k i pre rest hd hi hp hr hk
    obtain ⟨k, rfl⟩ := succ_of hk
    have hlt : i < l.length := by omega
    obtain ⟨y, rest, rfl⟩ : ∃ y r, rest = y :: r := by cases rest with | nil => simp at hr | cons y r => exact ⟨y, r, rfl⟩
    simp only [laws_toStringS.l0]
    rw [if_pos (by omega), if_pos (by omega), rd_B l i hlt, if_pos (by simp only [List.length_append, List.length_cons]; omega), nat_round (n := l.length) hlt (by omega), set_at' _ _ _ _ hp, drop_at hlt]
    have := ih k (i + 1) (pre ++ [l[i]]) rest (by omega) (by omega) (by simp [hp]) (by simpa using hr) (by omega)
    rw [List.append_assoc, List.append_assoc] at this
    exact this
theorem laws_toStringS_f {k : Nat} {l : List ByteArray} (hl : l.length ≤ 1048576) (hk : l.length < k) : laws_toStringS.f k l = some l := by
  unfold laws_toStringS.f
  rw [if_pos (by omega), Int.toNat_natCast, if_pos (by omega)]
  have := laws_toStringS_l0 l hl l.length k 0 [] (List.replicate l.length ⟨#[]⟩) (by omega) (by omega) rfl (by simp) hk
  simpa using this
theorem laws_eqStringS_l0 (l : List ByteArray) (hl : l.length ≤ 8796093022208) : ∀ (d k i : Nat), l.length - i = d → i ≤ l.length → d < k → laws_eqStringS.l0 k l l i = some true := by
  intro d
  induction d with
  | zero =>
    intro k i hd hi hk
    obtain ⟨k, rfl⟩ := succ_of hk
    simp only [laws_eqStringS.l0]
    rw [if_neg (by omega)]
  | succ d ih =>
    intro k i hd hi hk
    obtain ⟨k, rfl⟩ := succ_of hk
    simp only [laws_eqStringS.l0]
    rw [if_pos (by omega), if_pos (by omega), if_pos (by omega)]
    simp only [if_true]
    rw [nat_round (n := l.length) (by omega) (by omega)]
    exact ih k (i + 1) (by omega) (by omega) (by omega)
theorem laws_eqStringS_f {k : Nat} {l : List ByteArray} (hl : l.length ≤ 8796093022208) (hk : l.length < k) : laws_eqStringS.f k l l = some true := by
  unfold laws_eqStringS.f
  rw [if_pos rfl]
  exact laws_eqStringS_l0 l hl l.length k 0 (by omega) (by omega) hk
def markedB : Nat → Int → List ByteArray
  | 0, _ => []
  | n + 1, m => markT m :: markedB n (m + 1)
theorem markedB_length : ∀ n m, (markedB n m).length = n
  | 0, _ => rfl
  | n + 1, m => by simp [markedB, markedB_length n]
theorem laws_markStringS_l0 (rest : List ByteArray) : ∀ (k : Nat) (pre : List ByteArray) (m : Int), (pre.length : Int) + rest.length ≤ 8796093022208 → 0 ≤ m → m + rest.length ≤ 4611686018427387904 → rest.length + 100 < k →
    laws_markStringS.l0 k (pre ++ rest) m pre.length = some (m + rest.length, pre ++ markedB rest.length m) := by
  induction rest with
  | nil =>
    intro k pre m hl h0 hm hk
    obtain ⟨k, rfl⟩ := succ_of hk
    simp only [laws_markStringS.l0]
    rw [if_neg (by simp)]
    simp [markedB]
  | cons x rest ih =>
    intro k pre m hl h0 hm hk
    obtain ⟨k, rfl⟩ := succ_of hk
    simp only [List.length_cons] at hl hm hk
    have ih := ih k (pre ++ [markT m]) (m + 1) (by simp; omega) (by omega) (by omega) (by omega)
    simp only [laws_markStringS.l0]
    rw [if_pos (by simp; omega), laws_markText_f (by omega) (by omega), Option.bind_some, if_pos (by omega), set_at, w64 (n := m + 1) (by omega), w64 (by omega), show (pre.length : Int) + 1 = ((pre ++ [markT m]).length : Int) by simp]
    rw [List.append_assoc, List.append_assoc] at ih
    refine Eq.trans ih ?_
    simp only [List.length_cons, markedB]
    refine congrArg some (Prod.ext ?_ rfl)
    show m + 1 + (rest.length : Int) = m + ((rest.length + 1 : Nat) : Int)
    omega
theorem laws_markStringS_f {k : Nat} {l : List ByteArray} {m : Int} (hl : (l.length : Int) ≤ 8796093022208) (h0 : 0 ≤ m) (hm : m ≤ 281474976710656) (hk : l.length + 100 < k) : laws_markStringS.f k l m = some (m + l.length, markedB l.length m) := by
  have := laws_markStringS_l0 l k [] m (by simpa using hl) h0 (by omega) hk
  simpa [laws_markStringS.f] using this

end Go.Proofs.YtjckfmipegemcaaGreatDoor.Pure
