/- What the printed functions answer, in plain words: part e_ints of this session's lemmas. No condition of a statement lies here. -/
import Derived.Test.YtdlgjhckmkmjhaaAllx5
import Derived.Test.YtdlgjhckmkmjhaaQabase
namespace Go.Proofs.Ytdlgjhckmkmjhaa.Pure
open Go.RowKit Go.Proofs.Ytdlgjhckmkmjhaa.All Go.Proofs.YtdlgjhckmkmjhaaW.PrintWords Go.Proofs.YtdlgjhckmkmjhaaW.PrintLast
set_option linter.unusedVariables false
set_option linter.unusedSimpArgs false

theorem laws_toIntS_l0 (l : List Int) (hl : l.length ≤ 1048576) : ∀ (d k i : Nat) (pre rest : List Int), l.length - i = d → i ≤ l.length → pre.length = i → rest.length = d → d < k →
    laws_toIntS.l0 k l (pre ++ rest) i = some (pre ++ l.drop i) := by
  intro d
  induction d with
  | zero =>
    intro k i pre rest hd hi hp hr hk
    obtain ⟨k, rfl⟩ := succ_of hk
    simp only [laws_toIntS.l0]
    rw [if_neg (by omega), List.drop_eq_nil_of_le (by omega), List.eq_nil_of_length_eq_zero hr]
  | succ d ih =>
    intro k i pre rest hd hi hp hr hk
    obtain ⟨k, rfl⟩ := succ_of hk
    have hlt : i < l.length := by omega
    obtain ⟨y, rest, rfl⟩ : ∃ y r, rest = y :: r := by cases rest with | nil => simp at hr | cons y r => exact ⟨y, r, rfl⟩
    simp only [laws_toIntS.l0]
    rw [if_pos (by omega), if_pos (by omega), rd_I l i hlt, if_pos (by simp only [List.length_append, List.length_cons]; omega), nat_round (n := l.length) hlt (by omega), set_at' _ _ _ _ hp, drop_at hlt]
    have := ih k (i + 1) (pre ++ [l[i]]) rest (by omega) (by omega) (by simp [hp]) (by simpa using hr) (by omega)
    rw [List.append_assoc, List.append_assoc] at this
    exact this
theorem laws_toIntS_f {k : Nat} {l : List Int} (hl : l.length ≤ 1048576) (hk : l.length < k) : laws_toIntS.f k l = some l := by
  unfold laws_toIntS.f
  rw [if_pos (by omega), Int.toNat_natCast, if_pos (by omega)]
  have := laws_toIntS_l0 l hl l.length k 0 [] (List.replicate l.length 0) (by omega) (by omega) rfl (by simp) hk
  simpa using this
theorem laws_eqIntS_l0 (l : List Int) (hl : l.length ≤ 8796093022208) : ∀ (d k i : Nat), l.length - i = d → i ≤ l.length → d < k → laws_eqIntS.l0 k l l i = some true := by
  intro d
  induction d with
  | zero =>
    intro k i hd hi hk
    obtain ⟨k, rfl⟩ := succ_of hk
    simp only [laws_eqIntS.l0]
    rw [if_neg (by omega)]
  | succ d ih =>
    intro k i hd hi hk
    obtain ⟨k, rfl⟩ := succ_of hk
    simp only [laws_eqIntS.l0]
    rw [if_pos (by omega), if_pos (by omega), if_pos (by omega)]
    simp only [if_true]
    rw [nat_round (n := l.length) (by omega) (by omega)]
    exact ih k (i + 1) (by omega) (by omega) (by omega)
theorem laws_eqIntS_f {k : Nat} {l : List Int} (hl : l.length ≤ 8796093022208) (hk : l.length < k) : laws_eqIntS.f k l l = some true := by
  unfold laws_eqIntS.f
  rw [if_pos rfl]
  exact laws_eqIntS_l0 l hl l.length k 0 (by omega) (by omega) hk
def markedI : Nat → Int → List Int
  | 0, _ => []
  | n + 1, m => m :: markedI n (m + 1)
theorem laws_markIntS_l0 (rest : List Int) : ∀ (k : Nat) (pre : List Int) (m : Int), (pre.length : Int) + rest.length ≤ 8796093022208 → 0 ≤ m → m + rest.length ≤ 4611686018427387904 → rest.length < k →
    laws_markIntS.l0 k (pre ++ rest) m pre.length = some (m + rest.length, pre ++ markedI rest.length m) := by
  induction rest with
  | nil =>
    intro k pre m hl h0 hm hk
    obtain ⟨k, rfl⟩ := succ_of hk
    simp only [laws_markIntS.l0]
    rw [if_neg (by simp)]
    simp [markedI]
  | cons x rest ih =>
    intro k pre m hl h0 hm hk
    obtain ⟨k, rfl⟩ := succ_of hk
    simp only [List.length_cons] at hl hm hk
    have ih := ih k (pre ++ [m]) (m + 1) (by simp; omega) (by omega) (by omega) (by omega)
    simp only [laws_markIntS.l0]
    rw [if_pos (by simp; omega), if_pos (by omega), set_at, w64 (n := m + 1) (by omega), w64 (by omega), show (pre.length : Int) + 1 = ((pre ++ [m]).length : Int) by simp]
    rw [List.append_assoc, List.append_assoc] at ih
    refine Eq.trans ih ?_
    simp only [List.length_cons, markedI]
    refine congrArg some (Prod.ext ?_ rfl)
    show m + 1 + (rest.length : Int) = m + ((rest.length + 1 : Nat) : Int)
    omega
theorem laws_markIntS_f {k : Nat} {l : List Int} {m : Int} (hl : (l.length : Int) ≤ 8796093022208) (h0 : 0 ≤ m) (hm : m ≤ 281474976710656) (hk : l.length < k) : laws_markIntS.f k l m = some (m + l.length, markedI l.length m) := by
  have := laws_markIntS_l0 l k [] m (by simpa using hl) h0 (by omega) hk
  simpa [laws_markIntS.f] using this

end Go.Proofs.Ytdlgjhckmkmjhaa.Pure
