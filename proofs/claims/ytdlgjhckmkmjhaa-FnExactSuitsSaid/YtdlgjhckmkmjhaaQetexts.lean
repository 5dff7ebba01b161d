/- What the printed functions answer, in plain words: part e_texts of this session's lemmas. No condition of a statement lies here. -/
import Derived.Test.YtdlgjhckmkmjhaaAllx5
import Derived.Test.YtdlgjhckmkmjhaaAllx6
import Derived.Test.YtdlgjhckmkmjhaaQabase
import Derived.Test.YtdlgjhckmkmjhaaQcfield
namespace Go.Proofs.Ytdlgjhckmkmjhaa.Pure
open Go.RowKit Go.Proofs.Ytdlgjhckmkmjhaa.All Go.Proofs.YtdlgjhckmkmjhaaW.PrintWords Go.Proofs.YtdlgjhckmkmjhaaW.PrintLast
set_option linter.unusedVariables false
set_option linter.unusedSimpArgs false

theorem laws_eqStringS_l0 (l : List ByteArray) (hl : l.length ≤ 8796093022208) : ∀ (d k i : Nat), l.length - i = d → i ≤ l.length → d < k → laws_eqStringS.l0 k l l i = some true := by
  intro d
  induction d with
  | zero =>
    intro k i hd hi hk
    obtain ⟨k, rfl⟩ := succ_of hk
    simp only [laws_eqStringS.l0]
    rw [if_neg (by omega)]
  | succ d ih =>
    intro k i hd hi hk
    obtain ⟨k, rfl⟩ := succ_of hk
    simp only [laws_eqStringS.l0]
    rw [if_pos (by omega), if_pos (by omega), if_pos (by omega)]
    simp only [if_true]
    rw [nat_round (n := l.length) (by omega) (by omega)]
    exact ih k (i + 1) (by omega) (by omega) (by omega)
theorem laws_eqStringS_f {k : Nat} {l : List ByteArray} (hl : l.length ≤ 8796093022208) (hk : l.length < k) : laws_eqStringS.f k l l = some true := by
  unfold laws_eqStringS.f
  rw [if_pos rfl]
  exact laws_eqStringS_l0 l hl l.length k 0 (by omega) (by omega) hk
def markedB : Nat → Int → List ByteArray
  | 0, _ => []
  | n + 1, m => markT m :: markedB n (m + 1)
theorem markedB_length : ∀ n m, (markedB n m).length = n
  | 0, _ => rfl
  | n + 1, m => by simp [markedB, markedB_length n]
theorem laws_markStringS_l0 (rest : List ByteArray) : ∀ (k : Nat) (pre : List ByteArray) (m : Int), (pre.length : Int) + rest.length ≤ 8796093022208 → 0 ≤ m → m + rest.length ≤ 4611686018427387904 → rest.length + 100 < k →
    laws_markStringS.l0 k (pre ++ rest) m pre.length = some (m + rest.length, pre ++ markedB rest.length m) := by
  induction rest with
  | nil =>
    intro k pre m hl h0 hm hk
    obtain ⟨k, rfl⟩ := succ_of hk
    simp only [laws_markStringS.l0]
    rw [if_neg (by simp)]
    simp [markedB]
  | cons x rest ih =>
    intro k pre m hl h0 hm hk
    obtain ⟨k, rfl⟩ := succ_of hk
    simp only [List.length_cons] at hl hm hk
    have ih := ih k (pre ++ [markT m]) (m + 1) (by simp; omega) (by omega) (by omega) (by omega)
    simp only [laws_markStringS.l0]
    rw [if_pos (by simp; omega), laws_markText_f (by omega) (by omega), Option.bind_some, if_pos (by omega), set_at, w64 (n := m + 1) (by omega), w64 (by omega), show (pre.length : Int) + 1 = ((pre ++ [markT m]).length : Int) by simp]
    rw [List.append_assoc, List.append_assoc] at ih
    refine Eq.trans ih ?_
    simp only [List.length_cons, markedB]
    refine congrArg some (Prod.ext ?_ rfl)
    show m + 1 + (rest.length : Int) = m + ((rest.length + 1 : Nat) : Int)
    omega
theorem laws_markStringS_f {k : Nat} {l : List ByteArray} {m : Int} (hl : (l.length : Int) ≤ 8796093022208) (h0 : 0 ≤ m) (hm : m ≤ 281474976710656) (hk : l.length + 100 < k) : laws_markStringS.f k l m = some (m + l.length, markedB l.length m) := by
  have := laws_markStringS_l0 l k [] m (by simpa using hl) h0 (by omega) hk
  simpa [laws_markStringS.f] using this
theorem laws_heldStringS_l0 (l : List ByteArray) (hl : (l.length : Int) ≤ 8796093022208) : ∀ (d k i : Nat) (m : Int), l.drop i = markedB d m → i + d = l.length → 0 ≤ m → m + d ≤ 4611686018427387904 → d + 100 < k →
    laws_heldStringS.l0 k l m i = some (m + d) := by
  intro d
  induction d with
  | zero =>
    intro k i m hd hi h0 hm hk
    obtain ⟨k, rfl⟩ := succ_of hk
    simp only [laws_heldStringS.l0]
    rw [if_neg (by omega)]; simp
  | succ d ih =>
    intro k i m hd hi h0 hm hk
    obtain ⟨k, rfl⟩ := succ_of hk
    have hlt : i < l.length := by omega
    rw [drop_at hlt] at hd
    simp only [markedB, List.cons.injEq] at hd
    obtain ⟨h1, h2⟩ := hd
    simp only [laws_heldStringS.l0]
    rw [if_pos (by omega), if_pos (by omega), rd_B l i hlt, h1, laws_markText_f (by omega) (by omega), Option.bind_some, if_pos rfl, w64 (n := m + 1) (by omega), nat_round (n := l.length) hlt (by omega),
      ih k (i + 1) (m + 1) h2 (by omega) (by omega) (by omega) (by omega)]
    congr 1; omega
theorem laws_heldStringS_f {k n : Nat} {m : Int} (hl : (n : Int) ≤ 8796093022208) (h0 : 0 ≤ m) (hm : m ≤ 281474976710656) (hk : n + 100 < k) : laws_heldStringS.f k (markedB n m) m = some (m + n) := by
  unfold laws_heldStringS.f
  exact laws_heldStringS_l0 _ (by rw [markedB_length]; exact hl) n k 0 m (by simp) (by rw [markedB_length]; omega) h0 (by omega) hk

end Go.Proofs.Ytdlgjhckmkmjhaa.Pure
