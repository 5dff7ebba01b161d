/- What the printed functions answer, in plain words: part c_field of this session's lemmas. No condition of a statement lies here. -/
import Derived.Test.YtdlgjhckmkmjhaaDoorAllx0
import Derived.Test.YtdlgjhckmkmjhaaDoorAllx10
import Derived.Test.YtdlgjhckmkmjhaaDoorAllx12
import Derived.Test.YtdlgjhckmkmjhaaDoorAllx13
import Derived.Test.YtdlgjhckmkmjhaaDoorAllx6
import Derived.Test.YtdlgjhckmkmjhaaDoorAllx7
import Derived.Test.YtdlgjhckmkmjhaaDoorAllx8
import Derived.Test.YtdlgjhckmkmjhaaDoorQabase
namespace Go.Proofs.YtdlgjhckmkmjhaaDoor.Pure
open Go.RowKit Go.Proofs.YtdlgjhckmkmjhaaDoor.All Go.Proofs.YtdlgjhckmkmjhaaDoorW.PrintWords Go.Proofs.YtdlgjhckmkmjhaaDoorW.PrintLast
set_option linter.unusedVariables false
set_option linter.unusedSimpArgs false

/-! ### fields: what comes in, its size -/
def toF (x : S121) : S87 := ⟨x.f0, x.f1⟩
def szF (x : S121) : Int := x.f0.size + x.f1.size
theorem szF_nonneg (x : S121) : 0 ≤ szF x := by unfold szF; omega
def szFS : List S121 → Int
  | [] => 0
  | x :: r => szF x + szFS r
theorem szFS_nil : szFS [] = 0 := rfl
theorem szFS_cons (x : S121) (r : List S121) : szFS (x :: r) = szF x + szFS r := rfl
theorem szFS_nonneg : ∀ l, 0 ≤ szFS l
  | [] => by simp [szFS]
  | x :: r => by have := szF_nonneg x; have := szFS_nonneg r; simp only [szFS]; omega
def FitsF (x : S121) : Prop := x.f0.size ≤ maxLen ∧ x.f1.size ≤ maxLen
theorem laws_szField_f {x : S121} {n : Int} (h : x.f0.size ≤ maxLen ∧ x.f1.size ≤ maxLen) (h0 : 0 ≤ n) (h1 : n ≤ 1048576) : laws_szField.f x.f0 x.f1 n = some (if n < szF x then -1 else n - szF x) := by
  unfold maxLen at h
  unfold laws_szField.f szF
  rw [w64 (by omega)]
  split
  · rw [if_pos (by omega)]
  · rw [w64 (by omega)]
    split
    · rw [if_pos (by omega)]
    · rw [if_neg (by omega)]; congr 1; omega
theorem laws_szFieldS_l0 (l : List S121) (hl : l.length ≤ 1048576) (hf : ∀ x ∈ l, x.f0.size ≤ maxLen ∧ x.f1.size ≤ maxLen) : ∀ (d k i : Nat) (n : Int), l.length - i = d → i ≤ l.length → 0 ≤ n → n ≤ 1048576 → d < k →
    laws_szFieldS.l0 k l n i = some (if n < szFS (l.drop i) then -1 else n - szFS (l.drop i)) := by
  intro d
  induction d with
  | zero =>
    intro k i n hd hi h0 h1 hk
    obtain ⟨k, rfl⟩ := succ_of hk
    simp only [laws_szFieldS.l0]
    rw [if_neg (by omega), List.drop_eq_nil_of_le (by omega), szFS_nil, if_neg (by omega)]; simp
  | succ d ih =>
    intro k i n hd hi h0 h1 hk
    obtain ⟨k, rfl⟩ := succ_of hk
    have hlt : i < l.length := by omega
    have hx : rd_T121 l (i : Int) = l[i] := by simp [rd_T121, List.getD, hlt]
    have hn := szF_nonneg l[i]
    have hr := szFS_nonneg (l.drop (i + 1))
    simp only [laws_szFieldS.l0]
    rw [if_pos (by omega), if_pos (by omega), hx, laws_szField_f (hf _ (List.getElem_mem hlt)) h0 h1, Option.bind_some, nat_round (n := l.length) hlt (by omega), drop_at hlt, szFS_cons]
    by_cases c : n < szF l[i]
    · rw [if_pos c, if_pos (by omega), if_pos (by omega)]
    · rw [if_neg c, if_neg (by omega), ih k (i + 1) _ (by omega) (by omega) (by omega) (by omega) (by omega)]
      by_cases c2 : n - szF l[i] < szFS (l.drop (i + 1))
      · rw [if_pos c2, if_pos (by omega)]
      · rw [if_neg c2, if_neg (by omega)]; congr 1; omega
/-- how much is left of n behind a list of fields -/
def leftFS (n : Int) (l : List S121) : Int := if n < (l.length : Int) + szFS l then -1 else n - (l.length : Int) - szFS l
theorem laws_szFieldS_f {k : Nat} {l : List S121} {n : Int} (hl : l.length ≤ maxLen ∧ ∀ x ∈ l, x.f0.size ≤ maxLen ∧ x.f1.size ≤ maxLen) (h0 : 0 ≤ n) (h1 : n ≤ 1048576) (hk : 1048577 < k) : laws_szFieldS.f k l n = some (leftFS n l) := by
  obtain ⟨h2, h3⟩ := hl
  unfold maxLen at h2
  have hr := szFS_nonneg l
  unfold laws_szFieldS.f leftFS
  rw [w64 (by omega)]
  split
  · rw [if_pos (by omega)]
  · have := laws_szFieldS_l0 l (by omega) h3 l.length k 0 (n - l.length) (by omega) (by omega) (by omega) (by omega) (by omega)
    rw [show ((0 : Nat) : Int) = 0 from rfl, List.drop_zero] at this
    rw [this]
    by_cases c : n - (l.length : Int) < szFS l
    · rw [if_pos c, if_pos (by omega)]
    · rw [if_neg c, if_neg (by omega)]
theorem szFS_mem : ∀ {l : List S121} {x}, x ∈ l → szF x ≤ szFS l
  | y :: r, x, h => by
    simp only [szFS]
    have := szFS_nonneg r
    have := szF_nonneg y
    rcases List.mem_cons.1 h with rfl | h
    · omega
    · have := szFS_mem h; omega
theorem leftFS_nonneg {n : Int} {l : List S121} (h : ¬ leftFS n l < 0) (hn : n ≤ 1048576) : 0 ≤ leftFS n l ∧ leftFS n l ≤ 1048576 ∧ l.length ≤ 1048576 ∧ ∀ x ∈ l, x.f0.size ≤ 1048576 ∧ x.f1.size ≤ 1048576 := by
  have hr := szFS_nonneg l
  unfold leftFS at h ⊢
  split at h
  · omega
  · rename_i c
    rw [if_neg c]
    refine ⟨by omega, by omega, by omega, fun x hx => ?_⟩
    have h1 := szFS_mem hx
    unfold szF at h1
    omega
theorem laws_toFieldS_l0 (l : List S121) (hl : l.length ≤ 1048576) : ∀ (d k i : Nat) (pre rest : List S87), l.length - i = d → i ≤ l.length → pre.length = i → rest.length = d → d < k →
    laws_toFieldS.l0 k l (pre ++ rest) i = some (pre ++ (l.drop i).map toF) := by
  intro d
  induction d with
  | zero =>
    intro k i pre rest hd hi hp hr hk
    obtain ⟨k, rfl⟩ := succ_of hk
    simp only [laws_toFieldS.l0]
    rw [if_neg (by omega), List.drop_eq_nil_of_le (by omega), List.eq_nil_of_length_eq_zero hr]; simp
  | succ d ih =>
    intro k i pre rest hd hi hp hr hk
    obtain ⟨k, rfl⟩ := succ_of hk
    have hlt : i < l.length := by omega
    have hx : rd_T121 l (i : Int) = l[i] := by simp [rd_T121, List.getD, hlt]
    obtain ⟨y, rest, rfl⟩ : ∃ y r, rest = y :: r := by cases rest with | nil => simp at hr | cons y r => exact ⟨y, r, rfl⟩
    simp only [laws_toFieldS.l0]
    rw [if_pos (by omega), if_pos (by omega), hx]
    simp only [laws_toField.f, Option.bind_some]
    rw [if_pos (by simp only [List.length_append, List.length_cons]; omega), nat_round (n := l.length) hlt (by omega), Int.toNat_natCast, List.set_append_right _ _ (by omega), hp, Nat.sub_self, List.set_cons_zero, drop_at hlt]
    have := ih k (i + 1) (pre ++ [toF l[i]]) rest (by omega) (by omega) (by simp [hp]) (by simpa using hr) (by omega)
    rw [List.append_assoc, List.append_assoc] at this
    rw [List.map_cons]
    exact this
theorem laws_toFieldS_f {k : Nat} {l : List S121} (hl : l.length ≤ 1048576) (hk : l.length < k) : laws_toFieldS.f k l = some (l.map toF) := by
  unfold laws_toFieldS.f
  rw [if_pos (by omega), Int.toNat_natCast, if_pos (by omega)]
  have := laws_toFieldS_l0 l hl l.length k 0 [] (List.replicate l.length z87) (by omega) (by omega) rfl (by simp) hk
  simpa using this
theorem laws_eqFieldS_l0 (l : List S87) (hl : l.length ≤ 4398046511104) : ∀ (d k i : Nat), l.length - i = d → i ≤ l.length → d < k → laws_eqFieldS.l0 k l l i = some true := by
  intro d
  induction d with
  | zero =>
    intro k i hd hi hk
    obtain ⟨k, rfl⟩ := succ_of hk
    simp only [laws_eqFieldS.l0]
    rw [if_neg (by omega)]
  | succ d ih =>
    intro k i hd hi hk
    obtain ⟨k, rfl⟩ := succ_of hk
    simp only [laws_eqFieldS.l0]
    rw [if_pos (by omega), if_pos (by omega)]
    simp only [laws_eqField.f, if_true, Option.bind_some]
    try rw [if_pos (by omega)]
    rw [nat_round (n := l.length) (by omega) (by omega)]
    exact ih k (i + 1) (by omega) (by omega) (by omega)
theorem laws_eqFieldS_f {k : Nat} {l : List S87} (hl : l.length ≤ 4398046511104) (hk : l.length < k) : laws_eqFieldS.f k l l = some true := by
  unfold laws_eqFieldS.f
  rw [if_pos rfl]
  exact laws_eqFieldS_l0 l hl l.length k 0 (by omega) (by omega) hk
/-! ### marks -/
theorem laws_markText_l0 : ∀ (d k : Nat) (n : Int) (acc : ByteArray), n < 10 ^ d → acc.size + d ≤ 1000 → d < k → ∃ t, laws_markText.l0 k n acc = some t := by
  intro d
  induction d with
  | zero =>
    intro k n acc hn ha hk
    obtain ⟨k, rfl⟩ := succ_of hk
    simp only [laws_markText.l0]
    rw [if_neg (by simp at hn; omega), if_pos (by omega)]
    exact ⟨_, rfl⟩
  | succ d ih =>
    intro k n acc hn ha hk
    obtain ⟨k, rfl⟩ := succ_of hk
    simp only [laws_markText.l0, Option.bind_some]
    split
    · rename_i h
      rw [if_pos (by rw [strOfNums_size]; simp; omega)]
      refine ih k _ _ ?_ ?_ (by omega)
      · rw [Int.tdiv_eq_ediv_of_nonneg (by omega)]
        have : (10 : Int) ^ (d + 1) = 10 ^ d * 10 := rfl
        have hdiv : n / 10 < 10 ^ d := by omega
        unfold wrap64
        have : n / 10 ≤ n := by omega
        have h3 : 0 ≤ n / 10 := by omega
        by_cases hb : n / 10 ≤ 9223372036854775807
        · omega
        · have : (0 : Int) < 10 ^ d := by omega
          omega
      · rw [ByteArray.size_append, strOfNums_size]; simp; omega
    · rw [if_pos (by omega)]
      exact ⟨_, rfl⟩
def markT (n : Int) : ByteArray := (laws_markText.f 100 n).getD ⟨#[]⟩
theorem laws_markText_f {k : Nat} {n : Int} (hn : n ≤ 9223372036854775807) (hk : 100 ≤ k) : laws_markText.f k n = some (markT n) := by
  obtain ⟨t, ht⟩ : ∃ t, laws_markText.f 100 n = some t := by
    unfold laws_markText.f
    split
    · exact ⟨_, rfl⟩
    · exact laws_markText_l0 20 100 n _ (by omega) (by decide) (by omega)
  rw [at_rounds (g := fun k => laws_markText.f k n) (fun k => laws_markText.mono n k) hk ht]
  unfold markT; rw [ht]; rfl
def markedF : Nat → Int → List S87
  | 0, _ => []
  | n + 1, m => ⟨markT m, markT (m + 1)⟩ :: markedF n (m + 2)
theorem markedF_length : ∀ n m, (markedF n m).length = n
  | 0, _ => rfl
  | n + 1, m => by simp [markedF, markedF_length n]
theorem laws_markFieldS_l0 (rest : List S87) : ∀ (k : Nat) (pre : List S87) (m : Int), (pre.length : Int) + rest.length ≤ 4398046511104 → 0 ≤ m → m + 2 * rest.length ≤ 4611686018427387904 → rest.length + 100 < k →
    laws_markFieldS.l0 k (pre ++ rest) m pre.length = some (m + 2 * rest.length, pre ++ markedF rest.length m) := by
  induction rest with
  | nil =>
    intro k pre m hl h0 hm hk
    obtain ⟨k, rfl⟩ := succ_of hk
    simp only [laws_markFieldS.l0]
    rw [if_neg (by simp)]
    simp [markedF]
  | cons x rest ih =>
    intro k pre m hl h0 hm hk
    obtain ⟨k, rfl⟩ := succ_of hk
    simp only [List.length_cons] at hl hm hk
    have ih := ih k (pre ++ [⟨markT m, markT (m + 1)⟩]) (m + 2) (by simp; omega) (by omega) (by omega) (by omega)
    have hr : ∀ y : S87, rd_T87 (pre ++ y :: rest) (pre.length : Int) = y := fun y => by simp [rd_T87, List.getD]
    have hs : ∀ y z : S87, (pre ++ y :: rest).set ((pre.length : Int)).toNat z = pre ++ z :: rest := fun y z => by rw [Int.toNat_natCast, List.set_append_right _ _ (by omega), Nat.sub_self, List.set_cons_zero]
    simp only [laws_markFieldS.l0]
    rw [if_pos (by simp; omega), laws_markText_f (by omega) (by omega), Option.bind_some, if_pos (by omega), Option.bind_some, hr, hs, w64 (by omega), laws_markText_f (by omega) (by omega), Option.bind_some, hr, hs, w64 (by omega), w64 (by omega)]
    rw [show m + 1 + 1 = m + 2 by omega, show (pre.length : Int) + 1 = ((pre ++ [(⟨markT m, markT (m + 1)⟩ : S87)]).length : Int) by simp]
    rw [List.append_assoc, List.append_assoc] at ih
    refine Eq.trans ih ?_
    simp only [List.length_cons, markedF]
    refine congrArg some (Prod.ext ?_ rfl)
    show m + 2 + 2 * (rest.length : Int) = m + 2 * ((rest.length + 1 : Nat) : Int)
    omega
theorem laws_markFieldS_f {k : Nat} {l : List S87} {m : Int} (hl : (l.length : Int) ≤ 4398046511104) (h0 : 0 ≤ m) (hm : m ≤ 281474976710656) (hk : l.length + 100 < k) : laws_markFieldS.f k l m = some (m + 2 * l.length, markedF l.length m) := by
  have := laws_markFieldS_l0 l k [] m (by simpa using hl) h0 (by omega) hk
  simpa [laws_markFieldS.f] using this
theorem laws_heldFieldS_l0 (l : List S87) (hl : (l.length : Int) ≤ 4398046511104) : ∀ (d k i : Nat) (m : Int), l.drop i = markedF d m → i + d = l.length → 0 ≤ m → m + 2 * d ≤ 4611686018427387904 → d + 100 < k →
    laws_heldFieldS.l0 k l m i = some (m + 2 * d) := by
  intro d
  induction d with
  | zero =>
    intro k i m hd hi h0 hm hk
    obtain ⟨k, rfl⟩ := succ_of hk
    simp only [laws_heldFieldS.l0]
    rw [if_neg (by omega)]; simp
  | succ d ih =>
    intro k i m hd hi h0 hm hk
    obtain ⟨k, rfl⟩ := succ_of hk
    have hlt : i < l.length := by omega
    rw [drop_at hlt] at hd
    simp only [markedF, List.cons.injEq] at hd
    obtain ⟨h1, h2⟩ := hd
    have hx : rd_T87 l (i : Int) = l[i] := by simp [rd_T87, List.getD, hlt]
    simp only [laws_heldFieldS.l0]
    rw [if_pos (by omega), if_pos (by omega), hx, h1, laws_markText_f (by omega) (by omega), Option.bind_some, if_pos rfl, w64 (n := m + 1) (by omega), laws_markText_f (by omega) (by omega), Option.bind_some, if_pos rfl, w64 (by omega), nat_round (n := l.length) hlt (by omega),
      show m + 1 + 1 = m + 2 by omega, ih k (i + 1) (m + 2) h2 (by omega) (by omega) (by omega) (by omega)]
    congr 1; omega
theorem laws_heldFieldS_f {k n : Nat} {m : Int} (hl : (n : Int) ≤ 4398046511104) (h0 : 0 ≤ m) (hm : m ≤ 281474976710656) (hk : n + 100 < k) : laws_heldFieldS.f k (markedF n m) m = some (m + 2 * n) := by
  unfold laws_heldFieldS.f
  exact laws_heldFieldS_l0 _ (by rw [markedF_length]; exact hl) n k 0 m (by simp) (by rw [markedF_length]; omega) h0 (by omega) hk
theorem leftFS_size {n : Int} {l : List S121} (h : ¬ leftFS n l < 0) : leftFS n l = n - l.length - szFS l ∧ (l.length : Int) + szFS l ≤ n := by
  unfold leftFS at h ⊢
  split
  · rename_i c; rw [if_pos c] at h; omega
  · omega

end Go.Proofs.YtdlgjhckmkmjhaaDoor.Pure
