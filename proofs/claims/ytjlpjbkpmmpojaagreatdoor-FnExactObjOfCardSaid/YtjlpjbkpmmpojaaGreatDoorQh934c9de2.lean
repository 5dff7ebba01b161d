/- What the printed functions answer, in plain words: lemmas of this session. No condition of a statement lies here. -/
import Derived.Test.YtjlpjbkpmmpojaaGreatDoorAllx0
import Derived.Test.YtjlpjbkpmmpojaaGreatDoorAllx37
import Derived.Test.YtjlpjbkpmmpojaaGreatDoorQhd4f6af10
import Derived.Test.YtjlpjbkpmmpojaaGreatDoorQhf91f36e4
namespace Go.Proofs.YtjlpjbkpmmpojaaGreatDoor.Pure
open Go.RowKit Go.Proofs.YtjlpjbkpmmpojaaGreatDoor.All Go.Proofs.YtjlpjbkpmmpojaaGreatDoorW.PrintWords Go.Proofs.YtjlpjbkpmmpojaaGreatDoorW.PrintLast
set_option linter.unusedVariables false
set_option linter.unusedSimpArgs false

/-! ### fields: what comes in, its size -/
def toF (x : S163) : S116 := ⟨x.f0, x.f1⟩
def szF (x : S163) : Int := x.f0.size + x.f1.size
theorem szF_nonneg (x : S163) : 0 ≤ szF x := by unfold szF; omega
def szFS : List S163 → Int
  | [] => 0
  | x :: r => szF x + szFS r
theorem szFS_nil : szFS [] = 0 := rfl
theorem szFS_cons (x : S163) (r : List S163) : szFS (x :: r) = szF x + szFS r := rfl
theorem szFS_nonneg : ∀ l, 0 ≤ szFS l
  | [] => by simp [szFS]
  | x :: r => by have := szF_nonneg x; have := szFS_nonneg r; simp only [szFS]; omega
def FitsF (x : S163) : Prop := x.f0.size ≤ maxLen ∧ x.f1.size ≤ maxLen
theorem laws_szField_f {x : S163} {n : Int} (h : x.f0.size ≤ maxLen ∧ x.f1.size ≤ maxLen) (h0 : 0 ≤ n) (h1 : n ≤ 1048576) : laws_szField.f x.f0 x.f1 n = some (if n < szF x then -1 else n - szF x) := by
  unfold maxLen at h
  unfold laws_szField.f szF
  rw [w64 (by omega)]
  split
  · rw [if_pos (by omega)]
  · rw [w64 (by omega)]
    split
    · rw [if_pos (by omega)]
    · rw [if_neg (by omega)]; congr 1; omega
theorem laws_szFieldS_l0 (l : List S163) (hl : l.length ≤ 1048576) (hf : ∀ x ∈ l, x.f0.size ≤ maxLen ∧ x.f1.size ≤ maxLen) : ∀ (d k i : Nat) (n : Int), l.length - i = d → i ≤ l.length → 0 ≤ n → n ≤ 1048576 → d < k →
    laws_szFieldS.l0 k l n i = some (if n < szFS (l.drop i) then -1 else n - szFS (l.drop i)) := by
  intro d
  induction d with
  | zero =>
    intro k i n hd hi h0 h1 hk
    obtain ⟨k, rfl⟩ := succ_of hk
    simp only [laws_szFieldS.l0]
    rw [if_neg (by omega), List.drop_eq_nil_of_le (by omega), szFS_nil, if_neg (by omega)]; simp
  | succ d ih =>
    intro k i n hd hi h0 h1 hk
    obtain ⟨k, rfl⟩ := succ_of hk
    have hlt : i < l.length := by omega
    have hx : rd_T163 l (i : Int) = l[i] := by simp [rd_T163, List.getD, hlt]
    have hn := szF_nonneg l[i]
    have hr := szFS_nonneg (l.drop (i + 1))
    simp only [laws_szFieldS.l0]
    rw [if_pos (by omega), if_pos (by omega), hx, laws_szField_f (hf _ (List.getElem_mem hlt)) h0 h1, Option.bind_some, nat_round (n := l.length) hlt (by omega), drop_at hlt, szFS_cons]
    by_cases c : n < szF l[i]
    · rw [if_pos c, if_pos (by omega), if_pos (by omega)]
    · rw [if_neg c, if_neg (by omega), ih k (i + 1) _ (by omega) (by omega) (by omega) (by omega) (by omega)]
      by_cases c2 : n - szF l[i] < szFS (l.drop (i + 1))
      · rw [if_pos c2, if_pos (by omega)]
      · rw [if_neg c2, if_neg (by omega)]; congr 1; omega
/-- how much is left of n behind a list of fields -/
def leftFS (n : Int) (l : List S163) : Int := if n < (l.length : Int) + szFS l then -1 else n - (l.length : Int) - szFS l
theorem laws_szFieldS_f {k : Nat} {l : List S163} {n : Int} (hl : l.length ≤ maxLen ∧ ∀ x ∈ l, x.f0.size ≤ maxLen ∧ x.f1.size ≤ maxLen) (h0 : 0 ≤ n) (h1 : n ≤ 1048576) (hk : 1048577 < k) : laws_szFieldS.f k l n = some (leftFS n l) := by
  obtain ⟨h2, h3⟩ := hl
  unfold maxLen at h2
  have hr := szFS_nonneg l
  unfold laws_szFieldS.f leftFS
  rw [w64 (by omega)]
  split
  · rw [if_pos (by omega)]
  · have := laws_szFieldS_l0 l (by omega) h3 l.length k 0 (n - l.length) (by omega) (by omega) (by omega) (by omega) (by omega)
    rw [show ((0 : Nat) : Int) = 0 from rfl, List.drop_zero] at this
    rw [this]
    by_cases c : n - (l.length : Int) < szFS l
    · rw [if_pos c, if_pos (by omega)]
    · rw [if_neg c, if_neg (by omega)]
theorem szFS_mem : ∀ {l : List S163} {x}, x ∈ l → szF x ≤ szFS l
  | y :: r, x, h => by
    simp only [szFS]
    have := szFS_nonneg r
    have := szF_nonneg y
    rcases List.mem_cons.1 h with rfl | h
    · omega
    · have := szFS_mem h; omega
theorem leftFS_nonneg {n : Int} {l : List S163} (h : ¬ leftFS n l < 0) (hn : n ≤ 1048576) : 0 ≤ leftFS n l ∧ leftFS n l ≤ 1048576 ∧ l.length ≤ 1048576 ∧ ∀ x ∈ l, x.f0.size ≤ 1048576 ∧ x.f1.size ≤ 1048576 := by
  have hr := szFS_nonneg l
  unfold leftFS at h ⊢
  split at h
  · omega
  · rename_i c
    rw [if_neg c]
    refine ⟨by omega, by omega, by omega, fun x hx => ?_⟩
    have h1 := szFS_mem hx
    unfold szF at h1
    omega
theorem laws_toFieldS_l0 (l : List S163) (hl : l.length ≤ 1048576) : ∀ (d k i : Nat) (pre rest : List S116), l.length - i = d → i ≤ l.length → pre.length = i → rest.length = d → d < k →
    laws_toFieldS.l0 k l (pre ++ rest) i = some (pre ++ (l.drop i).map toF) := by
  intro d
  induction d with
  | zero =>
    intro k i pre rest hd hi hp hr hk
    obtain ⟨k, rfl⟩ := succ_of hk
    simp only [laws_toFieldS.l0]
    rw [if_neg (by omega), List.drop_eq_nil_of_le (by omega), List.eq_nil_of_length_eq_zero hr]; simp
  | succ d ih =>
    intro k i pre rest hd hi hp hr hk
    obtain ⟨k, rfl⟩ := succ_of hk
    have hlt : i < l.length := by omega
    have hx : rd_T163 l (i : Int) = l[i] := by simp [rd_T163, List.getD, hlt]
    obtain ⟨y, rest, rfl⟩ : ∃ y r, rest = y :: r := by cases rest with | nil => simp at hr | cons y r => exact ⟨y, r, rfl⟩
    simp only [laws_toFieldS.l0]
    rw [if_pos (by omega), if_pos (by omega), hx]
    simp only [laws_toField.f, Option.bind_some]
    rw [if_pos (by simp only [List.length_append, List.length_cons]; omega), nat_round (n := l.length) hlt (by omega), Int.toNat_natCast, List.set_append_right _ _ (by omega), hp, Nat.sub_self, List.set_cons_zero, drop_at hlt]
    have := ih k (i + 1) (pre ++ [toF l[i]]) rest (by omega) (by omega) (by simp [hp]) (by simpa using hr) (by omega)
    rw [List.append_assoc, List.append_assoc] at this
    rw [List.map_cons]
    exact this
theorem laws_toFieldS_f {k : Nat} {l : List S163} (hl : l.length ≤ 1048576) (hk : l.length < k) : laws_toFieldS.f k l = some (l.map toF) := by
  unfold laws_toFieldS.f
  rw [if_pos (by omega), Int.toNat_natCast, if_pos (by omega)]
  have := laws_toFieldS_l0 l hl l.length k 0 [] (List.replicate l.length z116) (by omega) (by omega) rfl (by simp) hk
  simpa using this
theorem laws_szReq_f {k : Nat} {m : Int} {p b : ByteArray} {l : List S163} {n : Int} (hp : p.size ≤ maxLen) (hl : l.length ≤ maxLen ∧ ∀ x ∈ l, x.f0.size ≤ maxLen ∧ x.f1.size ≤ maxLen) (hb : b.size ≤ maxLen) (h0 : 0 ≤ n) (h1 : n ≤ 1048576) (hk : 1048577 < k) :
    ∃ r, laws_szReq.f k m p l b n = some r ∧ (r < 0 ∨ r ≤ n ∧ r ≤ 1048576 ∧ p.size ≤ 1048576 ∧ b.size ≤ 1048576 ∧ l.length ≤ 1048576 ∧ (∀ x ∈ l, x.f0.size ≤ 1048576 ∧ x.f1.size ≤ 1048576) ∧ r + p.size + b.size + l.length + szFS l = n) := by
  unfold maxLen at hp hb
  unfold laws_szReq.f
  rw [w64 (n := n - p.size) (by omega)]
  split
  · exact ⟨_, rfl, .inl (by omega)⟩
  · rename_i h
    rw [laws_szFieldS_f hl (by omega) (by omega) hk, Option.bind_some]
    split
    · exact ⟨_, rfl, .inl (by omega)⟩
    · rename_i h2
      obtain ⟨g1, g2, g3, g4⟩ := leftFS_nonneg h2 (by omega)
      have hr := szFS_nonneg l
      have g5 : leftFS (n - p.size) l ≤ n - p.size ∧ leftFS (n - p.size) l + l.length + szFS l = n - p.size := by
        unfold leftFS at h2 g1 ⊢; split
        · rename_i c; rw [if_pos c] at h2; omega
        · omega
      rw [w64 (by omega)]
      split
      · exact ⟨_, rfl, .inl (by omega)⟩
      · exact ⟨_, rfl, .inr ⟨by omega, by omega, by omega, by omega, g3, g4, by omega⟩⟩
theorem laws_toReq_f {k : Nat} {m : Int} {p b : ByteArray} {l : List S163} (hl : l.length ≤ 1048576) (hk : l.length < k) : laws_toReq.f k m p l b = some (m, p, l.map toF, b) := by
  unfold laws_toReq.f
  rw [laws_toFieldS_f hl hk, Option.bind_some]
theorem laws_eqReq_f {k : Nat} {m : Int} {p b : ByteArray} {l : List S116} (hl : l.length ≤ 4398046511104) (hk : l.length < k) : laws_eqReq.f k m p l b m p l b = some true := by
  unfold laws_eqReq.f
  rw [if_pos rfl, if_pos rfl, laws_eqFieldS_f hl hk, Option.bind_some, if_pos rfl, if_pos rfl]
theorem laws_szResp_f {k : Nat} {m : Int} {b : ByteArray} {l : List S163} {n : Int} (hl : l.length ≤ maxLen ∧ ∀ x ∈ l, x.f0.size ≤ maxLen ∧ x.f1.size ≤ maxLen) (hb : b.size ≤ maxLen) (h0 : 0 ≤ n) (h1 : n ≤ 1048576) (hk : 1048577 < k) :
    ∃ r, laws_szResp.f k m l b n = some r ∧ (r < 0 ∨ r ≤ n ∧ r ≤ 1048576 ∧ b.size ≤ 1048576 ∧ l.length ≤ 1048576 ∧ (∀ x ∈ l, x.f0.size ≤ 1048576 ∧ x.f1.size ≤ 1048576) ∧ r + b.size + l.length + szFS l = n) := by
  unfold maxLen at hb
  unfold laws_szResp.f
  rw [laws_szFieldS_f hl (by omega) (by omega) hk, Option.bind_some]
  split
  · exact ⟨_, rfl, .inl (by omega)⟩
  · rename_i h2
    obtain ⟨g1, g2, g3, g4⟩ := leftFS_nonneg h2 (by omega)
    have hr := szFS_nonneg l
    have g5 : leftFS n l ≤ n ∧ leftFS n l + l.length + szFS l = n := by
      unfold leftFS at h2 g1 ⊢; split
      · rename_i c; rw [if_pos c] at h2; omega
      · omega
    rw [w64 (by omega)]
    split
    · exact ⟨_, rfl, .inl (by omega)⟩
    · exact ⟨_, rfl, .inr ⟨by omega, by omega, by omega, g3, g4, by omega⟩⟩
theorem laws_toResp_f {k : Nat} {m : Int} {b : ByteArray} {l : List S163} (hl : l.length ≤ 1048576) (hk : l.length < k) : laws_toResp.f k m l b = some (m, l.map toF, b) := by
  unfold laws_toResp.f
  rw [laws_toFieldS_f hl hk, Option.bind_some]
theorem SmallF.toF {K : Nat} {l : List S163} (hl : l.length ≤ K) (hx : ∀ x ∈ l, x.f0.size ≤ K ∧ x.f1.size ≤ K) : SmallF K (l.map toF) := by
  refine ⟨by simpa using hl, fun y hy => ?_⟩
  obtain ⟨x, hx', rfl⟩ := List.mem_map.1 hy
  exact hx x hx'
theorem laws_markReq_f {k : Nat} {m : Int} {p b : ByteArray} {l : List S116} {n : Int} (hl : (l.length : Int) ≤ 4398046511104) (h0 : 0 ≤ n) (hm : n ≤ 281474976710656) (hk : l.length + 100 < k) : laws_markReq.f k m p l b n = some (n + 2 * l.length, markedF l.length n) := by
  unfold laws_markReq.f
  rw [laws_markFieldS_f hl h0 hm hk, Option.bind_some]

end Go.Proofs.YtjlpjbkpmmpojaaGreatDoor.Pure
