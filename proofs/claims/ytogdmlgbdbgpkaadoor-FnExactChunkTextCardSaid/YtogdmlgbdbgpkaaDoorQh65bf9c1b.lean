/- What the printed functions answer, in plain words: lemmas of this session. No condition of a statement lies here. -/
import Derived.Test.YtogdmlgbdbgpkaaDoorAllx0
import Derived.Test.YtogdmlgbdbgpkaaDoorAllx2
import Derived.Test.YtogdmlgbdbgpkaaDoorAllx4
import Derived.Test.YtogdmlgbdbgpkaaDoorQh870e5392
import Derived.Test.YtogdmlgbdbgpkaaDoorQhdcac6cf0
namespace Go.Proofs.YtogdmlgbdbgpkaaDoor.Pure
open Go.RowKit Go.Proofs.YtogdmlgbdbgpkaaDoor.All Go.Proofs.YtogdmlgbdbgpkaaDoorW.PrintWords Go.Proofs.YtogdmlgbdbgpkaaDoorW.PrintLast
set_option linter.unusedVariables false
set_option linter.unusedSimpArgs false

theorem spec_l1Min_f (a b : Int) : spec_l1Min.f a b = some (min a b) := by
  unfold spec_l1Min.f
  split <;> (congr 1; omega)
theorem spec_l1Max_f (a b : Int) : spec_l1Max.f a b = some (max a b) := by
  unfold spec_l1Max.f
  split <;> (congr 1; omega)
theorem laws_toIntS_l0 (l : List Int) (hl : l.length ≤ 1048576) : ∀ (d k i : Nat) (pre rest : List Int), l.length - i = d → i ≤ l.length → pre.length = i → rest.length = d → d < k →
    laws_toIntS.l0 k l (pre ++ rest) i = some (pre ++ l.drop i) := by
  intro d
  induction d with
  | zero =>
    intro k i pre rest hd hi hp hr hk
    obtain ⟨k, rfl⟩ := succ_of hk
    simp only [laws_toIntS.l0]
    rw [if_neg (by omega), List.drop_eq_nil_of_le (by omega), List.eq_nil_of_length_eq_zero hr]
  | succ d ih =>
    intro k i pre rest hd hi hp hr hk
    obtain ⟨k, rfl⟩ := succ_of hk
    have hlt : i < l.length := by omega
    obtain ⟨y, rest, rfl⟩ : ∃ y r, rest = y :: r := by cases rest with | nil => simp at hr | cons y r => exact ⟨y, r, rfl⟩
    simp only [laws_toIntS.l0]
    rw [if_pos (by omega), if_pos (by omega), rd_I l i hlt, if_pos (by simp only [List.length_append, List.length_cons]; omega), nat_round (n := l.length) hlt (by omega), set_at' _ _ _ _ hp, drop_at hlt]
    have := ih k (i + 1) (pre ++ [l[i]]) rest (by omega) (by omega) (by simp [hp]) (by simpa using hr) (by omega)
    rw [List.append_assoc, List.append_assoc] at this
    exact this
theorem laws_toIntS_f {k : Nat} {l : List Int} (hl : l.length ≤ 1048576) (hk : l.length < k) : laws_toIntS.f k l = some l := by
  unfold laws_toIntS.f
  rw [if_pos (by omega), Int.toNat_natCast, if_pos (by omega)]
  have := laws_toIntS_l0 l hl l.length k 0 [] (List.replicate l.length 0) (by omega) (by omega) rfl (by simp) hk
  simpa using this
theorem laws_eqIntS_l0 (l : List Int) (hl : l.length ≤ 8796093022208) : ∀ (d k i : Nat), l.length - i = d → i ≤ l.length → d < k → laws_eqIntS.l0 k l l i = some true := by
  intro d
  induction d with
  | zero =>
    intro k i hd hi hk
    obtain ⟨k, rfl⟩ := succ_of hk
    simp only [laws_eqIntS.l0]
    rw [if_neg (by omega)]
  | succ d ih =>
    intro k i hd hi hk
    obtain ⟨k, rfl⟩ := succ_of hk
    simp only [laws_eqIntS.l0]
    rw [if_pos (by omega), if_pos (by omega), if_pos (by omega)]
    simp only [if_true]
    rw [nat_round (n := l.length) (by omega) (by omega)]
    exact ih k (i + 1) (by omega) (by omega) (by omega)
theorem laws_eqIntS_f {k : Nat} {l : List Int} (hl : l.length ≤ 8796093022208) (hk : l.length < k) : laws_eqIntS.f k l l = some true := by
  unfold laws_eqIntS.f
  rw [if_pos rfl]
  exact laws_eqIntS_l0 l hl l.length k 0 (by omega) (by omega) hk
/-! ### ChunkText -/
theorem hexT_size (n : Int) : (hexT n).size ≤ 5 := by
  unfold hexT
  split
  · rw [Tx_size]; exact hexDs_len _ 4 (by omega)
  · exact Nat.zero_le _
theorem ck_step (acc p : ByteArray) : B ((((acc ++ hexT (p.size : Int)) ++ ⟨#[13, 10]⟩) ++ p) ++ ⟨#[13, 10]⟩) = B acc ++ partBytes p := by
  have h2 : B (⟨#[13, 10]⟩ : ByteArray) = [13, 10] := rfl
  have hh : B (hexT (p.size : Int)) = if p.size ≤ 1000000 then hexDs p.size else [] := by
    unfold hexT
    by_cases h : p.size ≤ 1000000
    · rw [if_pos (by omega), if_pos h, B_Tx, Int.toNat_natCast]
    · rw [if_neg (by omega), if_neg h]; rfl
  simp only [B_append, h2, hh, List.append_assoc]
  rfl
theorem ckBytes_le : ∀ (l : List Int) (b : ByteArray), (ckBytes l b).length ≤ 10 * b.size
  | [], b => by
    rw [ckBytes_nil]
    split
    · exact Nat.zero_le _
    · rename_i h
      have h1 := partBytes_len b
      have h2 : b.size ≠ 0 := fun e => h (by rw [toList_B]; exact List.eq_nil_of_length_eq_zero (by rw [B_len, e]))
      omega
  | s :: r, b => by
    rw [ckBytes_cons]
    split
    · exact ckBytes_le r b
    split
    · exact ckBytes_le r b
    · rename_i h1 h
      have h2 : b.size ≠ 0 := fun e => h (by rw [toList_B]; exact List.eq_nil_of_length_eq_zero (by rw [B_len, e]))
      have h3 := partBytes_len (b.extract 0 (min s (b.size : Int)).toNat)
      have h4 := ckBytes_le r (b.extract (min s (b.size : Int)).toNat b.size)
      rw [ByteArray.size_extract] at h3 h4
      rw [List.length_append]
      have h5 : 1 ≤ (min s (b.size : Int)).toNat := by omega
      omega
theorem spec_ChunkText_step {k : Nat} {s acc : ByteArray} {l : List Int} {o n i : Nat} (hs : s.size ≤ 1048576) (hn : 1 ≤ n) (ho : o + n ≤ s.size) (ha : acc.size ≤ 100000000) (hi : i ≤ 1048577) (hk : 30 < k) (r : Option ByteArray)
    (hr : spec_ChunkText.l0 k s l ((((acc ++ hexT ((s.extract o (o + n)).size : Int)) ++ (⟨#[13, 10]⟩ : ByteArray)) ++ s.extract o (o + n)) ++ (⟨#[13, 10]⟩ : ByteArray)) ((o + n : Nat) : Int) ((i + 1 : Nat) : Int) = r) :
    ((spec_Hex.f k (n : Int)).bind fun t112 => (if acc.size + t112.size ≤ 9223372036854775807 then (if (acc ++ t112).size + 2 ≤ 9223372036854775807 then (if 0 ≤ (o : Int) then (if (o : Int) ≤ (wrap64 ((o : Int) + (n : Int))) then (if (wrap64 ((o : Int) + (n : Int))) ≤ (s.size : Int) then (if ((acc ++ t112) ++ (⟨#[13, 10]⟩ : ByteArray)).size + (s.extract ((o : Int) : Int).toNat ((wrap64 ((o : Int) + (n : Int))) : Int).toNat).size ≤ 9223372036854775807 then (if (((acc ++ t112) ++ (⟨#[13, 10]⟩ : ByteArray)) ++ (s.extract ((o : Int) : Int).toNat ((wrap64 ((o : Int) + (n : Int))) : Int).toNat)).size + 2 ≤ 9223372036854775807 then (spec_ChunkText.l0 k s l ((((acc ++ t112) ++ (⟨#[13, 10]⟩ : ByteArray)) ++ (s.extract ((o : Int) : Int).toNat ((wrap64 ((o : Int) + (n : Int))) : Int).toNat)) ++ (⟨#[13, 10]⟩ : ByteArray)) (wrap64 ((o : Int) + (n : Int))) (wrap64 ((i : Int) + 1))) else (none)) else (none)) else (none)) else (none)) else (none)) else (none)) else (none))) = r := by
  have hz : (s.extract o (o + n)).size = n := by rw [ByteArray.size_extract]; omega
  have hx := hexT_size (n : Int)
  have s2 : (⟨#[13, 10]⟩ : ByteArray).size = 2 := rfl
  rw [spec_Hex_f hk, Option.bind_some, w64 (n := (o : Int) + (n : Int)) (by omega), w64 (n := (i : Int) + 1) (by omega), show ((o : Int) + (n : Int)) = ((o + n : Nat) : Int) by omega, Int.toNat_natCast, Int.toNat_natCast,
    if_pos (by omega), if_pos (by rw [ByteArray.size_append]; omega), if_pos (by omega), if_pos (by omega), if_pos (by omega), if_pos (by simp only [ByteArray.size_append, s2, hz]; omega), if_pos (by simp only [ByteArray.size_append, s2, hz]; omega), ← hr, hz]
  rfl
theorem spec_ChunkText_l0 (s : ByteArray) (l : List Int) (T : List UInt8) (htot : T.length ≤ 10 * s.size) (hs : s.size ≤ 1048576) (hl : l.length ≤ 1048576) : ∀ (d k i o : Nat) (acc : ByteArray), l.length + 1 = i + d → o ≤ s.size →
    B acc ++ (if i ≤ l.length then ckBytes (l.drop i) (s.extract o s.size) else []) = T → d + 60 < k → spec_ChunkText.l0 k s l acc o i = some (Tx (T ++ [48, 13, 10, 13, 10])) := by
  intro d
  induction d with
  | zero =>
    intro k i o acc hd ho he hk
    obtain ⟨k, rfl⟩ := succ_of (show 0 < k by omega)
    rw [if_neg (by omega), List.append_nil] at he
    have hsz : acc.size = T.length := by rw [← B_len, he]
    simp only [spec_ChunkText.l0]
    rw [if_neg (by omega), if_pos (by omega)]
    refine congrArg some (B_ext ?_)
    rw [B_append, he, B_Tx]; rfl
  | succ d ih =>
    intro k i o acc hd ho he hk
    obtain ⟨k, rfl⟩ := succ_of (show 0 < k by omega)
    have hi : i ≤ l.length := by omega
    rw [if_pos hi] at he
    have hsz : acc.size ≤ T.length := by rw [← B_len, ← he, List.length_append]; omega
    obtain ⟨m, hm⟩ : ∃ m, s.size = o + m := ⟨s.size - o, by omega⟩
    have q3 : acc.size ≤ 100000000 := Nat.le_trans hsz (Nat.le_trans htot (Nat.le_trans (Nat.mul_le_mul_left 10 hs) (Nat.le_of_ble_eq_true rfl)))
    have q4 : i ≤ 1048577 := Nat.le_trans hi (Nat.le_trans hl (Nat.le_of_ble_eq_true rfl))
    have q5 : 30 < k := by clear hsz htot q3 q4 he; omega
    have hb : (s.extract o s.size).size = m := by rw [ByteArray.size_extract]; omega
    have hi0 : (0 : Int) ≤ (i : Int) := Int.natCast_nonneg i
    have hr1 : wrap64 ((i : Int) + 1) = ((i + 1 : Nat) : Int) := by rw [w64 (by omega)]; omega
    have hw : wrap64 ((s.size : Int) - (o : Int)) = (m : Int) := by rw [w64 (by omega)]; omega
    have hx0 : ∀ n, (s.extract o s.size).extract 0 n = s.extract o (min (o + n) s.size) := fun n => by rw [ByteArray.extract_extract, Nat.add_zero]
    have hx1 : ∀ n, (s.extract o s.size).extract n (s.extract o s.size).size = s.extract (o + n) s.size := fun n => by rw [ByteArray.extract_extract, hb, show min (o + m) s.size = s.size by omega]
    simp only [spec_ChunkText.l0]
    rw [if_pos (by omega)]
    by_cases hlt : i < l.length
    · rw [if_pos (by omega), if_pos hi0, rd_I l i hlt, spec_l1Max_f, Option.bind_some, hw, spec_l1Min_f, Option.bind_some]
      rw [drop_at hlt, ckBytes_cons] at he
      by_cases hn : 0 < min (m : Int) (max l[i] 0)
      · obtain ⟨n, hn2⟩ : ∃ n : Nat, min (m : Int) (max l[i] 0) = n := ⟨(min (m : Int) (max l[i] 0)).toNat, by omega⟩
        have hmn : (min l[i] ((s.extract o s.size).size : Int)).toNat = n := by rw [hb]; omega
        have hne : ¬ (s.extract o s.size).toList = [] := fun e => by
          have := B_len (s.extract o s.size)
          rw [← toList_B, e, hb] at this
          simp at this; omega
        rw [if_neg (by omega), if_neg hne, hmn, hx0, hx1, show min (o + n) s.size = o + n by omega, ← List.append_assoc, ← ck_step] at he
        rw [hn2, if_pos (by omega)]
        refine spec_ChunkText_step hs (by omega) (by omega) q3 q4 q5 _ ?_
        exact ih k (i + 1) (o + n) _ (by omega) (by omega) (by rw [if_pos (by omega)]; exact he) (by omega)
      · rw [if_neg (by omega), hr1]
        refine ih k (i + 1) o acc (by omega) ho ?_ (by omega)
        rw [if_pos (by omega), ← he]
        congr 1
        by_cases h1 : l[i] < 1
        · rw [if_pos h1]
        · rw [if_neg h1, if_pos]
          rw [toList_B]; exact List.eq_nil_of_length_eq_zero (by rw [B_len, hb]; omega)
    · have hil : i = l.length := by omega
      rw [List.drop_eq_nil_of_le (by omega), ckBytes_nil] at he
      rw [if_neg (by omega), hw]
      by_cases hn : 0 < m
      · have hne : ¬ (s.extract o s.size).toList = [] := fun e => by
          have := B_len (s.extract o s.size)
          rw [← toList_B, e, hb] at this
          simp at this; omega
        rw [if_neg hne, ← ck_step] at he
        rw [if_pos (by omega)]
        have e1 : o + m = s.size := by omega
        refine spec_ChunkText_step (n := m) hs (by omega) (by omega) q3 q4 q5 _ ?_
        rw [e1]
        exact ih k (i + 1) s.size _ (by omega) (by omega) (by rw [if_neg (by omega), List.append_nil]; exact he) (by omega)
      · rw [if_neg (by omega), hr1]
        refine ih k (i + 1) o acc (by omega) ho ?_ (by omega)
        rw [if_neg (by omega), ← he]
        congr 1
        rw [if_pos]
        rw [toList_B]; exact List.eq_nil_of_length_eq_zero (by rw [B_len, hb]; omega)
theorem spec_ChunkText_f {k : Nat} {s : ByteArray} {l : List Int} (hs : s.size ≤ 1048576) (hl : l.length ≤ 1048576) (hk : l.length + 70 < k) : spec_ChunkText.f k s l = some (Tx (ckBytes l s ++ [48, 13, 10, 13, 10])) := by
  have := spec_ChunkText_l0 s l (ckBytes l s) (ckBytes_le l s) hs hl (l.length + 1) k 0 0 ⟨#[]⟩ (by omega) (by omega) (by rw [if_pos (by omega), extract_all0, List.drop_zero]; rfl) (by omega)
  exact this
theorem impl_ChunkText_f {s : ByteArray} {l : List Int} (hs : s.size ≤ 1048576) (hl : l.length ≤ 1048576) : impl_ChunkText.f s l = some (Tx (ckBytes l s ++ [48, 13, 10, 13, 10])) := by
  have := ckBytes_le l s
  unfold impl_ChunkText.f
  rw [if_pos ⟨by omega, by omega, by omega⟩]; rfl

end Go.Proofs.YtogdmlgbdbgpkaaDoor.Pure
