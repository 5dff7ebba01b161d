/- What the printed functions answer, in plain words: lemmas of this session. No condition of a statement lies here. -/
import Derived.Test.YtkgdcfaogdmcgaaDoorAllx0
import Derived.Test.YtkgdcfaogdmcgaaDoorAllx2
import Derived.Test.YtkgdcfaogdmcgaaDoorAllx22
import Derived.Test.YtkgdcfaogdmcgaaDoorAllx23
import Derived.Test.YtkgdcfaogdmcgaaDoorAllx5
import Derived.Test.YtkgdcfaogdmcgaaDoorQh7abdbcf7
import Derived.Test.YtkgdcfaogdmcgaaDoorQhd9272fe3
import Derived.Test.YtkgdcfaogdmcgaaDoorQhdb468905
namespace Go.Proofs.YtkgdcfaogdmcgaaDoor.Pure
open Go.RowKit Go.Proofs.YtkgdcfaogdmcgaaDoor.All Go.Proofs.YtkgdcfaogdmcgaaDoorW.PrintWords Go.Proofs.YtkgdcfaogdmcgaaDoorW.PrintLast
set_option linter.unusedVariables false
set_option linter.unusedSimpArgs false

theorem laws_szReq_f {k : Nat} {m : Int} {p b : ByteArray} {l : List S121} {n : Int} (hp : p.size ≤ maxLen) (hl : l.length ≤ maxLen ∧ ∀ x ∈ l, x.f0.size ≤ maxLen ∧ x.f1.size ≤ maxLen) (hb : b.size ≤ maxLen) (h0 : 0 ≤ n) (h1 : n ≤ 1048576) (hk : 1048577 < k) :
    ∃ r, laws_szReq.f k m p l b n = some r ∧ (r < 0 ∨ r ≤ n ∧ r ≤ 1048576 ∧ p.size ≤ 1048576 ∧ b.size ≤ 1048576 ∧ l.length ≤ 1048576 ∧ (∀ x ∈ l, x.f0.size ≤ 1048576 ∧ x.f1.size ≤ 1048576) ∧ r + p.size + b.size + l.length + szFS l = n) := by
  unfold maxLen at hp hb
  unfold laws_szReq.f
  rw [w64 (n := n - p.size) (by omega)]
  split
  · exact ⟨_, rfl, .inl (by omega)⟩
  · rename_i h
    rw [laws_szFieldS_f hl (by omega) (by omega) hk, Option.bind_some]
    split
    · exact ⟨_, rfl, .inl (by omega)⟩
    · rename_i h2
      obtain ⟨g1, g2, g3, g4⟩ := leftFS_nonneg h2 (by omega)
      have hr := szFS_nonneg l
      have g5 : leftFS (n - p.size) l ≤ n - p.size ∧ leftFS (n - p.size) l + l.length + szFS l = n - p.size := by
        unfold leftFS at h2 g1 ⊢; split
        · rename_i c; rw [if_pos c] at h2; omega
        · omega
      rw [w64 (by omega)]
      split
      · exact ⟨_, rfl, .inl (by omega)⟩
      · exact ⟨_, rfl, .inr ⟨by omega, by omega, by omega, by omega, g3, g4, by omega⟩⟩
theorem laws_toReq_f {k : Nat} {m : Int} {p b : ByteArray} {l : List S121} (hl : l.length ≤ 1048576) (hk : l.length < k) : laws_toReq.f k m p l b = some (m, p, l.map toF, b) := by
  unfold laws_toReq.f
  rw [laws_toFieldS_f hl hk, Option.bind_some]
theorem laws_eqReq_f {k : Nat} {m : Int} {p b : ByteArray} {l : List S84} (hl : l.length ≤ 4398046511104) (hk : l.length < k) : laws_eqReq.f k m p l b m p l b = some true := by
  unfold laws_eqReq.f
  rw [if_pos rfl, if_pos rfl, laws_eqFieldS_f hl hk, Option.bind_some, if_pos rfl, if_pos rfl]
/-! ### FieldsText, Drop, Short, ValuesOf, Same, Pieces, Suits -/
theorem fieldLines_length : ∀ l : List S84, ((fieldLines l).length : Int) = 4 * l.length + (l.map fun x => (x.f0.size : Int) + x.f1.size).foldr (· + ·) 0
  | [] => rfl
  | x :: r => by
    simp only [fieldLines, fieldLine, List.length_append, List.length_cons, List.map_cons, List.foldr_cons, data_length]
    have := fieldLines_length r
    simp only [List.length_nil]
    omega
theorem fieldLines_toF : ∀ l : List S121, ((fieldLines (l.map toF)).length : Int) = 4 * l.length + szFS l
  | [] => rfl
  | x :: r => by
    have := fieldLines_toF r
    simp only [List.map_cons, fieldLines, fieldLine, List.length_append, List.length_cons, data_length, szFS, szF, toF, List.length_nil] at this ⊢
    omega
theorem spec_FieldsText_l0 (l : List S84) (hl : (fieldLines l).length ≤ 1099511627776) (hn : (l.length : Int) ≤ 9223372036854775807) : ∀ (d k i : Nat) (acc : ByteArray), l.length - i = d → i ≤ l.length → B acc ++ fieldLines (l.drop i) = fieldLines l → d < k →
    spec_FieldsText.l0 k l acc i = some ⟨(fieldLines l).toArray⟩ := by
  intro d
  induction d with
  | zero =>
    intro k i acc hd hi ha hk
    obtain ⟨k, rfl⟩ := succ_of hk
    simp only [spec_FieldsText.l0]
    rw [List.drop_eq_nil_of_le (by omega), fieldLines, List.append_nil] at ha
    rw [if_neg (by omega), ← ha]
    exact congrArg some (B_ext (B_mk _).symm)
  | succ d ih =>
    intro k i acc hd hi ha hk
    obtain ⟨k, rfl⟩ := succ_of hk
    have hlt : i < l.length := by omega
    rw [drop_at hlt, fieldLines] at ha
    have hlen := congrArg List.length ha
    simp only [fieldLine, List.length_append, List.length_cons, List.length_nil, data_length, B_len] at hlen
    have ih := ih k (i + 1) (acc ++ l[i].f0 ++ ⟨#[58, 32]⟩ ++ l[i].f1 ++ ⟨#[13, 10]⟩) (by omega) (by omega) (by
      rw [← ha]
      simp only [B_append, fieldLine, List.append_assoc]
      rfl) (by omega)
    have s1 : (⟨#[58, 32]⟩ : ByteArray).size = 2 := rfl
    simp only [spec_FieldsText.l0]
    rw [if_pos (by omega), if_pos (by omega), rd_F l i hlt, nat_round (n := l.length) hlt hn, if_pos (by omega), if_pos (by simp only [ByteArray.size_append]; omega), if_pos (by simp only [ByteArray.size_append, s1]; omega), if_pos (by simp only [ByteArray.size_append, s1]; omega), ih]
theorem spec_FieldsText_f {k : Nat} {l : List S84} (hl : (fieldLines l).length ≤ 1099511627776) (hn : (l.length : Int) ≤ 9223372036854775807) (hk : l.length < k) : spec_FieldsText.f k l = some ⟨(fieldLines l).toArray⟩ := by
  have := spec_FieldsText_l0 l hl hn l.length k 0 ⟨#[]⟩ (by omega) (by omega) (by rw [List.drop_zero]; rfl) hk
  simpa [spec_FieldsText.f] using this
theorem impl_FieldsText_f {l : List S84} (hl : (fieldLines l).length ≤ 1099511627776) (hn : l.length < 4398046511104) : impl_FieldsText.f l = some ⟨(fieldLines l).toArray⟩ := by
  unfold impl_FieldsText.f
  rw [if_pos ⟨hn, hl⟩]
def reqB (m : Int) (p : ByteArray) (l : List S84) (b : ByteArray) : Bool := decide (1 ≤ m ∧ m ≤ 4) && (pathB p && (decide (b.size ≤ 120) && fieldsB l))
theorem spec_ReqOk_f {k K : Nat} {m : Int} {p : ByteArray} {l : List S84} {b : ByteArray} (hK : K < 4398046511104) (hp : p.size ≤ K) (hl : SmallF K l) (hk : 5 * K + 4 < k) : spec_ReqOk.f k m p l b = some (reqB m p l b) := by
  unfold spec_ReqOk.f reqB
  rw [spec_l1In_f, Option.bind_some]
  by_cases h : 1 ≤ m ∧ m ≤ 4
  · rw [if_pos (decide_eq_true h), decide_eq_true h, spec_l3Path_f (by omega) (by omega), Option.bind_some]
    cases pathB p
    · rfl
    rw [if_pos rfl, spec_FieldsOk_f hK hl hk, Option.bind_some, le120]
    cases fieldsB l <;> simp
  · rw [if_neg (by simpa using h), decide_eq_false h]; rfl
theorem impl_ReqOk_f {k K : Nat} {m : Int} {p : ByteArray} {l : List S84} {b : ByteArray} (hK : K < 4398046511104) (hp : p.size ≤ K) (hl : SmallF K l) (hk : 5 * K + 4 < k) : impl_ReqOk.f k m p l b = some (reqB m p l b) := by
  unfold impl_ReqOk.f reqB
  rw [impl_inRange_f, Option.bind_some]
  by_cases h : 1 ≤ m ∧ m ≤ 4
  · rw [if_pos (decide_eq_true h), decide_eq_true h, impl_pathOk_f (by omega) (by omega), Option.bind_some]
    cases pathB p
    · rfl
    rw [if_pos rfl]
    by_cases h2 : b.size ≤ 120
    · rw [if_pos (by omega), impl_FieldsOk_f hK hl hk, Option.bind_some, decide_eq_true h2]; rfl
    · rw [if_neg (by omega), decide_eq_false h2]; rfl
  · rw [if_neg (by simpa using h), decide_eq_false h]; rfl
/-- bytes as a text -/
def Tx (l : List UInt8) : ByteArray := ⟨l.toArray⟩
theorem B_Tx (l : List UInt8) : B (Tx l) = l := B_mk l
theorem Tx_B (s : ByteArray) : Tx (B s) = s := B_ext (B_Tx _)
theorem Tx_append (a b : List UInt8) : Tx (a ++ b) = Tx a ++ Tx b := B_ext (by rw [B_append, B_Tx, B_Tx, B_Tx])
theorem Tx_inj {a b : List UInt8} (h : Tx a = Tx b) : a = b := by rw [← B_Tx a, h, B_Tx]
theorem Tx_size (l : List UInt8) : (Tx l).size = l.length := by rw [← B_len, B_Tx]
/-! ### what right fields are like; texts of messages -/
theorem okFs_facts (l : List S84) : ∀ (r : List S84) (i : Nat), okFs l i r = true → l.length ≤ 8 ∧ ∀ x ∈ r, tokB x.f0 = true ∧ valB x.f1 = true ∧ lenName x.f0 = false
  | [], i, h => ⟨of_decide_eq_true h, fun x hx => by cases hx⟩
  | y :: r, i, h => by
    simp only [okFs, Bool.and_eq_true] at h
    obtain ⟨h1, h2, h3, _, h5⟩ := h
    obtain ⟨g1, g2⟩ := okFs_facts l r (i + 1) h5
    refine ⟨g1, fun x hx => ?_⟩
    rcases List.mem_cons.1 hx with rfl | hx
    · exact ⟨h1, h2, by simpa using h3⟩
    · exact g2 x hx
theorem val_size {s : ByteArray} (h : valB s = true) : 1 ≤ s.size ∧ s.size ≤ 60 := by
  unfold valB at h
  rw [Bool.and_eq_true, Bool.and_eq_true] at h
  exact of_decide_eq_true h.1.1
theorem tok_size {s : ByteArray} (h : tokB s = true) : 1 ≤ s.size ∧ s.size ≤ 20 := by
  unfold tokB at h
  rw [Bool.and_eq_true] at h
  exact of_decide_eq_true h.2
theorem fieldLines_le : ∀ l : List S84, (∀ x ∈ l, x.f0.size ≤ 20 ∧ x.f1.size ≤ 60) → (fieldLines l).length ≤ 84 * l.length
  | [], _ => Nat.zero_le _
  | x :: r, h => by
    have h1 := h x (by simp)
    have h2 := fieldLines_le r (fun y hy => h y (by simp [hy]))
    simp only [fieldLines, fieldLine, List.length_append, List.length_cons, List.length_nil, data_length]
    omega
theorem fieldsB_lines {l : List S84} (h : fieldsB l = true) : l.length ≤ 8 ∧ (fieldLines l).length ≤ 672 := by
  obtain ⟨h1, h2⟩ := okFs_facts l l 0 h
  have := fieldLines_le l (fun x hx => ⟨(tok_size (h2 x hx).1).2, (val_size (h2 x hx).2.1).2⟩)
  exact ⟨h1, by omega⟩
def linesT (l : List S84) : ByteArray := ⟨(fieldLines l).toArray⟩
theorem linesT_size (l : List S84) : (linesT l).size = (fieldLines l).length := by rw [← B_len]; unfold linesT; rw [B_mk (fieldLines l)]
theorem itoa_numT {n : Int} (h : 0 ≤ n ∧ n ≤ 1000000) : strconv_Itoa.f n = some (numT n) := by
  unfold strconv_Itoa.f numT
  rw [if_pos (by omega), if_pos h]
def methodT (m : Int) : ByteArray := if m = 1 then ⟨#[71, 69, 84]⟩ else if m = 2 then ⟨#[72, 69, 65, 68]⟩ else if m = 3 then ⟨#[80, 79, 83, 84]⟩ else ⟨#[80, 85, 82, 71, 69]⟩
def lenWord : List UInt8 := [99, 111, 110, 116, 101, 110, 116, 45, 108, 101, 110, 103, 116, 104, 58, 32]
def lenBytes (b : ByteArray) : List UInt8 := if b.toList = [] then [] else lenWord ++ (B (numT b.size) ++ [13, 10])
def reqBytes (m : Int) (p : ByteArray) (l : List S84) (b : ByteArray) : List UInt8 :=
  B (methodT m) ++ (32 :: (B p ++ ([32, 72, 84, 84, 80, 47, 49, 46, 49, 13, 10] ++ (fieldLines l ++ (lenBytes b ++ (13 :: 10 :: B b))))))
def reqText (m : Int) (p : ByteArray) (l : List S84) (b : ByteArray) : ByteArray := if reqB m p l b = true then Tx (reqBytes m p l b) else ⟨#[]⟩
theorem reqB_facts {m : Int} {p : ByteArray} {l : List S84} {b : ByteArray} (h : reqB m p l b = true) : (1 ≤ m ∧ m ≤ 4) ∧ pathB p = true ∧ b.size ≤ 120 ∧ fieldsB l = true := by
  unfold reqB at h
  simp only [Bool.and_eq_true] at h
  exact ⟨of_decide_eq_true h.1, h.2.1, of_decide_eq_true h.2.2.1, h.2.2.2⟩
theorem path_size {p : ByteArray} (h : pathB p = true) : 1 ≤ p.size ∧ p.size ≤ 60 := by
  unfold pathB at h
  simp only [Bool.and_eq_true, decide_eq_true_eq] at h
  omega
theorem methodT_size (m : Int) : (methodT m).size ≤ 5 := by
  unfold methodT
  repeat' (split <;> try exact Nat.le_of_ble_eq_true rfl)
theorem B_linesT (l : List S84) : B (linesT l) = fieldLines l := B_mk (fieldLines l)
theorem spec_ReqText_f {k K : Nat} {m : Int} {p : ByteArray} {l : List S84} {b : ByteArray} (hK : K < 4398046511104) (hp : p.size ≤ K) (hl : SmallF K l) (hk : 5 * K + 50 < k) : spec_ReqText.f k m p l b = some (reqText m p l b) := by
  unfold spec_ReqText.f reqText
  rw [spec_ReqOk_f hK hp hl (by omega), Option.bind_some]
  by_cases h : reqB m p l b = true
  · obtain ⟨h1, h2, h3, h6⟩ := reqB_facts h
    obtain ⟨h4, h5⟩ := fieldsB_lines h6
    have n2 := numT_size b.size
    have n3 := linesT_size l
    have n4 := path_size h2
    have hft : spec_FieldsText.f k l = some (linesT l) := spec_FieldsText_f (by omega) (by omega) (by omega)
    have hmt : methodW m = methodT m := rfl
    rw [if_pos h, if_pos h, if_pos ⟨h1, by omega, by omega⟩, hft, Option.bind_some, if_pos (by omega), hmt]
    by_cases hb : b.toList = []
    · rw [if_pos hb]
      refine congrArg some (B_ext ?_)
      simp only [reqBytes, lenBytes, if_pos hb, B_Tx, B_append, B_linesT, List.append_assoc]
      rfl
    · rw [if_neg hb, spec_NumText_f (by omega), Option.bind_some, if_pos (by omega)]
      refine congrArg some (B_ext ?_)
      simp only [reqBytes, lenBytes, if_neg hb, B_Tx, B_append, B_linesT, List.append_assoc]
      rfl
  · rw [if_neg h, if_neg h]
theorem impl_lengthLine_f {b : ByteArray} (h2 : b.size ≤ 1000000) : impl_lengthLine.f b = some (((⟨#[99, 111, 110, 116, 101, 110, 116, 45, 108, 101, 110, 103, 116, 104, 58, 32]⟩ : ByteArray) ++ numT b.size) ++ (⟨#[13, 10]⟩ : ByteArray)) := by
  have n2 := numT_size b.size
  have s3 : (⟨#[99, 111, 110, 116, 101, 110, 116, 45, 108, 101, 110, 103, 116, 104, 58, 32]⟩ : ByteArray).size = 16 := rfl
  unfold impl_lengthLine.f
  rw [itoa_numT (by omega), Option.bind_some, if_pos (by omega), if_pos (by simp only [ByteArray.size_append, s3]; omega)]
theorem impl_ReqText_f {k K : Nat} {m : Int} {p : ByteArray} {l : List S84} {b : ByteArray} (hK : K < 4398046511104) (hp : p.size ≤ K) (hl : SmallF K l) (hk : 5 * K + 50 < k) : impl_ReqText.f k m p l b = some (reqText m p l b) := by
  unfold impl_ReqText.f reqText
  rw [impl_ReqOk_f hK hp hl (by omega), Option.bind_some]
  by_cases h : reqB m p l b = true
  · obtain ⟨h1, h2, h3, h6⟩ := reqB_facts h
    obtain ⟨h4, h5⟩ := fieldsB_lines h6
    have n1 := methodT_size m
    have n2 := numT_size b.size
    have n3 := linesT_size l
    have n4 := path_size h2
    have s1 : (⟨#[32]⟩ : ByteArray).size = 1 := rfl
    have s2 : (⟨#[72, 84, 84, 80, 47, 49, 46, 49]⟩ : ByteArray).size = 8 := rfl
    have s3 : (⟨#[99, 111, 110, 116, 101, 110, 116, 45, 108, 101, 110, 103, 116, 104, 58, 32]⟩ : ByteArray).size = 16 := rfl
    have s4 : (⟨#[13, 10]⟩ : ByteArray).size = 2 := rfl
    have hft : impl_FieldsText.f l = some (linesT l) := impl_FieldsText_f (by omega) (by omega)
    have hmt : impl_methodText.f m = some (methodT m) := by
      have hm : m = 1 ∨ m = 2 ∨ m = 3 ∨ m = 4 := by omega
      rcases hm with e | e | e | e <;> subst e <;> rfl
    rw [if_pos h, if_pos h, hmt, Option.bind_some, if_pos (by omega), if_pos (by simp only [ByteArray.size_append, s1]; omega), if_pos (by simp only [ByteArray.size_append, s1]; omega), if_pos (by simp only [ByteArray.size_append, s1]; omega), if_pos (by simp only [ByteArray.size_append, s1, s2]; omega), hft, Option.bind_some,
      if_pos (by simp only [ByteArray.size_append, s1, s2, s4]; omega)]
    by_cases hb : b.toList = []
    · rw [if_pos hb, if_pos (by simp only [ByteArray.size_append, s1, s2, s4]; omega), if_pos (by simp only [ByteArray.size_append, s1, s2, s4]; omega)]
      refine congrArg some (B_ext ?_)
      simp only [reqBytes, lenBytes, if_pos hb, B_Tx, B_append, B_linesT, List.append_assoc]
      rfl
    · rw [if_neg hb, impl_lengthLine_f (by omega), Option.bind_some, if_pos (by simp only [ByteArray.size_append, s1, s2, s3, s4]; omega), if_pos (by simp only [ByteArray.size_append, s1, s2, s3, s4]; omega), if_pos (by simp only [ByteArray.size_append, s1, s2, s3, s4]; omega)]
      refine congrArg some (B_ext ?_)
      simp only [reqBytes, lenBytes, if_neg hb, B_Tx, B_append, B_linesT, List.append_assoc]
      rfl
  · rw [if_neg h, if_neg h]

end Go.Proofs.YtkgdcfaogdmcgaaDoor.Pure
