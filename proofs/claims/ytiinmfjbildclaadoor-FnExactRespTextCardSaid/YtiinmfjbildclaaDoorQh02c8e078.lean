/- What the printed functions answer, in plain words: lemmas of this session. No condition of a statement lies here. -/
import Derived.Test.YtiinmfjbildclaaDoorAllx0
import Derived.Test.YtiinmfjbildclaaDoorAllx12
import Derived.Test.YtiinmfjbildclaaDoorAllx34
import Derived.Test.YtiinmfjbildclaaDoorAllx35
import Derived.Test.YtiinmfjbildclaaDoorQh0b793c2d
import Derived.Test.YtiinmfjbildclaaDoorQhc1e60fcd
import Derived.Test.YtiinmfjbildclaaDoorQhf9e67311
namespace Go.Proofs.YtiinmfjbildclaaDoor.Pure
open Go.RowKit Go.Proofs.YtiinmfjbildclaaDoor.All Go.Proofs.YtiinmfjbildclaaDoorW.PrintWords Go.Proofs.YtiinmfjbildclaaDoorW.PrintLast
set_option linter.unusedVariables false
set_option linter.unusedSimpArgs false

/-! ### FieldsText, Drop, Short, ValuesOf, Same, Pieces, Suits -/
theorem fieldLines_length : ∀ l : List S114, ((fieldLines l).length : Int) = 4 * l.length + (l.map fun x => (x.f0.size : Int) + x.f1.size).foldr (· + ·) 0
  | [] => rfl
  | x :: r => by
    simp only [fieldLines, fieldLine, List.length_append, List.length_cons, List.map_cons, List.foldr_cons, data_length]
    have := fieldLines_length r
    simp only [List.length_nil]
    omega
theorem fieldLines_toF : ∀ l : List S113, ((fieldLines (l.map toF)).length : Int) = 4 * l.length + szFS l
  | [] => rfl
  | x :: r => by
    have := fieldLines_toF r
    simp only [List.map_cons, fieldLines, fieldLine, List.length_append, List.length_cons, data_length, szFS, szF, toF, List.length_nil] at this ⊢
    omega
theorem spec_FieldsText_l0 (l : List S114) (hl : (fieldLines l).length ≤ 1099511627776) (hn : (l.length : Int) ≤ 9223372036854775807) : ∀ (d k i : Nat) (acc : ByteArray), l.length - i = d → i ≤ l.length → B acc ++ fieldLines (l.drop i) = fieldLines l → d < k →
    spec_FieldsText.l0 k l acc i = some ⟨(fieldLines l).toArray⟩ := by
  intro d
  induction d with
  | zero =>
    intro k i acc hd hi ha hk
    obtain ⟨k, rfl⟩ := succ_of hk
    simp only [spec_FieldsText.l0]
    rw [List.drop_eq_nil_of_le (by omega), fieldLines, List.append_nil] at ha
    rw [if_neg (by omega), ← ha]
    exact congrArg some (B_ext (B_mk _).symm)
  | succ d ih =>
    intro k i acc hd hi ha hk
    obtain ⟨k, rfl⟩ := succ_of hk
    have hlt : i < l.length := by omega
    rw [drop_at hlt, fieldLines] at ha
    have hlen := congrArg List.length ha
    simp only [fieldLine, List.length_append, List.length_cons, List.length_nil, data_length, B_len] at hlen
    have ih := ih k (i + 1) (acc ++ l[i].f0 ++ ⟨#[58, 32]⟩ ++ l[i].f1 ++ ⟨#[13, 10]⟩) (by omega) (by omega) (by
      rw [← ha]
      simp only [B_append, fieldLine, List.append_assoc]
      rfl) (by omega)
    have s1 : (⟨#[58, 32]⟩ : ByteArray).size = 2 := rfl
    simp only [spec_FieldsText.l0]
    rw [if_pos (by omega), if_pos (by omega), rd_F l i hlt, nat_round (n := l.length) hlt hn, if_pos (by omega), if_pos (by simp only [ByteArray.size_append]; omega), if_pos (by simp only [ByteArray.size_append, s1]; omega), if_pos (by simp only [ByteArray.size_append, s1]; omega), ih]
theorem spec_FieldsText_f {k : Nat} {l : List S114} (hl : (fieldLines l).length ≤ 1099511627776) (hn : (l.length : Int) ≤ 9223372036854775807) (hk : l.length < k) : spec_FieldsText.f k l = some ⟨(fieldLines l).toArray⟩ := by
  have := spec_FieldsText_l0 l hl hn l.length k 0 ⟨#[]⟩ (by omega) (by omega) (by rw [List.drop_zero]; rfl) hk
  simpa [spec_FieldsText.f] using this
theorem impl_FieldsText_f {l : List S114} (hl : (fieldLines l).length ≤ 1099511627776) (hn : l.length < 4398046511104) : impl_FieldsText.f l = some ⟨(fieldLines l).toArray⟩ := by
  unfold impl_FieldsText.f
  rw [if_pos ⟨hn, hl⟩]
def respB (m : Int) (l : List S114) (b : ByteArray) : Bool := decide (100 ≤ m ∧ m ≤ 599) && (decide (b.size ≤ 120) && fieldsB l)
theorem le120 (b : ByteArray) : decide ((b.size : Int) ≤ 120) = decide (b.size ≤ 120) := decide_eq_decide.2 (by omega)
theorem spec_RespOk_f {k K : Nat} {m : Int} {l : List S114} {b : ByteArray} (hK : K < 4398046511104) (hl : SmallF K l) (hk : 5 * K + 4 < k) : spec_RespOk.f k m l b = some (respB m l b) := by
  unfold spec_RespOk.f respB
  rw [spec_l1In_f, Option.bind_some]
  by_cases h : 100 ≤ m ∧ m ≤ 599
  · rw [if_pos (decide_eq_true h), decide_eq_true h, spec_FieldsOk_f hK hl hk, Option.bind_some, le120]
    cases fieldsB l <;> simp
  · rw [if_neg (by simpa using h), decide_eq_false h]; rfl
theorem impl_RespOk_f {k K : Nat} {m : Int} {l : List S114} {b : ByteArray} (hK : K < 4398046511104) (hl : SmallF K l) (hk : 5 * K + 4 < k) : impl_RespOk.f k m l b = some (respB m l b) := by
  unfold impl_RespOk.f respB
  rw [impl_inRange_f, Option.bind_some]
  by_cases h : 100 ≤ m ∧ m ≤ 599
  · rw [if_pos (decide_eq_true h), decide_eq_true h]
    by_cases h2 : b.size ≤ 120
    · rw [if_pos (by omega), impl_FieldsOk_f hK hl hk, Option.bind_some, decide_eq_true h2]; rfl
    · rw [if_neg (by omega), decide_eq_false h2]; rfl
  · rw [if_neg (by simpa using h), decide_eq_false h]; rfl
/-! ### what right fields are like; texts of messages -/
theorem okFs_facts (l : List S114) : ∀ (r : List S114) (i : Nat), okFs l i r = true → l.length ≤ 8 ∧ ∀ x ∈ r, tokB x.f0 = true ∧ valB x.f1 = true ∧ lenName x.f0 = false
  | [], i, h => ⟨of_decide_eq_true h, fun x hx => by cases hx⟩
  | y :: r, i, h => by
    simp only [okFs, Bool.and_eq_true] at h
    obtain ⟨h1, h2, h3, _, h5⟩ := h
    obtain ⟨g1, g2⟩ := okFs_facts l r (i + 1) h5
    refine ⟨g1, fun x hx => ?_⟩
    rcases List.mem_cons.1 hx with rfl | hx
    · exact ⟨h1, h2, by simpa using h3⟩
    · exact g2 x hx
theorem val_size {s : ByteArray} (h : valB s = true) : 1 ≤ s.size ∧ s.size ≤ 60 := by
  unfold valB at h
  rw [Bool.and_eq_true, Bool.and_eq_true] at h
  exact of_decide_eq_true h.1.1
theorem tok_size {s : ByteArray} (h : tokB s = true) : 1 ≤ s.size ∧ s.size ≤ 20 := by
  unfold tokB at h
  rw [Bool.and_eq_true] at h
  exact of_decide_eq_true h.2
theorem fieldLines_le : ∀ l : List S114, (∀ x ∈ l, x.f0.size ≤ 20 ∧ x.f1.size ≤ 60) → (fieldLines l).length ≤ 84 * l.length
  | [], _ => Nat.zero_le _
  | x :: r, h => by
    have h1 := h x (by simp)
    have h2 := fieldLines_le r (fun y hy => h y (by simp [hy]))
    simp only [fieldLines, fieldLine, List.length_append, List.length_cons, List.length_nil, data_length]
    omega
theorem fieldsB_lines {l : List S114} (h : fieldsB l = true) : l.length ≤ 8 ∧ (fieldLines l).length ≤ 672 := by
  obtain ⟨h1, h2⟩ := okFs_facts l l 0 h
  have := fieldLines_le l (fun x hx => ⟨(tok_size (h2 x hx).1).2, (val_size (h2 x hx).2.1).2⟩)
  exact ⟨h1, by omega⟩
def linesT (l : List S114) : ByteArray := ⟨(fieldLines l).toArray⟩
theorem linesT_size (l : List S114) : (linesT l).size = (fieldLines l).length := by rw [← B_len]; unfold linesT; rw [B_mk (fieldLines l)]
theorem itoa_numT {n : Int} (h : 0 ≤ n ∧ n ≤ 1000000) : strconv_Itoa.f n = some (numT n) := by
  unfold strconv_Itoa.f numT
  rw [if_pos (by omega), if_pos h]

end Go.Proofs.YtiinmfjbildclaaDoor.Pure
