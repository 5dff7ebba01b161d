/- What the printed functions answer, in plain words: lemmas of this session. No condition of a statement lies here. -/
import Derived.Test.YtjlpjbkpmmpojaaGreatDoorAllx0
import Derived.Test.YtjlpjbkpmmpojaaGreatDoorAllx25
import Derived.Test.YtjlpjbkpmmpojaaGreatDoorAllx29
import Derived.Test.YtjlpjbkpmmpojaaGreatDoorQh157cdd32
import Derived.Test.YtjlpjbkpmmpojaaGreatDoorQh530b3981
namespace Go.Proofs.YtjlpjbkpmmpojaaGreatDoor.Pure
open Go.RowKit Go.Proofs.YtjlpjbkpmmpojaaGreatDoor.All Go.Proofs.YtjlpjbkpmmpojaaGreatDoorW.PrintWords Go.Proofs.YtjlpjbkpmmpojaaGreatDoorW.PrintLast
set_option linter.unusedVariables false
set_option linter.unusedSimpArgs false

/-! ### FieldsText, Drop, Short, ValuesOf, Same, Pieces, Suits -/
theorem fieldLines_length : ∀ l : List S116, ((fieldLines l).length : Int) = 4 * l.length + (l.map fun x => (x.f0.size : Int) + x.f1.size).foldr (· + ·) 0
  | [] => rfl
  | x :: r => by
    simp only [fieldLines, fieldLine, List.length_append, List.length_cons, List.map_cons, List.foldr_cons, data_length]
    have := fieldLines_length r
    simp only [List.length_nil]
    omega
theorem spec_FieldsText_l0 (l : List S116) (hl : (fieldLines l).length ≤ 1099511627776) (hn : (l.length : Int) ≤ 9223372036854775807) : ∀ (d k i : Nat) (acc : ByteArray), l.length - i = d → i ≤ l.length → B acc ++ fieldLines (l.drop i) = fieldLines l → d < k →
    spec_FieldsText.l0 k l acc i = some ⟨(fieldLines l).toArray⟩ := by
  intro d
  induction d with
  | zero =>
    intro k i acc hd hi ha hk
    obtain ⟨k, rfl⟩ := succ_of hk
    simp only [spec_FieldsText.l0]
    rw [List.drop_eq_nil_of_le (by omega), fieldLines, List.append_nil] at ha
    rw [if_neg (by omega), ← ha]
    exact congrArg some (B_ext (B_mk _).symm)
  | succ d ih =>
    intro k i acc hd hi ha hk
    obtain ⟨k, rfl⟩ := succ_of hk
    have hlt : i < l.length := by omega
    rw [drop_at hlt, fieldLines] at ha
    have hlen := congrArg List.length ha
    simp only [fieldLine, List.length_append, List.length_cons, List.length_nil, data_length, B_len] at hlen
    have ih := ih k (i + 1) (acc ++ l[i].f0 ++ ⟨#[58, 32]⟩ ++ l[i].f1 ++ ⟨#[13, 10]⟩) (by omega) (by omega) (by
      rw [← ha]
      simp only [B_append, fieldLine, List.append_assoc]
      rfl) (by omega)
    have s1 : (⟨#[58, 32]⟩ : ByteArray).size = 2 := rfl
    simp only [spec_FieldsText.l0]
    rw [if_pos (by omega), if_pos (by omega), rd_F l i hlt, nat_round (n := l.length) hlt hn, if_pos (by omega), if_pos (by simp only [ByteArray.size_append]; omega), if_pos (by simp only [ByteArray.size_append, s1]; omega), if_pos (by simp only [ByteArray.size_append, s1]; omega), ih]
theorem spec_FieldsText_f {k : Nat} {l : List S116} (hl : (fieldLines l).length ≤ 1099511627776) (hn : (l.length : Int) ≤ 9223372036854775807) (hk : l.length < k) : spec_FieldsText.f k l = some ⟨(fieldLines l).toArray⟩ := by
  have := spec_FieldsText_l0 l hl hn l.length k 0 ⟨#[]⟩ (by omega) (by omega) (by rw [List.drop_zero]; rfl) hk
  simpa [spec_FieldsText.f] using this
theorem impl_FieldsText_f {l : List S116} (hl : (fieldLines l).length ≤ 1099511627776) (hn : l.length < 4398046511104) : impl_FieldsText.f l = some ⟨(fieldLines l).toArray⟩ := by
  unfold impl_FieldsText.f
  rw [if_pos ⟨hn, hl⟩]
def respText (m : Int) (l : List S116) (b : ByteArray) : ByteArray :=
  if respB m l b = true then (((((((⟨#[72, 84, 84, 80, 47, 49, 46, 49, 32]⟩ : ByteArray) ++ numT m) ++ (⟨#[32, 46, 13, 10]⟩ : ByteArray)) ++ linesT l) ++ (⟨#[99, 111, 110, 116, 101, 110, 116, 45, 108, 101, 110, 103, 116, 104, 58, 32]⟩ : ByteArray)) ++ numT b.size) ++ (⟨#[13, 10, 13, 10]⟩ : ByteArray)) ++ b else ⟨#[]⟩
theorem respB_facts {m : Int} {l : List S116} {b : ByteArray} (h : respB m l b = true) : (100 ≤ m ∧ m ≤ 599) ∧ b.size ≤ 120 ∧ fieldsB l = true := by
  unfold respB at h
  rw [Bool.and_eq_true, Bool.and_eq_true] at h
  exact ⟨of_decide_eq_true h.1, of_decide_eq_true h.2.1, h.2.2⟩
theorem spec_RespText_f {k K : Nat} {m : Int} {l : List S116} {b : ByteArray} (hK : K < 4398046511104) (hl : SmallF K l) (hk : 5 * K + 50 < k) : spec_RespText.f k m l b = some (respText m l b) := by
  unfold spec_RespText.f respText
  rw [spec_RespOk_f hK hl (by omega), Option.bind_some]
  by_cases h : respB m l b = true
  · obtain ⟨h1, h2, h3⟩ := respB_facts h
    obtain ⟨h4, h5⟩ := fieldsB_lines h3
    have n1 := numT_size m
    have n2 := numT_size b.size
    have n3 := linesT_size l
    have s1 : (⟨#[72, 84, 84, 80, 47, 49, 46, 49, 32]⟩ : ByteArray).size = 9 := rfl
    have s2 : (⟨#[32, 46, 13, 10]⟩ : ByteArray).size = 4 := rfl
    have s3 : (⟨#[99, 111, 110, 116, 101, 110, 116, 45, 108, 101, 110, 103, 116, 104, 58, 32]⟩ : ByteArray).size = 16 := rfl
    have s4 : (⟨#[13, 10, 13, 10]⟩ : ByteArray).size = 4 := rfl
    rw [if_pos h, if_pos h, spec_NumText_f (by omega), Option.bind_some, if_pos (by omega), if_pos (by simp only [ByteArray.size_append, s1]; omega), spec_FieldsText_f (by omega) (by omega) (by omega), Option.bind_some]
    show (if (((⟨#[72, 84, 84, 80, 47, 49, 46, 49, 32]⟩ : ByteArray) ++ numT m) ++ (⟨#[32, 46, 13, 10]⟩ : ByteArray)).size + (linesT l).size ≤ 9223372036854775807 then _ else none) = _
    rw [if_pos (by simp only [ByteArray.size_append, s1, s2]; omega)]
    show (if ((((⟨#[72, 84, 84, 80, 47, 49, 46, 49, 32]⟩ : ByteArray) ++ numT m) ++ (⟨#[32, 46, 13, 10]⟩ : ByteArray)) ++ linesT l).size + 16 ≤ 9223372036854775807 then _ else none) = _
    rw [if_pos (by simp only [ByteArray.size_append, s1, s2]; omega), spec_NumText_f (by omega), Option.bind_some]
    show (if (((((⟨#[72, 84, 84, 80, 47, 49, 46, 49, 32]⟩ : ByteArray) ++ numT m) ++ (⟨#[32, 46, 13, 10]⟩ : ByteArray)) ++ linesT l) ++ (⟨#[99, 111, 110, 116, 101, 110, 116, 45, 108, 101, 110, 103, 116, 104, 58, 32]⟩ : ByteArray)).size + (numT b.size).size ≤ 9223372036854775807 then _ else none) = _
    rw [if_pos (by simp only [ByteArray.size_append, s1, s2, s3]; omega)]
    show (if ((((((⟨#[72, 84, 84, 80, 47, 49, 46, 49, 32]⟩ : ByteArray) ++ numT m) ++ (⟨#[32, 46, 13, 10]⟩ : ByteArray)) ++ linesT l) ++ (⟨#[99, 111, 110, 116, 101, 110, 116, 45, 108, 101, 110, 103, 116, 104, 58, 32]⟩ : ByteArray)) ++ numT b.size).size + 4 ≤ 9223372036854775807 then _ else none) = _
    rw [if_pos (by simp only [ByteArray.size_append, s1, s2, s3]; omega)]
    show (if (((((((⟨#[72, 84, 84, 80, 47, 49, 46, 49, 32]⟩ : ByteArray) ++ numT m) ++ (⟨#[32, 46, 13, 10]⟩ : ByteArray)) ++ linesT l) ++ (⟨#[99, 111, 110, 116, 101, 110, 116, 45, 108, 101, 110, 103, 116, 104, 58, 32]⟩ : ByteArray)) ++ numT b.size) ++ (⟨#[13, 10, 13, 10]⟩ : ByteArray)).size + b.size ≤ 9223372036854775807 then _ else none) = _
    rw [if_pos (by simp only [ByteArray.size_append, s1, s2, s3, s4]; omega)]
    rfl
  · rw [if_neg h, if_neg h]
theorem impl_RespText_f {k K : Nat} {m : Int} {l : List S116} {b : ByteArray} (hK : K < 4398046511104) (hl : SmallF K l) (hk : 5 * K + 50 < k) : impl_RespText.f k m l b = some (respText m l b) := by
  unfold impl_RespText.f respText
  rw [impl_RespOk_f hK hl (by omega), Option.bind_some]
  by_cases h : respB m l b = true
  · obtain ⟨h1, h2, h3⟩ := respB_facts h
    obtain ⟨h4, h5⟩ := fieldsB_lines h3
    have n1 := numT_size m
    have n2 := numT_size b.size
    have n3 := linesT_size l
    have s1 : (⟨#[72, 84, 84, 80, 47, 49, 46, 49, 32]⟩ : ByteArray).size = 9 := rfl
    have s2 : (⟨#[32, 46]⟩ : ByteArray).size = 2 := rfl
    have s3 : (⟨#[99, 111, 110, 116, 101, 110, 116, 45, 108, 101, 110, 103, 116, 104, 58, 32]⟩ : ByteArray).size = 16 := rfl
    have s4 : (⟨#[13, 10]⟩ : ByteArray).size = 2 := rfl
    have hll : impl_lengthLine.f b = some (((⟨#[99, 111, 110, 116, 101, 110, 116, 45, 108, 101, 110, 103, 116, 104, 58, 32]⟩ : ByteArray) ++ numT b.size) ++ (⟨#[13, 10]⟩ : ByteArray)) := by
      unfold impl_lengthLine.f
      rw [itoa_numT (by omega), Option.bind_some, if_pos (by omega), if_pos (by simp only [ByteArray.size_append, s3]; omega)]
    have hft : impl_FieldsText.f l = some (linesT l) := impl_FieldsText_f (by omega) (by omega)
    rw [if_pos h, if_pos h, itoa_numT (by omega), Option.bind_some, if_pos (by omega), if_pos (by simp only [ByteArray.size_append, s1]; omega), if_pos (by simp only [ByteArray.size_append, s1, s2]; omega), hft, Option.bind_some,
      if_pos (by simp only [ByteArray.size_append, s1, s2, s4]; omega), hll, Option.bind_some, if_pos (by simp only [ByteArray.size_append, s1, s2, s3, s4]; omega), if_pos (by simp only [ByteArray.size_append, s1, s2, s3, s4]; omega), if_pos (by simp only [ByteArray.size_append, s1, s2, s3, s4]; omega)]
    refine congrArg some (B_ext ?_)
    simp only [B_append, List.append_assoc]
    rfl
  · rw [if_neg h, if_neg h]

end Go.Proofs.YtjlpjbkpmmpojaaGreatDoor.Pure
