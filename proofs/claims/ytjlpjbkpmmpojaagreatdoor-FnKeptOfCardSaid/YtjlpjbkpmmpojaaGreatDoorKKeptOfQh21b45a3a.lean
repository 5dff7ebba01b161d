/- What the printed functions answer, in plain words: lemmas of this session. No condition of a statement lies here. -/
import Derived.Test.YtjlpjbkpmmpojaaGreatDoorKKeptOfAllx0
import Derived.Test.YtjlpjbkpmmpojaaGreatDoorKKeptOfAllx26
import Derived.Test.YtjlpjbkpmmpojaaGreatDoorKKeptOfAllx1
import Derived.Test.YtjlpjbkpmmpojaaGreatDoorKKeptOfAllx8
import Derived.Test.YtjlpjbkpmmpojaaGreatDoorKKeptOfAllx13
import Derived.Test.YtjlpjbkpmmpojaaGreatDoorKKeptOfQh6e319487
import Derived.Test.YtjlpjbkpmmpojaaGreatDoorKKeptOfQhd4f6af10
namespace Go.Proofs.YtjlpjbkpmmpojaaGreatDoor.Pure
open Go.RowKit Go.Proofs.YtjlpjbkpmmpojaaGreatDoor.All Go.Proofs.YtjlpjbkpmmpojaaGreatDoorW.PrintWords Go.Proofs.YtjlpjbkpmmpojaaGreatDoorW.PrintLast
set_option linter.unusedVariables false
set_option linter.unusedSimpArgs false

/-! ### FieldsText, Drop, Short, ValuesOf, Same, Pieces, Suits -/
theorem impl_FieldsText_f {l : List S116} (hl : (fieldLines l).length ≤ 1099511627776) (hn : l.length < 4398046511104) : impl_FieldsText.f l = some ⟨(fieldLines l).toArray⟩ := by
  unfold impl_FieldsText.f
  rw [if_pos ⟨hn, hl⟩]
def respText (m : Int) (l : List S116) (b : ByteArray) : ByteArray :=
  if respB m l b = true then (((((((⟨#[72, 84, 84, 80, 47, 49, 46, 49, 32]⟩ : ByteArray) ++ numT m) ++ (⟨#[32, 46, 13, 10]⟩ : ByteArray)) ++ linesT l) ++ (⟨#[99, 111, 110, 116, 101, 110, 116, 45, 108, 101, 110, 103, 116, 104, 58, 32]⟩ : ByteArray)) ++ numT b.size) ++ (⟨#[13, 10, 13, 10]⟩ : ByteArray)) ++ b else ⟨#[]⟩
theorem respB_facts {m : Int} {l : List S116} {b : ByteArray} (h : respB m l b = true) : (100 ≤ m ∧ m ≤ 599) ∧ b.size ≤ 120 ∧ fieldsB l = true := by
  unfold respB at h
  rw [Bool.and_eq_true, Bool.and_eq_true] at h
  exact ⟨of_decide_eq_true h.1, of_decide_eq_true h.2.1, h.2.2⟩
theorem impl_RespText_f {k K : Nat} {m : Int} {l : List S116} {b : ByteArray} (hK : K < 4398046511104) (hl : SmallF K l) (hk : 5 * K + 50 < k) : impl_RespText.f k m l b = some (respText m l b) := by
  unfold impl_RespText.f respText
  rw [impl_RespOk_f hK hl (by omega), Option.bind_some]
  by_cases h : respB m l b = true
  · obtain ⟨h1, h2, h3⟩ := respB_facts h
    obtain ⟨h4, h5⟩ := fieldsB_lines h3
    have n1 := numT_size m
    have n2 := numT_size b.size
    have n3 := linesT_size l
    have s1 : (⟨#[72, 84, 84, 80, 47, 49, 46, 49, 32]⟩ : ByteArray).size = 9 := rfl
    have s2 : (⟨#[32, 46]⟩ : ByteArray).size = 2 := rfl
    have s3 : (⟨#[99, 111, 110, 116, 101, 110, 116, 45, 108, 101, 110, 103, 116, 104, 58, 32]⟩ : ByteArray).size = 16 := rfl
    have s4 : (⟨#[13, 10]⟩ : ByteArray).size = 2 := rfl
    have hll : impl_lengthLine.f b = some (((⟨#[99, 111, 110, 116, 101, 110, 116, 45, 108, 101, 110, 103, 116, 104, 58, 32]⟩ : ByteArray) ++ numT b.size) ++ (⟨#[13, 10]⟩ : ByteArray)) := by
      unfold impl_lengthLine.f
      rw [itoa_numT (by omega), Option.bind_some, if_pos (by omega), if_pos (by simp only [ByteArray.size_append, s3]; omega)]
    have hft : impl_FieldsText.f l = some (linesT l) := impl_FieldsText_f (by omega) (by omega)
    rw [if_pos h, if_pos h, itoa_numT (by omega), Option.bind_some, if_pos (by omega), if_pos (by simp only [ByteArray.size_append, s1]; omega), if_pos (by simp only [ByteArray.size_append, s1, s2]; omega), hft, Option.bind_some,
      if_pos (by simp only [ByteArray.size_append, s1, s2, s4]; omega), hll, Option.bind_some, if_pos (by simp only [ByteArray.size_append, s1, s2, s3, s4]; omega), if_pos (by simp only [ByteArray.size_append, s1, s2, s3, s4]; omega), if_pos (by simp only [ByteArray.size_append, s1, s2, s3, s4]; omega)]
    refine congrArg some (B_ext ?_)
    simp only [B_append, List.append_assoc]
    rfl
  · rw [if_neg h, if_neg h]

end Go.Proofs.YtjlpjbkpmmpojaaGreatDoor.Pure
