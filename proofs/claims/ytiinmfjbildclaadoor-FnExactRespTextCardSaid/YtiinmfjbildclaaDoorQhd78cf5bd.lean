/- What the printed functions answer, in plain words: lemmas of this session. No condition of a statement lies here. -/
import Derived.Test.YtiinmfjbildclaaDoorAllx0
import Derived.Test.YtiinmfjbildclaaDoorAllx34
import Derived.Test.YtiinmfjbildclaaDoorAllx35
import Derived.Test.YtiinmfjbildclaaDoorAllx36
import Derived.Test.YtiinmfjbildclaaDoorQh02c8e078
import Derived.Test.YtiinmfjbildclaaDoorQh0b793c2d
import Derived.Test.YtiinmfjbildclaaDoorQhc1e60fcd
import Derived.Test.YtiinmfjbildclaaDoorQhf9e67311
namespace Go.Proofs.YtiinmfjbildclaaDoor.Pure
open Go.RowKit Go.Proofs.YtiinmfjbildclaaDoor.All Go.Proofs.YtiinmfjbildclaaDoorW.PrintWords Go.Proofs.YtiinmfjbildclaaDoorW.PrintLast
set_option linter.unusedVariables false
set_option linter.unusedSimpArgs false

theorem laws_szResp_f {k : Nat} {m : Int} {b : ByteArray} {l : List S113} {n : Int} (hl : l.length ≤ maxLen ∧ ∀ x ∈ l, x.f0.size ≤ maxLen ∧ x.f1.size ≤ maxLen) (hb : b.size ≤ maxLen) (h0 : 0 ≤ n) (h1 : n ≤ 1048576) (hk : 1048577 < k) :
    ∃ r, laws_szResp.f k m l b n = some r ∧ (r < 0 ∨ r ≤ n ∧ r ≤ 1048576 ∧ b.size ≤ 1048576 ∧ l.length ≤ 1048576 ∧ (∀ x ∈ l, x.f0.size ≤ 1048576 ∧ x.f1.size ≤ 1048576) ∧ r + b.size + l.length + szFS l = n) := by
  unfold maxLen at hb
  unfold laws_szResp.f
  rw [laws_szFieldS_f hl (by omega) (by omega) hk, Option.bind_some]
  split
  · exact ⟨_, rfl, .inl (by omega)⟩
  · rename_i h2
    obtain ⟨g1, g2, g3, g4⟩ := leftFS_nonneg h2 (by omega)
    have hr := szFS_nonneg l
    have g5 : leftFS n l ≤ n ∧ leftFS n l + l.length + szFS l = n := by
      unfold leftFS at h2 g1 ⊢; split
      · rename_i c; rw [if_pos c] at h2; omega
      · omega
    rw [w64 (by omega)]
    split
    · exact ⟨_, rfl, .inl (by omega)⟩
    · exact ⟨_, rfl, .inr ⟨by omega, by omega, by omega, g3, g4, by omega⟩⟩
theorem laws_toResp_f {k : Nat} {m : Int} {b : ByteArray} {l : List S113} (hl : l.length ≤ 1048576) (hk : l.length < k) : laws_toResp.f k m l b = some (m, l.map toF, b) := by
  unfold laws_toResp.f
  rw [laws_toFieldS_f hl hk, Option.bind_some]
theorem laws_eqResp_f {k : Nat} {m : Int} {b : ByteArray} {l : List S114} (hl : l.length ≤ 4398046511104) (hk : l.length < k) : laws_eqResp.f k m l b m l b = some true := by
  unfold laws_eqResp.f
  rw [if_pos rfl, laws_eqFieldS_f hl hk, Option.bind_some, if_pos rfl, if_pos rfl]
def respText (m : Int) (l : List S114) (b : ByteArray) : ByteArray :=
  if respB m l b = true then (((((((⟨#[72, 84, 84, 80, 47, 49, 46, 49, 32]⟩ : ByteArray) ++ numT m) ++ (⟨#[32, 46, 13, 10]⟩ : ByteArray)) ++ linesT l) ++ (⟨#[99, 111, 110, 116, 101, 110, 116, 45, 108, 101, 110, 103, 116, 104, 58, 32]⟩ : ByteArray)) ++ numT b.size) ++ (⟨#[13, 10, 13, 10]⟩ : ByteArray)) ++ b else ⟨#[]⟩
theorem respB_facts {m : Int} {l : List S114} {b : ByteArray} (h : respB m l b = true) : (100 ≤ m ∧ m ≤ 599) ∧ b.size ≤ 120 ∧ fieldsB l = true := by
  unfold respB at h
  rw [Bool.and_eq_true, Bool.and_eq_true] at h
  exact ⟨of_decide_eq_true h.1, of_decide_eq_true h.2.1, h.2.2⟩
theorem spec_RespText_f {k K : Nat} {m : Int} {l : List S114} {b : ByteArray} (hK : K < 4398046511104) (hl : SmallF K l) (hk : 5 * K + 50 < k) : spec_RespText.f k m l b = some (respText m l b) := by
  unfold spec_RespText.f respText
  rw [spec_RespOk_f hK hl (by omega), Option.bind_some]
  by_cases h : respB m l b = true
  · obtain ⟨h1, h2, h3⟩ := respB_facts h
    obtain ⟨h4, h5⟩ := fieldsB_lines h3
    have n1 := numT_size m
    have n2 := numT_size b.size
    have n3 := linesT_size l
    have s1 : (⟨#[72, 84, 84, 80, 47, 49, 46, 49, 32]⟩ : ByteArray).size = 9 := rfl
    have s2 : (⟨#[32, 46, 13, 10]⟩ : ByteArray).size = 4 := rfl
    have s3 : (⟨#[99, 111, 110, 116, 101, 110, 116, 45, 108, 101, 110, 103, 116, 104, 58, 32]⟩ : ByteArray).size = 16 := rfl
    have s4 : (⟨#[13, 10, 13, 10]⟩ : ByteArray).size = 4 := rfl
    rw [if_pos h, if_pos h, spec_NumText_f (by omega), Option.bind_some, if_pos (by omega), if_pos (by simp only [ByteArray.size_append, s1]; omega), spec_FieldsText_f (by omega) (by omega) (by omega), Option.bind_some]
    show (if (((⟨#[72, 84, 84, 80, 47, 49, 46, 49, 32]⟩ : ByteArray) ++ numT m) ++ (⟨#[32, 46, 13, 10]⟩ : ByteArray)).size + (linesT l).size ≤ 9223372036854775807 then _ else none) = _
    rw [if_pos (by simp only [ByteArray.size_append, s1, s2]; omega)]
    show (if ((((⟨#[72, 84, 84, 80, 47, 49, 46, 49, 32]⟩ : ByteArray) ++ numT m) ++ (⟨#[32, 46, 13, 10]⟩ : ByteArray)) ++ linesT l).size + 16 ≤ 9223372036854775807 then _ else none) = _
    rw [if_pos (by simp only [ByteArray.size_append, s1, s2]; omega), spec_NumText_f (by omega), Option.bind_some]
    show (if (((((⟨#[72, 84, 84, 80, 47, 49, 46, 49, 32]⟩ : ByteArray) ++ numT m) ++ (⟨#[32, 46, 13, 10]⟩ : ByteArray)) ++ linesT l) ++ (⟨#[99, 111, 110, 116, 101, 110, 116, 45, 108, 101, 110, 103, 116, 104, 58, 32]⟩ : ByteArray)).size + (numT b.size).size ≤ 9223372036854775807 then _ else none) = _
    rw [if_pos (by simp only [ByteArray.size_append, s1, s2, s3]; omega)]
    show (if ((((((⟨#[72, 84, 84, 80, 47, 49, 46, 49, 32]⟩ : ByteArray) ++ numT m) ++ (⟨#[32, 46, 13, 10]⟩ : ByteArray)) ++ linesT l) ++ (⟨#[99, 111, 110, 116, 101, 110, 116, 45, 108, 101, 110, 103, 116, 104, 58, 32]⟩ : ByteArray)) ++ numT b.size).size + 4 ≤ 9223372036854775807 then _ else none) = _
    rw [if_pos (by simp only [ByteArray.size_append, s1, s2, s3]; omega)]
    show (if (((((((⟨#[72, 84, 84, 80, 47, 49, 46, 49, 32]⟩ : ByteArray) ++ numT m) ++ (⟨#[32, 46, 13, 10]⟩ : ByteArray)) ++ linesT l) ++ (⟨#[99, 111, 110, 116, 101, 110, 116, 45, 108, 101, 110, 103, 116, 104, 58, 32]⟩ : ByteArray)) ++ numT b.size) ++ (⟨#[13, 10, 13, 10]⟩ : ByteArray)).size + b.size ≤ 9223372036854775807 then _ else none) = _
    rw [if_pos (by simp only [ByteArray.size_append, s1, s2, s3, s4]; omega)]
    rfl
  · rw [if_neg h, if_neg h]
theorem impl_RespText_f {k K : Nat} {m : Int} {l : List S114} {b : ByteArray} (hK : K < 4398046511104) (hl : SmallF K l) (hk : 5 * K + 50 < k) : impl_RespText.f k m l b = some (respText m l b) := by
  unfold impl_RespText.f respText
  rw [impl_RespOk_f hK hl (by omega), Option.bind_some]
  by_cases h : respB m l b = true
  · obtain ⟨h1, h2, h3⟩ := respB_facts h
    obtain ⟨h4, h5⟩ := fieldsB_lines h3
    have n1 := numT_size m
    have n2 := numT_size b.size
    have n3 := linesT_size l
    have s1 : (⟨#[72, 84, 84, 80, 47, 49, 46, 49, 32]⟩ : ByteArray).size = 9 := rfl
    have s2 : (⟨#[32, 46]⟩ : ByteArray).size = 2 := rfl
    have s3 : (⟨#[99, 111, 110, 116, 101, 110, 116, 45, 108, 101, 110, 103, 116, 104, 58, 32]⟩ : ByteArray).size = 16 := rfl
    have s4 : (⟨#[13, 10]⟩ : ByteArray).size = 2 := rfl
    have hll : impl_lengthLine.f b = some (((⟨#[99, 111, 110, 116, 101, 110, 116, 45, 108, 101, 110, 103, 116, 104, 58, 32]⟩ : ByteArray) ++ numT b.size) ++ (⟨#[13, 10]⟩ : ByteArray)) := by
      unfold impl_lengthLine.f
      rw [itoa_numT (by omega), Option.bind_some, if_pos (by omega), if_pos (by simp only [ByteArray.size_append, s3]; omega)]
    have hft : impl_FieldsText.f l = some (linesT l) := impl_FieldsText_f (by omega) (by omega)
    rw [if_pos h, if_pos h, itoa_numT (by omega), Option.bind_some, if_pos (by omega), if_pos (by simp only [ByteArray.size_append, s1]; omega), if_pos (by simp only [ByteArray.size_append, s1, s2]; omega), hft, Option.bind_some,
      if_pos (by simp only [ByteArray.size_append, s1, s2, s4]; omega), hll, Option.bind_some, if_pos (by simp only [ByteArray.size_append, s1, s2, s3, s4]; omega), if_pos (by simp only [ByteArray.size_append, s1, s2, s3, s4]; omega), if_pos (by simp only [ByteArray.size_append, s1, s2, s3, s4]; omega)]
    refine congrArg some (B_ext ?_)
    simp only [B_append, List.append_assoc]
    rfl
  · rw [if_neg h, if_neg h]

end Go.Proofs.YtiinmfjbildclaaDoor.Pure
