/- What the printed functions answer, in plain words: part g_fieldsText of this session's lemmas. No condition of a statement lies here. -/
import Derived.Test.YtdlgjhckmkmjhaaAllx0
import Derived.Test.YtdlgjhckmkmjhaaAllx4
import Derived.Test.YtdlgjhckmkmjhaaQabase
import Derived.Test.YtdlgjhckmkmjhaaQcfield
import Derived.Test.YtdlgjhckmkmjhaaQdfieldfn
namespace Go.Proofs.Ytdlgjhckmkmjhaa.Pure
open Go.RowKit Go.Proofs.Ytdlgjhckmkmjhaa.All Go.Proofs.YtdlgjhckmkmjhaaW.PrintWords Go.Proofs.YtdlgjhckmkmjhaaW.PrintLast
set_option linter.unusedVariables false
set_option linter.unusedSimpArgs false

/-! ### FieldsText, Drop, Short, ValuesOf, Same, Pieces, Suits -/
theorem fieldLines_length : ∀ l : List S81, ((fieldLines l).length : Int) = 4 * l.length + (l.map fun x => (x.f0.size : Int) + x.f1.size).foldr (· + ·) 0
  | [] => rfl
  | x :: r => by
    simp only [fieldLines, fieldLine, List.length_append, List.length_cons, List.map_cons, List.foldr_cons, data_length]
    have := fieldLines_length r
    simp only [List.length_nil]
    omega
theorem fieldLines_toF : ∀ l : List S79, ((fieldLines (l.map toF)).length : Int) = 4 * l.length + szFS l
  | [] => rfl
  | x :: r => by
    have := fieldLines_toF r
    simp only [List.map_cons, fieldLines, fieldLine, List.length_append, List.length_cons, data_length, szFS, szF, toF, List.length_nil] at this ⊢
    omega
theorem spec_FieldsText_l0 (l : List S81) (hl : (fieldLines l).length ≤ 1099511627776) (hn : (l.length : Int) ≤ 9223372036854775807) : ∀ (d k i : Nat) (acc : ByteArray), l.length - i = d → i ≤ l.length → B acc ++ fieldLines (l.drop i) = fieldLines l → d < k →
    spec_FieldsText.l0 k l acc i = some ⟨(fieldLines l).toArray⟩ := by
  intro d
  induction d with
  | zero =>
    intro k i acc hd hi ha hk
    obtain ⟨k, rfl⟩ := succ_of hk
    simp only [spec_FieldsText.l0]
    rw [List.drop_eq_nil_of_le (by omega), fieldLines, List.append_nil] at ha
    rw [if_neg (by omega), ← ha]
    exact congrArg some (B_ext (B_mk _).symm)
  | succ d ih =>
    intro k i acc hd hi ha hk
    obtain ⟨k, rfl⟩ := succ_of hk
    have hlt : i < l.length := by omega
    rw [drop_at hlt, fieldLines] at ha
    have hlen := congrArg List.length ha
    simp only [fieldLine, List.length_append, List.length_cons, List.length_nil, data_length, B_len] at hlen
    have ih := ih k (i + 1) (acc ++ l[i].f0 ++ ⟨#[58, 32]⟩ ++ l[i].f1 ++ ⟨#[13, 10]⟩) (by omega) (by omega) (by
      rw [← ha]
      simp only [B_append, fieldLine, List.append_assoc]
      rfl) (by omega)
    have s1 : (⟨#[58, 32]⟩ : ByteArray).size = 2 := rfl
    simp only [spec_FieldsText.l0]
    rw [if_pos (by omega), if_pos (by omega), rd_F l i hlt, nat_round (n := l.length) hlt hn, if_pos (by omega), if_pos (by simp only [ByteArray.size_append]; omega), if_pos (by simp only [ByteArray.size_append, s1]; omega), if_pos (by simp only [ByteArray.size_append, s1]; omega), ih]
theorem spec_FieldsText_f {k : Nat} {l : List S81} (hl : (fieldLines l).length ≤ 1099511627776) (hn : (l.length : Int) ≤ 9223372036854775807) (hk : l.length < k) : spec_FieldsText.f k l = some ⟨(fieldLines l).toArray⟩ := by
  have := spec_FieldsText_l0 l hl hn l.length k 0 ⟨#[]⟩ (by omega) (by omega) (by rw [List.drop_zero]; rfl) hk
  simpa [spec_FieldsText.f] using this
theorem impl_FieldsText_f {l : List S81} (hl : (fieldLines l).length ≤ 1099511627776) (hn : l.length < 4398046511104) : impl_FieldsText.f l = some ⟨(fieldLines l).toArray⟩ := by
  unfold impl_FieldsText.f
  rw [if_pos ⟨hn, hl⟩]

end Go.Proofs.Ytdlgjhckmkmjhaa.Pure
