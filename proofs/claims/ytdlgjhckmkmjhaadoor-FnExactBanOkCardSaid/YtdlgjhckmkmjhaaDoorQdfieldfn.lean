/- What the printed functions answer, in plain words: part d_fieldfn of this session's lemmas. No condition of a statement lies here. -/
import Derived.Test.YtdlgjhckmkmjhaaDoorAllx0
import Derived.Test.YtdlgjhckmkmjhaaDoorAllx11
import Derived.Test.YtdlgjhckmkmjhaaDoorAllx12
import Derived.Test.YtdlgjhckmkmjhaaDoorAllx15
import Derived.Test.YtdlgjhckmkmjhaaDoorAllx7
import Derived.Test.YtdlgjhckmkmjhaaDoorQabase
namespace Go.Proofs.YtdlgjhckmkmjhaaDoor.Pure
open Go.RowKit Go.Proofs.YtdlgjhckmkmjhaaDoor.All Go.Proofs.YtdlgjhckmkmjhaaDoorW.PrintWords Go.Proofs.YtdlgjhckmkmjhaaDoorW.PrintLast
set_option linter.unusedVariables false
set_option linter.unusedSimpArgs false

/-! ### the first field of a name -/
def getF (n : ByteArray) : List S87 → Option ByteArray
  | [] => none
  | x :: r => if x.f0 = n then some x.f1 else getF n r
def putF (n v : ByteArray) : List S87 → List S87
  | [] => [⟨n, v⟩]
  | x :: r => if x.f0 = n then ⟨x.f0, v⟩ :: r else x :: putF n v r
def dropF (n : ByteArray) : List S87 → List S87
  | [] => []
  | x :: r => if x.f0 = n then r else x :: dropF n r
theorem at_cons (n : ByteArray) (x : S87) (r : List S87) (i : Nat) : at_ n (x :: r) i = if x.f0 = n then (i : Int) else at_ n r (i + 1) := by
  simp only [at_]
  by_cases h : x.f0 = n
  · rw [if_pos h, if_pos (by rw [h]; simp)]
  · rw [if_neg h, if_neg (by simpa using fun e => h (toList_inj e))]
/-- where it stands: nowhere, or at a place j -/
theorem at_cases (n v : ByteArray) : ∀ (l : List S87) (i : Nat), (at_ n l i = -1 ∧ getF n l = none ∧ putF n v l = l ++ [⟨n, v⟩] ∧ dropF n l = l) ∨
    ∃ j, ∃ h : j < l.length, at_ n l i = ((i + j : Nat) : Int) ∧ l[j].f0 = n ∧ getF n l = some l[j].f1 ∧ putF n v l = l.set j ⟨l[j].f0, v⟩ ∧ dropF n l = l.eraseIdx j
  | [], i => .inl ⟨rfl, rfl, rfl, rfl⟩
  | x :: r, i => by
    rw [at_cons]
    by_cases h : x.f0 = n
    · exact .inr ⟨0, by simp, by rw [if_pos h]; rfl, h, by simp [getF, h], by simp [putF, h], by simp [dropF, h]⟩
    · rw [if_neg h]
      rcases at_cases n v r (i + 1) with ⟨h1, h2, h3, h4⟩ | ⟨j, hj, h1, h0, h2, h3, h4⟩
      · exact .inl ⟨h1, by simp [getF, h, h2], by simp [putF, h, h3], by simp [dropF, h, h4]⟩
      · exact .inr ⟨j + 1, by simp; omega, by rw [h1]; congr 1; omega, by simpa using h0, by simp [getF, h, h2], by simp [putF, h, h3], by simp [dropF, h, h4]⟩
theorem at_range (n : ByteArray) (l : List S87) : -1 ≤ at_ n l 0 ∧ at_ n l 0 < l.length := by
  rcases at_cases n n l 0 with ⟨h, _⟩ | ⟨j, hj, h, _⟩ <;> rw [h] <;> omega
theorem impl_fieldAt_f {l : List S87} {n : ByteArray} (hl : l.length < 4398046511104) : impl_fieldAt.f l n = some (at_ n l 0) := by
  unfold impl_fieldAt.f; rw [if_pos hl]
theorem putF_length (n v : ByteArray) (l : List S87) : (putF n v l).length ≤ l.length + 1 := by
  rcases at_cases n v l 0 with ⟨_, _, h, _⟩ | ⟨j, hj, _, _, _, h, _⟩ <;> rw [h] <;> simp
theorem dropF_length (n : ByteArray) (l : List S87) : (dropF n l).length ≤ l.length := by
  rcases at_cases n n l 0 with ⟨_, _, _, h⟩ | ⟨j, hj, _, _, _, _, h⟩ <;> rw [h] <;> simp [List.length_eraseIdx] <;> split <;> omega
theorem spec_l2At_l0 (l : List S87) (n : ByteArray) (hl : (l.length : Int) ≤ 9223372036854775807) : ∀ (d k i : Nat), l.length - i = d → i ≤ l.length → d < k → spec_l2At.l0 k l n i = some (at_ n (l.drop i) i) := by
  intro d
  induction d with
  | zero =>
    intro k i hd hi hk
    obtain ⟨k, rfl⟩ := succ_of hk
    simp only [spec_l2At.l0]
    rw [if_neg (by omega), List.drop_eq_nil_of_le (by omega)]; rfl
  | succ d ih =>
    intro k i hd hi hk
    obtain ⟨k, rfl⟩ := succ_of hk
    have hlt : i < l.length := by omega
    have hx : rd_T87 l (i : Int) = l[i] := by simp [rd_T87, List.getD, hlt]
    simp only [spec_l2At.l0]
    rw [if_pos (by omega), if_pos (by omega), hx, nat_round hlt hl, ih k (i + 1) (by omega) (by omega) (by omega), drop_at hlt, at_cons]
    by_cases h : l[i].f0 = n
    · rw [if_pos h, if_pos (by rw [h])]
    · rw [if_neg h, if_neg (fun e => h (toList_inj e))]
theorem spec_l2At_f {k : Nat} {l : List S87} {n : ByteArray} (hl : (l.length : Int) ≤ 9223372036854775807) (hk : l.length < k) : spec_l2At.f k l n = some (at_ n l 0) := spec_l2At_l0 l n hl l.length k 0 (by omega) (by omega) hk
/-! ### Get, Put, Drop -/
theorem rd_F (l : List S87) (j : Nat) (h : j < l.length) : rd_T87 l (j : Int) = l[j] := by simp [rd_T87, List.getD, h]
theorem impl_Get_f {l : List S87} {n : ByteArray} (hl : l.length < 4398046511104) : impl_Get.f l n = some ((getF n l).getD ⟨#[]⟩, (getF n l).isSome) := by
  unfold impl_Get.f
  rw [impl_fieldAt_f hl, Option.bind_some]
  rcases at_cases n n l 0 with ⟨h1, h2, _, _⟩ | ⟨j, hj, h1, _, h2, _, _⟩
  · rw [h1, h2, if_pos (by omega)]; rfl
  · rw [h1, h2, if_neg (by omega), if_pos (by omega), if_pos (by omega), Nat.zero_add, rd_F l j hj]; rfl
theorem spec_Get_f {k : Nat} {l : List S87} {n : ByteArray} (hl : (l.length : Int) ≤ 9223372036854775807) (hk : l.length < k) : spec_Get.f k l n = some ((getF n l).getD ⟨#[]⟩, (getF n l).isSome) := by
  unfold spec_Get.f
  rw [spec_l2At_f hl hk, Option.bind_some]
  rcases at_cases n n l 0 with ⟨h1, h2, _, _⟩ | ⟨j, hj, h1, _, h2, _, _⟩
  · rw [h1, h2, if_pos (by omega)]; rfl
  · rw [h1, h2, if_neg (by omega), if_pos (by omega), if_pos (by omega), Nat.zero_add, rd_F l j hj]; rfl
theorem slices_Clone_Field_f {l : List S87} (hl : l.length < 4398046511104) : slices_Clone_Field.f l = some l := by
  unfold slices_Clone_Field.f; rw [if_pos hl]
theorem impl_Put_f {l : List S87} {n v : ByteArray} (hl : l.length < 4398046511104) : impl_Put.f l n v = some (putF n v l) := by
  unfold impl_Put.f
  rw [slices_Clone_Field_f hl, Option.bind_some, impl_fieldAt_f hl, Option.bind_some]
  rcases at_cases n v l 0 with ⟨h1, _, h3, _⟩ | ⟨j, hj, h1, _, _, h3, _⟩
  · rw [h1, h3, if_neg (by omega), if_pos hl]
  · rw [h1, h3, if_pos (by omega), if_pos (by omega), if_pos (by omega), Nat.zero_add, rd_F l j hj, Int.toNat_natCast]
theorem spec_Put_f {k : Nat} {l : List S87} {n v : ByteArray} (hl : l.length < 4398046511104) (hk : l.length < k) : spec_Put.f k l n v = some (putF n v l) := by
  unfold spec_Put.f
  rw [Option.bind_some, if_pos (by simpa using hl), Option.bind_some, spec_l2At_f (by omega) hk, Option.bind_some, List.nil_append]
  rcases at_cases n v l 0 with ⟨h1, _, h3, _⟩ | ⟨j, hj, h1, _, _, h3, _⟩
  · rw [h1, h3, if_pos (by omega), if_pos hl]
  · rw [h1, h3, if_neg (by omega), if_pos (by omega), if_pos (by omega), Nat.zero_add, rd_F l j hj, Int.toNat_natCast]

end Go.Proofs.YtdlgjhckmkmjhaaDoor.Pure
