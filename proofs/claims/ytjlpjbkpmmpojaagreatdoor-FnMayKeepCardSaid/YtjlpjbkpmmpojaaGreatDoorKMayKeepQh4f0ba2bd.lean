/- What the printed functions answer, in plain words: lemmas of this session. No condition of a statement lies here. -/
import Derived.Test.YtjlpjbkpmmpojaaGreatDoorKMayKeepAllx0
import Derived.Test.YtjlpjbkpmmpojaaGreatDoorKMayKeepAllx12
import Derived.Test.YtjlpjbkpmmpojaaGreatDoorKMayKeepAllx25
import Derived.Test.YtjlpjbkpmmpojaaGreatDoorKMayKeepAllx27
import Derived.Test.YtjlpjbkpmmpojaaGreatDoorKMayKeepQh64abedb4
import Derived.Test.YtjlpjbkpmmpojaaGreatDoorKMayKeepQh6e319487
import Derived.Test.YtjlpjbkpmmpojaaGreatDoorKMayKeepQh738eabfc
import Derived.Test.YtjlpjbkpmmpojaaGreatDoorKMayKeepQh9b113787
import Derived.Test.YtjlpjbkpmmpojaaGreatDoorKMayKeepQhc39a8f39
import Derived.Test.YtjlpjbkpmmpojaaGreatDoorKMayKeepQhd4f6af10
namespace Go.Proofs.YtjlpjbkpmmpojaaGreatDoor.Pure
open Go.RowKit Go.Proofs.YtjlpjbkpmmpojaaGreatDoor.All Go.Proofs.YtjlpjbkpmmpojaaGreatDoorW.PrintWords Go.Proofs.YtjlpjbkpmmpojaaGreatDoorW.PrintLast
set_option linter.unusedVariables false
set_option linter.unusedSimpArgs false

theorem impl_Put_f {l : List S116} {n v : ByteArray} (hl : l.length < 4398046511104) : impl_Put.f l n v = some (putF n v l) := by
  unfold impl_Put.f
  rw [slices_Clone_Field_f hl, Option.bind_some, impl_fieldAt_f hl, Option.bind_some]
  rcases at_cases n v l 0 with ⟨h1, _, h3, _⟩ | ⟨j, hj, h1, _, _, h3, _⟩
  · rw [h1, h3, if_neg (by omega), if_pos hl]
  · rw [h1, h3, if_pos (by omega), if_pos (by omega), if_pos (by omega), Nat.zero_add, rd_F l j hj, Int.toNat_natCast]
/-! ### Merge -/
def mergeF (l r : List S116) : List S116 := r.foldl (fun acc x => putF x.f0 x.f1 acc) l
theorem mergeF_nil (l : List S116) : mergeF l [] = l := by unfold mergeF; rw [List.foldl_nil]
theorem mergeF_cons (l r : List S116) (x : S116) : mergeF l (x :: r) = mergeF (putF x.f0 x.f1 l) r := by unfold mergeF; rw [List.foldl_cons]
theorem mergeF_small {K : Nat} (r : List S116) (hr : ∀ x ∈ r, x.f0.size ≤ K ∧ x.f1.size ≤ K) : ∀ (l : List S116), (∀ x ∈ l, x.f0.size ≤ K ∧ x.f1.size ≤ K) → (mergeF l r).length ≤ l.length + r.length ∧ ∀ x ∈ mergeF l r, x.f0.size ≤ K ∧ x.f1.size ≤ K := by
  induction r with
  | nil => intro l hl; rw [mergeF_nil]; exact ⟨by simp, hl⟩
  | cons y r ih =>
    intro l hl
    have hy := hr y (by simp)
    have hp := putF_length y.f0 y.f1 l
    obtain ⟨h1, h2⟩ := ih (fun x hx => hr x (by simp [hx])) (putF y.f0 y.f1 l) (putF_small hy.1 hy.2 hl)
    rw [mergeF_cons]
    exact ⟨by simp only [List.length_cons]; omega, h2⟩
def mergeR (m : Int) (l : List S116) (b : ByteArray) (r : List S116) : List S116 := if respB m (mergeF l r) b = true then mergeF l r else l
theorem Merge_l0 (K : Nat) (hK : K ≤ 1099511627776) (l r : List S116) (m m2 : Int) (b b2 : ByteArray) (hl : SmallF K l) (hr : SmallF K r) : ∀ (d k i : Nat) (acc : List S116), r.length = i + d → mergeF acc (r.drop i) = mergeF l r → acc.length + d ≤ 2 * K → d + 10 * K + 9 < k →
    impl_Merge.l0 k r (r.length : Int) i m l b m acc b = some (m, mergeR m l b r, b) ∧ spec_Merge.l0 k i m l b m2 r b2 m acc b = some (m, mergeR m l b r, b) := by
  have hsm : SmallF (2 * K) (mergeF l r) := by
    obtain ⟨h1, h2⟩ := mergeF_small r hr.2 l hl.2
    have := hl.1; have := hr.1
    exact ⟨by omega, fun x hx => by have := h2 x hx; omega⟩
  intro d
  induction d with
  | zero =>
    intro k i acc hd hm ha hk
    obtain ⟨k, rfl⟩ := succ_of (show 0 < k by omega)
    rw [List.drop_eq_nil_of_le (by omega), mergeF_nil] at hm
    have hll := hl.1
    simp only [impl_Merge.l0, spec_Merge.l0]
    unfold mergeR
    refine ⟨?_, ?_⟩
    · rw [if_neg (by omega), hm, impl_RespOk_f (K := 2 * K) (by omega) hsm (by omega), Option.bind_some]
      by_cases h : respB m (mergeF l r) b = true
      · rw [if_pos h, if_pos h]
      · rw [if_neg h, if_neg h]
        unfold impl_copyResp.f
        rw [slices_Clone_Field_f (by omega), Option.bind_some, Option.bind_some]
    · rw [if_neg (by omega), hm, spec_RespOk_f (K := 2 * K) (by omega) hsm (by omega), Option.bind_some]
      by_cases h : respB m (mergeF l r) b = true
      · rw [if_pos h, if_pos h]
      · rw [if_neg h, if_neg h]
        unfold spec_l9Resp.f spec_l9Copy.f
        rw [Option.bind_some, if_pos (by simp; omega), Option.bind_some, Option.bind_some]
        rfl
  | succ d ih =>
    intro k i acc hd hm ha hk
    obtain ⟨k, rfl⟩ := succ_of (show 0 < k by omega)
    have hlt : i < r.length := by omega
    have hp := putF_length r[i].f0 r[i].f1 acc
    rw [drop_at hlt, mergeF_cons] at hm
    obtain ⟨i1, i2⟩ := ih k (i + 1) (putF r[i].f0 r[i].f1 acc) (by omega) hm (by omega) (by omega)
    simp only [impl_Merge.l0, spec_Merge.l0]
    refine ⟨?_, ?_⟩
    · rw [if_pos (by omega), if_pos (by omega), if_pos (by omega), rd_F r i hlt, impl_Put_f (by omega), Option.bind_some, nat_round (n := r.length) hlt (by have := hr.1; omega), i1]
    · rw [if_pos (by omega), if_pos (by omega), rd_F r i hlt, spec_Put_f (by omega) (by omega), Option.bind_some, nat_round (n := r.length) hlt (by have := hr.1; omega), i2]
theorem impl_Merge_f {k K : Nat} {m m2 : Int} {l r : List S116} {b b2 : ByteArray} (hK : K ≤ 1099511627776) (hl : SmallF K l) (hr : SmallF K r) (hk : 11 * K + 9 < k) : impl_Merge.f k m l b m2 r b2 = some (m, mergeR m l b r, b) := by
  have h1 := hl.1; have h2 := hr.1
  unfold impl_Merge.f impl_copyResp.f
  rw [slices_Clone_Field_f (by omega), Option.bind_some, Option.bind_some]
  exact (Merge_l0 K hK l r m m2 b b2 hl hr r.length k 0 l (by omega) (by rw [List.drop_zero]) (by omega) (by omega)).1
theorem spec_Merge_f {k K : Nat} {m m2 : Int} {l r : List S116} {b b2 : ByteArray} (hK : K ≤ 1099511627776) (hl : SmallF K l) (hr : SmallF K r) (hk : 11 * K + 9 < k) : spec_Merge.f k m l b m2 r b2 = some (m, mergeR m l b r, b) := by
  have h1 := hl.1; have h2 := hr.1
  unfold spec_Merge.f spec_l9Resp.f spec_l9Copy.f
  rw [Option.bind_some, if_pos (by simp; omega), List.nil_append, Option.bind_some, Option.bind_some]
  exact (Merge_l0 K hK l r m m2 b b2 hl hr r.length k 0 l (by omega) (by rw [List.drop_zero]) (by omega) (by omega)).2
theorem spec_DrawMayKeep_f {k : Nat} {l : List Int} (hl : (l.length : Int) ≤ 4611686018427387904) (hk : l.length + 300 < k) : ∃ m p q b st r rb, spec_DrawMayKeep.f k l = some (m, p, q, b, st, r, rb) ∧ p.size ≤ 61 ∧ SmallF 27 q ∧ b.size ≤ 200 ∧ SmallF 27 r ∧ rb.size ≤ 200 := by
  unfold spec_DrawMayKeep.f
  obtain ⟨m, p, q, b, st, r, rb, e, h⟩ := spec_l9Draw_f hl hk
  rw [e, Option.bind_some]
  exact ⟨m, p, q, b, st, r, rb, rfl, h⟩
theorem spec_DrawMerge_f {k : Nat} {l : List Int} (hl : (l.length : Int) ≤ 4611686018427387904) (hk : l.length + 300 < k) : ∃ m r b m2 r2 b2, spec_DrawMerge.f k l = some (m, r, b, m2, r2, b2) ∧ SmallF 27 r ∧ SmallF 27 r2 := by
  unfold spec_DrawMerge.f
  obtain ⟨h, e⟩ := spec_l1New_f (k := k) hl (by omega)
  rw [e, Option.bind_some]
  dsimp only
  obtain ⟨m, r, b, i1, h1, e1, hr, hb, i10, i11⟩ := spec_l3DrawBadResp_f (k := k) (i := 0) (h := h) hl (by omega) (by omega) (by omega)
  rw [e1, Option.bind_some]
  dsimp only
  obtain ⟨m2, r2, b2, i2, h2, e2, hr2, _⟩ := spec_l3DrawBadResp_f (k := k) (h := h1) hl i10 i11 (by omega)
  rw [e2, Option.bind_some]
  exact ⟨_, _, _, _, _, _, rfl, hr, hr2⟩

end Go.Proofs.YtjlpjbkpmmpojaaGreatDoor.Pure
