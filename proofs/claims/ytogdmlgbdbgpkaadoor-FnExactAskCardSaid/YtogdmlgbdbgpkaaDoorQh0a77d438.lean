/- What the printed functions answer, in plain words: lemmas of this session. No condition of a statement lies here. -/
import Derived.Test.YtogdmlgbdbgpkaaDoorAllx0
import Derived.Test.YtogdmlgbdbgpkaaDoorAllx22
import Derived.Test.YtogdmlgbdbgpkaaDoorAllx23
import Derived.Test.YtogdmlgbdbgpkaaDoorQh5b1878b7
import Derived.Test.YtogdmlgbdbgpkaaDoorQh692a288c
import Derived.Test.YtogdmlgbdbgpkaaDoorQhae073cff
namespace Go.Proofs.YtogdmlgbdbgpkaaDoor.Pure
open Go.RowKit Go.Proofs.YtogdmlgbdbgpkaaDoor.All Go.Proofs.YtogdmlgbdbgpkaaDoorW.PrintWords Go.Proofs.YtogdmlgbdbgpkaaDoorW.PrintLast
set_option linter.unusedVariables false
set_option linter.unusedSimpArgs false

def markedF : Nat → Int → List S78
  | 0, _ => []
  | n + 1, m => ⟨markT m, markT (m + 1)⟩ :: markedF n (m + 2)
theorem markedF_length : ∀ n m, (markedF n m).length = n
  | 0, _ => rfl
  | n + 1, m => by simp [markedF, markedF_length n]
theorem laws_markFieldS_l0 (rest : List S78) : ∀ (k : Nat) (pre : List S78) (m : Int), (pre.length : Int) + rest.length ≤ 4398046511104 → 0 ≤ m → m + 2 * rest.length ≤ 4611686018427387904 → rest.length + 100 < k →
    laws_markFieldS.l0 k (pre ++ rest) m pre.length = some (m + 2 * rest.length, pre ++ markedF rest.length m) := by
  induction rest with
  | nil =>
    intro k pre m hl h0 hm hk
    obtain ⟨k, rfl⟩ := succ_of hk
    simp only [laws_markFieldS.l0]
    rw [if_neg (by simp)]
    simp [markedF]
  | cons x rest ih =>
    intro k pre m hl h0 hm hk
    obtain ⟨k, rfl⟩ := succ_of hk
    simp only [List.length_cons] at hl hm hk
    have ih := ih k (pre ++ [⟨markT m, markT (m + 1)⟩]) (m + 2) (by simp; omega) (by omega) (by omega) (by omega)
    have hr : ∀ y : S78, rd_T78 (pre ++ y :: rest) (pre.length : Int) = y := fun y => by simp [rd_T78, List.getD]
    have hs : ∀ y z : S78, (pre ++ y :: rest).set ((pre.length : Int)).toNat z = pre ++ z :: rest := fun y z => by rw [Int.toNat_natCast, List.set_append_right _ _ (by omega), Nat.sub_self, List.set_cons_zero]
    simp only [laws_markFieldS.l0]
    rw [if_pos (by simp; omega), laws_markText_f (by omega) (by omega), Option.bind_some, if_pos (by omega), Option.bind_some, hr, hs, w64 (by omega), laws_markText_f (by omega) (by omega), Option.bind_some, hr, hs, w64 (by omega), w64 (by omega)]
    rw [show m + 1 + 1 = m + 2 by omega, show (pre.length : Int) + 1 = ((pre ++ [(⟨markT m, markT (m + 1)⟩ : S78)]).length : Int) by simp]
    rw [List.append_assoc, List.append_assoc] at ih
    refine Eq.trans ih ?_
    simp only [List.length_cons, markedF]
    refine congrArg some (Prod.ext ?_ rfl)
    show m + 2 + 2 * (rest.length : Int) = m + 2 * ((rest.length + 1 : Nat) : Int)
    omega
theorem laws_markFieldS_f {k : Nat} {l : List S78} {m : Int} (hl : (l.length : Int) ≤ 4398046511104) (h0 : 0 ≤ m) (hm : m ≤ 281474976710656) (hk : l.length + 100 < k) : laws_markFieldS.f k l m = some (m + 2 * l.length, markedF l.length m) := by
  have := laws_markFieldS_l0 l k [] m (by simpa using hl) h0 (by omega) hk
  simpa [laws_markFieldS.f] using this
theorem laws_heldFieldS_l0 (l : List S78) (hl : (l.length : Int) ≤ 4398046511104) : ∀ (d k i : Nat) (m : Int), l.drop i = markedF d m → i + d = l.length → 0 ≤ m → m + 2 * d ≤ 4611686018427387904 → d + 100 < k →
    laws_heldFieldS.l0 k l m i = some (m + 2 * d) := by
  intro d
  induction d with
  | zero =>
    intro k i m hd hi h0 hm hk
    obtain ⟨k, rfl⟩ := succ_of hk
    simp only [laws_heldFieldS.l0]
    rw [if_neg (by omega)]; simp
  | succ d ih =>
    intro k i m hd hi h0 hm hk
    obtain ⟨k, rfl⟩ := succ_of hk
    have hlt : i < l.length := by omega
    rw [drop_at hlt] at hd
    simp only [markedF, List.cons.injEq] at hd
    obtain ⟨h1, h2⟩ := hd
    have hx : rd_T78 l (i : Int) = l[i] := by simp [rd_T78, List.getD, hlt]
    simp only [laws_heldFieldS.l0]
    rw [if_pos (by omega), if_pos (by omega), hx, h1, laws_markText_f (by omega) (by omega), Option.bind_some, if_pos rfl, w64 (n := m + 1) (by omega), laws_markText_f (by omega) (by omega), Option.bind_some, if_pos rfl, w64 (by omega), nat_round (n := l.length) hlt (by omega),
      show m + 1 + 1 = m + 2 by omega, ih k (i + 1) (m + 2) h2 (by omega) (by omega) (by omega) (by omega)]
    congr 1; omega
theorem laws_heldFieldS_f {k n : Nat} {m : Int} (hl : (n : Int) ≤ 4398046511104) (h0 : 0 ≤ m) (hm : m ≤ 281474976710656) (hk : n + 100 < k) : laws_heldFieldS.f k (markedF n m) m = some (m + 2 * n) := by
  unfold laws_heldFieldS.f
  exact laws_heldFieldS_l0 _ (by rw [markedF_length]; exact hl) n k 0 m (by simp) (by rw [markedF_length]; omega) h0 (by omega) hk
theorem slices_Clone_Field_f {l : List S78} (hl : l.length < 4398046511104) : slices_Clone_Field.f l = some l := by
  unfold slices_Clone_Field.f; rw [if_pos hl]
theorem impl_Put_f {l : List S78} {n v : ByteArray} (hl : l.length < 4398046511104) : impl_Put.f l n v = some (putF n v l) := by
  unfold impl_Put.f
  rw [slices_Clone_Field_f hl, Option.bind_some, impl_fieldAt_f hl, Option.bind_some]
  rcases at_cases n v l 0 with ⟨h1, _, h3, _⟩ | ⟨j, hj, h1, _, _, h3, _⟩
  · rw [h1, h3, if_neg (by omega), if_pos hl]
  · rw [h1, h3, if_pos (by omega), if_pos (by omega), if_pos (by omega), Nat.zero_add, rd_F l j hj, Int.toNat_natCast]
theorem spec_Put_f {k : Nat} {l : List S78} {n v : ByteArray} (hl : l.length < 4398046511104) (hk : l.length < k) : spec_Put.f k l n v = some (putF n v l) := by
  unfold spec_Put.f
  rw [Option.bind_some, if_pos (by simpa using hl), Option.bind_some, spec_l2At_f (by omega) hk, Option.bind_some, List.nil_append]
  rcases at_cases n v l 0 with ⟨h1, _, h3, _⟩ | ⟨j, hj, h1, _, _, h3, _⟩
  · rw [h1, h3, if_pos (by omega), if_pos hl]
  · rw [h1, h3, if_neg (by omega), if_pos (by omega), if_pos (by omega), Nat.zero_add, rd_F l j hj, Int.toNat_natCast]
theorem putF_small {K : Nat} {n v : ByteArray} (hn : n.size ≤ K) (hv : v.size ≤ K) : ∀ {l : List S78}, (∀ x ∈ l, x.f0.size ≤ K ∧ x.f1.size ≤ K) → ∀ x ∈ putF n v l, x.f0.size ≤ K ∧ x.f1.size ≤ K
  | [], _, x, hx => by simp only [putF, List.mem_singleton] at hx; rw [hx]; exact ⟨hn, hv⟩
  | y :: r, h, x, hx => by
    have hy := h y (by simp)
    have hr : ∀ x ∈ r, x.f0.size ≤ K ∧ x.f1.size ≤ K := fun x hx => h x (by simp [hx])
    simp only [putF] at hx
    split at hx
    · rcases List.mem_cons.1 hx with rfl | hx
      · exact ⟨hy.1, hv⟩
      · exact hr x hx
    · rcases List.mem_cons.1 hx with rfl | hx
      · exact hy
      · exact putF_small hn hv hr x hx

end Go.Proofs.YtogdmlgbdbgpkaaDoor.Pure
