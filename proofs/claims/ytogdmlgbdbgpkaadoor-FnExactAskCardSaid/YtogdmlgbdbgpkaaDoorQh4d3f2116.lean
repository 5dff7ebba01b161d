/- What the printed functions answer, in plain words: lemmas of this session. No condition of a statement lies here. -/
import Derived.Test.YtogdmlgbdbgpkaaDoorAllx0
import Derived.Test.YtogdmlgbdbgpkaaDoorAllx22
import Derived.Test.YtogdmlgbdbgpkaaDoorAllx27
import Derived.Test.YtogdmlgbdbgpkaaDoorAllx34
import Derived.Test.YtogdmlgbdbgpkaaDoorAllx35
import Derived.Test.YtogdmlgbdbgpkaaDoorQh0a77d438
import Derived.Test.YtogdmlgbdbgpkaaDoorQh5b1878b7
import Derived.Test.YtogdmlgbdbgpkaaDoorQhae073cff
import Derived.Test.YtogdmlgbdbgpkaaDoorQhbe713fc9
namespace Go.Proofs.YtogdmlgbdbgpkaaDoor.Pure
open Go.RowKit Go.Proofs.YtogdmlgbdbgpkaaDoor.All Go.Proofs.YtogdmlgbdbgpkaaDoorW.PrintWords Go.Proofs.YtogdmlgbdbgpkaaDoorW.PrintLast
set_option linter.unusedVariables false
set_option linter.unusedSimpArgs false

def skipI (j : Int) : Nat → List S78 → List S78
  | _, [] => []
  | i, x :: r => if (i : Int) = j then skipI j (i + 1) r else x :: skipI j (i + 1) r
theorem skipI_past (j : Int) : ∀ (l : List S78) (i : Nat), j < i → skipI j i l = l
  | [], _, _ => rfl
  | x :: r, i, h => by rw [skipI, if_neg (by omega), skipI_past j r (i + 1) (by omega)]
theorem skipI_at : ∀ (l : List S78) (i m : Nat), skipI ((i + m : Nat) : Int) i l = l.eraseIdx m
  | [], _, _ => rfl
  | x :: r, i, 0 => by rw [skipI, if_pos (by omega), skipI_past _ r _ (by omega)]; rfl
  | x :: r, i, m + 1 => by
    rw [skipI, if_neg (by omega), List.eraseIdx_cons_succ, ← skipI_at r (i + 1) m]
    rw [show i + (m + 1) = i + 1 + m by omega]
theorem skipI_len (j : Int) : ∀ (l : List S78) (i : Nat), (skipI j i l).length ≤ l.length
  | [], _ => Nat.le_refl _
  | x :: r, i => by
    have := skipI_len j r (i + 1)
    rw [skipI]; split <;> simp only [List.length_cons] <;> omega
theorem spec_Drop_l0 (l : List S78) (j : Int) (hl : l.length < 4398046511104) : ∀ (d k i : Nat) (acc : List S78), l.length - i = d → i ≤ l.length → acc.length ≤ i → d < k →
    spec_Drop.l0 k l j acc i = some (acc ++ skipI j i (l.drop i)) := by
  intro d
  induction d with
  | zero =>
    intro k i acc hd hi ha hk
    obtain ⟨k, rfl⟩ := succ_of hk
    simp only [spec_Drop.l0]
    rw [if_neg (by omega), List.drop_eq_nil_of_le (by omega), skipI, List.append_nil]
  | succ d ih =>
    intro k i acc hd hi ha hk
    obtain ⟨k, rfl⟩ := succ_of hk
    have hlt : i < l.length := by omega
    simp only [spec_Drop.l0]
    rw [if_pos (by omega), rd_F l i hlt, nat_round (n := l.length) hlt (by omega), drop_at hlt, skipI]
    by_cases h : (i : Int) = j
    · rw [if_pos h, if_pos h, ih k (i + 1) acc (by omega) (by omega) (by omega) (by omega)]
    · rw [if_neg h, if_neg h, if_pos (by omega), if_pos (by omega), ih k (i + 1) _ (by omega) (by omega) (by simp; omega) (by omega), List.append_assoc]
      rfl
theorem spec_Drop_f {k : Nat} {l : List S78} {n : ByteArray} (hl : l.length < 4398046511104) (hk : l.length < k) : spec_Drop.f k l n = some (dropF n l) := by
  unfold spec_Drop.f
  rw [spec_l2At_f (by omega) hk, Option.bind_some, show (0 : Int) = ((0 : Nat) : Int) from rfl, spec_Drop_l0 l _ hl l.length k 0 [] (by omega) (by omega) (by simp) hk, List.nil_append, List.drop_zero]
  rcases at_cases n n l 0 with ⟨h1, _, _, h4⟩ | ⟨j, hj, h1, _, _, _, h4⟩
  · rw [h1, h4, skipI_past _ _ _ (by omega)]
  · rw [h1, h4, skipI_at]
theorem impl_Drop_f {l : List S78} {n : ByteArray} (hl : l.length < 4398046511104) : impl_Drop.f l n = some (dropF n l) := by
  unfold impl_Drop.f
  rw [if_pos hl]
  rcases at_cases n n l 0 with ⟨h1, _, _, h4⟩ | ⟨j, hj, h1, _, _, _, h4⟩
  · rw [h1, h4, if_pos (by omega)]
  · rw [h1, h4, if_neg (by omega), Nat.zero_add, Int.toNat_natCast]
theorem laws_markReq_f {k : Nat} {m : Int} {p b : ByteArray} {l : List S78} {n : Int} (hl : (l.length : Int) ≤ 4398046511104) (h0 : 0 ≤ n) (hm : n ≤ 281474976710656) (hk : l.length + 100 < k) : laws_markReq.f k m p l b n = some (n + 2 * l.length, markedF l.length n) := by
  unfold laws_markReq.f
  rw [laws_markFieldS_f hl h0 hm hk, Option.bind_some]
theorem laws_heldReq_f {k c : Nat} {m : Int} {p b : ByteArray} {n : Int} (hl : (c : Int) ≤ 4398046511104) (h0 : 0 ≤ n) (hm : n ≤ 281474976710656) (hk : c + 100 < k) : laws_heldReq.f k m p (markedF c n) b n = some (n + 2 * c) := by
  unfold laws_heldReq.f
  rw [laws_heldFieldS_f hl h0 hm hk, Option.bind_some, if_neg (by omega)]
/-! ### Ask -/
def tagN : ByteArray := ⟨#[101, 116, 97, 103]⟩
def askN : ByteArray := ⟨#[105, 102, 45, 110, 111, 110, 101, 45, 109, 97, 116, 99, 104]⟩
def askF (m : Int) (p : ByteArray) (q : List S78) (b : ByteArray) (l : List S78) : List S78 :=
  match getF tagN l with
  | some t => if reqB m p (putF askN t q) b = true then putF askN t q else dropF askN q
  | none => dropF askN q
theorem SmallF.put {K : Nat} {n v : ByteArray} {l : List S78} (h : SmallF K l) (hn : n.size ≤ K + 13) (hv : v.size ≤ K) : SmallF (K + 13) (putF n v l) := by
  have := putF_length n v l
  have := h.1
  exact ⟨by omega, putF_small (K := K + 13) hn (by omega) (fun x hx => by have := h.2 x hx; omega)⟩
theorem getF_le {K : Nat} {n v : ByteArray} : ∀ {l : List S78}, (∀ x ∈ l, x.f0.size ≤ K ∧ x.f1.size ≤ K) → getF n l = some v → v.size ≤ K
  | y :: r, h, e => by
    simp only [getF] at e
    split at e
    · rw [← Option.some.inj e]; exact (h y (by simp)).2
    · exact getF_le (fun x hx => h x (by simp [hx])) e
theorem askN_size : askN.size ≤ 13 := Nat.le_of_ble_eq_true rfl
theorem askF_length {K : Nat} {m : Int} {p b : ByteArray} {q l : List S78} (hq : q.length ≤ K) : (askF m p q b l).length ≤ K + 1 := by
  have h1 := dropF_length askN q
  unfold askF
  split
  · rename_i t _
    have h2 := putF_length askN t q
    split <;> omega
  · omega
theorem spec_Ask_f {k K : Nat} {m : Int} {p b : ByteArray} {q l : List S78} (hK : K ≤ 1099511627776) (hp : p.size ≤ K) (hq : SmallF K q) (hl : SmallF K l) (hk : 5 * K + 90 < k) : spec_Ask.f k m p q b l = some (m, p, askF m p q b l, b) := by
  have hq1 := hq.1
  have hl1 := hl.1
  unfold spec_Ask.f askF
  rw [spec_Get_f (by omega) (by omega), Option.bind_some]
  show (if (getF tagN l).isSome = true then (spec_Put.f k q askN ((getF tagN l).getD ⟨#[]⟩)).bind _ else (spec_Drop.f k q askN).bind _) = _
  cases h : getF tagN l with
  | none =>
    rw [if_neg (by simp), spec_Drop_f (by omega) (by omega), Option.bind_some]
  | some t =>
    have ht := getF_le hl.2 h
    rw [if_pos (by simp), Option.getD_some, spec_Put_f (by omega) (by omega), Option.bind_some, spec_ReqOk_f (K := K + 13) (by omega) (by omega) (hq.put (by have := askN_size; omega) ht) (by omega), Option.bind_some]
    dsimp only
    by_cases hr : reqB m p (putF askN t q) b = true
    · rw [if_pos hr, if_pos hr]
    · rw [if_neg hr, if_neg hr]
      show (spec_Drop.f k q askN).bind _ = _
      rw [spec_Drop_f (by omega) (by omega), Option.bind_some]
theorem impl_Ask_f {k K : Nat} {m : Int} {p b : ByteArray} {q l : List S78} (hK : K ≤ 1099511627776) (hp : p.size ≤ K) (hq : SmallF K q) (hl : SmallF K l) (hk : 5 * K + 90 < k) : impl_Ask.f k m p q b l = some (m, p, askF m p q b l, b) := by
  have hq1 := hq.1
  have hl1 := hl.1
  unfold impl_Ask.f askF impl_copyReq.f
  rw [impl_Get_f (by omega), Option.bind_some, slices_Clone_Field_f (by omega), Option.bind_some, Option.bind_some]
  dsimp only
  show (impl_Put.f q askN ((getF tagN l).getD ⟨#[]⟩)).bind (fun t => if (getF tagN l).isSome = true then _ else (impl_Drop.f q askN).bind _) = _
  rw [impl_Put_f (by omega), Option.bind_some]
  cases h : getF tagN l with
  | none =>
    rw [if_neg (by simp), impl_Drop_f (by omega), Option.bind_some]
  | some t =>
    have ht := getF_le hl.2 h
    rw [if_pos (by simp), Option.getD_some, impl_ReqOk_f (K := K + 13) (by omega) (by omega) (hq.put (by have := askN_size; omega) ht) (by omega), Option.bind_some]
    dsimp only
    by_cases hr : reqB m p (putF askN t q) b = true
    · rw [if_pos hr, if_pos hr]
    · rw [if_neg hr, if_neg hr]
      show (impl_Drop.f q askN).bind _ = _
      rw [impl_Drop_f (by omega), Option.bind_some]

end Go.Proofs.YtogdmlgbdbgpkaaDoor.Pure
