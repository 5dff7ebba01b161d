/- What the printed functions answer, in plain words: lemmas of this session. No condition of a statement lies here. -/
import Derived.Test.YtjckfmipegemcaaGreatDoorAllx0
import Derived.Test.YtjckfmipegemcaaGreatDoorAllx12
import Derived.Test.YtjckfmipegemcaaGreatDoorAllx13
import Derived.Test.YtjckfmipegemcaaGreatDoorQh6fc61ffa
import Derived.Test.YtjckfmipegemcaaGreatDoorQh9403bd91
namespace Go.Proofs.YtjckfmipegemcaaGreatDoor.Pure
open Go.RowKit Go.Proofs.YtjckfmipegemcaaGreatDoor.All Go.Proofs.YtjckfmipegemcaaGreatDoorW.PrintWords Go.Proofs.YtjckfmipegemcaaGreatDoorW.PrintLast
set_option linter.unusedVariables false
set_option linter.unusedSimpArgs false

/-! ### marks -/
theorem laws_markText_l0 : ∀ (d k : Nat) (n : Int) (acc : ByteArray), n < 10 ^ d → acc.size + d ≤ 1000 → d < k → ∃ t, laws_markText.l0 k n acc = some t := by
  intro d
  induction d with
  | zero =>
    intro k n acc hn ha hk
    obtain ⟨k, rfl⟩ := succ_of hk
    simp only [laws_markText.l0]
    rw [if_neg (by simp at hn; omega), if_pos (by omega)]
    exact ⟨_, rfl⟩
  | succ d ih =>
    intro k n acc hn ha hk
    obtain ⟨k, rfl⟩ := succ_of hk
    simp only [laws_markText.l0, Option.bind_some]
    split
    · rename_i h
      rw [if_pos (by rw [strOfNums_size]; simp; omega)]
      refine ih k _ _ ?_ ?_ (by omega)
      · rw [Int.tdiv_eq_ediv_of_nonneg (by omega)]
        have : (10 : Int) ^ (d + 1) = 10 ^ d * 10 := rfl
        have hdiv : n / 10 < 10 ^ d := by omega
        unfold wrap64
        have : n / 10 ≤ n := by omega
        have h3 : 0 ≤ n / 10 := by omega
        by_cases hb : n / 10 ≤ 9223372036854775807
        · omega
        · have : (0 : Int) < 10 ^ d := by omega
          omega
      · rw [ByteArray.size_append, strOfNums_size]; simp; omega
    · rw [if_pos (by omega)]
      exact ⟨_, rfl⟩
def markT (n : Int) : ByteArray := (laws_markText.f 100 n).getD ⟨#[]⟩
theorem laws_markText_f {k : Nat} {n : Int} (hn : n ≤ 9223372036854775807) (hk : 100 ≤ k) : laws_markText.f k n = some (markT n) := by
  obtain ⟨t, ht⟩ : ∃ t, laws_markText.f 100 n = some t := by
    unfold laws_markText.f
    split
    · exact ⟨_, rfl⟩
    · exact laws_markText_l0 20 100 n _ (by omega) (by decide) (by omega)
  rw [at_rounds (g := fun k => laws_markText.f k n) (fun k => laws_markText.mono n k) hk ht]
  unfold markT; rw [ht]; rfl
def markedF : Nat → Int → List S81
  | 0, _ => []
  | n + 1, m => ⟨markT m, markT (m + 1)⟩ :: markedF n (m + 2)
theorem markedF_length : ∀ n m, (markedF n m).length = n
  | 0, _ => rfl
  | n + 1, m => by simp [markedF, markedF_length n]
theorem laws_markFieldS_l0 (rest : List S81) : ∀ (k : Nat) (pre : List S81) (m : Int), (pre.length : Int) + rest.length ≤ 4398046511104 → 0 ≤ m → m + 2 * rest.length ≤ 4611686018427387904 → rest.length + 100 < k →
    laws_markFieldS.l0 k (pre ++ rest) m pre.length = some (m + 2 * rest.length, pre ++ markedF rest.length m) := by
  induction rest with
  | nil =>
    intro k pre m hl h0 hm hk
    obtain ⟨k, rfl⟩ := succ_of hk
    simp only [laws_markFieldS.l0]
    rw [if_neg (by simp)]
    simp [markedF]
  | cons x rest ih =>
    intro k pre m hl h0 hm hk
    obtain ⟨k, rfl⟩ := succ_of hk
    simp only [List.length_cons] at hl hm hk
    have ih := ih k (pre ++ [⟨markT m, markT (m + 1)⟩]) (m + 2) (by simp; omega) (by omega) (by omega) (by omega)
    have hr : ∀ y : S81, rd_T81 (pre ++ y :: rest) (pre.length : Int) = y := fun y => by simp [rd_T81, List.getD]
    have hs : ∀ y z : S81, (pre ++ y :: rest).set ((pre.length : Int)).toNat z = pre ++ z :: rest := fun y z => by rw [Int.toNat_natCast, List.set_append_right _ _ (by omega), Nat.sub_self, List.set_cons_zero]
    simp only [laws_markFieldS.l0]
    rw [if_pos (by simp; omega), laws_markText_f (by omega) (by omega), Option.bind_some, if_pos (by omega), Option.bind_some, hr, hs, w64 (by omega), laws_markText_f (by omega) (by omega), Option.bind_some, hr, hs, w64 (by omega), w64 (by omega)]
    rw [show m + 1 + 1 = m + 2 by omega, show (pre.length : Int) + 1 = ((pre ++ [(⟨markT m, markT (m + 1)⟩ : S81)]).length : Int) by simp]
    rw [List.append_assoc, List.append_assoc] at ih
    refine Eq.trans ih ?_
    simp only [List.length_cons, markedF]
    refine congrArg some (Prod.ext ?_ rfl)
    show m + 2 + 2 * (rest.length : Int) = m + 2 * ((rest.length + 1 : Nat) : Int)
    omega
theorem laws_markFieldS_f {k : Nat} {l : List S81} {m : Int} (hl : (l.length : Int) ≤ 4398046511104) (h0 : 0 ≤ m) (hm : m ≤ 281474976710656) (hk : l.length + 100 < k) : laws_markFieldS.f k l m = some (m + 2 * l.length, markedF l.length m) := by
  have := laws_markFieldS_l0 l k [] m (by simpa using hl) h0 (by omega) hk
  simpa [laws_markFieldS.f] using this
theorem laws_heldFieldS_l0 (l : List S81) (hl : (l.length : Int) ≤ 4398046511104) : ∀ (d k i : Nat) (m : Int), l.drop i = markedF d m → i + d = l.length → 0 ≤ m → m + 2 * d ≤ 4611686018427387904 → d + 100 < k →
    laws_heldFieldS.l0 k l m i = some (m + 2 * d) := by
  intro d
  induction d with
  | zero =>
    intro k i m hd hi h0 hm hk
    obtain ⟨k, rfl⟩ := succ_of hk
    simp only [laws_heldFieldS.l0]
    rw [if_neg (by omega)]; simp
  | succ d ih =>
    intro k i m hd hi h0 hm hk
    obtain ⟨k, rfl⟩ := succ_of hk
    have hlt : i < l.length := by omega
    rw [drop_at hlt] at hd
    simp only [markedF, List.cons.injEq] at hd
    obtain ⟨h1, h2⟩ := hd
    have hx : rd_T81 l (i : Int) = l[i] := by simp [rd_T81, List.getD, hlt]
    simp only [laws_heldFieldS.l0]
    rw [if_pos (by omega), if_pos (by omega), hx, h1, laws_markText_f (by omega) (by omega), Option.bind_some, if_pos rfl, w64 (n := m + 1) (by omega), laws_markText_f (by omega) (by omega), Option.bind_some, if_pos rfl, w64 (by omega), nat_round (n := l.length) hlt (by omega),
      show m + 1 + 1 = m + 2 by omega, ih k (i + 1) (m + 2) h2 (by omega) (by omega) (by omega) (by omega)]
    congr 1; omega
theorem laws_heldFieldS_f {k n : Nat} {m : Int} (hl : (n : Int) ≤ 4398046511104) (h0 : 0 ≤ m) (hm : m ≤ 281474976710656) (hk : n + 100 < k) : laws_heldFieldS.f k (markedF n m) m = some (m + 2 * n) := by
  unfold laws_heldFieldS.f
  exact laws_heldFieldS_l0 _ (by rw [markedF_length]; exact hl) n k 0 m (by simp) (by rw [markedF_length]; omega) h0 (by omega) hk
def markQ : List S40 → Int → Int × List S40
  | [], m => (m, [])
  | x :: r, m => ((markQ r (m + 3 + 2 * x.f2.length)).1, ⟨m, markT (m + 1), markedF x.f2.length (m + 2), markT (m + 2 + 2 * x.f2.length)⟩ :: (markQ r (m + 3 + 2 * x.f2.length)).2)
theorem markQ_len : ∀ (l : List S40) (m : Int), (markQ l m).2.length = l.length
  | [], _ => rfl
  | x :: r, m => by rw [markQ, List.length_cons, List.length_cons, markQ_len r]
theorem markQ_ge : ∀ (l : List S40) (m : Int), m ≤ (markQ l m).1
  | [], _ => Int.le_refl _
  | x :: r, m => by rw [markQ]; have := markQ_ge r (m + 3 + 2 * x.f2.length); dsimp only; omega
theorem markGo_f {k : Nat} (hk : 1200 < k) : ∀ (l : List S40) (m : Int), (∀ x ∈ l, x.f2.length ≤ 1000) → 0 ≤ m → m + 2003 * l.length ≤ 281474976710656 → markGo k l m = some (markQ l m)
  | [], m, _, _, _ => rfl
  | x :: r, m, hs, h0, hm => by
    have hx := hs x (by simp)
    rw [List.length_cons] at hm
    rw [markGo, w64 (n := m + 1) (by omega), w64 (n := m + 1 + 1) (by omega), laws_markText_f (by omega) (by omega), Option.bind_some, laws_markFieldS_f (by omega) (by omega) (by omega) (by omega), Option.bind_some]
    dsimp only
    rw [laws_markText_f (by omega) (by omega), Option.bind_some, w64 (by omega), show m + 1 + 1 + 2 * (x.f2.length : Int) + 1 = m + 3 + 2 * x.f2.length by omega, markGo_f hk r _ (fun y hy => hs y (by simp [hy])) (by omega) (by omega), Option.bind_some, markQ,
      show m + 1 + 1 = m + 2 by omega]
theorem laws_markReqS_f {k : Nat} {l : List S40} (hk : 1200 < k) (hs : ∀ x ∈ l, x.f2.length ≤ 1000) (hl : l.length ≤ 10000000) : laws_markReqS.f k l 1 = some (markQ l 1) := by
  unfold laws_markReqS.f
  rw [if_pos (by omega), markGo_f hk l 1 hs (by omega) (by omega)]
theorem laws_heldReqS_l0 {K : Nat} (hK : 1300 ≤ K) : ∀ (l : List S40) (pre : List S40) (k : Nat) (m : Int), (∀ x ∈ l, x.f2.length ≤ 1000) → 0 ≤ m → m + 2003 * l.length ≤ 281474976710656 → (pre.length : Int) + l.length ≤ 1000000000 → l.length + K < k →
    laws_heldReqS.l0 k (pre ++ (markQ l m).2) m (pre.length : Int) = some (markQ l m).1 := by
  intro l
  induction l with
  | nil =>
    intro pre k m _ _ _ _ hk
    obtain ⟨k, rfl⟩ := succ_of (show 0 < k by omega)
    unfold laws_heldReqS.l0
    rw [markQ, List.append_nil, if_neg (by omega)]
  | cons x r ihr =>
    intro pre k m hs h0 hm hl hk
    have hx := hs x (by simp)
    rw [List.length_cons] at hm hl hk
    obtain ⟨k, rfl⟩ := succ_of (show 0 < k by omega)
    have hlen := markQ_len r (m + 3 + 2 * x.f2.length)
    have hi : pre.length < (pre ++ (markQ (x :: r) m).2).length := by rw [List.length_append, markQ_len, List.length_cons]; omega
    have hrd : rd_T40 (pre ++ (markQ (x :: r) m).2) (pre.length : Int) = ⟨m, markT (m + 1), markedF x.f2.length (m + 2), markT (m + 2 + 2 * x.f2.length)⟩ := by
      rw [rd_Q _ _ hi]
      simp [markQ]
    have ih := ihr (pre ++ [⟨m, markT (m + 1), markedF x.f2.length (m + 2), markT (m + 2 + 2 * x.f2.length)⟩]) k (m + 3 + 2 * x.f2.length) (fun y hy => hs y (by simp [hy])) (by omega) (by omega) (by simp; omega) (by omega)
    rw [List.append_assoc, List.length_append, List.length_singleton] at ih
    unfold laws_heldReqS.l0
    rw [if_pos (by omega), if_pos (by omega), hrd]
    dsimp only
    rw [if_pos rfl, w64 (n := m + 1) (by omega), w64 (n := m + 1 + 1) (by omega), laws_markText_f (by omega) (by omega), Option.bind_some, if_pos rfl, show m + 1 + 1 = m + 2 by omega, laws_heldFieldS_f (by omega) (by omega) (by omega) (by omega), Option.bind_some, if_neg (by omega), laws_markText_f (by omega) (by omega), Option.bind_some, if_pos rfl,
      w64 (n := m + 2 + 2 * (x.f2.length : Int) + 1) (by omega), show m + 2 + 2 * (x.f2.length : Int) + 1 = m + 3 + 2 * x.f2.length by omega, w64 (n := (pre.length : Int) + 1) (by omega)]
    exact ih
theorem laws_heldReqS_f {k : Nat} {l : List S40} (hs : ∀ x ∈ l, x.f2.length ≤ 1000) (hl : l.length ≤ 10000000) (hk : l.length + 1300 < k) : laws_heldReqS.f k (markQ l 1).2 1 = some (markQ l 1).1 :=
  laws_heldReqS_l0 (K := 1300) (Nat.le_refl _) l [] k 1 hs (by omega) (by omega) (by simp; omega) hk

end Go.Proofs.YtjckfmipegemcaaGreatDoor.Pure
