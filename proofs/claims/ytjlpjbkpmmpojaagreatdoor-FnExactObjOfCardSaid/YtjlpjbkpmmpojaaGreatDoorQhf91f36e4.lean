/- What the printed functions answer, in plain words: lemmas of this session. No condition of a statement lies here. -/
import Derived.Test.YtjlpjbkpmmpojaaGreatDoorAllx0
import Derived.Test.YtjlpjbkpmmpojaaGreatDoorAllx33
import Derived.Test.YtjlpjbkpmmpojaaGreatDoorAllx34
import Derived.Test.YtjlpjbkpmmpojaaGreatDoorQhd4f6af10
namespace Go.Proofs.YtjlpjbkpmmpojaaGreatDoor.Pure
open Go.RowKit Go.Proofs.YtjlpjbkpmmpojaaGreatDoor.All Go.Proofs.YtjlpjbkpmmpojaaGreatDoorW.PrintWords Go.Proofs.YtjlpjbkpmmpojaaGreatDoorW.PrintLast
set_option linter.unusedVariables false
set_option linter.unusedSimpArgs false

theorem laws_eqFieldS_l0 (l : List S116) (hl : l.length ≤ 4398046511104) : ∀ (d k i : Nat), l.length - i = d → i ≤ l.length → d < k → laws_eqFieldS.l0 k l l i = some true := by
  intro d
  induction d with
  | zero =>
    intro k i hd hi hk
    obtain ⟨k, rfl⟩ := succ_of hk
    simp only [laws_eqFieldS.l0]
    rw [if_neg (by omega)]
  | succ d ih =>
    intro k i hd hi hk
    obtain ⟨k, rfl⟩ := succ_of hk
    simp only [laws_eqFieldS.l0]
    rw [if_pos (by omega), if_pos (by omega)]
    simp only [laws_eqField.f, if_true, Option.bind_some]
    try rw [if_pos (by omega)]
    rw [nat_round (n := l.length) (by omega) (by omega)]
    exact ih k (i + 1) (by omega) (by omega) (by omega)
theorem laws_eqFieldS_f {k : Nat} {l : List S116} (hl : l.length ≤ 4398046511104) (hk : l.length < k) : laws_eqFieldS.f k l l = some true := by
  unfold laws_eqFieldS.f
  rw [if_pos rfl]
  exact laws_eqFieldS_l0 l hl l.length k 0 (by omega) (by omega) hk
/-! ### marks -/
theorem laws_markText_l0 : ∀ (d k : Nat) (n : Int) (acc : ByteArray), n < 10 ^ d → acc.size + d ≤ 1000 → d < k → ∃ t, laws_markText.l0 k n acc = some t := by
  intro d
  induction d with
  | zero =>
    intro k n acc hn ha hk
    obtain ⟨k, rfl⟩ := succ_of hk
    simp only [laws_markText.l0]
    rw [if_neg (by simp at hn; omega), if_pos (by omega)]
    exact ⟨_, rfl⟩
  | succ d ih =>
    intro k n acc hn ha hk
    obtain ⟨k, rfl⟩ := succ_of hk
    simp only [laws_markText.l0, Option.bind_some]
    split
    · rename_i h
      rw [if_pos (by rw [strOfNums_size]; simp; omega)]
      refine ih k _ _ ?_ ?_ (by omega)
      · rw [Int.tdiv_eq_ediv_of_nonneg (by omega)]
        have : (10 : Int) ^ (d + 1) = 10 ^ d * 10 := rfl
        have hdiv : n / 10 < 10 ^ d := by omega
        unfold wrap64
        have : n / 10 ≤ n := by omega
        have h3 : 0 ≤ n / 10 := by omega
        by_cases hb : n / 10 ≤ 9223372036854775807
        · omega
        · have : (0 : Int) < 10 ^ d := by omega
          omega
      · rw [ByteArray.size_append, strOfNums_size]; simp; omega
    · rw [if_pos (by omega)]
      exact ⟨_, rfl⟩
def markT (n : Int) : ByteArray := (laws_markText.f 100 n).getD ⟨#[]⟩
theorem laws_markText_f {k : Nat} {n : Int} (hn : n ≤ 9223372036854775807) (hk : 100 ≤ k) : laws_markText.f k n = some (markT n) := by
  obtain ⟨t, ht⟩ : ∃ t, laws_markText.f 100 n = some t := by
    unfold laws_markText.f
    split
    · exact ⟨_, rfl⟩
    · exact laws_markText_l0 20 100 n _ (by omega) (by decide) (by omega)
  rw [at_rounds (g := fun k => laws_markText.f k n) (fun k => laws_markText.mono n k) hk ht]
  unfold markT; rw [ht]; rfl
def markedF : Nat → Int → List S116
  | 0, _ => []
  | n + 1, m => ⟨markT m, markT (m + 1)⟩ :: markedF n (m + 2)
theorem markedF_length : ∀ n m, (markedF n m).length = n
  | 0, _ => rfl
  | n + 1, m => by simp [markedF, markedF_length n]
theorem laws_markFieldS_l0 (rest : List S116) : ∀ (k : Nat) (pre : List S116) (m : Int), (pre.length : Int) + rest.length ≤ 4398046511104 → 0 ≤ m → m + 2 * rest.length ≤ 4611686018427387904 → rest.length + 100 < k →
    laws_markFieldS.l0 k (pre ++ rest) m pre.length = some (m + 2 * rest.length, pre ++ markedF rest.length m) := by
  induction rest with
  | nil =>
    intro k pre m hl h0 hm hk
    obtain ⟨k, rfl⟩ := succ_of hk
    simp only [laws_markFieldS.l0]
    rw [if_neg (by simp)]
    simp [markedF]
  | cons x rest ih =>
    intro k pre m hl h0 hm hk
    obtain ⟨k, rfl⟩ := succ_of hk
    simp only [List.length_cons] at hl hm hk
    have ih := ih k (pre ++ [⟨markT m, markT (m + 1)⟩]) (m + 2) (by simp; omega) (by omega) (by omega) (by omega)
    have hr : ∀ y : S116, rd_T116 (pre ++ y :: rest) (pre.length : Int) = y := fun y => by simp [rd_T116, List.getD]
    have hs : ∀ y z : S116, (pre ++ y :: rest).set ((pre.length : Int)).toNat z = pre ++ z :: rest := fun y z => by rw [Int.toNat_natCast, List.set_append_right _ _ (by omega), Nat.sub_self, List.set_cons_zero]
    simp only [laws_markFieldS.l0]
    rw [if_pos (by simp; omega), laws_markText_f (by omega) (by omega), Option.bind_some, if_pos (by omega), Option.bind_some, hr, hs, w64 (by omega), laws_markText_f (by omega) (by omega), Option.bind_some, hr, hs, w64 (by omega), w64 (by omega)]
    rw [show m + 1 + 1 = m + 2 by omega, show (pre.length : Int) + 1 = ((pre ++ [(⟨markT m, markT (m + 1)⟩ : S116)]).length : Int) by simp]
    rw [List.append_assoc, List.append_assoc] at ih
    refine Eq.trans ih ?_
    simp only [List.length_cons, markedF]
    refine congrArg some (Prod.ext ?_ rfl)
    show m + 2 + 2 * (rest.length : Int) = m + 2 * ((rest.length + 1 : Nat) : Int)
    omega
theorem laws_markFieldS_f {k : Nat} {l : List S116} {m : Int} (hl : (l.length : Int) ≤ 4398046511104) (h0 : 0 ≤ m) (hm : m ≤ 281474976710656) (hk : l.length + 100 < k) : laws_markFieldS.f k l m = some (m + 2 * l.length, markedF l.length m) := by
  have := laws_markFieldS_l0 l k [] m (by simpa using hl) h0 (by omega) hk
  simpa [laws_markFieldS.f] using this
theorem laws_heldFieldS_l0 (l : List S116) (hl : (l.length : Int) ≤ 4398046511104) : ∀ (d k i : Nat) (m : Int), l.drop i = markedF d m → i + d = l.length → 0 ≤ m → m + 2 * d ≤ 4611686018427387904 → d + 100 < k →
    laws_heldFieldS.l0 k l m i = some (m + 2 * d) := by
  intro d
  induction d with
  | zero =>
    intro k i m hd hi h0 hm hk
    obtain ⟨k, rfl⟩ := succ_of hk
    simp only [laws_heldFieldS.l0]
    rw [if_neg (by omega)]; simp
  | succ d ih =>
    intro k i m hd hi h0 hm hk
    obtain ⟨k, rfl⟩ := succ_of hk
    have hlt : i < l.length := by omega
    rw [drop_at hlt] at hd
    simp only [markedF, List.cons.injEq] at hd
    obtain ⟨h1, h2⟩ := hd
    have hx : rd_T116 l (i : Int) = l[i] := by simp [rd_T116, List.getD, hlt]
    simp only [laws_heldFieldS.l0]
    rw [if_pos (by omega), if_pos (by omega), hx, h1, laws_markText_f (by omega) (by omega), Option.bind_some, if_pos rfl, w64 (n := m + 1) (by omega), laws_markText_f (by omega) (by omega), Option.bind_some, if_pos rfl, w64 (by omega), nat_round (n := l.length) hlt (by omega),
      show m + 1 + 1 = m + 2 by omega, ih k (i + 1) (m + 2) h2 (by omega) (by omega) (by omega) (by omega)]
    congr 1; omega
theorem laws_heldFieldS_f {k n : Nat} {m : Int} (hl : (n : Int) ≤ 4398046511104) (h0 : 0 ≤ m) (hm : m ≤ 281474976710656) (hk : n + 100 < k) : laws_heldFieldS.f k (markedF n m) m = some (m + 2 * n) := by
  unfold laws_heldFieldS.f
  exact laws_heldFieldS_l0 _ (by rw [markedF_length]; exact hl) n k 0 m (by simp) (by rw [markedF_length]; omega) h0 (by omega) hk
theorem laws_eqStringS_l0 (l : List ByteArray) (hl : l.length ≤ 8796093022208) : ∀ (d k i : Nat), l.length - i = d → i ≤ l.length → d < k → laws_eqStringS.l0 k l l i = some true := by
  intro d
  induction d with
  | zero =>
    intro k i hd hi hk
    obtain ⟨k, rfl⟩ := succ_of hk
    simp only [laws_eqStringS.l0]
    rw [if_neg (by omega)]
  | succ d ih =>
    intro k i hd hi hk
    obtain ⟨k, rfl⟩ := succ_of hk
    simp only [laws_eqStringS.l0]
    rw [if_pos (by omega), if_pos (by omega), if_pos (by omega)]
    simp only [if_true]
    rw [nat_round (n := l.length) (by omega) (by omega)]
    exact ih k (i + 1) (by omega) (by omega) (by omega)
theorem laws_eqStringS_f {k : Nat} {l : List ByteArray} (hl : l.length ≤ 8796093022208) (hk : l.length < k) : laws_eqStringS.f k l l = some true := by
  unfold laws_eqStringS.f
  rw [if_pos rfl]
  exact laws_eqStringS_l0 l hl l.length k 0 (by omega) (by omega) hk
def markedB : Nat → Int → List ByteArray
  | 0, _ => []
  | n + 1, m => markT m :: markedB n (m + 1)
theorem markedB_length : ∀ n m, (markedB n m).length = n
  | 0, _ => rfl
  | n + 1, m => by simp [markedB, markedB_length n]
theorem laws_markStringS_l0 (rest : List ByteArray) : ∀ (k : Nat) (pre : List ByteArray) (m : Int), (pre.length : Int) + rest.length ≤ 8796093022208 → 0 ≤ m → m + rest.length ≤ 4611686018427387904 → rest.length + 100 < k →
    laws_markStringS.l0 k (pre ++ rest) m pre.length = some (m + rest.length, pre ++ markedB rest.length m) := by
  induction rest with
  | nil =>
    intro k pre m hl h0 hm hk
    obtain ⟨k, rfl⟩ := succ_of hk
    simp only [laws_markStringS.l0]
    rw [if_neg (by simp)]
    simp [markedB]
  | cons x rest ih =>
    intro k pre m hl h0 hm hk
    obtain ⟨k, rfl⟩ := succ_of hk
    simp only [List.length_cons] at hl hm hk
    have ih := ih k (pre ++ [markT m]) (m + 1) (by simp; omega) (by omega) (by omega) (by omega)
    simp only [laws_markStringS.l0]
    rw [if_pos (by simp; omega), laws_markText_f (by omega) (by omega), Option.bind_some, if_pos (by omega), set_at, w64 (n := m + 1) (by omega), w64 (by omega), show (pre.length : Int) + 1 = ((pre ++ [markT m]).length : Int) by simp]
    rw [List.append_assoc, List.append_assoc] at ih
    refine Eq.trans ih ?_
    simp only [List.length_cons, markedB]
    refine congrArg some (Prod.ext ?_ rfl)
    show m + 1 + (rest.length : Int) = m + ((rest.length + 1 : Nat) : Int)
    omega
theorem laws_markStringS_f {k : Nat} {l : List ByteArray} {m : Int} (hl : (l.length : Int) ≤ 8796093022208) (h0 : 0 ≤ m) (hm : m ≤ 281474976710656) (hk : l.length + 100 < k) : laws_markStringS.f k l m = some (m + l.length, markedB l.length m) := by
  have := laws_markStringS_l0 l k [] m (by simpa using hl) h0 (by omega) hk
  simpa [laws_markStringS.f] using this
theorem laws_heldStringS_l0 (l : List ByteArray) (hl : (l.length : Int) ≤ 8796093022208) : ∀ (d k i : Nat) (m : Int), l.drop i = markedB d m → i + d = l.length → 0 ≤ m → m + d ≤ 4611686018427387904 → d + 100 < k →
    laws_heldStringS.l0 k l m i = some (m + d) := by
  intro d
  induction d with
  | zero =>
    intro k i m hd hi h0 hm hk
    obtain ⟨k, rfl⟩ := succ_of hk
    simp only [laws_heldStringS.l0]
    rw [if_neg (by omega)]; simp
  | succ d ih =>
    intro k i m hd hi h0 hm hk
    obtain ⟨k, rfl⟩ := succ_of hk
    have hlt : i < l.length := by omega
    rw [drop_at hlt] at hd
    simp only [markedB, List.cons.injEq] at hd
    obtain ⟨h1, h2⟩ := hd
    simp only [laws_heldStringS.l0]
    rw [if_pos (by omega), if_pos (by omega), rd_B l i hlt, h1, laws_markText_f (by omega) (by omega), Option.bind_some, if_pos rfl, w64 (n := m + 1) (by omega), nat_round (n := l.length) hlt (by omega),
      ih k (i + 1) (m + 1) h2 (by omega) (by omega) (by omega) (by omega)]
    congr 1; omega
theorem laws_heldStringS_f {k n : Nat} {m : Int} (hl : (n : Int) ≤ 8796093022208) (h0 : 0 ≤ m) (hm : m ≤ 281474976710656) (hk : n + 100 < k) : laws_heldStringS.f k (markedB n m) m = some (m + n) := by
  unfold laws_heldStringS.f
  exact laws_heldStringS_l0 _ (by rw [markedB_length]; exact hl) n k 0 m (by simp) (by rw [markedB_length]; omega) h0 (by omega) hk
theorem laws_eqResp_f {k : Nat} {m : Int} {b : ByteArray} {l : List S116} (hl : l.length ≤ 4398046511104) (hk : l.length < k) : laws_eqResp.f k m l b m l b = some true := by
  unfold laws_eqResp.f
  rw [if_pos rfl, laws_eqFieldS_f hl hk, Option.bind_some, if_pos rfl, if_pos rfl]
theorem laws_markResp_f {k : Nat} {m : Int} {b : ByteArray} {l : List S116} {n : Int} (hl : (l.length : Int) ≤ 4398046511104) (h0 : 0 ≤ n) (hm : n ≤ 281474976710656) (hk : l.length + 100 < k) : laws_markResp.f k m l b n = some (n + 2 * l.length, markedF l.length n) := by
  unfold laws_markResp.f
  rw [laws_markFieldS_f hl h0 hm hk, Option.bind_some]
theorem laws_heldResp_f {k c : Nat} {m : Int} {b : ByteArray} {n : Int} (hl : (c : Int) ≤ 4398046511104) (h0 : 0 ≤ n) (hm : n ≤ 281474976710656) (hk : c + 100 < k) : laws_heldResp.f k m (markedF c n) b n = some (n + 2 * c) := by
  unfold laws_heldResp.f
  rw [laws_heldFieldS_f hl h0 hm hk, Option.bind_some, if_neg (by omega)]
theorem laws_eqObj_f {k : Nat} {p : ByteArray} {ns vs : List ByteArray} {m : Int} {l : List S116} {b : ByteArray} {t : Int} (hn : ns.length ≤ 1048577) (hv : vs.length ≤ 1048577) (hl : l.length ≤ 1048577) (hk : 1048579 < k) : laws_eqObj.f k p ns vs m l b t p ns vs m l b t = some true := by
  unfold laws_eqObj.f
  rw [if_pos rfl, laws_eqStringS_f (by omega) (by omega), Option.bind_some, if_pos rfl, laws_eqStringS_f (by omega) (by omega), Option.bind_some, if_pos rfl, laws_eqResp_f (by omega) (by omega), Option.bind_some, if_pos rfl, if_pos rfl]
theorem laws_markObj_f {k : Nat} {p : ByteArray} {ns vs : List ByteArray} {m : Int} {l : List S116} {b : ByteArray} {t n : Int} (hn : ns.length ≤ 1048577) (hv : vs.length ≤ 1048577) (hl : l.length ≤ 1048577) (h0 : 0 ≤ n) (hm : n ≤ 1000000) (hk : 2000000 < k) :
    laws_markObj.f k p ns vs m l b t n = some (n + ns.length + vs.length + 2 * l.length, markedB ns.length n, markedB vs.length (n + ns.length), markedF l.length (n + ns.length + vs.length)) := by
  unfold laws_markObj.f
  rw [laws_markStringS_f (by omega) h0 (by omega) (by omega), Option.bind_some]
  dsimp only
  rw [laws_markStringS_f (by omega) (by omega) (by omega) (by omega), Option.bind_some]
  dsimp only
  rw [laws_markResp_f (by omega) (by omega) (by omega) (by omega), Option.bind_some]
theorem laws_heldObj_f {k a c d : Nat} {p : ByteArray} {m : Int} {b : ByteArray} {t n : Int} (hn : a ≤ 1048577) (hv : c ≤ 1048577) (hl : d ≤ 1048577) (h0 : 0 ≤ n) (hm : n ≤ 1000000) (hk : 2000000 < k) :
    laws_heldObj.f k p (markedB a n) (markedB c (n + a)) m (markedF d (n + a + c)) b t n = some (n + a + c + 2 * d) := by
  unfold laws_heldObj.f
  rw [laws_heldStringS_f (by omega) h0 (by omega) (by omega), Option.bind_some, if_neg (by omega), laws_heldStringS_f (by omega) (by omega) (by omega) (by omega), Option.bind_some, if_neg (by omega), laws_heldResp_f (by omega) (by omega) (by omega) (by omega), Option.bind_some, if_neg (by omega)]

end Go.Proofs.YtjlpjbkpmmpojaaGreatDoor.Pure
