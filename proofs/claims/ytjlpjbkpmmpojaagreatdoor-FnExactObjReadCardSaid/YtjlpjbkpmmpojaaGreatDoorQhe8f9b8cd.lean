/- What the printed functions answer, in plain words: lemmas of this session. No condition of a statement lies here. -/
import Derived.Test.YtjlpjbkpmmpojaaGreatDoorAllx0
import Derived.Test.YtjlpjbkpmmpojaaGreatDoorAllx1
import Derived.Test.YtjlpjbkpmmpojaaGreatDoorAllx19
import Derived.Test.YtjlpjbkpmmpojaaGreatDoorQh157cdd32
namespace Go.Proofs.YtjlpjbkpmmpojaaGreatDoor.Pure
open Go.RowKit Go.Proofs.YtjlpjbkpmmpojaaGreatDoor.All Go.Proofs.YtjlpjbkpmmpojaaGreatDoorW.PrintWords Go.Proofs.YtjlpjbkpmmpojaaGreatDoorW.PrintLast
set_option linter.unusedVariables false
set_option linter.unusedSimpArgs false

theorem impl_NumText_f {n : Int} : impl_NumText.f n = some (numT n) := by
  unfold impl_NumText.f numT
  rw [impl_inRange_f, Option.bind_some]
  by_cases h : 0 ≤ n ∧ n ≤ 1000000
  · rw [if_pos (decide_eq_true h), if_pos h]
    unfold strconv_Itoa.f
    rw [if_pos (by omega), Option.bind_some]
  · rw [if_neg (by simpa using h), if_neg h]
/-- bytes as a text -/
def Tx (l : List UInt8) : ByteArray := ⟨l.toArray⟩
theorem B_Tx (l : List UInt8) : B (Tx l) = l := B_mk l
theorem Tx_B (s : ByteArray) : Tx (B s) = s := B_ext (B_Tx _)
theorem Tx_append (a b : List UInt8) : Tx (a ++ b) = Tx a ++ Tx b := B_ext (by rw [B_append, B_Tx, B_Tx, B_Tx])
theorem Tx_inj {a b : List UInt8} (h : Tx a = Tx b) : a = b := by rw [← B_Tx a, h, B_Tx]
theorem Tx_size (l : List UInt8) : (Tx l).size = l.length := by rw [← B_len, B_Tx]
/-! ### texts of lines, in plain words -/
theorem occ_ne {s r : List UInt8} {c : UInt8} {j : Nat} (h : s[j]? ≠ some c) : Lib.occAt s (c :: r) j = false := by
  unfold Lib.occAt
  cases e : s.drop j with
  | nil => rfl
  | cons x t =>
    have hx : s[j]? = some x := by rw [← List.head?_drop, e]; rfl
    have hc : c ≠ x := fun he => h (by rw [hx, he])
    simp only [List.isPrefixOf]
    rw [beq_eq_false_iff_ne.2 hc]; rfl
theorem occ_free {a b r : List UInt8} {c : UInt8} {j : Nat} (h : c ∉ a) (hj : j < a.length) : Lib.occAt (a ++ b) (c :: r) j = false := by
  refine occ_ne fun e => h ?_
  rw [List.getElem?_append_left hj] at e
  exact List.mem_of_getElem? e
theorem occ_here (a b sub : List UInt8) : Lib.occAt (a ++ (sub ++ b)) sub a.length = true := by
  unfold Lib.occAt
  rw [List.drop_left]
  induction sub with
  | nil => rfl
  | cons c r ih => simp only [List.cons_append, List.isPrefixOf]; rw [ih]; simp
theorem index_app {a b r : List UInt8} {c : UInt8} (h : c ∉ a) : Lib.index (a ++ ((c :: r) ++ b)) (c :: r) = (a.length : Int) :=
  Lib.index_first (by simp) (occ_here a b (c :: r)) (fun _ hj => occ_free h hj)
theorem index_free {a r : List UInt8} {c : UInt8} (h : c ∉ a) : Lib.index a (c :: r) = -1 :=
  Lib.index_none fun j _ => occ_ne fun e => h (List.mem_of_getElem? e)
theorem cut_app {a b r : List UInt8} {c : UInt8} (h : c ∉ a) : Lib.cut (a ++ ((c :: r) ++ b)) (c :: r) = (a, b, true) := by
  unfold Lib.cut
  rw [index_app h, if_pos (by omega), Int.toNat_natCast, List.take_left, List.drop_append, List.drop_eq_nil_of_le (by omega), List.nil_append, Nat.add_sub_cancel_left, List.drop_left]
theorem cut_free {a r : List UInt8} {c : UInt8} (h : c ∉ a) : Lib.cut a (c :: r) = (a, [], false) := by
  unfold Lib.cut
  rw [index_free h, if_neg (by omega)]
theorem splitBs_app {a b sep : ByteArray} {c : UInt8} {r : List UInt8} (hs : B sep = c :: r) (ha : c ∉ B a) : splitBs (a ++ (sep ++ b)) sep = a :: splitBs b sep := by
  have hz : 1 ≤ sep.size := by rw [← B_len, hs]; simp
  have hB : B (a ++ (sep ++ b)) = B a ++ ((c :: r) ++ B b) := by rw [B_append, B_append, hs]
  have hl : a.size ≤ (B (a ++ (sep ++ b))).length := by rw [hB, List.length_append, B_len]; omega
  rw [splitBs_at (a ++ (sep ++ b)) sep a.size hz hl (by rw [hB, hs, ← B_len]; exact occ_here _ _ _) (fun j hj => by rw [hB, hs]; exact occ_free ha (by rw [B_len]; exact hj))]
  congr 1
  · apply B_ext
    rw [B_extract, hB, List.drop_zero, ← B_len, List.take_left]
  · congr 1
    apply B_ext
    have hsz : (a ++ (sep ++ b)).size = a.size + sep.size + b.size := by rw [ByteArray.size_append, ByteArray.size_append]; omega
    rw [B_extract, hsz, List.take_of_length_le (by rw [B_len]; omega), B_append, B_append, ← List.append_assoc, List.drop_left' (by rw [List.length_append, B_len, B_len])]
theorem splitBs_free {a sep : ByteArray} {c : UInt8} {r : List UInt8} (hs : B sep = c :: r) (ha : c ∉ B a) : splitBs a sep = [a] :=
  splitBs_none a sep fun j _ => by rw [hs]; exact occ_ne fun e => ha (List.mem_of_getElem? e)
/-- lines, each with its end -/
def lineT : List (List UInt8) → List UInt8
  | [] => []
  | x :: r => x ++ (13 :: 10 :: lineT r)
/-- lines, ends between them -/
def joinT : List (List UInt8) → List UInt8
  | [] => []
  | [x] => x
  | x :: y :: r => x ++ (13 :: 10 :: joinT (y :: r))
theorem lineT_join : ∀ {l : List (List UInt8)}, l ≠ [] → lineT l = joinT l ++ [13, 10]
  | [], h => absurd rfl h
  | [x], _ => by simp [lineT, joinT]
  | x :: y :: r, _ => by rw [lineT, joinT, lineT_join (l := y :: r) (by simp)]; simp
theorem lineT_append : ∀ a b, lineT (a ++ b) = lineT a ++ lineT b
  | [], b => rfl
  | x :: r, b => by simp [lineT, lineT_append r b]
def GoodL (l : List (List UInt8)) : Prop := ∀ x ∈ l, x ≠ [] ∧ (13 : UInt8) ∉ x ∧ (10 : UInt8) ∉ x
theorem index_head (body : List UInt8) : ∀ {l : List (List UInt8)}, l ≠ [] → GoodL l → Lib.index (lineT l ++ (13 :: 10 :: body)) [13, 10, 13, 10] = ((joinT l).length : Int)
  | [], h, _ => absurd rfl h
  | [x], _, hg => by
    have := index_app (a := x) (b := body) (c := 13) (r := [10, 13, 10]) (hg x (by simp)).2.1
    rw [show lineT [x] ++ (13 :: 10 :: body) = x ++ ([13, 10, 13, 10] ++ body) by simp [lineT]]
    exact this
  | x :: y :: r, _, hg => by
    have ih := index_head body (l := y :: r) (by simp) (fun z hz => hg z (by simp [hz]))
    have hx := hg x (by simp)
    have hy := hg y (by simp)
    obtain ⟨y0, yt, rfl⟩ : ∃ y0 yt, y = y0 :: yt := by cases y with | nil => exact absurd rfl hy.1 | cons a t => exact ⟨a, t, rfl⟩
    have hy0 : y0 ≠ 13 := fun e => hy.2.1 (by simp [e])
    have e1 : lineT (x :: (y0 :: yt) :: r) ++ (13 :: 10 :: body) = x ++ (13 :: 10 :: (lineT ((y0 :: yt) :: r) ++ (13 :: 10 :: body))) := by simp [lineT]
    have hd : (lineT (x :: (y0 :: yt) :: r) ++ (13 :: 10 :: body)).drop (x.length + 2) = lineT ((y0 :: yt) :: r) ++ (13 :: 10 :: body) := by
      rw [e1, List.drop_append, List.drop_eq_nil_of_le (by omega), Nat.add_sub_cancel_left]; rfl
    have hno : Lib.NoOcc (lineT (x :: (y0 :: yt) :: r) ++ (13 :: 10 :: body)) [13, 10, 13, 10] (x.length + 2) := by
      intro j hj
      rw [e1]
      by_cases h1 : j < x.length
      · exact occ_free hx.2.1 h1
      by_cases h2 : j = x.length
      · subst h2
        unfold Lib.occAt
        rw [List.drop_left, lineT]
        have : ((13 : UInt8) == y0) = false := beq_eq_false_iff_ne.2 fun e => hy0 e.symm
        simp [List.isPrefixOf, this]
      · have h3 : j = x.length + 1 := by omega
        subst h3
        refine occ_ne ?_
        rw [List.getElem?_append_right (by omega), Nat.add_sub_cancel_left]
        simp
    rw [Lib.index_drop hno (by rw [e1]; simp <;> omega), hd, ih, if_neg (by rw [beq_iff_eq]; omega), joinT]
    simp only [List.length_append, List.length_cons]
    omega
theorem cut_head (body : List UInt8) {l : List (List UInt8)} (h : l ≠ []) (hg : GoodL l) : Lib.cut (lineT l ++ (13 :: 10 :: body)) [13, 10, 13, 10] = (joinT l, body, true) := by
  have hi := index_head body h hg
  have e : lineT l ++ (13 :: 10 :: body) = joinT l ++ ([13, 10, 13, 10] ++ body) := by rw [lineT_join h]; simp
  unfold Lib.cut
  rw [hi, if_pos (by omega), Int.toNat_natCast, e, List.take_left, List.drop_append, List.drop_eq_nil_of_le (by omega), List.nil_append, Nat.add_sub_cancel_left, List.drop_left]
theorem split_join : ∀ {l : List (List UInt8)}, l ≠ [] → GoodL l → splitBs (Tx (joinT l)) (Tx [13, 10]) = l.map Tx
  | [], h, _ => absurd rfl h
  | [x], _, hg => splitBs_free (B_Tx _) (by rw [B_Tx]; exact (hg x (by simp)).2.1)
  | x :: y :: r, _, hg => by
    have ih := split_join (l := y :: r) (by simp) (fun z hz => hg z (by simp [hz]))
    have e : Tx (joinT (x :: y :: r)) = Tx x ++ (Tx [13, 10] ++ Tx (joinT (y :: r))) := by rw [← Tx_append, ← Tx_append]; rfl
    rw [e, splitBs_app (B_Tx _) (by rw [B_Tx]; exact (hg x (by simp)).2.1), ih]; rfl

end Go.Proofs.YtjlpjbkpmmpojaaGreatDoor.Pure
