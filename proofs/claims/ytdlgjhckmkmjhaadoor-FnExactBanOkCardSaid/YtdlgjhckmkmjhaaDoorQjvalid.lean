/- What the printed functions answer, in plain words: part j_valid of this session's lemmas. No condition of a statement lies here. -/
import Derived.Test.YtdlgjhckmkmjhaaDoorAllx0
import Derived.Test.YtdlgjhckmkmjhaaDoorAllx2
import Derived.Test.YtdlgjhckmkmjhaaDoorAllx5
import Derived.Test.YtdlgjhckmkmjhaaDoorAllx6
import Derived.Test.YtdlgjhckmkmjhaaDoorAllx7
import Derived.Test.YtdlgjhckmkmjhaaDoorAllx8
import Derived.Test.YtdlgjhckmkmjhaaDoorAllx9
import Derived.Test.YtdlgjhckmkmjhaaDoorQabase
import Derived.Test.YtdlgjhckmkmjhaaDoorQbword
import Derived.Test.YtdlgjhckmkmjhaaDoorQcfield
import Derived.Test.YtdlgjhckmkmjhaaDoorQdfieldfn
import Derived.Test.YtdlgjhckmkmjhaaDoorQitrim
namespace Go.Proofs.YtdlgjhckmkmjhaaDoor.Pure
open Go.RowKit Go.Proofs.YtdlgjhckmkmjhaaDoor.All Go.Proofs.YtdlgjhckmkmjhaaDoorW.PrintWords Go.Proofs.YtdlgjhckmkmjhaaDoorW.PrintLast
set_option linter.unusedVariables false
set_option linter.unusedSimpArgs false

/-! ### ValueOk, paths, times -/
def fromB (m : Int) (s : ByteArray) : Bool := (B s).all fun c => decide (m ≤ (c.toNat : Int) ∧ (c.toNat : Int) ≤ 126)
def fromD (m : Int) (l : List UInt8) : Bool := l.all fun c => decide (m ≤ (c.toNat : Int) ∧ (c.toNat : Int) ≤ 126)
def valB (s : ByteArray) : Bool := decide (1 ≤ s.size ∧ s.size ≤ 60) && fromB 32 s && decide (trimT s = s)
theorem beq_texts (a b : ByteArray) : (a.toList == b.toList) = decide (a = b) := by
  rw [Bool.eq_iff_iff, beq_iff_eq, decide_eq_true_eq, toList_iff]
theorem in_range (s : ByteArray) (a b : Nat) : decide ((a : Int) ≤ (s.size : Int) ∧ (s.size : Int) ≤ (b : Int)) = decide (a ≤ s.size ∧ s.size ≤ b) := decide_eq_decide.2 (by omega)
theorem spec_ValueOk_l0 (s : ByteArray) (hs : (s.size : Int) ≤ 4611686018427387904) : ∀ (d k i : Nat), s.size = i + d → d + 2 * s.size + 3 < k →
    spec_ValueOk.l0 k s i = some (fromD 32 ((B s).drop i) && decide (1 ≤ s.size ∧ s.size ≤ 60) && decide (trimT s = s)) := by
  intro d
  induction d with
  | zero =>
    intro k i hd hk
    obtain ⟨k, rfl⟩ := succ_of (show 0 < k by omega)
    simp only [spec_ValueOk.l0]
    rw [if_neg (by omega), spec_l1In_f, Option.bind_some, List.drop_eq_nil_of_le (by rw [B_len]; omega), show (1 : Int) = ((1 : Nat) : Int) from rfl, show (60 : Int) = ((60 : Nat) : Int) from rfl, in_range]
    by_cases h : 1 ≤ s.size ∧ s.size ≤ 60
    · rw [if_pos (decide_eq_true h), spec_Trim_f hs (by omega), Option.bind_some, beq_texts, decide_eq_true h]; simp [fromD]
    · rw [if_neg (by simpa using h), decide_eq_false h]; simp
  | succ d ih =>
    intro k i hd hk
    obtain ⟨k, rfl⟩ := succ_of (show 0 < k by omega)
    have hl : i < (B s).length := by rw [B_len]; omega
    simp only [spec_ValueOk.l0]
    rw [if_pos (by omega), if_pos (by omega), bt_get s i hl, nat_round (n := s.size) (by omega) (by omega), drop_at hl]
    unfold fromD
    rw [List.all_cons]
    by_cases h1 : ((B s)[i].toNat : Int) < 32
    · rw [if_pos h1, decide_eq_false (by omega)]; simp
    · rw [if_neg h1]
      by_cases h2 : ((B s)[i].toNat : Int) > 126
      · rw [if_pos h2, decide_eq_false (by omega)]; simp
      · rw [if_neg h2, decide_eq_true (by omega), Bool.true_and, ih k (i + 1) (by omega) (by omega)]; rfl
theorem spec_ValueOk_f {k : Nat} {s : ByteArray} (hs : (s.size : Int) ≤ 4611686018427387904) (hk : 3 * s.size + 3 < k) : spec_ValueOk.f k s = some (valB s) := by
  unfold spec_ValueOk.f
  rw [show (0 : Int) = ((0 : Nat) : Int) from rfl, spec_ValueOk_l0 s hs s.size k 0 (by omega) (by omega), List.drop_zero]
  unfold valB
  rw [Bool.and_comm (fromD 32 (B s))]; rfl
theorem impl_areFrom_l0 (s : ByteArray) (m : Int) (hs : (s.size : Int) ≤ 4611686018427387904) : ∀ (d k i : Nat), s.size = i + d → d < k → impl_areFrom.l0 k s m i = some (fromD m ((B s).drop i)) := by
  intro d
  induction d with
  | zero =>
    intro k i hd hk
    obtain ⟨k, rfl⟩ := succ_of (show 0 < k by omega)
    simp only [impl_areFrom.l0]
    rw [if_neg (by omega), List.drop_eq_nil_of_le (by rw [B_len]; omega)]; rfl
  | succ d ih =>
    intro k i hd hk
    obtain ⟨k, rfl⟩ := succ_of (show 0 < k by omega)
    have hl : i < (B s).length := by rw [B_len]; omega
    simp only [impl_areFrom.l0]
    rw [if_pos (by omega), if_pos (by omega), bt_get s i hl, nat_round (n := s.size) (by omega) (by omega), drop_at hl]
    unfold fromD
    rw [List.all_cons]
    by_cases h1 : ((B s)[i].toNat : Int) < m
    · rw [if_pos h1, decide_eq_false (by omega)]; simp
    · rw [if_neg h1]
      by_cases h2 : ((B s)[i].toNat : Int) > 126
      · rw [if_pos h2, decide_eq_false (by omega)]; simp
      · rw [if_neg h2, decide_eq_true (by omega), Bool.true_and, ih k (i + 1) (by omega) (by omega)]; rfl
theorem impl_areFrom_f {k : Nat} {s : ByteArray} {m : Int} (hs : (s.size : Int) ≤ 4611686018427387904) (hk : s.size < k) : impl_areFrom.f k s m = some (fromB m s) := by
  have := impl_areFrom_l0 s m hs s.size k 0 (by omega) hk
  rw [List.drop_zero] at this
  exact this
theorem impl_ValueOk_f {k : Nat} {s : ByteArray} (hs : (s.size : Int) ≤ 4611686018427387904) (hk : s.size < k) : impl_ValueOk.f k s = some (valB s) := by
  unfold impl_ValueOk.f valB
  rw [impl_inRange_f, Option.bind_some, show (1 : Int) = ((1 : Nat) : Int) from rfl, show (60 : Int) = ((60 : Nat) : Int) from rfl, in_range]
  by_cases h : 1 ≤ s.size ∧ s.size ≤ 60
  · rw [if_pos (decide_eq_true h), impl_areFrom_f hs hk, Option.bind_some, decide_eq_true h, Bool.true_and]
    cases hf : fromB 32 s
    · rw [if_neg (by simp)]; simp
    · rw [if_pos rfl, impl_Trim_f hs, Option.bind_some, beq_texts, Bool.true_and]
  · rw [if_neg (by simpa using h), decide_eq_false h]; simp
def pathB (s : ByteArray) : Bool := decide (1 ≤ s.size ∧ s.size ≤ 60) && (decide (bt s 0 = 47) && fromB 33 s)
theorem spec_l3Path_l0 (s : ByteArray) (hs : (s.size : Int) ≤ 4611686018427387904) : ∀ (d k i : Nat), s.size = i + d → d < k →
    spec_l3Path.l0 k s i = some (fromD 33 ((B s).drop i) && (decide (1 ≤ s.size ∧ s.size ≤ 60) && decide (bt s 0 = 47))) := by
  intro d
  induction d with
  | zero =>
    intro k i hd hk
    obtain ⟨k, rfl⟩ := succ_of (show 0 < k by omega)
    simp only [spec_l3Path.l0]
    rw [if_neg (by omega), spec_l1In_f, Option.bind_some, List.drop_eq_nil_of_le (by rw [B_len]; omega), show (1 : Int) = ((1 : Nat) : Int) from rfl, show (60 : Int) = ((60 : Nat) : Int) from rfl, in_range]
    by_cases h : 1 ≤ s.size ∧ s.size ≤ 60
    · rw [if_pos (decide_eq_true h), if_pos (by omega), decide_eq_true h]
      refine congrArg some ?_
      rw [Bool.eq_iff_iff]; simp [fromD]
    · rw [if_neg (by simpa using h), decide_eq_false h]; simp
  | succ d ih =>
    intro k i hd hk
    obtain ⟨k, rfl⟩ := succ_of (show 0 < k by omega)
    have hl : i < (B s).length := by rw [B_len]; omega
    simp only [spec_l3Path.l0]
    rw [if_pos (by omega), if_pos (by omega), bt_get s i hl, nat_round (n := s.size) (by omega) (by omega), drop_at hl]
    unfold fromD
    rw [List.all_cons]
    by_cases h1 : ((B s)[i].toNat : Int) < 33
    · rw [if_pos h1, decide_eq_false (by omega)]; simp
    · rw [if_neg h1]
      by_cases h2 : ((B s)[i].toNat : Int) > 126
      · rw [if_pos h2, decide_eq_false (by omega)]; simp
      · rw [if_neg h2, decide_eq_true (by omega), Bool.true_and, ih k (i + 1) (by omega) (by omega)]; rfl
theorem spec_l3Path_f {k : Nat} {s : ByteArray} (hs : (s.size : Int) ≤ 4611686018427387904) (hk : s.size < k) : spec_l3Path.f k s = some (pathB s) := by
  unfold spec_l3Path.f
  rw [show (0 : Int) = ((0 : Nat) : Int) from rfl, spec_l3Path_l0 s hs s.size k 0 (by omega) (by omega), List.drop_zero]
  unfold pathB
  refine congrArg some ?_
  show (fromB 33 s && _) = _
  cases fromB 33 s <;> simp
theorem impl_pathOk_f {k : Nat} {s : ByteArray} (hs : (s.size : Int) ≤ 4611686018427387904) (hk : s.size < k) : impl_pathOk.f k s = some (pathB s) := by
  unfold impl_pathOk.f pathB
  rw [impl_inRange_f, Option.bind_some, show (1 : Int) = ((1 : Nat) : Int) from rfl, show (60 : Int) = ((60 : Nat) : Int) from rfl, in_range]
  by_cases h : 1 ≤ s.size ∧ s.size ≤ 60
  · rw [if_pos (decide_eq_true h), if_pos (by omega), decide_eq_true h, Bool.true_and]
    by_cases h2 : bt s 0 = 47
    · rw [if_pos h2, impl_areFrom_f hs hk, Option.bind_some, decide_eq_true h2, Bool.true_and]
    · rw [if_neg h2, decide_eq_false h2, Bool.false_and]
  · rw [if_neg (by simpa using h), decide_eq_false h]; simp
/-! ### FieldsOk -/
def lenName (s : ByteArray) : Bool := decide (s.toList = [99, 111, 110, 116, 101, 110, 116, 45, 108, 101, 110, 103, 116, 104])
def okFs (l : List S87) : Nat → List S87 → Bool
  | _, [] => decide (l.length ≤ 8)
  | i, x :: r => tokB x.f0 && (valB x.f1 && (!lenName x.f0 && (decide (at_ x.f0 l 0 = (i : Int)) && okFs l (i + 1) r)))
def fieldsB (l : List S87) : Bool := okFs l 0 l
/-- a list of fields of at most K of anything -/
def SmallF (K : Nat) (l : List S87) : Prop := l.length ≤ K ∧ ∀ x ∈ l, x.f0.size ≤ K ∧ x.f1.size ≤ K
theorem FieldsOk_l0 (K : Nat) (hK : K < 4398046511104) (l : List S87) (hl : SmallF K l) : ∀ (d k i : Nat), l.length = i + d → d + 4 * K + 4 < k →
    spec_FieldsOk.l0 k l i = some (okFs l i (l.drop i)) ∧ impl_FieldsOk.l0 k l l (l.length : Int) i = some (okFs l i (l.drop i)) := by
  obtain ⟨hn, hx⟩ := hl
  intro d
  induction d with
  | zero =>
    intro k i hd hk
    obtain ⟨k, rfl⟩ := succ_of (show 0 < k by omega)
    simp only [spec_FieldsOk.l0, impl_FieldsOk.l0]
    have h8 : decide ((l.length : Int) ≤ 8) = decide (l.length ≤ 8) := decide_eq_decide.2 (by omega)
    rw [if_neg (by omega), if_neg (by omega), List.drop_eq_nil_of_le (by omega), okFs, h8]
    exact ⟨rfl, rfl⟩
  | succ d ih =>
    intro k i hd hk
    obtain ⟨k, rfl⟩ := succ_of (show 0 < k by omega)
    have hlt : i < l.length := by omega
    obtain ⟨s0, s1⟩ := hx _ (List.getElem_mem hlt)
    obtain ⟨i1, i2⟩ := ih k (i + 1) (by omega) (by omega)
    simp only [spec_FieldsOk.l0, impl_FieldsOk.l0]
    rw [rd_F l i hlt, nat_round (n := l.length) hlt (by omega), drop_at hlt, okFs]
    refine ⟨?_, ?_⟩
    · rw [if_pos (by omega), if_pos (by omega), spec_TokenOk_f (by omega) (by omega), Option.bind_some]
      cases tokB l[i].f0
      · rfl
      rw [if_pos rfl, spec_ValueOk_f (by omega) (by omega), Option.bind_some]
      cases valB l[i].f1
      · rfl
      rw [if_pos rfl, spec_l2At_f (by omega) (by omega), Option.bind_some]
      unfold lenName
      by_cases ha : at_ l[i].f0 l 0 = (i : Int)
      · rw [if_pos ha, decide_eq_true ha]
        by_cases hL : l[i].f0.toList = [99, 111, 110, 116, 101, 110, 116, 45, 108, 101, 110, 103, 116, 104]
        · rw [if_pos hL, decide_eq_true hL]; rfl
        · rw [if_neg hL, decide_eq_false hL, i1]; rfl
      · rw [if_neg ha, decide_eq_false ha]; simp
    · rw [if_pos (by omega), if_pos (by omega), if_pos (by omega), impl_TokenOk_f (by omega) (by omega), Option.bind_some]
      cases tokB l[i].f0
      · rfl
      rw [if_pos rfl, impl_ValueOk_f (by omega) (by omega), Option.bind_some]
      cases valB l[i].f1
      · rfl
      rw [if_pos rfl]
      unfold lenName
      by_cases hL : l[i].f0.toList = [99, 111, 110, 116, 101, 110, 116, 45, 108, 101, 110, 103, 116, 104]
      · rw [if_pos hL, decide_eq_true hL]; rfl
      rw [if_neg hL, decide_eq_false hL, impl_fieldAt_f (by omega), Option.bind_some]
      by_cases ha : at_ l[i].f0 l 0 = (i : Int)
      · rw [if_pos ha, decide_eq_true ha, i2]; rfl
      · rw [if_neg ha, decide_eq_false ha]; rfl
theorem spec_FieldsOk_f {k K : Nat} {l : List S87} (hK : K < 4398046511104) (hl : SmallF K l) (hk : 5 * K + 4 < k) : spec_FieldsOk.f k l = some (fieldsB l) := by
  have := (FieldsOk_l0 K hK l hl l.length k 0 (by omega) (by have := hl.1; omega)).1
  simpa [spec_FieldsOk.f, fieldsB] using this
theorem impl_FieldsOk_f {k K : Nat} {l : List S87} (hK : K < 4398046511104) (hl : SmallF K l) (hk : 5 * K + 4 < k) : impl_FieldsOk.f k l = some (fieldsB l) := by
  have := (FieldsOk_l0 K hK l hl l.length k 0 (by omega) (by have := hl.1; omega)).2
  simpa [impl_FieldsOk.f, fieldsB] using this
theorem SmallF.toF {K : Nat} {l : List S121} (hl : l.length ≤ K) (hx : ∀ x ∈ l, x.f0.size ≤ K ∧ x.f1.size ≤ K) : SmallF K (l.map toF) := by
  refine ⟨by simpa using hl, fun y hy => ?_⟩
  obtain ⟨x, hx', rfl⟩ := List.mem_map.1 hy
  exact hx x hx'
def respB (m : Int) (l : List S87) (b : ByteArray) : Bool := decide (100 ≤ m ∧ m ≤ 599) && (decide (b.size ≤ 120) && fieldsB l)
theorem le120 (b : ByteArray) : decide ((b.size : Int) ≤ 120) = decide (b.size ≤ 120) := decide_eq_decide.2 (by omega)
theorem spec_RespOk_f {k K : Nat} {m : Int} {l : List S87} {b : ByteArray} (hK : K < 4398046511104) (hl : SmallF K l) (hk : 5 * K + 4 < k) : spec_RespOk.f k m l b = some (respB m l b) := by
  unfold spec_RespOk.f respB
  rw [spec_l1In_f, Option.bind_some]
  by_cases h : 100 ≤ m ∧ m ≤ 599
  · rw [if_pos (decide_eq_true h), decide_eq_true h, spec_FieldsOk_f hK hl hk, Option.bind_some, le120]
    cases fieldsB l <;> simp
  · rw [if_neg (by simpa using h), decide_eq_false h]; rfl
theorem impl_RespOk_f {k K : Nat} {m : Int} {l : List S87} {b : ByteArray} (hK : K < 4398046511104) (hl : SmallF K l) (hk : 5 * K + 4 < k) : impl_RespOk.f k m l b = some (respB m l b) := by
  unfold impl_RespOk.f respB
  rw [impl_inRange_f, Option.bind_some]
  by_cases h : 100 ≤ m ∧ m ≤ 599
  · rw [if_pos (decide_eq_true h), decide_eq_true h]
    by_cases h2 : b.size ≤ 120
    · rw [if_pos (by omega), impl_FieldsOk_f hK hl hk, Option.bind_some, decide_eq_true h2]; rfl
    · rw [if_neg (by omega), decide_eq_false h2]; rfl
  · rw [if_neg (by simpa using h), decide_eq_false h]; rfl
def reqB (m : Int) (p : ByteArray) (l : List S87) (b : ByteArray) : Bool := decide (1 ≤ m ∧ m ≤ 4) && (pathB p && (decide (b.size ≤ 120) && fieldsB l))
theorem spec_ReqOk_f {k K : Nat} {m : Int} {p : ByteArray} {l : List S87} {b : ByteArray} (hK : K < 4398046511104) (hp : p.size ≤ K) (hl : SmallF K l) (hk : 5 * K + 4 < k) : spec_ReqOk.f k m p l b = some (reqB m p l b) := by
  unfold spec_ReqOk.f reqB
  rw [spec_l1In_f, Option.bind_some]
  by_cases h : 1 ≤ m ∧ m ≤ 4
  · rw [if_pos (decide_eq_true h), decide_eq_true h, spec_l3Path_f (by omega) (by omega), Option.bind_some]
    cases pathB p
    · rfl
    rw [if_pos rfl, spec_FieldsOk_f hK hl hk, Option.bind_some, le120]
    cases fieldsB l <;> simp
  · rw [if_neg (by simpa using h), decide_eq_false h]; rfl
theorem impl_ReqOk_f {k K : Nat} {m : Int} {p : ByteArray} {l : List S87} {b : ByteArray} (hK : K < 4398046511104) (hp : p.size ≤ K) (hl : SmallF K l) (hk : 5 * K + 4 < k) : impl_ReqOk.f k m p l b = some (reqB m p l b) := by
  unfold impl_ReqOk.f reqB
  rw [impl_inRange_f, Option.bind_some]
  by_cases h : 1 ≤ m ∧ m ≤ 4
  · rw [if_pos (decide_eq_true h), decide_eq_true h, impl_pathOk_f (by omega) (by omega), Option.bind_some]
    cases pathB p
    · rfl
    rw [if_pos rfl]
    by_cases h2 : b.size ≤ 120
    · rw [if_pos (by omega), impl_FieldsOk_f hK hl hk, Option.bind_some, decide_eq_true h2]; rfl
    · rw [if_neg (by omega), decide_eq_false h2]; rfl
  · rw [if_neg (by simpa using h), decide_eq_false h]; rfl
def banB (kd : Int) (a b : ByteArray) (t : Int) : Bool := decide (0 ≤ t ∧ t ≤ 1000000) && (if kd = 1 ∨ kd = 2 then pathB a && decide (b.toList = []) else if kd = 3 then tokB a && valB b else false)
theorem spec_BanOk_f {k : Nat} {kd t : Int} {a b : ByteArray} (ha : (a.size : Int) ≤ 4611686018427387904) (hb : (b.size : Int) ≤ 4611686018427387904) (hk : 3 * (a.size + b.size) + 4 < k) : spec_BanOk.f k kd a b t = some (banB kd a b t) := by
  unfold spec_BanOk.f banB
  obtain ⟨k', rfl⟩ := succ_of (show 0 < k by omega)
  rw [spec_l1In_f, Option.bind_some]
  by_cases h : 0 ≤ t ∧ t ≤ 1000000
  · rw [if_pos (decide_eq_true h), decide_eq_true h, Bool.true_and]
    have go : ∀ f : Bool, (f = true ↔ kd = 1 ∨ kd = 2) → spec_BanOk.j0 (k' + 1) kd f kd a b t = some (if kd = 1 ∨ kd = 2 then pathB a && decide (b.toList = []) else if kd = 3 then tokB a && valB b else false) := by
      intro f hf
      simp only [spec_BanOk.j0]
      by_cases hq : kd = 1 ∨ kd = 2
      · rw [if_pos (hf.2 hq), if_pos hq, spec_l3Path_f ha (by omega), Option.bind_some]
        cases pathB a
        · rfl
        · rw [if_pos rfl]; refine congrArg some ?_; rw [Bool.eq_iff_iff]; simp
      · rw [if_neg (fun e => hq (hf.1 e)), if_neg hq]
        by_cases h3 : kd = 3
        · rw [if_pos h3, if_pos h3, spec_TokenOk_f (by omega) (by omega), Option.bind_some]
          cases tokB a
          · rfl
          · rw [if_pos rfl, spec_ValueOk_f hb (by omega), Option.bind_some]; rfl
        · rw [if_neg h3, if_neg h3]
    by_cases h1 : kd = 1
    · rw [if_pos h1]; exact go _ (by simp [h1])
    · rw [if_neg h1]; exact go _ (by simp [h1])
  · rw [if_neg (by simpa using h), decide_eq_false h]; rfl
theorem impl_BanOk_f {k : Nat} {kd t : Int} {a b : ByteArray} (ha : (a.size : Int) ≤ 4611686018427387904) (hb : (b.size : Int) ≤ 4611686018427387904) (hk : 3 * (a.size + b.size) + 4 < k) : impl_BanOk.f k kd a b t = some (banB kd a b t) := by
  unfold impl_BanOk.f impl_isTime.f banB
  obtain ⟨k', rfl⟩ := succ_of (show 0 < k by omega)
  rw [impl_inRange_f, Option.bind_some, Option.bind_some]
  by_cases h : 0 ≤ t ∧ t ≤ 1000000
  · rw [if_pos (decide_eq_true h), decide_eq_true h, Bool.true_and]
    have go : ∀ f : Bool, (f = true ↔ kd = 1 ∨ kd = 2) → impl_BanOk.j0 (k' + 1) kd f kd a b t = some (if kd = 1 ∨ kd = 2 then pathB a && decide (b.toList = []) else if kd = 3 then tokB a && valB b else false) := by
      intro f hf
      simp only [impl_BanOk.j0]
      by_cases hq : kd = 1 ∨ kd = 2
      · rw [if_pos (hf.2 hq), if_pos hq, impl_pathOk_f ha (by omega), Option.bind_some]
        cases pathB a
        · rfl
        · rw [if_pos rfl]; refine congrArg some ?_; rw [Bool.eq_iff_iff]; simp
      · rw [if_neg (fun e => hq (hf.1 e)), if_neg hq]
        by_cases h3 : kd = 3
        · rw [if_pos h3, if_pos h3, impl_TokenOk_f (by omega) (by omega), Option.bind_some]
          cases tokB a
          · rfl
          · rw [if_pos rfl, impl_ValueOk_f hb (by omega), Option.bind_some]; rfl
        · rw [if_neg h3, if_neg h3]
    by_cases h1 : kd = 1
    · rw [if_pos h1]; exact go _ (by simp [h1])
    · rw [if_neg h1]; exact go _ (by simp [h1])
  · rw [if_neg (by simpa using h), decide_eq_false h]; rfl

end Go.Proofs.YtdlgjhckmkmjhaaDoor.Pure
