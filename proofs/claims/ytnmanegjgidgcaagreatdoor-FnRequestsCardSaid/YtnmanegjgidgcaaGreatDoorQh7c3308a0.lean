/- What the printed functions answer, in plain words: lemmas of this session. No condition of a statement lies here. -/
import Derived.Test.YtnmanegjgidgcaaGreatDoorAllx0
import Derived.Test.YtnmanegjgidgcaaGreatDoorAllx10
import Derived.Test.YtnmanegjgidgcaaGreatDoorAllx11
import Derived.Test.YtnmanegjgidgcaaGreatDoorAllx12
import Derived.Test.YtnmanegjgidgcaaGreatDoorAllx2
import Derived.Test.YtnmanegjgidgcaaGreatDoorAllx3
import Derived.Test.YtnmanegjgidgcaaGreatDoorAllx5
import Derived.Test.YtnmanegjgidgcaaGreatDoorAllx6
import Derived.Test.YtnmanegjgidgcaaGreatDoorAllx9
import Derived.Test.YtnmanegjgidgcaaGreatDoorQhe0a6f4eb
import Derived.Test.YtnmanegjgidgcaaGreatDoorQhf78647d4
namespace Go.Proofs.YtnmanegjgidgcaaGreatDoor.Pure
open Go.RowKit Go.Proofs.YtnmanegjgidgcaaGreatDoor.All Go.Proofs.YtnmanegjgidgcaaGreatDoorW.PrintWords Go.Proofs.YtnmanegjgidgcaaGreatDoorW.PrintLast
set_option linter.unusedVariables false
set_option linter.unusedSimpArgs false

def pathB (s : ByteArray) : Bool := decide (1 ≤ s.size ∧ s.size ≤ 60) && (decide (bt s 0 = 47) && fromB 33 s)
theorem spec_l3Path_l0 (s : ByteArray) (hs : (s.size : Int) ≤ 4611686018427387904) : ∀ (d k i : Nat), s.size = i + d → d < k →
    spec_l3Path.l0 k s i = some (fromD 33 ((B s).drop i) && (decide (1 ≤ s.size ∧ s.size ≤ 60) && decide (bt s 0 = 47))) := by
  intro d
  induction d with
  | zero =>
    intro k i hd hk
    obtain ⟨k, rfl⟩ := succ_of (show 0 < k by omega)
    simp only [spec_l3Path.l0]
    rw [if_neg (by omega), spec_l1In_f, Option.bind_some, List.drop_eq_nil_of_le (by rw [B_len]; omega), show (1 : Int) = ((1 : Nat) : Int) from rfl, show (60 : Int) = ((60 : Nat) : Int) from rfl, in_range]
    by_cases h : 1 ≤ s.size ∧ s.size ≤ 60
    · rw [if_pos (decide_eq_true h), if_pos (by omega), decide_eq_true h]
      refine congrArg some ?_
      rw [Bool.eq_iff_iff]; simp [fromD]
    · rw [if_neg (by simpa using h), decide_eq_false h]; simp
  | succ d ih =>
    intro k i hd hk
    obtain ⟨k, rfl⟩ := succ_of (show 0 < k by omega)
    have hl : i < (B s).length := by rw [B_len]; omega
    simp only [spec_l3Path.l0]
    rw [if_pos (by omega), if_pos (by omega), bt_get s i hl, nat_round (n := s.size) (by omega) (by omega), drop_at hl]
    unfold fromD
    rw [List.all_cons]
    by_cases h1 : ((B s)[i].toNat : Int) < 33
    · rw [if_pos h1, decide_eq_false (by omega)]; simp
    · rw [if_neg h1]
      by_cases h2 : ((B s)[i].toNat : Int) > 126
      · rw [if_pos h2, decide_eq_false (by omega)]; simp
      · rw [if_neg h2, decide_eq_true (by omega), Bool.true_and, ih k (i + 1) (by omega) (by omega)]; rfl
theorem spec_l3Path_f {k : Nat} {s : ByteArray} (hs : (s.size : Int) ≤ 4611686018427387904) (hk : s.size < k) : spec_l3Path.f k s = some (pathB s) := by
  unfold spec_l3Path.f
  rw [show (0 : Int) = ((0 : Nat) : Int) from rfl, spec_l3Path_l0 s hs s.size k 0 (by omega) (by omega), List.drop_zero]
  unfold pathB
  refine congrArg some ?_
  show (fromB 33 s && _) = _
  cases fromB 33 s <;> simp
theorem impl_pathOk_f {k : Nat} {s : ByteArray} (hs : (s.size : Int) ≤ 4611686018427387904) (hk : s.size < k) : impl_pathOk.f k s = some (pathB s) := by
  unfold impl_pathOk.f pathB
  rw [impl_inRange_f, Option.bind_some, show (1 : Int) = ((1 : Nat) : Int) from rfl, show (60 : Int) = ((60 : Nat) : Int) from rfl, in_range]
  by_cases h : 1 ≤ s.size ∧ s.size ≤ 60
  · rw [if_pos (decide_eq_true h), if_pos (by omega), decide_eq_true h, Bool.true_and]
    by_cases h2 : bt s 0 = 47
    · rw [if_pos h2, impl_areFrom_f hs hk, Option.bind_some, decide_eq_true h2, Bool.true_and]
    · rw [if_neg h2, decide_eq_false h2, Bool.false_and]
  · rw [if_neg (by simpa using h), decide_eq_false h]; simp
def reqB (m : Int) (p : ByteArray) (l : List S100) (b : ByteArray) : Bool := decide (1 ≤ m ∧ m ≤ 4) && (pathB p && (decide (b.size ≤ 120) && fieldsB l))
theorem spec_ReqOk_f {k K : Nat} {m : Int} {p : ByteArray} {l : List S100} {b : ByteArray} (hK : K < 4398046511104) (hp : p.size ≤ K) (hl : SmallF K l) (hk : 5 * K + 4 < k) : spec_ReqOk.f k m p l b = some (reqB m p l b) := by
  unfold spec_ReqOk.f reqB
  rw [spec_l1In_f, Option.bind_some]
  by_cases h : 1 ≤ m ∧ m ≤ 4
  · rw [if_pos (decide_eq_true h), decide_eq_true h, spec_l3Path_f (by omega) (by omega), Option.bind_some]
    cases pathB p
    · rfl
    rw [if_pos rfl, spec_FieldsOk_f hK hl hk, Option.bind_some, le120]
    cases fieldsB l <;> simp
  · rw [if_neg (by simpa using h), decide_eq_false h]; rfl
theorem impl_ReqOk_f {k K : Nat} {m : Int} {p : ByteArray} {l : List S100} {b : ByteArray} (hK : K < 4398046511104) (hp : p.size ≤ K) (hl : SmallF K l) (hk : 5 * K + 4 < k) : impl_ReqOk.f k m p l b = some (reqB m p l b) := by
  unfold impl_ReqOk.f reqB
  rw [impl_inRange_f, Option.bind_some]
  by_cases h : 1 ≤ m ∧ m ≤ 4
  · rw [if_pos (decide_eq_true h), decide_eq_true h, impl_pathOk_f (by omega) (by omega), Option.bind_some]
    cases pathB p
    · rfl
    rw [if_pos rfl]
    by_cases h2 : b.size ≤ 120
    · rw [if_pos (by omega), impl_FieldsOk_f hK hl hk, Option.bind_some, decide_eq_true h2]; rfl
    · rw [if_neg (by omega), decide_eq_false h2]; rfl
  · rw [if_neg (by simpa using h), decide_eq_false h]; rfl
theorem path_size {p : ByteArray} (h : pathB p = true) : 1 ≤ p.size ∧ p.size ≤ 60 := by
  unfold pathB at h
  simp only [Bool.and_eq_true, decide_eq_true_eq] at h
  omega
def methodT (m : Int) : ByteArray := if m = 1 then ⟨#[71, 69, 84]⟩ else if m = 2 then ⟨#[72, 69, 65, 68]⟩ else if m = 3 then ⟨#[80, 79, 83, 84]⟩ else ⟨#[80, 85, 82, 71, 69]⟩
def lenWord : List UInt8 := [99, 111, 110, 116, 101, 110, 116, 45, 108, 101, 110, 103, 116, 104, 58, 32]
def lenBytes (b : ByteArray) : List UInt8 := if b.toList = [] then [] else lenWord ++ (B (numT b.size) ++ [13, 10])
def reqBytes (m : Int) (p : ByteArray) (l : List S100) (b : ByteArray) : List UInt8 :=
  B (methodT m) ++ (32 :: (B p ++ ([32, 72, 84, 84, 80, 47, 49, 46, 49, 13, 10] ++ (fieldLines l ++ (lenBytes b ++ (13 :: 10 :: B b))))))
def reqText (m : Int) (p : ByteArray) (l : List S100) (b : ByteArray) : ByteArray := if reqB m p l b = true then Tx (reqBytes m p l b) else ⟨#[]⟩
theorem reqB_facts {m : Int} {p : ByteArray} {l : List S100} {b : ByteArray} (h : reqB m p l b = true) : (1 ≤ m ∧ m ≤ 4) ∧ pathB p = true ∧ b.size ≤ 120 ∧ fieldsB l = true := by
  unfold reqB at h
  simp only [Bool.and_eq_true] at h
  exact ⟨of_decide_eq_true h.1, h.2.1, of_decide_eq_true h.2.2.1, h.2.2.2⟩
theorem methodT_size (m : Int) : (methodT m).size ≤ 5 := by
  unfold methodT
  repeat' (split <;> try exact Nat.le_of_ble_eq_true rfl)
theorem B_linesT (l : List S100) : B (linesT l) = fieldLines l := B_mk (fieldLines l)
theorem spec_ReqText_f {k K : Nat} {m : Int} {p : ByteArray} {l : List S100} {b : ByteArray} (hK : K < 4398046511104) (hp : p.size ≤ K) (hl : SmallF K l) (hk : 5 * K + 50 < k) : spec_ReqText.f k m p l b = some (reqText m p l b) := by
  unfold spec_ReqText.f reqText
  rw [spec_ReqOk_f hK hp hl (by omega), Option.bind_some]
  by_cases h : reqB m p l b = true
  · obtain ⟨h1, h2, h3, h6⟩ := reqB_facts h
    obtain ⟨h4, h5⟩ := fieldsB_lines h6
    have n2 := numT_size b.size
    have n3 := linesT_size l
    have n4 := path_size h2
    have hft : spec_FieldsText.f k l = some (linesT l) := spec_FieldsText_f (by omega) (by omega) (by omega)
    have hmt : methodW m = methodT m := rfl
    rw [if_pos h, if_pos h, if_pos ⟨h1, by omega, by omega⟩, hft, Option.bind_some, if_pos (by omega), hmt]
    by_cases hb : b.toList = []
    · rw [if_pos hb]
      refine congrArg some (B_ext ?_)
      simp only [reqBytes, lenBytes, if_pos hb, B_Tx, B_append, B_linesT, List.append_assoc]
      rfl
    · rw [if_neg hb, spec_NumText_f (by omega), Option.bind_some, if_pos (by omega)]
      refine congrArg some (B_ext ?_)
      simp only [reqBytes, lenBytes, if_neg hb, B_Tx, B_append, B_linesT, List.append_assoc]
      rfl
  · rw [if_neg h, if_neg h]
theorem impl_lengthLine_f {b : ByteArray} (h2 : b.size ≤ 1000000) : impl_lengthLine.f b = some (((⟨#[99, 111, 110, 116, 101, 110, 116, 45, 108, 101, 110, 103, 116, 104, 58, 32]⟩ : ByteArray) ++ numT b.size) ++ (⟨#[13, 10]⟩ : ByteArray)) := by
  have n2 := numT_size b.size
  have s3 : (⟨#[99, 111, 110, 116, 101, 110, 116, 45, 108, 101, 110, 103, 116, 104, 58, 32]⟩ : ByteArray).size = 16 := rfl
  unfold impl_lengthLine.f
  rw [itoa_numT (by omega), Option.bind_some, if_pos (by omega), if_pos (by simp only [ByteArray.size_append, s3]; omega)]
theorem impl_ReqText_f {k K : Nat} {m : Int} {p : ByteArray} {l : List S100} {b : ByteArray} (hK : K < 4398046511104) (hp : p.size ≤ K) (hl : SmallF K l) (hk : 5 * K + 50 < k) : impl_ReqText.f k m p l b = some (reqText m p l b) := by
  unfold impl_ReqText.f reqText
  rw [impl_ReqOk_f hK hp hl (by omega), Option.bind_some]
  by_cases h : reqB m p l b = true
  · obtain ⟨h1, h2, h3, h6⟩ := reqB_facts h
    obtain ⟨h4, h5⟩ := fieldsB_lines h6
    have n1 := methodT_size m
    have n2 := numT_size b.size
    have n3 := linesT_size l
    have n4 := path_size h2
    have s1 : (⟨#[32]⟩ : ByteArray).size = 1 := rfl
    have s2 : (⟨#[72, 84, 84, 80, 47, 49, 46, 49]⟩ : ByteArray).size = 8 := rfl
    have s3 : (⟨#[99, 111, 110, 116, 101, 110, 116, 45, 108, 101, 110, 103, 116, 104, 58, 32]⟩ : ByteArray).size = 16 := rfl
    have s4 : (⟨#[13, 10]⟩ : ByteArray).size = 2 := rfl
    have hft : impl_FieldsText.f l = some (linesT l) := impl_FieldsText_f (by omega) (by omega)
    have hmt : impl_methodText.f m = some (methodT m) := by
      have hm : m = 1 ∨ m = 2 ∨ m = 3 ∨ m = 4 := by omega
      rcases hm with e | e | e | e <;> subst e <;> rfl
    rw [if_pos h, if_pos h, hmt, Option.bind_some, if_pos (by omega), if_pos (by simp only [ByteArray.size_append, s1]; omega), if_pos (by simp only [ByteArray.size_append, s1]; omega), if_pos (by simp only [ByteArray.size_append, s1]; omega), if_pos (by simp only [ByteArray.size_append, s1, s2]; omega), hft, Option.bind_some,
      if_pos (by simp only [ByteArray.size_append, s1, s2, s4]; omega)]
    by_cases hb : b.toList = []
    · rw [if_pos hb, if_pos (by simp only [ByteArray.size_append, s1, s2, s4]; omega), if_pos (by simp only [ByteArray.size_append, s1, s2, s4]; omega)]
      refine congrArg some (B_ext ?_)
      simp only [reqBytes, lenBytes, if_pos hb, B_Tx, B_append, B_linesT, List.append_assoc]
      rfl
    · rw [if_neg hb, impl_lengthLine_f (by omega), Option.bind_some, if_pos (by simp only [ByteArray.size_append, s1, s2, s3, s4]; omega), if_pos (by simp only [ByteArray.size_append, s1, s2, s3, s4]; omega), if_pos (by simp only [ByteArray.size_append, s1, s2, s3, s4]; omega)]
      refine congrArg some (B_ext ?_)
      simp only [reqBytes, lenBytes, if_neg hb, B_Tx, B_append, B_linesT, List.append_assoc]
      rfl
  · rw [if_neg h, if_neg h]
/-! ### a request's text, line by line -/
def httpB : List UInt8 := [72, 84, 84, 80, 47, 49, 46, 49]
def reqFirst (m : Int) (p : ByteArray) : List UInt8 := B (methodT m) ++ (32 :: (B p ++ (32 :: httpB)))
def reqLines (m : Int) (p : ByteArray) (l : List S100) (b : ByteArray) : List (List UInt8) := reqFirst m p :: (l.map fl ++ lenLines b)
theorem lenBytes_lines (b : ByteArray) : lenBytes b = lineT (lenLines b) := by
  unfold lenBytes lenLines
  split
  · rfl
  · simp [lineT, lenLine, lenWord, lenN]
theorem reqBytes_lines (m : Int) (p : ByteArray) (l : List S100) (b : ByteArray) : reqBytes m p l b = lineT (reqLines m p l b) ++ (13 :: 10 :: B b) := by
  unfold reqBytes reqLines reqFirst httpB
  rw [lineT, lineT_append, ← fieldLines_lineT, lenBytes_lines]
  simp
theorem path_bytes {s : ByteArray} (h : pathB s = true) : (∀ c ∈ B s, 33 ≤ c.toNat ∧ c.toNat ≤ 126) ∧ 1 ≤ s.size := by
  unfold pathB fromB at h
  simp only [Bool.and_eq_true, List.all_eq_true, decide_eq_true_eq] at h
  refine ⟨fun c hm => ?_, by omega⟩
  have := h.2.2 c hm
  omega
theorem method_bytes (m : Int) : ∀ c ∈ B (methodT m), 65 ≤ c.toNat := by
  have h : ∀ l : List UInt8, (l.all fun c => decide (65 ≤ c.toNat)) = true → ∀ c ∈ l, 65 ≤ c.toNat := fun l hl c hc => by
    rw [List.all_eq_true] at hl; exact of_decide_eq_true (hl c hc)
  unfold methodT
  repeat' split
  all_goals exact h _ (by decide)
theorem reqFirst_good {m : Int} {p : ByteArray} (hp : pathB p = true) : reqFirst m p ≠ [] ∧ ∀ c ∈ reqFirst m p, 32 ≤ c.toNat := by
  refine ⟨by unfold reqFirst; simp, fun c hc => ?_⟩
  unfold reqFirst at hc
  rcases List.mem_append.1 hc with hc | hc
  · have := method_bytes m c hc; omega
  · rcases List.mem_cons.1 hc with rfl | hc
    · decide
    · rcases List.mem_append.1 hc with hc | hc
      · have := (path_bytes hp).1 c hc; omega
      · rcases List.mem_cons.1 hc with rfl | hc
        · decide
        · have h : (httpB.all fun c => decide (32 ≤ c.toNat)) = true := by decide
          rw [List.all_eq_true] at h
          exact of_decide_eq_true (h c hc)
theorem reqLines_good {m : Int} {p : ByteArray} {l : List S100} {b : ByteArray} (h : reqB m p l b = true) : GoodL (reqLines m p l b) := by
  obtain ⟨_, h2, h3, h6⟩ := reqB_facts h
  refine goodL_of fun x hx => ?_
  rcases List.mem_cons.1 hx with rfl | hx
  · exact reqFirst_good h2
  · rcases List.mem_append.1 hx with hx | hx
    · exact fields_good h6 x hx
    · unfold lenLines at hx
      split at hx
      · cases hx
      · rw [List.mem_singleton.1 hx]; exact lenLine_good (by omega)
theorem fields_back {l : List S100} (b : ByteArray) (h : fieldsB l = true) : fieldsOf (l.map fl ++ lenLines b) = l := by
  obtain ⟨_, h2⟩ := okFs_facts l l 0 h
  rw [fieldsOf_append, fieldsOf_fl (fun x hx => ⟨(h2 x hx).1, (h2 x hx).2.2⟩)]
  have : fieldsOf (lenLines b) = [] := by
    unfold lenLines fieldsOf
    split
    · rfl
    · rw [List.filterMap_cons]; unfold lenLine; rw [fieldOf_len]; rfl
  rw [this, List.append_nil]
theorem words_first {m : Int} {p : ByteArray} (hp : pathB p = true) : splitBs (Tx (reqFirst m p)) ⟨#[32]⟩ = [methodT m, p, Tx httpB] := by
  have e : Tx (reqFirst m p) = methodT m ++ ((⟨#[32]⟩ : ByteArray) ++ (p ++ ((⟨#[32]⟩ : ByteArray) ++ Tx httpB))) := by
    apply B_ext
    simp only [B_append, B_Tx]
    rfl
  have h1 : (32 : UInt8) ∉ B (methodT m) := fun hc => absurd (method_bytes m _ hc) (by decide)
  have h2 : (32 : UInt8) ∉ B p := fun hc => absurd ((path_bytes hp).1 _ hc).1 (by decide)
  rw [e, splitBs_app (c := 32) (r := []) rfl h1, splitBs_app (c := 32) (r := []) rfl h2, splitBs_free (c := 32) (r := []) rfl (by rw [B_Tx]; decide)]
def methodN (w : ByteArray) : Int := if w = ⟨#[80, 85, 82, 71, 69]⟩ then 4 else if w = ⟨#[80, 79, 83, 84]⟩ then 3 else if w = ⟨#[72, 69, 65, 68]⟩ then 2 else if w = ⟨#[71, 69, 84]⟩ then 1 else 0
theorem methodN_T {m : Int} (h : 1 ≤ m ∧ m ≤ 4) : methodN (methodT m) = m := by
  have hm : m = 1 ∨ m = 2 ∨ m = 3 ∨ m = 4 := by omega
  rcases hm with e | e | e | e <;> subst e <;> decide
/-! ### ReqRead -/
theorem reqB_of {m : Int} {p : ByteArray} {l : List S100} {b s : ByteArray} (h : reqText m p l b = s) (hz : 0 < s.size) : reqB m p l b = true := by
  unfold reqText at h
  by_cases c : reqB m p l b = true
  · exact c
  · rw [if_neg c] at h
    rw [← h] at hz
    exact absurd hz (by decide)
def rejQ : Int × ByteArray × List S100 × ByteArray × Bool := (0, ⟨#[]⟩, [], ⟨#[]⟩, false)
def finQ (s : ByteArray) (m : Int) (p : ByteArray) (l : List S100) (b : ByteArray) : Int × ByteArray × List S100 × ByteArray × Bool := if reqText m p l b = s then (m, p, l, b, true) else rejQ
def mN (w : ByteArray) : Int := if (⟨#[80, 85, 82, 71, 69]⟩ : ByteArray) = w then ((4 : Nat) : Int) else if (⟨#[80, 79, 83, 84]⟩ : ByteArray) = w then ((3 : Nat) : Int) else if (⟨#[72, 69, 65, 68]⟩ : ByteArray) = w then ((2 : Nat) : Int) else if (⟨#[71, 69, 84]⟩ : ByteArray) = w then ((1 : Nat) : Int) else 0
theorem mN_T {m : Int} (h : 1 ≤ m ∧ m ≤ 4) : mN (methodT m) = m := by
  have hm : m = 1 ∨ m = 2 ∨ m = 3 ∨ m = 4 := by omega
  rcases hm with e | e | e | e <;> subst e <;> decide
/-- what a request's text is made of, when it is read -/
theorem req_lines {s : ByteArray} {m : Int} {p : ByteArray} {l : List S100} {b : ByteArray} (hq : reqB m p l b = true) (hr : reqText m p l b = s) : B s = lineT (reqLines m p l b) ++ (13 :: 10 :: B b) := by
  rw [← hr]; unfold reqText; rw [if_pos hq, B_Tx, reqBytes_lines]
def methodsL : List ByteArray := [⟨#[]⟩, ⟨#[71, 69, 84]⟩, ⟨#[72, 69, 65, 68]⟩, ⟨#[80, 79, 83, 84]⟩, ⟨#[80, 85, 82, 71, 69]⟩]
theorem spec_l3Methods_f : spec_l3Methods.f = some methodsL := rfl
theorem spec_RR_step {k : Nat} {s : ByteArray} {ws : List ByteArray} (hw : 0 < ws.length) (j : Nat) (hj : j < methodsL.length) (m : Int) (p : ByteArray) (l : List S100) (b : ByteArray) :
    spec_ReqRead.l0 (k + 1) s ws methodsL (j : Int) m p l b = spec_ReqRead.l0 k s ws methodsL ((j + 1 : Nat) : Int) (if methodsL[j] = ws[0] then (j : Int) else m) p l b := by
  have h0 : rdOf ByteArray.empty ws 0 = ws[0] := rd_B ws 0 hw
  have hl : methodsL.length = 5 := rfl
  simp only [spec_ReqRead.l0]
  rw [if_pos (by omega), if_pos (by omega), if_pos (by omega), rd_B methodsL j hj, h0, nat_round hj (by omega)]
  by_cases c : methodsL[j] = ws[0]
  · rw [if_pos ((toList_iff _ _).2 c), if_pos c]
  · rw [if_neg (fun h => c (toList_inj h)), if_neg c]
theorem spec_RR_l0 {k K : Nat} {s : ByteArray} {ws : List ByteArray} (hw : 0 < ws.length) {p : ByteArray} {l : List S100} {b : ByteArray} (hK : K < 4398046511104) (hp : p.size ≤ K) (hl : SmallF K l) (hk : 5 * K + 60 < k) :
    spec_ReqRead.l0 k s ws methodsL 1 0 p l b = some (finQ s (mN ws[0]) p l b) := by
  obtain ⟨k, rfl⟩ : ∃ j, k = j + 1 + 1 + 1 + 1 + 1 := ⟨k - 5, by omega⟩
  have e : spec_ReqRead.l0 (k + 1 + 1 + 1 + 1 + 1) s ws methodsL 1 0 p l b = spec_ReqRead.l0 (k + 1) s ws methodsL ((5 : Nat) : Int) (mN ws[0]) p l b :=
    (spec_RR_step hw 1 (by decide) 0 p l b).trans ((spec_RR_step hw 2 (by decide) _ p l b).trans ((spec_RR_step hw 3 (by decide) _ p l b).trans (spec_RR_step hw 4 (by decide) _ p l b)))
  rw [e]
  simp only [spec_ReqRead.l0]
  rw [if_neg (by decide), spec_ReqText_f hK hp hl (by omega), Option.bind_some]
  unfold finQ
  by_cases c : reqText (mN ws[0]) p l b = s
  · rw [if_pos ((toList_iff _ _).2 c), if_pos c]
  · rw [if_neg (fun h => c (toList_inj h)), if_neg c]; rfl
theorem spec_ReqRead_f {k : Nat} {s : ByteArray} (hs : s.size ≤ 1048576) (hk : 2199042129990 < k) : ∃ r, spec_ReqRead.f k s = some r ∧ (r = rejQ ∨ ∃ m p l b, r = (m, p, l, b, true) ∧ reqText m p l b = s ∧ 0 < s.size ∧ l.length ≤ 1048576) ∧ ∀ m p l b, reqB m p l b = true → reqText m p l b = s → r = (m, p, l, b, true) := by
  obtain ⟨ls, e, h1, h2, h3, h4, h5, h6⟩ := spec_l3Head_f (k := k) hs (by omega)
  have comp : ∀ m p l b, reqB m p l b = true → reqText m p l b = s → ls = (reqLines m p l b).map Tx ∧ e = (((lineT (reqLines m p l b)).length + 2 : Nat) : Int) := fun m p l b hq hr => h6 _ _ (reqLines_good hq) (req_lines hq hr)
  unfold spec_ReqRead.f
  rw [h1, Option.bind_some]
  dsimp only
  obtain ⟨k, rfl⟩ := succ_of (show 0 < k by omega)
  by_cases c : e < 0
  · rw [if_pos c]
    simp only [spec_ReqRead.j0]
    rw [if_pos trivial]
    exact ⟨_, rfl, .inl rfl, fun m p l b hq hr => by have := (comp m p l b hq hr).2; omega⟩
  · rw [if_neg c]
    simp only [spec_ReqRead.j0]
    obtain ⟨n, rfl⟩ : ∃ n : Nat, e = n := ⟨e.toNat, by omega⟩
    by_cases c2 : ls.length = 0
    · rw [if_pos (beq_iff_eq.2 (by omega))]
      refine ⟨_, rfl, .inl rfl, fun m p l b hq hr => ?_⟩
      rw [(comp m p l b hq hr).1] at c2
      simp [reqLines] at c2
    · have hpos : 0 < ls.length := by omega
      have h0 : rdOf ByteArray.empty ls 0 = ls[0] := rd_B ls 0 hpos
      have hz0 := h3 _ (List.getElem_mem hpos)
      rw [if_neg (fun h => c2 (by have := beq_iff_eq.1 h; omega)), if_pos (by omega), h0, spec_l3Words_f (by omega) (by omega), Option.bind_some]
      have hsm := splitBs_small (ls[0]).size ls[0] ⟨#[32]⟩ (Nat.le_refl _) (by show 1 ≤ 1; omega)
      have cw : ∀ m p l b, reqB m p l b = true → reqText m p l b = s → splitBs ls[0] ⟨#[32]⟩ = [methodT m, p, Tx httpB] := fun m p l b hq hr => by
        have q := (comp m p l b hq hr).1
        have q0 : ls[0] = Tx (reqFirst m p) := by simp only [q]; rfl
        rw [q0]; exact words_first (reqB_facts hq).2.1
      by_cases c3 : (splitBs ls[0] ⟨#[32]⟩).length = 3
      · have h1w : rdOf ByteArray.empty (splitBs ls[0] ⟨#[32]⟩) 1 = (splitBs ls[0] ⟨#[32]⟩)[1] := rd_B _ 1 (by omega)
        have hzp := hsm _ (List.getElem_mem (show 1 < (splitBs ls[0] ⟨#[32]⟩).length by omega))
        obtain ⟨fs, ef, f1, f2, f3⟩ := spec_l3Fields_f (k := k) (ls := ls.drop 1) (by rw [List.length_drop]; omega) (fun x hx => by have := h3 x (List.mem_of_mem_drop hx); omega) (by omega)
        rw [List.length_drop] at f1
        rw [if_pos (by omega), if_pos (by omega), if_pos (by omega), ef, Option.bind_some, if_pos (by omega), if_pos h4, spec_l3Methods_f, Option.bind_some, h1w, Int.toNat_natCast,
          spec_RR_l0 (K := 1048576) (by omega) (by omega) (by omega) ⟨by omega, f2⟩ (by omega)]
        refine ⟨_, rfl, ?_, fun m p l b hq hr => ?_⟩
        · unfold finQ
          by_cases c4 : reqText (mN (splitBs ls[0] ⟨#[32]⟩)[0]) (splitBs ls[0] ⟨#[32]⟩)[1] fs (s.extract n s.size) = s
          · rw [if_pos c4]; exact .inr ⟨_, _, _, _, rfl, c4, by omega, by omega⟩
          · rw [if_neg c4]; exact .inl rfl
        · obtain ⟨q1, q2⟩ := comp m p l b hq hr
          obtain ⟨g1, g2, g3, g4⟩ := reqB_facts hq
          have qw := cw m p l b hq hr
          have w0 : (splitBs ls[0] ⟨#[32]⟩)[0] = methodT m := by simp only [qw]; rfl
          have w1 : (splitBs ls[0] ⟨#[32]⟩)[1] = p := by simp only [qw]; rfl
          have qf : fs = l := f3 l ((lenLines b).map Tx) (by rw [q1]; unfold reqLines; rw [List.map_cons, List.drop_succ_cons, List.drop_zero, List.map_append, List.map_map]; rfl) (okF_names g4) (by
            rcases lenLines_or b with h | ⟨v, h⟩
            · left; rw [h]; rfl
            · right; exact ⟨v, by rw [h]; rfl⟩)
          have qb : s.extract n s.size = b := by
            apply B_ext
            have hn : n = (lineT (reqLines m p l b)).length + 2 := by omega
            rw [B_extract, List.take_of_length_le (by rw [B_len]; omega), req_lines hq hr, hn, List.drop_append, List.drop_eq_nil_of_le (by omega), List.nil_append, Nat.add_sub_cancel_left]; rfl
          rw [w0, w1, qf, qb, mN_T g1]
          unfold finQ
          rw [if_pos hr]
      · rw [if_neg (by omega)]
        refine ⟨_, rfl, .inl rfl, fun m p l b hq hr => ?_⟩
        rw [cw m p l b hq hr] at c3
        exact absurd rfl c3
theorem impl_RR_step {k : Nat} {s : ByteArray} {ws : List ByteArray} (hw : 0 < ws.length) (j : Nat) (hj : 1 ≤ j ∧ j ≤ 4) (m : Int) (p : ByteArray) (l : List S100) (b : ByteArray) :
    impl_ReqRead.l0 (k + 1) s ws (j : Int) m p l b = impl_ReqRead.l0 k s ws ((j + 1 : Nat) : Int) (if methodT (j : Int) = ws[0] then (j : Int) else m) p l b := by
  have h0 : rdOf ByteArray.empty ws 0 = ws[0] := rd_B ws 0 hw
  have hmt : impl_methodText.f (j : Int) = some (methodT (j : Int)) := by
    have hm : j = 1 ∨ j = 2 ∨ j = 3 ∨ j = 4 := by omega
    rcases hm with e | e | e | e <;> subst e <;> rfl
  simp only [impl_ReqRead.l0]
  rw [if_pos (by omega), hmt, Option.bind_some, if_pos (by omega), h0, nat_round (n := 5) (by omega) (by omega)]
  by_cases c : methodT (j : Int) = ws[0]
  · rw [if_pos ((toList_iff _ _).2 c), if_pos c]
  · rw [if_neg (fun h => c (toList_inj h)), if_neg c]
theorem impl_RR_l0 {k K : Nat} {s : ByteArray} {ws : List ByteArray} (hw : 0 < ws.length) {p : ByteArray} {l : List S100} {b : ByteArray} (hK : K < 4398046511104) (hp : p.size ≤ K) (hl : SmallF K l) (hk : 5 * K + 60 < k) :
    impl_ReqRead.l0 k s ws 1 0 p l b = some (if s.size = 0 then rejQ else finQ s (mN ws[0]) p l b) := by
  obtain ⟨k, rfl⟩ : ∃ j, k = j + 1 + 1 + 1 + 1 + 1 := ⟨k - 5, by omega⟩
  have e : impl_ReqRead.l0 (k + 1 + 1 + 1 + 1 + 1) s ws 1 0 p l b = impl_ReqRead.l0 (k + 1) s ws ((5 : Nat) : Int) (mN ws[0]) p l b :=
    (impl_RR_step hw 1 (by decide) 0 p l b).trans ((impl_RR_step hw 2 (by decide) _ p l b).trans ((impl_RR_step hw 3 (by decide) _ p l b).trans (impl_RR_step hw 4 (by decide) _ p l b)))
  rw [e]
  simp only [impl_ReqRead.l0]
  rw [if_neg (by decide)]
  by_cases c0 : s.toList = []
  · rw [if_pos c0, if_pos (size_zero c0)]; rfl
  · have hz : s.size ≠ 0 := fun h => c0 (by rw [toList_B]; exact List.eq_nil_of_length_eq_zero (by rw [B_len]; exact h))
    rw [if_neg c0, if_neg hz, impl_ReqText_f hK hp hl (by omega), Option.bind_some]
    unfold finQ
    by_cases c : reqText (mN ws[0]) p l b = s
    · rw [if_pos ((toList_iff _ _).2 c), if_pos c]
    · rw [if_neg (fun h => c (toList_inj h)), if_neg c]; rfl
theorem impl_ReqRead_f {k : Nat} {s : ByteArray} (hs : s.size ≤ 1048576) (hk : 5243000 < k) : ∃ r, impl_ReqRead.f k s = some r ∧ (r = rejQ ∨ ∃ m p l b, r = (m, p, l, b, true) ∧ reqText m p l b = s ∧ 0 < s.size ∧ l.length ≤ 1048576) ∧ ∀ m p l b, reqB m p l b = true → reqText m p l b = s → r = (m, p, l, b, true) := by
  obtain ⟨f0, r, bd, ok, e, h1, h2, h3, h4, h5⟩ := impl_parts_f (k := k) hs (by omega)
  have comp : ∀ m p l b, reqB m p l b = true → reqText m p l b = s → (f0, r, bd, ok) = (Tx (reqFirst m p), l, b, true) := fun m p l b hq hr => by
    obtain ⟨g1, g2, g3, g4⟩ := reqB_facts hq
    have := h5 (reqFirst m p) l (lenLines b) (B b) (reqLines_good hq) (req_lines hq hr) (fieldsB_lines g4).1 (okF_names g4) (lenLines_or b)
    rw [this, Tx_B]
  have hsm := splitBs_small f0.size f0 ⟨#[32]⟩ (Nat.le_refl _) (by show 1 ≤ 1; omega)
  unfold impl_ReqRead.f
  rw [e, Option.bind_some]
  dsimp only
  unfold strings_Split.f
  rw [if_pos ⟨by omega, by show 1 ≤ 1; omega⟩, Option.bind_some]
  obtain ⟨k, rfl⟩ := succ_of (show 0 < k by omega)
  cases ok with
  | false =>
    rw [if_neg (by simp)]
    simp only [impl_ReqRead.j0]
    rw [if_pos trivial]
    exact ⟨_, rfl, .inl rfl, fun m p l b hq hr => by have := comp m p l b hq hr; cases this⟩
  | true =>
    rw [if_pos rfl]
    simp only [impl_ReqRead.j0]
    have cw : ∀ m p l b, reqB m p l b = true → reqText m p l b = s → splitBs f0 ⟨#[32]⟩ = [methodT m, p, Tx httpB] ∧ r = l ∧ bd = b := fun m p l b hq hr => by
      have q := comp m p l b hq hr
      injection q with q1 q2
      injection q2 with q2 q3
      injection q3 with q3 q4
      exact ⟨by rw [q1]; exact words_first (reqB_facts hq).2.1, q2, q3⟩
    by_cases c3 : (splitBs f0 ⟨#[32]⟩).length = 3
    · have h1w : rdOf ByteArray.empty (splitBs f0 ⟨#[32]⟩) 1 = (splitBs f0 ⟨#[32]⟩)[1] := rd_B _ 1 (by omega)
      have hzp := hsm _ (List.getElem_mem (show 1 < (splitBs f0 ⟨#[32]⟩).length by omega))
      rw [if_neg (by simp [c3]), if_pos (by omega), h1w, impl_RR_l0 (K := 1048576) (by omega) (by omega) (by omega) ⟨by omega, h4⟩ (by omega)]
      refine ⟨_, rfl, ?_, fun m p l b hq hr => ?_⟩
      · by_cases cz : s.size = 0
        · rw [if_pos cz]; exact .inl rfl
        · rw [if_neg cz]
          unfold finQ
          by_cases c4 : reqText (mN (splitBs f0 ⟨#[32]⟩)[0]) (splitBs f0 ⟨#[32]⟩)[1] r bd = s
          · rw [if_pos c4]; exact .inr ⟨_, _, _, _, rfl, c4, by omega, by omega⟩
          · rw [if_neg c4]; exact .inl rfl
      · obtain ⟨g1, g2, g3, g4⟩ := reqB_facts hq
        obtain ⟨qw, q2, q3⟩ := cw m p l b hq hr
        have w0 : (splitBs f0 ⟨#[32]⟩)[0] = methodT m := by simp only [qw]; rfl
        have w1 : (splitBs f0 ⟨#[32]⟩)[1] = p := by simp only [qw]; rfl
        have hz : s.size ≠ 0 := by
          rw [← B_len, req_lines hq hr, List.length_append, List.length_cons]; omega
        rw [w0, w1, q2, q3, mN_T g1, if_neg hz]
        unfold finQ
        rw [if_pos hr]
    · rw [if_pos (by simpa using fun h => c3 (by omega))]
      refine ⟨_, rfl, .inl rfl, fun m p l b hq hr => ?_⟩
      rw [(cw m p l b hq hr).1] at c3
      exact absurd rfl c3
/-- Both read the same. -/
theorem ReqRead_same {k1 k2 : Nat} {s : ByteArray} (hs : s.size ≤ 1048576) (h1 : 2199042129990 < k1) (h2 : 5243000 < k2) : ∃ r, spec_ReqRead.f k1 s = some r ∧ impl_ReqRead.f k2 s = some r ∧ (r = rejQ ∨ ∃ m p l b, r = (m, p, l, b, true) ∧ reqText m p l b = s ∧ 0 < s.size ∧ l.length ≤ 1048576) ∧ ∀ m p l b, reqB m p l b = true → reqText m p l b = s → r = (m, p, l, b, true) := by
  obtain ⟨r, e, a1, a2⟩ := spec_ReqRead_f hs h1
  obtain ⟨r', e', b1, b2⟩ := impl_ReqRead_f hs h2
  have heq : r' = r := by
    rcases b1 with b1 | ⟨m, p, l, b, b1, hr, hz, _⟩
    · rcases a1 with a1 | ⟨m, p, l, b, a1, hr, hz, _⟩
      · rw [a1, b1]
      · rw [a1]; exact b2 m p l b (reqB_of hr hz) hr
    · rw [b1]; exact (a2 m p l b (reqB_of hr hz) hr).symm
  exact ⟨r, e, by rw [← heq]; exact e', a1, a2⟩
theorem reqText_size (m : Int) (p : ByteArray) (l : List S100) (b : ByteArray) : (reqText m p l b).size ≤ 1000 := by
  unfold reqText
  split
  · rename_i h
    obtain ⟨_, h2, h3, h6⟩ := reqB_facts h
    have h5 := (fieldsB_lines h6).2
    have n1 := methodT_size m
    have n2 := numT_size b.size
    have n4 := path_size h2
    rw [Tx_size]
    unfold reqBytes lenBytes lenWord
    split <;> simp only [List.length_append, List.length_cons, List.length_nil, B_len] <;> omega
  · exact Nat.zero_le _
theorem reqText_ne (m : Int) (p : ByteArray) (l : List S100) (b : ByteArray) : ((reqText m p l b).toList != ([] : List UInt8)) = reqB m p l b := by
  unfold reqText
  by_cases h : reqB m p l b = true
  · rw [if_pos h, h, toList_B, B_Tx]
    unfold reqBytes
    simp
  · rw [if_neg h]
    rw [Bool.not_eq_true] at h
    rw [h, toList_B]; rfl
theorem spec_l3DrawReq_l0 (l : List Int) (hl : (l.length : Int) ≤ 4611686018427387904) (m : Int) (p : ByteArray) : ∀ (d k n : Nat) (acc : List S100) (i h : Int), n + d = 3 → acc.length ≤ n → (∀ x ∈ acc, x.f0.size ≤ 26 ∧ x.f1.size ≤ 26) → 0 ≤ i → i ≤ l.length → d + 30 < k →
    ∃ r b i' h', spec_l3DrawReq.l0 k (n : Int) l i h m p acc (⟨#[]⟩ : ByteArray) = some (m, p, r, b, i', h') ∧ SmallF 26 r ∧ r.length ≤ 3 ∧ b.size ≤ 14 ∧ 0 ≤ i' ∧ i' ≤ l.length := by
  have fin : ∀ (k : Nat) (acc : List S100) (i h : Int), acc.length ≤ 3 → (∀ x ∈ acc, x.f0.size ≤ 26 ∧ x.f1.size ≤ 26) → 0 ≤ i → i ≤ l.length → 20 < k → ∃ r b i' h', (if m = 3 then ((spec_l3DrawBody.f k l i h).bind fun bt => (some (m, p, acc, bt.1, bt.2.1, bt.2.2))) else (some (m, p, acc, (⟨#[]⟩ : ByteArray), i, h))) = some (m, p, r, b, i', h') ∧ SmallF 26 r ∧ r.length ≤ 3 ∧ b.size ≤ 14 ∧ 0 ≤ i' ∧ i' ≤ l.length := by
    intro k acc i h ha hx h0 hi hk
    split
    · obtain ⟨b, i1, h1, e, hb, i10, i11⟩ := spec_l3DrawBody_f (k := k) (h := h) hl h0 hi hk
      rw [e, Option.bind_some]
      exact ⟨_, _, _, _, rfl, ⟨by omega, hx⟩, ha, hb, i10, i11⟩
    · exact ⟨_, _, _, _, rfl, ⟨by omega, hx⟩, ha, Nat.zero_le _, h0, hi⟩
  intro d
  induction d with
  | zero =>
    intro k n acc i h hd ha hx h0 hi hk
    obtain ⟨k, rfl⟩ := succ_of (show 0 < k by omega)
    obtain ⟨v, i1, h1, e, v0, v1, _, i10, i11⟩ := spec_l1Below_f l i h 4 h0 hl hi
    have v2 := v1 (by omega)
    simp only [spec_l3DrawReq.l0]
    rw [e, Option.bind_some]
    dsimp only
    rw [if_neg (by omega)]
    exact fin k acc i1 h1 (by omega) hx i10 i11 (by omega)
  | succ d ih =>
    intro k n acc i h hd ha hx h0 hi hk
    obtain ⟨k, rfl⟩ := succ_of (show 0 < k by omega)
    obtain ⟨v, i1, h1, e, v0, v1, _, i10, i11⟩ := spec_l1Below_f l i h 4 h0 hl hi
    have hr : wrap64 ((n : Int) + 1) = ((n + 1 : Nat) : Int) := by rw [w64 (by omega)]; omega
    have push : ∀ (f v : ByteArray) (i h : Int), f.size ≤ 26 → v.size ≤ 26 → 0 ≤ i → i ≤ l.length → ∃ r b i' h', spec_l3DrawReq.l0 k ((n + 1 : Nat) : Int) l i h m p (acc ++ [⟨f, v⟩]) (⟨#[]⟩ : ByteArray) = some (m, p, r, b, i', h') ∧ SmallF 26 r ∧ r.length ≤ 3 ∧ b.size ≤ 14 ∧ 0 ≤ i' ∧ i' ≤ l.length := fun f v i h hf hv h0 hi =>
      ih k (n + 1) _ i h (by omega) (by simp; omega) (fun x hx' => by
        rcases List.mem_append.1 hx' with hx' | hx'
        · exact hx x hx'
        · rw [List.mem_singleton.1 hx']; exact ⟨hf, hv⟩) h0 hi (by omega)
    simp only [spec_l3DrawReq.l0]
    rw [e, Option.bind_some]
    dsimp only
    split
    · obtain ⟨f, i2, h2, e2, hf, i20, i21⟩ := spec_l1Pick_le l i1 h1 26 [(⟨#[108, 97, 110, 103]⟩ : ByteArray), (⟨#[107, 105, 110, 100]⟩ : ByteArray), (⟨#[99, 97, 99, 104, 101, 45, 99, 111, 110, 116, 114, 111, 108]⟩ : ByteArray), (⟨#[105, 102, 45, 110, 111, 110, 101, 45, 109, 97, 116, 99, 104]⟩ : ByteArray), (⟨#[120, 45, 97]⟩ : ByteArray)] i10 hl i11 (by decide) (by rfl)
      rw [e2, Option.bind_some]
      dsimp only
      rw [spec_l2At_f (by omega) (by omega), Option.bind_some, hr]
      split
      · obtain ⟨w, i3, h3, e3, hw, i30, i31⟩ := spec_l1Pick_le l i2 h2 26 [(⟨#[100, 101]⟩ : ByteArray), (⟨#[101, 110]⟩ : ByteArray)] i20 hl i21 (by decide) (by rfl)
        rw [e3, Option.bind_some]
        dsimp only
        split
        · obtain ⟨w, i4, h4, e4, hw, i40, i41⟩ := spec_l1Pick_le l i3 h3 26 [(⟨#[120]⟩ : ByteArray), (⟨#[121]⟩ : ByteArray)] i30 hl i31 (by decide) (by rfl)
          rw [e4, Option.bind_some]
          dsimp only
          rw [if_pos (by omega)]
          exact push f w i4 h4 hf hw i40 i41
        · split
          · obtain ⟨w, i4, h4, e4, hw, i40, i41⟩ := spec_l1Pick_le l i3 h3 26 [(⟨#[110, 111, 45, 99, 97, 99, 104, 101]⟩ : ByteArray), (⟨#[110, 111, 45, 115, 116, 111, 114, 101]⟩ : ByteArray), (⟨#[109, 97, 120, 45, 97, 103, 101, 61, 51]⟩ : ByteArray)] i30 hl i31 (by decide) (by rfl)
            rw [e4, Option.bind_some]
            dsimp only
            rw [if_pos (by omega)]
            exact push f w i4 h4 hf hw i40 i41
          · split
            · obtain ⟨w, i4, h4, e4, hw, i40, i41⟩ := spec_l1Pick_le l i3 h3 26 [(⟨#[97]⟩ : ByteArray), (⟨#[98]⟩ : ByteArray)] i30 hl i31 (by decide) (by rfl)
              rw [e4, Option.bind_some]
              dsimp only
              rw [if_pos (by omega)]
              exact push f w i4 h4 hf hw i40 i41
            · rw [if_pos (by omega)]
              exact push f w i3 h3 hf hw i30 i31
      · exact ih k (n + 1) acc i2 h2 (by omega) (by omega) hx i20 i21 (by omega)
    · exact fin k acc i1 h1 (by omega) hx i10 i11 (by omega)
theorem spec_l3DrawReq_f {k : Nat} {l : List Int} {i h : Int} (hl : (l.length : Int) ≤ 4611686018427387904) (h0 : 0 ≤ i) (hi : i ≤ l.length) (hk : 40 < k) : ∃ m p r b i' h', spec_l3DrawReq.f k l i h = some (m, p, r, b, i', h') ∧ (1 ≤ m ∧ m ≤ 4) ∧ p.size ≤ 26 ∧ SmallF 26 r ∧ r.length ≤ 3 ∧ b.size ≤ 14 ∧ 0 ≤ i' ∧ i' ≤ l.length := by
  unfold spec_l3DrawReq.f
  obtain ⟨m, i1, h1, e, hm, i10, i11⟩ := spec_l1PickInt_f l i h [1, 1, 1, 1, 2, 3, 4] h0 hl hi (by decide)
  rw [e, Option.bind_some]
  dsimp only
  obtain ⟨p, i2, h2, e2, hp, i20, i21⟩ := spec_l1Pick_le l i1 h1 26 [(⟨#[47]⟩ : ByteArray), (⟨#[47, 97]⟩ : ByteArray), (⟨#[47, 97, 47, 98]⟩ : ByteArray), (⟨#[47, 98]⟩ : ByteArray)] i10 hl i11 (by decide) (by rfl)
  rw [e2, Option.bind_some]
  dsimp only
  obtain ⟨r, b, i3, h3, e3, hr, hr3, hb, i30, i31⟩ := spec_l3DrawReq_l0 l hl m p 3 k 0 [] i2 h2 (by omega) (by simp) (fun x hx => by cases hx) i20 i21 (by omega)
  refine ⟨m, p, r, b, i3, h3, e3, ?_, hp, hr, hr3, hb, i30, i31⟩
  simp only [List.mem_cons, List.mem_nil_iff, or_false] at hm
  omega
theorem spec_l3DrawBadReq_l0 (l : List Int) (hl : (l.length : Int) ≤ 4611686018427387904) (m : Int) (p : ByteArray) (r : List S100) : ∀ (d k : Nat) (b : ByteArray) (i h : Int), b.size + d = 200 → 0 ≤ i → i ≤ l.length → d < k → ∃ b' i' h', spec_l3DrawBadReq.l0 k l i h m p r b = some (m, p, r, b', i', h') ∧ b'.size ≤ 200 ∧ 0 ≤ i' ∧ i' ≤ l.length := by
  intro d
  induction d with
  | zero =>
    intro k b i h hd h0 hi hk
    obtain ⟨k, rfl⟩ := succ_of hk
    obtain ⟨v, i1, h1, e, v0, v1, _, i10, i11⟩ := spec_l1Below_f l i h 2 h0 hl hi
    have v2 := v1 (by omega)
    simp only [spec_l3DrawBadReq.l0]
    rw [e, Option.bind_some]
    dsimp only
    rw [w64 (by omega), if_neg (by omega)]
    exact ⟨_, _, _, rfl, by omega, i10, i11⟩
  | succ d ih =>
    intro k b i h hd h0 hi hk
    obtain ⟨k, rfl⟩ := succ_of hk
    obtain ⟨v, i1, h1, e, v0, v1, _, i10, i11⟩ := spec_l1Below_f l i h 2 h0 hl hi
    have v2 := v1 (by omega)
    simp only [spec_l3DrawBadReq.l0]
    rw [e, Option.bind_some]
    dsimp only
    rw [w64 (by omega)]
    split
    · rw [if_pos (by omega)]
      exact ih k _ i1 h1 (by rw [ByteArray.size_append]; show b.size + 1 + d = 200; omega) i10 i11 (by omega)
    · exact ⟨_, _, _, rfl, by omega, i10, i11⟩
theorem spec_l3DrawBadReq_f {k : Nat} {l : List Int} {i h : Int} (hl : (l.length : Int) ≤ 4611686018427387904) (h0 : 0 ≤ i) (hi : i ≤ l.length) (hk : 300 < k) : ∃ m p r b i' h', spec_l3DrawBadReq.f k l i h = some (m, p, r, b, i', h') ∧ p.size ≤ 61 ∧ SmallF 27 r ∧ b.size ≤ 200 ∧ 0 ≤ i' ∧ i' ≤ l.length := by
  unfold spec_l3DrawBadReq.f
  obtain ⟨m, p, r, b, i1, h1, e, _, hp, hr, _, hb, i10, i11⟩ := spec_l3DrawReq_f (k := k) (h := h) hl h0 hi (by omega)
  have hr' : SmallF 27 r := ⟨by have := hr.1; omega, fun x hx => by have := hr.2 x hx; omega⟩
  rw [e, Option.bind_some]
  dsimp only
  obtain ⟨v, i2, h2, e2, _, _, _, i20, i21⟩ := spec_l1Below_f l i1 h1 20 i10 hl i11
  rw [e2, Option.bind_some]
  dsimp only
  split
  · obtain ⟨t, i3, h3, e3, _, _, _, i30, i31⟩ := spec_l1Below_f l i2 h2 7 i20 hl i21
    rw [e3, Option.bind_some]
    exact ⟨_, _, _, _, _, _, rfl, by omega, hr', by omega, i30, i31⟩
  · split
    · obtain ⟨t, i3, h3, e3, ht, i30, i31⟩ := spec_l1Pick_le l i2 h2 61 [(⟨#[]⟩ : ByteArray), (⟨#[97]⟩ : ByteArray), (⟨#[47, 32, 98]⟩ : ByteArray), (⟨#[47, 127]⟩ : ByteArray), (⟨#[47, 48, 49, 50, 51, 52, 53, 54, 55, 56, 57, 48, 49, 50, 51, 52, 53, 54, 55, 56, 57, 48, 49, 50, 51, 52, 53, 54, 55, 56, 57, 48, 49, 50, 51, 52, 53, 54, 55, 56, 57, 48, 49, 50, 51, 52, 53, 54, 55, 56, 57, 48, 49, 50, 51, 52, 53, 54, 55, 56, 57]⟩ : ByteArray)] i20 hl i21 (by decide) (by rfl)
      rw [e3, Option.bind_some]
      exact ⟨_, _, _, _, _, _, rfl, ht, hr', by omega, i30, i31⟩
    · split
      · obtain ⟨fs, i3, h3, e3, hf, i30, i31⟩ := spec_l2Draw_f (k := k) (h := h2) hl i20 i21 (by omega)
        rw [e3, Option.bind_some]
        exact ⟨_, _, _, _, _, _, rfl, by omega, ⟨by have := hf.1; dsimp only; omega, fun x hx => by have := hf.2 x hx; omega⟩, by omega, i30, i31⟩
      · split
        · obtain ⟨b', i3, h3, e3, hb', i30, i31⟩ := spec_l3DrawBadReq_l0 l hl m p r (200 - b.size) k b i2 h2 (by omega) i20 i21 (by omega)
          exact ⟨m, p, r, b', i3, h3, e3, by omega, hr', hb', i30, i31⟩
        · exact ⟨_, _, _, _, _, _, rfl, by omega, hr', by omega, i20, i21⟩
theorem spec_DrawReqText_f {k : Nat} {l : List Int} (hl : (l.length : Int) ≤ 4611686018427387904) (hk : l.length + 300 < k) : ∃ m p q b, spec_DrawReqText.f k l = some (m, p, q, b) ∧ p.size ≤ 61 ∧ SmallF 27 q ∧ b.size ≤ 200 := by
  unfold spec_DrawReqText.f
  obtain ⟨h', e⟩ := spec_l1New_f (k := k) hl (by omega)
  rw [e, Option.bind_some]
  dsimp only
  obtain ⟨m, p, r, b, i1, h1, e1, hp, hr, hb, _⟩ := spec_l3DrawBadReq_f (k := k) (l := l) (i := 0) (h := h') hl (by omega) (by omega) (by omega)
  rw [e1, Option.bind_some]
  exact ⟨_, _, _, _, rfl, hp, hr, hb⟩
theorem spec_DrawReqRead_f {k : Nat} {l : List Int} (hl : (l.length : Int) ≤ 4611686018427387904) (hk : l.length + 300 < k) : ∃ t, spec_DrawReqRead.f k l = some t ∧ t.size ≤ 1020 := by
  unfold spec_DrawReqRead.f
  obtain ⟨h', e⟩ := spec_l1New_f (k := k) hl (by omega)
  rw [e, Option.bind_some]
  dsimp only
  obtain ⟨m, p, r, b, i1, h1, e1, _, hp, hr, _, _, i10, i11⟩ := spec_l3DrawReq_f (k := k) (l := l) (i := 0) (h := h') hl (by omega) (by omega) (by omega)
  rw [e1, Option.bind_some]
  dsimp only
  have hz := reqText_size m p r b
  rw [spec_ReqText_f (K := 26) (by omega) hp hr (by omega), Option.bind_some]
  obtain ⟨t, i2, h2, e2, ht⟩ := spec_l3Dent_f l i1 h1 (reqText m p r b) [⟨#[32]⟩, ⟨#[13, 10]⟩, ⟨#[97, 58, 32, 98, 13, 10]⟩, ⟨#[120]⟩, ⟨#[99, 111, 110, 116, 101, 110, 116, 45, 108, 101, 110, 103, 116, 104, 58, 32, 51, 13, 10]⟩, ⟨#[10]⟩] i10 hl i11 (by omega) (by decide) (by decide)
  rw [e2, Option.bind_some]
  exact ⟨_, rfl, by dsimp only; omega⟩

end Go.Proofs.YtnmanegjgidgcaaGreatDoor.Pure
