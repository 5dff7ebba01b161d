/- What the printed functions answer, in plain words: lemmas of this session. No condition of a statement lies here. -/
import Derived.Test.YtnmanegjgidgcaaGreatDoorAllx0
import Derived.Test.YtnmanegjgidgcaaGreatDoorAllx14
import Derived.Test.YtnmanegjgidgcaaGreatDoorAllx15
import Derived.Test.YtnmanegjgidgcaaGreatDoorAllx3
import Derived.Test.YtnmanegjgidgcaaGreatDoorQhe0a6f4eb
namespace Go.Proofs.YtnmanegjgidgcaaGreatDoor.Pure
open Go.RowKit Go.Proofs.YtnmanegjgidgcaaGreatDoor.All Go.Proofs.YtnmanegjgidgcaaGreatDoorW.PrintWords Go.Proofs.YtnmanegjgidgcaaGreatDoorW.PrintLast
set_option linter.unusedVariables false
set_option linter.unusedSimpArgs false

def respText (m : Int) (l : List S100) (b : ByteArray) : ByteArray :=
  if respB m l b = true then (((((((⟨#[72, 84, 84, 80, 47, 49, 46, 49, 32]⟩ : ByteArray) ++ numT m) ++ (⟨#[32, 46, 13, 10]⟩ : ByteArray)) ++ linesT l) ++ (⟨#[99, 111, 110, 116, 101, 110, 116, 45, 108, 101, 110, 103, 116, 104, 58, 32]⟩ : ByteArray)) ++ numT b.size) ++ (⟨#[13, 10, 13, 10]⟩ : ByteArray)) ++ b else ⟨#[]⟩
theorem respB_facts {m : Int} {l : List S100} {b : ByteArray} (h : respB m l b = true) : (100 ≤ m ∧ m ≤ 599) ∧ b.size ≤ 120 ∧ fieldsB l = true := by
  unfold respB at h
  rw [Bool.and_eq_true, Bool.and_eq_true] at h
  exact ⟨of_decide_eq_true h.1, of_decide_eq_true h.2.1, h.2.2⟩
theorem spec_RespText_f {k K : Nat} {m : Int} {l : List S100} {b : ByteArray} (hK : K < 4398046511104) (hl : SmallF K l) (hk : 5 * K + 50 < k) : spec_RespText.f k m l b = some (respText m l b) := by
  unfold spec_RespText.f respText
  rw [spec_RespOk_f hK hl (by omega), Option.bind_some]
  by_cases h : respB m l b = true
  · obtain ⟨h1, h2, h3⟩ := respB_facts h
    obtain ⟨h4, h5⟩ := fieldsB_lines h3
    have n1 := numT_size m
    have n2 := numT_size b.size
    have n3 := linesT_size l
    have s1 : (⟨#[72, 84, 84, 80, 47, 49, 46, 49, 32]⟩ : ByteArray).size = 9 := rfl
    have s2 : (⟨#[32, 46, 13, 10]⟩ : ByteArray).size = 4 := rfl
    have s3 : (⟨#[99, 111, 110, 116, 101, 110, 116, 45, 108, 101, 110, 103, 116, 104, 58, 32]⟩ : ByteArray).size = 16 := rfl
    have s4 : (⟨#[13, 10, 13, 10]⟩ : ByteArray).size = 4 := rfl
    rw [if_pos h, if_pos h, spec_NumText_f (by omega), Option.bind_some, if_pos (by omega), if_pos (by simp only [ByteArray.size_append, s1]; omega), spec_FieldsText_f (by omega) (by omega) (by omega), Option.bind_some]
    show (if (((⟨#[72, 84, 84, 80, 47, 49, 46, 49, 32]⟩ : ByteArray) ++ numT m) ++ (⟨#[32, 46, 13, 10]⟩ : ByteArray)).size + (linesT l).size ≤ 9223372036854775807 then _ else none) = _
    rw [if_pos (by simp only [ByteArray.size_append, s1, s2]; omega)]
    show (if ((((⟨#[72, 84, 84, 80, 47, 49, 46, 49, 32]⟩ : ByteArray) ++ numT m) ++ (⟨#[32, 46, 13, 10]⟩ : ByteArray)) ++ linesT l).size + 16 ≤ 9223372036854775807 then _ else none) = _
    rw [if_pos (by simp only [ByteArray.size_append, s1, s2]; omega), spec_NumText_f (by omega), Option.bind_some]
    show (if (((((⟨#[72, 84, 84, 80, 47, 49, 46, 49, 32]⟩ : ByteArray) ++ numT m) ++ (⟨#[32, 46, 13, 10]⟩ : ByteArray)) ++ linesT l) ++ (⟨#[99, 111, 110, 116, 101, 110, 116, 45, 108, 101, 110, 103, 116, 104, 58, 32]⟩ : ByteArray)).size + (numT b.size).size ≤ 9223372036854775807 then _ else none) = _
    rw [if_pos (by simp only [ByteArray.size_append, s1, s2, s3]; omega)]
    show (if ((((((⟨#[72, 84, 84, 80, 47, 49, 46, 49, 32]⟩ : ByteArray) ++ numT m) ++ (⟨#[32, 46, 13, 10]⟩ : ByteArray)) ++ linesT l) ++ (⟨#[99, 111, 110, 116, 101, 110, 116, 45, 108, 101, 110, 103, 116, 104, 58, 32]⟩ : ByteArray)) ++ numT b.size).size + 4 ≤ 9223372036854775807 then _ else none) = _
    rw [if_pos (by simp only [ByteArray.size_append, s1, s2, s3]; omega)]
    show (if (((((((⟨#[72, 84, 84, 80, 47, 49, 46, 49, 32]⟩ : ByteArray) ++ numT m) ++ (⟨#[32, 46, 13, 10]⟩ : ByteArray)) ++ linesT l) ++ (⟨#[99, 111, 110, 116, 101, 110, 116, 45, 108, 101, 110, 103, 116, 104, 58, 32]⟩ : ByteArray)) ++ numT b.size) ++ (⟨#[13, 10, 13, 10]⟩ : ByteArray)).size + b.size ≤ 9223372036854775807 then _ else none) = _
    rw [if_pos (by simp only [ByteArray.size_append, s1, s2, s3, s4]; omega)]
    rfl
  · rw [if_neg h, if_neg h]
theorem impl_RespText_f {k K : Nat} {m : Int} {l : List S100} {b : ByteArray} (hK : K < 4398046511104) (hl : SmallF K l) (hk : 5 * K + 50 < k) : impl_RespText.f k m l b = some (respText m l b) := by
  unfold impl_RespText.f respText
  rw [impl_RespOk_f hK hl (by omega), Option.bind_some]
  by_cases h : respB m l b = true
  · obtain ⟨h1, h2, h3⟩ := respB_facts h
    obtain ⟨h4, h5⟩ := fieldsB_lines h3
    have n1 := numT_size m
    have n2 := numT_size b.size
    have n3 := linesT_size l
    have s1 : (⟨#[72, 84, 84, 80, 47, 49, 46, 49, 32]⟩ : ByteArray).size = 9 := rfl
    have s2 : (⟨#[32, 46]⟩ : ByteArray).size = 2 := rfl
    have s3 : (⟨#[99, 111, 110, 116, 101, 110, 116, 45, 108, 101, 110, 103, 116, 104, 58, 32]⟩ : ByteArray).size = 16 := rfl
    have s4 : (⟨#[13, 10]⟩ : ByteArray).size = 2 := rfl
    have hll : impl_lengthLine.f b = some (((⟨#[99, 111, 110, 116, 101, 110, 116, 45, 108, 101, 110, 103, 116, 104, 58, 32]⟩ : ByteArray) ++ numT b.size) ++ (⟨#[13, 10]⟩ : ByteArray)) := by
      unfold impl_lengthLine.f
      rw [itoa_numT (by omega), Option.bind_some, if_pos (by omega), if_pos (by simp only [ByteArray.size_append, s3]; omega)]
    have hft : impl_FieldsText.f l = some (linesT l) := impl_FieldsText_f (by omega) (by omega)
    rw [if_pos h, if_pos h, itoa_numT (by omega), Option.bind_some, if_pos (by omega), if_pos (by simp only [ByteArray.size_append, s1]; omega), if_pos (by simp only [ByteArray.size_append, s1, s2]; omega), hft, Option.bind_some,
      if_pos (by simp only [ByteArray.size_append, s1, s2, s4]; omega), hll, Option.bind_some, if_pos (by simp only [ByteArray.size_append, s1, s2, s3, s4]; omega), if_pos (by simp only [ByteArray.size_append, s1, s2, s3, s4]; omega), if_pos (by simp only [ByteArray.size_append, s1, s2, s3, s4]; omega)]
    refine congrArg some (B_ext ?_)
    simp only [B_append, List.append_assoc]
    rfl
  · rw [if_neg h, if_neg h]
/-! ### an answer's text, line by line -/
def respFirst (m : Int) : List UInt8 := [72, 84, 84, 80, 47, 49, 46, 49] ++ (32 :: (B (numT m) ++ [32, 46]))
def respLines (m : Int) (l : List S100) (b : ByteArray) : List (List UInt8) := respFirst m :: (l.map fl ++ [lenN ++ (58 :: 32 :: B (numT b.size))])
theorem respText_lines {m : Int} {l : List S100} {b : ByteArray} (h : respB m l b = true) : respText m l b = Tx (lineT (respLines m l b) ++ (13 :: 10 :: B b)) := by
  apply B_ext
  unfold respText respLines respFirst lenN
  rw [if_pos h, B_Tx, lineT, lineT_append, ← fieldLines_lineT]
  simp only [B_append]
  have : B (linesT l) = fieldLines l := B_mk (fieldLines l)
  rw [this]
  simp [lineT, B]
/-! ### an answer's text, back -/
theorem respB_of {m : Int} {l : List S100} {b s : ByteArray} (h : respText m l b = s) (hz : 0 < s.size) : respB m l b = true := by
  unfold respText at h
  by_cases c : respB m l b = true
  · exact c
  · rw [if_neg c] at h
    rw [← h] at hz
    exact absurd hz (by decide)
def rejR : Int × List S100 × ByteArray × Bool := (0, [], ⟨#[]⟩, false)
def finR (s : ByteArray) (m : Int) (l : List S100) (b : ByteArray) : Int × List S100 × ByteArray × Bool := if respText m l b = s then (m, l, b, true) else rejR
theorem resp_lines {s : ByteArray} {m : Int} {l : List S100} {b : ByteArray} (hq : respB m l b = true) (hr : respText m l b = s) : B s = lineT (respLines m l b) ++ (13 :: 10 :: B b) := by
  rw [← hr, respText_lines hq, B_Tx]
def httpA : List UInt8 := [72, 84, 84, 80, 47, 49, 46, 49]
theorem resp_words {m : Int} (h : 100 ≤ m ∧ m ≤ 599) : splitBs (Tx (respFirst m)) ⟨#[32]⟩ = [Tx httpA, numT m, Tx [46]] := by
  have e : Tx (respFirst m) = Tx httpA ++ ((⟨#[32]⟩ : ByteArray) ++ (numT m ++ ((⟨#[32]⟩ : ByteArray) ++ Tx [46]))) := by
    apply B_ext
    simp only [B_append, B_Tx]
    rfl
  have h1 : (32 : UInt8) ∉ B (Tx httpA) := by rw [B_Tx]; decide
  have h2 : (32 : UInt8) ∉ B (numT m) := fun hc => absurd ((num_bytes (n := m) (by omega)).1 _ hc) (by decide)
  rw [e, splitBs_app (c := 32) (r := []) rfl h1, splitBs_app (c := 32) (r := []) rfl h2, splitBs_free (c := 32) (r := []) rfl (by rw [B_Tx]; decide)]
theorem respFirst_good {m : Int} (h : 100 ≤ m ∧ m ≤ 599) : respFirst m ≠ [] ∧ ∀ c ∈ respFirst m, 32 ≤ c.toNat := by
  refine ⟨by unfold respFirst; simp, fun c hc => ?_⟩
  unfold respFirst at hc
  rcases List.mem_append.1 hc with hc | hc
  · have h : (httpA.all fun c => decide (32 ≤ c.toNat)) = true := by decide
    rw [List.all_eq_true] at h
    exact of_decide_eq_true (h c hc)
  · rcases List.mem_cons.1 hc with rfl | hc
    · decide
    · rcases List.mem_append.1 hc with hc | hc
      · have := (num_bytes (n := m) (by omega)).1 c hc; omega
      · have h : (([32, 46] : List UInt8).all fun c => decide (32 ≤ c.toNat)) = true := by decide
        rw [List.all_eq_true] at h
        exact of_decide_eq_true (h c hc)
theorem respLines_good {m : Int} {l : List S100} {b : ByteArray} (h : respB m l b = true) : GoodL (respLines m l b) := by
  obtain ⟨h1, h2, h3⟩ := respB_facts h
  refine goodL_of fun x hx => ?_
  rcases List.mem_cons.1 hx with rfl | hx
  · exact respFirst_good h1
  · rcases List.mem_append.1 hx with hx | hx
    · exact fields_good h3 x hx
    · rw [List.mem_singleton.1 hx]; exact lenLine_good (b := b) (by omega)
/-! ### RespRead -/
theorem spec_RespRead_f {k : Nat} {s : ByteArray} (hs : s.size ≤ 1048576) (hk : 2199042129990 < k) : ∃ r, spec_RespRead.f k s = some r ∧ (r = rejR ∨ ∃ m l b, r = (m, l, b, true) ∧ respText m l b = s ∧ 0 < s.size ∧ l.length ≤ 1048576) ∧ ∀ m l b, respB m l b = true → respText m l b = s → r = (m, l, b, true) := by
  obtain ⟨ls, e, h1, h2, h3, h4, h5, h6⟩ := spec_l3Head_f (k := k) hs (by omega)
  have comp : ∀ m l b, respB m l b = true → respText m l b = s → ls = (respLines m l b).map Tx ∧ e = (((lineT (respLines m l b)).length + 2 : Nat) : Int) := fun m l b hq hr => h6 _ _ (respLines_good hq) (resp_lines hq hr)
  unfold spec_RespRead.f
  rw [h1, Option.bind_some]
  dsimp only
  obtain ⟨k, rfl⟩ := succ_of (show 0 < k by omega)
  by_cases c : e < 0
  · rw [if_pos c]
    simp only [spec_RespRead.j0]
    rw [if_pos trivial]
    exact ⟨_, rfl, .inl rfl, fun m l b hq hr => by have := (comp m l b hq hr).2; omega⟩
  · rw [if_neg c]
    simp only [spec_RespRead.j0]
    obtain ⟨n, rfl⟩ : ∃ n : Nat, e = n := ⟨e.toNat, by omega⟩
    by_cases c2 : ls.length = 0
    · rw [if_pos (beq_iff_eq.2 (by omega))]
      refine ⟨_, rfl, .inl rfl, fun m l b hq hr => ?_⟩
      rw [(comp m l b hq hr).1] at c2
      simp [respLines] at c2
    · have hpos : 0 < ls.length := by omega
      have h0 : rdOf ByteArray.empty ls 0 = ls[0] := rd_B ls 0 hpos
      have hz0 := h3 _ (List.getElem_mem hpos)
      rw [if_neg (fun h => c2 (by have := beq_iff_eq.1 h; omega)), if_pos (by omega), h0, spec_l3Words_f (by omega) (by omega), Option.bind_some]
      have hsm := splitBs_small (ls[0]).size ls[0] ⟨#[32]⟩ (Nat.le_refl _) (by show 1 ≤ 1; omega)
      have cw : ∀ m l b, respB m l b = true → respText m l b = s → splitBs ls[0] ⟨#[32]⟩ = [Tx httpA, numT m, Tx [46]] := fun m l b hq hr => by
        have q := (comp m l b hq hr).1
        have q0 : ls[0] = Tx (respFirst m) := by simp only [q]; rfl
        rw [q0]; exact resp_words (respB_facts hq).1
      by_cases c3 : (splitBs ls[0] ⟨#[32]⟩).length = 3
      · have h1w : rdOf ByteArray.empty (splitBs ls[0] ⟨#[32]⟩) 1 = (splitBs ls[0] ⟨#[32]⟩)[1] := rd_B _ 1 (by omega)
        obtain ⟨fs, ef, f1, f2, f3⟩ := spec_l3Fields_f (k := k) (ls := ls.drop 1) (by rw [List.length_drop]; omega) (fun x hx => by have := h3 x (List.mem_of_mem_drop hx); omega) (by omega)
        rw [List.length_drop] at f1
        rw [if_pos (by omega), if_pos (by omega), h1w, spec_NumRead_f (by omega), Option.bind_some, if_pos (by omega), ef, Option.bind_some, if_pos (by omega), if_pos h4, Int.toNat_natCast, spec_RespText_f (K := 1048576) (by omega) ⟨by omega, f2⟩ (by omega), Option.bind_some]
        refine ⟨finR s (numRead (splitBs ls[0] ⟨#[32]⟩)[1]).1 fs (s.extract n s.size), ?_, ?_, fun m l b hq hr => ?_⟩
        · unfold finR
          by_cases c4 : respText (numRead (splitBs ls[0] ⟨#[32]⟩)[1]).1 fs (s.extract n s.size) = s
          · rw [if_pos ((toList_iff _ _).2 c4), if_pos c4]
          · rw [if_neg (fun h => c4 (toList_inj h)), if_neg c4]; rfl
        · unfold finR
          by_cases c4 : respText (numRead (splitBs ls[0] ⟨#[32]⟩)[1]).1 fs (s.extract n s.size) = s
          · rw [if_pos c4]; exact .inr ⟨_, _, _, rfl, c4, by omega, by omega⟩
          · rw [if_neg c4]; exact .inl rfl
        · obtain ⟨q1, q2⟩ := comp m l b hq hr
          obtain ⟨g1, g2, g3⟩ := respB_facts hq
          have qw := cw m l b hq hr
          have w1 : (splitBs ls[0] ⟨#[32]⟩)[1] = numT m := by simp only [qw]; rfl
          have qf : fs = l := f3 l [Tx (lenLine b)] (by rw [q1]; unfold respLines; rw [List.map_cons, List.drop_succ_cons, List.drop_zero, List.map_append, List.map_map]; rfl) (okF_names g3) (.inr ⟨B (numT b.size), rfl⟩)
          have qb : s.extract n s.size = b := by
            apply B_ext
            have hn : n = (lineT (respLines m l b)).length + 2 := by omega
            rw [B_extract, List.take_of_length_le (by rw [B_len]; omega), resp_lines hq hr, hn, List.drop_append, List.drop_eq_nil_of_le (by omega), List.nil_append, Nat.add_sub_cancel_left]; rfl
          rw [w1, qf, qb, numRead_numT (by omega)]
          unfold finR
          rw [if_pos hr]
      · rw [if_neg (by omega)]
        refine ⟨_, rfl, .inl rfl, fun m l b hq hr => ?_⟩
        rw [cw m l b hq hr] at c3
        exact absurd rfl c3
theorem impl_RespRead_f {k : Nat} {s : ByteArray} (hs : s.size ≤ 1048576) (hk : 5243000 < k) : ∃ r, impl_RespRead.f k s = some r ∧ (r = rejR ∨ ∃ m l b, r = (m, l, b, true) ∧ respText m l b = s ∧ 0 < s.size ∧ l.length ≤ 1048576) ∧ ∀ m l b, respB m l b = true → respText m l b = s → r = (m, l, b, true) := by
  obtain ⟨f0, r, bd, ok, e, h1, h2, h3, h4, h5⟩ := impl_parts_f (k := k) hs (by omega)
  have comp : ∀ m l b, respB m l b = true → respText m l b = s → (f0, r, bd, ok) = (Tx (respFirst m), l, b, true) := fun m l b hq hr => by
    obtain ⟨g1, g2, g3⟩ := respB_facts hq
    have := h5 (respFirst m) l [lenLine b] (B b) (respLines_good hq) (resp_lines hq hr) (fieldsB_lines g3).1 (okF_names g3) (.inr ⟨B (numT b.size), rfl⟩)
    rw [this, Tx_B]
  have hsm := splitBs_small f0.size f0 ⟨#[32]⟩ (Nat.le_refl _) (by show 1 ≤ 1; omega)
  unfold impl_RespRead.f
  rw [e, Option.bind_some]
  dsimp only
  unfold strings_Split.f
  rw [if_pos ⟨by omega, by show 1 ≤ 1; omega⟩, Option.bind_some]
  obtain ⟨k, rfl⟩ := succ_of (show 0 < k by omega)
  cases ok with
  | false =>
    rw [if_neg (by simp)]
    simp only [impl_RespRead.j0]
    rw [if_pos trivial]
    exact ⟨_, rfl, .inl rfl, fun m l b hq hr => by have := comp m l b hq hr; cases this⟩
  | true =>
    rw [if_pos rfl]
    simp only [impl_RespRead.j0]
    have cw : ∀ m l b, respB m l b = true → respText m l b = s → splitBs f0 ⟨#[32]⟩ = [Tx httpA, numT m, Tx [46]] ∧ r = l ∧ bd = b := fun m l b hq hr => by
      have q := comp m l b hq hr
      injection q with q1 q2
      injection q2 with q2 q3
      injection q3 with q3 q4
      exact ⟨by rw [q1]; exact resp_words (respB_facts hq).1, q2, q3⟩
    by_cases c3 : (splitBs f0 ⟨#[32]⟩).length = 3
    · have h1w : rdOf ByteArray.empty (splitBs f0 ⟨#[32]⟩) 1 = (splitBs f0 ⟨#[32]⟩)[1] := rd_B _ 1 (by omega)
      rw [if_neg (by simp [c3]), if_pos (by omega), h1w, impl_NumRead_f, Option.bind_some]
      by_cases c0 : s.toList = []
      · rw [if_pos c0]
        refine ⟨_, rfl, .inl rfl, fun m l b hq hr => ?_⟩
        exfalso
        have hz := size_zero c0
        rw [← B_len, resp_lines hq hr, List.length_append, List.length_cons] at hz
        omega
      · have hz : s.size ≠ 0 := fun h => c0 (by rw [toList_B]; exact List.eq_nil_of_length_eq_zero (by rw [B_len]; exact h))
        rw [if_neg c0, impl_RespText_f (K := 1048576) (by omega) ⟨by omega, h4⟩ (by omega), Option.bind_some]
        refine ⟨finR s (numRead (splitBs f0 ⟨#[32]⟩)[1]).1 r bd, ?_, ?_, fun m l b hq hr => ?_⟩
        · unfold finR
          by_cases c4 : respText (numRead (splitBs f0 ⟨#[32]⟩)[1]).1 r bd = s
          · rw [if_pos ((toList_iff _ _).2 c4), if_pos c4]
          · rw [if_neg (fun h => c4 (toList_inj h)), if_neg c4]; rfl
        · unfold finR
          by_cases c4 : respText (numRead (splitBs f0 ⟨#[32]⟩)[1]).1 r bd = s
          · rw [if_pos c4]; exact .inr ⟨_, _, _, rfl, c4, by omega, by omega⟩
          · rw [if_neg c4]; exact .inl rfl
        · obtain ⟨g1, g2, g3⟩ := respB_facts hq
          obtain ⟨qw, q2, q3⟩ := cw m l b hq hr
          have w1 : (splitBs f0 ⟨#[32]⟩)[1] = numT m := by simp only [qw]; rfl
          rw [w1, q2, q3, numRead_numT (by omega)]
          unfold finR
          rw [if_pos hr]
    · rw [if_pos (by simpa using fun h => c3 (by omega))]
      refine ⟨_, rfl, .inl rfl, fun m l b hq hr => ?_⟩
      rw [(cw m l b hq hr).1] at c3
      exact absurd rfl c3
/-- Both read the same. -/
theorem RespRead_same {k1 k2 : Nat} {s : ByteArray} (hs : s.size ≤ 1048576) (h1 : 2199042129990 < k1) (h2 : 5243000 < k2) : ∃ r, spec_RespRead.f k1 s = some r ∧ impl_RespRead.f k2 s = some r ∧ (r = rejR ∨ ∃ m l b, r = (m, l, b, true) ∧ respText m l b = s ∧ 0 < s.size ∧ l.length ≤ 1048576) ∧ ∀ m l b, respB m l b = true → respText m l b = s → r = (m, l, b, true) := by
  obtain ⟨r, e, a1, a2⟩ := spec_RespRead_f hs h1
  obtain ⟨r', e', b1, b2⟩ := impl_RespRead_f hs h2
  have heq : r' = r := by
    rcases b1 with b1 | ⟨m, l, b, b1, hr, hz, _⟩
    · rcases a1 with a1 | ⟨m, l, b, a1, hr, hz, _⟩
      · rw [a1, b1]
      · rw [a1]; exact b2 m l b (respB_of hr hz) hr
    · rw [b1]; exact (a2 m l b (respB_of hr hz) hr).symm
  exact ⟨r, e, by rw [← heq]; exact e', a1, a2⟩

end Go.Proofs.YtnmanegjgidgcaaGreatDoor.Pure
