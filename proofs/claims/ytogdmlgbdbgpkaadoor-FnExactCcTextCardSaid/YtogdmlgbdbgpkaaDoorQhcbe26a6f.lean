/- What the printed functions answer, in plain words: lemmas of this session. No condition of a statement lies here. -/
import Derived.Test.YtogdmlgbdbgpkaaDoorAllx0
import Derived.Test.YtogdmlgbdbgpkaaDoorAllx38
import Derived.Test.YtogdmlgbdbgpkaaDoorAllx39
import Derived.Test.YtogdmlgbdbgpkaaDoorAllx40
import Derived.Test.YtogdmlgbdbgpkaaDoorAllx6
import Derived.Test.YtogdmlgbdbgpkaaDoorQh2a178e5e
import Derived.Test.YtogdmlgbdbgpkaaDoorQh52fc84b9
import Derived.Test.YtogdmlgbdbgpkaaDoorQhaad79cdb
namespace Go.Proofs.YtogdmlgbdbgpkaaDoor.Pure
open Go.RowKit Go.Proofs.YtogdmlgbdbgpkaaDoor.All Go.Proofs.YtogdmlgbdbgpkaaDoorW.PrintWords Go.Proofs.YtogdmlgbdbgpkaaDoorW.PrintLast
set_option linter.unusedVariables false
set_option linter.unusedSimpArgs false

/-! ### NumText -/
def numT (n : Int) : ByteArray := if 0 ≤ n ∧ n ≤ 1000000 then ⟨(Lib.itoa n).toArray⟩ else ⟨#[]⟩
theorem digit_of (u : Nat) : oct ((wrap64 (48 + Int.tmod (u : Int) 10)) % 256) = UInt8.ofNat (48 + u % 10) := by
  have h : Int.tmod (u : Int) 10 = ((u % 10 : Nat) : Int) := by rw [Int.tmod_eq_emod_of_nonneg (by omega)]; omega
  rw [h, w64 (by omega), show (48 + ((u % 10 : Nat) : Int)) % 256 = ((48 + u % 10 : Nat) : Int) by omega]
  unfold oct
  rw [Int.toNat_natCast]
theorem decDigits_len (u : Nat) : ∀ d, u < 10 ^ (d + 1) → (Lib.decDigits u).length ≤ d + 1 := by
  intro d
  induction d generalizing u with
  | zero => intro h; rw [Lib.decDigits, dif_pos (by omega)]; simp
  | succ d ih =>
    intro h
    rw [Lib.decDigits]
    split
    · simp
    · have h10 : (10 : Nat) ^ (d + 1 + 1) = 10 ^ (d + 1) * 10 := rfl
      have := ih (u / 10) (by omega)
      simp only [List.length_append, List.length_cons, List.length_nil]; omega
theorem spec_NumText_l0 : ∀ (d k u : Nat) (acc : ByteArray), u < 10 ^ d → acc.size + d ≤ 1000 → u ≤ 4611686018427387904 → d < k →
    spec_NumText.l0 k (u : Int) acc = some (if u = 0 then acc else ⟨(Lib.decDigits u ++ B acc).toArray⟩) := by
  intro d
  induction d with
  | zero =>
    intro k u acc hu ha hb hk
    obtain ⟨k, rfl⟩ := succ_of hk
    obtain rfl : u = 0 := by simp at hu; omega
    simp only [spec_NumText.l0]
    rw [if_neg (by omega), if_pos trivial]
  | succ d ih =>
    intro k u acc hu ha hb hk
    obtain ⟨k, rfl⟩ := succ_of hk
    simp only [spec_NumText.l0]
    by_cases h0 : u = 0
    · rw [if_neg (by omega), if_pos h0]
    have h10 : (10 : Nat) ^ (d + 1) = 10 ^ d * 10 := rfl
    rw [if_pos (by omega), Option.bind_some, if_pos (by rw [strOfNums_size]; simp; omega), if_neg h0]
    have hdiv : wrap64 (Int.tdiv (u : Int) 10) = ((u / 10 : Nat) : Int) := by
      rw [Int.tdiv_eq_ediv_of_nonneg (by omega), w64 (by omega)]; omega
    rw [hdiv, ih k (u / 10) _ (by omega) (by rw [ByteArray.size_append, strOfNums_size]; simp; omega) (by omega) (by omega)]
    refine congrArg some ?_
    have hB : B (strOfNums [(wrap64 (48 + Int.tmod (u : Int) 10)) % 256] ++ acc) = UInt8.ofNat (48 + u % 10) :: B acc := by
      rw [B_append, B_strOf, List.map_cons, List.map_nil, digit_of]; rfl
    split
    · rename_i h1
      apply B_ext
      rw [hB, B_mk (Lib.decDigits u ++ B acc), Lib.decDigits, dif_pos (by omega), show u % 10 = u by omega]
      rfl
    · rename_i h1
      apply B_ext
      rw [hB, B_mk (Lib.decDigits (u / 10) ++ _), B_mk (Lib.decDigits u ++ B acc)]
      conv => rhs; rw [Lib.decDigits]
      rw [dif_neg (by omega), List.append_assoc]
      rfl
theorem itoa_nat (u : Nat) : Lib.itoa (u : Int) = Lib.decDigits u := by
  unfold Lib.itoa; rw [if_neg (by omega), Int.toNat_natCast]
theorem spec_NumText_f {k : Nat} {n : Int} (hk : 30 < k) : spec_NumText.f k n = some (numT n) := by
  unfold spec_NumText.f numT
  rw [spec_l1In_f, Option.bind_some]
  by_cases h : 0 ≤ n ∧ n ≤ 1000000
  · rw [if_pos (decide_eq_true h), if_pos h]
    obtain ⟨u, rfl⟩ : ∃ u : Nat, n = u := ⟨n.toNat, by omega⟩
    rw [itoa_nat]
    by_cases h0 : u = 0
    · subst h0
      rw [if_pos (show ((0 : Nat) : Int) = 0 from rfl), Lib.decDigits, dif_pos (by omega)]; rfl
    · rw [if_neg (by omega), spec_NumText_l0 20 k u _ (by omega) (by decide) (by omega) (by omega), if_neg h0, B_empty, List.append_nil]
  · rw [if_neg (by simpa using h), if_neg h]
theorem impl_NumText_f {n : Int} : impl_NumText.f n = some (numT n) := by
  unfold impl_NumText.f numT
  rw [impl_inRange_f, Option.bind_some]
  by_cases h : 0 ≤ n ∧ n ≤ 1000000
  · rw [if_pos (decide_eq_true h), if_pos h]
    unfold strconv_Itoa.f
    rw [if_pos (by omega), Option.bind_some]
  · rw [if_neg (by simpa using h), if_neg h]
def banB (kd : Int) (a b : ByteArray) (t : Int) : Bool := decide (0 ≤ t ∧ t ≤ 1000000) && (if kd = 1 ∨ kd = 2 then pathB a && decide (b.toList = []) else if kd = 3 then tokB a && valB b else false)
theorem spec_BanOk_f {k : Nat} {kd t : Int} {a b : ByteArray} (ha : (a.size : Int) ≤ 4611686018427387904) (hb : (b.size : Int) ≤ 4611686018427387904) (hk : 3 * (a.size + b.size) + 4 < k) : spec_BanOk.f k kd a b t = some (banB kd a b t) := by
  unfold spec_BanOk.f banB
  obtain ⟨k', rfl⟩ := succ_of (show 0 < k by omega)
  rw [spec_l1In_f, Option.bind_some]
  by_cases h : 0 ≤ t ∧ t ≤ 1000000
  · rw [if_pos (decide_eq_true h), decide_eq_true h, Bool.true_and]
    have go : ∀ f : Bool, (f = true ↔ kd = 1 ∨ kd = 2) → spec_BanOk.j0 (k' + 1) kd f kd a b t = some (if kd = 1 ∨ kd = 2 then pathB a && decide (b.toList = []) else if kd = 3 then tokB a && valB b else false) := by
      intro f hf
      simp only [spec_BanOk.j0]
      by_cases hq : kd = 1 ∨ kd = 2
      · rw [if_pos (hf.2 hq), if_pos hq, spec_l3Path_f ha (by omega), Option.bind_some]
        cases pathB a
        · rfl
        · rw [if_pos rfl]; refine congrArg some ?_; rw [Bool.eq_iff_iff]; simp
      · rw [if_neg (fun e => hq (hf.1 e)), if_neg hq]
        by_cases h3 : kd = 3
        · rw [if_pos h3, if_pos h3, spec_TokenOk_f (by omega) (by omega), Option.bind_some]
          cases tokB a
          · rfl
          · rw [if_pos rfl, spec_ValueOk_f hb (by omega), Option.bind_some]; rfl
        · rw [if_neg h3, if_neg h3]
    by_cases h1 : kd = 1
    · rw [if_pos h1]; exact go _ (by simp [h1])
    · rw [if_neg h1]; exact go _ (by simp [h1])
  · rw [if_neg (by simpa using h), decide_eq_false h]; rfl
theorem impl_BanOk_f {k : Nat} {kd t : Int} {a b : ByteArray} (ha : (a.size : Int) ≤ 4611686018427387904) (hb : (b.size : Int) ≤ 4611686018427387904) (hk : 3 * (a.size + b.size) + 4 < k) : impl_BanOk.f k kd a b t = some (banB kd a b t) := by
  unfold impl_BanOk.f impl_isTime.f banB
  obtain ⟨k', rfl⟩ := succ_of (show 0 < k by omega)
  rw [impl_inRange_f, Option.bind_some, Option.bind_some]
  by_cases h : 0 ≤ t ∧ t ≤ 1000000
  · rw [if_pos (decide_eq_true h), decide_eq_true h, Bool.true_and]
    have go : ∀ f : Bool, (f = true ↔ kd = 1 ∨ kd = 2) → impl_BanOk.j0 (k' + 1) kd f kd a b t = some (if kd = 1 ∨ kd = 2 then pathB a && decide (b.toList = []) else if kd = 3 then tokB a && valB b else false) := by
      intro f hf
      simp only [impl_BanOk.j0]
      by_cases hq : kd = 1 ∨ kd = 2
      · rw [if_pos (hf.2 hq), if_pos hq, impl_pathOk_f ha (by omega), Option.bind_some]
        cases pathB a
        · rfl
        · rw [if_pos rfl]; refine congrArg some ?_; rw [Bool.eq_iff_iff]; simp
      · rw [if_neg (fun e => hq (hf.1 e)), if_neg hq]
        by_cases h3 : kd = 3
        · rw [if_pos h3, if_pos h3, impl_TokenOk_f (by omega) (by omega), Option.bind_some]
          cases tokB a
          · rfl
          · rw [if_pos rfl, impl_ValueOk_f hb (by omega), Option.bind_some]; rfl
        · rw [if_neg h3, if_neg h3]
    by_cases h1 : kd = 1
    · rw [if_pos h1]; exact go _ (by simp [h1])
    · rw [if_neg h1]; exact go _ (by simp [h1])
  · rw [if_neg (by simpa using h), decide_eq_false h]; rfl
/-! ### BanText -/
def banWordT (kd : Int) : ByteArray := if kd = 1 then ⟨#[112, 97, 116, 104]⟩ else if kd = 2 then ⟨#[98, 101, 108, 111, 119]⟩ else ⟨#[102, 105, 101, 108, 100]⟩
def banText (kd : Int) (a b : ByteArray) (t : Int) : ByteArray :=
  if banB kd a b t = true then
    (if kd = 3 then ((((((((⟨#[98, 97, 110, 32]⟩ : ByteArray) ++ banWordT kd) ++ (⟨#[32]⟩ : ByteArray)) ++ numT t) ++ (⟨#[32]⟩ : ByteArray)) ++ a) ++ (⟨#[10]⟩ : ByteArray)) ++ b) else ((((((⟨#[98, 97, 110, 32]⟩ : ByteArray) ++ banWordT kd) ++ (⟨#[32]⟩ : ByteArray)) ++ numT t) ++ (⟨#[32]⟩ : ByteArray)) ++ a)) else ⟨#[]⟩
theorem banB_kind {kd : Int} {a b : ByteArray} {t : Int} (h : banB kd a b t = true) : kd = 1 ∨ kd = 2 ∨ kd = 3 := by
  unfold banB at h
  rw [Bool.and_eq_true] at h
  have h2 := h.2
  split at h2
  · omega
  · split at h2
    · omega
    · exact absurd h2 (by simp)
theorem numT_size (t : Int) : (numT t).size ≤ 20 := by
  unfold numT
  split
  · rename_i h
    obtain ⟨u, rfl⟩ : ∃ u : Nat, t = u := ⟨t.toNat, by omega⟩
    have hl := decDigits_len u 6 (by omega)
    rw [itoa_nat, ← B_len, B_mk (Lib.decDigits u)]; omega
  · simp [ByteArray.size]
theorem banWordT_size (kd : Int) : (banWordT kd).size ≤ 5 := by
  unfold banWordT
  split
  · exact Nat.le_of_ble_eq_true rfl
  · split
    · exact Nat.le_of_ble_eq_true rfl
    · exact Nat.le_of_ble_eq_true rfl
theorem spec_BanText_f {k : Nat} {kd t : Int} {a b : ByteArray} (ha : (a.size : Int) ≤ 1048576) (hb : (b.size : Int) ≤ 1048576) (hk : 3 * (a.size + b.size) + 40 < k) : spec_BanText.f k kd a b t = some (banText kd a b t) := by
  unfold spec_BanText.f banText
  rw [spec_BanOk_f (by omega) (by omega) (by omega), Option.bind_some]
  by_cases h : banB kd a b t = true
  · rw [if_pos h, if_pos h, Option.bind_some]
    have hn := numT_size t
    have s1 : (⟨#[98, 97, 110, 32]⟩ : ByteArray).size = 4 := rfl
    have s2 : (⟨#[32]⟩ : ByteArray).size = 1 := rfl
    have s3 : (⟨#[10]⟩ : ByteArray).size = 1 := rfl
    have hw := banWordT_size kd
    have hrd : rdOf ByteArray.empty [(⟨#[]⟩ : ByteArray), ⟨#[112, 97, 116, 104]⟩, ⟨#[98, 101, 108, 111, 119]⟩, ⟨#[102, 105, 101, 108, 100]⟩] kd = banWordT kd := by
      rcases banB_kind h with e | e | e <;> subst e <;> rfl
    have h04 : 0 ≤ kd ∧ kd < 4 := by rcases banB_kind h with e | e | e <;> omega
    rw [if_pos h04.1, if_pos (by simpa using h04.2), hrd, if_pos (by omega), if_pos (by rw [ByteArray.size_append, s1]; omega), spec_NumText_f (by omega), Option.bind_some, if_pos (by simp only [ByteArray.size_append, s1, s2]; omega), if_pos (by simp only [ByteArray.size_append, s1, s2]; omega), if_pos (by simp only [ByteArray.size_append, s1, s2]; omega)]
    by_cases h3 : kd = 3
    · rw [if_pos h3, if_pos h3, if_pos (by simp only [ByteArray.size_append, s1, s2]; omega), if_pos (by simp only [ByteArray.size_append, s1, s2, s3]; omega)]
    · rw [if_neg h3, if_neg h3]
  · rw [if_neg h, if_neg h]
theorem impl_BanText_f {k : Nat} {kd t : Int} {a b : ByteArray} (ha : (a.size : Int) ≤ 1048576) (hb : (b.size : Int) ≤ 1048576) (hk : 3 * (a.size + b.size) + 40 < k) : impl_BanText.f k kd a b t = some (banText kd a b t) := by
  unfold impl_BanText.f banText
  rw [impl_BanOk_f (by omega) (by omega) (by omega), Option.bind_some]
  by_cases h : banB kd a b t = true
  · rw [if_pos h, if_pos h]
    have hn := numT_size t
    have hw := banWordT_size kd
    have s1 : (⟨#[98, 97, 110, 32]⟩ : ByteArray).size = 4 := rfl
    have s2 : (⟨#[32]⟩ : ByteArray).size = 1 := rfl
    have s3 : (⟨#[10]⟩ : ByteArray).size = 1 := rfl
    have hwd : impl_banWord.f kd = some (banWordT kd) := by
      unfold impl_banWord.f banWordT
      rcases banB_kind h with e | e | e <;> subst e <;> rfl
    rw [hwd, Option.bind_some, if_pos (by omega), if_pos (by rw [ByteArray.size_append, s1]; omega), impl_NumText_f, Option.bind_some, if_pos (by simp only [ByteArray.size_append, s1, s2]; omega), if_pos (by simp only [ByteArray.size_append, s1, s2]; omega), if_pos (by simp only [ByteArray.size_append, s1, s2]; omega)]
    by_cases h3 : kd = 3
    · rw [if_pos h3, if_pos h3, if_pos (by omega), if_pos (by simp only [ByteArray.size_append, s1, s2, s3]; omega), ByteArray.append_assoc (c := b)]
    · rw [if_neg h3, if_neg h3]
  · rw [if_neg h, if_neg h]

end Go.Proofs.YtogdmlgbdbgpkaaDoor.Pure
