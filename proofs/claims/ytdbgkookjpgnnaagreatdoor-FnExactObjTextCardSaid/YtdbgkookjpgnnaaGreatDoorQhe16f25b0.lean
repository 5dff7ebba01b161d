/- What the printed functions answer, in plain words: lemmas of this session. No condition of a statement lies here. -/
import Derived.Test.YtdbgkookjpgnnaaGreatDoorAllx0
import Derived.Test.YtdbgkookjpgnnaaGreatDoorAllx1
import Derived.Test.YtdbgkookjpgnnaaGreatDoorAllx27
import Derived.Test.YtdbgkookjpgnnaaGreatDoorAllx40
import Derived.Test.YtdbgkookjpgnnaaGreatDoorQh3204acc5
import Derived.Test.YtdbgkookjpgnnaaGreatDoorQh6ed553bc
import Derived.Test.YtdbgkookjpgnnaaGreatDoorQh839f10eb
import Derived.Test.YtdbgkookjpgnnaaGreatDoorQha0f59082
import Derived.Test.YtdbgkookjpgnnaaGreatDoorQhc08794a4
namespace Go.Proofs.YtdbgkookjpgnnaaGreatDoor.Pure
open Go.RowKit Go.Proofs.YtdbgkookjpgnnaaGreatDoor.All Go.Proofs.YtdbgkookjpgnnaaGreatDoorW.PrintWords Go.Proofs.YtdbgkookjpgnnaaGreatDoorW.PrintLast
set_option linter.unusedVariables false
set_option linter.unusedSimpArgs false

def szBS : List ByteArray → Int
  | [] => 0
  | x :: r => (x.size : Int) + szBS r
theorem szBS_nonneg : ∀ l, 0 ≤ szBS l
  | [] => by simp [szBS]
  | x :: r => by have := szBS_nonneg r; simp only [szBS]; omega
theorem laws_szStringS_l0 (l : List ByteArray) (hl : l.length ≤ 1048576) (hf : ∀ x ∈ l, x.size ≤ maxLen) : ∀ (d k i : Nat) (n : Int), l.length - i = d → i ≤ l.length → 0 ≤ n → n ≤ 1048576 → d < k →
    laws_szStringS.l0 k l n i = some (if n < szBS (l.drop i) then -1 else n - szBS (l.drop i)) := by
  intro d
  induction d with
  | zero =>
    intro k i n hd hi h0 h1 hk
    obtain ⟨k, rfl⟩ := succ_of hk
    simp only [laws_szStringS.l0]
    rw [if_neg (by omega), List.drop_eq_nil_of_le (by omega), szBS, if_neg (by omega)]; simp
  | succ d ih =>
    intro k i n hd hi h0 h1 hk
    obtain ⟨k, rfl⟩ := succ_of hk
    have hlt : i < l.length := by omega
    have hm := hf _ (List.getElem_mem hlt)
    unfold maxLen at hm
    have hr := szBS_nonneg (l.drop (i + 1))
    simp only [laws_szStringS.l0]
    rw [if_pos (by omega), if_pos (by omega), rd_B l i hlt, w64 (by omega), nat_round (n := l.length) hlt (by omega), drop_at hlt, szBS]
    by_cases c : n < (l[i].size : Int)
    · rw [if_pos (by omega), if_pos (by omega)]
    · rw [if_neg (by omega), ih k (i + 1) _ (by omega) (by omega) (by omega) (by omega) (by omega)]
      by_cases c2 : n - (l[i].size : Int) < szBS (l.drop (i + 1))
      · rw [if_pos c2, if_pos (by omega)]
      · rw [if_neg c2, if_neg (by omega)]; congr 1; omega
def leftBS (n : Int) (l : List ByteArray) : Int := if n < (l.length : Int) + szBS l then -1 else n - (l.length : Int) - szBS l
theorem laws_szStringS_f {k : Nat} {l : List ByteArray} {n : Int} (hl : l.length ≤ maxLen ∧ ∀ x ∈ l, x.size ≤ maxLen) (h0 : 0 ≤ n) (h1 : n ≤ 1048576) (hk : 1048577 < k) : laws_szStringS.f k l n = some (leftBS n l) := by
  obtain ⟨h2, h3⟩ := hl
  unfold maxLen at h2
  have hr := szBS_nonneg l
  unfold laws_szStringS.f leftBS
  rw [w64 (by omega)]
  split
  · rw [if_pos (by omega)]
  · have := laws_szStringS_l0 l (by omega) h3 l.length k 0 (n - l.length) (by omega) (by omega) (by omega) (by omega) (by omega)
    rw [show ((0 : Nat) : Int) = 0 from rfl, List.drop_zero] at this
    rw [this]
    by_cases c : n - (l.length : Int) < szBS l
    · rw [if_pos c, if_pos (by omega)]
    · rw [if_neg c, if_neg (by omega)]
theorem szBS_mem : ∀ {l : List ByteArray} {x}, x ∈ l → (x.size : Int) ≤ szBS l
  | y :: r, x, h => by
    simp only [szBS]
    have := szBS_nonneg r
    rcases List.mem_cons.1 h with rfl | h
    · omega
    · have := szBS_mem h; omega
theorem leftBS_nonneg {n : Int} {l : List ByteArray} (h : ¬ leftBS n l < 0) (hn : n ≤ 1048576) : 0 ≤ leftBS n l ∧ leftBS n l ≤ 1048576 ∧ l.length ≤ 1048576 ∧ ∀ x ∈ l, x.size ≤ 1048576 := by
  have hr := szBS_nonneg l
  unfold leftBS at h ⊢
  split at h
  · omega
  · rename_i c
    rw [if_neg c]
    refine ⟨by omega, by omega, by omega, fun x hx => ?_⟩
    have h1 := szBS_mem hx
    omega
theorem laws_toStringS_l0 (l : List ByteArray) (hl : l.length ≤ 1048576) : ∀ (d k i : Nat) (pre rest : List ByteArray), l.length - i = d → i ≤ l.length → pre.length = i → rest.length = d → d < k →
    laws_toStringS.l0 k l (pre ++ rest) i = some (pre ++ l.drop i) := by
  intro d
  induction d with
  | zero =>
    intro k i pre rest hd hi hp hr hk
    obtain ⟨k, rfl⟩ := succ_of hk
    simp only [laws_toStringS.l0]
    rw [if_neg (by omega), List.drop_eq_nil_of_le (by omega), List.eq_nil_of_length_eq_zero hr]
  | succ d ih =>
    intro k i pre rest hd hi hp hr hk
    obtain ⟨k, rfl⟩ := succ_of hk
    have hlt : i < l.length := by omega
    obtain ⟨y, rest, rfl⟩ : ∃ y r, rest = y :: r := by cases rest with | nil => simp at hr | cons y r => exact ⟨y, r, rfl⟩
    simp only [laws_toStringS.l0]
    rw [if_pos (by omega), if_pos (by omega), rd_B l i hlt, if_pos (by simp only [List.length_append, List.length_cons]; omega), nat_round (n := l.length) hlt (by omega), set_at' _ _ _ _ hp, drop_at hlt]
    have := ih k (i + 1) (pre ++ [l[i]]) rest (by omega) (by omega) (by simp [hp]) (by simpa using hr) (by omega)
    rw [List.append_assoc, List.append_assoc] at this
    exact this
theorem laws_toStringS_f {k : Nat} {l : List ByteArray} (hl : l.length ≤ 1048576) (hk : l.length < k) : laws_toStringS.f k l = some l := by
  unfold laws_toStringS.f
  rw [if_pos (by omega), Int.toNat_natCast, if_pos (by omega)]
  have := laws_toStringS_l0 l hl l.length k 0 [] (List.replicate l.length ⟨#[]⟩) (by omega) (by omega) rfl (by simp) hk
  simpa using this
theorem impl_NumText_f {n : Int} : impl_NumText.f n = some (numT n) := by
  unfold impl_NumText.f numT
  rw [impl_inRange_f, Option.bind_some]
  by_cases h : 0 ≤ n ∧ n ≤ 1000000
  · rw [if_pos (decide_eq_true h), if_pos h]
    unfold strconv_Itoa.f
    rw [if_pos (by omega), Option.bind_some]
  · rw [if_neg (by simpa using h), if_neg h]
/-- bytes as a text -/
def Tx (l : List UInt8) : ByteArray := ⟨l.toArray⟩
theorem B_Tx (l : List UInt8) : B (Tx l) = l := B_mk l
theorem Tx_B (s : ByteArray) : Tx (B s) = s := B_ext (B_Tx _)
theorem Tx_append (a b : List UInt8) : Tx (a ++ b) = Tx a ++ Tx b := B_ext (by rw [B_append, B_Tx, B_Tx, B_Tx])
theorem Tx_inj {a b : List UInt8} (h : Tx a = Tx b) : a = b := by rw [← B_Tx a, h, B_Tx]
theorem Tx_size (l : List UInt8) : (Tx l).size = l.length := by rw [← B_len, B_Tx]
theorem path_size {p : ByteArray} (h : pathB p = true) : 1 ≤ p.size ∧ p.size ≤ 60 := by
  unfold pathB at h
  simp only [Bool.and_eq_true, decide_eq_true_eq] at h
  omega
theorem laws_szObj_f {k : Nat} {p : ByteArray} {ns vs : List ByteArray} {m : Int} {l : List S115} {b : ByteArray} {t n : Int} (hp : p.size ≤ maxLen) (hns : ns.length ≤ maxLen ∧ ∀ x ∈ ns, x.size ≤ maxLen) (hvs : vs.length ≤ maxLen ∧ ∀ x ∈ vs, x.size ≤ maxLen) (hl : l.length ≤ maxLen ∧ ∀ x ∈ l, x.f0.size ≤ maxLen ∧ x.f1.size ≤ maxLen) (hb : b.size ≤ maxLen) (h0 : 0 ≤ n) (h1 : n ≤ 1048576) (hk : 1048577 < k) :
    ∃ r, laws_szObj.f k p ns vs m l b t n = some r ∧ (r < 0 ∨ 0 ≤ r ∧ r ≤ 1048576 ∧ p.size ≤ 1048576 ∧ b.size ≤ 1048576 ∧ (ns.length ≤ 1048576 ∧ ∀ x ∈ ns, x.size ≤ 1048576) ∧ (vs.length ≤ 1048576 ∧ ∀ x ∈ vs, x.size ≤ 1048576) ∧ l.length ≤ 1048576 ∧ ∀ x ∈ l, x.f0.size ≤ 1048576 ∧ x.f1.size ≤ 1048576) := by
  unfold maxLen at hp
  unfold laws_szObj.f
  rw [w64 (n := n - p.size) (by omega)]
  split
  · exact ⟨_, rfl, .inl (by omega)⟩
  rename_i h
  rw [laws_szStringS_f hns (by omega) (by omega) hk, Option.bind_some]
  split
  · exact ⟨_, rfl, .inl (by omega)⟩
  rename_i h2
  obtain ⟨g0, g1, g2, g3⟩ := leftBS_nonneg h2 (by omega)
  rw [laws_szStringS_f hvs g0 g1 hk, Option.bind_some]
  split
  · exact ⟨_, rfl, .inl (by omega)⟩
  rename_i h3
  obtain ⟨q0, q1, q2, q3⟩ := leftBS_nonneg h3 g1
  obtain ⟨r, e, hr⟩ := laws_szResp_f (k := k) (m := m) hl hb q0 q1 hk
  rw [e, Option.bind_some]
  split
  · exact ⟨_, rfl, .inl (by omega)⟩
  rename_i h4
  rcases hr with hr | ⟨r1, r2, hb, k1, k2, _⟩
  · omega
  · exact ⟨_, rfl, .inr ⟨by omega, by omega, by omega, hb, ⟨g2, g3⟩, ⟨q2, q3⟩, k1, k2⟩⟩
theorem laws_toObj_f {k : Nat} {p : ByteArray} {ns vs : List ByteArray} {m : Int} {l : List S115} {b : ByteArray} {t : Int} (hn : ns.length ≤ 1048576) (hv : vs.length ≤ 1048576) (hl : l.length ≤ 1048576) (hk : 1048577 < k) : laws_toObj.f k p ns vs m l b t = some (p, ns, vs, m, l.map toF, b, t) := by
  unfold laws_toObj.f
  rw [laws_toStringS_f hn (by omega), Option.bind_some, laws_toStringS_f hv (by omega), Option.bind_some, laws_toResp_f hl (by omega), Option.bind_some]
theorem respText_size (m : Int) (l : List S116) (b : ByteArray) : (respText m l b).size ≤ 2000 := by
  unfold respText
  split
  · rename_i h
    obtain ⟨h1, h2, h3⟩ := respB_facts h
    obtain ⟨h4, h5⟩ := fieldsB_lines h3
    have n1 := numT_size m
    have n2 := numT_size b.size
    have n3 := linesT_size l
    have s1 : (⟨#[72, 84, 84, 80, 47, 49, 46, 49, 32]⟩ : ByteArray).size = 9 := rfl
    have s2 : (⟨#[32, 46, 13, 10]⟩ : ByteArray).size = 4 := rfl
    have s3 : (⟨#[99, 111, 110, 116, 101, 110, 116, 45, 108, 101, 110, 103, 116, 104, 58, 32]⟩ : ByteArray).size = 16 := rfl
    have s4 : (⟨#[13, 10, 13, 10]⟩ : ByteArray).size = 4 := rfl
    simp only [ByteArray.size_append, s1, s2, s3, s4]; omega
  · exact Nat.zero_le _
/-! ### ObjText -/
def valLines : List ByteArray → List UInt8
  | [] => []
  | v :: r => B v ++ (10 :: valLines r)
def objBytes (p : ByteArray) (vs : List ByteArray) (m : Int) (l : List S116) (b : ByteArray) (t : Int) : List UInt8 :=
  [111, 98, 106, 32] ++ (B p ++ (32 :: (B (numT t) ++ (32 :: (B (numT (vs.length : Int)) ++ (10 :: (valLines vs ++ B (respText m l b))))))))
def objText (p : ByteArray) (ns vs : List ByteArray) (m : Int) (l : List S116) (b : ByteArray) (t : Int) : ByteArray := if objB p ns vs m l b t = true then Tx (objBytes p vs m l b t) else ⟨#[]⟩
theorem ObjText_l0 {K : Nat} (hK : K ≤ 1048576) (p : ByteArray) (ns vs : List ByteArray) (m : Int) (l : List S116) (b : ByteArray) (t : Int) (hv : vs.length ≤ 4) (hx : ∀ v ∈ vs, v.size ≤ 60) (hl : SmallF K l) : ∀ (d k i : Nat) (acc : ByteArray), vs.length = i + d → acc.size + 100 * d ≤ 100000 → d + 5 * K + 60 < k →
    spec_ObjText.l0 k acc i p ns vs m l b t = some (acc ++ Tx (valLines (vs.drop i) ++ B (respText m l b))) ∧ impl_ObjText.l0 k acc vs (vs.length : Int) i p ns vs m l b t = some (acc ++ Tx (valLines (vs.drop i) ++ B (respText m l b))) := by
  have hz := respText_size m l b
  intro d
  induction d with
  | zero =>
    intro k i acc hd ha hk
    obtain ⟨k, rfl⟩ := succ_of (show 0 < k by omega)
    have e : acc ++ Tx (valLines (vs.drop i) ++ B (respText m l b)) = acc ++ respText m l b := by
      rw [List.drop_eq_nil_of_le (by omega)]
      show acc ++ Tx (B (respText m l b)) = _
      rw [Tx_B]
    simp only [spec_ObjText.l0, impl_ObjText.l0]
    rw [if_neg (by omega), if_neg (by omega), spec_RespText_f (K := K) (by omega) hl (by omega), impl_RespText_f (K := K) (by omega) hl (by omega), Option.bind_some, if_pos (by omega), e]
    exact ⟨rfl, rfl⟩
  | succ d ih =>
    intro k i acc hd ha hk
    obtain ⟨k, rfl⟩ := succ_of (show 0 < k by omega)
    have hlt : i < vs.length := by omega
    have hs := hx _ (List.getElem_mem hlt)
    have s1 : (⟨#[10]⟩ : ByteArray).size = 1 := rfl
    have e1 : (acc ++ vs[i]) ++ (⟨#[10]⟩ : ByteArray) = acc ++ (vs[i] ++ (⟨#[10]⟩ : ByteArray)) := B_ext (by simp only [B_append, List.append_assoc])
    have e2 : (acc ++ (vs[i] ++ (⟨#[10]⟩ : ByteArray))) ++ Tx (valLines (vs.drop (i + 1)) ++ B (respText m l b)) = acc ++ Tx (valLines (vs.drop i) ++ B (respText m l b)) := B_ext (by
      rw [drop_at hlt]; simp only [B_append, B_Tx, valLines, List.append_assoc]; rfl)
    obtain ⟨i1, i2⟩ := ih k (i + 1) (acc ++ (vs[i] ++ (⟨#[10]⟩ : ByteArray))) (by omega) (by simp only [ByteArray.size_append, s1]; omega) (by omega)
    simp only [spec_ObjText.l0, impl_ObjText.l0]
    refine ⟨?_, ?_⟩
    · rw [if_pos (by omega), if_pos (by omega), rd_B vs i hlt, if_pos (by omega), if_pos (by simp only [ByteArray.size_append]; omega), nat_round (n := vs.length) hlt (by omega), e1, i1, e2]
    · rw [if_pos (by omega), if_pos (by omega), if_pos (by omega), rd_B vs i hlt, if_pos (by omega), if_pos (by simp only [ByteArray.size_append, s1]; omega), nat_round (n := vs.length) hlt (by omega), i2, e2]
theorem spec_ObjText_f {k K : Nat} {p : ByteArray} {ns vs : List ByteArray} {m : Int} {l : List S116} {b : ByteArray} {t : Int} (hK : K ≤ 1048576) (hp : p.size ≤ K) (hn : SmallB K ns) (hv : SmallB K vs) (hl : SmallF K l) (hk : 9000000 < k) : spec_ObjText.f k p ns vs m l b t = some (objText p ns vs m l b t) := by
  unfold spec_ObjText.f objText
  rw [spec_ObjOk_f hK hp hn hv hl hk, Option.bind_some]
  by_cases h : objB p ns vs m l b t = true
  · obtain ⟨h1, h2, h3, h4, h5, h6, _, h7⟩ := objB_facts h
    have n1 := numT_size t
    have n2 := numT_size (vs.length : Int)
    have n4 := path_size h2
    have s0 : (⟨#[111, 98, 106, 32]⟩ : ByteArray).size = 4 := rfl
    have s1 : (⟨#[32]⟩ : ByteArray).size = 1 := rfl
    have s2 : (⟨#[10]⟩ : ByteArray).size = 1 := rfl
    have e := (ObjText_l0 hK p ns vs m l b t (by omega) (fun v hv => (val_size (h7 v hv)).2) hl vs.length k 0 ((((((((⟨#[111, 98, 106, 32]⟩ : ByteArray) ++ p) ++ (⟨#[32]⟩ : ByteArray)) ++ numT t) ++ (⟨#[32]⟩ : ByteArray)) ++ numT (vs.length : Int)) ++ (⟨#[10]⟩ : ByteArray))) (by omega) (by simp only [ByteArray.size_append, s0, s1, s2]; omega) (by omega)).1
    rw [if_pos h, if_pos h, if_pos (by omega), if_pos (by simp only [ByteArray.size_append, s0]; omega), spec_NumText_f (by omega), Option.bind_some, if_pos (by simp only [ByteArray.size_append, s0, s1]; omega), if_pos (by simp only [ByteArray.size_append, s0, s1]; omega), spec_NumText_f (by omega), Option.bind_some, if_pos (by simp only [ByteArray.size_append, s0, s1]; omega), if_pos (by simp only [ByteArray.size_append, s0, s1]; omega)]
    refine (show _ = _ from e).trans (congrArg some (B_ext ?_))
    simp only [objBytes, B_append, B_Tx, List.drop_zero, List.append_assoc]
    rfl
  · rw [if_neg h, if_neg h]
theorem impl_ObjText_f {k K : Nat} {p : ByteArray} {ns vs : List ByteArray} {m : Int} {l : List S116} {b : ByteArray} {t : Int} (hK : K ≤ 1048576) (hp : p.size ≤ K) (hn : SmallB K ns) (hv : SmallB K vs) (hl : SmallF K l) (hk : 9200000 < k) : impl_ObjText.f k p ns vs m l b t = some (objText p ns vs m l b t) := by
  unfold impl_ObjText.f objText
  rw [impl_ObjOk_f hK hp hn hv hl hk, Option.bind_some]
  by_cases h : objB p ns vs m l b t = true
  · obtain ⟨h1, h2, h3, h4, h5, h6, _, h7⟩ := objB_facts h
    have n1 := numT_size t
    have n2 := numT_size (vs.length : Int)
    have n4 := path_size h2
    have s0 : (⟨#[111, 98, 106, 32]⟩ : ByteArray).size = 4 := rfl
    have s1 : (⟨#[32]⟩ : ByteArray).size = 1 := rfl
    have s2 : (⟨#[10]⟩ : ByteArray).size = 1 := rfl
    have e := (ObjText_l0 hK p ns vs m l b t (by omega) (fun v hv => (val_size (h7 v hv)).2) hl vs.length k 0 ((((((((⟨#[111, 98, 106, 32]⟩ : ByteArray) ++ p) ++ (⟨#[32]⟩ : ByteArray)) ++ numT t) ++ (⟨#[32]⟩ : ByteArray)) ++ numT (vs.length : Int)) ++ (⟨#[10]⟩ : ByteArray))) (by omega) (by simp only [ByteArray.size_append, s0, s1, s2]; omega) (by omega)).2
    rw [if_pos h, if_pos h, if_pos (by omega), if_pos (by simp only [ByteArray.size_append, s0]; omega), impl_NumText_f, Option.bind_some, if_pos (by simp only [ByteArray.size_append, s0, s1]; omega), if_pos (by simp only [ByteArray.size_append, s0, s1]; omega), itoa_numT (by omega), Option.bind_some, if_pos (by simp only [ByteArray.size_append, s0, s1]; omega), if_pos (by simp only [ByteArray.size_append, s0, s1]; omega)]
    refine (show _ = _ from e).trans (congrArg some (B_ext ?_))
    simp only [objBytes, B_append, B_Tx, List.drop_zero, List.append_assoc]
    rfl
  · rw [if_neg h, if_neg h]

end Go.Proofs.YtdbgkookjpgnnaaGreatDoor.Pure
