/- What the printed functions answer, in plain words: lemmas of this session. No condition of a statement lies here. -/
import Derived.Test.YtkgdcfaogdmcgaaDoorAllx0
import Derived.Test.YtkgdcfaogdmcgaaDoorAllx29
import Derived.Test.YtkgdcfaogdmcgaaDoorAllx30
import Derived.Test.YtkgdcfaogdmcgaaDoorAllx31
import Derived.Test.YtkgdcfaogdmcgaaDoorQh7abdbcf7
import Derived.Test.YtkgdcfaogdmcgaaDoorQhc9ff01f0
import Derived.Test.YtkgdcfaogdmcgaaDoorQhd9272fe3
namespace Go.Proofs.YtkgdcfaogdmcgaaDoor.Pure
open Go.RowKit Go.Proofs.YtkgdcfaogdmcgaaDoor.All Go.Proofs.YtkgdcfaogdmcgaaDoorW.PrintWords Go.Proofs.YtkgdcfaogdmcgaaDoorW.PrintLast
set_option linter.unusedVariables false
set_option linter.unusedSimpArgs false

def szBS : List ByteArray → Int
  | [] => 0
  | x :: r => (x.size : Int) + szBS r
theorem szBS_nonneg : ∀ l, 0 ≤ szBS l
  | [] => by simp [szBS]
  | x :: r => by have := szBS_nonneg r; simp only [szBS]; omega
theorem laws_szStringS_l0 (l : List ByteArray) (hl : l.length ≤ 1048576) (hf : ∀ x ∈ l, x.size ≤ maxLen) : ∀ (d k i : Nat) (n : Int), l.length - i = d → i ≤ l.length → 0 ≤ n → n ≤ 1048576 → d < k →
    laws_szStringS.l0 k l n i = some (if n < szBS (l.drop i) then -1 else n - szBS (l.drop i)) := by
  intro d
  induction d with
  | zero =>
    intro k i n hd hi h0 h1 hk
    obtain ⟨k, rfl⟩ := succ_of hk
    simp only [laws_szStringS.l0]
    rw [if_neg (by omega), List.drop_eq_nil_of_le (by omega), szBS, if_neg (by omega)]; simp
  | succ d ih =>
    intro k i n hd hi h0 h1 hk
    obtain ⟨k, rfl⟩ := succ_of hk
    have hlt : i < l.length := by omega
    have hm := hf _ (List.getElem_mem hlt)
    unfold maxLen at hm
    have hr := szBS_nonneg (l.drop (i + 1))
    simp only [laws_szStringS.l0]
    rw [if_pos (by omega), if_pos (by omega), rd_B l i hlt, w64 (by omega), nat_round (n := l.length) hlt (by omega), drop_at hlt, szBS]
    by_cases c : n < (l[i].size : Int)
    · rw [if_pos (by omega), if_pos (by omega)]
    · rw [if_neg (by omega), ih k (i + 1) _ (by omega) (by omega) (by omega) (by omega) (by omega)]
      by_cases c2 : n - (l[i].size : Int) < szBS (l.drop (i + 1))
      · rw [if_pos c2, if_pos (by omega)]
      · rw [if_neg c2, if_neg (by omega)]; congr 1; omega
def leftBS (n : Int) (l : List ByteArray) : Int := if n < (l.length : Int) + szBS l then -1 else n - (l.length : Int) - szBS l
theorem laws_szStringS_f {k : Nat} {l : List ByteArray} {n : Int} (hl : l.length ≤ maxLen ∧ ∀ x ∈ l, x.size ≤ maxLen) (h0 : 0 ≤ n) (h1 : n ≤ 1048576) (hk : 1048577 < k) : laws_szStringS.f k l n = some (leftBS n l) := by
  obtain ⟨h2, h3⟩ := hl
  unfold maxLen at h2
  have hr := szBS_nonneg l
  unfold laws_szStringS.f leftBS
  rw [w64 (by omega)]
  split
  · rw [if_pos (by omega)]
  · have := laws_szStringS_l0 l (by omega) h3 l.length k 0 (n - l.length) (by omega) (by omega) (by omega) (by omega) (by omega)
    rw [show ((0 : Nat) : Int) = 0 from rfl, List.drop_zero] at this
    rw [this]
    by_cases c : n - (l.length : Int) < szBS l
    · rw [if_pos c, if_pos (by omega)]
    · rw [if_neg c, if_neg (by omega)]
theorem szBS_mem : ∀ {l : List ByteArray} {x}, x ∈ l → (x.size : Int) ≤ szBS l
  | y :: r, x, h => by
    simp only [szBS]
    have := szBS_nonneg r
    rcases List.mem_cons.1 h with rfl | h
    · omega
    · have := szBS_mem h; omega
theorem leftBS_nonneg {n : Int} {l : List ByteArray} (h : ¬ leftBS n l < 0) (hn : n ≤ 1048576) : 0 ≤ leftBS n l ∧ leftBS n l ≤ 1048576 ∧ l.length ≤ 1048576 ∧ ∀ x ∈ l, x.size ≤ 1048576 := by
  have hr := szBS_nonneg l
  unfold leftBS at h ⊢
  split at h
  · omega
  · rename_i c
    rw [if_neg c]
    refine ⟨by omega, by omega, by omega, fun x hx => ?_⟩
    have h1 := szBS_mem hx
    omega
theorem laws_toStringS_l0 (l : List ByteArray) (hl : l.length ≤ 1048576) : ∀ (d k i : Nat) (pre rest : List ByteArray), l.length - i = d → i ≤ l.length → pre.length = i → rest.length = d → d < k →
    laws_toStringS.l0 k l (pre ++ rest) i = some (pre ++ l.drop i) := by
  intro d
  induction d with
  | zero =>
    intro k i pre rest hd hi hp hr hk
    obtain ⟨k, rfl⟩ := succ_of hk
    simp only [laws_toStringS.l0]
    rw [if_neg (by omega), List.drop_eq_nil_of_le (by omega), List.eq_nil_of_length_eq_zero hr]
  | succ d ih =>
    intro k i pre rest hd hi hp hr hk
    obtain ⟨k, rfl⟩ := succ_of hk
    have hlt : i < l.length := by omega
    obtain ⟨y, rest, rfl⟩ : ∃ y r, rest = y :: r := by cases rest with | nil => simp at hr | cons y r => exact ⟨y, r, rfl⟩
    simp only [laws_toStringS.l0]
    rw [if_pos (by omega), if_pos (by omega), rd_B l i hlt, if_pos (by simp only [List.length_append, List.length_cons]; omega), nat_round (n := l.length) hlt (by omega), set_at' _ _ _ _ hp, drop_at hlt]
    have := ih k (i + 1) (pre ++ [l[i]]) rest (by omega) (by omega) (by simp [hp]) (by simpa using hr) (by omega)
    rw [List.append_assoc, List.append_assoc] at this
    exact this
theorem laws_toStringS_f {k : Nat} {l : List ByteArray} (hl : l.length ≤ 1048576) (hk : l.length < k) : laws_toStringS.f k l = some l := by
  unfold laws_toStringS.f
  rw [if_pos (by omega), Int.toNat_natCast, if_pos (by omega)]
  have := laws_toStringS_l0 l hl l.length k 0 [] (List.replicate l.length ⟨#[]⟩) (by omega) (by omega) rfl (by simp) hk
  simpa using this
theorem laws_eqStringS_l0 (l : List ByteArray) (hl : l.length ≤ 8796093022208) : ∀ (d k i : Nat), l.length - i = d → i ≤ l.length → d < k → laws_eqStringS.l0 k l l i = some true := by
  intro d
  induction d with
  | zero =>
    intro k i hd hi hk
    obtain ⟨k, rfl⟩ := succ_of hk
    simp only [laws_eqStringS.l0]
    rw [if_neg (by omega)]
  | succ d ih =>
    intro k i hd hi hk
    obtain ⟨k, rfl⟩ := succ_of hk
    simp only [laws_eqStringS.l0]
    rw [if_pos (by omega), if_pos (by omega), if_pos (by omega)]
    simp only [if_true]
    rw [nat_round (n := l.length) (by omega) (by omega)]
    exact ih k (i + 1) (by omega) (by omega) (by omega)
theorem laws_eqStringS_f {k : Nat} {l : List ByteArray} (hl : l.length ≤ 8796093022208) (hk : l.length < k) : laws_eqStringS.f k l l = some true := by
  unfold laws_eqStringS.f
  rw [if_pos rfl]
  exact laws_eqStringS_l0 l hl l.length k 0 (by omega) (by omega) hk
theorem laws_szResp_f {k : Nat} {m : Int} {b : ByteArray} {l : List S121} {n : Int} (hl : l.length ≤ maxLen ∧ ∀ x ∈ l, x.f0.size ≤ maxLen ∧ x.f1.size ≤ maxLen) (hb : b.size ≤ maxLen) (h0 : 0 ≤ n) (h1 : n ≤ 1048576) (hk : 1048577 < k) :
    ∃ r, laws_szResp.f k m l b n = some r ∧ (r < 0 ∨ r ≤ n ∧ r ≤ 1048576 ∧ b.size ≤ 1048576 ∧ l.length ≤ 1048576 ∧ (∀ x ∈ l, x.f0.size ≤ 1048576 ∧ x.f1.size ≤ 1048576) ∧ r + b.size + l.length + szFS l = n) := by
  unfold maxLen at hb
  unfold laws_szResp.f
  rw [laws_szFieldS_f hl (by omega) (by omega) hk, Option.bind_some]
  split
  · exact ⟨_, rfl, .inl (by omega)⟩
  · rename_i h2
    obtain ⟨g1, g2, g3, g4⟩ := leftFS_nonneg h2 (by omega)
    have hr := szFS_nonneg l
    have g5 : leftFS n l ≤ n ∧ leftFS n l + l.length + szFS l = n := by
      unfold leftFS at h2 g1 ⊢; split
      · rename_i c; rw [if_pos c] at h2; omega
      · omega
    rw [w64 (by omega)]
    split
    · exact ⟨_, rfl, .inl (by omega)⟩
    · exact ⟨_, rfl, .inr ⟨by omega, by omega, by omega, g3, g4, by omega⟩⟩
theorem laws_toResp_f {k : Nat} {m : Int} {b : ByteArray} {l : List S121} (hl : l.length ≤ 1048576) (hk : l.length < k) : laws_toResp.f k m l b = some (m, l.map toF, b) := by
  unfold laws_toResp.f
  rw [laws_toFieldS_f hl hk, Option.bind_some]
theorem laws_eqResp_f {k : Nat} {m : Int} {b : ByteArray} {l : List S84} (hl : l.length ≤ 4398046511104) (hk : l.length < k) : laws_eqResp.f k m l b m l b = some true := by
  unfold laws_eqResp.f
  rw [if_pos rfl, laws_eqFieldS_f hl hk, Option.bind_some, if_pos rfl, if_pos rfl]
theorem spec_l8Texts_l0 (a b : List ByteArray) (hl : (a.length : Int) ≤ 4611686018427387904) : ∀ (d k i : Nat), a.length - i = d → i ≤ a.length → i ≤ b.length → d * 2 + 1 < k →
    spec_l8Texts.l0 k a b i = some (decide (a.drop i = b.drop i)) := by
  intro d
  induction d with
  | zero =>
    intro k i hd hi hi2 hk
    obtain ⟨k, rfl⟩ := succ_of (show 1 < k by omega)
    obtain ⟨k, rfl⟩ := succ_of (show 0 < k by omega)
    simp only [spec_l8Texts.l0, spec_l8Texts.j1]
    rw [if_neg (by omega), List.drop_eq_nil_of_le (show a.length ≤ i by omega)]
    simp only [Bool.false_eq_true, if_false]
    refine congrArg some ?_
    rw [Bool.eq_iff_iff]
    simp only [beq_iff_eq, decide_eq_true_eq, List.nil_eq, List.drop_eq_nil_iff]
    omega
  | succ d ih =>
    intro k i hd hi hi2 hk
    obtain ⟨k, rfl⟩ := succ_of (show 1 < k by omega)
    obtain ⟨k, rfl⟩ := succ_of (show 0 < k by omega)
    have hlt : i < a.length := by omega
    simp only [spec_l8Texts.l0, spec_l8Texts.j1]
    rw [if_pos (by omega)]
    by_cases h2 : i < b.length
    · rw [if_pos (by simp; omega), if_pos (by omega), if_pos (by omega), if_pos (by omega), rd_B a i hlt, rd_B b i h2, nat_round (n := a.length) hlt (by omega), ih k (i + 1) (by omega) (by omega) (by omega) (by omega)]
      by_cases h : a[i] = b[i]
      · rw [if_pos (by rw [h])]
        exact congrArg some (decide_eq_decide.2 (by rw [drop_eq hlt h2]; exact ⟨fun e => ⟨h, e⟩, fun e => e.2⟩))
      · rw [if_neg (fun e => h (toList_inj e))]
        exact congrArg some (decide_eq_false fun e => h ((drop_eq hlt h2).1 e).1).symm
    · rw [if_neg (by simp; omega), List.drop_eq_nil_of_le (show b.length ≤ i by omega)]
      refine congrArg some ?_
      rw [Bool.eq_iff_iff]
      simp only [beq_iff_eq, decide_eq_true_eq, List.drop_eq_nil_iff]
      omega
theorem spec_l8Texts_f {k : Nat} {a b : List ByteArray} (hl : (a.length : Int) ≤ 4611686018427387904) (hk : a.length * 2 + 1 < k) : spec_l8Texts.f k a b = some (decide (a = b)) := by
  have := spec_l8Texts_l0 a b hl a.length k 0 (by omega) (by omega) (by omega) hk
  simpa [spec_l8Texts.f] using this
theorem slices_Equal_string_string_l0 (a b : List ByteArray) (hl : a.length = b.length) (hn : a.length ≤ 4611686018427387904) : ∀ (d k i : Nat), a.length = i + d → d < k →
    slices_Equal_string_string.l0 k a b (a.length : Int) i = some (decide (a.drop i = b.drop i)) := by
  intro d
  induction d with
  | zero =>
    intro k i hd hk
    obtain ⟨k, rfl⟩ := succ_of hk
    simp only [slices_Equal_string_string.l0]
    rw [if_neg (by omega), List.drop_eq_nil_of_le (by omega), List.drop_eq_nil_of_le (by omega)]; simp
  | succ d ih =>
    intro k i hd hk
    obtain ⟨k, rfl⟩ := succ_of hk
    have h1 : i < a.length := by omega
    have h2 : i < b.length := by omega
    simp only [slices_Equal_string_string.l0]
    rw [if_pos (by omega), if_pos (by omega), if_pos (by omega), if_pos (by omega), rd_B a i h1, rd_B b i h2, nat_round (n := a.length) h1 (by omega), ih k (i + 1) (by omega) (by omega)]
    by_cases h : a[i] = b[i]
    · rw [if_pos (by rw [h])]
      exact congrArg some (decide_eq_decide.2 (by rw [drop_eq h1 h2]; exact ⟨fun e => ⟨h, e⟩, fun e => e.2⟩))
    · rw [if_neg (fun e => h (toList_inj e))]
      exact congrArg some (decide_eq_false fun e => h ((drop_eq h1 h2).1 e).1).symm
theorem slices_Equal_string_string_f {k : Nat} {a b : List ByteArray} (hn : a.length ≤ 4611686018427387904) (hk : a.length < k) : slices_Equal_string_string.f k a b = some (decide (a = b)) := by
  unfold slices_Equal_string_string.f
  by_cases h : a.length = b.length
  · rw [if_pos (by omega), show (0 : Int) = ((0 : Nat) : Int) from rfl, slices_Equal_string_string_l0 a b h hn a.length k 0 (by omega) hk]; rfl
  · rw [if_neg (by omega), decide_eq_false (fun e => h (by rw [e]))]
/-- a list of texts of at most K of anything -/
def SmallB (K : Nat) (l : List ByteArray) : Prop := l.length ≤ K ∧ ∀ x ∈ l, x.size ≤ K
def namesB (l : List ByteArray) : Bool := l.all tokB && decide (l.length ≤ 4)
theorem names_l0 (K : Nat) (hK : K ≤ 1048576) (l : List ByteArray) (hl : SmallB K l) : ∀ (d k i : Nat), l.length = i + d → d + K < k →
    spec_l9Names.l0 k l i = some ((l.drop i).all tokB && decide (l.length ≤ 4)) ∧ impl_namesOk.l0 k l l (l.length : Int) i = some ((l.drop i).all tokB && decide (l.length ≤ 4)) := by
  obtain ⟨hn, hx⟩ := hl
  have h4 : decide ((l.length : Int) ≤ 4) = decide (l.length ≤ 4) := decide_eq_decide.2 (by omega)
  intro d
  induction d with
  | zero =>
    intro k i hd hk
    obtain ⟨k, rfl⟩ := succ_of (show 0 < k by omega)
    simp only [spec_l9Names.l0, impl_namesOk.l0]
    rw [if_neg (by omega), if_neg (by omega), List.drop_eq_nil_of_le (by omega), h4]
    exact ⟨rfl, rfl⟩
  | succ d ih =>
    intro k i hd hk
    obtain ⟨k, rfl⟩ := succ_of (show 0 < k by omega)
    have hlt : i < l.length := by omega
    have hs := hx _ (List.getElem_mem hlt)
    obtain ⟨i1, i2⟩ := ih k (i + 1) (by omega) (by omega)
    simp only [spec_l9Names.l0, impl_namesOk.l0]
    rw [rd_B l i hlt, nat_round (n := l.length) hlt (by omega), drop_at hlt, List.all_cons]
    refine ⟨?_, ?_⟩
    · rw [if_pos (by omega), if_pos (by omega), spec_TokenOk_f (by omega) (by omega), Option.bind_some]
      cases tokB l[i]
      · rfl
      · rw [if_pos rfl, i1]; rfl
    · rw [if_pos (by omega), if_pos (by omega), if_pos (by omega), impl_TokenOk_f (by omega) (by omega), Option.bind_some]
      cases tokB l[i]
      · rfl
      · rw [if_pos rfl, i2]; rfl
theorem spec_l9Names_f {k K : Nat} {l : List ByteArray} (hK : K ≤ 1048576) (hl : SmallB K l) (hk : 2 * K < k) : spec_l9Names.f k l = some (namesB l) := by
  have := (names_l0 K hK l hl l.length k 0 (by omega) (by have := hl.1; omega)).1
  simpa [spec_l9Names.f, namesB] using this
theorem impl_namesOk_f {k K : Nat} {l : List ByteArray} (hK : K ≤ 1048576) (hl : SmallB K l) (hk : 2 * K < k) : impl_namesOk.f k l = some (namesB l) := by
  have := (names_l0 K hK l hl l.length k 0 (by omega) (by have := hl.1; omega)).2
  simpa [impl_namesOk.f, namesB] using this
/-! ### ObjOk -/
def timeB (t : Int) : Bool := decide (0 ≤ t ∧ t ≤ 1000000)
def objB (p : ByteArray) (ns vs : List ByteArray) (m : Int) (l : List S84) (b : ByteArray) (t : Int) : Bool :=
  respB m l b && (pathB p && (timeB t && (namesB ns && (decide (ns = varyF l) && (decide (vs.length = ns.length) && vs.all valB)))))
theorem spec_ObjOk_j0t {k : Nat} (p : ByteArray) (ns vs : List ByteArray) (m : Int) (l : List S84) (b : ByteArray) (t : Int) (hk : 0 < k) : spec_ObjOk.j0 k true p ns vs m l b t = some false := by
  obtain ⟨k, rfl⟩ := succ_of hk
  simp only [spec_ObjOk.j0, if_true]
theorem impl_ObjOk_j1t {k : Nat} (p : ByteArray) (ns vs : List ByteArray) (m : Int) (l : List S84) (b : ByteArray) (t : Int) (hk : 0 < k) : impl_ObjOk.j1 k true p ns vs m l b t = some false := by
  obtain ⟨k, rfl⟩ := succ_of hk
  simp only [impl_ObjOk.j1, if_true]
theorem spec_ObjOk_l0 (K : Nat) (hK : K ≤ 1048576) (p : ByteArray) (ns vs : List ByteArray) (m : Int) (l : List S84) (b : ByteArray) (t : Int) (hv : SmallB K vs) : ∀ (d k i : Nat), vs.length = i + d → d + 3 * K + 10 < k →
    spec_ObjOk.l0 k i p ns vs m l b t = some ((vs.drop i).all valB) := by
  obtain ⟨hn, hx⟩ := hv
  intro d
  induction d with
  | zero =>
    intro k i hd hk
    obtain ⟨k, rfl⟩ := succ_of (show 0 < k by omega)
    simp only [spec_ObjOk.l0]
    rw [if_neg (by omega), List.drop_eq_nil_of_le (by omega)]; rfl
  | succ d ih =>
    intro k i hd hk
    obtain ⟨k, rfl⟩ := succ_of (show 0 < k by omega)
    have hlt : i < vs.length := by omega
    have hs := hx _ (List.getElem_mem hlt)
    simp only [spec_ObjOk.l0]
    rw [if_pos (by omega), if_pos (by omega), rd_B vs i hlt, spec_ValueOk_f (by omega) (by omega), Option.bind_some, nat_round (n := vs.length) hlt (by omega), ih k (i + 1) (by omega) (by omega), drop_at hlt, List.all_cons]
    cases valB vs[i] <;> rfl
theorem spec_ObjOk_f {k K : Nat} {p : ByteArray} {ns vs : List ByteArray} {m : Int} {l : List S84} {b : ByteArray} {t : Int} (hK : K ≤ 1048576) (hp : p.size ≤ K) (hn : SmallB K ns) (hv : SmallB K vs) (hl : SmallF K l) (hk : 9000000 < k) :
    spec_ObjOk.f k p ns vs m l b t = some (objB p ns vs m l b t) := by
  have hn1 := hn.1
  have hv1 := hv.1
  unfold spec_ObjOk.f objB timeB
  rw [spec_RespOk_f (K := K) (by omega) hl (by omega), Option.bind_some]
  cases respB m l b
  · rw [if_neg (by simp), spec_ObjOk_j0t _ _ _ _ _ _ _ (by omega)]; rfl
  rw [if_pos rfl, spec_l3Path_f (by omega) (by omega), Option.bind_some]
  cases pathB p
  · rw [if_neg (by simp), spec_ObjOk_j0t _ _ _ _ _ _ _ (by omega)]; rfl
  rw [if_pos rfl, spec_l1In_f, Option.bind_some]
  cases decide (0 ≤ t ∧ t ≤ 1000000)
  · rw [if_neg (by simp), spec_ObjOk_j0t _ _ _ _ _ _ _ (by omega)]; rfl
  rw [if_pos rfl, spec_l9Names_f hK hn (by omega), Option.bind_some]
  cases namesB ns
  · rw [if_neg (by simp), spec_ObjOk_j0t _ _ _ _ _ _ _ (by omega)]; rfl
  rw [if_pos rfl, spec_VaryOf_f hK hl (by omega), Option.bind_some, spec_l8Texts_f (by omega) (by omega), Option.bind_some]
  cases decide (ns = varyF l)
  · rw [if_neg (by simp), spec_ObjOk_j0t _ _ _ _ _ _ _ (by omega)]; rfl
  rw [if_pos rfl]
  by_cases h : vs.length = ns.length
  · have e : ((vs.length : Int) != (ns.length : Int)) = false := by simp [h]
    obtain ⟨k, rfl⟩ := succ_of (show 0 < k by omega)
    simp only [spec_ObjOk.j0]
    rw [e, if_neg (by simp), show (0 : Int) = ((0 : Nat) : Int) from rfl, spec_ObjOk_l0 K hK p ns vs m l b t hv vs.length k 0 (by omega) (by omega), decide_eq_true h]; rfl
  · have e : ((vs.length : Int) != (ns.length : Int)) = true := by simp; omega
    rw [e, spec_ObjOk_j0t _ _ _ _ _ _ _ (by omega), decide_eq_false h]; rfl
theorem impl_ObjOk_l0 (K : Nat) (hK : K ≤ 1048576) (p : ByteArray) (ns vs : List ByteArray) (m : Int) (l : List S84) (b : ByteArray) (t : Int) (hp : p.size ≤ K) (hns : SmallB K ns) (hv : SmallB K vs) (hl : SmallF K l) : ∀ (d k i : Nat), vs.length = i + d → d + 8000000 < k →
    impl_ObjOk.l0 k vs (vs.length : Int) i p ns vs m l b t = some ((vs.drop i).all valB && (pathB p && (timeB t && (decide (vs.length = ns.length) && (namesB ns && (respB m l b && decide (ns = varyF l))))))) := by
  have hn1 := hns.1
  obtain ⟨hn, hx⟩ := hv
  intro d
  induction d with
  | zero =>
    intro k i hd hk
    obtain ⟨k, rfl⟩ := succ_of (show 0 < k by omega)
    simp only [impl_ObjOk.l0]
    rw [if_neg (by omega), List.drop_eq_nil_of_le (by omega), List.all_nil, Bool.true_and, impl_pathOk_f (by omega) (by omega), Option.bind_some]
    cases pathB p
    · rw [if_neg (by simp), impl_ObjOk_j1t _ _ _ _ _ _ _ (by omega)]; rfl
    rw [if_pos rfl]
    unfold impl_isTime.f timeB
    rw [impl_inRange_f, Option.bind_some, Option.bind_some]
    cases decide (0 ≤ t ∧ t ≤ 1000000)
    · rw [if_neg (by simp), impl_ObjOk_j1t _ _ _ _ _ _ _ (by omega)]; rfl
    rw [if_pos rfl]
    by_cases h : vs.length = ns.length
    · rw [if_pos (by omega), impl_namesOk_f hK hns (by omega), Option.bind_some, decide_eq_true h]
      cases namesB ns
      · rw [if_neg (by simp), impl_ObjOk_j1t _ _ _ _ _ _ _ (by omega)]; rfl
      rw [if_pos rfl, impl_RespOk_f (K := K) (by omega) hl (by omega), Option.bind_some]
      cases respB m l b
      · rw [show (!false) = true from rfl, impl_ObjOk_j1t _ _ _ _ _ _ _ (by omega)]; rfl
      obtain ⟨k, rfl⟩ := succ_of (show 0 < k by omega)
      simp only [impl_ObjOk.j1]
      rw [if_neg (by simp), impl_VaryOf_f hK hl (by omega), Option.bind_some, slices_Equal_string_string_f (by omega) (by omega), Option.bind_some]; rfl
    · rw [if_neg (by omega), impl_ObjOk_j1t _ _ _ _ _ _ _ (by omega), decide_eq_false h]; rfl
  | succ d ih =>
    intro k i hd hk
    obtain ⟨k, rfl⟩ := succ_of (show 0 < k by omega)
    have hlt : i < vs.length := by omega
    have hs := hx _ (List.getElem_mem hlt)
    simp only [impl_ObjOk.l0]
    rw [if_pos (by omega), if_pos (by omega), if_pos (by omega), rd_B vs i hlt, impl_ValueOk_f (by omega) (by omega), Option.bind_some, nat_round (n := vs.length) hlt (by omega), ih k (i + 1) (by omega) (by omega), drop_at hlt, List.all_cons]
    cases valB vs[i] <;> rfl
theorem impl_ObjOk_f {k K : Nat} {p : ByteArray} {ns vs : List ByteArray} {m : Int} {l : List S84} {b : ByteArray} {t : Int} (hK : K ≤ 1048576) (hp : p.size ≤ K) (hn : SmallB K ns) (hv : SmallB K vs) (hl : SmallF K l) (hk : 9200000 < k) :
    impl_ObjOk.f k p ns vs m l b t = some (objB p ns vs m l b t) := by
  have := impl_ObjOk_l0 K hK p ns vs m l b t hp hn hv hl vs.length k 0 (by omega) (by have := hv.1; omega)
  rw [List.drop_zero] at this
  refine Eq.trans this (congrArg some ?_)
  unfold objB
  cases vs.all valB <;> cases pathB p <;> cases timeB t <;> cases decide (vs.length = ns.length) <;> cases namesB ns <;> cases respB m l b <;> cases decide (ns = varyF l) <;> rfl
theorem laws_szObj_f {k : Nat} {p : ByteArray} {ns vs : List ByteArray} {m : Int} {l : List S121} {b : ByteArray} {t n : Int} (hp : p.size ≤ maxLen) (hns : ns.length ≤ maxLen ∧ ∀ x ∈ ns, x.size ≤ maxLen) (hvs : vs.length ≤ maxLen ∧ ∀ x ∈ vs, x.size ≤ maxLen) (hl : l.length ≤ maxLen ∧ ∀ x ∈ l, x.f0.size ≤ maxLen ∧ x.f1.size ≤ maxLen) (hb : b.size ≤ maxLen) (h0 : 0 ≤ n) (h1 : n ≤ 1048576) (hk : 1048577 < k) :
    ∃ r, laws_szObj.f k p ns vs m l b t n = some r ∧ (r < 0 ∨ 0 ≤ r ∧ r ≤ 1048576 ∧ p.size ≤ 1048576 ∧ b.size ≤ 1048576 ∧ (ns.length ≤ 1048576 ∧ ∀ x ∈ ns, x.size ≤ 1048576) ∧ (vs.length ≤ 1048576 ∧ ∀ x ∈ vs, x.size ≤ 1048576) ∧ l.length ≤ 1048576 ∧ ∀ x ∈ l, x.f0.size ≤ 1048576 ∧ x.f1.size ≤ 1048576) := by
  unfold maxLen at hp
  unfold laws_szObj.f
  rw [w64 (n := n - p.size) (by omega)]
  split
  · exact ⟨_, rfl, .inl (by omega)⟩
  rename_i h
  rw [laws_szStringS_f hns (by omega) (by omega) hk, Option.bind_some]
  split
  · exact ⟨_, rfl, .inl (by omega)⟩
  rename_i h2
  obtain ⟨g0, g1, g2, g3⟩ := leftBS_nonneg h2 (by omega)
  rw [laws_szStringS_f hvs g0 g1 hk, Option.bind_some]
  split
  · exact ⟨_, rfl, .inl (by omega)⟩
  rename_i h3
  obtain ⟨q0, q1, q2, q3⟩ := leftBS_nonneg h3 g1
  obtain ⟨r, e, hr⟩ := laws_szResp_f (k := k) (m := m) hl hb q0 q1 hk
  rw [e, Option.bind_some]
  split
  · exact ⟨_, rfl, .inl (by omega)⟩
  rename_i h4
  rcases hr with hr | ⟨r1, r2, hb, k1, k2, _⟩
  · omega
  · exact ⟨_, rfl, .inr ⟨by omega, by omega, by omega, hb, ⟨g2, g3⟩, ⟨q2, q3⟩, k1, k2⟩⟩
theorem laws_toObj_f {k : Nat} {p : ByteArray} {ns vs : List ByteArray} {m : Int} {l : List S121} {b : ByteArray} {t : Int} (hn : ns.length ≤ 1048576) (hv : vs.length ≤ 1048576) (hl : l.length ≤ 1048576) (hk : 1048577 < k) : laws_toObj.f k p ns vs m l b t = some (p, ns, vs, m, l.map toF, b, t) := by
  unfold laws_toObj.f
  rw [laws_toStringS_f hn (by omega), Option.bind_some, laws_toStringS_f hv (by omega), Option.bind_some, laws_toResp_f hl (by omega), Option.bind_some]
theorem laws_eqObj_f {k : Nat} {p : ByteArray} {ns vs : List ByteArray} {m : Int} {l : List S84} {b : ByteArray} {t : Int} (hn : ns.length ≤ 1048577) (hv : vs.length ≤ 1048577) (hl : l.length ≤ 1048577) (hk : 1048579 < k) : laws_eqObj.f k p ns vs m l b t p ns vs m l b t = some true := by
  unfold laws_eqObj.f
  rw [if_pos rfl, laws_eqStringS_f (by omega) (by omega), Option.bind_some, if_pos rfl, laws_eqStringS_f (by omega) (by omega), Option.bind_some, if_pos rfl, laws_eqResp_f (by omega) (by omega), Option.bind_some, if_pos rfl, if_pos rfl]

end Go.Proofs.YtkgdcfaogdmcgaaDoor.Pure
