/- What the printed functions answer, in plain words: lemmas of this session. No condition of a statement lies here. -/
import Derived.Test.YtjlpjbkpmmpojaaGreatDoorKHitsAllx0
import Derived.Test.YtjlpjbkpmmpojaaGreatDoorKHitsAllx13
import Derived.Test.YtjlpjbkpmmpojaaGreatDoorKHitsQh6e319487
import Derived.Test.YtjlpjbkpmmpojaaGreatDoorKHitsQhd4f6af10
namespace Go.Proofs.YtjlpjbkpmmpojaaGreatDoor.Pure
open Go.RowKit Go.Proofs.YtjlpjbkpmmpojaaGreatDoor.All Go.Proofs.YtjlpjbkpmmpojaaGreatDoorW.PrintWords Go.Proofs.YtjlpjbkpmmpojaaGreatDoorW.PrintLast
set_option linter.unusedVariables false
set_option linter.unusedSimpArgs false

theorem spec_l8Texts_l0 (a b : List ByteArray) (hl : (a.length : Int) ≤ 4611686018427387904) : ∀ (d k i : Nat), a.length - i = d → i ≤ a.length → i ≤ b.length → d * 2 + 1 < k →
    spec_l8Texts.l0 k a b i = some (decide (a.drop i = b.drop i)) := by
  intro d
  induction d with
  | zero =>
    intro k i hd hi hi2 hk
    obtain ⟨k, rfl⟩ := succ_of (show 1 < k by omega)
    obtain ⟨k, rfl⟩ := succ_of (show 0 < k by omega)
    simp only [spec_l8Texts.l0, spec_l8Texts.j1]
    rw [if_neg (by omega), List.drop_eq_nil_of_le (show a.length ≤ i by omega)]
    simp only [Bool.false_eq_true, if_false]
    refine congrArg some ?_
    rw [Bool.eq_iff_iff]
    simp only [beq_iff_eq, decide_eq_true_eq, List.nil_eq, List.drop_eq_nil_iff]
    omega
  | succ d ih =>
    intro k i hd hi hi2 hk
    obtain ⟨k, rfl⟩ := succ_of (show 1 < k by omega)
    obtain ⟨k, rfl⟩ := succ_of (show 0 < k by omega)
    have hlt : i < a.length := by omega
    simp only [spec_l8Texts.l0, spec_l8Texts.j1]
    rw [if_pos (by omega)]
    by_cases h2 : i < b.length
    · rw [if_pos (by simp; omega), if_pos (by omega), if_pos (by omega), if_pos (by omega), rd_B a i hlt, rd_B b i h2, nat_round (n := a.length) hlt (by omega), ih k (i + 1) (by omega) (by omega) (by omega) (by omega)]
      by_cases h : a[i] = b[i]
      · rw [if_pos (by rw [h])]
        exact congrArg some (decide_eq_decide.2 (by rw [drop_eq hlt h2]; exact ⟨fun e => ⟨h, e⟩, fun e => e.2⟩))
      · rw [if_neg (fun e => h (toList_inj e))]
        exact congrArg some (decide_eq_false fun e => h ((drop_eq hlt h2).1 e).1).symm
    · rw [if_neg (by simp; omega), List.drop_eq_nil_of_le (show b.length ≤ i by omega)]
      refine congrArg some ?_
      rw [Bool.eq_iff_iff]
      simp only [beq_iff_eq, decide_eq_true_eq, List.drop_eq_nil_iff]
      omega
theorem spec_l8Texts_f {k : Nat} {a b : List ByteArray} (hl : (a.length : Int) ≤ 4611686018427387904) (hk : a.length * 2 + 1 < k) : spec_l8Texts.f k a b = some (decide (a = b)) := by
  have := spec_l8Texts_l0 a b hl a.length k 0 (by omega) (by omega) (by omega) hk
  simpa [spec_l8Texts.f] using this
theorem slices_Equal_string_string_l0 (a b : List ByteArray) (hl : a.length = b.length) (hn : a.length ≤ 4611686018427387904) : ∀ (d k i : Nat), a.length = i + d → d < k →
    slices_Equal_string_string.l0 k a b (a.length : Int) i = some (decide (a.drop i = b.drop i)) := by
  intro d
  induction d with
  | zero =>
    intro k i hd hk
    obtain ⟨k, rfl⟩ := succ_of hk
    simp only [slices_Equal_string_string.l0]
    rw [if_neg (by omega), List.drop_eq_nil_of_le (by omega), List.drop_eq_nil_of_le (by omega)]; simp
  | succ d ih =>
    intro k i hd hk
    obtain ⟨k, rfl⟩ := succ_of hk
    have h1 : i < a.length := by omega
    have h2 : i < b.length := by omega
    simp only [slices_Equal_string_string.l0]
    rw [if_pos (by omega), if_pos (by omega), if_pos (by omega), if_pos (by omega), rd_B a i h1, rd_B b i h2, nat_round (n := a.length) h1 (by omega), ih k (i + 1) (by omega) (by omega)]
    by_cases h : a[i] = b[i]
    · rw [if_pos (by rw [h])]
      exact congrArg some (decide_eq_decide.2 (by rw [drop_eq h1 h2]; exact ⟨fun e => ⟨h, e⟩, fun e => e.2⟩))
    · rw [if_neg (fun e => h (toList_inj e))]
      exact congrArg some (decide_eq_false fun e => h ((drop_eq h1 h2).1 e).1).symm
theorem slices_Equal_string_string_f {k : Nat} {a b : List ByteArray} (hn : a.length ≤ 4611686018427387904) (hk : a.length < k) : slices_Equal_string_string.f k a b = some (decide (a = b)) := by
  unfold slices_Equal_string_string.f
  by_cases h : a.length = b.length
  · rw [if_pos (by omega), show (0 : Int) = ((0 : Nat) : Int) from rfl, slices_Equal_string_string_l0 a b h hn a.length k 0 (by omega) hk]; rfl
  · rw [if_neg (by omega), decide_eq_false (fun e => h (by rw [e]))]
/-! ### ObjOk -/
def timeB (t : Int) : Bool := decide (0 ≤ t ∧ t ≤ 1000000)
def objB (p : ByteArray) (ns vs : List ByteArray) (m : Int) (l : List S116) (b : ByteArray) (t : Int) : Bool :=
  respB m l b && (pathB p && (timeB t && (namesB ns && (decide (ns = varyF l) && (decide (vs.length = ns.length) && vs.all valB)))))
theorem spec_ObjOk_j0t {k : Nat} (p : ByteArray) (ns vs : List ByteArray) (m : Int) (l : List S116) (b : ByteArray) (t : Int) (hk : 0 < k) : spec_ObjOk.j0 k true p ns vs m l b t = some false := by
  obtain ⟨k, rfl⟩ := succ_of hk
  simp only [spec_ObjOk.j0, if_true]
theorem impl_ObjOk_j1t {k : Nat} (p : ByteArray) (ns vs : List ByteArray) (m : Int) (l : List S116) (b : ByteArray) (t : Int) (hk : 0 < k) : impl_ObjOk.j1 k true p ns vs m l b t = some false := by
  obtain ⟨k, rfl⟩ := succ_of hk
  simp only [impl_ObjOk.j1, if_true]
theorem spec_ObjOk_l0 (K : Nat) (hK : K ≤ 1048576) (p : ByteArray) (ns vs : List ByteArray) (m : Int) (l : List S116) (b : ByteArray) (t : Int) (hv : SmallB K vs) : ∀ (d k i : Nat), vs.length = i + d → d + 3 * K + 10 < k →
    spec_ObjOk.l0 k i p ns vs m l b t = some ((vs.drop i).all valB) := by
  obtain ⟨hn, hx⟩ := hv
  intro d
  induction d with
  | zero =>
    intro k i hd hk
    obtain ⟨k, rfl⟩ := succ_of (show 0 < k by omega)
    simp only [spec_ObjOk.l0]
    rw [if_neg (by omega), List.drop_eq_nil_of_le (by omega)]; rfl
  | succ d ih =>
    intro k i hd hk
    obtain ⟨k, rfl⟩ := succ_of (show 0 < k by omega)
    have hlt : i < vs.length := by omega
    have hs := hx _ (List.getElem_mem hlt)
    simp only [spec_ObjOk.l0]
    rw [if_pos (by omega), if_pos (by omega), rd_B vs i hlt, spec_ValueOk_f (by omega) (by omega), Option.bind_some, nat_round (n := vs.length) hlt (by omega), ih k (i + 1) (by omega) (by omega), drop_at hlt, List.all_cons]
    cases valB vs[i] <;> rfl
theorem spec_ObjOk_f {k K : Nat} {p : ByteArray} {ns vs : List ByteArray} {m : Int} {l : List S116} {b : ByteArray} {t : Int} (hK : K ≤ 1048576) (hp : p.size ≤ K) (hn : SmallB K ns) (hv : SmallB K vs) (hl : SmallF K l) (hk : 9000000 < k) :
    spec_ObjOk.f k p ns vs m l b t = some (objB p ns vs m l b t) := by
  have hn1 := hn.1
  have hv1 := hv.1
  unfold spec_ObjOk.f objB timeB
  rw [spec_RespOk_f (K := K) (by omega) hl (by omega), Option.bind_some]
  cases respB m l b
  · rw [if_neg (by simp), spec_ObjOk_j0t _ _ _ _ _ _ _ (by omega)]; rfl
  rw [if_pos rfl, spec_l3Path_f (by omega) (by omega), Option.bind_some]
  cases pathB p
  · rw [if_neg (by simp), spec_ObjOk_j0t _ _ _ _ _ _ _ (by omega)]; rfl
  rw [if_pos rfl, spec_l1In_f, Option.bind_some]
  cases decide (0 ≤ t ∧ t ≤ 1000000)
  · rw [if_neg (by simp), spec_ObjOk_j0t _ _ _ _ _ _ _ (by omega)]; rfl
  rw [if_pos rfl, spec_l9Names_f (Nat.le_trans hK (by decide)) hn (by omega), Option.bind_some]
  cases namesB ns
  · rw [if_neg (by simp), spec_ObjOk_j0t _ _ _ _ _ _ _ (by omega)]; rfl
  rw [if_pos rfl, spec_VaryOf_f hK hl (by omega), Option.bind_some, spec_l8Texts_f (by omega) (by omega), Option.bind_some]
  cases decide (ns = varyF l)
  · rw [if_neg (by simp), spec_ObjOk_j0t _ _ _ _ _ _ _ (by omega)]; rfl
  rw [if_pos rfl]
  by_cases h : vs.length = ns.length
  · have e : ((vs.length : Int) != (ns.length : Int)) = false := by simp [h]
    obtain ⟨k, rfl⟩ := succ_of (show 0 < k by omega)
    simp only [spec_ObjOk.j0]
    rw [e, if_neg (by simp), show (0 : Int) = ((0 : Nat) : Int) from rfl, spec_ObjOk_l0 K hK p ns vs m l b t hv vs.length k 0 (by omega) (by omega), decide_eq_true h]; rfl
  · have e : ((vs.length : Int) != (ns.length : Int)) = true := by simp; omega
    rw [e, spec_ObjOk_j0t _ _ _ _ _ _ _ (by omega), decide_eq_false h]; rfl
theorem impl_ObjOk_l0 (K : Nat) (hK : K ≤ 1048576) (p : ByteArray) (ns vs : List ByteArray) (m : Int) (l : List S116) (b : ByteArray) (t : Int) (hp : p.size ≤ K) (hns : SmallB K ns) (hv : SmallB K vs) (hl : SmallF K l) : ∀ (d k i : Nat), vs.length = i + d → d + 8000000 < k →
    impl_ObjOk.l0 k vs (vs.length : Int) i p ns vs m l b t = some ((vs.drop i).all valB && (pathB p && (timeB t && (decide (vs.length = ns.length) && (namesB ns && (respB m l b && decide (ns = varyF l))))))) := by
  have hn1 := hns.1
  obtain ⟨hn, hx⟩ := hv
  intro d
  induction d with
  | zero =>
    intro k i hd hk
    obtain ⟨k, rfl⟩ := succ_of (show 0 < k by omega)
    simp only [impl_ObjOk.l0]
    rw [if_neg (by omega), List.drop_eq_nil_of_le (by omega), List.all_nil, Bool.true_and, impl_pathOk_f (by omega) (by omega), Option.bind_some]
    cases pathB p
    · rw [if_neg (by simp), impl_ObjOk_j1t _ _ _ _ _ _ _ (by omega)]; rfl
    rw [if_pos rfl]
    unfold impl_isTime.f timeB
    rw [impl_inRange_f, Option.bind_some, Option.bind_some]
    cases decide (0 ≤ t ∧ t ≤ 1000000)
    · rw [if_neg (by simp), impl_ObjOk_j1t _ _ _ _ _ _ _ (by omega)]; rfl
    rw [if_pos rfl]
    by_cases h : vs.length = ns.length
    · rw [if_pos (by omega), impl_namesOk_f (Nat.le_trans hK (by decide)) hns (by omega), Option.bind_some, decide_eq_true h]
      cases namesB ns
      · rw [if_neg (by simp), impl_ObjOk_j1t _ _ _ _ _ _ _ (by omega)]; rfl
      rw [if_pos rfl, impl_RespOk_f (K := K) (by omega) hl (by omega), Option.bind_some]
      cases respB m l b
      · rw [show (!false) = true from rfl, impl_ObjOk_j1t _ _ _ _ _ _ _ (by omega)]; rfl
      obtain ⟨k, rfl⟩ := succ_of (show 0 < k by omega)
      simp only [impl_ObjOk.j1]
      rw [if_neg (by simp), impl_VaryOf_f hK hl (by omega), Option.bind_some, slices_Equal_string_string_f (by omega) (by omega), Option.bind_some]; rfl
    · rw [if_neg (by omega), impl_ObjOk_j1t _ _ _ _ _ _ _ (by omega), decide_eq_false h]; rfl
  | succ d ih =>
    intro k i hd hk
    obtain ⟨k, rfl⟩ := succ_of (show 0 < k by omega)
    have hlt : i < vs.length := by omega
    have hs := hx _ (List.getElem_mem hlt)
    simp only [impl_ObjOk.l0]
    rw [if_pos (by omega), if_pos (by omega), if_pos (by omega), rd_B vs i hlt, impl_ValueOk_f (by omega) (by omega), Option.bind_some, nat_round (n := vs.length) hlt (by omega), ih k (i + 1) (by omega) (by omega), drop_at hlt, List.all_cons]
    cases valB vs[i] <;> rfl
theorem impl_ObjOk_f {k K : Nat} {p : ByteArray} {ns vs : List ByteArray} {m : Int} {l : List S116} {b : ByteArray} {t : Int} (hK : K ≤ 1048576) (hp : p.size ≤ K) (hn : SmallB K ns) (hv : SmallB K vs) (hl : SmallF K l) (hk : 9200000 < k) :
    impl_ObjOk.f k p ns vs m l b t = some (objB p ns vs m l b t) := by
  have := impl_ObjOk_l0 K hK p ns vs m l b t hp hn hv hl vs.length k 0 (by omega) (by have := hv.1; omega)
  rw [List.drop_zero] at this
  refine Eq.trans this (congrArg some ?_)
  unfold objB
  cases vs.all valB <;> cases pathB p <;> cases timeB t <;> cases decide (vs.length = ns.length) <;> cases namesB ns <;> cases respB m l b <;> cases decide (ns = varyF l) <;> rfl
def rejO : ByteArray × List ByteArray × List ByteArray × Int × List S116 × ByteArray × Int × Bool := (⟨#[]⟩, [], [], 0, [], ⟨#[]⟩, 0, false)
theorem objB_facts {p : ByteArray} {ns vs : List ByteArray} {m : Int} {l : List S116} {b : ByteArray} {t : Int} (h : objB p ns vs m l b t = true) : respB m l b = true ∧ pathB p = true ∧ (0 ≤ t ∧ t ≤ 1000000) ∧ ns.length ≤ 4 ∧ ns = varyF l ∧ vs.length = ns.length ∧ (∀ x ∈ ns, tokB x = true) ∧ ∀ v ∈ vs, valB v = true := by
  unfold objB timeB namesB at h
  simp only [Bool.and_eq_true, List.all_eq_true, decide_eq_true_eq] at h
  obtain ⟨h1, h2, h3, ⟨h4, h5⟩, h6, h7, h8⟩ := h
  exact ⟨h1, h2, h3, h5, h6, h7, h4, h8⟩

end Go.Proofs.YtjlpjbkpmmpojaaGreatDoor.Pure
